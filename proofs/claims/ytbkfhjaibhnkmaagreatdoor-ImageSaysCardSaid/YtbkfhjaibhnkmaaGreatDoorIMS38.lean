import Derived.Test.YtbkfhjaibhnkmaaGreatDoorIMS36
import Derived.Test.YtbkfhjaibhnkmaaGreatDoorIMS17
import Derived.Test.YtbkfhjaibhnkmaaGreatDoorIMS37
namespace Go.Proofs.YtbkfhjaibhnkmaaGreatDoor
open Go Go.RowKit
set_option linter.unusedVariables false
set_option linter.unusedSimpArgs false
set_option maxRecDepth 100000
theorem wv {b:Bool}(h:(!b)=true):b=false:=by cases b <;> simp_all
theorem wA {b:Bool}(h:(!b)=false):b=true:=by cases b <;> simp_all
theorem FZ {α β:Type}{f:α→β}{L:List α}{k:Nat}{x:α}(hx:L[k]? = some x)(hm:f x∈(L.take k).map f):¬ (L.map f).Nodup:=fun hn=>by
 have hk:=(List.getElem?_eq_some_iff.1 hx).1
 rw [← List.take_append_drop k L,List.map_append] at hn
 have h2:f x∈(L.drop k).map f:=List.mem_map.2 ⟨x,List.mem_of_getElem? (i:=0) (by rw [List.getElem?_drop,Nat.add_zero];exact hx),rfl⟩
 exact (List.nodup_append.1 hn).2.2 _ hm _ h2 rfl
theorem xO {l:List Int}{x:Int}(h:l.Nodup)(hx:¬ x∈l):(l++[x]).Nodup:=by
 rw [List.nodup_append]
 exact ⟨h,(List.nodup_cons.2 ⟨(by simp),List.nodup_nil⟩),fun a ha b hb e=>hx (by rw [List.mem_singleton.1 hb] at e;rw [← e];exact ha)⟩
section
variable {r:ar} {k:Nat} {x:Held} {seen ts:List Int}
theorem D4 (hx:r.Held[k]? = some x)(h:cB r.ai x.ak<0):ef r=false:=e6 fun hw=>by
 have:=hw.eo x (List.mem_of_getElem? hx);omega
theorem F3 (hx:r.Held[k]? = some x)(hs:seen=(r.Held.take k).map Held.ak)(h:x.ak∈seen):ef r=false:=e6 fun hw=>FZ hx (hs▸h) hw.once
theorem zT (ht:ts=(r.Things.take k).map ao.ID)(hk:r.Things.length≤k)(h:¬ ts=aX r.ai):ef r=false:=e6 fun hw=>h (by rw [ht,List.take_of_length_le hk];exact hw.things)
theorem H8 {x:ak}(hx:r.ai[r.ai.length-1]? = some x)(h:¬ x.ID<r.ae):ef r=false:=e6 fun hw=>h (hw.BV x (by rw [List.getLast?_eq_getElem?];exact hx))
theorem wB {α β:Type}{f:α→β}{L:List α}{y:β}(h:(L.map f)[(L.map f).length-1]? = some y):∃x,L.getLast? = some x∧f x=y:=by
 rw [List.getElem?_map,List.length_map,← List.getLast?_eq_getElem?] at h
 obtain ⟨x,h1,h2⟩:=Option.map_eq_some_iff.1 h
 exact ⟨x,h1,h2⟩
theorem EV {y:Int}(ht:ts=(r.Things.take k).map ao.ID)(hk:r.Things.length≤k)(hy:ts[ts.length-1]? = some y)(h:¬ y<r.af):ef r=false:=e6 fun hw=>by
 subst ht;rw [List.take_of_length_le hk] at hy
 obtain ⟨x,h1,h2⟩:=wB hy
 exact h (h2▸hw.BW x h1)
theorem uH (a1:ej r.ai=0)(a2:r.Things.length≤10)(a3:1≤r.ae∧r.ae≤1000)(a5:1≤r.af∧r.af≤1000)(a7:r.Held.length=r.ai.length){i:Nat}(hs:seen=(r.Held.take i).map Held.ak)(hi:r.Held.length≤i)
 (hf:∀h∈r.Held.take i,0≤cB r.ai h.ak) (hn:seen.Nodup) (ht:ts=(r.Things.take k).map ao.ID) (hk:r.Things.length≤k) (he:ts=aX r.ai) (hw:r.ai.length=0 ∨ ∃x,r.ai[r.ai.length-1]? = some x∧x.ID<r.ae) (hl:ts.length=0 ∨ ∃y,ts[ts.length-1]? = some y∧y<r.af):ef r=true:=by
 rw [List.take_of_length_le hi] at hs hf
 rw [List.take_of_length_le hk] at ht
 refine nV ⟨a1,a2,a3.1,a3.2,a5.1,a5.2,a7,hf,hs▸hn,ht.symm.trans he,fun w hq=>?_,fun t hq=>?_⟩
 ·
  rcases hw with hw|⟨x,h1,h2⟩
  ·rw [List.eq_nil_of_length_eq_zero hw] at hq;cases hq
  ·rw [List.getLast?_eq_getElem?,h1] at hq;injection hq with hq;rw [← hq];exact h2
 ·
  rcases hl with hl|⟨y,h1,h2⟩
  ·rw [ht,List.length_map] at hl;rw [List.eq_nil_of_length_eq_zero hl] at hq;cases hq
  ·
   subst ht
   obtain ⟨x,h3,h4⟩:=wB h1
   rw [h3] at hq;injection hq with hq;rw [← hq,h4];exact h2
end
set_option maxRecDepth 100000 in
set_option maxHeartbeats 1600000 in
theorem zU (aD az aB aC:Value)(r:ar)(w:World)(own:List Nat)(H:Wd w (blks []++own) ([]++[ag.held w own]) [ag.ls aD (r.ai:List ak),ag.ls az (r.Things:List ao),ag.ls aB (r.Held:List Held),ag.ls aC (r.Notes:List Note)] w)(hr:r.ai.length≤1000∧r.Things.length≤1000∧r.Held.length≤1000):Calls Tryz.prog 51 #[.agg #[aD,az,aB,aC,iV r.ae,iV r.af]] w fun e w' => ∃z:Unit,e = .returned (.bool ((ef r)))∧Wd w (blks []++own) ([]++[ag.held w own]) [] w':=by
 have cS:=H.ct 0 rfl
 have cy:=H.ct 1 rfl
 have dq:=H.ct 2 rfl
 have cT:=H.ct 3 rfl
 refine R.da (n:=126) (vs:=[.agg #[aD,az,aB,aC,iV r.ae,iV r.af]]) (B:=[ag.held w own]) [(0,.agg #[aD,az,aB,aC,iV r.ae,iV r.af])] Tryz.func51 O O O O H ?_
 refine R.reg O<|R.s O (s.box (cs:=[aD,az,aB,aC,iV r.ae,iV r.af]) O O O) fun b1=>R.u 1 O<|R.nil ?_
 refine R.reg O<|R.q (q.aT (off':=0) O bf O) O<|R.q (q.ld 0 O O bE O) O<|R.c (q.call GZ O O (fun w hw=>(su _ (r.ai) w (hw.bq 0 O) ))) O<|?_
 by_cases h1:ej r.ai=0
 ·
  refine R.q (q.gj O O Tryz.underlying35 (by omega)) O<|R.u 1 O<|R.qg O (q.aT (off':=1) O bM O) O<|R.qg O (q.ld 0 O O cq O) O<|R.qg O (q.len' (bJ 1 O) O Tryz.underlying28) O<|?_
  by_cases h2:10<r.Things.length
  ·
   refine R.qg O (q.gtr O O (decide_eq_true (by omega))) O<|R.u 30 O<|R.nil ?_
   refine R.aE O O ?_
   refine R.reg O<|R.u 1 O<|R.nil ?_
   have hz:ef r=false:=by (exact e6 (fun hw=>by have a1:ej r.ai=0:=hw.tree;have a2:=hw.gh;have a3:=hw.ki;have a4:=hw.lC;have a5:=hw.kv;have a6:=hw.ky;have a7:=hw.hlen;omega))
   rw [hz]
   exact R.w1 () [1] [] O Tryz.results51 (RV.tmp O) O O O O
  ·
   refine R.qg O (q.gtr O O (decide_eq_false (by omega))) O<|R.u 2 O<|R.qg O (q.aT (off':=4) O bW O) O<|R.qg O (q.ld 0 O O aA O) O<|?_
   by_cases h3:r.ae<1
   ·
    refine R.qg O (q.lss O O (decide_eq_true (by omega))) O<|R.u 25 O<|R.nil ?_
    refine R.aE O O ?_
    refine R.reg O<|R.u 1 O<|R.nil ?_
    have hz:ef r=false:=by (exact e6 (fun hw=>by have a1:ej r.ai=0:=hw.tree;have a2:=hw.gh;have a3:=hw.ki;have a4:=hw.lC;have a5:=hw.kv;have a6:=hw.ky;have a7:=hw.hlen;omega))
    rw [hz]
    exact R.w1 () [1] [] O Tryz.results51 (RV.tmp O) O O O O
   ·
    refine R.qg O (q.lss O O (decide_eq_false (by omega))) O<|R.u 2 O<|R.qg O (q.aT (off':=4) O bW O) O<|R.qg O (q.ld 0 O O aA O) O<|?_
    by_cases h4:1000<r.ae
    ·
     refine R.qg O (q.gtr O O (decide_eq_true (by omega))) O<|R.u 20 O<|R.nil ?_
     refine R.aE O O ?_
     refine R.reg O<|R.u 1 O<|R.nil ?_
     have hz:ef r=false:=by (exact e6 (fun hw=>by have a1:ej r.ai=0:=hw.tree;have a2:=hw.gh;have a3:=hw.ki;have a4:=hw.lC;have a5:=hw.kv;have a6:=hw.ky;have a7:=hw.hlen;omega))
     rw [hz]
     exact R.w1 () [1] [] O Tryz.results51 (RV.tmp O) O O O O
    ·
     refine R.qg O (q.gtr O O (decide_eq_false (by omega))) O<|R.u 2 O<|R.qg O (q.aT (off':=5) O cI O) O<|R.qg O (q.ld 0 O O aA O) O<|?_
     by_cases h5:r.af<1
     ·
      refine R.qg O (q.lss O O (decide_eq_true (by omega))) O<|R.u 15 O<|R.nil ?_
      refine R.aE O O ?_
      refine R.reg O<|R.u 1 O<|R.nil ?_
      have hz:ef r=false:=by (exact e6 (fun hw=>by have a1:ej r.ai=0:=hw.tree;have a2:=hw.gh;have a3:=hw.ki;have a4:=hw.lC;have a5:=hw.kv;have a6:=hw.ky;have a7:=hw.hlen;omega))
      rw [hz]
      exact R.w1 () [1] [] O Tryz.results51 (RV.tmp O) O O O O
     ·
      refine R.qg O (q.lss O O (decide_eq_false (by omega))) O<|R.u 2 O<|R.qg O (q.aT (off':=5) O cI O) O<|R.qg O (q.ld 0 O O aA O) O<|?_
      by_cases h6:1000<r.af
      ·
       refine R.qg O (q.gtr O O (decide_eq_true (by omega))) O<|R.u 10 O<|R.nil ?_
       refine R.aE O O ?_
       refine R.reg O<|R.u 1 O<|R.nil ?_
       have hz:ef r=false:=by (exact e6 (fun hw=>by have a1:ej r.ai=0:=hw.tree;have a2:=hw.gh;have a3:=hw.ki;have a4:=hw.lC;have a5:=hw.kv;have a6:=hw.ky;have a7:=hw.hlen;omega))
       rw [hz]
       exact R.w1 () [1] [] O Tryz.results51 (RV.tmp O) O O O O
      ·
       refine R.qg O (q.gtr O O (decide_eq_false (by omega))) O<|R.u 2 O<|R.qg O (q.aT (off':=2) O bB O) O<|R.qg O (q.ld 0 O O bZ O) O<|R.qg O (q.len' (bJ 2 O) O Tryz.underlying29) O<|R.qg O (q.aT (off':=0) O bf O) O<|R.qg O (q.ld 0 O O bE O) O<|R.qg O (q.len' (bJ 0 O) O Tryz.underlying27) O<|?_
       by_cases h7:r.Held.length=r.ai.length
       ·
        refine R.qg O (q.neq O O (bne_eq_false_iff_eq.2 (by omega))) O<|R.u 1 O<|R.nil ?_
        refine R.aF O O ?_
        refine R.reg O<|R.u 1 O<|R.nil ?_
        refine R.reg O<|R.q (q.aT (off':=2) O bB O) O<|R.q (q.ld 0 O O bZ O) O<|R.q (q.len' (bJ 2 O) O Tryz.underlying29) O<|R.u 1 O<|R.nil ?_
        refine R.row0 (α:=Int) 3 ?_
        refine R.loop (fun g_:Nat×Value×(List Int)=>[(1,.pointer (some ⟨b1,0,none⟩)),(3,g_.2.1),(49,aB),(50,iV (r.Held.length:Int)),(51,iV (g_.1:Int))]) (fun g_=>[ag.row 3 g_.2.1 g_.2.2,ag.box b1 [aD,az,aB,aC,iV r.ae,iV r.af] 32,ag.held w own]) (fun g_=>[ag.ls aD r.ai,ag.ls az r.Things,ag.ls aB r.Held,ag.ls aC r.Notes]) (fun g_=>g_.1≤r.Held.length∧g_.2.2=(r.Held.take g_.1).map Held.ak∧(∀h∈r.Held.take g_.1,0≤cB r.ai h.ak)∧g_.2.2.Nodup) (fun g_=>r.Held.length-g_.1) (0,(nS),[]) O (by exact ⟨by omega,rfl,(by intro h hh;simp at hh),List.nodup_nil⟩) ⟨rfl,rfl,rfl,rfl,rfl,trivial⟩ (fun _=>Wd.pick [0,1,2] bm O O O) ?_
        rintro ⟨k,u,seen⟩ ⟨hk,HS,HF,HN⟩
        dsimp only at *
        have ll:seen.length≤1000:=by rw [HS,List.length_map,List.length_take];omega
        refine R.reg O<|?_
        by_cases h8:k<r.Held.length
        ·
         refine R.q (q.lss O O (decide_eq_true (by omega))) O<|R.nil ?_
         refine R.aE O O ?_
         refine R.reg O<|?_
         obtain ⟨x1,hx1⟩:∃z,r.Held[k]? = some z:=⟨_,List.getElem?_eq_getElem (by omega)⟩
         refine R.q (q.idx (i:=k) (bJ 2 O) O O bK O hx1) O<|R.q (q.cY (ds:=dJ x1) (bJ 2 O) hx1 O dB O) O<|R.s O (s.alloc (cs:=CZ) dk O O) fun b2=>R.s O (s.st (us:=dJ x1) (cs':=dJ x1) 0 _ O O O O (.inl dB) O O O O) fun _=>R.nil ?_
         refine R.reg O<|R.q (q.aT (off':=0) O bf O) O<|R.q (q.ld 2 O O bE O) O<|R.q (q.aT (off':=2) O fL O) O<|R.q (q.ld 0 O O aA O) O<|?_
         rcases dR r.ai x1.ak with ⟨eU,ug⟩ | ⟨lW,hZ,eU,oT,EK⟩
         ·
          refine R.c (q.call lT O O (fun w hw=>(cv (congrArg (Value.int .i64) eU) (f4 _ (r.ai) (x1.ak) w (hw.bq 0 O) )))) O<|R.q (q.lss (b:=true) O O (by decide)) O<|R.u 6 O<|R.nil ?_
          refine R.aE O O ?_
          refine R.reg O<|R.u 1 O<|R.nil ?_
          have hz:ef r=false:=by (exact D4 hx1 (by omega))
          rw [hz]
          exact R.w1 () [3] [] O Tryz.results51 (RV.tmp O) O O O O
         ·
          refine R.c (q.call lT O O (fun w hw=>(cv (congrArg (Value.int .i64) eU) (f4 _ (r.ai) (x1.ak) w (hw.bq 0 O) )))) O<|R.q (q.lss O O (decide_eq_false (by omega))) O<|R.u 2 O<|R.qg O (q.aT (off':=2) O fL O) O<|R.qg O (q.ld 0 O O aA O) O<|?_
          rcases Bool.eq_false_or_eq_true (decide (x1.ak∈seen)) with h9|h9
          ·
           refine R.cg O (q.call pQ O O (fun w hw=>(cv (congrArg Value.bool h9) (e5 _ (seen) (x1.ak) w (hw.row 1 O) )))) O<|R.u 1 O<|R.nil ?_
           refine R.aE O O ?_
           refine R.reg O<|R.u 1 O<|R.nil ?_
           have hz:ef r=false:=by (exact F3 hx1 HS (of_decide_eq_true ‹_›))
           rw [hz]
           exact R.w1 () [3] [] O Tryz.results51 (RV.tmp O) O O O O
          ·
           refine R.cg O (q.call pQ O O (fun w hw=>(cv (congrArg Value.bool h9) (e5 _ (seen) (x1.ak) w (hw.row 1 O) )))) O<|R.u 1 O<|R.nil ?_
           refine R.aF O O ?_
           refine R.reg O<|R.u 1 O<|R.q (q.aT (off':=2) O fL O) O<|R.q (q.ld 0 O O aA O) O<|R.s O (s.bs (l:=([x1.ak]:List Int)) dK iO O O O O O O O) fun b3=>R.s O (s.app (l2:=[x1.ak]) 2 _ O O O (cJ 0 O) jq (by (simp;omega)) (by (simp;omega)) (fun _=>rfl) O) fun v1=>R.u 1 O<|R.nil ?_
           refine R.reg O<|R.q (q.add (r:=((k+1:Nat):Int)) O O (wr (by omega))) O<|R.u 1 O<|R.nil ?_
           refine R.back (k+1,v1,(seen++([x1.ak]))) O (by (exact ⟨by omega,by rw [ji Held.ak hx1,← HS],(by rw [List.take_add_one,hx1];intro h hh;rcases List.mem_append.1 hh with hh|hh;exact HF h hh;rw [List.mem_singleton.1 hh];omega),xO HN (of_decide_eq_false ‹_›)⟩)) (by dsimp only;omega) ⟨rfl,rfl,rfl,rfl,rfl,trivial⟩ (aK [2,3,4] bm O O O)
        ·
         refine R.q (q.lss O O (decide_eq_false (by omega))) O<|R.nil ?_
         refine R.aF O O ?_
         refine R.reg O<|R.u 1 O<|R.nil ?_
         refine R.reg O<|R.q (q.aT (off':=1) O bM O) O<|R.q (q.ld 1 O O cq O) O<|R.q (q.len' (bJ 1 O) O Tryz.underlying28) O<|R.u 1 O<|R.nil ?_
         refine R.row0 (α:=Int) 3 ?_
         refine R.loop (fun g_:Nat×Value×(List Int)=>[(1,.pointer (some ⟨b1,0,none⟩)),(6,g_.2.1),(74,az),(75,iV (r.Things.length:Int)),(76,iV (g_.1:Int))]) (fun g_=>[ag.row 3 g_.2.1 g_.2.2,ag.row 3 u seen,ag.box b1 [aD,az,aB,aC,iV r.ae,iV r.af] 32,ag.held w own]) (fun g_=>[ag.ls aD r.ai,ag.ls az r.Things,ag.ls aB r.Held,ag.ls aC r.Notes]) (fun g_=>g_.1≤r.Things.length∧g_.2.2=(r.Things.take g_.1).map ao.ID) (fun g_=>r.Things.length-g_.1) (0,(nS),[]) O (by exact ⟨by omega,rfl⟩) ⟨rfl,rfl,rfl,rfl,rfl,trivial⟩ (fun _=>Wd.pick bm bm O O O) ?_
         rintro ⟨j,u2,ts⟩ ⟨hj,HT⟩
         dsimp only at *
         have I8:ts.length≤1000:=by rw [HT,List.length_map,List.length_take];omega
         refine R.reg O<|?_
         by_cases h10:j<r.Things.length
         ·
          refine R.q (q.lss O O (decide_eq_true (by omega))) O<|R.nil ?_
          refine R.aE O O ?_
          refine R.reg O<|?_
          obtain ⟨x2,hx2⟩:∃z,r.Things[j]? = some z:=⟨_,List.getElem?_eq_getElem (by omega)⟩
          refine R.q (q.idx (i:=j) (bJ 1 O) O O ew O hx2) O<|R.q (q.cY (ds:=eE x2) (bJ 1 O) hx2 O fu O) O<|R.s O (s.alloc (cs:=[iV 0,iV 0,.string (⟨#[]⟩)]) fw O O) fun b4=>R.s O (s.st (us:=eE x2) (cs':=eE x2) 0 _ O O O O (.inl fu) O O O O) fun _=>R.nil ?_
          refine R.reg O<|R.u 1 O<|R.q (q.aT (off':=0) O g9 O) O<|R.q (q.ld 0 O O aA O) O<|R.s O (s.bs (l:=([x2.ID]:List Int)) dK iO O O O O O O O) fun b5=>R.s O (s.app (l2:=[x2.ID]) 2 _ O O O (cJ 0 O) jq (by (simp;omega)) (by (simp;omega)) (fun _=>rfl) O) fun v2=>R.u 1 O<|R.nil ?_
          refine R.reg O<|R.q (q.add (r:=((j+1:Nat):Int)) O O (wr (by omega))) O<|R.u 1 O<|R.nil ?_
          refine R.back (j+1,v2,(ts++([x2.ID]))) O (by (exact ⟨by omega,by rw [ji ao.ID hx2,← HT]⟩)) (by dsimp only;omega) ⟨rfl,rfl,rfl,rfl,rfl,trivial⟩ (aK [2,3,4,5] bm O O O)
         ·
          refine R.q (q.lss O O (decide_eq_false (by omega))) O<|R.nil ?_
          refine R.aF O O ?_
          refine R.reg O<|R.u 1 O<|R.q (q.aT (off':=0) O bf O) O<|R.q (q.ld 2 O O bE O) O<|R.s O (s.lR EA O O (fun w hw=>p5 _ (r.ai) w (hw.bq 0 O) (by omega)) O) fun v3=>?_
          rcases Bool.eq_false_or_eq_true (decide (ts=(aX r.ai))) with h11|h11
          ·
           refine R.c (q.call AL O O (fun w hw=>(cv (congrArg Value.bool h11) (sf _ (ts) _ ((aX r.ai)) w (hw.row 1 O) (hw.row 0 O) )))) O<|R.u 1 O<|R.nil ?_
           refine R.aF O O ?_
           by_cases h12:r.ai.length=0
           ·
            by_cases Dk:ts.length=0
            ·
             refine R.dP O mixed (by kernel_rfl)<|Q.q (q.aT (off':=0) O bf O) O<|Q.q (q.ld 3 O O bE O) O<|Q.q (q.len' (bJ 0 O) O Tryz.underlying27) O<|Q.q (q.eql O O (beq_iff_eq.2 (by omega))) O<|Q.u 16 O<|Q.qg O (q.len' (cJ 1 O) O Tryz.underlying60) O<|Q.qg O (q.eql O O (beq_iff_eq.2 (by omega))) O<|Q.u 13 O<|Q.nil ?_
             have hz:ef r=true:=by (exact uH (by omega) (by omega) (by omega) (by omega) (by omega) HS (by omega) HF HN HT (by omega) (of_decide_eq_true ‹_›) (.inl (by omega)) (.inl (by omega)))
             rw [hz]
             exact R.w1 () [4] [] O Tryz.results51 (RV.tmp O) O O O O
            ·
             obtain ⟨x3,hx3⟩:∃z,ts[(ts.length-1)]? = some z:=⟨_,List.getElem?_eq_getElem (by omega)⟩
             by_cases Ik:x3<r.af
             ·
              refine R.dP O mixed (by kernel_rfl)<|Q.q (q.aT (off':=0) O bf O) O<|Q.q (q.ld 3 O O bE O) O<|Q.q (q.len' (bJ 0 O) O Tryz.underlying27) O<|Q.q (q.eql O O (beq_iff_eq.2 (by omega))) O<|Q.u 16 O<|Q.qg O (q.len' (cJ 1 O) O Tryz.underlying60) O<|Q.qg O (q.eql O O (beq_eq_false_iff_ne.2 (by omega))) O<|Q.u 3 O<|Q.qg O (q.len' (cJ 1 O) O Tryz.underlying60) O<|Q.qg O (q.sub (r:=((ts.length-1:Nat):Int)) O O (wr (by omega))) O<|Q.qg O (q.idx (i:=(ts.length-1)) (cJ 1 O) O O dK O hx3) O<|Q.qg O (q.fb (cJ 1 O) hx3 O aA O) O<|Q.qg O (q.aT (off':=5) O cI O) O<|Q.qg O (q.ld 3 O O aA O) O<|Q.qg O (q.lss O O (decide_eq_true (by omega))) O<|Q.u 3 O<|Q.nil ?_
              have hz:ef r=true:=by (exact uH (by omega) (by omega) (by omega) (by omega) (by omega) HS (by omega) HF HN HT (by omega) (of_decide_eq_true ‹_›) (.inl (by omega)) (.inr ⟨_,hx3,by assumption⟩))
              rw [hz]
              exact R.w1 () [4] [] O Tryz.results51 (RV.tmp O) O O O O
             ·
              refine R.dP O mixed (by kernel_rfl)<|Q.q (q.aT (off':=0) O bf O) O<|Q.q (q.ld 3 O O bE O) O<|Q.q (q.len' (bJ 0 O) O Tryz.underlying27) O<|Q.q (q.eql O O (beq_iff_eq.2 (by omega))) O<|Q.u 16 O<|Q.qg O (q.len' (cJ 1 O) O Tryz.underlying60) O<|Q.qg O (q.eql O O (beq_eq_false_iff_ne.2 (by omega))) O<|Q.u 3 O<|Q.qg O (q.len' (cJ 1 O) O Tryz.underlying60) O<|Q.qg O (q.sub (r:=((ts.length-1:Nat):Int)) O O (wr (by omega))) O<|Q.qg O (q.idx (i:=(ts.length-1)) (cJ 1 O) O O dK O hx3) O<|Q.qg O (q.fb (cJ 1 O) hx3 O aA O) O<|Q.qg O (q.aT (off':=5) O cI O) O<|Q.qg O (q.ld 3 O O aA O) O<|Q.qg O (q.lss O O (decide_eq_false (by omega))) O<|Q.u 3 O<|Q.nil ?_
              have hz:ef r=false:=by (exact EV HT (by omega) hx3 ‹_›)
              rw [hz]
              exact R.w1 () [4] [] O Tryz.results51 (RV.tmp O) O O O O
           ·
            obtain ⟨x4,hx4⟩:∃z,r.ai[(r.ai.length-1)]? = some z:=⟨_,List.getElem?_eq_getElem (by omega)⟩
            by_cases Gh:x4.ID<r.ae
            ·
             by_cases h16:ts.length=0
             ·
              refine R.dP O mixed (by kernel_rfl)<|Q.q (q.aT (off':=0) O bf O) O<|Q.q (q.ld 3 O O bE O) O<|Q.q (q.len' (bJ 0 O) O Tryz.underlying27) O<|Q.q (q.eql O O (beq_eq_false_iff_ne.2 (by omega))) O<|Q.u 1 O<|Q.qg O (q.aT (off':=0) O bf O) O<|Q.qg O (q.ld 3 O O bE O) O<|Q.qg O (q.aT (off':=0) O bf O) O<|Q.qg O (q.ld 3 O O bE O) O<|Q.qg O (q.len' (bJ 0 O) O Tryz.underlying27) O<|Q.qg O (q.sub (r:=((r.ai.length-1:Nat):Int)) O O (wr (by omega))) O<|Q.qg O (q.idx (i:=(r.ai.length-1)) (bJ 0 O) O O cK O hx4) O<|Q.qg O (q.dF (j':=0) (bJ 0 O) hx4 O bI O) O<|Q.qg O (q.fb (bJ 0 O) hx4 O aA O) O<|Q.qg O (q.aT (off':=4) O bW O) O<|Q.qg O (q.ld 3 O O aA O) O<|Q.qg O (q.lss O O (decide_eq_true (by omega))) O<|Q.u 3 O<|Q.qg O (q.len' (cJ 1 O) O Tryz.underlying60) O<|Q.qg O (q.eql O O (beq_iff_eq.2 (by omega))) O<|Q.u 13 O<|Q.nil ?_
              have hz:ef r=true:=by (exact uH (by omega) (by omega) (by omega) (by omega) (by omega) HS (by omega) HF HN HT (by omega) (of_decide_eq_true ‹_›) (.inr ⟨_,hx4,by assumption⟩) (.inl (by omega)))
              rw [hz]
              exact R.w1 () [4] [] O Tryz.results51 (RV.tmp O) O O O O
             ·
              obtain ⟨x5,hx5⟩:∃z,ts[(ts.length-1)]? = some z:=⟨_,List.getElem?_eq_getElem (by omega)⟩
              by_cases Il:x5<r.af
              ·
               refine R.dP O mixed (by kernel_rfl)<|Q.q (q.aT (off':=0) O bf O) O<|Q.q (q.ld 3 O O bE O) O<|Q.q (q.len' (bJ 0 O) O Tryz.underlying27) O<|Q.q (q.eql O O (beq_eq_false_iff_ne.2 (by omega))) O<|Q.u 1 O<|Q.qg O (q.aT (off':=0) O bf O) O<|Q.qg O (q.ld 3 O O bE O) O<|Q.qg O (q.aT (off':=0) O bf O) O<|Q.qg O (q.ld 3 O O bE O) O<|Q.qg O (q.len' (bJ 0 O) O Tryz.underlying27) O<|Q.qg O (q.sub (r:=((r.ai.length-1:Nat):Int)) O O (wr (by omega))) O<|Q.qg O (q.idx (i:=(r.ai.length-1)) (bJ 0 O) O O cK O hx4) O<|Q.qg O (q.dF (j':=0) (bJ 0 O) hx4 O bI O) O<|Q.qg O (q.fb (bJ 0 O) hx4 O aA O) O<|Q.qg O (q.aT (off':=4) O bW O) O<|Q.qg O (q.ld 3 O O aA O) O<|Q.qg O (q.lss O O (decide_eq_true (by omega))) O<|Q.u 3 O<|Q.qg O (q.len' (cJ 1 O) O Tryz.underlying60) O<|Q.qg O (q.eql O O (beq_eq_false_iff_ne.2 (by omega))) O<|Q.u 3 O<|Q.qg O (q.len' (cJ 1 O) O Tryz.underlying60) O<|Q.qg O (q.sub (r:=((ts.length-1:Nat):Int)) O O (wr (by omega))) O<|Q.qg O (q.idx (i:=(ts.length-1)) (cJ 1 O) O O dK O hx5) O<|Q.qg O (q.fb (cJ 1 O) hx5 O aA O) O<|Q.qg O (q.aT (off':=5) O cI O) O<|Q.qg O (q.ld 3 O O aA O) O<|Q.qg O (q.lss O O (decide_eq_true (by omega))) O<|Q.u 3 O<|Q.nil ?_
               have hz:ef r=true:=by (exact uH (by omega) (by omega) (by omega) (by omega) (by omega) HS (by omega) HF HN HT (by omega) (of_decide_eq_true ‹_›) (.inr ⟨_,hx4,by assumption⟩) (.inr ⟨_,hx5,by assumption⟩))
               rw [hz]
               exact R.w1 () [4] [] O Tryz.results51 (RV.tmp O) O O O O
              ·
               refine R.dP O mixed (by kernel_rfl)<|Q.q (q.aT (off':=0) O bf O) O<|Q.q (q.ld 3 O O bE O) O<|Q.q (q.len' (bJ 0 O) O Tryz.underlying27) O<|Q.q (q.eql O O (beq_eq_false_iff_ne.2 (by omega))) O<|Q.u 1 O<|Q.qg O (q.aT (off':=0) O bf O) O<|Q.qg O (q.ld 3 O O bE O) O<|Q.qg O (q.aT (off':=0) O bf O) O<|Q.qg O (q.ld 3 O O bE O) O<|Q.qg O (q.len' (bJ 0 O) O Tryz.underlying27) O<|Q.qg O (q.sub (r:=((r.ai.length-1:Nat):Int)) O O (wr (by omega))) O<|Q.qg O (q.idx (i:=(r.ai.length-1)) (bJ 0 O) O O cK O hx4) O<|Q.qg O (q.dF (j':=0) (bJ 0 O) hx4 O bI O) O<|Q.qg O (q.fb (bJ 0 O) hx4 O aA O) O<|Q.qg O (q.aT (off':=4) O bW O) O<|Q.qg O (q.ld 3 O O aA O) O<|Q.qg O (q.lss O O (decide_eq_true (by omega))) O<|Q.u 3 O<|Q.qg O (q.len' (cJ 1 O) O Tryz.underlying60) O<|Q.qg O (q.eql O O (beq_eq_false_iff_ne.2 (by omega))) O<|Q.u 3 O<|Q.qg O (q.len' (cJ 1 O) O Tryz.underlying60) O<|Q.qg O (q.sub (r:=((ts.length-1:Nat):Int)) O O (wr (by omega))) O<|Q.qg O (q.idx (i:=(ts.length-1)) (cJ 1 O) O O dK O hx5) O<|Q.qg O (q.fb (cJ 1 O) hx5 O aA O) O<|Q.qg O (q.aT (off':=5) O cI O) O<|Q.qg O (q.ld 3 O O aA O) O<|Q.qg O (q.lss O O (decide_eq_false (by omega))) O<|Q.u 3 O<|Q.nil ?_
               have hz:ef r=false:=by (exact EV HT (by omega) hx5 ‹_›)
               rw [hz]
               exact R.w1 () [4] [] O Tryz.results51 (RV.tmp O) O O O O
            ·
             refine R.dP O mixed (by kernel_rfl)<|Q.q (q.aT (off':=0) O bf O) O<|Q.q (q.ld 3 O O bE O) O<|Q.q (q.len' (bJ 0 O) O Tryz.underlying27) O<|Q.q (q.eql O O (beq_eq_false_iff_ne.2 (by omega))) O<|Q.u 1 O<|Q.qg O (q.aT (off':=0) O bf O) O<|Q.qg O (q.ld 3 O O bE O) O<|Q.qg O (q.aT (off':=0) O bf O) O<|Q.qg O (q.ld 3 O O bE O) O<|Q.qg O (q.len' (bJ 0 O) O Tryz.underlying27) O<|Q.qg O (q.sub (r:=((r.ai.length-1:Nat):Int)) O O (wr (by omega))) O<|Q.qg O (q.idx (i:=(r.ai.length-1)) (bJ 0 O) O O cK O hx4) O<|Q.qg O (q.dF (j':=0) (bJ 0 O) hx4 O bI O) O<|Q.qg O (q.fb (bJ 0 O) hx4 O aA O) O<|Q.qg O (q.aT (off':=4) O bW O) O<|Q.qg O (q.ld 3 O O aA O) O<|Q.qg O (q.lss O O (decide_eq_false (by omega))) O<|Q.u 18 O<|Q.nil ?_
             have hz:ef r=false:=by (exact H8 hx4 ‹_›)
             rw [hz]
             exact R.w1 () [4] [] O Tryz.results51 (RV.tmp O) O O O O
          ·
           refine R.c (q.call AL O O (fun w hw=>(cv (congrArg Value.bool h11) (sf _ (ts) _ ((aX r.ai)) w (hw.row 1 O) (hw.row 0 O) )))) O<|R.u 1 O<|R.nil ?_
           refine R.aE O O ?_
           refine R.reg O<|R.u 1 O<|R.nil ?_
           have hz:ef r=false:=by (exact zT HT (by omega) (of_decide_eq_false ‹_›))
           rw [hz]
           exact R.w1 () [4] [] O Tryz.results51 (RV.tmp O) O O O O
       ·
        refine R.qg O (q.neq O O (bne_iff_ne.2 (by omega))) O<|R.u 1 O<|R.nil ?_
        refine R.aE O O ?_
        refine R.reg O<|R.u 1 O<|R.nil ?_
        have hz:ef r=false:=by (exact e6 (fun hw=>by have a1:ej r.ai=0:=hw.tree;have a2:=hw.gh;have a3:=hw.ki;have a4:=hw.lC;have a5:=hw.kv;have a6:=hw.ky;have a7:=hw.hlen;omega))
        rw [hz]
        exact R.w1 () [1] [] O Tryz.results51 (RV.tmp O) O O O O
 ·
  refine R.q (q.gu O O Tryz.underlying35 (by omega)) O<|R.u 35 O<|R.nil ?_
  refine R.aE O O ?_
  refine R.reg O<|R.u 1 O<|R.nil ?_
  have hz:ef r=false:=by (exact e6 (fun hw=>by have a1:ej r.ai=0:=hw.tree;have a2:=hw.gh;have a3:=hw.ki;have a4:=hw.lC;have a5:=hw.kv;have a6:=hw.ky;have a7:=hw.hlen;omega))
  rw [hz]
  exact R.w1 () [1] [] O Tryz.results51 (RV.tmp O) O O O O
def prevK (l:List Change)(k:Nat):Option ByteArray:=if k=0 then none else (l[k-1]?).map Change.Key
section
variable {l:List Change} {k:Nat} {x y:Change} {z:ar} {Z:Option ar}
theorem drop_at (hx:l[k]? = some x):l.drop k=x::l.drop (k+1):=by
 obtain ⟨h,rfl⟩:=List.getElem?_eq_some_iff.1 hx
 exact List.drop_eq_getElem_cons h
theorem wC (h:¬ 0<k):mF (prevK l k) x=true:=by unfold prevK;rw [if_pos (by omega)];rfl
theorem wD (h:0<k)(hy:l[k-1]? = some y)(hl:(fS x.Key y.Key||decide (x.Key=y.Key))=false):mF (prevK l k) x=true:=by
 unfold prevK;rw [if_neg (by omega),hy];exact FY hl
theorem D5 (h:0<k)(hy:l[k-1]? = some y)(hl:(fS x.Key y.Key||decide (x.Key=y.Key))=true):mF (prevK l k) x=false:=by
 unfold prevK;rw [if_neg (by omega),hy];exact D3 hl
theorem EW (h:x.Gone=false):(⟨x.Key,x.Val,false⟩:Change)=x:=by rw [← h]
theorem qF (h:pgo (l.drop k) (prevK l k) z=Z)(hx:l[k]? = some x)(h1:mF (prevK l k) x=true)(h2:x.Gone=false)(h3:(rowP z ⟨x.Key,x.Val,false⟩).2=true):pgo (l.drop (k+1)) (prevK l (k+1)) (rowP z ⟨x.Key,x.Val,false⟩).1=Z:=by
 rw [EW h2] at h3 ⊢
 rw [drop_at hx] at h;simp only [pgo] at h
 rw [if_pos (by rw [h1,h2,h3];rfl)] at h
 unfold prevK;rw [if_neg (by omega),Nat.add_sub_cancel,hx];exact h
theorem lJ (h:pgo (l.drop k) (prevK l k) z=pgo l none r0)(hx:l[k]? = some x)(h1:mF (prevK l k) x=false∨x.Gone=true∨x.Gone=false∧(rowP z ⟨x.Key,x.Val,false⟩).2=false):aO l=(r0,4):=by
 rw [drop_at hx] at h;simp only [pgo] at h
 rw [if_neg (by
  rcases h1 with e|e|⟨e1,e⟩
  ·rw [e];simp
  ·rw [e];simp
  ·rw [EW e1] at e;rw [e];simp)] at h
 unfold aO;rw [← h]
theorem Cz (h:pgo (l.drop k) (prevK l k) z=pgo l none r0)(hk:l.length≤k):pgo l none r0=some z:=by
 rw [List.drop_of_length_le hk] at h;exact h.symm
theorem F4 (h:pgo (l.drop k) (prevK l k) z=pgo l none r0)(hk:l.length≤k)(hw:ef z=false):aO l=(r0,4):=by
 unfold aO;rw [Cz h hk];dsimp only;rw [if_neg (by rw [hw];decide)]
theorem H9 (h:pgo (l.drop k) (prevK l k) z=pgo l none r0)(hk:l.length≤k)(hw:ef z=true):aO l=(z,0):=by
 unfold aO;rw [Cz h hk];dsimp only;rw [if_pos hw]
theorem oQ (z:ar)(x:Change):(rowP z x).1.ai.length≤z.ai.length+1∧(rowP z x).1.Things.length≤z.Things.length+1∧(rowP z x).1.Held.length≤z.Held.length+1:=by
 unfold rowP
 (repeat' split) <;> dsimp only <;> (repeat' split) <;> simp [sD,sE,oL,xF] <;> omega
end
attribute [local irreducible] rowP pgo aO
set_option maxHeartbeats 1600000 in
theorem pC (bG:Value)(l:List Change)(w:World)(own:List Nat)(H:Wd w (blks []++own) ([]++[ag.held w own]) [ag.ls bG (l:List Change),bR] w)(hl:l.length≤900)(hc:∀c∈l,c.Key.size≤1000∧c.Val.size≤1000):Calls Tryz.prog 17 #[bG] w fun e w' => ∃z:Value×Value×Value×Value,e = .returned (.tuple #[.agg #[z.1,z.2.1,z.2.2.1,z.2.2.2,iV ((((aO l)).1).ae),iV ((((aO l)).1).af)],fc (((aO l)).2)])∧Wd w (blks []++own) ([]++[ag.held w own]) [ag.ls z.1 ((((aO l)).1).ai:List ak),ag.ls z.2.1 ((((aO l)).1).Things:List ao),ag.ls z.2.2.1 ((((aO l)).1).Held:List Held),ag.ls z.2.2.2 ((((aO l)).1).Notes:List Note)] w':=by
 have Ag:=H.ct 0 rfl
 refine R.da (n:=45) (vs:=[bG]) (B:=[ag.held w own]) [(0,bG)] Tryz.func17 O O O O H ?_
 refine R.reg O<|R.s O (s.alloc (cs:=aG) cp O O) fun b1=>R.u 1 O<|R.nil ?_
 refine R.reg O<|R.s O (s.alloc (cs:=aG) cp O O) fun b2=>R.nil ?_
 refine R.reg O<|R.u 1 O<|R.q (q.len' (bJ 0 O) O Tryz.underlying23) O<|R.u 1 O<|R.nil ?_
 refine R.row0 (α:=ak) 88 ?_
 refine R.row0 (α:=ao) 62 ?_
 refine R.row0 (α:=Held) 85 ?_
 refine R.row0 (α:=Note) 72 ?_
 refine R.loop (fun g_:Nat×ar×Value×Value×Value×Value=>[(0,bG),(2,.pointer (some ⟨b1,0,none⟩)),(4,.pointer (some ⟨b2,0,none⟩)),(7,bG),(8,iV (l.length:Int)),(9,iV (g_.1:Int))]) (fun g_=>[ag.row 72 g_.2.2.2.2.2 g_.2.1.Notes,ag.row 85 g_.2.2.2.2.1 g_.2.1.Held,ag.row 62 g_.2.2.2.1 g_.2.1.Things,ag.row 88 g_.2.2.1 g_.2.1.ai,ag.box b2 [g_.2.2.1,g_.2.2.2.1,g_.2.2.2.2.1,g_.2.2.2.2.2,iV g_.2.1.ae,iV g_.2.1.af] 32,ag.box b1 aG 32,ag.held w own]) (fun g_=>[ag.ls bG l,bR]) (fun g_=>g_.1≤l.length∧pgo (l.drop g_.1) (prevK l g_.1) g_.2.1=pgo l none r0∧g_.2.1.ai.length≤g_.1∧g_.2.1.Things.length≤g_.1∧g_.2.1.Held.length≤g_.1) (fun g_=>l.length-g_.1) (0,(⟨[],[],[],[],0,0⟩:ar),(nS),(nS),(nS),(nS)) O (by (try dsimp only);exact ⟨by omega,rfl,Nat.le_refl _,Nat.le_refl _,Nat.le_refl _⟩) ⟨rfl,rfl,rfl,rfl,rfl,rfl,trivial⟩ (fun _=>Wd.pick gW [0,1] O O O) ?_
 rintro ⟨k,z,dM,dt,eD,dN⟩ ⟨hk,HP,Kr,Ks,Kt⟩
 dsimp only at *
 refine R.reg O<|?_
 by_cases h1:k<l.length
 ·
  refine R.q (q.lss O O (decide_eq_true (by omega))) O<|R.nil ?_
  refine R.aE O O ?_
  refine R.reg O<|R.u 1 O<|?_
  obtain ⟨x1,hx1⟩:∃z,l[k]? = some z:=⟨_,List.getElem?_eq_getElem (by omega)⟩
  have Jo:=hc x1 (List.mem_of_getElem? hx1)
  refine R.q (q.idx (i:=k) (bJ 0 O) O O bL O hx1) O<|R.q (q.cY (ds:=[.string x1.Key,.string x1.Val,.bool x1.Gone]) (bJ 0 O) hx1 O dm O) O<|R.s O (s.alloc (cs:=[.string (⟨#[]⟩),.string (⟨#[]⟩),.bool false]) dI O O) fun b3=>R.u 1 O<|R.s O (s.st (us:=[.string x1.Key,.string x1.Val,.bool x1.Gone]) (cs':=[.string x1.Key,.string x1.Val,.bool x1.Gone]) 0 _ O O O O (.inl dm) O O O O) fun _=>R.nil ?_
  by_cases h2:0<k
  ·
   obtain ⟨x2,hx2⟩:∃z,l[(k-1)]? = some z:=⟨_,List.getElem?_eq_getElem (by omega)⟩
   have Im:=hc x2 (List.mem_of_getElem? hx2)
   rcases Bool.eq_false_or_eq_true ((fS x1.Key x2.Key||decide (x1.Key=x2.Key))) with h3|h3
   ·
    refine R.dP O mixed (by kernel_rfl)<|Q.u 1 O<|Q.q (q.gtr O O (decide_eq_true (by omega))) O<|Q.u 1 O<|Q.qg O (q.aT (off':=0) O bD O) O<|Q.qg O (q.ld 0 O O bV O) O<|Q.u 2 O<|Q.qg O (q.sub (r:=((k-1:Nat):Int)) O O (wr (by omega))) O<|Q.qg O (q.idx (i:=(k-1)) (bJ 0 O) O O bL O hx2) O<|Q.qg O (q.dF (j':=0) (bJ 0 O) hx2 O bD O) O<|Q.qg O (q.fb (bJ 0 O) hx2 O bV O) O<|Q.qg O (q.qh O O h3) O<|Q.u 10 O<|Q.nil ?_
    refine R.aE O O ?_
    refine R.reg O<|R.q (q.build (cs:=aG) cz O O) O<|R.q (q.iface O cL) O<|R.s O (s.st (us:=aG) (cs':=aG) 6 _ O O O O (.inl ap) O O O O) fun _=>R.u 1 O<|R.nil ?_
    refine R.mp (fun _ hw=>hw.aR (α:=ak)) ?_
    refine R.mp (fun _ hw=>hw.aR (α:=ao)) ?_
    refine R.mp (fun _ hw=>hw.aR (α:=Held)) ?_
    refine R.mp (fun _ hw=>hw.aR (α:=Note)) ?_
    have hz:aO l=((⟨[],[],[],[],0,0⟩:ar),4):=by (exact lJ HP hx1 (.inl (D5 (by omega) hx2 ‹_›)))
    rw [hz]
    exact R.w2 ((nS),(nS),(nS),(nS)) [7] dj O Tryz.results17 (RV.cell 6 O O ap) (RV.tmp O) O O O (cD O (eP (by decide) O))
   ·
    rcases Bool.eq_false_or_eq_true (x1.Gone) with h4|h4
    ·
     rw [h4]
     refine R.dP O mixed (by kernel_rfl)<|Q.u 1 O<|Q.q (q.gtr O O (decide_eq_true (by omega))) O<|Q.u 1 O<|Q.qg O (q.aT (off':=0) O bD O) O<|Q.qg O (q.ld 0 O O bV O) O<|Q.u 2 O<|Q.qg O (q.sub (r:=((k-1:Nat):Int)) O O (wr (by omega))) O<|Q.qg O (q.idx (i:=(k-1)) (bJ 0 O) O O bL O hx2) O<|Q.qg O (q.dF (j':=0) (bJ 0 O) hx2 O bD O) O<|Q.qg O (q.fb (bJ 0 O) hx2 O bV O) O<|Q.qg O (q.qh O O h3) O<|Q.u 2 O<|Q.qg O (q.aT (off':=2) O jz O) O<|Q.qg O (q.ld 0 O O oZ O) O<|Q.u 6 O<|Q.nil ?_
     refine R.aE O O ?_
     refine R.reg O<|R.q (q.build (cs:=aG) cz O O) O<|R.q (q.iface O cL) O<|R.s O (s.st (us:=aG) (cs':=aG) 6 _ O O O O (.inl ap) O O O O) fun _=>R.u 1 O<|R.nil ?_
     refine R.mp (fun _ hw=>hw.aR (α:=ak)) ?_
     refine R.mp (fun _ hw=>hw.aR (α:=ao)) ?_
     refine R.mp (fun _ hw=>hw.aR (α:=Held)) ?_
     refine R.mp (fun _ hw=>hw.aR (α:=Note)) ?_
     have hz:aO l=((⟨[],[],[],[],0,0⟩:ar),4):=by (exact lJ HP hx1 (.inr (.inl ‹_›)))
     rw [hz]
     exact R.w2 ((nS),(nS),(nS),(nS)) [7] dj O Tryz.results17 (RV.cell 6 O O ap) (RV.tmp O) O O O (cD O (eP (by decide) O))
    ·
     rw [h4]
     rcases Bool.eq_false_or_eq_true (!((rowP z (⟨x1.Key,x1.Val,false⟩:Change)).2)) with h5|h5
     ·
      refine R.e8 (fuel:=22) (Wd w (blks []++own) [ag.box b3 [.string x1.Key,.string x1.Val,.bool false] 52,ag.box b1 aG 32,ag.held w own] [ag.ls bG l,bR]) O mixed O ?_
      refine D.q (i:=0) O (by kernel_rfl) (aK [0,6,7] [0,1] O O O) O (q.mv O) O<|D.q (i:=1) O (by kernel_rfl) (aK [0,6,7] [0,1] O O O) O (q.gtr O O (decide_eq_true (by omega))) O<|D.q (i:=2) O (by kernel_rfl) (aK [0,6,7] [0,1] O O O) O (q.mv O) O<|D.q (i:=3) O (by kernel_rfl) (aK [0,6,7] [0,1] O O O) O (q.aT (off':=0) O bD O) O<|D.q (i:=4) O (by kernel_rfl) (aK [0,6,7] [0,1] O O O) O (q.ld 0 O O bV O) O<|D.q (i:=5) O (by kernel_rfl) (aK [0,6,7] [0,1] O O O) O (q.mv O) O<|D.q (i:=6) O (by kernel_rfl) (aK [0,6,7] [0,1] O O O) O (q.mv O) O<|D.q (i:=7) O (by kernel_rfl) (aK [0,6,7] [0,1] O O O) O (q.sub (r:=((k-1:Nat):Int)) O O (wr (by omega))) O<|D.q (i:=8) O (by kernel_rfl) (aK [0,6,7] [0,1] O O O) O (q.idx (i:=(k-1)) (bJ 0 O) O O bL O hx2) O<|D.q (i:=9) O (by kernel_rfl) (aK [0,6,7] [0,1] O O O) O (q.dF (j':=0) (bJ 0 O) hx2 O bD O) O<|D.q (i:=10) O (by kernel_rfl) (aK [0,6,7] [0,1] O O O) O (q.fb (bJ 0 O) hx2 O bV O) O<|D.q (i:=11) O (by kernel_rfl) (aK [0,6,7] [0,1] O O O) O (q.qh O O h3) O<|D.q (i:=12) O (by kernel_rfl) (aK [0,6,7] [0,1] O O O) O (q.Ei O O) O<|D.q (i:=13) O (by kernel_rfl) (aK [0,6,7] [0,1] O O O) O (q.mv O) O<|D.q (i:=14) O (by kernel_rfl) (aK [0,6,7] [0,1] O O O) O (q.aT (off':=2) O jz O) O<|D.q (i:=15) O (by kernel_rfl) (aK [0,6,7] [0,1] O O O) O (q.ld 0 O O oZ O) O<|D.q (i:=16) O (by kernel_rfl) (aK [0,6,7] [0,1] O O O) O (q.l7 O O) O<|D.q (i:=17) O (by kernel_rfl) (aK [0,6,7] [0,1] O O O) O (q.mv O) O<|D.q (i:=18) O (by kernel_rfl) (aK [0,6,7] [0,1] O O O) O (q.cj 0 O O dm) O<|D.one (i:=19) (by kernel_rfl) O ?_
      refine Do.s (B':=(fun g_:Value×Value×Value×Value=>[ag.box b2 [g_.1,g_.2.1,g_.2.2.1,g_.2.2.2,iV ((((rowP z (⟨x1.Key,x1.Val,false⟩:Change))).1).ae),iV ((((rowP z (⟨x1.Key,x1.Val,false⟩:Change))).1).af)] 32,ag.row 88 g_.1 (((rowP z (⟨x1.Key,x1.Val,false⟩:Change))).1).ai,ag.row 62 g_.2.1 (((rowP z (⟨x1.Key,x1.Val,false⟩:Change))).1).Things,ag.row 85 g_.2.2.1 (((rowP z (⟨x1.Key,x1.Val,false⟩:Change))).1).Held,ag.row 72 g_.2.2.2 (((rowP z (⟨x1.Key,x1.Val,false⟩:Change))).1).Notes,ag.box b3 [.string x1.Key,.string x1.Val,.bool false] 52,ag.box b1 aG 32,ag.held w own])) (F':=(fun g_=>[ag.ls bG l,bR])) (s.bP (B0:=[ag.box b2 [dM,dt,eD,dN,iV z.ae,iV z.af] 32,ag.row 88 dM z.ai,ag.row 62 dt z.Things,ag.row 85 eD z.Held,ag.row 72 dN z.Notes]) (Br:=[ag.box b3 [.string x1.Key,.string x1.Val,.bool false] 52,ag.box b1 aG 32,ag.held w own]) (F0:=[bR]) xX [1] (fun g_:Value×Value×Value×Value => .bool (((rowP z (⟨x1.Key,x1.Val,false⟩:Change))).2)) (fun g_=>[ag.box b2 [g_.1,g_.2.1,g_.2.2.1,g_.2.2.2,iV ((((rowP z (⟨x1.Key,x1.Val,false⟩:Change))).1).ae),iV ((((rowP z (⟨x1.Key,x1.Val,false⟩:Change))).1).af)] 32,ag.row 88 g_.1 (((rowP z (⟨x1.Key,x1.Val,false⟩:Change))).1).ai,ag.row 62 g_.2.1 (((rowP z (⟨x1.Key,x1.Val,false⟩:Change))).1).Things,ag.row 85 g_.2.2.1 (((rowP z (⟨x1.Key,x1.Val,false⟩:Change))).1).Held,ag.row 72 g_.2.2.2 (((rowP z (⟨x1.Key,x1.Val,false⟩:Change))).1).Notes]) (fun g_=>[]) O O O yn O O (fun w own hw H=>qE b2 dM dt eD dN (z) ((⟨x1.Key,x1.Val,false⟩:Change)) w own H ‹_› (by omega)) O) (fun _=>(aK [5,6,7] [0,1] O O O)) O ?_
      rintro ⟨z9,jZ,CW,z12⟩
      dsimp only
      refine D.q (i:=20) O (by kernel_rfl) (aK [5,6,7] [0,1] O O O) O (q.not O) O<|D.q (i:=21) O (by kernel_rfl) (aK [5,6,7] [0,1] O O O) O (q.l7 O O) O<|D.done (by kernel_rfl)<|R.cond O O (fun h6=>?_) (fun h6=>?_)
      ·
       refine R.reg O<|R.q (q.build (cs:=aG) cz O O) O<|R.q (q.iface O cL) O<|R.s O (s.st (us:=aG) (cs':=aG) 6 _ O O O O (.inl ap) O O O O) fun _=>R.u 1 O<|R.nil ?_
       refine R.mp (fun _ hw=>hw.aR (α:=ak)) ?_
       refine R.mp (fun _ hw=>hw.aR (α:=ao)) ?_
       refine R.mp (fun _ hw=>hw.aR (α:=Held)) ?_
       refine R.mp (fun _ hw=>hw.aR (α:=Note)) ?_
       have hz:aO l=((⟨[],[],[],[],0,0⟩:ar),4):=by (exact lJ HP hx1 (.inr (.inr ⟨by assumption,by exact wv ‹_›⟩)))
       rw [hz]
       exact R.w2 ((nS),(nS),(nS),(nS)) [7] dj O Tryz.results17 (RV.cell 6 O O ap) (RV.tmp O) O O O (cD O (eP (by decide) O))
      ·
       refine R.reg O<|R.q (q.add (r:=((k+1:Nat):Int)) O O (wr (by omega))) O<|R.u 1 O<|R.nil ?_
       refine R.back (k+1,((rowP z (⟨x1.Key,x1.Val,false⟩:Change)).1),z9,jZ,CW,z12) O (by ((try dsimp only);have zl:=oQ z (⟨x1.Key,x1.Val,false⟩:Change);exact ⟨by omega,qF HP hx1 (by exact wD (by omega) hx2 ‹_›) ‹_› (by exact wA ‹_›),by omega,by omega,by omega⟩)) (by dsimp only;omega) ⟨rfl,rfl,rfl,rfl,rfl,rfl,trivial⟩ (aK [4,3,2,1,0,6,7] [0,1] O O O)
     ·
      refine R.e8 (fuel:=22) (Wd w (blks []++own) [ag.box b3 [.string x1.Key,.string x1.Val,.bool false] 52,ag.box b1 aG 32,ag.held w own] [ag.ls bG l,bR]) O mixed O ?_
      refine D.q (i:=0) O (by kernel_rfl) (aK [0,6,7] [0,1] O O O) O (q.mv O) O<|D.q (i:=1) O (by kernel_rfl) (aK [0,6,7] [0,1] O O O) O (q.gtr O O (decide_eq_true (by omega))) O<|D.q (i:=2) O (by kernel_rfl) (aK [0,6,7] [0,1] O O O) O (q.mv O) O<|D.q (i:=3) O (by kernel_rfl) (aK [0,6,7] [0,1] O O O) O (q.aT (off':=0) O bD O) O<|D.q (i:=4) O (by kernel_rfl) (aK [0,6,7] [0,1] O O O) O (q.ld 0 O O bV O) O<|D.q (i:=5) O (by kernel_rfl) (aK [0,6,7] [0,1] O O O) O (q.mv O) O<|D.q (i:=6) O (by kernel_rfl) (aK [0,6,7] [0,1] O O O) O (q.mv O) O<|D.q (i:=7) O (by kernel_rfl) (aK [0,6,7] [0,1] O O O) O (q.sub (r:=((k-1:Nat):Int)) O O (wr (by omega))) O<|D.q (i:=8) O (by kernel_rfl) (aK [0,6,7] [0,1] O O O) O (q.idx (i:=(k-1)) (bJ 0 O) O O bL O hx2) O<|D.q (i:=9) O (by kernel_rfl) (aK [0,6,7] [0,1] O O O) O (q.dF (j':=0) (bJ 0 O) hx2 O bD O) O<|D.q (i:=10) O (by kernel_rfl) (aK [0,6,7] [0,1] O O O) O (q.fb (bJ 0 O) hx2 O bV O) O<|D.q (i:=11) O (by kernel_rfl) (aK [0,6,7] [0,1] O O O) O (q.qh O O h3) O<|D.q (i:=12) O (by kernel_rfl) (aK [0,6,7] [0,1] O O O) O (q.Ei O O) O<|D.q (i:=13) O (by kernel_rfl) (aK [0,6,7] [0,1] O O O) O (q.mv O) O<|D.q (i:=14) O (by kernel_rfl) (aK [0,6,7] [0,1] O O O) O (q.aT (off':=2) O jz O) O<|D.q (i:=15) O (by kernel_rfl) (aK [0,6,7] [0,1] O O O) O (q.ld 0 O O oZ O) O<|D.q (i:=16) O (by kernel_rfl) (aK [0,6,7] [0,1] O O O) O (q.l7 O O) O<|D.q (i:=17) O (by kernel_rfl) (aK [0,6,7] [0,1] O O O) O (q.mv O) O<|D.q (i:=18) O (by kernel_rfl) (aK [0,6,7] [0,1] O O O) O (q.cj 0 O O dm) O<|D.one (i:=19) (by kernel_rfl) O ?_
      refine Do.s (B':=(fun g_:Value×Value×Value×Value=>[ag.box b2 [g_.1,g_.2.1,g_.2.2.1,g_.2.2.2,iV ((((rowP z (⟨x1.Key,x1.Val,false⟩:Change))).1).ae),iV ((((rowP z (⟨x1.Key,x1.Val,false⟩:Change))).1).af)] 32,ag.row 88 g_.1 (((rowP z (⟨x1.Key,x1.Val,false⟩:Change))).1).ai,ag.row 62 g_.2.1 (((rowP z (⟨x1.Key,x1.Val,false⟩:Change))).1).Things,ag.row 85 g_.2.2.1 (((rowP z (⟨x1.Key,x1.Val,false⟩:Change))).1).Held,ag.row 72 g_.2.2.2 (((rowP z (⟨x1.Key,x1.Val,false⟩:Change))).1).Notes,ag.box b3 [.string x1.Key,.string x1.Val,.bool false] 52,ag.box b1 aG 32,ag.held w own])) (F':=(fun g_=>[ag.ls bG l,bR])) (s.bP (B0:=[ag.box b2 [dM,dt,eD,dN,iV z.ae,iV z.af] 32,ag.row 88 dM z.ai,ag.row 62 dt z.Things,ag.row 85 eD z.Held,ag.row 72 dN z.Notes]) (Br:=[ag.box b3 [.string x1.Key,.string x1.Val,.bool false] 52,ag.box b1 aG 32,ag.held w own]) (F0:=[bR]) xX [1] (fun g_:Value×Value×Value×Value => .bool (((rowP z (⟨x1.Key,x1.Val,false⟩:Change))).2)) (fun g_=>[ag.box b2 [g_.1,g_.2.1,g_.2.2.1,g_.2.2.2,iV ((((rowP z (⟨x1.Key,x1.Val,false⟩:Change))).1).ae),iV ((((rowP z (⟨x1.Key,x1.Val,false⟩:Change))).1).af)] 32,ag.row 88 g_.1 (((rowP z (⟨x1.Key,x1.Val,false⟩:Change))).1).ai,ag.row 62 g_.2.1 (((rowP z (⟨x1.Key,x1.Val,false⟩:Change))).1).Things,ag.row 85 g_.2.2.1 (((rowP z (⟨x1.Key,x1.Val,false⟩:Change))).1).Held,ag.row 72 g_.2.2.2 (((rowP z (⟨x1.Key,x1.Val,false⟩:Change))).1).Notes]) (fun g_=>[]) O O O yn O O (fun w own hw H=>qE b2 dM dt eD dN (z) ((⟨x1.Key,x1.Val,false⟩:Change)) w own H ‹_› (by omega)) O) (fun _=>(aK [5,6,7] [0,1] O O O)) O ?_
      rintro ⟨z17,Dx,Dy,z20⟩
      dsimp only
      refine D.q (i:=20) O (by kernel_rfl) (aK [5,6,7] [0,1] O O O) O (q.not O) O<|D.q (i:=21) O (by kernel_rfl) (aK [5,6,7] [0,1] O O O) O (q.l7 O O) O<|D.done (by kernel_rfl)<|R.cond O O (fun h7=>?_) (fun h7=>?_)
      ·
       refine R.reg O<|R.q (q.build (cs:=aG) cz O O) O<|R.q (q.iface O cL) O<|R.s O (s.st (us:=aG) (cs':=aG) 6 _ O O O O (.inl ap) O O O O) fun _=>R.u 1 O<|R.nil ?_
       refine R.mp (fun _ hw=>hw.aR (α:=ak)) ?_
       refine R.mp (fun _ hw=>hw.aR (α:=ao)) ?_
       refine R.mp (fun _ hw=>hw.aR (α:=Held)) ?_
       refine R.mp (fun _ hw=>hw.aR (α:=Note)) ?_
       have hz:aO l=((⟨[],[],[],[],0,0⟩:ar),4):=by (exact lJ HP hx1 (.inr (.inr ⟨by assumption,by exact wv ‹_›⟩)))
       rw [hz]
       exact R.w2 ((nS),(nS),(nS),(nS)) [7] dj O Tryz.results17 (RV.cell 6 O O ap) (RV.tmp O) O O O (cD O (eP (by decide) O))
      ·
       refine R.reg O<|R.q (q.add (r:=((k+1:Nat):Int)) O O (wr (by omega))) O<|R.u 1 O<|R.nil ?_
       refine R.back (k+1,((rowP z (⟨x1.Key,x1.Val,false⟩:Change)).1),z17,Dx,Dy,z20) O (by ((try dsimp only);have zl:=oQ z (⟨x1.Key,x1.Val,false⟩:Change);exact ⟨by omega,qF HP hx1 (by exact wD (by omega) hx2 ‹_›) ‹_› (by exact wA ‹_›),by omega,by omega,by omega⟩)) (by dsimp only;omega) ⟨rfl,rfl,rfl,rfl,rfl,rfl,trivial⟩ (aK [4,3,2,1,0,6,7] [0,1] O O O)
  ·
   rcases Bool.eq_false_or_eq_true (x1.Gone) with h8|h8
   ·
    rw [h8]
    refine R.dP O mixed (by kernel_rfl)<|Q.u 1 O<|Q.q (q.gtr O O (decide_eq_false (by omega))) O<|Q.u 12 O<|Q.qg O (q.aT (off':=2) O jz O) O<|Q.qg O (q.ld 0 O O oZ O) O<|Q.u 6 O<|Q.nil ?_
    refine R.aE O O ?_
    refine R.reg O<|R.q (q.build (cs:=aG) cz O O) O<|R.q (q.iface O cL) O<|R.s O (s.st (us:=aG) (cs':=aG) 6 _ O O O O (.inl ap) O O O O) fun _=>R.u 1 O<|R.nil ?_
    refine R.mp (fun _ hw=>hw.aR (α:=ak)) ?_
    refine R.mp (fun _ hw=>hw.aR (α:=ao)) ?_
    refine R.mp (fun _ hw=>hw.aR (α:=Held)) ?_
    refine R.mp (fun _ hw=>hw.aR (α:=Note)) ?_
    have hz:aO l=((⟨[],[],[],[],0,0⟩:ar),4):=by (exact lJ HP hx1 (.inr (.inl ‹_›)))
    rw [hz]
    exact R.w2 ((nS),(nS),(nS),(nS)) [7] dj O Tryz.results17 (RV.cell 6 O O ap) (RV.tmp O) O O O (cD O (eP (by decide) O))
   ·
    rw [h8]
    rcases Bool.eq_false_or_eq_true (!((rowP z (⟨x1.Key,x1.Val,false⟩:Change)).2)) with h9|h9
    ·
     refine R.e8 (fuel:=22) (Wd w (blks []++own) [ag.box b3 [.string x1.Key,.string x1.Val,.bool false] 52,ag.box b1 aG 32,ag.held w own] [ag.ls bG l,bR]) O mixed O ?_
     refine D.q (i:=0) O (by kernel_rfl) (aK [0,6,7] [0,1] O O O) O (q.mv O) O<|D.q (i:=1) O (by kernel_rfl) (aK [0,6,7] [0,1] O O O) O (q.gtr O O (decide_eq_false (by omega))) O<|D.q (i:=2) O (by kernel_rfl) (aK [0,6,7] [0,1] O O O) O (q.mv O) O<|D.skip (i:=3) O (by kernel_rfl) (aK [0,6,7] [0,1] O O O) O O<|D.skip (i:=4) O (by kernel_rfl) (aK [0,6,7] [0,1] O O O) O O<|D.skip (i:=5) O (by kernel_rfl) (aK [0,6,7] [0,1] O O O) O O<|D.skip (i:=6) O (by kernel_rfl) (aK [0,6,7] [0,1] O O O) O O<|D.skip (i:=7) O (by kernel_rfl) (aK [0,6,7] [0,1] O O O) O O<|D.skip (i:=8) O (by kernel_rfl) (aK [0,6,7] [0,1] O O O) O O<|D.skip (i:=9) O (by kernel_rfl) (aK [0,6,7] [0,1] O O O) O O<|D.skip (i:=10) O (by kernel_rfl) (aK [0,6,7] [0,1] O O O) O O<|D.skip (i:=11) O (by kernel_rfl) (aK [0,6,7] [0,1] O O O) O O<|D.q (i:=12) O (by kernel_rfl) (aK [0,6,7] [0,1] O O O) O (q.l7 O O) O<|D.q (i:=13) O (by kernel_rfl) (aK [0,6,7] [0,1] O O O) O (q.mv O) O<|D.q (i:=14) O (by kernel_rfl) (aK [0,6,7] [0,1] O O O) O (q.aT (off':=2) O jz O) O<|D.q (i:=15) O (by kernel_rfl) (aK [0,6,7] [0,1] O O O) O (q.ld 0 O O oZ O) O<|D.q (i:=16) O (by kernel_rfl) (aK [0,6,7] [0,1] O O O) O (q.l7 O O) O<|D.q (i:=17) O (by kernel_rfl) (aK [0,6,7] [0,1] O O O) O (q.mv O) O<|D.q (i:=18) O (by kernel_rfl) (aK [0,6,7] [0,1] O O O) O (q.cj 0 O O dm) O<|D.one (i:=19) (by kernel_rfl) O ?_
     refine Do.s (B':=(fun g_:Value×Value×Value×Value=>[ag.box b2 [g_.1,g_.2.1,g_.2.2.1,g_.2.2.2,iV ((((rowP z (⟨x1.Key,x1.Val,false⟩:Change))).1).ae),iV ((((rowP z (⟨x1.Key,x1.Val,false⟩:Change))).1).af)] 32,ag.row 88 g_.1 (((rowP z (⟨x1.Key,x1.Val,false⟩:Change))).1).ai,ag.row 62 g_.2.1 (((rowP z (⟨x1.Key,x1.Val,false⟩:Change))).1).Things,ag.row 85 g_.2.2.1 (((rowP z (⟨x1.Key,x1.Val,false⟩:Change))).1).Held,ag.row 72 g_.2.2.2 (((rowP z (⟨x1.Key,x1.Val,false⟩:Change))).1).Notes,ag.box b3 [.string x1.Key,.string x1.Val,.bool false] 52,ag.box b1 aG 32,ag.held w own])) (F':=(fun g_=>[ag.ls bG l,bR])) (s.bP (B0:=[ag.box b2 [dM,dt,eD,dN,iV z.ae,iV z.af] 32,ag.row 88 dM z.ai,ag.row 62 dt z.Things,ag.row 85 eD z.Held,ag.row 72 dN z.Notes]) (Br:=[ag.box b3 [.string x1.Key,.string x1.Val,.bool false] 52,ag.box b1 aG 32,ag.held w own]) (F0:=[bR]) xX [1] (fun g_:Value×Value×Value×Value => .bool (((rowP z (⟨x1.Key,x1.Val,false⟩:Change))).2)) (fun g_=>[ag.box b2 [g_.1,g_.2.1,g_.2.2.1,g_.2.2.2,iV ((((rowP z (⟨x1.Key,x1.Val,false⟩:Change))).1).ae),iV ((((rowP z (⟨x1.Key,x1.Val,false⟩:Change))).1).af)] 32,ag.row 88 g_.1 (((rowP z (⟨x1.Key,x1.Val,false⟩:Change))).1).ai,ag.row 62 g_.2.1 (((rowP z (⟨x1.Key,x1.Val,false⟩:Change))).1).Things,ag.row 85 g_.2.2.1 (((rowP z (⟨x1.Key,x1.Val,false⟩:Change))).1).Held,ag.row 72 g_.2.2.2 (((rowP z (⟨x1.Key,x1.Val,false⟩:Change))).1).Notes]) (fun g_=>[]) O O O yn O O (fun w own hw H=>qE b2 dM dt eD dN (z) ((⟨x1.Key,x1.Val,false⟩:Change)) w own H ‹_› (by omega)) O) (fun _=>(aK [5,6,7] [0,1] O O O)) O ?_
     rintro ⟨z29,z30,z31,z32⟩
     dsimp only
     refine D.q (i:=20) O (by kernel_rfl) (aK [5,6,7] [0,1] O O O) O (q.not O) O<|D.q (i:=21) O (by kernel_rfl) (aK [5,6,7] [0,1] O O O) O (q.l7 O O) O<|D.done (by kernel_rfl)<|R.cond O O (fun h10=>?_) (fun h10=>?_)
     ·
      refine R.reg O<|R.q (q.build (cs:=aG) cz O O) O<|R.q (q.iface O cL) O<|R.s O (s.st (us:=aG) (cs':=aG) 6 _ O O O O (.inl ap) O O O O) fun _=>R.u 1 O<|R.nil ?_
      refine R.mp (fun _ hw=>hw.aR (α:=ak)) ?_
      refine R.mp (fun _ hw=>hw.aR (α:=ao)) ?_
      refine R.mp (fun _ hw=>hw.aR (α:=Held)) ?_
      refine R.mp (fun _ hw=>hw.aR (α:=Note)) ?_
      have hz:aO l=((⟨[],[],[],[],0,0⟩:ar),4):=by (exact lJ HP hx1 (.inr (.inr ⟨by assumption,by exact wv ‹_›⟩)))
      rw [hz]
      exact R.w2 ((nS),(nS),(nS),(nS)) [7] dj O Tryz.results17 (RV.cell 6 O O ap) (RV.tmp O) O O O (cD O (eP (by decide) O))
     ·
      refine R.reg O<|R.q (q.add (r:=((k+1:Nat):Int)) O O (wr (by omega))) O<|R.u 1 O<|R.nil ?_
      refine R.back (k+1,((rowP z (⟨x1.Key,x1.Val,false⟩:Change)).1),z29,z30,z31,z32) O (by ((try dsimp only);have zl:=oQ z (⟨x1.Key,x1.Val,false⟩:Change);exact ⟨by omega,qF HP hx1 (by exact wC (by omega)) ‹_› (by exact wA ‹_›),by omega,by omega,by omega⟩)) (by dsimp only;omega) ⟨rfl,rfl,rfl,rfl,rfl,rfl,trivial⟩ (aK [4,3,2,1,0,6,7] [0,1] O O O)
    ·
     refine R.e8 (fuel:=22) (Wd w (blks []++own) [ag.box b3 [.string x1.Key,.string x1.Val,.bool false] 52,ag.box b1 aG 32,ag.held w own] [ag.ls bG l,bR]) O mixed O ?_
     refine D.q (i:=0) O (by kernel_rfl) (aK [0,6,7] [0,1] O O O) O (q.mv O) O<|D.q (i:=1) O (by kernel_rfl) (aK [0,6,7] [0,1] O O O) O (q.gtr O O (decide_eq_false (by omega))) O<|D.q (i:=2) O (by kernel_rfl) (aK [0,6,7] [0,1] O O O) O (q.mv O) O<|D.skip (i:=3) O (by kernel_rfl) (aK [0,6,7] [0,1] O O O) O O<|D.skip (i:=4) O (by kernel_rfl) (aK [0,6,7] [0,1] O O O) O O<|D.skip (i:=5) O (by kernel_rfl) (aK [0,6,7] [0,1] O O O) O O<|D.skip (i:=6) O (by kernel_rfl) (aK [0,6,7] [0,1] O O O) O O<|D.skip (i:=7) O (by kernel_rfl) (aK [0,6,7] [0,1] O O O) O O<|D.skip (i:=8) O (by kernel_rfl) (aK [0,6,7] [0,1] O O O) O O<|D.skip (i:=9) O (by kernel_rfl) (aK [0,6,7] [0,1] O O O) O O<|D.skip (i:=10) O (by kernel_rfl) (aK [0,6,7] [0,1] O O O) O O<|D.skip (i:=11) O (by kernel_rfl) (aK [0,6,7] [0,1] O O O) O O<|D.q (i:=12) O (by kernel_rfl) (aK [0,6,7] [0,1] O O O) O (q.l7 O O) O<|D.q (i:=13) O (by kernel_rfl) (aK [0,6,7] [0,1] O O O) O (q.mv O) O<|D.q (i:=14) O (by kernel_rfl) (aK [0,6,7] [0,1] O O O) O (q.aT (off':=2) O jz O) O<|D.q (i:=15) O (by kernel_rfl) (aK [0,6,7] [0,1] O O O) O (q.ld 0 O O oZ O) O<|D.q (i:=16) O (by kernel_rfl) (aK [0,6,7] [0,1] O O O) O (q.l7 O O) O<|D.q (i:=17) O (by kernel_rfl) (aK [0,6,7] [0,1] O O O) O (q.mv O) O<|D.q (i:=18) O (by kernel_rfl) (aK [0,6,7] [0,1] O O O) O (q.cj 0 O O dm) O<|D.one (i:=19) (by kernel_rfl) O ?_
     refine Do.s (B':=(fun g_:Value×Value×Value×Value=>[ag.box b2 [g_.1,g_.2.1,g_.2.2.1,g_.2.2.2,iV ((((rowP z (⟨x1.Key,x1.Val,false⟩:Change))).1).ae),iV ((((rowP z (⟨x1.Key,x1.Val,false⟩:Change))).1).af)] 32,ag.row 88 g_.1 (((rowP z (⟨x1.Key,x1.Val,false⟩:Change))).1).ai,ag.row 62 g_.2.1 (((rowP z (⟨x1.Key,x1.Val,false⟩:Change))).1).Things,ag.row 85 g_.2.2.1 (((rowP z (⟨x1.Key,x1.Val,false⟩:Change))).1).Held,ag.row 72 g_.2.2.2 (((rowP z (⟨x1.Key,x1.Val,false⟩:Change))).1).Notes,ag.box b3 [.string x1.Key,.string x1.Val,.bool false] 52,ag.box b1 aG 32,ag.held w own])) (F':=(fun g_=>[ag.ls bG l,bR])) (s.bP (B0:=[ag.box b2 [dM,dt,eD,dN,iV z.ae,iV z.af] 32,ag.row 88 dM z.ai,ag.row 62 dt z.Things,ag.row 85 eD z.Held,ag.row 72 dN z.Notes]) (Br:=[ag.box b3 [.string x1.Key,.string x1.Val,.bool false] 52,ag.box b1 aG 32,ag.held w own]) (F0:=[bR]) xX [1] (fun g_:Value×Value×Value×Value => .bool (((rowP z (⟨x1.Key,x1.Val,false⟩:Change))).2)) (fun g_=>[ag.box b2 [g_.1,g_.2.1,g_.2.2.1,g_.2.2.2,iV ((((rowP z (⟨x1.Key,x1.Val,false⟩:Change))).1).ae),iV ((((rowP z (⟨x1.Key,x1.Val,false⟩:Change))).1).af)] 32,ag.row 88 g_.1 (((rowP z (⟨x1.Key,x1.Val,false⟩:Change))).1).ai,ag.row 62 g_.2.1 (((rowP z (⟨x1.Key,x1.Val,false⟩:Change))).1).Things,ag.row 85 g_.2.2.1 (((rowP z (⟨x1.Key,x1.Val,false⟩:Change))).1).Held,ag.row 72 g_.2.2.2 (((rowP z (⟨x1.Key,x1.Val,false⟩:Change))).1).Notes]) (fun g_=>[]) O O O yn O O (fun w own hw H=>qE b2 dM dt eD dN (z) ((⟨x1.Key,x1.Val,false⟩:Change)) w own H ‹_› (by omega)) O) (fun _=>(aK [5,6,7] [0,1] O O O)) O ?_
     rintro ⟨z37,z38,z39,z40⟩
     dsimp only
     refine D.q (i:=20) O (by kernel_rfl) (aK [5,6,7] [0,1] O O O) O (q.not O) O<|D.q (i:=21) O (by kernel_rfl) (aK [5,6,7] [0,1] O O O) O (q.l7 O O) O<|D.done (by kernel_rfl)<|R.cond O O (fun h11=>?_) (fun h11=>?_)
     ·
      refine R.reg O<|R.q (q.build (cs:=aG) cz O O) O<|R.q (q.iface O cL) O<|R.s O (s.st (us:=aG) (cs':=aG) 6 _ O O O O (.inl ap) O O O O) fun _=>R.u 1 O<|R.nil ?_
      refine R.mp (fun _ hw=>hw.aR (α:=ak)) ?_
      refine R.mp (fun _ hw=>hw.aR (α:=ao)) ?_
      refine R.mp (fun _ hw=>hw.aR (α:=Held)) ?_
      refine R.mp (fun _ hw=>hw.aR (α:=Note)) ?_
      have hz:aO l=((⟨[],[],[],[],0,0⟩:ar),4):=by (exact lJ HP hx1 (.inr (.inr ⟨by assumption,by exact wv ‹_›⟩)))
      rw [hz]
      exact R.w2 ((nS),(nS),(nS),(nS)) [7] dj O Tryz.results17 (RV.cell 6 O O ap) (RV.tmp O) O O O (cD O (eP (by decide) O))
     ·
      refine R.reg O<|R.q (q.add (r:=((k+1:Nat):Int)) O O (wr (by omega))) O<|R.u 1 O<|R.nil ?_
      refine R.back (k+1,((rowP z (⟨x1.Key,x1.Val,false⟩:Change)).1),z37,z38,z39,z40) O (by ((try dsimp only);have zl:=oQ z (⟨x1.Key,x1.Val,false⟩:Change);exact ⟨by omega,qF HP hx1 (by exact wC (by omega)) ‹_› (by exact wA ‹_›),by omega,by omega,by omega⟩)) (by dsimp only;omega) ⟨rfl,rfl,rfl,rfl,rfl,rfl,trivial⟩ (aK [4,3,2,1,0,6,7] [0,1] O O O)
 ·
  refine R.q (q.lss O O (decide_eq_false (by omega))) O<|R.nil ?_
  refine R.aF O O ?_
  refine R.reg O<|R.q (q.cj 4 O O ap) O<|R.s (B':=(fun _u:Unit=>[ag.box b2 [dM,dt,eD,dN,iV z.ae,iV z.af] 32,ag.box b1 aG 32,ag.held w own])) (F':=(fun _u:Unit=>[ag.ls dN z.Notes,ag.ls eD z.Held,ag.ls dt z.Things,ag.ls dM z.ai,ag.ls bG l,bR])) O (s.pre (B2:=[ag.row 72 dN z.Notes,ag.row 85 eD z.Held,ag.row 62 dt z.Things,ag.box b2 [dM,dt,eD,dN,iV z.ae,iV z.af] 32,ag.box b1 aG 32,ag.held w own]) (F2:=[ag.ls dM z.ai,ag.ls bG l,bR]) (fun _ hw=>hw.bH 3 _ O O) (s.pre (B2:=[ag.row 72 dN z.Notes,ag.row 85 eD z.Held,ag.box b2 [dM,dt,eD,dN,iV z.ae,iV z.af] 32,ag.box b1 aG 32,ag.held w own]) (F2:=[ag.ls dt z.Things,ag.ls dM z.ai,ag.ls bG l,bR]) (fun _ hw=>hw.bH 2 _ O O) (s.pre (B2:=[ag.row 72 dN z.Notes,ag.box b2 [dM,dt,eD,dN,iV z.ae,iV z.af] 32,ag.box b1 aG 32,ag.held w own]) (F2:=[ag.ls eD z.Held,ag.ls dt z.Things,ag.ls dM z.ai,ag.ls bG l,bR]) (fun _ hw=>hw.bH 1 _ O O) (s.pre (B2:=[ag.box b2 [dM,dt,eD,dN,iV z.ae,iV z.af] 32,ag.box b1 aG 32,ag.held w own]) (F2:=[ag.ls dN z.Notes,ag.ls eD z.Held,ag.ls dt z.Things,ag.ls dM z.ai,ag.ls bG l,bR]) (fun _ hw=>hw.bH 0 _ O O) (s.bP (B0:=[]) (Br:=[ag.box b2 [dM,dt,eD,dN,iV z.ae,iV z.af] 32,ag.box b1 aG 32,ag.held w own]) (F0:=[ag.ls dM z.ai,ag.ls dt z.Things,ag.ls eD z.Held,ag.ls dN z.Notes]) [0,1,2] dj (fun _u:Unit => .bool ((ef z))) (fun _u:Unit=>[]) (fun _u:Unit=>[]) O O O Hh O O (fun w own hw H=>zU dM dt eD dN (z) w own H (by omega)) O))))) fun _=>R.q (q.not O) O<|R.nil ?_
  refine R.cond O O (fun h12=>?_) (fun h12=>?_)
  ·
   refine R.reg O<|R.q (q.build (cs:=aG) cz O O) O<|R.q (q.iface O cL) O<|R.s O (s.st (us:=aG) (cs':=aG) 1 _ O O O O (.inl ap) O O O O) fun _=>R.u 1 O<|R.nil ?_
   refine R.mp (fun _ hw=>hw.aR (α:=ak)) ?_
   refine R.mp (fun _ hw=>hw.aR (α:=ao)) ?_
   refine R.mp (fun _ hw=>hw.aR (α:=Held)) ?_
   refine R.mp (fun _ hw=>hw.aR (α:=Note)) ?_
   have hz:aO l=((⟨[],[],[],[],0,0⟩:ar),4):=by (exact F4 HP (by omega) (by exact wv ‹_›))
   rw [hz]
   exact R.w2 ((nS),(nS),(nS),(nS)) [2] dj O Tryz.results17 (RV.cell 1 O O ap) (RV.tmp O) O O O (cD O (eP (by decide) O))
  ·
   refine R.reg O<|R.q (q.cj 0 O O ap) O<|R.s O (s.dy (us:=[dM,dt,eD,dN,iV z.ae,iV z.af]) (cs':=[dM,dt,eD,dN,iV z.ae,iV z.af]) 1 _ O O O (fun _ _=>rfl) (.inl ap) (fun w hw=>(ah (Sl.one (hw.bq 3 O)) (ah (Sl.one (hw.bq 2 O)) (ah (Sl.one (hw.bq 1 O)) (ah (Sl.one (hw.bq 0 O)) (ah O (ah O aL))))))) O O O) fun _=>R.u 1 O<|R.nil ?_
   have hz:aO l=(z,0):=by (exact H9 HP (by omega) (by exact wA ‹_›))
   rw [hz]
   exact R.w2 (dM,dt,eD,dN) [2] dj O Tryz.results17 (RV.cell 1 O O ap) (RV.tmp O) O O O (cD O (i6 O))
end Go.Proofs.YtbkfhjaibhnkmaaGreatDoor
