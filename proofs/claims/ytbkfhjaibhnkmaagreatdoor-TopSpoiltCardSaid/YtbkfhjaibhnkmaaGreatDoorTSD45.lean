import Derived.Test.YtbkfhjaibhnkmaaGreatDoorTSD42
import Derived.Test.YtbkfhjaibhnkmaaGreatDoorTSD18
import Derived.Test.YtbkfhjaibhnkmaaGreatDoorTSD43
import Derived.Test.YtbkfhjaibhnkmaaGreatDoorTSD44
namespace Go.Proofs.YtbkfhjaibhnkmaaGreatDoor
open Go Go.RowKit
set_option linter.unusedVariables false
set_option linter.unusedSimpArgs false
set_option maxRecDepth 100000
theorem jq {b:Bool}(h:(!b)=true):b=false:=by cases b <;> simp_all
theorem jr {b:Bool}(h:(!b)=false):b=true:=by cases b <;> simp_all
theorem AR {α β:Type}{f:α→β}{L:List α}{k:Nat}{x:α}(hx:L[k]? = some x)(hm:f x∈(L.take k).map f):¬ (L.map f).Nodup:=fun hn=>by
 have hk:=(List.getElem?_eq_some_iff.1 hx).1
 rw [← List.take_append_drop k L,List.map_append] at hn
 have h2:f x∈(L.drop k).map f:=List.mem_map.2 ⟨x,List.mem_of_getElem? (i:=0) (by rw [List.getElem?_drop,Nat.add_zero];exact hx),rfl⟩
 exact (List.nodup_append.1 hn).2.2 _ hm _ h2 rfl
theorem tw {l:List Int}{x:Int}(h:l.Nodup)(hx:¬ x∈l):(l++[x]).Nodup:=by
 rw [List.nodup_append]
 exact ⟨h,(List.nodup_cons.2 ⟨(by simp),List.nodup_nil⟩),fun a ha b hb e=>hx (by rw [List.mem_singleton.1 hb] at e;rw [← e];exact ha)⟩
section
variable {r:ap} {k:Nat} {x:Held} {seen ts:List Int}
theorem uB (hx:r.Held[k]? = some x)(h:bL r.ai x.aj<0):da r=false:=ei fun hw=>by
 have:=hw.dz x (List.mem_of_getElem? hx);omega
theorem xx (hx:r.Held[k]? = some x)(hs:seen=(r.Held.take k).map Held.aj)(h:x.aj∈seen):da r=false:=ei fun hw=>AR hx (hs▸h) hw.once
theorem vx (ht:ts=(r.Things.take k).map ah.ID)(hk:r.Things.length≤k)(h:¬ ts=aY r.ai):da r=false:=ei fun hw=>h (by rw [ht,List.take_of_length_le hk];exact hw.things)
theorem o7 {x:aj}(hx:r.ai[r.ai.length-1]? = some x)(h:¬ x.ID<r.ae):da r=false:=ei fun hw=>h (hw.zw x (by rw [List.getLast?_eq_getElem?];exact hx))
theorem sf {α β:Type}{f:α→β}{L:List α}{y:β}(h:(L.map f)[(L.map f).length-1]? = some y):∃x,L.getLast? = some x∧f x=y:=by
 rw [List.getElem?_map,List.length_map,← List.getLast?_eq_getElem?] at h
 obtain ⟨x,h1,h2⟩:=Option.map_eq_some_iff.1 h
 exact ⟨x,h1,h2⟩
theorem o8 {y:Int}(ht:ts=(r.Things.take k).map ah.ID)(hk:r.Things.length≤k)(hy:ts[ts.length-1]? = some y)(h:¬ y<r.af):da r=false:=ei fun hw=>by
 subst ht;rw [List.take_of_length_le hk] at hy
 obtain ⟨x,h1,h2⟩:=sf hy
 exact h (h2▸hw.zx x h1)
theorem dA (a1:cW r.ai=0)(a2:r.Things.length≤10)(a3:1≤r.ae∧r.ae≤1000)(a5:1≤r.af∧r.af≤1000)(a7:r.Held.length=r.ai.length){i:Nat}(hs:seen=(r.Held.take i).map Held.aj)(hi:r.Held.length≤i)
 (hf:∀h∈r.Held.take i,0≤bL r.ai h.aj) (hn:seen.Nodup) (ht:ts=(r.Things.take k).map ah.ID) (hk:r.Things.length≤k) (he:ts=aY r.ai) (hw:r.ai.length=0 ∨ ∃x,r.ai[r.ai.length-1]? = some x∧x.ID<r.ae) (hl:ts.length=0 ∨ ∃y,ts[ts.length-1]? = some y∧y<r.af):da r=true:=by
 rw [List.take_of_length_le hi] at hs hf
 rw [List.take_of_length_le hk] at ht
 refine oU ⟨a1,a2,a3.1,a3.2,a5.1,a5.2,a7,hf,hs▸hn,ht.symm.trans he,fun w hq=>?_,fun t hq=>?_⟩
 ·
  rcases hw with hw|⟨x,h1,h2⟩
  ·rw [List.eq_nil_of_length_eq_zero hw] at hq;cases hq
  ·rw [List.getLast?_eq_getElem?,h1] at hq;injection hq with hq;rw [← hq];exact h2
 ·
  rcases hl with hl|⟨y,h1,h2⟩
  ·rw [ht,List.length_map] at hl;rw [List.eq_nil_of_length_eq_zero hl] at hq;cases hq
  ·
   subst ht
   obtain ⟨x,h3,h4⟩:=sf h1
   rw [h3] at hq;injection hq with hq;rw [← hq,h4];exact h2
end
set_option maxRecDepth 100000 in
set_option maxHeartbeats 1600000 in
theorem vy (aF az aC aB:Value)(r:ap)(w:World)(own:List Nat)(H:Wd w (blks []++own) ([]++[ag.held w own]) [ag.ls aF (r.ai:List aj),ag.ls az (r.Things:List ah),ag.ls aC (r.Held:List Held),ag.ls aB (r.Notes:List Note)] w)(hr:r.ai.length≤1000∧r.Things.length≤1000∧r.Held.length≤1000):Calls Tryz.prog 51 #[.agg #[aF,az,aC,aB,iV r.ae,iV r.af]] w fun e w' => ∃z:Unit,e = .returned (.bool ((da r)))∧Wd w (blks []++own) ([]++[ag.held w own]) [] w':=by
 have dR:=H.cX 0 rfl
 have dq:=H.cX 1 rfl
 have eK:=H.cX 2 rfl
 have dS:=H.cX 3 rfl
 refine R.dc (n:=126) (vs:=[.agg #[aF,az,aC,aB,iV r.ae,iV r.af]]) (B:=[ag.held w own]) [(0,.agg #[aF,az,aC,aB,iV r.ae,iV r.af])] Tryz.func51 rfl rfl rfl rfl H ?_
 refine R.reg rfl<|R.s rfl (s.box (cs:=[aF,az,aC,aB,iV r.ae,iV r.af]) rfl rfl rfl) fun b1=>R.u 1 rfl<|R.nil ?_
 refine R.reg rfl<|R.q (q.a8 (off':=0) rfl bj rfl) rfl<|R.q (q.ld 0 rfl rfl bA rfl) rfl<|R.c (q.call zg rfl rfl (fun w hw=>(k5 _ (r.ai) w (hw.aT 0 rfl) ))) rfl<|?_
 by_cases h1:cW r.ai=0
 ·
  refine R.q (q.fr rfl rfl Tryz.underlying35 (by omega)) rfl<|R.u 1 rfl<|R.qg rfl (q.a8 (off':=1) rfl bO rfl) rfl<|R.qg rfl (q.ld 0 rfl rfl cw rfl) rfl<|R.qg rfl (q.len' (fun _=>Wd.aT 1 rfl) rfl Tryz.underlying28) rfl<|?_
  by_cases h2:10<r.Things.length
  ·
   refine R.qg rfl (q.gtr rfl rfl (decide_eq_true (by omega))) rfl<|R.u 30 rfl<|R.nil ?_
   refine R.aD rfl rfl ?_
   refine R.reg rfl<|R.u 1 rfl<|R.nil ?_
   have hz:da r=false:=by (exact ei (fun hw=>by have a1:cW r.ai=0:=hw.tree;have a2:=hw.fN;have a3:=hw.jV;have a4:=hw.kP;have a5:=hw.jY;have a6:=hw.jZ;have a7:=hw.hlen;omega))
   rw [hz]
   exact R.w1 () [1] [] rfl Tryz.results51 (RV.tmp rfl) rfl rfl rfl rfl
  ·
   refine R.qg rfl (q.gtr rfl rfl (decide_eq_false (by omega))) rfl<|R.u 2 rfl<|R.qg rfl (q.a8 (off':=4) rfl bW rfl) rfl<|R.qg rfl (q.ld 0 rfl rfl av rfl) rfl<|?_
   by_cases h3:r.ae<1
   ·
    refine R.qg rfl (q.lss rfl rfl (decide_eq_true (by omega))) rfl<|R.u 25 rfl<|R.nil ?_
    refine R.aD rfl rfl ?_
    refine R.reg rfl<|R.u 1 rfl<|R.nil ?_
    have hz:da r=false:=by (exact ei (fun hw=>by have a1:cW r.ai=0:=hw.tree;have a2:=hw.fN;have a3:=hw.jV;have a4:=hw.kP;have a5:=hw.jY;have a6:=hw.jZ;have a7:=hw.hlen;omega))
    rw [hz]
    exact R.w1 () [1] [] rfl Tryz.results51 (RV.tmp rfl) rfl rfl rfl rfl
   ·
    refine R.qg rfl (q.lss rfl rfl (decide_eq_false (by omega))) rfl<|R.u 2 rfl<|R.qg rfl (q.a8 (off':=4) rfl bW rfl) rfl<|R.qg rfl (q.ld 0 rfl rfl av rfl) rfl<|?_
    by_cases h4:1000<r.ae
    ·
     refine R.qg rfl (q.gtr rfl rfl (decide_eq_true (by omega))) rfl<|R.u 20 rfl<|R.nil ?_
     refine R.aD rfl rfl ?_
     refine R.reg rfl<|R.u 1 rfl<|R.nil ?_
     have hz:da r=false:=by (exact ei (fun hw=>by have a1:cW r.ai=0:=hw.tree;have a2:=hw.fN;have a3:=hw.jV;have a4:=hw.kP;have a5:=hw.jY;have a6:=hw.jZ;have a7:=hw.hlen;omega))
     rw [hz]
     exact R.w1 () [1] [] rfl Tryz.results51 (RV.tmp rfl) rfl rfl rfl rfl
    ·
     refine R.qg rfl (q.gtr rfl rfl (decide_eq_false (by omega))) rfl<|R.u 2 rfl<|R.qg rfl (q.a8 (off':=5) rfl cU rfl) rfl<|R.qg rfl (q.ld 0 rfl rfl av rfl) rfl<|?_
     by_cases h5:r.af<1
     ·
      refine R.qg rfl (q.lss rfl rfl (decide_eq_true (by omega))) rfl<|R.u 15 rfl<|R.nil ?_
      refine R.aD rfl rfl ?_
      refine R.reg rfl<|R.u 1 rfl<|R.nil ?_
      have hz:da r=false:=by (exact ei (fun hw=>by have a1:cW r.ai=0:=hw.tree;have a2:=hw.fN;have a3:=hw.jV;have a4:=hw.kP;have a5:=hw.jY;have a6:=hw.jZ;have a7:=hw.hlen;omega))
      rw [hz]
      exact R.w1 () [1] [] rfl Tryz.results51 (RV.tmp rfl) rfl rfl rfl rfl
     ·
      refine R.qg rfl (q.lss rfl rfl (decide_eq_false (by omega))) rfl<|R.u 2 rfl<|R.qg rfl (q.a8 (off':=5) rfl cU rfl) rfl<|R.qg rfl (q.ld 0 rfl rfl av rfl) rfl<|?_
      by_cases h6:1000<r.af
      ·
       refine R.qg rfl (q.gtr rfl rfl (decide_eq_true (by omega))) rfl<|R.u 10 rfl<|R.nil ?_
       refine R.aD rfl rfl ?_
       refine R.reg rfl<|R.u 1 rfl<|R.nil ?_
       have hz:da r=false:=by (exact ei (fun hw=>by have a1:cW r.ai=0:=hw.tree;have a2:=hw.fN;have a3:=hw.jV;have a4:=hw.kP;have a5:=hw.jY;have a6:=hw.jZ;have a7:=hw.hlen;omega))
       rw [hz]
       exact R.w1 () [1] [] rfl Tryz.results51 (RV.tmp rfl) rfl rfl rfl rfl
      ·
       refine R.qg rfl (q.gtr rfl rfl (decide_eq_false (by omega))) rfl<|R.u 2 rfl<|R.qg rfl (q.a8 (off':=2) rfl bP rfl) rfl<|R.qg rfl (q.ld 0 rfl rfl cx rfl) rfl<|R.qg rfl (q.len' (fun _=>Wd.aT 2 rfl) rfl Tryz.underlying29) rfl<|R.qg rfl (q.a8 (off':=0) rfl bj rfl) rfl<|R.qg rfl (q.ld 0 rfl rfl bA rfl) rfl<|R.qg rfl (q.len' (fun _=>Wd.aT 0 rfl) rfl Tryz.underlying27) rfl<|?_
       by_cases h7:r.Held.length=r.ai.length
       ·
        refine R.qg rfl (q.neq rfl rfl (bne_eq_false_iff_eq.2 (by omega))) rfl<|R.u 1 rfl<|R.nil ?_
        refine R.aI rfl rfl ?_
        refine R.reg rfl<|R.u 1 rfl<|R.nil ?_
        refine R.reg rfl<|R.q (q.a8 (off':=2) rfl bP rfl) rfl<|R.q (q.ld 0 rfl rfl cx rfl) rfl<|R.q (q.len' (fun _=>Wd.aT 2 rfl) rfl Tryz.underlying29) rfl<|R.u 1 rfl<|R.nil ?_
        refine R.row0 (α:=Int) 3 ?_
        refine R.loop (fun g_:Nat×Value×(List Int)=>[(1,.pointer (some ⟨b1,0,none⟩)),(3,g_.2.1),(49,aC),(50,iV (r.Held.length:Int)),(51,iV (g_.1:Int))]) (fun g_:Nat×Value×(List Int)=>[ag.row 3 g_.2.1 (g_.2.2:List Int),ag.box b1 [aF,az,aC,aB,iV r.ae,iV r.af] 32,ag.held w own]) (fun g_:Nat×Value×(List Int)=>[ag.ls aF (r.ai:List aj),ag.ls az (r.Things:List ah),ag.ls aC (r.Held:List Held),ag.ls aB (r.Notes:List Note)]) (fun g_:Nat×Value×(List Int)=>g_.1≤r.Held.length∧g_.2.2=(r.Held.take g_.1).map Held.aj∧(∀h∈r.Held.take g_.1,0≤bL r.ai h.aj)∧g_.2.2.Nodup) (fun g_:Nat×Value×(List Int)=>r.Held.length-g_.1) (0,(nS),[]) rfl (by exact ⟨by omega,rfl,(by intro h hh;simp at hh),List.nodup_nil⟩) ⟨rfl,rfl,rfl,rfl,rfl,trivial⟩ (fun _=>Wd.pick [0,1,2] [0,1,2,3] rfl rfl rfl) ?_
        rintro ⟨k,u,seen⟩ ⟨hk,HS,HF,HN⟩
        dsimp only at *
        have ll:seen.length≤1000:=by rw [HS,List.length_map,List.length_take];omega
        refine R.reg rfl<|?_
        by_cases h8:k<r.Held.length
        ·
         refine R.q (q.lss rfl rfl (decide_eq_true (by omega))) rfl<|R.nil ?_
         refine R.aD rfl rfl ?_
         refine R.reg rfl<|?_
         obtain ⟨x1,hx1⟩:∃z,r.Held[k]? = some z:=⟨_,List.getElem?_eq_getElem (by omega)⟩
         refine R.q (q.idx (i:=k) (fun _=>Wd.aT 2 rfl) rfl rfl bD rfl hx1) rfl<|R.q (q.dD (ds:=eL x1) (fun _=>Wd.aT 2 rfl) hx1 rfl eB rfl) rfl<|R.s rfl (s.alloc (cs:=zD) fA rfl rfl) fun b2=>R.s rfl (s.st (us:=eL x1) (cs':=eL x1) 0 _ rfl rfl rfl rfl (.inl eB) rfl rfl rfl rfl) fun _=>R.nil ?_
         refine R.reg rfl<|R.q (q.a8 (off':=0) rfl bj rfl) rfl<|R.q (q.ld 2 rfl rfl bA rfl) rfl<|R.q (q.a8 (off':=2) rfl fZ rfl) rfl<|R.q (q.ld 0 rfl rfl av rfl) rfl<|?_
         rcases dO r.ai x1.aj with ⟨dF,lp⟩ | ⟨pd,eC,dF,fU,Cw⟩
         ·
          refine R.c (q.call jS rfl rfl (fun w hw=>(cv (congrArg (Value.int .i64) dF) (ff _ (r.ai) (x1.aj) w (hw.aT 0 rfl) )))) rfl<|R.q (q.lss (b:=true) rfl rfl (by decide)) rfl<|R.u 6 rfl<|R.nil ?_
          refine R.aD rfl rfl ?_
          refine R.reg rfl<|R.u 1 rfl<|R.nil ?_
          have hz:da r=false:=by (first|exact uB hx1 (by omega)|exact xx hx1 HS (of_decide_eq_true ‹_›))
          rw [hz]
          exact R.w1 () [3] [] rfl Tryz.results51 (RV.tmp rfl) rfl rfl rfl rfl
         ·
          refine R.c (q.call jS rfl rfl (fun w hw=>(cv (congrArg (Value.int .i64) dF) (ff _ (r.ai) (x1.aj) w (hw.aT 0 rfl) )))) rfl<|R.q (q.lss rfl rfl (decide_eq_false (by omega))) rfl<|R.u 2 rfl<|R.qg rfl (q.a8 (off':=2) rfl fZ rfl) rfl<|R.qg rfl (q.ld 0 rfl rfl av rfl) rfl<|?_
          rcases Bool.eq_false_or_eq_true (decide (x1.aj∈seen)) with h9|h9
          ·
           refine R.cg rfl (q.call mY rfl rfl (fun w hw=>(cv (congrArg Value.bool h9) (eb _ (seen) (x1.aj) w (hw.row 1 rfl) )))) rfl<|R.u 1 rfl<|R.nil ?_
           refine R.aD rfl rfl ?_
           refine R.reg rfl<|R.u 1 rfl<|R.nil ?_
           have hz:da r=false:=by (first|exact uB hx1 (by omega)|exact xx hx1 HS (of_decide_eq_true ‹_›))
           rw [hz]
           exact R.w1 () [3] [] rfl Tryz.results51 (RV.tmp rfl) rfl rfl rfl rfl
          ·
           refine R.cg rfl (q.call mY rfl rfl (fun w hw=>(cv (congrArg Value.bool h9) (eb _ (seen) (x1.aj) w (hw.row 1 rfl) )))) rfl<|R.u 1 rfl<|R.nil ?_
           refine R.aI rfl rfl ?_
           refine R.reg rfl<|R.u 1 rfl<|R.q (q.a8 (off':=2) rfl fZ rfl) rfl<|R.q (q.ld 0 rfl rfl av rfl) rfl<|R.s rfl (s.bs (l:=([x1.aj]:List Int)) ct iH rfl rfl rfl rfl rfl rfl rfl) fun b3=>R.s rfl (s.app (l2:=[x1.aj]) 2 _ rfl rfl rfl (fun _=>Wd.row 0 rfl) jz (by first|omega|(simp;done)|(simp;omega)) (by first|omega|(simp;done)|(simp;omega)) (fun _=>rfl) rfl) fun v1=>R.u 1 rfl<|R.nil ?_
           refine R.reg rfl<|R.q (q.add (r:=((k+1:Nat):Int)) rfl rfl (wr (by omega))) rfl<|R.u 1 rfl<|R.nil ?_
           refine R.back (k+1,v1,(seen++([x1.aj]))) rfl (by (exact ⟨by omega,by rw [jm Held.aj hx1,← HS],(by rw [List.take_add_one,hx1];intro h hh;rcases List.mem_append.1 hh with hh|hh;exact HF h hh;rw [List.mem_singleton.1 hh];omega),tw HN (of_decide_eq_false ‹_›)⟩)) (by dsimp only;omega) ⟨rfl,rfl,rfl,rfl,rfl,trivial⟩ (fun _=>Wd.aM [2,3,4] [0,1,2,3] rfl rfl rfl)
        ·
         refine R.q (q.lss rfl rfl (decide_eq_false (by omega))) rfl<|R.nil ?_
         refine R.aI rfl rfl ?_
         refine R.reg rfl<|R.u 1 rfl<|R.nil ?_
         refine R.reg rfl<|R.q (q.a8 (off':=1) rfl bO rfl) rfl<|R.q (q.ld 1 rfl rfl cw rfl) rfl<|R.q (q.len' (fun _=>Wd.aT 1 rfl) rfl Tryz.underlying28) rfl<|R.u 1 rfl<|R.nil ?_
         refine R.row0 (α:=Int) 3 ?_
         refine R.loop (fun g_:Nat×Value×(List Int)=>[(1,.pointer (some ⟨b1,0,none⟩)),(6,g_.2.1),(74,az),(75,iV (r.Things.length:Int)),(76,iV (g_.1:Int))]) (fun g_:Nat×Value×(List Int)=>[ag.row 3 g_.2.1 (g_.2.2:List Int),ag.row 3 u (seen:List Int),ag.box b1 [aF,az,aC,aB,iV r.ae,iV r.af] 32,ag.held w own]) (fun g_:Nat×Value×(List Int)=>[ag.ls aF (r.ai:List aj),ag.ls az (r.Things:List ah),ag.ls aC (r.Held:List Held),ag.ls aB (r.Notes:List Note)]) (fun g_:Nat×Value×(List Int)=>g_.1≤r.Things.length∧g_.2.2=(r.Things.take g_.1).map ah.ID) (fun g_:Nat×Value×(List Int)=>r.Things.length-g_.1) (0,(nS),[]) rfl (by exact ⟨by omega,rfl⟩) ⟨rfl,rfl,rfl,rfl,rfl,trivial⟩ (fun _=>Wd.pick [0,1,2,3] [0,1,2,3] rfl rfl rfl) ?_
         rintro ⟨j,u2,ts⟩ ⟨hj,HT⟩
         dsimp only at *
         have ED:ts.length≤1000:=by rw [HT,List.length_map,List.length_take];omega
         refine R.reg rfl<|?_
         by_cases h10:j<r.Things.length
         ·
          refine R.q (q.lss rfl rfl (decide_eq_true (by omega))) rfl<|R.nil ?_
          refine R.aD rfl rfl ?_
          refine R.reg rfl<|?_
          obtain ⟨x2,hx2⟩:∃z,r.Things[j]? = some z:=⟨_,List.getElem?_eq_getElem (by omega)⟩
          refine R.q (q.idx (i:=j) (fun _=>Wd.aT 1 rfl) rfl rfl fb rfl hx2) rfl<|R.q (q.dD (ds:=eF x2) (fun _=>Wd.aT 1 rfl) hx2 rfl ft rfl) rfl<|R.s rfl (s.alloc (cs:=[iV 0,iV 0,.string (⟨#[]⟩)]) gi rfl rfl) fun b4=>R.s rfl (s.st (us:=eF x2) (cs':=eF x2) 0 _ rfl rfl rfl rfl (.inl ft) rfl rfl rfl rfl) fun _=>R.nil ?_
          refine R.reg rfl<|R.u 1 rfl<|R.q (q.a8 (off':=0) rfl iZ rfl) rfl<|R.q (q.ld 0 rfl rfl av rfl) rfl<|R.s rfl (s.bs (l:=([x2.ID]:List Int)) ct iH rfl rfl rfl rfl rfl rfl rfl) fun b5=>R.s rfl (s.app (l2:=[x2.ID]) 2 _ rfl rfl rfl (fun _=>Wd.row 0 rfl) jz (by first|omega|(simp;done)|(simp;omega)) (by first|omega|(simp;done)|(simp;omega)) (fun _=>rfl) rfl) fun v2=>R.u 1 rfl<|R.nil ?_
          refine R.reg rfl<|R.q (q.add (r:=((j+1:Nat):Int)) rfl rfl (wr (by omega))) rfl<|R.u 1 rfl<|R.nil ?_
          refine R.back (j+1,v2,(ts++([x2.ID]))) rfl (by (exact ⟨by omega,by rw [jm ah.ID hx2,← HT]⟩)) (by dsimp only;omega) ⟨rfl,rfl,rfl,rfl,rfl,trivial⟩ (fun _=>Wd.aM [2,3,4,5] [0,1,2,3] rfl rfl rfl)
         ·
          refine R.q (q.lss rfl rfl (decide_eq_false (by omega))) rfl<|R.nil ?_
          refine R.aI rfl rfl ?_
          refine R.reg rfl<|R.u 1 rfl<|R.q (q.a8 (off':=0) rfl bj rfl) rfl<|R.q (q.ld 2 rfl rfl bA rfl) rfl<|R.s rfl (s.nT vR rfl rfl (fun w hw=>km _ (r.ai) w (hw.aT 0 rfl) (by first|omega|assumption)) rfl) fun v3=>?_
          rcases Bool.eq_false_or_eq_true (decide (ts=(aY r.ai))) with h11|h11
          ·
           refine R.c (q.call vW rfl rfl (fun w hw=>(cv (congrArg Value.bool h11) (o5 _ (ts) _ ((aY r.ai)) w (hw.row 1 rfl) (hw.row 0 rfl) )))) rfl<|R.u 1 rfl<|R.nil ?_
           refine R.aI rfl rfl ?_
           by_cases h12:r.ai.length=0
           ·
            by_cases EF:ts.length=0
            ·
             refine R.dM rfl mixed (by kernel_rfl)<|Q.q (q.a8 (off':=0) rfl bj rfl) rfl<|Q.q (q.ld 3 rfl rfl bA rfl) rfl<|Q.q (q.len' (fun _=>Wd.aT 0 rfl) rfl Tryz.underlying27) rfl<|Q.q (q.eql rfl rfl (beq_iff_eq.2 (by omega))) rfl<|Q.u 16 rfl<|Q.qg rfl (q.len' (fun _=>Wd.row 1 rfl) rfl Tryz.underlying60) rfl<|Q.qg rfl (q.eql rfl rfl (beq_iff_eq.2 (by omega))) rfl<|Q.u 13 rfl<|Q.nil ?_
             have hz:da r=true:=by (first|exact dA (by omega) (by omega) (by omega) (by omega) (by omega) HS (by omega) HF HN HT (by omega) (of_decide_eq_true ‹_›) (.inl (by omega)) (.inl (by omega))|exact dA (by omega) (by omega) (by omega) (by omega) (by omega) HS (by omega) HF HN HT (by omega) (of_decide_eq_true ‹_›) (.inl (by omega)) (.inr ⟨_,rfl,by assumption⟩)|exact dA (by omega) (by omega) (by omega) (by omega) (by omega) HS (by omega) HF HN HT (by omega) (of_decide_eq_true ‹_›) (.inr ⟨_,rfl,by assumption⟩) (.inl (by omega))|exact dA (by omega) (by omega) (by omega) (by omega) (by omega) HS (by omega) HF HN HT (by omega) (of_decide_eq_true ‹_›) (.inr ⟨_,rfl,by assumption⟩) (.inr ⟨_,rfl,by assumption⟩)|exact o7 rfl ‹_› | exact o8 HT (by omega) rfl ‹_›)
             rw [hz]
             exact R.w1 () [4] [] rfl Tryz.results51 (RV.tmp rfl) rfl rfl rfl rfl
            ·
             obtain ⟨x3,hx3⟩:∃z,ts[(ts.length-1)]? = some z:=⟨_,List.getElem?_eq_getElem (by omega)⟩
             by_cases EG:x3<r.af
             ·
              refine R.dM rfl mixed (by kernel_rfl)<|Q.q (q.a8 (off':=0) rfl bj rfl) rfl<|Q.q (q.ld 3 rfl rfl bA rfl) rfl<|Q.q (q.len' (fun _=>Wd.aT 0 rfl) rfl Tryz.underlying27) rfl<|Q.q (q.eql rfl rfl (beq_iff_eq.2 (by omega))) rfl<|Q.u 16 rfl<|Q.qg rfl (q.len' (fun _=>Wd.row 1 rfl) rfl Tryz.underlying60) rfl<|Q.qg rfl (q.eql rfl rfl (beq_eq_false_iff_ne.2 (by omega))) rfl<|Q.u 3 rfl<|Q.qg rfl (q.len' (fun _=>Wd.row 1 rfl) rfl Tryz.underlying60) rfl<|Q.qg rfl (q.sub (r:=((ts.length-1:Nat):Int)) rfl rfl (wr (by omega))) rfl<|Q.qg rfl (q.idx (i:=(ts.length-1)) (fun _=>Wd.row 1 rfl) rfl rfl ct rfl hx3) rfl<|Q.qg rfl (q.fk (fun _=>Wd.row 1 rfl) hx3 rfl av rfl) rfl<|Q.qg rfl (q.a8 (off':=5) rfl cU rfl) rfl<|Q.qg rfl (q.ld 3 rfl rfl av rfl) rfl<|Q.qg rfl (q.lss rfl rfl (decide_eq_true (by omega))) rfl<|Q.u 3 rfl<|Q.nil ?_
              have hz:da r=true:=by (first|exact dA (by omega) (by omega) (by omega) (by omega) (by omega) HS (by omega) HF HN HT (by omega) (of_decide_eq_true ‹_›) (.inl (by omega)) (.inl (by omega))|exact dA (by omega) (by omega) (by omega) (by omega) (by omega) HS (by omega) HF HN HT (by omega) (of_decide_eq_true ‹_›) (.inl (by omega)) (.inr ⟨_,hx3,by assumption⟩)|exact dA (by omega) (by omega) (by omega) (by omega) (by omega) HS (by omega) HF HN HT (by omega) (of_decide_eq_true ‹_›) (.inr ⟨_,rfl,by assumption⟩) (.inl (by omega))|exact dA (by omega) (by omega) (by omega) (by omega) (by omega) HS (by omega) HF HN HT (by omega) (of_decide_eq_true ‹_›) (.inr ⟨_,rfl,by assumption⟩) (.inr ⟨_,hx3,by assumption⟩)|exact o7 rfl ‹_› | exact o8 HT (by omega) hx3 ‹_›)
              rw [hz]
              exact R.w1 () [4] [] rfl Tryz.results51 (RV.tmp rfl) rfl rfl rfl rfl
             ·
              refine R.dM rfl mixed (by kernel_rfl)<|Q.q (q.a8 (off':=0) rfl bj rfl) rfl<|Q.q (q.ld 3 rfl rfl bA rfl) rfl<|Q.q (q.len' (fun _=>Wd.aT 0 rfl) rfl Tryz.underlying27) rfl<|Q.q (q.eql rfl rfl (beq_iff_eq.2 (by omega))) rfl<|Q.u 16 rfl<|Q.qg rfl (q.len' (fun _=>Wd.row 1 rfl) rfl Tryz.underlying60) rfl<|Q.qg rfl (q.eql rfl rfl (beq_eq_false_iff_ne.2 (by omega))) rfl<|Q.u 3 rfl<|Q.qg rfl (q.len' (fun _=>Wd.row 1 rfl) rfl Tryz.underlying60) rfl<|Q.qg rfl (q.sub (r:=((ts.length-1:Nat):Int)) rfl rfl (wr (by omega))) rfl<|Q.qg rfl (q.idx (i:=(ts.length-1)) (fun _=>Wd.row 1 rfl) rfl rfl ct rfl hx3) rfl<|Q.qg rfl (q.fk (fun _=>Wd.row 1 rfl) hx3 rfl av rfl) rfl<|Q.qg rfl (q.a8 (off':=5) rfl cU rfl) rfl<|Q.qg rfl (q.ld 3 rfl rfl av rfl) rfl<|Q.qg rfl (q.lss rfl rfl (decide_eq_false (by omega))) rfl<|Q.u 3 rfl<|Q.nil ?_
              have hz:da r=false:=by (first|exact dA (by omega) (by omega) (by omega) (by omega) (by omega) HS (by omega) HF HN HT (by omega) (of_decide_eq_true ‹_›) (.inl (by omega)) (.inl (by omega))|exact dA (by omega) (by omega) (by omega) (by omega) (by omega) HS (by omega) HF HN HT (by omega) (of_decide_eq_true ‹_›) (.inl (by omega)) (.inr ⟨_,hx3,by assumption⟩)|exact dA (by omega) (by omega) (by omega) (by omega) (by omega) HS (by omega) HF HN HT (by omega) (of_decide_eq_true ‹_›) (.inr ⟨_,rfl,by assumption⟩) (.inl (by omega))|exact dA (by omega) (by omega) (by omega) (by omega) (by omega) HS (by omega) HF HN HT (by omega) (of_decide_eq_true ‹_›) (.inr ⟨_,rfl,by assumption⟩) (.inr ⟨_,hx3,by assumption⟩)|exact o7 rfl ‹_› | exact o8 HT (by omega) hx3 ‹_›)
              rw [hz]
              exact R.w1 () [4] [] rfl Tryz.results51 (RV.tmp rfl) rfl rfl rfl rfl
           ·
            obtain ⟨x4,hx4⟩:∃z,r.ai[(r.ai.length-1)]? = some z:=⟨_,List.getElem?_eq_getElem (by omega)⟩
            by_cases EH:x4.ID<r.ae
            ·
             by_cases h16:ts.length=0
             ·
              refine R.dM rfl mixed (by kernel_rfl)<|Q.q (q.a8 (off':=0) rfl bj rfl) rfl<|Q.q (q.ld 3 rfl rfl bA rfl) rfl<|Q.q (q.len' (fun _=>Wd.aT 0 rfl) rfl Tryz.underlying27) rfl<|Q.q (q.eql rfl rfl (beq_eq_false_iff_ne.2 (by omega))) rfl<|Q.u 1 rfl<|Q.qg rfl (q.a8 (off':=0) rfl bj rfl) rfl<|Q.qg rfl (q.ld 3 rfl rfl bA rfl) rfl<|Q.qg rfl (q.a8 (off':=0) rfl bj rfl) rfl<|Q.qg rfl (q.ld 3 rfl rfl bA rfl) rfl<|Q.qg rfl (q.len' (fun _=>Wd.aT 0 rfl) rfl Tryz.underlying27) rfl<|Q.qg rfl (q.sub (r:=((r.ai.length-1:Nat):Int)) rfl rfl (wr (by omega))) rfl<|Q.qg rfl (q.idx (i:=(r.ai.length-1)) (fun _=>Wd.aT 0 rfl) rfl rfl cK rfl hx4) rfl<|Q.qg rfl (q.dm (j':=0) (fun _=>Wd.aT 0 rfl) hx4 rfl bH rfl) rfl<|Q.qg rfl (q.fk (fun _=>Wd.aT 0 rfl) hx4 rfl av rfl) rfl<|Q.qg rfl (q.a8 (off':=4) rfl bW rfl) rfl<|Q.qg rfl (q.ld 3 rfl rfl av rfl) rfl<|Q.qg rfl (q.lss rfl rfl (decide_eq_true (by omega))) rfl<|Q.u 3 rfl<|Q.qg rfl (q.len' (fun _=>Wd.row 1 rfl) rfl Tryz.underlying60) rfl<|Q.qg rfl (q.eql rfl rfl (beq_iff_eq.2 (by omega))) rfl<|Q.u 13 rfl<|Q.nil ?_
              have hz:da r=true:=by (first|exact dA (by omega) (by omega) (by omega) (by omega) (by omega) HS (by omega) HF HN HT (by omega) (of_decide_eq_true ‹_›) (.inl (by omega)) (.inl (by omega))|exact dA (by omega) (by omega) (by omega) (by omega) (by omega) HS (by omega) HF HN HT (by omega) (of_decide_eq_true ‹_›) (.inl (by omega)) (.inr ⟨_,rfl,by assumption⟩)|exact dA (by omega) (by omega) (by omega) (by omega) (by omega) HS (by omega) HF HN HT (by omega) (of_decide_eq_true ‹_›) (.inr ⟨_,hx4,by assumption⟩) (.inl (by omega))|exact dA (by omega) (by omega) (by omega) (by omega) (by omega) HS (by omega) HF HN HT (by omega) (of_decide_eq_true ‹_›) (.inr ⟨_,hx4,by assumption⟩) (.inr ⟨_,rfl,by assumption⟩)|exact o7 hx4 ‹_› | exact o8 HT (by omega) rfl ‹_›)
              rw [hz]
              exact R.w1 () [4] [] rfl Tryz.results51 (RV.tmp rfl) rfl rfl rfl rfl
             ·
              obtain ⟨x5,hx5⟩:∃z,ts[(ts.length-1)]? = some z:=⟨_,List.getElem?_eq_getElem (by omega)⟩
              by_cases EI:x5<r.af
              ·
               refine R.dM rfl mixed (by kernel_rfl)<|Q.q (q.a8 (off':=0) rfl bj rfl) rfl<|Q.q (q.ld 3 rfl rfl bA rfl) rfl<|Q.q (q.len' (fun _=>Wd.aT 0 rfl) rfl Tryz.underlying27) rfl<|Q.q (q.eql rfl rfl (beq_eq_false_iff_ne.2 (by omega))) rfl<|Q.u 1 rfl<|Q.qg rfl (q.a8 (off':=0) rfl bj rfl) rfl<|Q.qg rfl (q.ld 3 rfl rfl bA rfl) rfl<|Q.qg rfl (q.a8 (off':=0) rfl bj rfl) rfl<|Q.qg rfl (q.ld 3 rfl rfl bA rfl) rfl<|Q.qg rfl (q.len' (fun _=>Wd.aT 0 rfl) rfl Tryz.underlying27) rfl<|Q.qg rfl (q.sub (r:=((r.ai.length-1:Nat):Int)) rfl rfl (wr (by omega))) rfl<|Q.qg rfl (q.idx (i:=(r.ai.length-1)) (fun _=>Wd.aT 0 rfl) rfl rfl cK rfl hx4) rfl<|Q.qg rfl (q.dm (j':=0) (fun _=>Wd.aT 0 rfl) hx4 rfl bH rfl) rfl<|Q.qg rfl (q.fk (fun _=>Wd.aT 0 rfl) hx4 rfl av rfl) rfl<|Q.qg rfl (q.a8 (off':=4) rfl bW rfl) rfl<|Q.qg rfl (q.ld 3 rfl rfl av rfl) rfl<|Q.qg rfl (q.lss rfl rfl (decide_eq_true (by omega))) rfl<|Q.u 3 rfl<|Q.qg rfl (q.len' (fun _=>Wd.row 1 rfl) rfl Tryz.underlying60) rfl<|Q.qg rfl (q.eql rfl rfl (beq_eq_false_iff_ne.2 (by omega))) rfl<|Q.u 3 rfl<|Q.qg rfl (q.len' (fun _=>Wd.row 1 rfl) rfl Tryz.underlying60) rfl<|Q.qg rfl (q.sub (r:=((ts.length-1:Nat):Int)) rfl rfl (wr (by omega))) rfl<|Q.qg rfl (q.idx (i:=(ts.length-1)) (fun _=>Wd.row 1 rfl) rfl rfl ct rfl hx5) rfl<|Q.qg rfl (q.fk (fun _=>Wd.row 1 rfl) hx5 rfl av rfl) rfl<|Q.qg rfl (q.a8 (off':=5) rfl cU rfl) rfl<|Q.qg rfl (q.ld 3 rfl rfl av rfl) rfl<|Q.qg rfl (q.lss rfl rfl (decide_eq_true (by omega))) rfl<|Q.u 3 rfl<|Q.nil ?_
               have hz:da r=true:=by (first|exact dA (by omega) (by omega) (by omega) (by omega) (by omega) HS (by omega) HF HN HT (by omega) (of_decide_eq_true ‹_›) (.inl (by omega)) (.inl (by omega))|exact dA (by omega) (by omega) (by omega) (by omega) (by omega) HS (by omega) HF HN HT (by omega) (of_decide_eq_true ‹_›) (.inl (by omega)) (.inr ⟨_,hx5,by assumption⟩)|exact dA (by omega) (by omega) (by omega) (by omega) (by omega) HS (by omega) HF HN HT (by omega) (of_decide_eq_true ‹_›) (.inr ⟨_,hx4,by assumption⟩) (.inl (by omega))|exact dA (by omega) (by omega) (by omega) (by omega) (by omega) HS (by omega) HF HN HT (by omega) (of_decide_eq_true ‹_›) (.inr ⟨_,hx4,by assumption⟩) (.inr ⟨_,hx5,by assumption⟩)|exact o7 hx4 ‹_› | exact o8 HT (by omega) hx5 ‹_›)
               rw [hz]
               exact R.w1 () [4] [] rfl Tryz.results51 (RV.tmp rfl) rfl rfl rfl rfl
              ·
               refine R.dM rfl mixed (by kernel_rfl)<|Q.q (q.a8 (off':=0) rfl bj rfl) rfl<|Q.q (q.ld 3 rfl rfl bA rfl) rfl<|Q.q (q.len' (fun _=>Wd.aT 0 rfl) rfl Tryz.underlying27) rfl<|Q.q (q.eql rfl rfl (beq_eq_false_iff_ne.2 (by omega))) rfl<|Q.u 1 rfl<|Q.qg rfl (q.a8 (off':=0) rfl bj rfl) rfl<|Q.qg rfl (q.ld 3 rfl rfl bA rfl) rfl<|Q.qg rfl (q.a8 (off':=0) rfl bj rfl) rfl<|Q.qg rfl (q.ld 3 rfl rfl bA rfl) rfl<|Q.qg rfl (q.len' (fun _=>Wd.aT 0 rfl) rfl Tryz.underlying27) rfl<|Q.qg rfl (q.sub (r:=((r.ai.length-1:Nat):Int)) rfl rfl (wr (by omega))) rfl<|Q.qg rfl (q.idx (i:=(r.ai.length-1)) (fun _=>Wd.aT 0 rfl) rfl rfl cK rfl hx4) rfl<|Q.qg rfl (q.dm (j':=0) (fun _=>Wd.aT 0 rfl) hx4 rfl bH rfl) rfl<|Q.qg rfl (q.fk (fun _=>Wd.aT 0 rfl) hx4 rfl av rfl) rfl<|Q.qg rfl (q.a8 (off':=4) rfl bW rfl) rfl<|Q.qg rfl (q.ld 3 rfl rfl av rfl) rfl<|Q.qg rfl (q.lss rfl rfl (decide_eq_true (by omega))) rfl<|Q.u 3 rfl<|Q.qg rfl (q.len' (fun _=>Wd.row 1 rfl) rfl Tryz.underlying60) rfl<|Q.qg rfl (q.eql rfl rfl (beq_eq_false_iff_ne.2 (by omega))) rfl<|Q.u 3 rfl<|Q.qg rfl (q.len' (fun _=>Wd.row 1 rfl) rfl Tryz.underlying60) rfl<|Q.qg rfl (q.sub (r:=((ts.length-1:Nat):Int)) rfl rfl (wr (by omega))) rfl<|Q.qg rfl (q.idx (i:=(ts.length-1)) (fun _=>Wd.row 1 rfl) rfl rfl ct rfl hx5) rfl<|Q.qg rfl (q.fk (fun _=>Wd.row 1 rfl) hx5 rfl av rfl) rfl<|Q.qg rfl (q.a8 (off':=5) rfl cU rfl) rfl<|Q.qg rfl (q.ld 3 rfl rfl av rfl) rfl<|Q.qg rfl (q.lss rfl rfl (decide_eq_false (by omega))) rfl<|Q.u 3 rfl<|Q.nil ?_
               have hz:da r=false:=by (first|exact dA (by omega) (by omega) (by omega) (by omega) (by omega) HS (by omega) HF HN HT (by omega) (of_decide_eq_true ‹_›) (.inl (by omega)) (.inl (by omega))|exact dA (by omega) (by omega) (by omega) (by omega) (by omega) HS (by omega) HF HN HT (by omega) (of_decide_eq_true ‹_›) (.inl (by omega)) (.inr ⟨_,hx5,by assumption⟩)|exact dA (by omega) (by omega) (by omega) (by omega) (by omega) HS (by omega) HF HN HT (by omega) (of_decide_eq_true ‹_›) (.inr ⟨_,hx4,by assumption⟩) (.inl (by omega))|exact dA (by omega) (by omega) (by omega) (by omega) (by omega) HS (by omega) HF HN HT (by omega) (of_decide_eq_true ‹_›) (.inr ⟨_,hx4,by assumption⟩) (.inr ⟨_,hx5,by assumption⟩)|exact o7 hx4 ‹_› | exact o8 HT (by omega) hx5 ‹_›)
               rw [hz]
               exact R.w1 () [4] [] rfl Tryz.results51 (RV.tmp rfl) rfl rfl rfl rfl
            ·
             refine R.dM rfl mixed (by kernel_rfl)<|Q.q (q.a8 (off':=0) rfl bj rfl) rfl<|Q.q (q.ld 3 rfl rfl bA rfl) rfl<|Q.q (q.len' (fun _=>Wd.aT 0 rfl) rfl Tryz.underlying27) rfl<|Q.q (q.eql rfl rfl (beq_eq_false_iff_ne.2 (by omega))) rfl<|Q.u 1 rfl<|Q.qg rfl (q.a8 (off':=0) rfl bj rfl) rfl<|Q.qg rfl (q.ld 3 rfl rfl bA rfl) rfl<|Q.qg rfl (q.a8 (off':=0) rfl bj rfl) rfl<|Q.qg rfl (q.ld 3 rfl rfl bA rfl) rfl<|Q.qg rfl (q.len' (fun _=>Wd.aT 0 rfl) rfl Tryz.underlying27) rfl<|Q.qg rfl (q.sub (r:=((r.ai.length-1:Nat):Int)) rfl rfl (wr (by omega))) rfl<|Q.qg rfl (q.idx (i:=(r.ai.length-1)) (fun _=>Wd.aT 0 rfl) rfl rfl cK rfl hx4) rfl<|Q.qg rfl (q.dm (j':=0) (fun _=>Wd.aT 0 rfl) hx4 rfl bH rfl) rfl<|Q.qg rfl (q.fk (fun _=>Wd.aT 0 rfl) hx4 rfl av rfl) rfl<|Q.qg rfl (q.a8 (off':=4) rfl bW rfl) rfl<|Q.qg rfl (q.ld 3 rfl rfl av rfl) rfl<|Q.qg rfl (q.lss rfl rfl (decide_eq_false (by omega))) rfl<|Q.u 18 rfl<|Q.nil ?_
             have hz:da r=false:=by (first|exact dA (by omega) (by omega) (by omega) (by omega) (by omega) HS (by omega) HF HN HT (by omega) (of_decide_eq_true ‹_›) (.inl (by omega)) (.inl (by omega))|exact dA (by omega) (by omega) (by omega) (by omega) (by omega) HS (by omega) HF HN HT (by omega) (of_decide_eq_true ‹_›) (.inl (by omega)) (.inr ⟨_,rfl,by assumption⟩)|exact dA (by omega) (by omega) (by omega) (by omega) (by omega) HS (by omega) HF HN HT (by omega) (of_decide_eq_true ‹_›) (.inr ⟨_,hx4,by assumption⟩) (.inl (by omega))|exact dA (by omega) (by omega) (by omega) (by omega) (by omega) HS (by omega) HF HN HT (by omega) (of_decide_eq_true ‹_›) (.inr ⟨_,hx4,by assumption⟩) (.inr ⟨_,rfl,by assumption⟩)|exact o7 hx4 ‹_› | exact o8 HT (by omega) rfl ‹_›)
             rw [hz]
             exact R.w1 () [4] [] rfl Tryz.results51 (RV.tmp rfl) rfl rfl rfl rfl
          ·
           refine R.c (q.call vW rfl rfl (fun w hw=>(cv (congrArg Value.bool h11) (o5 _ (ts) _ ((aY r.ai)) w (hw.row 1 rfl) (hw.row 0 rfl) )))) rfl<|R.u 1 rfl<|R.nil ?_
           refine R.aD rfl rfl ?_
           refine R.reg rfl<|R.u 1 rfl<|R.nil ?_
           have hz:da r=false:=by (exact vx HT (by omega) (of_decide_eq_false ‹_›))
           rw [hz]
           exact R.w1 () [4] [] rfl Tryz.results51 (RV.tmp rfl) rfl rfl rfl rfl
       ·
        refine R.qg rfl (q.neq rfl rfl (bne_iff_ne.2 (by omega))) rfl<|R.u 1 rfl<|R.nil ?_
        refine R.aD rfl rfl ?_
        refine R.reg rfl<|R.u 1 rfl<|R.nil ?_
        have hz:da r=false:=by (exact ei (fun hw=>by have a1:cW r.ai=0:=hw.tree;have a2:=hw.fN;have a3:=hw.jV;have a4:=hw.kP;have a5:=hw.jY;have a6:=hw.jZ;have a7:=hw.hlen;omega))
        rw [hz]
        exact R.w1 () [1] [] rfl Tryz.results51 (RV.tmp rfl) rfl rfl rfl rfl
 ·
  refine R.q (q.fw rfl rfl Tryz.underlying35 (by omega)) rfl<|R.u 35 rfl<|R.nil ?_
  refine R.aD rfl rfl ?_
  refine R.reg rfl<|R.u 1 rfl<|R.nil ?_
  have hz:da r=false:=by (exact ei (fun hw=>by have a1:cW r.ai=0:=hw.tree;have a2:=hw.fN;have a3:=hw.jV;have a4:=hw.kP;have a5:=hw.jY;have a6:=hw.jZ;have a7:=hw.hlen;omega))
  rw [hz]
  exact R.w1 () [1] [] rfl Tryz.results51 (RV.tmp rfl) rfl rfl rfl rfl
def prevK (l:List Change)(k:Nat):Option ByteArray:=if k=0 then none else (l[k-1]?).map Change.Key
section
variable {l:List Change} {k:Nat} {x y:Change} {z:ap} {Z:Option ap}
theorem drop_at (hx:l[k]? = some x):l.drop k=x::l.drop (k+1):=by
 obtain ⟨h,rfl⟩:=List.getElem?_eq_some_iff.1 hx
 exact List.drop_eq_getElem_cons h
theorem mj (h:¬ 0<k):lC (prevK l k) x=true:=by unfold prevK;rw [if_pos (by omega)];rfl
theorem ml (h:0<k)(hy:l[k-1]? = some y)(hl:(fT x.Key y.Key||decide (x.Key=y.Key))=false):lC (prevK l k) x=true:=by
 unfold prevK;rw [if_neg (by omega),hy];exact AQ hl
theorem jQ (h:0<k)(hy:l[k-1]? = some y)(hl:(fT x.Key y.Key||decide (x.Key=y.Key))=true):lC (prevK l k) x=false:=by
 unfold prevK;rw [if_neg (by omega),hy];exact yO hl
theorem zB (h:x.Gone=false):(⟨x.Key,x.Val,false⟩:Change)=x:=by rw [← h]
theorem nN (h:pgo (l.drop k) (prevK l k) z=Z)(hx:l[k]? = some x)(h1:lC (prevK l k) x=true)(h2:x.Gone=false)(h3:(rowP z ⟨x.Key,x.Val,false⟩).2=true):pgo (l.drop (k+1)) (prevK l (k+1)) (rowP z ⟨x.Key,x.Val,false⟩).1=Z:=by
 rw [zB h2] at h3 ⊢
 rw [drop_at hx] at h;simp only [pgo] at h
 rw [if_pos (by rw [h1,h2,h3];rfl)] at h
 unfold prevK;rw [if_neg (by omega),Nat.add_sub_cancel,hx];exact h
theorem dL (h:pgo (l.drop k) (prevK l k) z=pgo l none r0)(hx:l[k]? = some x)(h1:lC (prevK l k) x=false∨x.Gone=true∨x.Gone=false∧(rowP z ⟨x.Key,x.Val,false⟩).2=false):aZ l=(r0,4):=by
 rw [drop_at hx] at h;simp only [pgo] at h
 rw [if_neg (by
  rcases h1 with e|e|⟨e1,e⟩
  ·rw [e];simp
  ·rw [e];simp
  ·rw [zB e1] at e;rw [e];simp)] at h
 unfold aZ;rw [← h]
theorem xy (h:pgo (l.drop k) (prevK l k) z=pgo l none r0)(hk:l.length≤k):pgo l none r0=some z:=by
 rw [List.drop_of_length_le hk] at h;exact h.symm
theorem AU (h:pgo (l.drop k) (prevK l k) z=pgo l none r0)(hk:l.length≤k)(hw:da z=false):aZ l=(r0,4):=by
 unfold aZ;rw [xy h hk];dsimp only;rw [if_neg (by rw [hw];decide)]
theorem CV (h:pgo (l.drop k) (prevK l k) z=pgo l none r0)(hk:l.length≤k)(hw:da z=true):aZ l=(z,0):=by
 unfold aZ;rw [xy h hk];dsimp only;rw [if_pos hw]
theorem mo (z:ap)(x:Change):(rowP z x).1.ai.length≤z.ai.length+1∧(rowP z x).1.Things.length≤z.Things.length+1∧(rowP z x).1.Held.length≤z.Held.length+1:=by
 unfold rowP
 (repeat' split) <;> dsimp only <;> (repeat' split) <;> simp [tf,vo,p6,xc] <;> omega
end
attribute [local irreducible] rowP pgo aZ
set_option maxHeartbeats 1600000 in
theorem vz (bm:Value)(l:List Change)(w:World)(own:List Nat)(H:Wd w (blks []++own) ([]++[ag.held w own]) [ag.ls bm (l:List Change),bz] w)(hl:l.length≤900)(hc:∀c∈l,c.Key.size≤1000∧c.Val.size≤1000):Calls Tryz.prog 17 #[bm] w fun e w' => ∃z:Value×Value×Value×Value,e = .returned (.tuple #[.agg #[z.1,z.2.1,z.2.2.1,z.2.2.2,iV ((((aZ l)).1).ae),iV ((((aZ l)).1).af)],e6 (((aZ l)).2)])∧Wd w (blks []++own) ([]++[ag.held w own]) [ag.ls z.1 ((((aZ l)).1).ai:List aj),ag.ls z.2.1 ((((aZ l)).1).Things:List ah),ag.ls z.2.2.1 ((((aZ l)).1).Held:List Held),ag.ls z.2.2.2 ((((aZ l)).1).Notes:List Note)] w':=by
 have uP:=H.cX 0 rfl
 refine R.dc (n:=45) (vs:=[bm]) (B:=[ag.held w own]) [(0,bm)] Tryz.func17 rfl rfl rfl rfl H ?_
 refine R.reg rfl<|R.s rfl (s.alloc (cs:=aJ) cD rfl rfl) fun b1=>R.u 1 rfl<|R.nil ?_
 refine R.reg rfl<|R.s rfl (s.alloc (cs:=aJ) cD rfl rfl) fun b2=>R.nil ?_
 refine R.reg rfl<|R.u 1 rfl<|R.q (q.len' (fun _=>Wd.aT 0 rfl) rfl Tryz.underlying23) rfl<|R.u 1 rfl<|R.nil ?_
 refine R.row0 (α:=aj) 88 ?_
 refine R.row0 (α:=ah) 62 ?_
 refine R.row0 (α:=Held) 85 ?_
 refine R.row0 (α:=Note) 72 ?_
 refine R.loop (fun g_:Nat×ap×Value×Value×Value×Value=>[(0,bm),(2,.pointer (some ⟨b1,0,none⟩)),(4,.pointer (some ⟨b2,0,none⟩)),(7,bm),(8,iV (l.length:Int)),(9,iV (g_.1:Int))]) (fun g_:Nat×ap×Value×Value×Value×Value=>[ag.row 72 g_.2.2.2.2.2 (g_.2.1.Notes:List Note),ag.row 85 g_.2.2.2.2.1 (g_.2.1.Held:List Held),ag.row 62 g_.2.2.2.1 (g_.2.1.Things:List ah),ag.row 88 g_.2.2.1 (g_.2.1.ai:List aj),ag.box b2 [g_.2.2.1,g_.2.2.2.1,g_.2.2.2.2.1,g_.2.2.2.2.2,iV g_.2.1.ae,iV g_.2.1.af] 32,ag.box b1 aJ 32,ag.held w own]) (fun g_:Nat×ap×Value×Value×Value×Value=>[ag.ls bm (l:List Change),bz]) (fun g_:Nat×ap×Value×Value×Value×Value=>g_.1≤l.length∧pgo (l.drop g_.1) (prevK l g_.1) g_.2.1=pgo l none r0∧g_.2.1.ai.length≤g_.1∧g_.2.1.Things.length≤g_.1∧g_.2.1.Held.length≤g_.1) (fun g_:Nat×ap×Value×Value×Value×Value=>l.length-g_.1) (0,(⟨[],[],[],[],0,0⟩:ap),(nS),(nS),(nS),(nS)) rfl (by (try dsimp only);exact ⟨by omega,rfl,Nat.le_refl _,Nat.le_refl _,Nat.le_refl _⟩) ⟨rfl,rfl,rfl,rfl,rfl,rfl,trivial⟩ (fun _=>Wd.pick [0,1,2,3,4,5,6] [0,1] rfl rfl rfl) ?_
 rintro ⟨k,z,cz,ck,dB,cB⟩ ⟨hk,HP,E3,E4,E5⟩
 dsimp only at *
 refine R.reg rfl<|?_
 by_cases h1:k<l.length
 ·
  refine R.q (q.lss rfl rfl (decide_eq_true (by omega))) rfl<|R.nil ?_
  refine R.aD rfl rfl ?_
  refine R.reg rfl<|R.u 1 rfl<|?_
  obtain ⟨x1,hx1⟩:∃z,l[k]? = some z:=⟨_,List.getElem?_eq_getElem (by omega)⟩
  have D5:=hc x1 (List.mem_of_getElem? hx1)
  refine R.q (q.idx (i:=k) (fun _=>Wd.aT 0 rfl) rfl rfl bX rfl hx1) rfl<|R.q (q.dD (ds:=[.string x1.Key,.string x1.Val,.bool x1.Gone]) (fun _=>Wd.aT 0 rfl) hx1 rfl eA rfl) rfl<|R.s rfl (s.alloc (cs:=[.string (⟨#[]⟩),.string (⟨#[]⟩),.bool false]) fe rfl rfl) fun b3=>R.u 1 rfl<|R.s rfl (s.st (us:=[.string x1.Key,.string x1.Val,.bool x1.Gone]) (cs':=[.string x1.Key,.string x1.Val,.bool x1.Gone]) 0 _ rfl rfl rfl rfl (.inl eA) rfl rfl rfl rfl) fun _=>R.nil ?_
  by_cases h2:0<k
  ·
   obtain ⟨x2,hx2⟩:∃z,l[(k-1)]? = some z:=⟨_,List.getElem?_eq_getElem (by omega)⟩
   have D6:=hc x2 (List.mem_of_getElem? hx2)
   rcases Bool.eq_false_or_eq_true ((fT x1.Key x2.Key||decide (x1.Key=x2.Key))) with h3|h3
   ·
    refine R.dM rfl mixed (by kernel_rfl)<|Q.u 1 rfl<|Q.q (q.gtr rfl rfl (decide_eq_true (by omega))) rfl<|Q.u 1 rfl<|Q.qg rfl (q.a8 (off':=0) rfl bu rfl) rfl<|Q.qg rfl (q.ld 0 rfl rfl bF rfl) rfl<|Q.u 2 rfl<|Q.qg rfl (q.sub (r:=((k-1:Nat):Int)) rfl rfl (wr (by omega))) rfl<|Q.qg rfl (q.idx (i:=(k-1)) (fun _=>Wd.aT 0 rfl) rfl rfl bX rfl hx2) rfl<|Q.qg rfl (q.dm (j':=0) (fun _=>Wd.aT 0 rfl) hx2 rfl bu rfl) rfl<|Q.qg rfl (q.fk (fun _=>Wd.aT 0 rfl) hx2 rfl bF rfl) rfl<|Q.qg rfl (q.uF rfl rfl h3) rfl<|Q.u 10 rfl<|Q.nil ?_
    refine R.aD rfl rfl ?_
    refine R.reg rfl<|R.q (q.build (cs:=aJ) cY rfl rfl) rfl<|R.q (q.iface rfl bI) rfl<|R.s rfl (s.st (us:=aJ) (cs':=aJ) 6 _ rfl rfl rfl rfl (.inl ar) rfl rfl rfl rfl) fun _=>R.u 1 rfl<|R.nil ?_
    refine R.mp (fun _ hw=>hw.bg (α:=aj)) ?_
    refine R.mp (fun _ hw=>hw.bg (α:=ah)) ?_
    refine R.mp (fun _ hw=>hw.bg (α:=Held)) ?_
    refine R.mp (fun _ hw=>hw.bg (α:=Note)) ?_
    have hz:aZ l=((⟨[],[],[],[],0,0⟩:ap),4):=by (first|exact dL HP hx1 (.inl (jQ (by omega) hx2 ‹_›))|exact dL HP hx1 (.inr (.inl ‹_›))|exact dL HP hx1 (.inr (.inr ⟨by assumption,by first|assumption|exact jq ‹_› | exact jr ‹_›⟩)))
    rw [hz]
    exact R.w2 ((nS),(nS),(nS),(nS)) [7] [3,2,1,0] rfl Tryz.results17 (RV.cell 6 rfl rfl ar) (RV.tmp rfl) rfl rfl rfl (cL rfl (dP (by decide) rfl))
   ·
    rcases Bool.eq_false_or_eq_true (x1.Gone) with h4|h4
    ·
     rw [h4]
     refine R.dM rfl mixed (by kernel_rfl)<|Q.u 1 rfl<|Q.q (q.gtr rfl rfl (decide_eq_true (by omega))) rfl<|Q.u 1 rfl<|Q.qg rfl (q.a8 (off':=0) rfl bu rfl) rfl<|Q.qg rfl (q.ld 0 rfl rfl bF rfl) rfl<|Q.u 2 rfl<|Q.qg rfl (q.sub (r:=((k-1:Nat):Int)) rfl rfl (wr (by omega))) rfl<|Q.qg rfl (q.idx (i:=(k-1)) (fun _=>Wd.aT 0 rfl) rfl rfl bX rfl hx2) rfl<|Q.qg rfl (q.dm (j':=0) (fun _=>Wd.aT 0 rfl) hx2 rfl bu rfl) rfl<|Q.qg rfl (q.fk (fun _=>Wd.aT 0 rfl) hx2 rfl bF rfl) rfl<|Q.qg rfl (q.uF rfl rfl h3) rfl<|Q.u 2 rfl<|Q.qg rfl (q.a8 (off':=2) rfl fY rfl) rfl<|Q.qg rfl (q.ld 0 rfl rfl j7 rfl) rfl<|Q.u 6 rfl<|Q.nil ?_
     refine R.aD rfl rfl ?_
     refine R.reg rfl<|R.q (q.build (cs:=aJ) cY rfl rfl) rfl<|R.q (q.iface rfl bI) rfl<|R.s rfl (s.st (us:=aJ) (cs':=aJ) 6 _ rfl rfl rfl rfl (.inl ar) rfl rfl rfl rfl) fun _=>R.u 1 rfl<|R.nil ?_
     refine R.mp (fun _ hw=>hw.bg (α:=aj)) ?_
     refine R.mp (fun _ hw=>hw.bg (α:=ah)) ?_
     refine R.mp (fun _ hw=>hw.bg (α:=Held)) ?_
     refine R.mp (fun _ hw=>hw.bg (α:=Note)) ?_
     have hz:aZ l=((⟨[],[],[],[],0,0⟩:ap),4):=by (first|exact dL HP hx1 (.inl (jQ (by omega) hx2 ‹_›))|exact dL HP hx1 (.inr (.inl ‹_›))|exact dL HP hx1 (.inr (.inr ⟨by assumption,by first|assumption|exact jq ‹_› | exact jr ‹_›⟩)))
     rw [hz]
     exact R.w2 ((nS),(nS),(nS),(nS)) [7] [3,2,1,0] rfl Tryz.results17 (RV.cell 6 rfl rfl ar) (RV.tmp rfl) rfl rfl rfl (cL rfl (dP (by decide) rfl))
    ·
     rw [h4]
     rcases Bool.eq_false_or_eq_true (!((rowP z (⟨x1.Key,x1.Val,false⟩:Change)).2)) with h5|h5
     ·
      refine R.gN (fuel:=22) (Wd w (blks []++own) [ag.box b3 [.string x1.Key,.string x1.Val,.bool false] 52,ag.box b1 aJ 32,ag.held w own] [ag.ls bm (l:List Change),bz]) rfl mixed rfl ?_
      refine D.q (i:=0) rfl (by kernel_rfl) (fun _=>Wd.aM [0,6,7] [0,1] rfl rfl rfl) rfl (q.mv rfl) rfl<|D.q (i:=1) rfl (by kernel_rfl) (fun _=>Wd.aM [0,6,7] [0,1] rfl rfl rfl) rfl (q.gtr rfl rfl (decide_eq_true (by omega))) rfl<|D.q (i:=2) rfl (by kernel_rfl) (fun _=>Wd.aM [0,6,7] [0,1] rfl rfl rfl) rfl (q.mv rfl) rfl<|D.q (i:=3) rfl (by kernel_rfl) (fun _=>Wd.aM [0,6,7] [0,1] rfl rfl rfl) rfl (q.a8 (off':=0) rfl bu rfl) rfl<|D.q (i:=4) rfl (by kernel_rfl) (fun _=>Wd.aM [0,6,7] [0,1] rfl rfl rfl) rfl (q.ld 0 rfl rfl bF rfl) rfl<|D.q (i:=5) rfl (by kernel_rfl) (fun _=>Wd.aM [0,6,7] [0,1] rfl rfl rfl) rfl (q.mv rfl) rfl<|D.q (i:=6) rfl (by kernel_rfl) (fun _=>Wd.aM [0,6,7] [0,1] rfl rfl rfl) rfl (q.mv rfl) rfl<|D.q (i:=7) rfl (by kernel_rfl) (fun _=>Wd.aM [0,6,7] [0,1] rfl rfl rfl) rfl (q.sub (r:=((k-1:Nat):Int)) rfl rfl (wr (by omega))) rfl<|D.q (i:=8) rfl (by kernel_rfl) (fun _=>Wd.aM [0,6,7] [0,1] rfl rfl rfl) rfl (q.idx (i:=(k-1)) (fun _=>Wd.aT 0 rfl) rfl rfl bX rfl hx2) rfl<|D.q (i:=9) rfl (by kernel_rfl) (fun _=>Wd.aM [0,6,7] [0,1] rfl rfl rfl) rfl (q.dm (j':=0) (fun _=>Wd.aT 0 rfl) hx2 rfl bu rfl) rfl<|D.q (i:=10) rfl (by kernel_rfl) (fun _=>Wd.aM [0,6,7] [0,1] rfl rfl rfl) rfl (q.fk (fun _=>Wd.aT 0 rfl) hx2 rfl bF rfl) rfl<|D.q (i:=11) rfl (by kernel_rfl) (fun _=>Wd.aM [0,6,7] [0,1] rfl rfl rfl) rfl (q.uF rfl rfl h3) rfl<|D.q (i:=12) rfl (by kernel_rfl) (fun _=>Wd.aM [0,6,7] [0,1] rfl rfl rfl) rfl (q.yS rfl rfl) rfl<|D.q (i:=13) rfl (by kernel_rfl) (fun _=>Wd.aM [0,6,7] [0,1] rfl rfl rfl) rfl (q.mv rfl) rfl<|D.q (i:=14) rfl (by kernel_rfl) (fun _=>Wd.aM [0,6,7] [0,1] rfl rfl rfl) rfl (q.a8 (off':=2) rfl fY rfl) rfl<|D.q (i:=15) rfl (by kernel_rfl) (fun _=>Wd.aM [0,6,7] [0,1] rfl rfl rfl) rfl (q.ld 0 rfl rfl j7 rfl) rfl<|D.q (i:=16) rfl (by kernel_rfl) (fun _=>Wd.aM [0,6,7] [0,1] rfl rfl rfl) rfl (q.kS rfl rfl) rfl<|D.q (i:=17) rfl (by kernel_rfl) (fun _=>Wd.aM [0,6,7] [0,1] rfl rfl rfl) rfl (q.mv rfl) rfl<|D.q (i:=18) rfl (by kernel_rfl) (fun _=>Wd.aM [0,6,7] [0,1] rfl rfl rfl) rfl (q.cT 0 rfl rfl eA) rfl<|D.one (i:=19) (by kernel_rfl) rfl ?_
      refine Do.s (B':=(fun g_:Value×Value×Value×Value=>[ag.box b2 [g_.1,g_.2.1,g_.2.2.1,g_.2.2.2,iV ((((rowP z (⟨x1.Key,x1.Val,false⟩:Change))).1).ae),iV ((((rowP z (⟨x1.Key,x1.Val,false⟩:Change))).1).af)] 32,ag.row 88 g_.1 ((((rowP z (⟨x1.Key,x1.Val,false⟩:Change))).1).ai:List aj),ag.row 62 g_.2.1 ((((rowP z (⟨x1.Key,x1.Val,false⟩:Change))).1).Things:List ah),ag.row 85 g_.2.2.1 ((((rowP z (⟨x1.Key,x1.Val,false⟩:Change))).1).Held:List Held),ag.row 72 g_.2.2.2 ((((rowP z (⟨x1.Key,x1.Val,false⟩:Change))).1).Notes:List Note),ag.box b3 [.string x1.Key,.string x1.Val,.bool false] 52,ag.box b1 aJ 32,ag.held w own])) (F':=(fun g_:Value×Value×Value×Value=>[ag.ls bm (l:List Change),bz])) (s.bJ (B0:=[ag.box b2 [cz,ck,dB,cB,iV z.ae,iV z.af] 32,ag.row 88 cz (z.ai:List aj),ag.row 62 ck (z.Things:List ah),ag.row 85 dB (z.Held:List Held),ag.row 72 cB (z.Notes:List Note)]) (Br:=[ag.box b3 [.string x1.Key,.string x1.Val,.bool false] 52,ag.box b1 aJ 32,ag.held w own]) (F0:=[bz]) [5,4,3,2,1,0,6,7] [1] (fun g_:Value×Value×Value×Value => .bool (((rowP z (⟨x1.Key,x1.Val,false⟩:Change))).2)) (fun g_:Value×Value×Value×Value=>[ag.box b2 [g_.1,g_.2.1,g_.2.2.1,g_.2.2.2,iV ((((rowP z (⟨x1.Key,x1.Val,false⟩:Change))).1).ae),iV ((((rowP z (⟨x1.Key,x1.Val,false⟩:Change))).1).af)] 32,ag.row 88 g_.1 ((((rowP z (⟨x1.Key,x1.Val,false⟩:Change))).1).ai:List aj),ag.row 62 g_.2.1 ((((rowP z (⟨x1.Key,x1.Val,false⟩:Change))).1).Things:List ah),ag.row 85 g_.2.2.1 ((((rowP z (⟨x1.Key,x1.Val,false⟩:Change))).1).Held:List Held),ag.row 72 g_.2.2.2 ((((rowP z (⟨x1.Key,x1.Val,false⟩:Change))).1).Notes:List Note)]) (fun g_:Value×Value×Value×Value=>[]) rfl rfl rfl tL rfl rfl (fun w own hw H=>nM b2 cz ck dB cB (z) ((⟨x1.Key,x1.Val,false⟩:Change)) w own H (by first|assumption|omega) (by first|assumption|omega)) rfl) (fun _=>(fun _=>Wd.aM [5,6,7] [0,1] rfl rfl rfl)) rfl ?_
      rintro ⟨z9,nf,t7,z12⟩
      dsimp only
      refine D.q (i:=20) rfl (by kernel_rfl) (fun _=>Wd.aM [5,6,7] [0,1] rfl rfl rfl) rfl (q.not rfl) rfl<|D.q (i:=21) rfl (by kernel_rfl) (fun _=>Wd.aM [5,6,7] [0,1] rfl rfl rfl) rfl (q.kS rfl rfl) rfl<|D.done (by kernel_rfl)<|R.cond rfl rfl (fun h6=>?_) (fun h6=>?_)
      ·
       refine R.reg rfl<|R.q (q.build (cs:=aJ) cY rfl rfl) rfl<|R.q (q.iface rfl bI) rfl<|R.s rfl (s.st (us:=aJ) (cs':=aJ) 6 _ rfl rfl rfl rfl (.inl ar) rfl rfl rfl rfl) fun _=>R.u 1 rfl<|R.nil ?_
       refine R.mp (fun _ hw=>hw.bg (α:=aj)) ?_
       refine R.mp (fun _ hw=>hw.bg (α:=ah)) ?_
       refine R.mp (fun _ hw=>hw.bg (α:=Held)) ?_
       refine R.mp (fun _ hw=>hw.bg (α:=Note)) ?_
       have hz:aZ l=((⟨[],[],[],[],0,0⟩:ap),4):=by (first|exact dL HP hx1 (.inl (jQ (by omega) hx2 ‹_›))|exact dL HP hx1 (.inr (.inl ‹_›))|exact dL HP hx1 (.inr (.inr ⟨by assumption,by first|assumption|exact jq ‹_› | exact jr ‹_›⟩)))
       rw [hz]
       exact R.w2 ((nS),(nS),(nS),(nS)) [7] [3,2,1,0] rfl Tryz.results17 (RV.cell 6 rfl rfl ar) (RV.tmp rfl) rfl rfl rfl (cL rfl (dP (by decide) rfl))
      ·
       refine R.reg rfl<|R.q (q.add (r:=((k+1:Nat):Int)) rfl rfl (wr (by omega))) rfl<|R.u 1 rfl<|R.nil ?_
       refine R.back (k+1,((rowP z (⟨x1.Key,x1.Val,false⟩:Change)).1),z9,nf,t7,z12) rfl (by ((try dsimp only);have zl:=mo z (⟨x1.Key,x1.Val,false⟩:Change);exact ⟨by omega,nN HP hx1 (by first|exact mj (by omega)|exact ml (by omega) hx2 ‹_›) ‹_› (by first|assumption|exact jq ‹_› | exact jr ‹_›),by omega,by omega,by omega⟩)) (by dsimp only;omega) ⟨rfl,rfl,rfl,rfl,rfl,rfl,trivial⟩ (fun _=>Wd.aM [4,3,2,1,0,6,7] [0,1] rfl rfl rfl)
     ·
      refine R.gN (fuel:=22) (Wd w (blks []++own) [ag.box b3 [.string x1.Key,.string x1.Val,.bool false] 52,ag.box b1 aJ 32,ag.held w own] [ag.ls bm (l:List Change),bz]) rfl mixed rfl ?_
      refine D.q (i:=0) rfl (by kernel_rfl) (fun _=>Wd.aM [0,6,7] [0,1] rfl rfl rfl) rfl (q.mv rfl) rfl<|D.q (i:=1) rfl (by kernel_rfl) (fun _=>Wd.aM [0,6,7] [0,1] rfl rfl rfl) rfl (q.gtr rfl rfl (decide_eq_true (by omega))) rfl<|D.q (i:=2) rfl (by kernel_rfl) (fun _=>Wd.aM [0,6,7] [0,1] rfl rfl rfl) rfl (q.mv rfl) rfl<|D.q (i:=3) rfl (by kernel_rfl) (fun _=>Wd.aM [0,6,7] [0,1] rfl rfl rfl) rfl (q.a8 (off':=0) rfl bu rfl) rfl<|D.q (i:=4) rfl (by kernel_rfl) (fun _=>Wd.aM [0,6,7] [0,1] rfl rfl rfl) rfl (q.ld 0 rfl rfl bF rfl) rfl<|D.q (i:=5) rfl (by kernel_rfl) (fun _=>Wd.aM [0,6,7] [0,1] rfl rfl rfl) rfl (q.mv rfl) rfl<|D.q (i:=6) rfl (by kernel_rfl) (fun _=>Wd.aM [0,6,7] [0,1] rfl rfl rfl) rfl (q.mv rfl) rfl<|D.q (i:=7) rfl (by kernel_rfl) (fun _=>Wd.aM [0,6,7] [0,1] rfl rfl rfl) rfl (q.sub (r:=((k-1:Nat):Int)) rfl rfl (wr (by omega))) rfl<|D.q (i:=8) rfl (by kernel_rfl) (fun _=>Wd.aM [0,6,7] [0,1] rfl rfl rfl) rfl (q.idx (i:=(k-1)) (fun _=>Wd.aT 0 rfl) rfl rfl bX rfl hx2) rfl<|D.q (i:=9) rfl (by kernel_rfl) (fun _=>Wd.aM [0,6,7] [0,1] rfl rfl rfl) rfl (q.dm (j':=0) (fun _=>Wd.aT 0 rfl) hx2 rfl bu rfl) rfl<|D.q (i:=10) rfl (by kernel_rfl) (fun _=>Wd.aM [0,6,7] [0,1] rfl rfl rfl) rfl (q.fk (fun _=>Wd.aT 0 rfl) hx2 rfl bF rfl) rfl<|D.q (i:=11) rfl (by kernel_rfl) (fun _=>Wd.aM [0,6,7] [0,1] rfl rfl rfl) rfl (q.uF rfl rfl h3) rfl<|D.q (i:=12) rfl (by kernel_rfl) (fun _=>Wd.aM [0,6,7] [0,1] rfl rfl rfl) rfl (q.yS rfl rfl) rfl<|D.q (i:=13) rfl (by kernel_rfl) (fun _=>Wd.aM [0,6,7] [0,1] rfl rfl rfl) rfl (q.mv rfl) rfl<|D.q (i:=14) rfl (by kernel_rfl) (fun _=>Wd.aM [0,6,7] [0,1] rfl rfl rfl) rfl (q.a8 (off':=2) rfl fY rfl) rfl<|D.q (i:=15) rfl (by kernel_rfl) (fun _=>Wd.aM [0,6,7] [0,1] rfl rfl rfl) rfl (q.ld 0 rfl rfl j7 rfl) rfl<|D.q (i:=16) rfl (by kernel_rfl) (fun _=>Wd.aM [0,6,7] [0,1] rfl rfl rfl) rfl (q.kS rfl rfl) rfl<|D.q (i:=17) rfl (by kernel_rfl) (fun _=>Wd.aM [0,6,7] [0,1] rfl rfl rfl) rfl (q.mv rfl) rfl<|D.q (i:=18) rfl (by kernel_rfl) (fun _=>Wd.aM [0,6,7] [0,1] rfl rfl rfl) rfl (q.cT 0 rfl rfl eA) rfl<|D.one (i:=19) (by kernel_rfl) rfl ?_
      refine Do.s (B':=(fun g_:Value×Value×Value×Value=>[ag.box b2 [g_.1,g_.2.1,g_.2.2.1,g_.2.2.2,iV ((((rowP z (⟨x1.Key,x1.Val,false⟩:Change))).1).ae),iV ((((rowP z (⟨x1.Key,x1.Val,false⟩:Change))).1).af)] 32,ag.row 88 g_.1 ((((rowP z (⟨x1.Key,x1.Val,false⟩:Change))).1).ai:List aj),ag.row 62 g_.2.1 ((((rowP z (⟨x1.Key,x1.Val,false⟩:Change))).1).Things:List ah),ag.row 85 g_.2.2.1 ((((rowP z (⟨x1.Key,x1.Val,false⟩:Change))).1).Held:List Held),ag.row 72 g_.2.2.2 ((((rowP z (⟨x1.Key,x1.Val,false⟩:Change))).1).Notes:List Note),ag.box b3 [.string x1.Key,.string x1.Val,.bool false] 52,ag.box b1 aJ 32,ag.held w own])) (F':=(fun g_:Value×Value×Value×Value=>[ag.ls bm (l:List Change),bz])) (s.bJ (B0:=[ag.box b2 [cz,ck,dB,cB,iV z.ae,iV z.af] 32,ag.row 88 cz (z.ai:List aj),ag.row 62 ck (z.Things:List ah),ag.row 85 dB (z.Held:List Held),ag.row 72 cB (z.Notes:List Note)]) (Br:=[ag.box b3 [.string x1.Key,.string x1.Val,.bool false] 52,ag.box b1 aJ 32,ag.held w own]) (F0:=[bz]) [5,4,3,2,1,0,6,7] [1] (fun g_:Value×Value×Value×Value => .bool (((rowP z (⟨x1.Key,x1.Val,false⟩:Change))).2)) (fun g_:Value×Value×Value×Value=>[ag.box b2 [g_.1,g_.2.1,g_.2.2.1,g_.2.2.2,iV ((((rowP z (⟨x1.Key,x1.Val,false⟩:Change))).1).ae),iV ((((rowP z (⟨x1.Key,x1.Val,false⟩:Change))).1).af)] 32,ag.row 88 g_.1 ((((rowP z (⟨x1.Key,x1.Val,false⟩:Change))).1).ai:List aj),ag.row 62 g_.2.1 ((((rowP z (⟨x1.Key,x1.Val,false⟩:Change))).1).Things:List ah),ag.row 85 g_.2.2.1 ((((rowP z (⟨x1.Key,x1.Val,false⟩:Change))).1).Held:List Held),ag.row 72 g_.2.2.2 ((((rowP z (⟨x1.Key,x1.Val,false⟩:Change))).1).Notes:List Note)]) (fun g_:Value×Value×Value×Value=>[]) rfl rfl rfl tL rfl rfl (fun w own hw H=>nM b2 cz ck dB cB (z) ((⟨x1.Key,x1.Val,false⟩:Change)) w own H (by first|assumption|omega) (by first|assumption|omega)) rfl) (fun _=>(fun _=>Wd.aM [5,6,7] [0,1] rfl rfl rfl)) rfl ?_
      rintro ⟨z17,CF,CG,z20⟩
      dsimp only
      refine D.q (i:=20) rfl (by kernel_rfl) (fun _=>Wd.aM [5,6,7] [0,1] rfl rfl rfl) rfl (q.not rfl) rfl<|D.q (i:=21) rfl (by kernel_rfl) (fun _=>Wd.aM [5,6,7] [0,1] rfl rfl rfl) rfl (q.kS rfl rfl) rfl<|D.done (by kernel_rfl)<|R.cond rfl rfl (fun h7=>?_) (fun h7=>?_)
      ·
       refine R.reg rfl<|R.q (q.build (cs:=aJ) cY rfl rfl) rfl<|R.q (q.iface rfl bI) rfl<|R.s rfl (s.st (us:=aJ) (cs':=aJ) 6 _ rfl rfl rfl rfl (.inl ar) rfl rfl rfl rfl) fun _=>R.u 1 rfl<|R.nil ?_
       refine R.mp (fun _ hw=>hw.bg (α:=aj)) ?_
       refine R.mp (fun _ hw=>hw.bg (α:=ah)) ?_
       refine R.mp (fun _ hw=>hw.bg (α:=Held)) ?_
       refine R.mp (fun _ hw=>hw.bg (α:=Note)) ?_
       have hz:aZ l=((⟨[],[],[],[],0,0⟩:ap),4):=by (first|exact dL HP hx1 (.inl (jQ (by omega) hx2 ‹_›))|exact dL HP hx1 (.inr (.inl ‹_›))|exact dL HP hx1 (.inr (.inr ⟨by assumption,by first|assumption|exact jq ‹_› | exact jr ‹_›⟩)))
       rw [hz]
       exact R.w2 ((nS),(nS),(nS),(nS)) [7] [3,2,1,0] rfl Tryz.results17 (RV.cell 6 rfl rfl ar) (RV.tmp rfl) rfl rfl rfl (cL rfl (dP (by decide) rfl))
      ·
       refine R.reg rfl<|R.q (q.add (r:=((k+1:Nat):Int)) rfl rfl (wr (by omega))) rfl<|R.u 1 rfl<|R.nil ?_
       refine R.back (k+1,((rowP z (⟨x1.Key,x1.Val,false⟩:Change)).1),z17,CF,CG,z20) rfl (by ((try dsimp only);have zl:=mo z (⟨x1.Key,x1.Val,false⟩:Change);exact ⟨by omega,nN HP hx1 (by first|exact mj (by omega)|exact ml (by omega) hx2 ‹_›) ‹_› (by first|assumption|exact jq ‹_› | exact jr ‹_›),by omega,by omega,by omega⟩)) (by dsimp only;omega) ⟨rfl,rfl,rfl,rfl,rfl,rfl,trivial⟩ (fun _=>Wd.aM [4,3,2,1,0,6,7] [0,1] rfl rfl rfl)
  ·
   rcases Bool.eq_false_or_eq_true (x1.Gone) with h8|h8
   ·
    rw [h8]
    refine R.dM rfl mixed (by kernel_rfl)<|Q.u 1 rfl<|Q.q (q.gtr rfl rfl (decide_eq_false (by omega))) rfl<|Q.u 12 rfl<|Q.qg rfl (q.a8 (off':=2) rfl fY rfl) rfl<|Q.qg rfl (q.ld 0 rfl rfl j7 rfl) rfl<|Q.u 6 rfl<|Q.nil ?_
    refine R.aD rfl rfl ?_
    refine R.reg rfl<|R.q (q.build (cs:=aJ) cY rfl rfl) rfl<|R.q (q.iface rfl bI) rfl<|R.s rfl (s.st (us:=aJ) (cs':=aJ) 6 _ rfl rfl rfl rfl (.inl ar) rfl rfl rfl rfl) fun _=>R.u 1 rfl<|R.nil ?_
    refine R.mp (fun _ hw=>hw.bg (α:=aj)) ?_
    refine R.mp (fun _ hw=>hw.bg (α:=ah)) ?_
    refine R.mp (fun _ hw=>hw.bg (α:=Held)) ?_
    refine R.mp (fun _ hw=>hw.bg (α:=Note)) ?_
    have hz:aZ l=((⟨[],[],[],[],0,0⟩:ap),4):=by (first|exact dL HP hx1 (.inl (jQ (by omega) rfl ‹_›))|exact dL HP hx1 (.inr (.inl ‹_›))|exact dL HP hx1 (.inr (.inr ⟨by assumption,by first|assumption|exact jq ‹_› | exact jr ‹_›⟩)))
    rw [hz]
    exact R.w2 ((nS),(nS),(nS),(nS)) [7] [3,2,1,0] rfl Tryz.results17 (RV.cell 6 rfl rfl ar) (RV.tmp rfl) rfl rfl rfl (cL rfl (dP (by decide) rfl))
   ·
    rw [h8]
    rcases Bool.eq_false_or_eq_true (!((rowP z (⟨x1.Key,x1.Val,false⟩:Change)).2)) with h9|h9
    ·
     refine R.gN (fuel:=22) (Wd w (blks []++own) [ag.box b3 [.string x1.Key,.string x1.Val,.bool false] 52,ag.box b1 aJ 32,ag.held w own] [ag.ls bm (l:List Change),bz]) rfl mixed rfl ?_
     refine D.q (i:=0) rfl (by kernel_rfl) (fun _=>Wd.aM [0,6,7] [0,1] rfl rfl rfl) rfl (q.mv rfl) rfl<|D.q (i:=1) rfl (by kernel_rfl) (fun _=>Wd.aM [0,6,7] [0,1] rfl rfl rfl) rfl (q.gtr rfl rfl (decide_eq_false (by omega))) rfl<|D.q (i:=2) rfl (by kernel_rfl) (fun _=>Wd.aM [0,6,7] [0,1] rfl rfl rfl) rfl (q.mv rfl) rfl<|D.skip (i:=3) rfl (by kernel_rfl) (fun _=>Wd.aM [0,6,7] [0,1] rfl rfl rfl) rfl rfl<|D.skip (i:=4) rfl (by kernel_rfl) (fun _=>Wd.aM [0,6,7] [0,1] rfl rfl rfl) rfl rfl<|D.skip (i:=5) rfl (by kernel_rfl) (fun _=>Wd.aM [0,6,7] [0,1] rfl rfl rfl) rfl rfl<|D.skip (i:=6) rfl (by kernel_rfl) (fun _=>Wd.aM [0,6,7] [0,1] rfl rfl rfl) rfl rfl<|D.skip (i:=7) rfl (by kernel_rfl) (fun _=>Wd.aM [0,6,7] [0,1] rfl rfl rfl) rfl rfl<|D.skip (i:=8) rfl (by kernel_rfl) (fun _=>Wd.aM [0,6,7] [0,1] rfl rfl rfl) rfl rfl<|D.skip (i:=9) rfl (by kernel_rfl) (fun _=>Wd.aM [0,6,7] [0,1] rfl rfl rfl) rfl rfl<|D.skip (i:=10) rfl (by kernel_rfl) (fun _=>Wd.aM [0,6,7] [0,1] rfl rfl rfl) rfl rfl<|D.skip (i:=11) rfl (by kernel_rfl) (fun _=>Wd.aM [0,6,7] [0,1] rfl rfl rfl) rfl rfl<|D.q (i:=12) rfl (by kernel_rfl) (fun _=>Wd.aM [0,6,7] [0,1] rfl rfl rfl) rfl (q.kS rfl rfl) rfl<|D.q (i:=13) rfl (by kernel_rfl) (fun _=>Wd.aM [0,6,7] [0,1] rfl rfl rfl) rfl (q.mv rfl) rfl<|D.q (i:=14) rfl (by kernel_rfl) (fun _=>Wd.aM [0,6,7] [0,1] rfl rfl rfl) rfl (q.a8 (off':=2) rfl fY rfl) rfl<|D.q (i:=15) rfl (by kernel_rfl) (fun _=>Wd.aM [0,6,7] [0,1] rfl rfl rfl) rfl (q.ld 0 rfl rfl j7 rfl) rfl<|D.q (i:=16) rfl (by kernel_rfl) (fun _=>Wd.aM [0,6,7] [0,1] rfl rfl rfl) rfl (q.kS rfl rfl) rfl<|D.q (i:=17) rfl (by kernel_rfl) (fun _=>Wd.aM [0,6,7] [0,1] rfl rfl rfl) rfl (q.mv rfl) rfl<|D.q (i:=18) rfl (by kernel_rfl) (fun _=>Wd.aM [0,6,7] [0,1] rfl rfl rfl) rfl (q.cT 0 rfl rfl eA) rfl<|D.one (i:=19) (by kernel_rfl) rfl ?_
     refine Do.s (B':=(fun g_:Value×Value×Value×Value=>[ag.box b2 [g_.1,g_.2.1,g_.2.2.1,g_.2.2.2,iV ((((rowP z (⟨x1.Key,x1.Val,false⟩:Change))).1).ae),iV ((((rowP z (⟨x1.Key,x1.Val,false⟩:Change))).1).af)] 32,ag.row 88 g_.1 ((((rowP z (⟨x1.Key,x1.Val,false⟩:Change))).1).ai:List aj),ag.row 62 g_.2.1 ((((rowP z (⟨x1.Key,x1.Val,false⟩:Change))).1).Things:List ah),ag.row 85 g_.2.2.1 ((((rowP z (⟨x1.Key,x1.Val,false⟩:Change))).1).Held:List Held),ag.row 72 g_.2.2.2 ((((rowP z (⟨x1.Key,x1.Val,false⟩:Change))).1).Notes:List Note),ag.box b3 [.string x1.Key,.string x1.Val,.bool false] 52,ag.box b1 aJ 32,ag.held w own])) (F':=(fun g_:Value×Value×Value×Value=>[ag.ls bm (l:List Change),bz])) (s.bJ (B0:=[ag.box b2 [cz,ck,dB,cB,iV z.ae,iV z.af] 32,ag.row 88 cz (z.ai:List aj),ag.row 62 ck (z.Things:List ah),ag.row 85 dB (z.Held:List Held),ag.row 72 cB (z.Notes:List Note)]) (Br:=[ag.box b3 [.string x1.Key,.string x1.Val,.bool false] 52,ag.box b1 aJ 32,ag.held w own]) (F0:=[bz]) [5,4,3,2,1,0,6,7] [1] (fun g_:Value×Value×Value×Value => .bool (((rowP z (⟨x1.Key,x1.Val,false⟩:Change))).2)) (fun g_:Value×Value×Value×Value=>[ag.box b2 [g_.1,g_.2.1,g_.2.2.1,g_.2.2.2,iV ((((rowP z (⟨x1.Key,x1.Val,false⟩:Change))).1).ae),iV ((((rowP z (⟨x1.Key,x1.Val,false⟩:Change))).1).af)] 32,ag.row 88 g_.1 ((((rowP z (⟨x1.Key,x1.Val,false⟩:Change))).1).ai:List aj),ag.row 62 g_.2.1 ((((rowP z (⟨x1.Key,x1.Val,false⟩:Change))).1).Things:List ah),ag.row 85 g_.2.2.1 ((((rowP z (⟨x1.Key,x1.Val,false⟩:Change))).1).Held:List Held),ag.row 72 g_.2.2.2 ((((rowP z (⟨x1.Key,x1.Val,false⟩:Change))).1).Notes:List Note)]) (fun g_:Value×Value×Value×Value=>[]) rfl rfl rfl tL rfl rfl (fun w own hw H=>nM b2 cz ck dB cB (z) ((⟨x1.Key,x1.Val,false⟩:Change)) w own H (by first|assumption|omega) (by first|assumption|omega)) rfl) (fun _=>(fun _=>Wd.aM [5,6,7] [0,1] rfl rfl rfl)) rfl ?_
     rintro ⟨z29,z30,z31,z32⟩
     dsimp only
     refine D.q (i:=20) rfl (by kernel_rfl) (fun _=>Wd.aM [5,6,7] [0,1] rfl rfl rfl) rfl (q.not rfl) rfl<|D.q (i:=21) rfl (by kernel_rfl) (fun _=>Wd.aM [5,6,7] [0,1] rfl rfl rfl) rfl (q.kS rfl rfl) rfl<|D.done (by kernel_rfl)<|R.cond rfl rfl (fun h10=>?_) (fun h10=>?_)
     ·
      refine R.reg rfl<|R.q (q.build (cs:=aJ) cY rfl rfl) rfl<|R.q (q.iface rfl bI) rfl<|R.s rfl (s.st (us:=aJ) (cs':=aJ) 6 _ rfl rfl rfl rfl (.inl ar) rfl rfl rfl rfl) fun _=>R.u 1 rfl<|R.nil ?_
      refine R.mp (fun _ hw=>hw.bg (α:=aj)) ?_
      refine R.mp (fun _ hw=>hw.bg (α:=ah)) ?_
      refine R.mp (fun _ hw=>hw.bg (α:=Held)) ?_
      refine R.mp (fun _ hw=>hw.bg (α:=Note)) ?_
      have hz:aZ l=((⟨[],[],[],[],0,0⟩:ap),4):=by (first|exact dL HP hx1 (.inl (jQ (by omega) rfl ‹_›))|exact dL HP hx1 (.inr (.inl ‹_›))|exact dL HP hx1 (.inr (.inr ⟨by assumption,by first|assumption|exact jq ‹_› | exact jr ‹_›⟩)))
      rw [hz]
      exact R.w2 ((nS),(nS),(nS),(nS)) [7] [3,2,1,0] rfl Tryz.results17 (RV.cell 6 rfl rfl ar) (RV.tmp rfl) rfl rfl rfl (cL rfl (dP (by decide) rfl))
     ·
      refine R.reg rfl<|R.q (q.add (r:=((k+1:Nat):Int)) rfl rfl (wr (by omega))) rfl<|R.u 1 rfl<|R.nil ?_
      refine R.back (k+1,((rowP z (⟨x1.Key,x1.Val,false⟩:Change)).1),z29,z30,z31,z32) rfl (by ((try dsimp only);have zl:=mo z (⟨x1.Key,x1.Val,false⟩:Change);exact ⟨by omega,nN HP hx1 (by first|exact mj (by omega)|exact ml (by omega) rfl ‹_›) ‹_› (by first|assumption|exact jq ‹_› | exact jr ‹_›),by omega,by omega,by omega⟩)) (by dsimp only;omega) ⟨rfl,rfl,rfl,rfl,rfl,rfl,trivial⟩ (fun _=>Wd.aM [4,3,2,1,0,6,7] [0,1] rfl rfl rfl)
    ·
     refine R.gN (fuel:=22) (Wd w (blks []++own) [ag.box b3 [.string x1.Key,.string x1.Val,.bool false] 52,ag.box b1 aJ 32,ag.held w own] [ag.ls bm (l:List Change),bz]) rfl mixed rfl ?_
     refine D.q (i:=0) rfl (by kernel_rfl) (fun _=>Wd.aM [0,6,7] [0,1] rfl rfl rfl) rfl (q.mv rfl) rfl<|D.q (i:=1) rfl (by kernel_rfl) (fun _=>Wd.aM [0,6,7] [0,1] rfl rfl rfl) rfl (q.gtr rfl rfl (decide_eq_false (by omega))) rfl<|D.q (i:=2) rfl (by kernel_rfl) (fun _=>Wd.aM [0,6,7] [0,1] rfl rfl rfl) rfl (q.mv rfl) rfl<|D.skip (i:=3) rfl (by kernel_rfl) (fun _=>Wd.aM [0,6,7] [0,1] rfl rfl rfl) rfl rfl<|D.skip (i:=4) rfl (by kernel_rfl) (fun _=>Wd.aM [0,6,7] [0,1] rfl rfl rfl) rfl rfl<|D.skip (i:=5) rfl (by kernel_rfl) (fun _=>Wd.aM [0,6,7] [0,1] rfl rfl rfl) rfl rfl<|D.skip (i:=6) rfl (by kernel_rfl) (fun _=>Wd.aM [0,6,7] [0,1] rfl rfl rfl) rfl rfl<|D.skip (i:=7) rfl (by kernel_rfl) (fun _=>Wd.aM [0,6,7] [0,1] rfl rfl rfl) rfl rfl<|D.skip (i:=8) rfl (by kernel_rfl) (fun _=>Wd.aM [0,6,7] [0,1] rfl rfl rfl) rfl rfl<|D.skip (i:=9) rfl (by kernel_rfl) (fun _=>Wd.aM [0,6,7] [0,1] rfl rfl rfl) rfl rfl<|D.skip (i:=10) rfl (by kernel_rfl) (fun _=>Wd.aM [0,6,7] [0,1] rfl rfl rfl) rfl rfl<|D.skip (i:=11) rfl (by kernel_rfl) (fun _=>Wd.aM [0,6,7] [0,1] rfl rfl rfl) rfl rfl<|D.q (i:=12) rfl (by kernel_rfl) (fun _=>Wd.aM [0,6,7] [0,1] rfl rfl rfl) rfl (q.kS rfl rfl) rfl<|D.q (i:=13) rfl (by kernel_rfl) (fun _=>Wd.aM [0,6,7] [0,1] rfl rfl rfl) rfl (q.mv rfl) rfl<|D.q (i:=14) rfl (by kernel_rfl) (fun _=>Wd.aM [0,6,7] [0,1] rfl rfl rfl) rfl (q.a8 (off':=2) rfl fY rfl) rfl<|D.q (i:=15) rfl (by kernel_rfl) (fun _=>Wd.aM [0,6,7] [0,1] rfl rfl rfl) rfl (q.ld 0 rfl rfl j7 rfl) rfl<|D.q (i:=16) rfl (by kernel_rfl) (fun _=>Wd.aM [0,6,7] [0,1] rfl rfl rfl) rfl (q.kS rfl rfl) rfl<|D.q (i:=17) rfl (by kernel_rfl) (fun _=>Wd.aM [0,6,7] [0,1] rfl rfl rfl) rfl (q.mv rfl) rfl<|D.q (i:=18) rfl (by kernel_rfl) (fun _=>Wd.aM [0,6,7] [0,1] rfl rfl rfl) rfl (q.cT 0 rfl rfl eA) rfl<|D.one (i:=19) (by kernel_rfl) rfl ?_
     refine Do.s (B':=(fun g_:Value×Value×Value×Value=>[ag.box b2 [g_.1,g_.2.1,g_.2.2.1,g_.2.2.2,iV ((((rowP z (⟨x1.Key,x1.Val,false⟩:Change))).1).ae),iV ((((rowP z (⟨x1.Key,x1.Val,false⟩:Change))).1).af)] 32,ag.row 88 g_.1 ((((rowP z (⟨x1.Key,x1.Val,false⟩:Change))).1).ai:List aj),ag.row 62 g_.2.1 ((((rowP z (⟨x1.Key,x1.Val,false⟩:Change))).1).Things:List ah),ag.row 85 g_.2.2.1 ((((rowP z (⟨x1.Key,x1.Val,false⟩:Change))).1).Held:List Held),ag.row 72 g_.2.2.2 ((((rowP z (⟨x1.Key,x1.Val,false⟩:Change))).1).Notes:List Note),ag.box b3 [.string x1.Key,.string x1.Val,.bool false] 52,ag.box b1 aJ 32,ag.held w own])) (F':=(fun g_:Value×Value×Value×Value=>[ag.ls bm (l:List Change),bz])) (s.bJ (B0:=[ag.box b2 [cz,ck,dB,cB,iV z.ae,iV z.af] 32,ag.row 88 cz (z.ai:List aj),ag.row 62 ck (z.Things:List ah),ag.row 85 dB (z.Held:List Held),ag.row 72 cB (z.Notes:List Note)]) (Br:=[ag.box b3 [.string x1.Key,.string x1.Val,.bool false] 52,ag.box b1 aJ 32,ag.held w own]) (F0:=[bz]) [5,4,3,2,1,0,6,7] [1] (fun g_:Value×Value×Value×Value => .bool (((rowP z (⟨x1.Key,x1.Val,false⟩:Change))).2)) (fun g_:Value×Value×Value×Value=>[ag.box b2 [g_.1,g_.2.1,g_.2.2.1,g_.2.2.2,iV ((((rowP z (⟨x1.Key,x1.Val,false⟩:Change))).1).ae),iV ((((rowP z (⟨x1.Key,x1.Val,false⟩:Change))).1).af)] 32,ag.row 88 g_.1 ((((rowP z (⟨x1.Key,x1.Val,false⟩:Change))).1).ai:List aj),ag.row 62 g_.2.1 ((((rowP z (⟨x1.Key,x1.Val,false⟩:Change))).1).Things:List ah),ag.row 85 g_.2.2.1 ((((rowP z (⟨x1.Key,x1.Val,false⟩:Change))).1).Held:List Held),ag.row 72 g_.2.2.2 ((((rowP z (⟨x1.Key,x1.Val,false⟩:Change))).1).Notes:List Note)]) (fun g_:Value×Value×Value×Value=>[]) rfl rfl rfl tL rfl rfl (fun w own hw H=>nM b2 cz ck dB cB (z) ((⟨x1.Key,x1.Val,false⟩:Change)) w own H (by first|assumption|omega) (by first|assumption|omega)) rfl) (fun _=>(fun _=>Wd.aM [5,6,7] [0,1] rfl rfl rfl)) rfl ?_
     rintro ⟨z37,z38,z39,z40⟩
     dsimp only
     refine D.q (i:=20) rfl (by kernel_rfl) (fun _=>Wd.aM [5,6,7] [0,1] rfl rfl rfl) rfl (q.not rfl) rfl<|D.q (i:=21) rfl (by kernel_rfl) (fun _=>Wd.aM [5,6,7] [0,1] rfl rfl rfl) rfl (q.kS rfl rfl) rfl<|D.done (by kernel_rfl)<|R.cond rfl rfl (fun h11=>?_) (fun h11=>?_)
     ·
      refine R.reg rfl<|R.q (q.build (cs:=aJ) cY rfl rfl) rfl<|R.q (q.iface rfl bI) rfl<|R.s rfl (s.st (us:=aJ) (cs':=aJ) 6 _ rfl rfl rfl rfl (.inl ar) rfl rfl rfl rfl) fun _=>R.u 1 rfl<|R.nil ?_
      refine R.mp (fun _ hw=>hw.bg (α:=aj)) ?_
      refine R.mp (fun _ hw=>hw.bg (α:=ah)) ?_
      refine R.mp (fun _ hw=>hw.bg (α:=Held)) ?_
      refine R.mp (fun _ hw=>hw.bg (α:=Note)) ?_
      have hz:aZ l=((⟨[],[],[],[],0,0⟩:ap),4):=by (first|exact dL HP hx1 (.inl (jQ (by omega) rfl ‹_›))|exact dL HP hx1 (.inr (.inl ‹_›))|exact dL HP hx1 (.inr (.inr ⟨by assumption,by first|assumption|exact jq ‹_› | exact jr ‹_›⟩)))
      rw [hz]
      exact R.w2 ((nS),(nS),(nS),(nS)) [7] [3,2,1,0] rfl Tryz.results17 (RV.cell 6 rfl rfl ar) (RV.tmp rfl) rfl rfl rfl (cL rfl (dP (by decide) rfl))
     ·
      refine R.reg rfl<|R.q (q.add (r:=((k+1:Nat):Int)) rfl rfl (wr (by omega))) rfl<|R.u 1 rfl<|R.nil ?_
      refine R.back (k+1,((rowP z (⟨x1.Key,x1.Val,false⟩:Change)).1),z37,z38,z39,z40) rfl (by ((try dsimp only);have zl:=mo z (⟨x1.Key,x1.Val,false⟩:Change);exact ⟨by omega,nN HP hx1 (by first|exact mj (by omega)|exact ml (by omega) rfl ‹_›) ‹_› (by first|assumption|exact jq ‹_› | exact jr ‹_›),by omega,by omega,by omega⟩)) (by dsimp only;omega) ⟨rfl,rfl,rfl,rfl,rfl,rfl,trivial⟩ (fun _=>Wd.aM [4,3,2,1,0,6,7] [0,1] rfl rfl rfl)
 ·
  refine R.q (q.lss rfl rfl (decide_eq_false (by omega))) rfl<|R.nil ?_
  refine R.aI rfl rfl ?_
  refine R.reg rfl<|R.q (q.cT 4 rfl rfl ar) rfl<|R.s (B':=(fun _u:Unit=>[ag.box b2 [cz,ck,dB,cB,iV z.ae,iV z.af] 32,ag.box b1 aJ 32,ag.held w own])) (F':=(fun _u:Unit=>[ag.ls cB (z.Notes:List Note),ag.ls dB (z.Held:List Held),ag.ls ck (z.Things:List ah),ag.ls cz (z.ai:List aj),ag.ls bm (l:List Change),bz])) rfl (s.pre (B2:=[ag.row 72 cB (z.Notes:List Note),ag.row 85 dB (z.Held:List Held),ag.row 62 ck (z.Things:List ah),ag.box b2 [cz,ck,dB,cB,iV z.ae,iV z.af] 32,ag.box b1 aJ 32,ag.held w own]) (F2:=[ag.ls cz (z.ai:List aj),ag.ls bm (l:List Change),bz]) (fun _ hw=>hw.di 3 _ rfl rfl) (s.pre (B2:=[ag.row 72 cB (z.Notes:List Note),ag.row 85 dB (z.Held:List Held),ag.box b2 [cz,ck,dB,cB,iV z.ae,iV z.af] 32,ag.box b1 aJ 32,ag.held w own]) (F2:=[ag.ls ck (z.Things:List ah),ag.ls cz (z.ai:List aj),ag.ls bm (l:List Change),bz]) (fun _ hw=>hw.di 2 _ rfl rfl) (s.pre (B2:=[ag.row 72 cB (z.Notes:List Note),ag.box b2 [cz,ck,dB,cB,iV z.ae,iV z.af] 32,ag.box b1 aJ 32,ag.held w own]) (F2:=[ag.ls dB (z.Held:List Held),ag.ls ck (z.Things:List ah),ag.ls cz (z.ai:List aj),ag.ls bm (l:List Change),bz]) (fun _ hw=>hw.di 1 _ rfl rfl) (s.pre (B2:=[ag.box b2 [cz,ck,dB,cB,iV z.ae,iV z.af] 32,ag.box b1 aJ 32,ag.held w own]) (F2:=[ag.ls cB (z.Notes:List Note),ag.ls dB (z.Held:List Held),ag.ls ck (z.Things:List ah),ag.ls cz (z.ai:List aj),ag.ls bm (l:List Change),bz]) (fun _ hw=>hw.di 0 _ rfl rfl) (s.bJ (B0:=[]) (Br:=[ag.box b2 [cz,ck,dB,cB,iV z.ae,iV z.af] 32,ag.box b1 aJ 32,ag.held w own]) (F0:=[ag.ls cz (z.ai:List aj),ag.ls ck (z.Things:List ah),ag.ls dB (z.Held:List Held),ag.ls cB (z.Notes:List Note)]) [0,1,2] [3,2,1,0] (fun _u:Unit => .bool ((da z))) (fun _u:Unit=>[]) (fun _u:Unit=>[]) rfl rfl rfl Cd rfl rfl (fun w own hw H=>vy cz ck dB cB (z) w own H (by first|assumption|omega)) rfl))))) fun _=>R.q (q.not rfl) rfl<|R.nil ?_
  refine R.cond rfl rfl (fun h12=>?_) (fun h12=>?_)
  ·
   refine R.reg rfl<|R.q (q.build (cs:=aJ) cY rfl rfl) rfl<|R.q (q.iface rfl bI) rfl<|R.s rfl (s.st (us:=aJ) (cs':=aJ) 1 _ rfl rfl rfl rfl (.inl ar) rfl rfl rfl rfl) fun _=>R.u 1 rfl<|R.nil ?_
   refine R.mp (fun _ hw=>hw.bg (α:=aj)) ?_
   refine R.mp (fun _ hw=>hw.bg (α:=ah)) ?_
   refine R.mp (fun _ hw=>hw.bg (α:=Held)) ?_
   refine R.mp (fun _ hw=>hw.bg (α:=Note)) ?_
   have hz:aZ l=((⟨[],[],[],[],0,0⟩:ap),4):=by (exact AU HP (by omega) (by first|assumption|exact jq ‹_› | exact jr ‹_›))
   rw [hz]
   exact R.w2 ((nS),(nS),(nS),(nS)) [2] [3,2,1,0] rfl Tryz.results17 (RV.cell 1 rfl rfl ar) (RV.tmp rfl) rfl rfl rfl (cL rfl (dP (by decide) rfl))
  ·
   refine R.reg rfl<|R.q (q.cT 0 rfl rfl ar) rfl<|R.s rfl (s.e8 (us:=[cz,ck,dB,cB,iV z.ae,iV z.af]) (cs':=[cz,ck,dB,cB,iV z.ae,iV z.af]) 1 _ rfl rfl rfl (fun _ _=>rfl) (.inl ar) (fun w hw=>(ak (Sl.one (hw.aT 3 rfl)) (ak (Sl.one (hw.aT 2 rfl)) (ak (Sl.one (hw.aT 1 rfl)) (ak (Sl.one (hw.aT 0 rfl)) (ak rfl (ak rfl aS))))))) rfl rfl rfl) fun _=>R.u 1 rfl<|R.nil ?_
   have hz:aZ l=(z,0):=by (exact CV HP (by omega) (by first|assumption|exact jq ‹_› | exact jr ‹_›))
   rw [hz]
   exact R.w2 (cz,ck,dB,cB) [2] [3,2,1,0] rfl Tryz.results17 (RV.cell 1 rfl rfl ar) (RV.tmp rfl) rfl rfl rfl (cL rfl (gO rfl))
end Go.Proofs.YtbkfhjaibhnkmaaGreatDoor
