import Derived.Test.YtbkfhjaibhnkmaaGreatDoorTRP43
import Derived.Test.YtbkfhjaibhnkmaaGreatDoorTRP19
import Derived.Test.YtbkfhjaibhnkmaaGreatDoorTRP44
namespace Go.Proofs.YtbkfhjaibhnkmaaGreatDoor
open Go Go.RowKit
set_option linter.unusedVariables false
set_option linter.unusedSimpArgs false
set_option maxRecDepth 100000
theorem iJ {b:Bool}(h:(!b)=true):b=false:=by cases b <;> simp_all
theorem iK {b:Bool}(h:(!b)=false):b=true:=by cases b <;> simp_all
theorem zj {α β:Type}{f:α→β}{L:List α}{k:Nat}{x:α}(hx:L[k]? = some x)(hm:f x∈(L.take k).map f):¬ (L.map f).Nodup:=fun hn=>by
  have hk:=(List.getElem?_eq_some_iff.1 hx).1
  rw [← List.take_append_drop k L,List.map_append] at hn
  have h2:f x∈(L.drop k).map f:=List.mem_map.2 ⟨x,List.mem_of_getElem? (i:=0) (by rw [List.getElem?_drop,Nat.add_zero];exact hx),rfl⟩
  exact (List.nodup_append.1 hn).2.2 _ hm _ h2 rfl
theorem rW {l:List Int}{x:Int}(h:l.Nodup)(hx:¬ x∈l):(l++[x]).Nodup:=by
  rw [List.nodup_append]
  exact ⟨h,(List.nodup_cons.2 ⟨(by simp),List.nodup_nil⟩),fun a ha b hb e=>hx (by rw [List.mem_singleton.1 hb] at e;rw [← e];exact ha)⟩
section
variable {r:au} {k:Nat} {x:Held} {seen ts:List Int}
theorem sY (hx:r.Held[k]? = some x)(h:bC r.aj x.ak<0):cI r=false:=eb fun hw=>by
  have:=hw.dk x (List.mem_of_getElem? hx);omega
theorem wa (hx:r.Held[k]? = some x)(hs:seen=(r.Held.take k).map Held.ak)(h:x.ak∈seen):cI r=false:=eb fun hw=>zj hx (hs▸h) hw.once
theorem ud (ht:ts=(r.Things.take k).map ai.ID)(hk:r.Things.length≤k)(h:¬ ts=aR r.aj):cI r=false:=eb fun hw=>h (by rw [ht,List.take_of_length_le hk];exact hw.things)
theorem nQ {x:ak}(hx:r.aj[r.aj.length-1]? = some x)(h:¬ x.ID<r.ae):cI r=false:=eb fun hw=>h (hw.xZ x (by rw [List.getLast?_eq_getElem?];exact hx))
theorem qF {α β:Type}{f:α→β}{L:List α}{y:β}(h:(L.map f)[(L.map f).length-1]? = some y):∃x,L.getLast? = some x∧f x=y:=by
  rw [List.getElem?_map,List.length_map,← List.getLast?_eq_getElem?] at h
  obtain ⟨x,h1,h2⟩:=Option.map_eq_some_iff.1 h
  exact ⟨x,h1,h2⟩
theorem nR {y:Int}(ht:ts=(r.Things.take k).map ai.ID)(hk:r.Things.length≤k)(hy:ts[ts.length-1]? = some y)(h:¬ y<r.af):cI r=false:=eb fun hw=>by
  subst ht;rw [List.take_of_length_le hk] at hy
  obtain ⟨x,h1,h2⟩:=qF hy
  exact h (h2▸hw.ya x h1)
theorem dm (a1:cO r.aj=0)(a2:r.Things.length≤10)(a3:1≤r.ae∧r.ae≤1000)(a5:1≤r.af∧r.af≤1000)(a7:r.Held.length=r.aj.length){i:Nat}(hs:seen=(r.Held.take i).map Held.ak)(hi:r.Held.length≤i)
    (hf:∀h∈r.Held.take i,0≤bC r.aj h.ak) (hn:seen.Nodup) (ht:ts=(r.Things.take k).map ai.ID) (hk:r.Things.length≤k) (he:ts=aR r.aj) (hw:r.aj.length=0 ∨ ∃x,r.aj[r.aj.length-1]? = some x∧x.ID<r.ae) (hl:ts.length=0 ∨ ∃y,ts[ts.length-1]? = some y∧y<r.af):cI r=true:=by
  rw [List.take_of_length_le hi] at hs hf
  rw [List.take_of_length_le hk] at ht
  refine nJ ⟨a1,a2,a3.1,a3.2,a5.1,a5.2,a7,hf,hs▸hn,ht.symm.trans he,fun w hq=>?_,fun t hq=>?_⟩
  ·
    rcases hw with hw|⟨x,h1,h2⟩
    · rw [List.eq_nil_of_length_eq_zero hw] at hq;cases hq
    · rw [List.getLast?_eq_getElem?,h1] at hq;injection hq with hq;rw [← hq];exact h2
  ·
    rcases hl with hl|⟨y,h1,h2⟩
    · rw [ht,List.length_map] at hl;rw [List.eq_nil_of_length_eq_zero hl] at hq;cases hq
    ·
      subst ht
      obtain ⟨x,h3,h4⟩:=qF h1
      rw [h3] at hq;injection hq with hq;rw [← hq,h4];exact h2
end
set_option maxRecDepth 100000 in
set_option maxHeartbeats 1600000 in
theorem uf (aD az aC aB:Value)(r:au)(w:World)(own:List Nat)(H:Wd w (blks []++own) ([]++[ah.held w own]) [ah.ls aD (r.aj:List ak),ah.ls az (r.Things:List ai),ah.ls aC (r.Held:List Held),ah.ls aB (r.Notes:List Note)] w)(hr:r.aj.length≤1000∧r.Things.length≤1000∧r.Held.length≤1000):Calls Tryz.prog 51 #[.agg #[aD,az,aC,aB,.int .i64 r.ae,.int .i64 r.af]] w fun e w' => ∃z:Unit,e = .returned (.bool ((cI r)))∧Wd w (blks []++own) ([]++[ah.held w own]) [] w':=by
  have dF:=H.cL 0 rfl
  have cX:=H.cL 1 rfl
  have ej:=H.cL 2 rfl
  have dG:=H.cL 3 rfl
  refine R.cQ (n:=126) (vs:=[.agg #[aD,az,aC,aB,.int .i64 r.ae,.int .i64 r.af]]) (B:=[ah.held w own]) [(0,.agg #[aD,az,aC,aB,.int .i64 r.ae,.int .i64 r.af])] Tryz.func51 rfl rfl rfl rfl H ?_
  refine R.reg rfl<|?_
  refine R.s rfl (s.box (cs:=[aD,az,aC,aB,.int .i64 r.ae,.int .i64 r.af]) rfl rfl rfl) fun b1=>?_
  refine R.u 1 rfl<|R.nil ?_
  refine R.reg rfl<|R.q (q.aX (off':=0) rfl aY rfl) rfl<|R.q (q.ld 0 rfl rfl bq rfl) rfl<|R.c (q.call Ac rfl rfl (fun w hw=>(nU _ (r.aj) w ((fun _=>Wd.aS 0 rfl) w hw) ))) rfl<|?_
  by_cases h1:cO r.aj=0
  ·
    refine R.q (q.fa rfl rfl Tryz.underlying35 (by omega)) rfl<|R.u 1 rfl<|R.qg rfl (q.aX (off':=1) rfl bI rfl) rfl<|R.qg rfl (q.ld 0 rfl rfl cu rfl) rfl<|R.qg rfl (q.len' (fun _=>Wd.aS 1 rfl) rfl Tryz.underlying28) rfl<|?_
    by_cases h2:10<r.Things.length
    ·
      refine R.qg rfl (q.gtr rfl rfl (decide_eq_true (by omega))) rfl<|R.u 30 rfl<|R.nil ?_
      refine R.aE rfl rfl ?_
      refine R.reg rfl<|R.u 1 rfl<|R.nil ?_
      have hz:cI r=false:=by (exact eb (fun hw=>by have a1:cO r.aj=0:=hw.tree;have a2:=hw.fj;have a3:=hw.jk;have a4:=hw.j4;have a5:=hw.jo;have a6:=hw.jq;have a7:=hw.hlen;omega))
      rw [hz]
      exact R.w1 () [1] [] rfl Tryz.results51 (RV.tmp rfl) rfl rfl rfl rfl
    ·
      refine R.qg rfl (q.gtr rfl rfl (decide_eq_false (by omega))) rfl<|R.u 2 rfl<|R.qg rfl (q.aX (off':=4) rfl bL rfl) rfl<|R.qg rfl (q.ld 0 rfl rfl aA rfl) rfl<|?_
      by_cases h3:r.ae<1
      ·
        refine R.qg rfl (q.lss rfl rfl (decide_eq_true (by omega))) rfl<|R.u 25 rfl<|R.nil ?_
        refine R.aE rfl rfl ?_
        refine R.reg rfl<|R.u 1 rfl<|R.nil ?_
        have hz:cI r=false:=by (exact eb (fun hw=>by have a1:cO r.aj=0:=hw.tree;have a2:=hw.fj;have a3:=hw.jk;have a4:=hw.j4;have a5:=hw.jo;have a6:=hw.jq;have a7:=hw.hlen;omega))
        rw [hz]
        exact R.w1 () [1] [] rfl Tryz.results51 (RV.tmp rfl) rfl rfl rfl rfl
      ·
        refine R.qg rfl (q.lss rfl rfl (decide_eq_false (by omega))) rfl<|R.u 2 rfl<|R.qg rfl (q.aX (off':=4) rfl bL rfl) rfl<|R.qg rfl (q.ld 0 rfl rfl aA rfl) rfl<|?_
        by_cases h4:1000<r.ae
        ·
          refine R.qg rfl (q.gtr rfl rfl (decide_eq_true (by omega))) rfl<|R.u 20 rfl<|R.nil ?_
          refine R.aE rfl rfl ?_
          refine R.reg rfl<|R.u 1 rfl<|R.nil ?_
          have hz:cI r=false:=by (exact eb (fun hw=>by have a1:cO r.aj=0:=hw.tree;have a2:=hw.fj;have a3:=hw.jk;have a4:=hw.j4;have a5:=hw.jo;have a6:=hw.jq;have a7:=hw.hlen;omega))
          rw [hz]
          exact R.w1 () [1] [] rfl Tryz.results51 (RV.tmp rfl) rfl rfl rfl rfl
        ·
          refine R.qg rfl (q.gtr rfl rfl (decide_eq_false (by omega))) rfl<|R.u 2 rfl<|R.qg rfl (q.aX (off':=5) rfl cE rfl) rfl<|R.qg rfl (q.ld 0 rfl rfl aA rfl) rfl<|?_
          by_cases h5:r.af<1
          ·
            refine R.qg rfl (q.lss rfl rfl (decide_eq_true (by omega))) rfl<|R.u 15 rfl<|R.nil ?_
            refine R.aE rfl rfl ?_
            refine R.reg rfl<|R.u 1 rfl<|R.nil ?_
            have hz:cI r=false:=by (exact eb (fun hw=>by have a1:cO r.aj=0:=hw.tree;have a2:=hw.fj;have a3:=hw.jk;have a4:=hw.j4;have a5:=hw.jo;have a6:=hw.jq;have a7:=hw.hlen;omega))
            rw [hz]
            exact R.w1 () [1] [] rfl Tryz.results51 (RV.tmp rfl) rfl rfl rfl rfl
          ·
            refine R.qg rfl (q.lss rfl rfl (decide_eq_false (by omega))) rfl<|R.u 2 rfl<|R.qg rfl (q.aX (off':=5) rfl cE rfl) rfl<|R.qg rfl (q.ld 0 rfl rfl aA rfl) rfl<|?_
            by_cases h6:1000<r.af
            ·
              refine R.qg rfl (q.gtr rfl rfl (decide_eq_true (by omega))) rfl<|R.u 10 rfl<|R.nil ?_
              refine R.aE rfl rfl ?_
              refine R.reg rfl<|R.u 1 rfl<|R.nil ?_
              have hz:cI r=false:=by (exact eb (fun hw=>by have a1:cO r.aj=0:=hw.tree;have a2:=hw.fj;have a3:=hw.jk;have a4:=hw.j4;have a5:=hw.jo;have a6:=hw.jq;have a7:=hw.hlen;omega))
              rw [hz]
              exact R.w1 () [1] [] rfl Tryz.results51 (RV.tmp rfl) rfl rfl rfl rfl
            ·
              refine R.qg rfl (q.gtr rfl rfl (decide_eq_false (by omega))) rfl<|R.u 2 rfl<|R.qg rfl (q.aX (off':=2) rfl bJ rfl) rfl<|R.qg rfl (q.ld 0 rfl rfl cw rfl) rfl<|R.qg rfl (q.len' (fun _=>Wd.aS 2 rfl) rfl Tryz.underlying29) rfl<|R.qg rfl (q.aX (off':=0) rfl aY rfl) rfl<|R.qg rfl (q.ld 0 rfl rfl bq rfl) rfl<|R.qg rfl (q.len' (fun _=>Wd.aS 0 rfl) rfl Tryz.underlying27) rfl<|?_
              by_cases h7:r.Held.length=r.aj.length
              ·
                refine R.qg rfl (q.neq rfl rfl (bne_eq_false_iff_eq.2 (by omega))) rfl<|R.u 1 rfl<|R.nil ?_
                refine R.aH rfl rfl ?_
                refine R.reg rfl<|R.u 1 rfl<|R.nil ?_
                refine R.reg rfl<|R.q (q.aX (off':=2) rfl bJ rfl) rfl<|R.q (q.ld 0 rfl rfl cw rfl) rfl<|R.q (q.len' (fun _=>Wd.aS 2 rfl) rfl Tryz.underlying29) rfl<|R.u 1 rfl<|R.nil ?_
                refine R.row0 (α:=Int) 3 ?_
                refine R.loop (fun g_:Nat×Value×(List Int)=>[(1,.pointer (some ⟨b1,0,none⟩)),(3,g_.2.1),(49,aC),(50,.int .i64 (r.Held.length:Int)),(51,.int .i64 (g_.1:Int))]) (fun g_:Nat×Value×(List Int)=>[ah.row 3 g_.2.1 (g_.2.2:List Int),ah.box b1 [aD,az,aC,aB,.int .i64 r.ae,.int .i64 r.af] 32,ah.held w own]) (fun g_:Nat×Value×(List Int)=>[ah.ls aD (r.aj:List ak),ah.ls az (r.Things:List ai),ah.ls aC (r.Held:List Held),ah.ls aB (r.Notes:List Note)]) (fun g_:Nat×Value×(List Int)=>g_.1≤r.Held.length∧g_.2.2=(r.Held.take g_.1).map Held.ak∧(∀h∈r.Held.take g_.1,0≤bC r.aj h.ak)∧g_.2.2.Nodup) (fun g_:Nat×Value×(List Int)=>r.Held.length-g_.1) (0,(.slice none 0 0),[]) rfl (by exact ⟨by omega,rfl,(by intro h hh;simp at hh),List.nodup_nil⟩) ⟨rfl,rfl,rfl,rfl,rfl,trivial⟩ (fun _=>Wd.pick [0,1,2] [0,1,2,3] rfl rfl rfl) ?_
                rintro ⟨k,u,seen⟩ ⟨hk,HS,HF,HN⟩
                dsimp only at *
                have ll:seen.length≤1000:=by rw [HS,List.length_map,List.length_take];omega
                refine R.reg rfl<|?_
                by_cases h8:k<r.Held.length
                ·
                  refine R.q (q.lss rfl rfl (decide_eq_true (by omega))) rfl<|R.nil ?_
                  refine R.aE rfl rfl ?_
                  refine R.reg rfl<|?_
                  obtain ⟨x1,hx1⟩:∃z,r.Held[k]? = some z:=⟨_,List.getElem?_eq_getElem (by omega)⟩
                  refine R.q (q.idx (i:=k) (fun _=>Wd.aS 2 rfl) rfl rfl bH rfl hx1) rfl<|R.q (q.dY (ds:=[.int .i64 x1.Place.ag,.int .i64 x1.Place.Slot,.int .i64 x1.ak]) (fun _=>Wd.aS 2 rfl) hx1 rfl dV rfl) rfl<|?_
                  refine R.s rfl (s.alloc (cs:=[.int .i64 0,.int .i64 0,.int .i64 0]) eV rfl rfl) fun b2=>?_
                  refine R.s rfl (s.st (us:=[.int .i64 x1.Place.ag,.int .i64 x1.Place.Slot,.int .i64 x1.ak]) (cs':=[.int .i64 x1.Place.ag,.int .i64 x1.Place.Slot,.int .i64 x1.ak]) 0 _ rfl rfl rfl rfl (.inl dV) rfl rfl rfl rfl) fun _=>?_
                  refine R.nil ?_
                  refine R.reg rfl<|R.q (q.aX (off':=0) rfl aY rfl) rfl<|R.q (q.ld 2 rfl rfl bq rfl) rfl<|R.q (q.aX (off':=2) rfl fV rfl) rfl<|R.q (q.ld 0 rfl rfl aA rfl) rfl<|?_
                  rcases dB r.aj x1.ak with ⟨du,kx⟩ | ⟨jV,dZ,du,fr,AB⟩
                  ·
                    refine R.c (q.call jh rfl rfl (fun w hw=>(cv (congrArg (Value.int .i64) du) (eL _ (r.aj) (x1.ak) w ((fun _=>Wd.aS 0 rfl) w hw) )))) rfl<|R.q (q.lss (b:=true) rfl rfl (by decide)) rfl<|R.u 6 rfl<|R.nil ?_
                    refine R.aE rfl rfl ?_
                    refine R.reg rfl<|R.u 1 rfl<|R.nil ?_
                    have hz:cI r=false:=by (first|exact sY hx1 (by omega)|exact wa hx1 HS (of_decide_eq_true (by assumption)))
                    rw [hz]
                    exact R.w1 () [3] [] rfl Tryz.results51 (RV.tmp rfl) rfl rfl rfl rfl
                  ·
                    refine R.c (q.call jh rfl rfl (fun w hw=>(cv (congrArg (Value.int .i64) du) (eL _ (r.aj) (x1.ak) w ((fun _=>Wd.aS 0 rfl) w hw) )))) rfl<|R.q (q.lss rfl rfl (decide_eq_false (by omega))) rfl<|R.u 2 rfl<|R.qg rfl (q.aX (off':=2) rfl fV rfl) rfl<|R.qg rfl (q.ld 0 rfl rfl aA rfl) rfl<|?_
                    rcases Bool.eq_false_or_eq_true (decide (x1.ak∈seen)) with h9|h9
                    ·
                      refine R.cg rfl (q.call lY rfl rfl (fun w hw=>(cv (congrArg Value.bool h9) (dO _ (seen) (x1.ak) w ((fun _=>Wd.row 1 rfl) w hw) )))) rfl<|R.u 1 rfl<|R.nil ?_
                      refine R.aE rfl rfl ?_
                      refine R.reg rfl<|R.u 1 rfl<|R.nil ?_
                      have hz:cI r=false:=by (first|exact sY hx1 (by omega)|exact wa hx1 HS (of_decide_eq_true (by assumption)))
                      rw [hz]
                      exact R.w1 () [3] [] rfl Tryz.results51 (RV.tmp rfl) rfl rfl rfl rfl
                    ·
                      refine R.cg rfl (q.call lY rfl rfl (fun w hw=>(cv (congrArg Value.bool h9) (dO _ (seen) (x1.ak) w ((fun _=>Wd.row 1 rfl) w hw) )))) rfl<|R.u 1 rfl<|R.nil ?_
                      refine R.aH rfl rfl ?_
                      refine R.reg rfl<|R.u 1 rfl<|R.q (q.aX (off':=2) rfl fV rfl) rfl<|R.q (q.ld 0 rfl rfl aA rfl) rfl<|?_
                      refine R.s rfl (s.bs (l:=([x1.ak]:List Int)) cG iR rfl rfl rfl rfl rfl rfl rfl) fun b3=>?_
                      refine R.s rfl (s.app (l2:=[x1.ak]) 2 _ rfl rfl rfl (fun _=>Wd.row 0 rfl) jT (by first|omega|(simp;done)|(simp;omega)) (by first|omega|(simp;done)|(simp;omega)) (fun _=>rfl) rfl) fun v1=>?_
                      refine R.u 1 rfl<|R.nil ?_
                      refine R.reg rfl<|R.q (q.add (r:=((k+1:Nat):Int)) rfl rfl (wr (by omega))) rfl<|R.u 1 rfl<|R.nil ?_
                      refine R.back (k+1,v1,(seen++([x1.ak]))) rfl (by (exact ⟨by omega,by rw [jM Held.ak hx1,← HS],(by rw [List.take_add_one,hx1];intro h hh;rcases List.mem_append.1 hh with hh|hh;exact HF h hh;rw [List.mem_singleton.1 hh];omega),rW HN (of_decide_eq_false (by assumption))⟩)) (by dsimp only;omega) ⟨rfl,rfl,rfl,rfl,rfl,trivial⟩ (fun _=>Wd.aK [2,3,4] [0,1,2,3] rfl rfl rfl)
                ·
                  refine R.q (q.lss rfl rfl (decide_eq_false (by omega))) rfl<|R.nil ?_
                  refine R.aH rfl rfl ?_
                  refine R.reg rfl<|R.u 1 rfl<|R.nil ?_
                  refine R.reg rfl<|R.q (q.aX (off':=1) rfl bI rfl) rfl<|R.q (q.ld 1 rfl rfl cu rfl) rfl<|R.q (q.len' (fun _=>Wd.aS 1 rfl) rfl Tryz.underlying28) rfl<|R.u 1 rfl<|R.nil ?_
                  refine R.row0 (α:=Int) 3 ?_
                  refine R.loop (fun g_:Nat×Value×(List Int)=>[(1,.pointer (some ⟨b1,0,none⟩)),(6,g_.2.1),(74,az),(75,.int .i64 (r.Things.length:Int)),(76,.int .i64 (g_.1:Int))]) (fun g_:Nat×Value×(List Int)=>[ah.row 3 g_.2.1 (g_.2.2:List Int),ah.row 3 u (seen:List Int),ah.box b1 [aD,az,aC,aB,.int .i64 r.ae,.int .i64 r.af] 32,ah.held w own]) (fun g_:Nat×Value×(List Int)=>[ah.ls aD (r.aj:List ak),ah.ls az (r.Things:List ai),ah.ls aC (r.Held:List Held),ah.ls aB (r.Notes:List Note)]) (fun g_:Nat×Value×(List Int)=>g_.1≤r.Things.length∧g_.2.2=(r.Things.take g_.1).map ai.ID) (fun g_:Nat×Value×(List Int)=>r.Things.length-g_.1) (0,(.slice none 0 0),[]) rfl (by exact ⟨by omega,rfl⟩) ⟨rfl,rfl,rfl,rfl,rfl,trivial⟩ (fun _=>Wd.pick [0,1,2,3] [0,1,2,3] rfl rfl rfl) ?_
                  rintro ⟨j,u2,ts⟩ ⟨hj,HT⟩
                  dsimp only at *
                  have CR:ts.length≤1000:=by rw [HT,List.length_map,List.length_take];omega
                  refine R.reg rfl<|?_
                  by_cases h10:j<r.Things.length
                  ·
                    refine R.q (q.lss rfl rfl (decide_eq_true (by omega))) rfl<|R.nil ?_
                    refine R.aE rfl rfl ?_
                    refine R.reg rfl<|?_
                    obtain ⟨x2,hx2⟩:∃z,r.Things[j]? = some z:=⟨_,List.getElem?_eq_getElem (by omega)⟩
                    refine R.q (q.idx (i:=j) (fun _=>Wd.aS 1 rfl) rfl rfl eQ rfl hx2) rfl<|R.q (q.dY (ds:=[.int .i64 x2.ID,.int .i64 x2.Kind,.string x2.Data]) (fun _=>Wd.aS 1 rfl) hx2 rfl eR rfl) rfl<|?_
                    refine R.s rfl (s.alloc (cs:=[.int .i64 0,.int .i64 0,.string (⟨#[]⟩)]) fE rfl rfl) fun b4=>?_
                    refine R.s rfl (s.st (us:=[.int .i64 x2.ID,.int .i64 x2.Kind,.string x2.Data]) (cs':=[.int .i64 x2.ID,.int .i64 x2.Kind,.string x2.Data]) 0 _ rfl rfl rfl rfl (.inl eR) rfl rfl rfl rfl) fun _=>?_
                    refine R.nil ?_
                    refine R.reg rfl<|R.u 1 rfl<|R.q (q.aX (off':=0) rfl jR rfl) rfl<|R.q (q.ld 0 rfl rfl aA rfl) rfl<|?_
                    refine R.s rfl (s.bs (l:=([x2.ID]:List Int)) cG iR rfl rfl rfl rfl rfl rfl rfl) fun b5=>?_
                    refine R.s rfl (s.app (l2:=[x2.ID]) 2 _ rfl rfl rfl (fun _=>Wd.row 0 rfl) jT (by first|omega|(simp;done)|(simp;omega)) (by first|omega|(simp;done)|(simp;omega)) (fun _=>rfl) rfl) fun v2=>?_
                    refine R.u 1 rfl<|R.nil ?_
                    refine R.reg rfl<|R.q (q.add (r:=((j+1:Nat):Int)) rfl rfl (wr (by omega))) rfl<|R.u 1 rfl<|R.nil ?_
                    refine R.back (j+1,v2,(ts++([x2.ID]))) rfl (by (exact ⟨by omega,by rw [jM ai.ID hx2,← HT]⟩)) (by dsimp only;omega) ⟨rfl,rfl,rfl,rfl,rfl,trivial⟩ (fun _=>Wd.aK [2,3,4,5] [0,1,2,3] rfl rfl rfl)
                  ·
                    refine R.q (q.lss rfl rfl (decide_eq_false (by omega))) rfl<|R.nil ?_
                    refine R.aH rfl rfl ?_
                    refine R.reg rfl<|R.u 1 rfl<|R.q (q.aX (off':=0) rfl aY rfl) rfl<|R.q (q.ld 2 rfl rfl bq rfl) rfl<|?_
                    refine R.s rfl (s.od xL rfl rfl (fun w hw=>l9 _ (r.aj) w ((fun _=>Wd.aS 0 rfl) w hw) (by first|omega|assumption)) rfl) fun v3=>?_
                    rcases Bool.eq_false_or_eq_true (decide (ts=(aR r.aj))) with h11|h11
                    ·
                      refine R.c (q.call uF rfl rfl (fun w hw=>(cv (congrArg Value.bool h11) (nP _ (ts) _ ((aR r.aj)) w ((fun _=>Wd.row 1 rfl) w hw) ((fun _=>Wd.row 0 rfl) w hw) )))) rfl<|R.u 1 rfl<|R.nil ?_
                      refine R.aH rfl rfl ?_
                      by_cases h12:r.aj.length=0
                      ·
                        by_cases CV:ts.length=0
                        ·
                          refine R.eU rfl mixed (by kernel_rfl)<|Q.q (q.aX (off':=0) rfl aY rfl) rfl<|Q.q (q.ld 3 rfl rfl bq rfl) rfl<|Q.q (q.len' (fun _=>Wd.aS 0 rfl) rfl Tryz.underlying27) rfl<|Q.q (q.eql rfl rfl (beq_iff_eq.2 (by omega))) rfl<|Q.u 16 rfl<|Q.qg rfl (q.len' (fun _=>Wd.row 1 rfl) rfl Tryz.underlying60) rfl<|Q.qg rfl (q.eql rfl rfl (beq_iff_eq.2 (by omega))) rfl<|Q.u 13 rfl<|Q.nil ?_
                          have hz:cI r=true:=by (first|exact dm (by omega) (by omega) (by omega) (by omega) (by omega) HS (by omega) HF HN HT (by omega) (of_decide_eq_true (by assumption)) (.inl (by omega)) (.inl (by omega))|exact dm (by omega) (by omega) (by omega) (by omega) (by omega) HS (by omega) HF HN HT (by omega) (of_decide_eq_true (by assumption)) (.inl (by omega)) (.inr ⟨_,rfl,by assumption⟩)|exact dm (by omega) (by omega) (by omega) (by omega) (by omega) HS (by omega) HF HN HT (by omega) (of_decide_eq_true (by assumption)) (.inr ⟨_,rfl,by assumption⟩) (.inl (by omega))|exact dm (by omega) (by omega) (by omega) (by omega) (by omega) HS (by omega) HF HN HT (by omega) (of_decide_eq_true (by assumption)) (.inr ⟨_,rfl,by assumption⟩) (.inr ⟨_,rfl,by assumption⟩)|exact nQ rfl (by assumption)|exact nR HT (by omega) rfl (by assumption))
                          rw [hz]
                          exact R.w1 () [4] [] rfl Tryz.results51 (RV.tmp rfl) rfl rfl rfl rfl
                        ·
                          obtain ⟨x3,hx3⟩:∃z,ts[(ts.length-1)]? = some z:=⟨_,List.getElem?_eq_getElem (by omega)⟩
                          by_cases CW:x3<r.af
                          ·
                            refine R.eU rfl mixed (by kernel_rfl)<|Q.q (q.aX (off':=0) rfl aY rfl) rfl<|Q.q (q.ld 3 rfl rfl bq rfl) rfl<|Q.q (q.len' (fun _=>Wd.aS 0 rfl) rfl Tryz.underlying27) rfl<|Q.q (q.eql rfl rfl (beq_iff_eq.2 (by omega))) rfl<|Q.u 16 rfl<|Q.qg rfl (q.len' (fun _=>Wd.row 1 rfl) rfl Tryz.underlying60) rfl<|Q.qg rfl (q.eql rfl rfl (beq_eq_false_iff_ne.2 (by omega))) rfl<|Q.u 3 rfl<|Q.qg rfl (q.len' (fun _=>Wd.row 1 rfl) rfl Tryz.underlying60) rfl<|Q.qg rfl (q.sub (r:=((ts.length-1:Nat):Int)) rfl rfl (wr (by omega))) rfl<|Q.qg rfl (q.idx (i:=(ts.length-1)) (fun _=>Wd.row 1 rfl) rfl rfl cG rfl hx3) rfl<|Q.qg rfl (q.hZ (fun _=>Wd.row 1 rfl) hx3 rfl aA rfl) rfl<|Q.qg rfl (q.aX (off':=5) rfl cE rfl) rfl<|Q.qg rfl (q.ld 3 rfl rfl aA rfl) rfl<|Q.qg rfl (q.lss rfl rfl (decide_eq_true (by omega))) rfl<|Q.u 3 rfl<|Q.nil ?_
                            have hz:cI r=true:=by (first|exact dm (by omega) (by omega) (by omega) (by omega) (by omega) HS (by omega) HF HN HT (by omega) (of_decide_eq_true (by assumption)) (.inl (by omega)) (.inl (by omega))|exact dm (by omega) (by omega) (by omega) (by omega) (by omega) HS (by omega) HF HN HT (by omega) (of_decide_eq_true (by assumption)) (.inl (by omega)) (.inr ⟨_,hx3,by assumption⟩)|exact dm (by omega) (by omega) (by omega) (by omega) (by omega) HS (by omega) HF HN HT (by omega) (of_decide_eq_true (by assumption)) (.inr ⟨_,rfl,by assumption⟩) (.inl (by omega))|exact dm (by omega) (by omega) (by omega) (by omega) (by omega) HS (by omega) HF HN HT (by omega) (of_decide_eq_true (by assumption)) (.inr ⟨_,rfl,by assumption⟩) (.inr ⟨_,hx3,by assumption⟩)|exact nQ rfl (by assumption)|exact nR HT (by omega) hx3 (by assumption))
                            rw [hz]
                            exact R.w1 () [4] [] rfl Tryz.results51 (RV.tmp rfl) rfl rfl rfl rfl
                          ·
                            refine R.eU rfl mixed (by kernel_rfl)<|Q.q (q.aX (off':=0) rfl aY rfl) rfl<|Q.q (q.ld 3 rfl rfl bq rfl) rfl<|Q.q (q.len' (fun _=>Wd.aS 0 rfl) rfl Tryz.underlying27) rfl<|Q.q (q.eql rfl rfl (beq_iff_eq.2 (by omega))) rfl<|Q.u 16 rfl<|Q.qg rfl (q.len' (fun _=>Wd.row 1 rfl) rfl Tryz.underlying60) rfl<|Q.qg rfl (q.eql rfl rfl (beq_eq_false_iff_ne.2 (by omega))) rfl<|Q.u 3 rfl<|Q.qg rfl (q.len' (fun _=>Wd.row 1 rfl) rfl Tryz.underlying60) rfl<|Q.qg rfl (q.sub (r:=((ts.length-1:Nat):Int)) rfl rfl (wr (by omega))) rfl<|Q.qg rfl (q.idx (i:=(ts.length-1)) (fun _=>Wd.row 1 rfl) rfl rfl cG rfl hx3) rfl<|Q.qg rfl (q.hZ (fun _=>Wd.row 1 rfl) hx3 rfl aA rfl) rfl<|Q.qg rfl (q.aX (off':=5) rfl cE rfl) rfl<|Q.qg rfl (q.ld 3 rfl rfl aA rfl) rfl<|Q.qg rfl (q.lss rfl rfl (decide_eq_false (by omega))) rfl<|Q.u 3 rfl<|Q.nil ?_
                            have hz:cI r=false:=by (first|exact dm (by omega) (by omega) (by omega) (by omega) (by omega) HS (by omega) HF HN HT (by omega) (of_decide_eq_true (by assumption)) (.inl (by omega)) (.inl (by omega))|exact dm (by omega) (by omega) (by omega) (by omega) (by omega) HS (by omega) HF HN HT (by omega) (of_decide_eq_true (by assumption)) (.inl (by omega)) (.inr ⟨_,hx3,by assumption⟩)|exact dm (by omega) (by omega) (by omega) (by omega) (by omega) HS (by omega) HF HN HT (by omega) (of_decide_eq_true (by assumption)) (.inr ⟨_,rfl,by assumption⟩) (.inl (by omega))|exact dm (by omega) (by omega) (by omega) (by omega) (by omega) HS (by omega) HF HN HT (by omega) (of_decide_eq_true (by assumption)) (.inr ⟨_,rfl,by assumption⟩) (.inr ⟨_,hx3,by assumption⟩)|exact nQ rfl (by assumption)|exact nR HT (by omega) hx3 (by assumption))
                            rw [hz]
                            exact R.w1 () [4] [] rfl Tryz.results51 (RV.tmp rfl) rfl rfl rfl rfl
                      ·
                        obtain ⟨x4,hx4⟩:∃z,r.aj[(r.aj.length-1)]? = some z:=⟨_,List.getElem?_eq_getElem (by omega)⟩
                        by_cases CX:x4.ID<r.ae
                        ·
                          by_cases h16:ts.length=0
                          ·
                            refine R.eU rfl mixed (by kernel_rfl)<|Q.q (q.aX (off':=0) rfl aY rfl) rfl<|Q.q (q.ld 3 rfl rfl bq rfl) rfl<|Q.q (q.len' (fun _=>Wd.aS 0 rfl) rfl Tryz.underlying27) rfl<|Q.q (q.eql rfl rfl (beq_eq_false_iff_ne.2 (by omega))) rfl<|Q.u 1 rfl<|Q.qg rfl (q.aX (off':=0) rfl aY rfl) rfl<|Q.qg rfl (q.ld 3 rfl rfl bq rfl) rfl<|Q.qg rfl (q.aX (off':=0) rfl aY rfl) rfl<|Q.qg rfl (q.ld 3 rfl rfl bq rfl) rfl<|Q.qg rfl (q.len' (fun _=>Wd.aS 0 rfl) rfl Tryz.underlying27) rfl<|Q.qg rfl (q.sub (r:=((r.aj.length-1:Nat):Int)) rfl rfl (wr (by omega))) rfl<|Q.qg rfl (q.idx (i:=(r.aj.length-1)) (fun _=>Wd.aS 0 rfl) rfl rfl ct rfl hx4) rfl<|Q.qg rfl (q.iO (j':=0) (fun _=>Wd.aS 0 rfl) hx4 rfl bu rfl) rfl<|Q.qg rfl (q.hZ (fun _=>Wd.aS 0 rfl) hx4 rfl aA rfl) rfl<|Q.qg rfl (q.aX (off':=4) rfl bL rfl) rfl<|Q.qg rfl (q.ld 3 rfl rfl aA rfl) rfl<|Q.qg rfl (q.lss rfl rfl (decide_eq_true (by omega))) rfl<|Q.u 3 rfl<|Q.qg rfl (q.len' (fun _=>Wd.row 1 rfl) rfl Tryz.underlying60) rfl<|Q.qg rfl (q.eql rfl rfl (beq_iff_eq.2 (by omega))) rfl<|Q.u 13 rfl<|Q.nil ?_
                            have hz:cI r=true:=by (first|exact dm (by omega) (by omega) (by omega) (by omega) (by omega) HS (by omega) HF HN HT (by omega) (of_decide_eq_true (by assumption)) (.inl (by omega)) (.inl (by omega))|exact dm (by omega) (by omega) (by omega) (by omega) (by omega) HS (by omega) HF HN HT (by omega) (of_decide_eq_true (by assumption)) (.inl (by omega)) (.inr ⟨_,rfl,by assumption⟩)|exact dm (by omega) (by omega) (by omega) (by omega) (by omega) HS (by omega) HF HN HT (by omega) (of_decide_eq_true (by assumption)) (.inr ⟨_,hx4,by assumption⟩) (.inl (by omega))|exact dm (by omega) (by omega) (by omega) (by omega) (by omega) HS (by omega) HF HN HT (by omega) (of_decide_eq_true (by assumption)) (.inr ⟨_,hx4,by assumption⟩) (.inr ⟨_,rfl,by assumption⟩)|exact nQ hx4 (by assumption)|exact nR HT (by omega) rfl (by assumption))
                            rw [hz]
                            exact R.w1 () [4] [] rfl Tryz.results51 (RV.tmp rfl) rfl rfl rfl rfl
                          ·
                            obtain ⟨x5,hx5⟩:∃z,ts[(ts.length-1)]? = some z:=⟨_,List.getElem?_eq_getElem (by omega)⟩
                            by_cases CY:x5<r.af
                            ·
                              refine R.eU rfl mixed (by kernel_rfl)<|Q.q (q.aX (off':=0) rfl aY rfl) rfl<|Q.q (q.ld 3 rfl rfl bq rfl) rfl<|Q.q (q.len' (fun _=>Wd.aS 0 rfl) rfl Tryz.underlying27) rfl<|Q.q (q.eql rfl rfl (beq_eq_false_iff_ne.2 (by omega))) rfl<|Q.u 1 rfl<|Q.qg rfl (q.aX (off':=0) rfl aY rfl) rfl<|Q.qg rfl (q.ld 3 rfl rfl bq rfl) rfl<|Q.qg rfl (q.aX (off':=0) rfl aY rfl) rfl<|Q.qg rfl (q.ld 3 rfl rfl bq rfl) rfl<|Q.qg rfl (q.len' (fun _=>Wd.aS 0 rfl) rfl Tryz.underlying27) rfl<|Q.qg rfl (q.sub (r:=((r.aj.length-1:Nat):Int)) rfl rfl (wr (by omega))) rfl<|Q.qg rfl (q.idx (i:=(r.aj.length-1)) (fun _=>Wd.aS 0 rfl) rfl rfl ct rfl hx4) rfl<|Q.qg rfl (q.iO (j':=0) (fun _=>Wd.aS 0 rfl) hx4 rfl bu rfl) rfl<|Q.qg rfl (q.hZ (fun _=>Wd.aS 0 rfl) hx4 rfl aA rfl) rfl<|Q.qg rfl (q.aX (off':=4) rfl bL rfl) rfl<|Q.qg rfl (q.ld 3 rfl rfl aA rfl) rfl<|Q.qg rfl (q.lss rfl rfl (decide_eq_true (by omega))) rfl<|Q.u 3 rfl<|Q.qg rfl (q.len' (fun _=>Wd.row 1 rfl) rfl Tryz.underlying60) rfl<|Q.qg rfl (q.eql rfl rfl (beq_eq_false_iff_ne.2 (by omega))) rfl<|Q.u 3 rfl<|Q.qg rfl (q.len' (fun _=>Wd.row 1 rfl) rfl Tryz.underlying60) rfl<|Q.qg rfl (q.sub (r:=((ts.length-1:Nat):Int)) rfl rfl (wr (by omega))) rfl<|Q.qg rfl (q.idx (i:=(ts.length-1)) (fun _=>Wd.row 1 rfl) rfl rfl cG rfl hx5) rfl<|Q.qg rfl (q.hZ (fun _=>Wd.row 1 rfl) hx5 rfl aA rfl) rfl<|Q.qg rfl (q.aX (off':=5) rfl cE rfl) rfl<|Q.qg rfl (q.ld 3 rfl rfl aA rfl) rfl<|Q.qg rfl (q.lss rfl rfl (decide_eq_true (by omega))) rfl<|Q.u 3 rfl<|Q.nil ?_
                              have hz:cI r=true:=by (first|exact dm (by omega) (by omega) (by omega) (by omega) (by omega) HS (by omega) HF HN HT (by omega) (of_decide_eq_true (by assumption)) (.inl (by omega)) (.inl (by omega))|exact dm (by omega) (by omega) (by omega) (by omega) (by omega) HS (by omega) HF HN HT (by omega) (of_decide_eq_true (by assumption)) (.inl (by omega)) (.inr ⟨_,hx5,by assumption⟩)|exact dm (by omega) (by omega) (by omega) (by omega) (by omega) HS (by omega) HF HN HT (by omega) (of_decide_eq_true (by assumption)) (.inr ⟨_,hx4,by assumption⟩) (.inl (by omega))|exact dm (by omega) (by omega) (by omega) (by omega) (by omega) HS (by omega) HF HN HT (by omega) (of_decide_eq_true (by assumption)) (.inr ⟨_,hx4,by assumption⟩) (.inr ⟨_,hx5,by assumption⟩)|exact nQ hx4 (by assumption)|exact nR HT (by omega) hx5 (by assumption))
                              rw [hz]
                              exact R.w1 () [4] [] rfl Tryz.results51 (RV.tmp rfl) rfl rfl rfl rfl
                            ·
                              refine R.eU rfl mixed (by kernel_rfl)<|Q.q (q.aX (off':=0) rfl aY rfl) rfl<|Q.q (q.ld 3 rfl rfl bq rfl) rfl<|Q.q (q.len' (fun _=>Wd.aS 0 rfl) rfl Tryz.underlying27) rfl<|Q.q (q.eql rfl rfl (beq_eq_false_iff_ne.2 (by omega))) rfl<|Q.u 1 rfl<|Q.qg rfl (q.aX (off':=0) rfl aY rfl) rfl<|Q.qg rfl (q.ld 3 rfl rfl bq rfl) rfl<|Q.qg rfl (q.aX (off':=0) rfl aY rfl) rfl<|Q.qg rfl (q.ld 3 rfl rfl bq rfl) rfl<|Q.qg rfl (q.len' (fun _=>Wd.aS 0 rfl) rfl Tryz.underlying27) rfl<|Q.qg rfl (q.sub (r:=((r.aj.length-1:Nat):Int)) rfl rfl (wr (by omega))) rfl<|Q.qg rfl (q.idx (i:=(r.aj.length-1)) (fun _=>Wd.aS 0 rfl) rfl rfl ct rfl hx4) rfl<|Q.qg rfl (q.iO (j':=0) (fun _=>Wd.aS 0 rfl) hx4 rfl bu rfl) rfl<|Q.qg rfl (q.hZ (fun _=>Wd.aS 0 rfl) hx4 rfl aA rfl) rfl<|Q.qg rfl (q.aX (off':=4) rfl bL rfl) rfl<|Q.qg rfl (q.ld 3 rfl rfl aA rfl) rfl<|Q.qg rfl (q.lss rfl rfl (decide_eq_true (by omega))) rfl<|Q.u 3 rfl<|Q.qg rfl (q.len' (fun _=>Wd.row 1 rfl) rfl Tryz.underlying60) rfl<|Q.qg rfl (q.eql rfl rfl (beq_eq_false_iff_ne.2 (by omega))) rfl<|Q.u 3 rfl<|Q.qg rfl (q.len' (fun _=>Wd.row 1 rfl) rfl Tryz.underlying60) rfl<|Q.qg rfl (q.sub (r:=((ts.length-1:Nat):Int)) rfl rfl (wr (by omega))) rfl<|Q.qg rfl (q.idx (i:=(ts.length-1)) (fun _=>Wd.row 1 rfl) rfl rfl cG rfl hx5) rfl<|Q.qg rfl (q.hZ (fun _=>Wd.row 1 rfl) hx5 rfl aA rfl) rfl<|Q.qg rfl (q.aX (off':=5) rfl cE rfl) rfl<|Q.qg rfl (q.ld 3 rfl rfl aA rfl) rfl<|Q.qg rfl (q.lss rfl rfl (decide_eq_false (by omega))) rfl<|Q.u 3 rfl<|Q.nil ?_
                              have hz:cI r=false:=by (first|exact dm (by omega) (by omega) (by omega) (by omega) (by omega) HS (by omega) HF HN HT (by omega) (of_decide_eq_true (by assumption)) (.inl (by omega)) (.inl (by omega))|exact dm (by omega) (by omega) (by omega) (by omega) (by omega) HS (by omega) HF HN HT (by omega) (of_decide_eq_true (by assumption)) (.inl (by omega)) (.inr ⟨_,hx5,by assumption⟩)|exact dm (by omega) (by omega) (by omega) (by omega) (by omega) HS (by omega) HF HN HT (by omega) (of_decide_eq_true (by assumption)) (.inr ⟨_,hx4,by assumption⟩) (.inl (by omega))|exact dm (by omega) (by omega) (by omega) (by omega) (by omega) HS (by omega) HF HN HT (by omega) (of_decide_eq_true (by assumption)) (.inr ⟨_,hx4,by assumption⟩) (.inr ⟨_,hx5,by assumption⟩)|exact nQ hx4 (by assumption)|exact nR HT (by omega) hx5 (by assumption))
                              rw [hz]
                              exact R.w1 () [4] [] rfl Tryz.results51 (RV.tmp rfl) rfl rfl rfl rfl
                        ·
                          refine R.eU rfl mixed (by kernel_rfl)<|Q.q (q.aX (off':=0) rfl aY rfl) rfl<|Q.q (q.ld 3 rfl rfl bq rfl) rfl<|Q.q (q.len' (fun _=>Wd.aS 0 rfl) rfl Tryz.underlying27) rfl<|Q.q (q.eql rfl rfl (beq_eq_false_iff_ne.2 (by omega))) rfl<|Q.u 1 rfl<|Q.qg rfl (q.aX (off':=0) rfl aY rfl) rfl<|Q.qg rfl (q.ld 3 rfl rfl bq rfl) rfl<|Q.qg rfl (q.aX (off':=0) rfl aY rfl) rfl<|Q.qg rfl (q.ld 3 rfl rfl bq rfl) rfl<|Q.qg rfl (q.len' (fun _=>Wd.aS 0 rfl) rfl Tryz.underlying27) rfl<|Q.qg rfl (q.sub (r:=((r.aj.length-1:Nat):Int)) rfl rfl (wr (by omega))) rfl<|Q.qg rfl (q.idx (i:=(r.aj.length-1)) (fun _=>Wd.aS 0 rfl) rfl rfl ct rfl hx4) rfl<|Q.qg rfl (q.iO (j':=0) (fun _=>Wd.aS 0 rfl) hx4 rfl bu rfl) rfl<|Q.qg rfl (q.hZ (fun _=>Wd.aS 0 rfl) hx4 rfl aA rfl) rfl<|Q.qg rfl (q.aX (off':=4) rfl bL rfl) rfl<|Q.qg rfl (q.ld 3 rfl rfl aA rfl) rfl<|Q.qg rfl (q.lss rfl rfl (decide_eq_false (by omega))) rfl<|Q.u 18 rfl<|Q.nil ?_
                          have hz:cI r=false:=by (first|exact dm (by omega) (by omega) (by omega) (by omega) (by omega) HS (by omega) HF HN HT (by omega) (of_decide_eq_true (by assumption)) (.inl (by omega)) (.inl (by omega))|exact dm (by omega) (by omega) (by omega) (by omega) (by omega) HS (by omega) HF HN HT (by omega) (of_decide_eq_true (by assumption)) (.inl (by omega)) (.inr ⟨_,rfl,by assumption⟩)|exact dm (by omega) (by omega) (by omega) (by omega) (by omega) HS (by omega) HF HN HT (by omega) (of_decide_eq_true (by assumption)) (.inr ⟨_,hx4,by assumption⟩) (.inl (by omega))|exact dm (by omega) (by omega) (by omega) (by omega) (by omega) HS (by omega) HF HN HT (by omega) (of_decide_eq_true (by assumption)) (.inr ⟨_,hx4,by assumption⟩) (.inr ⟨_,rfl,by assumption⟩)|exact nQ hx4 (by assumption)|exact nR HT (by omega) rfl (by assumption))
                          rw [hz]
                          exact R.w1 () [4] [] rfl Tryz.results51 (RV.tmp rfl) rfl rfl rfl rfl
                    ·
                      refine R.c (q.call uF rfl rfl (fun w hw=>(cv (congrArg Value.bool h11) (nP _ (ts) _ ((aR r.aj)) w ((fun _=>Wd.row 1 rfl) w hw) ((fun _=>Wd.row 0 rfl) w hw) )))) rfl<|R.u 1 rfl<|R.nil ?_
                      refine R.aE rfl rfl ?_
                      refine R.reg rfl<|R.u 1 rfl<|R.nil ?_
                      have hz:cI r=false:=by (exact ud HT (by omega) (of_decide_eq_false (by assumption)))
                      rw [hz]
                      exact R.w1 () [4] [] rfl Tryz.results51 (RV.tmp rfl) rfl rfl rfl rfl
              ·
                refine R.qg rfl (q.neq rfl rfl (bne_iff_ne.2 (by omega))) rfl<|R.u 1 rfl<|R.nil ?_
                refine R.aE rfl rfl ?_
                refine R.reg rfl<|R.u 1 rfl<|R.nil ?_
                have hz:cI r=false:=by (exact eb (fun hw=>by have a1:cO r.aj=0:=hw.tree;have a2:=hw.fj;have a3:=hw.jk;have a4:=hw.j4;have a5:=hw.jo;have a6:=hw.jq;have a7:=hw.hlen;omega))
                rw [hz]
                exact R.w1 () [1] [] rfl Tryz.results51 (RV.tmp rfl) rfl rfl rfl rfl
  ·
    refine R.q (q.fb rfl rfl Tryz.underlying35 (by omega)) rfl<|R.u 35 rfl<|R.nil ?_
    refine R.aE rfl rfl ?_
    refine R.reg rfl<|R.u 1 rfl<|R.nil ?_
    have hz:cI r=false:=by (exact eb (fun hw=>by have a1:cO r.aj=0:=hw.tree;have a2:=hw.fj;have a3:=hw.jk;have a4:=hw.j4;have a5:=hw.jo;have a6:=hw.jq;have a7:=hw.hlen;omega))
    rw [hz]
    exact R.w1 () [1] [] rfl Tryz.results51 (RV.tmp rfl) rfl rfl rfl rfl
def prevK (l:List Change)(k:Nat):Option ByteArray:=if k=0 then none else (l[k-1]?).map Change.Key
section
variable {l:List Change} {k:Nat} {x y:Change} {z:au} {Z:Option au}
theorem drop_at (hx:l[k]? = some x):l.drop k=x::l.drop (k+1):=by
  obtain ⟨h,rfl⟩:=List.getElem?_eq_some_iff.1 hx
  exact List.drop_eq_getElem_cons h
theorem lw (h:¬ 0<k):kJ (prevK l k) x=true:=by unfold prevK;rw [if_pos (by omega)];rfl
theorem lx (h:0<k)(hy:l[k-1]? = some y)(hl:(ke x.Key y.Key||decide (x.Key=y.Key))=false):kJ (prevK l k) x=true:=by
  unfold prevK;rw [if_neg (by omega),hy];exact zi hl
theorem jf (h:0<k)(hy:l[k-1]? = some y)(hl:(ke x.Key y.Key||decide (x.Key=y.Key))=true):kJ (prevK l k) x=false:=by
  unfold prevK;rw [if_neg (by omega),hy];exact xp hl
theorem ye (h:x.Gone=false):(⟨x.Key,x.Val,false⟩:Change)=x:=by rw [← h]
theorem mS (h:pgo (l.drop k) (prevK l k) z=Z)(hx:l[k]? = some x)(h1:kJ (prevK l k) x=true)(h2:x.Gone=false)(h3:(rowP z ⟨x.Key,x.Val,false⟩).2=true):pgo (l.drop (k+1)) (prevK l (k+1)) (rowP z ⟨x.Key,x.Val,false⟩).1=Z:=by
  rw [ye h2] at h3 ⊢
  rw [drop_at hx] at h;simp only [pgo] at h
  rw [if_pos (by rw [h1,h2,h3];rfl)] at h
  unfold prevK;rw [if_neg (by omega),Nat.add_sub_cancel,hx];exact h
theorem dA (h:pgo (l.drop k) (prevK l k) z=pgo l none r0)(hx:l[k]? = some x)(h1:kJ (prevK l k) x=false∨x.Gone=true∨x.Gone=false∧(rowP z ⟨x.Key,x.Val,false⟩).2=false):bj l=(r0,4):=by
  rw [drop_at hx] at h;simp only [pgo] at h
  rw [if_neg (by
    rcases h1 with e|e|⟨e1,e⟩
    · rw [e];simp
    · rw [e];simp
    · rw [ye e1] at e;rw [e];simp)] at h
  unfold bj;rw [← h]
theorem wb (h:pgo (l.drop k) (prevK l k) z=pgo l none r0)(hk:l.length≤k):pgo l none r0=some z:=by
  rw [List.drop_of_length_le hk] at h;exact h.symm
theorem zk (h:pgo (l.drop k) (prevK l k) z=pgo l none r0)(hk:l.length≤k)(hw:cI z=false):bj l=(r0,4):=by
  unfold bj;rw [wb h hk];dsimp only;rw [if_neg (by rw [hw];decide)]
theorem Ba (h:pgo (l.drop k) (prevK l k) z=pgo l none r0)(hk:l.length≤k)(hw:cI z=true):bj l=(z,0):=by
  unfold bj;rw [wb h hk];dsimp only;rw [if_pos hw]
theorem ly (z:au)(x:Change):(rowP z x).1.aj.length≤z.aj.length+1∧(rowP z x).1.Things.length≤z.Things.length+1∧(rowP z x).1.Held.length≤z.Held.length+1:=by
  unfold rowP
  (repeat' split) <;> dsimp only <;> (repeat' split) <;> simp [tX,tY,qt,xj] <;> omega
end
attribute [local irreducible] rowP pgo bj
set_option maxHeartbeats 1600000 in
theorem ug (bf:Value)(l:List Change)(w:World)(own:List Nat)(H:Wd w (blks []++own) ([]++[ah.held w own]) [ah.ls bf (l:List Change),bm] w)(hl:l.length≤900)(hc:∀c∈l,c.Key.size≤1000∧c.Val.size≤1000):Calls Tryz.prog 17 #[bf] w fun e w' => ∃z:Value×Value×Value×Value,e = .returned (.tuple #[.agg #[z.1,z.2.1,z.2.2.1,z.2.2.2,.int .i64 ((((bj l)).1).ae),.int .i64 ((((bj l)).1).af)],eG (((bj l)).2)])∧Wd w (blks []++own) ([]++[ah.held w own]) [ah.ls z.1 ((((bj l)).1).aj:List ak),ah.ls z.2.1 ((((bj l)).1).Things:List ai),ah.ls z.2.2.1 ((((bj l)).1).Held:List Held),ah.ls z.2.2.2 ((((bj l)).1).Notes:List Note)] w':=by
  have uh:=H.cL 0 rfl
  refine R.cQ (n:=45) (vs:=[bf]) (B:=[ah.held w own]) [(0,bf)] Tryz.func17 rfl rfl rfl rfl H ?_
  refine R.reg rfl<|?_
  refine R.s rfl (s.alloc (cs:=[.slice none 0 0,.slice none 0 0,.slice none 0 0,.slice none 0 0,.int .i64 0,.int .i64 0]) cj rfl rfl) fun b1=>?_
  refine R.u 1 rfl<|R.nil ?_
  refine R.reg rfl<|?_
  refine R.s rfl (s.alloc (cs:=[.slice none 0 0,.slice none 0 0,.slice none 0 0,.slice none 0 0,.int .i64 0,.int .i64 0]) cj rfl rfl) fun b2=>?_
  refine R.nil ?_
  refine R.reg rfl<|R.u 1 rfl<|R.q (q.len' (fun _=>Wd.aS 0 rfl) rfl Tryz.underlying23) rfl<|R.u 1 rfl<|R.nil ?_
  refine R.row0 (α:=ak) 88 ?_
  refine R.row0 (α:=ai) 62 ?_
  refine R.row0 (α:=Held) 85 ?_
  refine R.row0 (α:=Note) 72 ?_
  refine R.loop (fun g_:Nat×au×Value×Value×Value×Value=>[(0,bf),(2,.pointer (some ⟨b1,0,none⟩)),(4,.pointer (some ⟨b2,0,none⟩)),(7,bf),(8,.int .i64 (l.length:Int)),(9,.int .i64 (g_.1:Int))]) (fun g_:Nat×au×Value×Value×Value×Value=>[ah.row 72 g_.2.2.2.2.2 (g_.2.1.Notes:List Note),ah.row 85 g_.2.2.2.2.1 (g_.2.1.Held:List Held),ah.row 62 g_.2.2.2.1 (g_.2.1.Things:List ai),ah.row 88 g_.2.2.1 (g_.2.1.aj:List ak),ah.box b2 [g_.2.2.1,g_.2.2.2.1,g_.2.2.2.2.1,g_.2.2.2.2.2,.int .i64 g_.2.1.ae,.int .i64 g_.2.1.af] 32,ah.box b1 [.slice none 0 0,.slice none 0 0,.slice none 0 0,.slice none 0 0,.int .i64 0,.int .i64 0] 32,ah.held w own]) (fun g_:Nat×au×Value×Value×Value×Value=>[ah.ls bf (l:List Change),bm]) (fun g_:Nat×au×Value×Value×Value×Value=>g_.1≤l.length∧pgo (l.drop g_.1) (prevK l g_.1) g_.2.1=pgo l none r0∧g_.2.1.aj.length≤g_.1∧g_.2.1.Things.length≤g_.1∧g_.2.1.Held.length≤g_.1) (fun g_:Nat×au×Value×Value×Value×Value=>l.length-g_.1) (0,(⟨[],[],[],[],0,0⟩:au),(.slice none 0 0),(.slice none 0 0),(.slice none 0 0),(.slice none 0 0)) rfl (by (try dsimp only);exact ⟨by omega,rfl,Nat.le_refl _,Nat.le_refl _,Nat.le_refl _⟩) ⟨rfl,rfl,rfl,rfl,rfl,rfl,trivial⟩ (fun _=>Wd.pick [0,1,2,3,4,5,6] [0,1] rfl rfl rfl) ?_
  rintro ⟨k,z,bY,bR,dn,bZ⟩ ⟨hk,HP,Dk,Dl,Dm⟩
  dsimp only at *
  refine R.reg rfl<|?_
  by_cases h1:k<l.length
  ·
    refine R.q (q.lss rfl rfl (decide_eq_true (by omega))) rfl<|R.nil ?_
    refine R.aE rfl rfl ?_
    refine R.reg rfl<|R.u 1 rfl<|?_
    obtain ⟨x1,hx1⟩:∃z,l[k]? = some z:=⟨_,List.getElem?_eq_getElem (by omega)⟩
    have CQ:=hc x1 (List.mem_of_getElem? hx1)
    refine R.q (q.idx (i:=k) (fun _=>Wd.aS 0 rfl) rfl rfl gL rfl hx1) rfl<|R.q (q.dY (ds:=[.string x1.Key,.string x1.Val,.bool x1.Gone]) (fun _=>Wd.aS 0 rfl) hx1 rfl jP rfl) rfl<|?_
    refine R.s rfl (s.alloc (cs:=[.string (⟨#[]⟩),.string (⟨#[]⟩),.bool false]) jz rfl rfl) fun b3=>?_
    refine R.u 1 rfl<|?_
    refine R.s rfl (s.st (us:=[.string x1.Key,.string x1.Val,.bool x1.Gone]) (cs':=[.string x1.Key,.string x1.Val,.bool x1.Gone]) 0 _ rfl rfl rfl rfl (.inl jP) rfl rfl rfl rfl) fun _=>?_
    refine R.nil ?_
    by_cases h2:0<k
    ·
      obtain ⟨x2,hx2⟩:∃z,l[(k-1)]? = some z:=⟨_,List.getElem?_eq_getElem (by omega)⟩
      have CS:=hc x2 (List.mem_of_getElem? hx2)
      rcases Bool.eq_false_or_eq_true ((ke x1.Key x2.Key||decide (x1.Key=x2.Key))) with h3|h3
      ·
        refine R.eU rfl mixed (by kernel_rfl)<|Q.u 1 rfl<|Q.q (q.gtr rfl rfl (decide_eq_true (by omega))) rfl<|Q.u 1 rfl<|Q.qg rfl (q.aX (off':=0) rfl cM rfl) rfl<|Q.qg rfl (q.ld 0 rfl rfl cd rfl) rfl<|Q.u 2 rfl<|Q.qg rfl (q.sub (r:=((k-1:Nat):Int)) rfl rfl (wr (by omega))) rfl<|Q.qg rfl (q.idx (i:=(k-1)) (fun _=>Wd.aS 0 rfl) rfl rfl gL rfl hx2) rfl<|Q.qg rfl (q.iO (j':=0) (fun _=>Wd.aS 0 rfl) hx2 rfl cM rfl) rfl<|Q.qg rfl (q.hZ (fun _=>Wd.aS 0 rfl) hx2 rfl cd rfl) rfl<|Q.qg rfl (q.wE rfl rfl h3) rfl<|Q.u 10 rfl<|Q.nil ?_
        refine R.aE rfl rfl ?_
        refine R.reg rfl<|R.q (q.build (cs:=[.slice none 0 0,.slice none 0 0,.slice none 0 0,.slice none 0 0,.int .i64 0,.int .i64 0]) cJ rfl rfl) rfl<|R.q (q.iface rfl bz) rfl<|?_
        refine R.s rfl (s.st (us:=[.slice none 0 0,.slice none 0 0,.slice none 0 0,.slice none 0 0,.int .i64 0,.int .i64 0]) (cs':=[.slice none 0 0,.slice none 0 0,.slice none 0 0,.slice none 0 0,.int .i64 0,.int .i64 0]) 6 _ rfl rfl rfl rfl (.inl av) rfl rfl rfl rfl) fun _=>?_
        refine R.u 1 rfl<|R.nil ?_
        refine R.mp (fun _ hw=>hw.aU (α:=ak)) ?_
        refine R.mp (fun _ hw=>hw.aU (α:=ai)) ?_
        refine R.mp (fun _ hw=>hw.aU (α:=Held)) ?_
        refine R.mp (fun _ hw=>hw.aU (α:=Note)) ?_
        have hz:bj l=((⟨[],[],[],[],0,0⟩:au),4):=by (first|exact dA HP hx1 (.inl (jf (by omega) hx2 (by assumption)))|exact dA HP hx1 (.inr (.inl (by assumption)))|exact dA HP hx1 (.inr (.inr ⟨by assumption,by first|assumption|exact iJ (by assumption)|exact iK (by assumption)⟩)))
        rw [hz]
        exact R.w2 ((.slice none 0 0),(.slice none 0 0),(.slice none 0 0),(.slice none 0 0)) [7] [3,2,1,0] rfl Tryz.results17 (RV.cell 6 rfl rfl av) (RV.tmp rfl) rfl rfl rfl (cx rfl (dC (by decide) rfl))
      ·
        rcases Bool.eq_false_or_eq_true (x1.Gone) with h4|h4
        ·
          rw [h4]
          refine R.eU rfl mixed (by kernel_rfl)<|Q.u 1 rfl<|Q.q (q.gtr rfl rfl (decide_eq_true (by omega))) rfl<|Q.u 1 rfl<|Q.qg rfl (q.aX (off':=0) rfl cM rfl) rfl<|Q.qg rfl (q.ld 0 rfl rfl cd rfl) rfl<|Q.u 2 rfl<|Q.qg rfl (q.sub (r:=((k-1:Nat):Int)) rfl rfl (wr (by omega))) rfl<|Q.qg rfl (q.idx (i:=(k-1)) (fun _=>Wd.aS 0 rfl) rfl rfl gL rfl hx2) rfl<|Q.qg rfl (q.iO (j':=0) (fun _=>Wd.aS 0 rfl) hx2 rfl cM rfl) rfl<|Q.qg rfl (q.hZ (fun _=>Wd.aS 0 rfl) hx2 rfl cd rfl) rfl<|Q.qg rfl (q.wE rfl rfl h3) rfl<|Q.u 2 rfl<|Q.qg rfl (q.aX (off':=2) rfl gF rfl) rfl<|Q.qg rfl (q.ld 0 rfl rfl lB rfl) rfl<|Q.u 6 rfl<|Q.nil ?_
          refine R.aE rfl rfl ?_
          refine R.reg rfl<|R.q (q.build (cs:=[.slice none 0 0,.slice none 0 0,.slice none 0 0,.slice none 0 0,.int .i64 0,.int .i64 0]) cJ rfl rfl) rfl<|R.q (q.iface rfl bz) rfl<|?_
          refine R.s rfl (s.st (us:=[.slice none 0 0,.slice none 0 0,.slice none 0 0,.slice none 0 0,.int .i64 0,.int .i64 0]) (cs':=[.slice none 0 0,.slice none 0 0,.slice none 0 0,.slice none 0 0,.int .i64 0,.int .i64 0]) 6 _ rfl rfl rfl rfl (.inl av) rfl rfl rfl rfl) fun _=>?_
          refine R.u 1 rfl<|R.nil ?_
          refine R.mp (fun _ hw=>hw.aU (α:=ak)) ?_
          refine R.mp (fun _ hw=>hw.aU (α:=ai)) ?_
          refine R.mp (fun _ hw=>hw.aU (α:=Held)) ?_
          refine R.mp (fun _ hw=>hw.aU (α:=Note)) ?_
          have hz:bj l=((⟨[],[],[],[],0,0⟩:au),4):=by (first|exact dA HP hx1 (.inl (jf (by omega) hx2 (by assumption)))|exact dA HP hx1 (.inr (.inl (by assumption)))|exact dA HP hx1 (.inr (.inr ⟨by assumption,by first|assumption|exact iJ (by assumption)|exact iK (by assumption)⟩)))
          rw [hz]
          exact R.w2 ((.slice none 0 0),(.slice none 0 0),(.slice none 0 0),(.slice none 0 0)) [7] [3,2,1,0] rfl Tryz.results17 (RV.cell 6 rfl rfl av) (RV.tmp rfl) rfl rfl rfl (cx rfl (dC (by decide) rfl))
        ·
          rw [h4]
          rcases Bool.eq_false_or_eq_true (!((rowP z (⟨x1.Key,x1.Val,false⟩:Change)).2)) with h5|h5
          ·
            refine R.fT (fuel:=22) (Wd w (blks []++own) [ah.box b3 [.string x1.Key,.string x1.Val,.bool false] 52,ah.box b1 [.slice none 0 0,.slice none 0 0,.slice none 0 0,.slice none 0 0,.int .i64 0,.int .i64 0] 32,ah.held w own] [ah.ls bf (l:List Change),bm]) rfl mixed rfl ?_
            refine D.q (i:=0) rfl (by kernel_rfl) (fun _=>Wd.aK [0,6,7] [0,1] rfl rfl rfl) rfl (q.mv rfl) rfl<|D.q (i:=1) rfl (by kernel_rfl) (fun _=>Wd.aK [0,6,7] [0,1] rfl rfl rfl) rfl (q.gtr rfl rfl (decide_eq_true (by omega))) rfl<|D.q (i:=2) rfl (by kernel_rfl) (fun _=>Wd.aK [0,6,7] [0,1] rfl rfl rfl) rfl (q.mv rfl) rfl<|D.q (i:=3) rfl (by kernel_rfl) (fun _=>Wd.aK [0,6,7] [0,1] rfl rfl rfl) rfl (q.aX (off':=0) rfl cM rfl) rfl<|D.q (i:=4) rfl (by kernel_rfl) (fun _=>Wd.aK [0,6,7] [0,1] rfl rfl rfl) rfl (q.ld 0 rfl rfl cd rfl) rfl<|D.q (i:=5) rfl (by kernel_rfl) (fun _=>Wd.aK [0,6,7] [0,1] rfl rfl rfl) rfl (q.mv rfl) rfl<|D.q (i:=6) rfl (by kernel_rfl) (fun _=>Wd.aK [0,6,7] [0,1] rfl rfl rfl) rfl (q.mv rfl) rfl<|D.q (i:=7) rfl (by kernel_rfl) (fun _=>Wd.aK [0,6,7] [0,1] rfl rfl rfl) rfl (q.sub (r:=((k-1:Nat):Int)) rfl rfl (wr (by omega))) rfl<|D.q (i:=8) rfl (by kernel_rfl) (fun _=>Wd.aK [0,6,7] [0,1] rfl rfl rfl) rfl (q.idx (i:=(k-1)) (fun _=>Wd.aS 0 rfl) rfl rfl gL rfl hx2) rfl<|D.q (i:=9) rfl (by kernel_rfl) (fun _=>Wd.aK [0,6,7] [0,1] rfl rfl rfl) rfl (q.iO (j':=0) (fun _=>Wd.aS 0 rfl) hx2 rfl cM rfl) rfl<|D.q (i:=10) rfl (by kernel_rfl) (fun _=>Wd.aK [0,6,7] [0,1] rfl rfl rfl) rfl (q.hZ (fun _=>Wd.aS 0 rfl) hx2 rfl cd rfl) rfl<|D.q (i:=11) rfl (by kernel_rfl) (fun _=>Wd.aK [0,6,7] [0,1] rfl rfl rfl) rfl (q.wE rfl rfl h3) rfl<|D.q (i:=12) rfl (by kernel_rfl) (fun _=>Wd.aK [0,6,7] [0,1] rfl rfl rfl) rfl (q.rZ rfl rfl) rfl<|D.q (i:=13) rfl (by kernel_rfl) (fun _=>Wd.aK [0,6,7] [0,1] rfl rfl rfl) rfl (q.mv rfl) rfl<|D.q (i:=14) rfl (by kernel_rfl) (fun _=>Wd.aK [0,6,7] [0,1] rfl rfl rfl) rfl (q.aX (off':=2) rfl gF rfl) rfl<|D.q (i:=15) rfl (by kernel_rfl) (fun _=>Wd.aK [0,6,7] [0,1] rfl rfl rfl) rfl (q.ld 0 rfl rfl lB rfl) rfl<|D.q (i:=16) rfl (by kernel_rfl) (fun _=>Wd.aK [0,6,7] [0,1] rfl rfl rfl) rfl (q.kb rfl rfl) rfl<|D.q (i:=17) rfl (by kernel_rfl) (fun _=>Wd.aK [0,6,7] [0,1] rfl rfl rfl) rfl (q.mv rfl) rfl<|D.q (i:=18) rfl (by kernel_rfl) (fun _=>Wd.aK [0,6,7] [0,1] rfl rfl rfl) rfl (q.cF 0 rfl rfl jP) rfl<|?_
            refine D.one (i:=19) (by kernel_rfl) rfl ?_
            refine Do.s (B':=(fun g_:Value×Value×Value×Value=>[ah.box b2 [g_.1,g_.2.1,g_.2.2.1,g_.2.2.2,.int .i64 ((((rowP z (⟨x1.Key,x1.Val,false⟩:Change))).1).ae),.int .i64 ((((rowP z (⟨x1.Key,x1.Val,false⟩:Change))).1).af)] 32,ah.row 88 g_.1 ((((rowP z (⟨x1.Key,x1.Val,false⟩:Change))).1).aj:List ak),ah.row 62 g_.2.1 ((((rowP z (⟨x1.Key,x1.Val,false⟩:Change))).1).Things:List ai),ah.row 85 g_.2.2.1 ((((rowP z (⟨x1.Key,x1.Val,false⟩:Change))).1).Held:List Held),ah.row 72 g_.2.2.2 ((((rowP z (⟨x1.Key,x1.Val,false⟩:Change))).1).Notes:List Note),ah.box b3 [.string x1.Key,.string x1.Val,.bool false] 52,ah.box b1 [.slice none 0 0,.slice none 0 0,.slice none 0 0,.slice none 0 0,.int .i64 0,.int .i64 0] 32,ah.held w own])) (F':=(fun g_:Value×Value×Value×Value=>[ah.ls bf (l:List Change),bm])) (s.bA (B0:=[ah.box b2 [bY,bR,dn,bZ,.int .i64 z.ae,.int .i64 z.af] 32,ah.row 88 bY (z.aj:List ak),ah.row 62 bR (z.Things:List ai),ah.row 85 dn (z.Held:List Held),ah.row 72 bZ (z.Notes:List Note)]) (Br:=[ah.box b3 [.string x1.Key,.string x1.Val,.bool false] 52,ah.box b1 [.slice none 0 0,.slice none 0 0,.slice none 0 0,.slice none 0 0,.int .i64 0,.int .i64 0] 32,ah.held w own]) (F0:=[bm]) [5,4,3,2,1,0,6,7] [1] (fun g_:Value×Value×Value×Value => .bool (((rowP z (⟨x1.Key,x1.Val,false⟩:Change))).2)) (fun g_:Value×Value×Value×Value=>[ah.box b2 [g_.1,g_.2.1,g_.2.2.1,g_.2.2.2,.int .i64 ((((rowP z (⟨x1.Key,x1.Val,false⟩:Change))).1).ae),.int .i64 ((((rowP z (⟨x1.Key,x1.Val,false⟩:Change))).1).af)] 32,ah.row 88 g_.1 ((((rowP z (⟨x1.Key,x1.Val,false⟩:Change))).1).aj:List ak),ah.row 62 g_.2.1 ((((rowP z (⟨x1.Key,x1.Val,false⟩:Change))).1).Things:List ai),ah.row 85 g_.2.2.1 ((((rowP z (⟨x1.Key,x1.Val,false⟩:Change))).1).Held:List Held),ah.row 72 g_.2.2.2 ((((rowP z (⟨x1.Key,x1.Val,false⟩:Change))).1).Notes:List Note)]) (fun g_:Value×Value×Value×Value=>[]) rfl rfl rfl sj rfl rfl (fun w own hw H=>mR b2 bY bR dn bZ (z) ((⟨x1.Key,x1.Val,false⟩:Change)) w own H (by first|assumption|omega) (by first|assumption|omega)) rfl) (fun _=>(fun _=>Wd.aK [5,6,7] [0,1] rfl rfl rfl)) rfl ?_
            rintro ⟨z9,qH,ui,z12⟩
            dsimp only
            refine D.q (i:=20) rfl (by kernel_rfl) (fun _=>Wd.aK [5,6,7] [0,1] rfl rfl rfl) rfl (q.not rfl) rfl<|D.q (i:=21) rfl (by kernel_rfl) (fun _=>Wd.aK [5,6,7] [0,1] rfl rfl rfl) rfl (q.kb rfl rfl) rfl<|D.done (by kernel_rfl)<|?_
            refine R.cond rfl rfl (fun h6=>?_) (fun h6=>?_)
            ·
              refine R.reg rfl<|R.q (q.build (cs:=[.slice none 0 0,.slice none 0 0,.slice none 0 0,.slice none 0 0,.int .i64 0,.int .i64 0]) cJ rfl rfl) rfl<|R.q (q.iface rfl bz) rfl<|?_
              refine R.s rfl (s.st (us:=[.slice none 0 0,.slice none 0 0,.slice none 0 0,.slice none 0 0,.int .i64 0,.int .i64 0]) (cs':=[.slice none 0 0,.slice none 0 0,.slice none 0 0,.slice none 0 0,.int .i64 0,.int .i64 0]) 6 _ rfl rfl rfl rfl (.inl av) rfl rfl rfl rfl) fun _=>?_
              refine R.u 1 rfl<|R.nil ?_
              refine R.mp (fun _ hw=>hw.aU (α:=ak)) ?_
              refine R.mp (fun _ hw=>hw.aU (α:=ai)) ?_
              refine R.mp (fun _ hw=>hw.aU (α:=Held)) ?_
              refine R.mp (fun _ hw=>hw.aU (α:=Note)) ?_
              have hz:bj l=((⟨[],[],[],[],0,0⟩:au),4):=by (first|exact dA HP hx1 (.inl (jf (by omega) hx2 (by assumption)))|exact dA HP hx1 (.inr (.inl (by assumption)))|exact dA HP hx1 (.inr (.inr ⟨by assumption,by first|assumption|exact iJ (by assumption)|exact iK (by assumption)⟩)))
              rw [hz]
              exact R.w2 ((.slice none 0 0),(.slice none 0 0),(.slice none 0 0),(.slice none 0 0)) [7] [3,2,1,0] rfl Tryz.results17 (RV.cell 6 rfl rfl av) (RV.tmp rfl) rfl rfl rfl (cx rfl (dC (by decide) rfl))
            ·
              refine R.reg rfl<|R.q (q.add (r:=((k+1:Nat):Int)) rfl rfl (wr (by omega))) rfl<|R.u 1 rfl<|R.nil ?_
              refine R.back (k+1,((rowP z (⟨x1.Key,x1.Val,false⟩:Change)).1),z9,qH,ui,z12) rfl (by ((try dsimp only);have zl:=ly z (⟨x1.Key,x1.Val,false⟩:Change);exact ⟨by omega,mS HP hx1 (by first|exact lw (by omega)|exact lx (by omega) hx2 (by assumption)) (by assumption) (by first|assumption|exact iJ (by assumption)|exact iK (by assumption)),by omega,by omega,by omega⟩)) (by dsimp only;omega) ⟨rfl,rfl,rfl,rfl,rfl,rfl,trivial⟩ (fun _=>Wd.aK [4,3,2,1,0,6,7] [0,1] rfl rfl rfl)
          ·
            refine R.fT (fuel:=22) (Wd w (blks []++own) [ah.box b3 [.string x1.Key,.string x1.Val,.bool false] 52,ah.box b1 [.slice none 0 0,.slice none 0 0,.slice none 0 0,.slice none 0 0,.int .i64 0,.int .i64 0] 32,ah.held w own] [ah.ls bf (l:List Change),bm]) rfl mixed rfl ?_
            refine D.q (i:=0) rfl (by kernel_rfl) (fun _=>Wd.aK [0,6,7] [0,1] rfl rfl rfl) rfl (q.mv rfl) rfl<|D.q (i:=1) rfl (by kernel_rfl) (fun _=>Wd.aK [0,6,7] [0,1] rfl rfl rfl) rfl (q.gtr rfl rfl (decide_eq_true (by omega))) rfl<|D.q (i:=2) rfl (by kernel_rfl) (fun _=>Wd.aK [0,6,7] [0,1] rfl rfl rfl) rfl (q.mv rfl) rfl<|D.q (i:=3) rfl (by kernel_rfl) (fun _=>Wd.aK [0,6,7] [0,1] rfl rfl rfl) rfl (q.aX (off':=0) rfl cM rfl) rfl<|D.q (i:=4) rfl (by kernel_rfl) (fun _=>Wd.aK [0,6,7] [0,1] rfl rfl rfl) rfl (q.ld 0 rfl rfl cd rfl) rfl<|D.q (i:=5) rfl (by kernel_rfl) (fun _=>Wd.aK [0,6,7] [0,1] rfl rfl rfl) rfl (q.mv rfl) rfl<|D.q (i:=6) rfl (by kernel_rfl) (fun _=>Wd.aK [0,6,7] [0,1] rfl rfl rfl) rfl (q.mv rfl) rfl<|D.q (i:=7) rfl (by kernel_rfl) (fun _=>Wd.aK [0,6,7] [0,1] rfl rfl rfl) rfl (q.sub (r:=((k-1:Nat):Int)) rfl rfl (wr (by omega))) rfl<|D.q (i:=8) rfl (by kernel_rfl) (fun _=>Wd.aK [0,6,7] [0,1] rfl rfl rfl) rfl (q.idx (i:=(k-1)) (fun _=>Wd.aS 0 rfl) rfl rfl gL rfl hx2) rfl<|D.q (i:=9) rfl (by kernel_rfl) (fun _=>Wd.aK [0,6,7] [0,1] rfl rfl rfl) rfl (q.iO (j':=0) (fun _=>Wd.aS 0 rfl) hx2 rfl cM rfl) rfl<|D.q (i:=10) rfl (by kernel_rfl) (fun _=>Wd.aK [0,6,7] [0,1] rfl rfl rfl) rfl (q.hZ (fun _=>Wd.aS 0 rfl) hx2 rfl cd rfl) rfl<|D.q (i:=11) rfl (by kernel_rfl) (fun _=>Wd.aK [0,6,7] [0,1] rfl rfl rfl) rfl (q.wE rfl rfl h3) rfl<|D.q (i:=12) rfl (by kernel_rfl) (fun _=>Wd.aK [0,6,7] [0,1] rfl rfl rfl) rfl (q.rZ rfl rfl) rfl<|D.q (i:=13) rfl (by kernel_rfl) (fun _=>Wd.aK [0,6,7] [0,1] rfl rfl rfl) rfl (q.mv rfl) rfl<|D.q (i:=14) rfl (by kernel_rfl) (fun _=>Wd.aK [0,6,7] [0,1] rfl rfl rfl) rfl (q.aX (off':=2) rfl gF rfl) rfl<|D.q (i:=15) rfl (by kernel_rfl) (fun _=>Wd.aK [0,6,7] [0,1] rfl rfl rfl) rfl (q.ld 0 rfl rfl lB rfl) rfl<|D.q (i:=16) rfl (by kernel_rfl) (fun _=>Wd.aK [0,6,7] [0,1] rfl rfl rfl) rfl (q.kb rfl rfl) rfl<|D.q (i:=17) rfl (by kernel_rfl) (fun _=>Wd.aK [0,6,7] [0,1] rfl rfl rfl) rfl (q.mv rfl) rfl<|D.q (i:=18) rfl (by kernel_rfl) (fun _=>Wd.aK [0,6,7] [0,1] rfl rfl rfl) rfl (q.cF 0 rfl rfl jP) rfl<|?_
            refine D.one (i:=19) (by kernel_rfl) rfl ?_
            refine Do.s (B':=(fun g_:Value×Value×Value×Value=>[ah.box b2 [g_.1,g_.2.1,g_.2.2.1,g_.2.2.2,.int .i64 ((((rowP z (⟨x1.Key,x1.Val,false⟩:Change))).1).ae),.int .i64 ((((rowP z (⟨x1.Key,x1.Val,false⟩:Change))).1).af)] 32,ah.row 88 g_.1 ((((rowP z (⟨x1.Key,x1.Val,false⟩:Change))).1).aj:List ak),ah.row 62 g_.2.1 ((((rowP z (⟨x1.Key,x1.Val,false⟩:Change))).1).Things:List ai),ah.row 85 g_.2.2.1 ((((rowP z (⟨x1.Key,x1.Val,false⟩:Change))).1).Held:List Held),ah.row 72 g_.2.2.2 ((((rowP z (⟨x1.Key,x1.Val,false⟩:Change))).1).Notes:List Note),ah.box b3 [.string x1.Key,.string x1.Val,.bool false] 52,ah.box b1 [.slice none 0 0,.slice none 0 0,.slice none 0 0,.slice none 0 0,.int .i64 0,.int .i64 0] 32,ah.held w own])) (F':=(fun g_:Value×Value×Value×Value=>[ah.ls bf (l:List Change),bm])) (s.bA (B0:=[ah.box b2 [bY,bR,dn,bZ,.int .i64 z.ae,.int .i64 z.af] 32,ah.row 88 bY (z.aj:List ak),ah.row 62 bR (z.Things:List ai),ah.row 85 dn (z.Held:List Held),ah.row 72 bZ (z.Notes:List Note)]) (Br:=[ah.box b3 [.string x1.Key,.string x1.Val,.bool false] 52,ah.box b1 [.slice none 0 0,.slice none 0 0,.slice none 0 0,.slice none 0 0,.int .i64 0,.int .i64 0] 32,ah.held w own]) (F0:=[bm]) [5,4,3,2,1,0,6,7] [1] (fun g_:Value×Value×Value×Value => .bool (((rowP z (⟨x1.Key,x1.Val,false⟩:Change))).2)) (fun g_:Value×Value×Value×Value=>[ah.box b2 [g_.1,g_.2.1,g_.2.2.1,g_.2.2.2,.int .i64 ((((rowP z (⟨x1.Key,x1.Val,false⟩:Change))).1).ae),.int .i64 ((((rowP z (⟨x1.Key,x1.Val,false⟩:Change))).1).af)] 32,ah.row 88 g_.1 ((((rowP z (⟨x1.Key,x1.Val,false⟩:Change))).1).aj:List ak),ah.row 62 g_.2.1 ((((rowP z (⟨x1.Key,x1.Val,false⟩:Change))).1).Things:List ai),ah.row 85 g_.2.2.1 ((((rowP z (⟨x1.Key,x1.Val,false⟩:Change))).1).Held:List Held),ah.row 72 g_.2.2.2 ((((rowP z (⟨x1.Key,x1.Val,false⟩:Change))).1).Notes:List Note)]) (fun g_:Value×Value×Value×Value=>[]) rfl rfl rfl sj rfl rfl (fun w own hw H=>mR b2 bY bR dn bZ (z) ((⟨x1.Key,x1.Val,false⟩:Change)) w own H (by first|assumption|omega) (by first|assumption|omega)) rfl) (fun _=>(fun _=>Wd.aK [5,6,7] [0,1] rfl rfl rfl)) rfl ?_
            rintro ⟨z17,yR,zw,z20⟩
            dsimp only
            refine D.q (i:=20) rfl (by kernel_rfl) (fun _=>Wd.aK [5,6,7] [0,1] rfl rfl rfl) rfl (q.not rfl) rfl<|D.q (i:=21) rfl (by kernel_rfl) (fun _=>Wd.aK [5,6,7] [0,1] rfl rfl rfl) rfl (q.kb rfl rfl) rfl<|D.done (by kernel_rfl)<|?_
            refine R.cond rfl rfl (fun h7=>?_) (fun h7=>?_)
            ·
              refine R.reg rfl<|R.q (q.build (cs:=[.slice none 0 0,.slice none 0 0,.slice none 0 0,.slice none 0 0,.int .i64 0,.int .i64 0]) cJ rfl rfl) rfl<|R.q (q.iface rfl bz) rfl<|?_
              refine R.s rfl (s.st (us:=[.slice none 0 0,.slice none 0 0,.slice none 0 0,.slice none 0 0,.int .i64 0,.int .i64 0]) (cs':=[.slice none 0 0,.slice none 0 0,.slice none 0 0,.slice none 0 0,.int .i64 0,.int .i64 0]) 6 _ rfl rfl rfl rfl (.inl av) rfl rfl rfl rfl) fun _=>?_
              refine R.u 1 rfl<|R.nil ?_
              refine R.mp (fun _ hw=>hw.aU (α:=ak)) ?_
              refine R.mp (fun _ hw=>hw.aU (α:=ai)) ?_
              refine R.mp (fun _ hw=>hw.aU (α:=Held)) ?_
              refine R.mp (fun _ hw=>hw.aU (α:=Note)) ?_
              have hz:bj l=((⟨[],[],[],[],0,0⟩:au),4):=by (first|exact dA HP hx1 (.inl (jf (by omega) hx2 (by assumption)))|exact dA HP hx1 (.inr (.inl (by assumption)))|exact dA HP hx1 (.inr (.inr ⟨by assumption,by first|assumption|exact iJ (by assumption)|exact iK (by assumption)⟩)))
              rw [hz]
              exact R.w2 ((.slice none 0 0),(.slice none 0 0),(.slice none 0 0),(.slice none 0 0)) [7] [3,2,1,0] rfl Tryz.results17 (RV.cell 6 rfl rfl av) (RV.tmp rfl) rfl rfl rfl (cx rfl (dC (by decide) rfl))
            ·
              refine R.reg rfl<|R.q (q.add (r:=((k+1:Nat):Int)) rfl rfl (wr (by omega))) rfl<|R.u 1 rfl<|R.nil ?_
              refine R.back (k+1,((rowP z (⟨x1.Key,x1.Val,false⟩:Change)).1),z17,yR,zw,z20) rfl (by ((try dsimp only);have zl:=ly z (⟨x1.Key,x1.Val,false⟩:Change);exact ⟨by omega,mS HP hx1 (by first|exact lw (by omega)|exact lx (by omega) hx2 (by assumption)) (by assumption) (by first|assumption|exact iJ (by assumption)|exact iK (by assumption)),by omega,by omega,by omega⟩)) (by dsimp only;omega) ⟨rfl,rfl,rfl,rfl,rfl,rfl,trivial⟩ (fun _=>Wd.aK [4,3,2,1,0,6,7] [0,1] rfl rfl rfl)
    ·
      rcases Bool.eq_false_or_eq_true (x1.Gone) with h8|h8
      ·
        rw [h8]
        refine R.eU rfl mixed (by kernel_rfl)<|Q.u 1 rfl<|Q.q (q.gtr rfl rfl (decide_eq_false (by omega))) rfl<|Q.u 12 rfl<|Q.qg rfl (q.aX (off':=2) rfl gF rfl) rfl<|Q.qg rfl (q.ld 0 rfl rfl lB rfl) rfl<|Q.u 6 rfl<|Q.nil ?_
        refine R.aE rfl rfl ?_
        refine R.reg rfl<|R.q (q.build (cs:=[.slice none 0 0,.slice none 0 0,.slice none 0 0,.slice none 0 0,.int .i64 0,.int .i64 0]) cJ rfl rfl) rfl<|R.q (q.iface rfl bz) rfl<|?_
        refine R.s rfl (s.st (us:=[.slice none 0 0,.slice none 0 0,.slice none 0 0,.slice none 0 0,.int .i64 0,.int .i64 0]) (cs':=[.slice none 0 0,.slice none 0 0,.slice none 0 0,.slice none 0 0,.int .i64 0,.int .i64 0]) 6 _ rfl rfl rfl rfl (.inl av) rfl rfl rfl rfl) fun _=>?_
        refine R.u 1 rfl<|R.nil ?_
        refine R.mp (fun _ hw=>hw.aU (α:=ak)) ?_
        refine R.mp (fun _ hw=>hw.aU (α:=ai)) ?_
        refine R.mp (fun _ hw=>hw.aU (α:=Held)) ?_
        refine R.mp (fun _ hw=>hw.aU (α:=Note)) ?_
        have hz:bj l=((⟨[],[],[],[],0,0⟩:au),4):=by (first|exact dA HP hx1 (.inl (jf (by omega) rfl (by assumption)))|exact dA HP hx1 (.inr (.inl (by assumption)))|exact dA HP hx1 (.inr (.inr ⟨by assumption,by first|assumption|exact iJ (by assumption)|exact iK (by assumption)⟩)))
        rw [hz]
        exact R.w2 ((.slice none 0 0),(.slice none 0 0),(.slice none 0 0),(.slice none 0 0)) [7] [3,2,1,0] rfl Tryz.results17 (RV.cell 6 rfl rfl av) (RV.tmp rfl) rfl rfl rfl (cx rfl (dC (by decide) rfl))
      ·
        rw [h8]
        rcases Bool.eq_false_or_eq_true (!((rowP z (⟨x1.Key,x1.Val,false⟩:Change)).2)) with h9|h9
        ·
          refine R.fT (fuel:=22) (Wd w (blks []++own) [ah.box b3 [.string x1.Key,.string x1.Val,.bool false] 52,ah.box b1 [.slice none 0 0,.slice none 0 0,.slice none 0 0,.slice none 0 0,.int .i64 0,.int .i64 0] 32,ah.held w own] [ah.ls bf (l:List Change),bm]) rfl mixed rfl ?_
          refine D.q (i:=0) rfl (by kernel_rfl) (fun _=>Wd.aK [0,6,7] [0,1] rfl rfl rfl) rfl (q.mv rfl) rfl<|D.q (i:=1) rfl (by kernel_rfl) (fun _=>Wd.aK [0,6,7] [0,1] rfl rfl rfl) rfl (q.gtr rfl rfl (decide_eq_false (by omega))) rfl<|D.q (i:=2) rfl (by kernel_rfl) (fun _=>Wd.aK [0,6,7] [0,1] rfl rfl rfl) rfl (q.mv rfl) rfl<|D.skip (i:=3) rfl (by kernel_rfl) (fun _=>Wd.aK [0,6,7] [0,1] rfl rfl rfl) rfl rfl<|D.skip (i:=4) rfl (by kernel_rfl) (fun _=>Wd.aK [0,6,7] [0,1] rfl rfl rfl) rfl rfl<|D.skip (i:=5) rfl (by kernel_rfl) (fun _=>Wd.aK [0,6,7] [0,1] rfl rfl rfl) rfl rfl<|D.skip (i:=6) rfl (by kernel_rfl) (fun _=>Wd.aK [0,6,7] [0,1] rfl rfl rfl) rfl rfl<|D.skip (i:=7) rfl (by kernel_rfl) (fun _=>Wd.aK [0,6,7] [0,1] rfl rfl rfl) rfl rfl<|D.skip (i:=8) rfl (by kernel_rfl) (fun _=>Wd.aK [0,6,7] [0,1] rfl rfl rfl) rfl rfl<|D.skip (i:=9) rfl (by kernel_rfl) (fun _=>Wd.aK [0,6,7] [0,1] rfl rfl rfl) rfl rfl<|D.skip (i:=10) rfl (by kernel_rfl) (fun _=>Wd.aK [0,6,7] [0,1] rfl rfl rfl) rfl rfl<|D.skip (i:=11) rfl (by kernel_rfl) (fun _=>Wd.aK [0,6,7] [0,1] rfl rfl rfl) rfl rfl<|D.q (i:=12) rfl (by kernel_rfl) (fun _=>Wd.aK [0,6,7] [0,1] rfl rfl rfl) rfl (q.kb rfl rfl) rfl<|D.q (i:=13) rfl (by kernel_rfl) (fun _=>Wd.aK [0,6,7] [0,1] rfl rfl rfl) rfl (q.mv rfl) rfl<|D.q (i:=14) rfl (by kernel_rfl) (fun _=>Wd.aK [0,6,7] [0,1] rfl rfl rfl) rfl (q.aX (off':=2) rfl gF rfl) rfl<|D.q (i:=15) rfl (by kernel_rfl) (fun _=>Wd.aK [0,6,7] [0,1] rfl rfl rfl) rfl (q.ld 0 rfl rfl lB rfl) rfl<|D.q (i:=16) rfl (by kernel_rfl) (fun _=>Wd.aK [0,6,7] [0,1] rfl rfl rfl) rfl (q.kb rfl rfl) rfl<|D.q (i:=17) rfl (by kernel_rfl) (fun _=>Wd.aK [0,6,7] [0,1] rfl rfl rfl) rfl (q.mv rfl) rfl<|D.q (i:=18) rfl (by kernel_rfl) (fun _=>Wd.aK [0,6,7] [0,1] rfl rfl rfl) rfl (q.cF 0 rfl rfl jP) rfl<|?_
          refine D.one (i:=19) (by kernel_rfl) rfl ?_
          refine Do.s (B':=(fun g_:Value×Value×Value×Value=>[ah.box b2 [g_.1,g_.2.1,g_.2.2.1,g_.2.2.2,.int .i64 ((((rowP z (⟨x1.Key,x1.Val,false⟩:Change))).1).ae),.int .i64 ((((rowP z (⟨x1.Key,x1.Val,false⟩:Change))).1).af)] 32,ah.row 88 g_.1 ((((rowP z (⟨x1.Key,x1.Val,false⟩:Change))).1).aj:List ak),ah.row 62 g_.2.1 ((((rowP z (⟨x1.Key,x1.Val,false⟩:Change))).1).Things:List ai),ah.row 85 g_.2.2.1 ((((rowP z (⟨x1.Key,x1.Val,false⟩:Change))).1).Held:List Held),ah.row 72 g_.2.2.2 ((((rowP z (⟨x1.Key,x1.Val,false⟩:Change))).1).Notes:List Note),ah.box b3 [.string x1.Key,.string x1.Val,.bool false] 52,ah.box b1 [.slice none 0 0,.slice none 0 0,.slice none 0 0,.slice none 0 0,.int .i64 0,.int .i64 0] 32,ah.held w own])) (F':=(fun g_:Value×Value×Value×Value=>[ah.ls bf (l:List Change),bm])) (s.bA (B0:=[ah.box b2 [bY,bR,dn,bZ,.int .i64 z.ae,.int .i64 z.af] 32,ah.row 88 bY (z.aj:List ak),ah.row 62 bR (z.Things:List ai),ah.row 85 dn (z.Held:List Held),ah.row 72 bZ (z.Notes:List Note)]) (Br:=[ah.box b3 [.string x1.Key,.string x1.Val,.bool false] 52,ah.box b1 [.slice none 0 0,.slice none 0 0,.slice none 0 0,.slice none 0 0,.int .i64 0,.int .i64 0] 32,ah.held w own]) (F0:=[bm]) [5,4,3,2,1,0,6,7] [1] (fun g_:Value×Value×Value×Value => .bool (((rowP z (⟨x1.Key,x1.Val,false⟩:Change))).2)) (fun g_:Value×Value×Value×Value=>[ah.box b2 [g_.1,g_.2.1,g_.2.2.1,g_.2.2.2,.int .i64 ((((rowP z (⟨x1.Key,x1.Val,false⟩:Change))).1).ae),.int .i64 ((((rowP z (⟨x1.Key,x1.Val,false⟩:Change))).1).af)] 32,ah.row 88 g_.1 ((((rowP z (⟨x1.Key,x1.Val,false⟩:Change))).1).aj:List ak),ah.row 62 g_.2.1 ((((rowP z (⟨x1.Key,x1.Val,false⟩:Change))).1).Things:List ai),ah.row 85 g_.2.2.1 ((((rowP z (⟨x1.Key,x1.Val,false⟩:Change))).1).Held:List Held),ah.row 72 g_.2.2.2 ((((rowP z (⟨x1.Key,x1.Val,false⟩:Change))).1).Notes:List Note)]) (fun g_:Value×Value×Value×Value=>[]) rfl rfl rfl sj rfl rfl (fun w own hw H=>mR b2 bY bR dn bZ (z) ((⟨x1.Key,x1.Val,false⟩:Change)) w own H (by first|assumption|omega) (by first|assumption|omega)) rfl) (fun _=>(fun _=>Wd.aK [5,6,7] [0,1] rfl rfl rfl)) rfl ?_
          rintro ⟨z29,z30,z31,z32⟩
          dsimp only
          refine D.q (i:=20) rfl (by kernel_rfl) (fun _=>Wd.aK [5,6,7] [0,1] rfl rfl rfl) rfl (q.not rfl) rfl<|D.q (i:=21) rfl (by kernel_rfl) (fun _=>Wd.aK [5,6,7] [0,1] rfl rfl rfl) rfl (q.kb rfl rfl) rfl<|D.done (by kernel_rfl)<|?_
          refine R.cond rfl rfl (fun h10=>?_) (fun h10=>?_)
          ·
            refine R.reg rfl<|R.q (q.build (cs:=[.slice none 0 0,.slice none 0 0,.slice none 0 0,.slice none 0 0,.int .i64 0,.int .i64 0]) cJ rfl rfl) rfl<|R.q (q.iface rfl bz) rfl<|?_
            refine R.s rfl (s.st (us:=[.slice none 0 0,.slice none 0 0,.slice none 0 0,.slice none 0 0,.int .i64 0,.int .i64 0]) (cs':=[.slice none 0 0,.slice none 0 0,.slice none 0 0,.slice none 0 0,.int .i64 0,.int .i64 0]) 6 _ rfl rfl rfl rfl (.inl av) rfl rfl rfl rfl) fun _=>?_
            refine R.u 1 rfl<|R.nil ?_
            refine R.mp (fun _ hw=>hw.aU (α:=ak)) ?_
            refine R.mp (fun _ hw=>hw.aU (α:=ai)) ?_
            refine R.mp (fun _ hw=>hw.aU (α:=Held)) ?_
            refine R.mp (fun _ hw=>hw.aU (α:=Note)) ?_
            have hz:bj l=((⟨[],[],[],[],0,0⟩:au),4):=by (first|exact dA HP hx1 (.inl (jf (by omega) rfl (by assumption)))|exact dA HP hx1 (.inr (.inl (by assumption)))|exact dA HP hx1 (.inr (.inr ⟨by assumption,by first|assumption|exact iJ (by assumption)|exact iK (by assumption)⟩)))
            rw [hz]
            exact R.w2 ((.slice none 0 0),(.slice none 0 0),(.slice none 0 0),(.slice none 0 0)) [7] [3,2,1,0] rfl Tryz.results17 (RV.cell 6 rfl rfl av) (RV.tmp rfl) rfl rfl rfl (cx rfl (dC (by decide) rfl))
          ·
            refine R.reg rfl<|R.q (q.add (r:=((k+1:Nat):Int)) rfl rfl (wr (by omega))) rfl<|R.u 1 rfl<|R.nil ?_
            refine R.back (k+1,((rowP z (⟨x1.Key,x1.Val,false⟩:Change)).1),z29,z30,z31,z32) rfl (by ((try dsimp only);have zl:=ly z (⟨x1.Key,x1.Val,false⟩:Change);exact ⟨by omega,mS HP hx1 (by first|exact lw (by omega)|exact lx (by omega) rfl (by assumption)) (by assumption) (by first|assumption|exact iJ (by assumption)|exact iK (by assumption)),by omega,by omega,by omega⟩)) (by dsimp only;omega) ⟨rfl,rfl,rfl,rfl,rfl,rfl,trivial⟩ (fun _=>Wd.aK [4,3,2,1,0,6,7] [0,1] rfl rfl rfl)
        ·
          refine R.fT (fuel:=22) (Wd w (blks []++own) [ah.box b3 [.string x1.Key,.string x1.Val,.bool false] 52,ah.box b1 [.slice none 0 0,.slice none 0 0,.slice none 0 0,.slice none 0 0,.int .i64 0,.int .i64 0] 32,ah.held w own] [ah.ls bf (l:List Change),bm]) rfl mixed rfl ?_
          refine D.q (i:=0) rfl (by kernel_rfl) (fun _=>Wd.aK [0,6,7] [0,1] rfl rfl rfl) rfl (q.mv rfl) rfl<|D.q (i:=1) rfl (by kernel_rfl) (fun _=>Wd.aK [0,6,7] [0,1] rfl rfl rfl) rfl (q.gtr rfl rfl (decide_eq_false (by omega))) rfl<|D.q (i:=2) rfl (by kernel_rfl) (fun _=>Wd.aK [0,6,7] [0,1] rfl rfl rfl) rfl (q.mv rfl) rfl<|D.skip (i:=3) rfl (by kernel_rfl) (fun _=>Wd.aK [0,6,7] [0,1] rfl rfl rfl) rfl rfl<|D.skip (i:=4) rfl (by kernel_rfl) (fun _=>Wd.aK [0,6,7] [0,1] rfl rfl rfl) rfl rfl<|D.skip (i:=5) rfl (by kernel_rfl) (fun _=>Wd.aK [0,6,7] [0,1] rfl rfl rfl) rfl rfl<|D.skip (i:=6) rfl (by kernel_rfl) (fun _=>Wd.aK [0,6,7] [0,1] rfl rfl rfl) rfl rfl<|D.skip (i:=7) rfl (by kernel_rfl) (fun _=>Wd.aK [0,6,7] [0,1] rfl rfl rfl) rfl rfl<|D.skip (i:=8) rfl (by kernel_rfl) (fun _=>Wd.aK [0,6,7] [0,1] rfl rfl rfl) rfl rfl<|D.skip (i:=9) rfl (by kernel_rfl) (fun _=>Wd.aK [0,6,7] [0,1] rfl rfl rfl) rfl rfl<|D.skip (i:=10) rfl (by kernel_rfl) (fun _=>Wd.aK [0,6,7] [0,1] rfl rfl rfl) rfl rfl<|D.skip (i:=11) rfl (by kernel_rfl) (fun _=>Wd.aK [0,6,7] [0,1] rfl rfl rfl) rfl rfl<|D.q (i:=12) rfl (by kernel_rfl) (fun _=>Wd.aK [0,6,7] [0,1] rfl rfl rfl) rfl (q.kb rfl rfl) rfl<|D.q (i:=13) rfl (by kernel_rfl) (fun _=>Wd.aK [0,6,7] [0,1] rfl rfl rfl) rfl (q.mv rfl) rfl<|D.q (i:=14) rfl (by kernel_rfl) (fun _=>Wd.aK [0,6,7] [0,1] rfl rfl rfl) rfl (q.aX (off':=2) rfl gF rfl) rfl<|D.q (i:=15) rfl (by kernel_rfl) (fun _=>Wd.aK [0,6,7] [0,1] rfl rfl rfl) rfl (q.ld 0 rfl rfl lB rfl) rfl<|D.q (i:=16) rfl (by kernel_rfl) (fun _=>Wd.aK [0,6,7] [0,1] rfl rfl rfl) rfl (q.kb rfl rfl) rfl<|D.q (i:=17) rfl (by kernel_rfl) (fun _=>Wd.aK [0,6,7] [0,1] rfl rfl rfl) rfl (q.mv rfl) rfl<|D.q (i:=18) rfl (by kernel_rfl) (fun _=>Wd.aK [0,6,7] [0,1] rfl rfl rfl) rfl (q.cF 0 rfl rfl jP) rfl<|?_
          refine D.one (i:=19) (by kernel_rfl) rfl ?_
          refine Do.s (B':=(fun g_:Value×Value×Value×Value=>[ah.box b2 [g_.1,g_.2.1,g_.2.2.1,g_.2.2.2,.int .i64 ((((rowP z (⟨x1.Key,x1.Val,false⟩:Change))).1).ae),.int .i64 ((((rowP z (⟨x1.Key,x1.Val,false⟩:Change))).1).af)] 32,ah.row 88 g_.1 ((((rowP z (⟨x1.Key,x1.Val,false⟩:Change))).1).aj:List ak),ah.row 62 g_.2.1 ((((rowP z (⟨x1.Key,x1.Val,false⟩:Change))).1).Things:List ai),ah.row 85 g_.2.2.1 ((((rowP z (⟨x1.Key,x1.Val,false⟩:Change))).1).Held:List Held),ah.row 72 g_.2.2.2 ((((rowP z (⟨x1.Key,x1.Val,false⟩:Change))).1).Notes:List Note),ah.box b3 [.string x1.Key,.string x1.Val,.bool false] 52,ah.box b1 [.slice none 0 0,.slice none 0 0,.slice none 0 0,.slice none 0 0,.int .i64 0,.int .i64 0] 32,ah.held w own])) (F':=(fun g_:Value×Value×Value×Value=>[ah.ls bf (l:List Change),bm])) (s.bA (B0:=[ah.box b2 [bY,bR,dn,bZ,.int .i64 z.ae,.int .i64 z.af] 32,ah.row 88 bY (z.aj:List ak),ah.row 62 bR (z.Things:List ai),ah.row 85 dn (z.Held:List Held),ah.row 72 bZ (z.Notes:List Note)]) (Br:=[ah.box b3 [.string x1.Key,.string x1.Val,.bool false] 52,ah.box b1 [.slice none 0 0,.slice none 0 0,.slice none 0 0,.slice none 0 0,.int .i64 0,.int .i64 0] 32,ah.held w own]) (F0:=[bm]) [5,4,3,2,1,0,6,7] [1] (fun g_:Value×Value×Value×Value => .bool (((rowP z (⟨x1.Key,x1.Val,false⟩:Change))).2)) (fun g_:Value×Value×Value×Value=>[ah.box b2 [g_.1,g_.2.1,g_.2.2.1,g_.2.2.2,.int .i64 ((((rowP z (⟨x1.Key,x1.Val,false⟩:Change))).1).ae),.int .i64 ((((rowP z (⟨x1.Key,x1.Val,false⟩:Change))).1).af)] 32,ah.row 88 g_.1 ((((rowP z (⟨x1.Key,x1.Val,false⟩:Change))).1).aj:List ak),ah.row 62 g_.2.1 ((((rowP z (⟨x1.Key,x1.Val,false⟩:Change))).1).Things:List ai),ah.row 85 g_.2.2.1 ((((rowP z (⟨x1.Key,x1.Val,false⟩:Change))).1).Held:List Held),ah.row 72 g_.2.2.2 ((((rowP z (⟨x1.Key,x1.Val,false⟩:Change))).1).Notes:List Note)]) (fun g_:Value×Value×Value×Value=>[]) rfl rfl rfl sj rfl rfl (fun w own hw H=>mR b2 bY bR dn bZ (z) ((⟨x1.Key,x1.Val,false⟩:Change)) w own H (by first|assumption|omega) (by first|assumption|omega)) rfl) (fun _=>(fun _=>Wd.aK [5,6,7] [0,1] rfl rfl rfl)) rfl ?_
          rintro ⟨z37,z38,z39,z40⟩
          dsimp only
          refine D.q (i:=20) rfl (by kernel_rfl) (fun _=>Wd.aK [5,6,7] [0,1] rfl rfl rfl) rfl (q.not rfl) rfl<|D.q (i:=21) rfl (by kernel_rfl) (fun _=>Wd.aK [5,6,7] [0,1] rfl rfl rfl) rfl (q.kb rfl rfl) rfl<|D.done (by kernel_rfl)<|?_
          refine R.cond rfl rfl (fun h11=>?_) (fun h11=>?_)
          ·
            refine R.reg rfl<|R.q (q.build (cs:=[.slice none 0 0,.slice none 0 0,.slice none 0 0,.slice none 0 0,.int .i64 0,.int .i64 0]) cJ rfl rfl) rfl<|R.q (q.iface rfl bz) rfl<|?_
            refine R.s rfl (s.st (us:=[.slice none 0 0,.slice none 0 0,.slice none 0 0,.slice none 0 0,.int .i64 0,.int .i64 0]) (cs':=[.slice none 0 0,.slice none 0 0,.slice none 0 0,.slice none 0 0,.int .i64 0,.int .i64 0]) 6 _ rfl rfl rfl rfl (.inl av) rfl rfl rfl rfl) fun _=>?_
            refine R.u 1 rfl<|R.nil ?_
            refine R.mp (fun _ hw=>hw.aU (α:=ak)) ?_
            refine R.mp (fun _ hw=>hw.aU (α:=ai)) ?_
            refine R.mp (fun _ hw=>hw.aU (α:=Held)) ?_
            refine R.mp (fun _ hw=>hw.aU (α:=Note)) ?_
            have hz:bj l=((⟨[],[],[],[],0,0⟩:au),4):=by (first|exact dA HP hx1 (.inl (jf (by omega) rfl (by assumption)))|exact dA HP hx1 (.inr (.inl (by assumption)))|exact dA HP hx1 (.inr (.inr ⟨by assumption,by first|assumption|exact iJ (by assumption)|exact iK (by assumption)⟩)))
            rw [hz]
            exact R.w2 ((.slice none 0 0),(.slice none 0 0),(.slice none 0 0),(.slice none 0 0)) [7] [3,2,1,0] rfl Tryz.results17 (RV.cell 6 rfl rfl av) (RV.tmp rfl) rfl rfl rfl (cx rfl (dC (by decide) rfl))
          ·
            refine R.reg rfl<|R.q (q.add (r:=((k+1:Nat):Int)) rfl rfl (wr (by omega))) rfl<|R.u 1 rfl<|R.nil ?_
            refine R.back (k+1,((rowP z (⟨x1.Key,x1.Val,false⟩:Change)).1),z37,z38,z39,z40) rfl (by ((try dsimp only);have zl:=ly z (⟨x1.Key,x1.Val,false⟩:Change);exact ⟨by omega,mS HP hx1 (by first|exact lw (by omega)|exact lx (by omega) rfl (by assumption)) (by assumption) (by first|assumption|exact iJ (by assumption)|exact iK (by assumption)),by omega,by omega,by omega⟩)) (by dsimp only;omega) ⟨rfl,rfl,rfl,rfl,rfl,rfl,trivial⟩ (fun _=>Wd.aK [4,3,2,1,0,6,7] [0,1] rfl rfl rfl)
  ·
    refine R.q (q.lss rfl rfl (decide_eq_false (by omega))) rfl<|R.nil ?_
    refine R.aH rfl rfl ?_
    refine R.reg rfl<|R.q (q.cF 4 rfl rfl av) rfl<|?_
    refine R.s (B':=(fun _u:Unit=>[ah.box b2 [bY,bR,dn,bZ,.int .i64 z.ae,.int .i64 z.af] 32,ah.box b1 [.slice none 0 0,.slice none 0 0,.slice none 0 0,.slice none 0 0,.int .i64 0,.int .i64 0] 32,ah.held w own])) (F':=(fun _u:Unit=>[ah.ls bZ (z.Notes:List Note),ah.ls dn (z.Held:List Held),ah.ls bR (z.Things:List ai),ah.ls bY (z.aj:List ak),ah.ls bf (l:List Change),bm])) rfl (s.pre (B2:=[ah.row 72 bZ (z.Notes:List Note),ah.row 85 dn (z.Held:List Held),ah.row 62 bR (z.Things:List ai),ah.box b2 [bY,bR,dn,bZ,.int .i64 z.ae,.int .i64 z.af] 32,ah.box b1 [.slice none 0 0,.slice none 0 0,.slice none 0 0,.slice none 0 0,.int .i64 0,.int .i64 0] 32,ah.held w own]) (F2:=[ah.ls bY (z.aj:List ak),ah.ls bf (l:List Change),bm]) (fun _ hw=>hw.dh 3 _ rfl rfl) (s.pre (B2:=[ah.row 72 bZ (z.Notes:List Note),ah.row 85 dn (z.Held:List Held),ah.box b2 [bY,bR,dn,bZ,.int .i64 z.ae,.int .i64 z.af] 32,ah.box b1 [.slice none 0 0,.slice none 0 0,.slice none 0 0,.slice none 0 0,.int .i64 0,.int .i64 0] 32,ah.held w own]) (F2:=[ah.ls bR (z.Things:List ai),ah.ls bY (z.aj:List ak),ah.ls bf (l:List Change),bm]) (fun _ hw=>hw.dh 2 _ rfl rfl) (s.pre (B2:=[ah.row 72 bZ (z.Notes:List Note),ah.box b2 [bY,bR,dn,bZ,.int .i64 z.ae,.int .i64 z.af] 32,ah.box b1 [.slice none 0 0,.slice none 0 0,.slice none 0 0,.slice none 0 0,.int .i64 0,.int .i64 0] 32,ah.held w own]) (F2:=[ah.ls dn (z.Held:List Held),ah.ls bR (z.Things:List ai),ah.ls bY (z.aj:List ak),ah.ls bf (l:List Change),bm]) (fun _ hw=>hw.dh 1 _ rfl rfl) (s.pre (B2:=[ah.box b2 [bY,bR,dn,bZ,.int .i64 z.ae,.int .i64 z.af] 32,ah.box b1 [.slice none 0 0,.slice none 0 0,.slice none 0 0,.slice none 0 0,.int .i64 0,.int .i64 0] 32,ah.held w own]) (F2:=[ah.ls bZ (z.Notes:List Note),ah.ls dn (z.Held:List Held),ah.ls bR (z.Things:List ai),ah.ls bY (z.aj:List ak),ah.ls bf (l:List Change),bm]) (fun _ hw=>hw.dh 0 _ rfl rfl) (s.bA (B0:=[]) (Br:=[ah.box b2 [bY,bR,dn,bZ,.int .i64 z.ae,.int .i64 z.af] 32,ah.box b1 [.slice none 0 0,.slice none 0 0,.slice none 0 0,.slice none 0 0,.int .i64 0,.int .i64 0] 32,ah.held w own]) (F0:=[ah.ls bY (z.aj:List ak),ah.ls bR (z.Things:List ai),ah.ls dn (z.Held:List Held),ah.ls bZ (z.Notes:List Note)]) [0,1,2] [3,2,1,0] (fun _u:Unit => .bool ((cI z))) (fun _u:Unit=>[]) (fun _u:Unit=>[]) rfl rfl rfl Ak rfl rfl (fun w own hw H=>uf bY bR dn bZ (z) w own H (by first|assumption|omega)) rfl))))) fun _=>?_
    refine R.q (q.not rfl) rfl<|R.nil ?_
    refine R.cond rfl rfl (fun h12=>?_) (fun h12=>?_)
    ·
      refine R.reg rfl<|R.q (q.build (cs:=[.slice none 0 0,.slice none 0 0,.slice none 0 0,.slice none 0 0,.int .i64 0,.int .i64 0]) cJ rfl rfl) rfl<|R.q (q.iface rfl bz) rfl<|?_
      refine R.s rfl (s.st (us:=[.slice none 0 0,.slice none 0 0,.slice none 0 0,.slice none 0 0,.int .i64 0,.int .i64 0]) (cs':=[.slice none 0 0,.slice none 0 0,.slice none 0 0,.slice none 0 0,.int .i64 0,.int .i64 0]) 1 _ rfl rfl rfl rfl (.inl av) rfl rfl rfl rfl) fun _=>?_
      refine R.u 1 rfl<|R.nil ?_
      refine R.mp (fun _ hw=>hw.aU (α:=ak)) ?_
      refine R.mp (fun _ hw=>hw.aU (α:=ai)) ?_
      refine R.mp (fun _ hw=>hw.aU (α:=Held)) ?_
      refine R.mp (fun _ hw=>hw.aU (α:=Note)) ?_
      have hz:bj l=((⟨[],[],[],[],0,0⟩:au),4):=by (exact zk HP (by omega) (by first|assumption|exact iJ (by assumption)|exact iK (by assumption)))
      rw [hz]
      exact R.w2 ((.slice none 0 0),(.slice none 0 0),(.slice none 0 0),(.slice none 0 0)) [2] [3,2,1,0] rfl Tryz.results17 (RV.cell 1 rfl rfl av) (RV.tmp rfl) rfl rfl rfl (cx rfl (dC (by decide) rfl))
    ·
      refine R.reg rfl<|R.q (q.cF 0 rfl rfl av) rfl<|?_
      refine R.s rfl (s.eH (us:=[bY,bR,dn,bZ,.int .i64 z.ae,.int .i64 z.af]) (cs':=[bY,bR,dn,bZ,.int .i64 z.ae,.int .i64 z.af]) 1 _ rfl rfl rfl (fun _ _=>rfl) (.inl av) (fun w hw=>(ao (Sl.one ((fun _=>Wd.aS 3 rfl) w hw)) (ao (Sl.one ((fun _=>Wd.aS 2 rfl) w hw)) (ao (Sl.one ((fun _=>Wd.aS 1 rfl) w hw)) (ao (Sl.one ((fun _=>Wd.aS 0 rfl) w hw)) (ao rfl (ao rfl aO))))))) rfl rfl rfl) fun _=>?_
      refine R.u 1 rfl<|R.nil ?_
      have hz:bj l=(z,0):=by (exact Ba HP (by omega) (by first|assumption|exact iJ (by assumption)|exact iK (by assumption)))
      rw [hz]
      exact R.w2 (bY,bR,dn,bZ) [2] [3,2,1,0] rfl Tryz.results17 (RV.cell 1 rfl rfl av) (RV.tmp rfl) rfl rfl rfl (cx rfl (gj rfl))
end Go.Proofs.YtbkfhjaibhnkmaaGreatDoor
