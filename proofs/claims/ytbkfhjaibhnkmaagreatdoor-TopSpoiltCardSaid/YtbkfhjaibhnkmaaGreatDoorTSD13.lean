import Derived.Test.YtbkfhjaibhnkmaaGreatDoorTSD12
namespace Go.Proofs.YtbkfhjaibhnkmaaGreatDoor
open Go Go.RowKit
set_option linter.unusedVariables false
theorem nt (lS:Value)(a:List Int)(lT:Value)(b:List Int)(w:World)(jB:Sl w lS a)(kA:Sl w lT b):Calls Tryz.prog 28 #[lS,lT] w fun e w'=>e = .returned (.bool (decide (a=b)))∧Ext w w':=by
 have C2:=jB.dH
 have C4:=kA.dH
 refine R.enter (n:=26) (vs:=[lS,lT]) [] [(0,lS),(1,lT)] Tryz.func28 rfl rfl rfl rfl ?_
 refine R.reg rfl<|R.u 1 rfl<|R.nil ?_
 refine R.reg rfl<|R.u 1 rfl<|R.q (q.len' (fun _=>Wd.old jB) rfl Tryz.underlying60) rfl<|R.u 1 rfl<|R.q (q.len' (fun _=>Wd.old kA) rfl Tryz.underlying60) rfl<|?_
 by_cases h1:a.length=b.length
 ·
  refine R.q (q.neq rfl rfl (bne_eq_false_iff_eq.2 (by omega))) rfl<|R.nil ?_
  refine R.aI rfl rfl ?_
  refine R.reg rfl<|R.u 1 rfl<|R.nil ?_
  refine R.loop (fun k:Nat=>[(0,lS),(1,lT),(5,iV (k:Int))]) (fun k:Nat=>[]) (fun k:Nat=>[]) (fun k:Nat=>k≤a.length ∧ ∀j,j<k→a[j]? = b[j]?) (fun k:Nat=>a.length-k) 0 rfl (by exact ⟨by omega,fun j hj=>absurd hj (Nat.not_lt_zero _)⟩) ⟨rfl,rfl,rfl,trivial⟩ (fun _=>Wd.pick [] [] rfl rfl rfl) ?_
  rintro k ⟨hk,HA⟩
  refine R.reg rfl<|R.u 2 rfl<|R.q (q.len' (fun _=>Wd.old jB) rfl Tryz.underlying60) rfl<|?_
  by_cases h2:k<a.length
  ·
   refine R.q (q.lss rfl rfl (decide_eq_true (by omega))) rfl<|R.nil ?_
   refine R.aD rfl rfl ?_
   obtain ⟨x1,hx1⟩:∃z,a[k]? = some z:=⟨_,List.getElem?_eq_getElem (by omega)⟩
   obtain ⟨x2,hx2⟩:∃z,b[k]? = some z:=⟨_,List.getElem?_eq_getElem (by omega)⟩
   by_cases h3:x1=x2
   ·
    refine R.dM rfl mixed (by kernel_rfl)<|Q.u 2 rfl<|Q.q (q.idx (i:=k) (fun _=>Wd.old jB) rfl rfl ct rfl hx1) rfl<|Q.q (q.fk (fun _=>Wd.old jB) hx1 rfl av rfl) rfl<|Q.u 2 rfl<|Q.q (q.idx (i:=k) (fun _=>Wd.old kA) rfl rfl ct rfl hx2) rfl<|Q.q (q.fk (fun _=>Wd.old kA) hx2 rfl av rfl) rfl<|Q.q (q.neq rfl rfl (bne_eq_false_iff_eq.2 (by omega))) rfl<|Q.nil ?_
    refine R.aI rfl rfl ?_
    refine R.reg rfl<|R.u 1 rfl<|R.q (q.add (r:=((k+1:Nat):Int)) rfl rfl (wr (by omega))) rfl<|R.u 1 rfl<|R.nil ?_
    refine R.back (k+1) rfl (by (exact ⟨by omega,gC HA hx1 hx2 ‹_›⟩)) (by omega) ⟨rfl,rfl,rfl,trivial⟩ (fun _=>Wd.pick [] [] rfl rfl rfl)
   ·
    refine R.dM rfl mixed (by kernel_rfl)<|Q.u 2 rfl<|Q.q (q.idx (i:=k) (fun _=>Wd.old jB) rfl rfl ct rfl hx1) rfl<|Q.q (q.fk (fun _=>Wd.old jB) hx1 rfl av rfl) rfl<|Q.u 2 rfl<|Q.q (q.idx (i:=k) (fun _=>Wd.old kA) rfl rfl ct rfl hx2) rfl<|Q.q (q.fk (fun _=>Wd.old kA) hx2 rfl av rfl) rfl<|Q.q (q.neq rfl rfl (bne_iff_ne.2 (by omega))) rfl<|Q.nil ?_
    refine R.aD rfl rfl ?_
    refine R.reg rfl<|R.u 1 rfl<|R.nil ?_
    exact R.rv rfl Tryz.results28 rfl (rB (by (first|exact ej ‹_› | exact dN ‹_› ‹_› HA|exact eo hx1 hx2 ‹_›)))
  ·
   refine R.q (q.lss rfl rfl (decide_eq_false (by omega))) rfl<|R.nil ?_
   refine R.aI rfl rfl ?_
   refine R.reg rfl<|R.u 1 rfl<|R.nil ?_
   exact R.rv rfl Tryz.results28 rfl (rB (by (first|exact ej ‹_› | exact dN ‹_› ‹_› HA|exact eo hx1 hx2 ‹_›)))
 ·
  refine R.q (q.neq rfl rfl (bne_iff_ne.2 (by omega))) rfl<|R.nil ?_
  refine R.aD rfl rfl ?_
  refine R.reg rfl<|R.u 1 rfl<|R.nil ?_
  exact R.rv rfl Tryz.results28 rfl (rB (by (first|exact ej ‹_› | exact dN ‹_› ‹_› HA|exact eo hx1 hx2 ‹_›)))
theorem kY (lS:Value)(a:List aj)(lT:Value)(b:List aj)(w:World)(jB:Sl w lS a)(kA:Sl w lT b):Calls Tryz.prog 52 #[lS,lT] w fun e w'=>e = .returned (.bool (decide (a=b)))∧Ext w w':=by
 have C2:=jB.dH
 have C4:=kA.dH
 refine R.enter (n:=26) (vs:=[lS,lT]) [] [(0,lS),(1,lT)] Tryz.func52 rfl rfl rfl rfl ?_
 refine R.reg rfl<|R.u 1 rfl<|R.nil ?_
 refine R.reg rfl<|R.u 1 rfl<|R.q (q.len' (fun _=>Wd.old jB) rfl Tryz.underlying27) rfl<|R.u 1 rfl<|R.q (q.len' (fun _=>Wd.old kA) rfl Tryz.underlying27) rfl<|?_
 by_cases h1:a.length=b.length
 ·
  refine R.q (q.neq rfl rfl (bne_eq_false_iff_eq.2 (by omega))) rfl<|R.nil ?_
  refine R.aI rfl rfl ?_
  refine R.reg rfl<|R.u 1 rfl<|R.nil ?_
  refine R.loop (fun k:Nat=>[(0,lS),(1,lT),(5,iV (k:Int))]) (fun k:Nat=>[]) (fun k:Nat=>[]) (fun k:Nat=>k≤a.length ∧ ∀j,j<k→a[j]? = b[j]?) (fun k:Nat=>a.length-k) 0 rfl (by exact ⟨by omega,fun j hj=>absurd hj (Nat.not_lt_zero _)⟩) ⟨rfl,rfl,rfl,trivial⟩ (fun _=>Wd.pick [] [] rfl rfl rfl) ?_
  rintro k ⟨hk,HA⟩
  refine R.reg rfl<|R.u 2 rfl<|R.q (q.len' (fun _=>Wd.old jB) rfl Tryz.underlying27) rfl<|?_
  by_cases h2:k<a.length
  ·
   refine R.q (q.lss rfl rfl (decide_eq_true (by omega))) rfl<|R.nil ?_
   refine R.aD rfl rfl ?_
   obtain ⟨x1,hx1⟩:∃z,a[k]? = some z:=⟨_,List.getElem?_eq_getElem (by omega)⟩
   obtain ⟨x2,hx2⟩:∃z,b[k]? = some z:=⟨_,List.getElem?_eq_getElem (by omega)⟩
   by_cases h3:x1=x2
   ·
    refine R.dM rfl mixed (by kernel_rfl)<|Q.u 2 rfl<|Q.q (q.idx (i:=k) (fun _=>Wd.old jB) rfl rfl cK rfl hx1) rfl<|Q.q (q.dD (ds:=aA x1) (fun _=>Wd.old jB) hx1 rfl aQ rfl) rfl<|Q.u 2 rfl<|Q.q (q.idx (i:=k) (fun _=>Wd.old kA) rfl rfl cK rfl hx2) rfl<|Q.q (q.dD (ds:=aA x2) (fun _=>Wd.old kA) hx2 rfl aQ rfl) rfl<|Q.q (q.nW (x:=x1) (y:=x2) pK rfl rfl h3) rfl<|Q.nil ?_
    refine R.aI rfl rfl ?_
    refine R.reg rfl<|R.u 1 rfl<|R.q (q.add (r:=((k+1:Nat):Int)) rfl rfl (wr (by omega))) rfl<|R.u 1 rfl<|R.nil ?_
    refine R.back (k+1) rfl (by (exact ⟨by omega,gC HA hx1 hx2 ‹_›⟩)) (by omega) ⟨rfl,rfl,rfl,trivial⟩ (fun _=>Wd.pick [] [] rfl rfl rfl)
   ·
    refine R.dM rfl mixed (by kernel_rfl)<|Q.u 2 rfl<|Q.q (q.idx (i:=k) (fun _=>Wd.old jB) rfl rfl cK rfl hx1) rfl<|Q.q (q.dD (ds:=aA x1) (fun _=>Wd.old jB) hx1 rfl aQ rfl) rfl<|Q.u 2 rfl<|Q.q (q.idx (i:=k) (fun _=>Wd.old kA) rfl rfl cK rfl hx2) rfl<|Q.q (q.dD (ds:=aA x2) (fun _=>Wd.old kA) hx2 rfl aQ rfl) rfl<|Q.q (q.nX (x:=x1) (y:=x2) pK rfl rfl h3) rfl<|Q.nil ?_
    refine R.aD rfl rfl ?_
    refine R.reg rfl<|R.u 1 rfl<|R.nil ?_
    exact R.rv rfl Tryz.results52 rfl (rB (by (first|exact ej ‹_› | exact dN ‹_› ‹_› HA|exact eo hx1 hx2 ‹_›)))
  ·
   refine R.q (q.lss rfl rfl (decide_eq_false (by omega))) rfl<|R.nil ?_
   refine R.aI rfl rfl ?_
   refine R.reg rfl<|R.u 1 rfl<|R.nil ?_
   exact R.rv rfl Tryz.results52 rfl (rB (by (first|exact ej ‹_› | exact dN ‹_› ‹_› HA|exact eo hx1 hx2 ‹_›)))
 ·
  refine R.q (q.neq rfl rfl (bne_iff_ne.2 (by omega))) rfl<|R.nil ?_
  refine R.aD rfl rfl ?_
  refine R.reg rfl<|R.u 1 rfl<|R.nil ?_
  exact R.rv rfl Tryz.results52 rfl (rB (by (first|exact ej ‹_› | exact dN ‹_› ‹_› HA|exact eo hx1 hx2 ‹_›)))
theorem gX (lS:Value)(a:List Held)(lT:Value)(b:List Held)(w:World)(jB:Sl w lS a)(kA:Sl w lT b):Calls Tryz.prog 53 #[lS,lT] w fun e w'=>e = .returned (.bool (decide (a=b)))∧Ext w w':=by
 have C2:=jB.dH
 have C4:=kA.dH
 refine R.enter (n:=26) (vs:=[lS,lT]) [] [(0,lS),(1,lT)] Tryz.func53 rfl rfl rfl rfl ?_
 refine R.reg rfl<|R.u 1 rfl<|R.nil ?_
 refine R.reg rfl<|R.u 1 rfl<|R.q (q.len' (fun _=>Wd.old jB) rfl Tryz.underlying29) rfl<|R.u 1 rfl<|R.q (q.len' (fun _=>Wd.old kA) rfl Tryz.underlying29) rfl<|?_
 by_cases h1:a.length=b.length
 ·
  refine R.q (q.neq rfl rfl (bne_eq_false_iff_eq.2 (by omega))) rfl<|R.nil ?_
  refine R.aI rfl rfl ?_
  refine R.reg rfl<|R.u 1 rfl<|R.nil ?_
  refine R.loop (fun k:Nat=>[(0,lS),(1,lT),(5,iV (k:Int))]) (fun k:Nat=>[]) (fun k:Nat=>[]) (fun k:Nat=>k≤a.length ∧ ∀j,j<k→a[j]? = b[j]?) (fun k:Nat=>a.length-k) 0 rfl (by exact ⟨by omega,fun j hj=>absurd hj (Nat.not_lt_zero _)⟩) ⟨rfl,rfl,rfl,trivial⟩ (fun _=>Wd.pick [] [] rfl rfl rfl) ?_
  rintro k ⟨hk,HA⟩
  refine R.reg rfl<|R.u 2 rfl<|R.q (q.len' (fun _=>Wd.old jB) rfl Tryz.underlying29) rfl<|?_
  by_cases h2:k<a.length
  ·
   refine R.q (q.lss rfl rfl (decide_eq_true (by omega))) rfl<|R.nil ?_
   refine R.aD rfl rfl ?_
   obtain ⟨x1,hx1⟩:∃z,a[k]? = some z:=⟨_,List.getElem?_eq_getElem (by omega)⟩
   obtain ⟨x2,hx2⟩:∃z,b[k]? = some z:=⟨_,List.getElem?_eq_getElem (by omega)⟩
   by_cases h3:x1=x2
   ·
    refine R.dM rfl mixed (by kernel_rfl)<|Q.u 2 rfl<|Q.q (q.idx (i:=k) (fun _=>Wd.old jB) rfl rfl bD rfl hx1) rfl<|Q.q (q.dD (ds:=eL x1) (fun _=>Wd.old jB) hx1 rfl eB rfl) rfl<|Q.u 2 rfl<|Q.q (q.idx (i:=k) (fun _=>Wd.old kA) rfl rfl bD rfl hx2) rfl<|Q.q (q.dD (ds:=eL x2) (fun _=>Wd.old kA) hx2 rfl eB rfl) rfl<|Q.q (q.nW (x:=x1) (y:=x2) zo rfl rfl h3) rfl<|Q.nil ?_
    refine R.aI rfl rfl ?_
    refine R.reg rfl<|R.u 1 rfl<|R.q (q.add (r:=((k+1:Nat):Int)) rfl rfl (wr (by omega))) rfl<|R.u 1 rfl<|R.nil ?_
    refine R.back (k+1) rfl (by (exact ⟨by omega,gC HA hx1 hx2 ‹_›⟩)) (by omega) ⟨rfl,rfl,rfl,trivial⟩ (fun _=>Wd.pick [] [] rfl rfl rfl)
   ·
    refine R.dM rfl mixed (by kernel_rfl)<|Q.u 2 rfl<|Q.q (q.idx (i:=k) (fun _=>Wd.old jB) rfl rfl bD rfl hx1) rfl<|Q.q (q.dD (ds:=eL x1) (fun _=>Wd.old jB) hx1 rfl eB rfl) rfl<|Q.u 2 rfl<|Q.q (q.idx (i:=k) (fun _=>Wd.old kA) rfl rfl bD rfl hx2) rfl<|Q.q (q.dD (ds:=eL x2) (fun _=>Wd.old kA) hx2 rfl eB rfl) rfl<|Q.q (q.nX (x:=x1) (y:=x2) zo rfl rfl h3) rfl<|Q.nil ?_
    refine R.aD rfl rfl ?_
    refine R.reg rfl<|R.u 1 rfl<|R.nil ?_
    exact R.rv rfl Tryz.results53 rfl (rB (by (first|exact ej ‹_› | exact dN ‹_› ‹_› HA|exact eo hx1 hx2 ‹_›)))
  ·
   refine R.q (q.lss rfl rfl (decide_eq_false (by omega))) rfl<|R.nil ?_
   refine R.aI rfl rfl ?_
   refine R.reg rfl<|R.u 1 rfl<|R.nil ?_
   exact R.rv rfl Tryz.results53 rfl (rB (by (first|exact ej ‹_› | exact dN ‹_› ‹_› HA|exact eo hx1 hx2 ‹_›)))
 ·
  refine R.q (q.neq rfl rfl (bne_iff_ne.2 (by omega))) rfl<|R.nil ?_
  refine R.aD rfl rfl ?_
  refine R.reg rfl<|R.u 1 rfl<|R.nil ?_
  exact R.rv rfl Tryz.results53 rfl (rB (by (first|exact ej ‹_› | exact dN ‹_› ‹_› HA|exact eo hx1 hx2 ‹_›)))
theorem nu (lS:Value)(a:List Change)(lT:Value)(b:List Change)(w:World)(jB:Sl w lS a)(kA:Sl w lT b):Calls Tryz.prog 14 #[lS,lT] w fun e w'=>e = .returned (.bool (decide (a=b)))∧Ext w w':=by
 have C2:=jB.dH
 have C4:=kA.dH
 refine R.enter (n:=26) (vs:=[lS,lT]) [] [(0,lS),(1,lT)] Tryz.func14 rfl rfl rfl rfl ?_
 refine R.reg rfl<|R.u 1 rfl<|R.nil ?_
 refine R.reg rfl<|R.u 1 rfl<|R.q (q.len' (fun _=>Wd.old jB) rfl Tryz.underlying23) rfl<|R.u 1 rfl<|R.q (q.len' (fun _=>Wd.old kA) rfl Tryz.underlying23) rfl<|?_
 by_cases h1:a.length=b.length
 ·
  refine R.q (q.neq rfl rfl (bne_eq_false_iff_eq.2 (by omega))) rfl<|R.nil ?_
  refine R.aI rfl rfl ?_
  refine R.reg rfl<|R.u 1 rfl<|R.nil ?_
  refine R.loop (fun k:Nat=>[(0,lS),(1,lT),(5,iV (k:Int))]) (fun k:Nat=>[]) (fun k:Nat=>[]) (fun k:Nat=>k≤a.length ∧ ∀j,j<k→a[j]? = b[j]?) (fun k:Nat=>a.length-k) 0 rfl (by exact ⟨by omega,fun j hj=>absurd hj (Nat.not_lt_zero _)⟩) ⟨rfl,rfl,rfl,trivial⟩ (fun _=>Wd.pick [] [] rfl rfl rfl) ?_
  rintro k ⟨hk,HA⟩
  refine R.reg rfl<|R.u 2 rfl<|R.q (q.len' (fun _=>Wd.old jB) rfl Tryz.underlying23) rfl<|?_
  by_cases h2:k<a.length
  ·
   refine R.q (q.lss rfl rfl (decide_eq_true (by omega))) rfl<|R.nil ?_
   refine R.aD rfl rfl ?_
   obtain ⟨x1,hx1⟩:∃z,a[k]? = some z:=⟨_,List.getElem?_eq_getElem (by omega)⟩
   obtain ⟨x2,hx2⟩:∃z,b[k]? = some z:=⟨_,List.getElem?_eq_getElem (by omega)⟩
   by_cases h3:x1=x2
   ·
    refine R.dM rfl mixed (by kernel_rfl)<|Q.u 2 rfl<|Q.q (q.idx (i:=k) (fun _=>Wd.old jB) rfl rfl bX rfl hx1) rfl<|Q.q (q.dD (ds:=bT x1) (fun _=>Wd.old jB) hx1 rfl eA rfl) rfl<|Q.u 2 rfl<|Q.q (q.idx (i:=k) (fun _=>Wd.old kA) rfl rfl bX rfl hx2) rfl<|Q.q (q.dD (ds:=bT x2) (fun _=>Wd.old kA) hx2 rfl eA rfl) rfl<|Q.q (q.nW (x:=x1) (y:=x2) zp rfl rfl h3) rfl<|Q.nil ?_
    refine R.aI rfl rfl ?_
    refine R.reg rfl<|R.u 1 rfl<|R.q (q.add (r:=((k+1:Nat):Int)) rfl rfl (wr (by omega))) rfl<|R.u 1 rfl<|R.nil ?_
    refine R.back (k+1) rfl (by (exact ⟨by omega,gC HA hx1 hx2 ‹_›⟩)) (by omega) ⟨rfl,rfl,rfl,trivial⟩ (fun _=>Wd.pick [] [] rfl rfl rfl)
   ·
    refine R.dM rfl mixed (by kernel_rfl)<|Q.u 2 rfl<|Q.q (q.idx (i:=k) (fun _=>Wd.old jB) rfl rfl bX rfl hx1) rfl<|Q.q (q.dD (ds:=bT x1) (fun _=>Wd.old jB) hx1 rfl eA rfl) rfl<|Q.u 2 rfl<|Q.q (q.idx (i:=k) (fun _=>Wd.old kA) rfl rfl bX rfl hx2) rfl<|Q.q (q.dD (ds:=bT x2) (fun _=>Wd.old kA) hx2 rfl eA rfl) rfl<|Q.q (q.nX (x:=x1) (y:=x2) zp rfl rfl h3) rfl<|Q.nil ?_
    refine R.aD rfl rfl ?_
    refine R.reg rfl<|R.u 1 rfl<|R.nil ?_
    exact R.rv rfl Tryz.results14 rfl (rB (by (first|exact ej ‹_› | exact dN ‹_› ‹_› HA|exact eo hx1 hx2 ‹_›)))
  ·
   refine R.q (q.lss rfl rfl (decide_eq_false (by omega))) rfl<|R.nil ?_
   refine R.aI rfl rfl ?_
   refine R.reg rfl<|R.u 1 rfl<|R.nil ?_
   exact R.rv rfl Tryz.results14 rfl (rB (by (first|exact ej ‹_› | exact dN ‹_› ‹_› HA|exact eo hx1 hx2 ‹_›)))
 ·
  refine R.q (q.neq rfl rfl (bne_iff_ne.2 (by omega))) rfl<|R.nil ?_
  refine R.aD rfl rfl ?_
  refine R.reg rfl<|R.u 1 rfl<|R.nil ?_
  exact R.rv rfl Tryz.results14 rfl (rB (by (first|exact ej ‹_› | exact dN ‹_› ‹_› HA|exact eo hx1 hx2 ‹_›)))
end Go.Proofs.YtbkfhjaibhnkmaaGreatDoor
