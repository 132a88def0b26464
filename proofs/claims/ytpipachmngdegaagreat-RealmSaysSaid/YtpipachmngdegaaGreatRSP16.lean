import Derived.Test.YtpipachmngdegaaGreatRSP14
section
namespace Go.Proofs.YtpipachmngdegaaGreat
open Go Go.RowKit
set_option linter.unusedVariables false
theorem j1 (sT:Value)(a:List ao)(sU:Value)(b:List ao)(w:World)(pT:Sl w sT a)(rN:Sl w sU b):Calls Tryz.prog 38 #[sT,sU] w fun e w'=>e = .returned (.bool (decide (a=b)))∧Ext w w':=by
  have zh:=pT.dI
  have zi:=rN.dI
  refine R.enter (n:=26) (vs:=[sT,sU]) [] [(0,sT),(1,sU)] Tryz.func38 rfl rfl rfl rfl ?_
  refine R.reg rfl<|R.u 1 rfl<|R.nil ?_
  refine R.reg rfl<|R.u 1 rfl<|R.q (q.len' (fun _=>Wd.old pT) rfl Tryz.underlying25) rfl<|R.u 1 rfl<|R.q (q.len' (fun _=>Wd.old rN) rfl Tryz.underlying25) rfl<|?_
  by_cases h1:a.length=b.length
  ·
    refine R.q (q.neq rfl rfl (bne_eq_false_iff_eq.2 (by omega))) rfl<|R.nil ?_
    refine R.aH rfl rfl ?_
    refine R.reg rfl<|R.u 1 rfl<|R.nil ?_
    refine R.loop (fun k:Nat=>[(0,sT),(1,sU),(5,.int .i64 (k:Int))]) (fun k:Nat=>[]) (fun k:Nat=>[]) (fun k:Nat=>k≤a.length ∧ ∀j,j<k→a[j]? = b[j]?) (fun k:Nat=>a.length-k) 0 rfl (by exact ⟨by omega,fun j hj=>absurd hj (Nat.not_lt_zero _)⟩) ⟨rfl,rfl,rfl,trivial⟩ (fun _=>Wd.pick [] [] rfl rfl rfl) ?_
    rintro k ⟨hk,HA⟩
    refine R.reg rfl<|R.u 2 rfl<|R.q (q.len' (fun _=>Wd.old pT) rfl Tryz.underlying25) rfl<|?_
    by_cases h2:k<a.length
    ·
      refine R.q (q.lss rfl rfl (decide_eq_true (by omega))) rfl<|R.nil ?_
      refine R.aI rfl rfl ?_
      obtain ⟨x1,hx1⟩:∃z,a[k]? = some z:=⟨_,List.getElem?_eq_getElem (by omega)⟩
      obtain ⟨x2,hx2⟩:∃z,b[k]? = some z:=⟨_,List.getElem?_eq_getElem (by omega)⟩
      by_cases h3:x1=x2
      ·
        refine R.gq rfl mixed (by kernel_rfl)<|Q.u 2 rfl<|Q.q (q.idx (i:=k) (fun _=>Wd.old pT) rfl rfl cG rfl hx1) rfl<|Q.q (q.dx (ds:=[.int .i64 x1.ID,.int .i64 x1.ai,.int .i64 x1.Rights,.int .i64 x1.ar,.int .i64 x1.From]) (fun _=>Wd.old pT) hx1 rfl aK rfl) rfl<|Q.u 2 rfl<|Q.q (q.idx (i:=k) (fun _=>Wd.old rN) rfl rfl cG rfl hx2) rfl<|Q.q (q.dx (ds:=[.int .i64 x2.ID,.int .i64 x2.ai,.int .i64 x2.Rights,.int .i64 x2.ar,.int .i64 x2.From]) (fun _=>Wd.old rN) hx2 rfl aK rfl) rfl<|Q.q (q.gC (x:=x1) (y:=x2) sN rfl rfl h3) rfl<|Q.nil ?_
        refine R.aH rfl rfl ?_
        refine R.reg rfl<|R.u 1 rfl<|R.q (q.add (r:=((k+1:Nat):Int)) rfl rfl (wr (by omega))) rfl<|R.u 1 rfl<|R.nil ?_
        refine R.back (k+1) rfl (by (exact ⟨by omega,jK HA hx1 hx2 (by assumption)⟩)) (by omega) ⟨rfl,rfl,rfl,trivial⟩ (fun _=>Wd.pick [] [] rfl rfl rfl)
      ·
        refine R.gq rfl mixed (by kernel_rfl)<|Q.u 2 rfl<|Q.q (q.idx (i:=k) (fun _=>Wd.old pT) rfl rfl cG rfl hx1) rfl<|Q.q (q.dx (ds:=[.int .i64 x1.ID,.int .i64 x1.ai,.int .i64 x1.Rights,.int .i64 x1.ar,.int .i64 x1.From]) (fun _=>Wd.old pT) hx1 rfl aK rfl) rfl<|Q.u 2 rfl<|Q.q (q.idx (i:=k) (fun _=>Wd.old rN) rfl rfl cG rfl hx2) rfl<|Q.q (q.dx (ds:=[.int .i64 x2.ID,.int .i64 x2.ai,.int .i64 x2.Rights,.int .i64 x2.ar,.int .i64 x2.From]) (fun _=>Wd.old rN) hx2 rfl aK rfl) rfl<|Q.q (q.gZ (x:=x1) (y:=x2) sN rfl rfl h3) rfl<|Q.nil ?_
        refine R.aI rfl rfl ?_
        refine R.reg rfl<|R.u 1 rfl<|R.nil ?_
        exact R.rv rfl Tryz.results38 rfl (rB (by (first|exact iJ (by assumption)|exact gi (by assumption) (by assumption) HA|exact iK hx1 hx2 (by assumption))))
    ·
      refine R.q (q.lss rfl rfl (decide_eq_false (by omega))) rfl<|R.nil ?_
      refine R.aH rfl rfl ?_
      refine R.reg rfl<|R.u 1 rfl<|R.nil ?_
      exact R.rv rfl Tryz.results38 rfl (rB (by (first|exact iJ (by assumption)|exact gi (by assumption) (by assumption) HA|exact iK hx1 hx2 (by assumption))))
  ·
    refine R.q (q.neq rfl rfl (bne_iff_ne.2 (by omega))) rfl<|R.nil ?_
    refine R.aI rfl rfl ?_
    refine R.reg rfl<|R.u 1 rfl<|R.nil ?_
    exact R.rv rfl Tryz.results38 rfl (rB (by (first|exact iJ (by assumption)|exact gi (by assumption) (by assumption) HA|exact iK hx1 hx2 (by assumption))))
theorem gF (sT:Value)(a:List Held)(sU:Value)(b:List Held)(w:World)(pT:Sl w sT a)(rN:Sl w sU b):Calls Tryz.prog 39 #[sT,sU] w fun e w'=>e = .returned (.bool (decide (a=b)))∧Ext w w':=by
  have zh:=pT.dI
  have zi:=rN.dI
  refine R.enter (n:=26) (vs:=[sT,sU]) [] [(0,sT),(1,sU)] Tryz.func39 rfl rfl rfl rfl ?_
  refine R.reg rfl<|R.u 1 rfl<|R.nil ?_
  refine R.reg rfl<|R.u 1 rfl<|R.q (q.len' (fun _=>Wd.old pT) rfl Tryz.underlying27) rfl<|R.u 1 rfl<|R.q (q.len' (fun _=>Wd.old rN) rfl Tryz.underlying27) rfl<|?_
  by_cases h1:a.length=b.length
  ·
    refine R.q (q.neq rfl rfl (bne_eq_false_iff_eq.2 (by omega))) rfl<|R.nil ?_
    refine R.aH rfl rfl ?_
    refine R.reg rfl<|R.u 1 rfl<|R.nil ?_
    refine R.loop (fun k:Nat=>[(0,sT),(1,sU),(5,.int .i64 (k:Int))]) (fun k:Nat=>[]) (fun k:Nat=>[]) (fun k:Nat=>k≤a.length ∧ ∀j,j<k→a[j]? = b[j]?) (fun k:Nat=>a.length-k) 0 rfl (by exact ⟨by omega,fun j hj=>absurd hj (Nat.not_lt_zero _)⟩) ⟨rfl,rfl,rfl,trivial⟩ (fun _=>Wd.pick [] [] rfl rfl rfl) ?_
    rintro k ⟨hk,HA⟩
    refine R.reg rfl<|R.u 2 rfl<|R.q (q.len' (fun _=>Wd.old pT) rfl Tryz.underlying27) rfl<|?_
    by_cases h2:k<a.length
    ·
      refine R.q (q.lss rfl rfl (decide_eq_true (by omega))) rfl<|R.nil ?_
      refine R.aI rfl rfl ?_
      obtain ⟨x1,hx1⟩:∃z,a[k]? = some z:=⟨_,List.getElem?_eq_getElem (by omega)⟩
      obtain ⟨x2,hx2⟩:∃z,b[k]? = some z:=⟨_,List.getElem?_eq_getElem (by omega)⟩
      by_cases h3:x1=x2
      ·
        refine R.gq rfl mixed (by kernel_rfl)<|Q.u 2 rfl<|Q.q (q.idx (i:=k) (fun _=>Wd.old pT) rfl rfl bj rfl hx1) rfl<|Q.q (q.dx (ds:=[.int .i64 x1.Place.ag,.int .i64 x1.Place.Slot,.int .i64 x1.ao]) (fun _=>Wd.old pT) hx1 rfl dh rfl) rfl<|Q.u 2 rfl<|Q.q (q.idx (i:=k) (fun _=>Wd.old rN) rfl rfl bj rfl hx2) rfl<|Q.q (q.dx (ds:=[.int .i64 x2.Place.ag,.int .i64 x2.Place.Slot,.int .i64 x2.ao]) (fun _=>Wd.old rN) hx2 rfl dh rfl) rfl<|Q.q (q.gC (x:=x1) (y:=x2) uU rfl rfl h3) rfl<|Q.nil ?_
        refine R.aH rfl rfl ?_
        refine R.reg rfl<|R.u 1 rfl<|R.q (q.add (r:=((k+1:Nat):Int)) rfl rfl (wr (by omega))) rfl<|R.u 1 rfl<|R.nil ?_
        refine R.back (k+1) rfl (by (exact ⟨by omega,jK HA hx1 hx2 (by assumption)⟩)) (by omega) ⟨rfl,rfl,rfl,trivial⟩ (fun _=>Wd.pick [] [] rfl rfl rfl)
      ·
        refine R.gq rfl mixed (by kernel_rfl)<|Q.u 2 rfl<|Q.q (q.idx (i:=k) (fun _=>Wd.old pT) rfl rfl bj rfl hx1) rfl<|Q.q (q.dx (ds:=[.int .i64 x1.Place.ag,.int .i64 x1.Place.Slot,.int .i64 x1.ao]) (fun _=>Wd.old pT) hx1 rfl dh rfl) rfl<|Q.u 2 rfl<|Q.q (q.idx (i:=k) (fun _=>Wd.old rN) rfl rfl bj rfl hx2) rfl<|Q.q (q.dx (ds:=[.int .i64 x2.Place.ag,.int .i64 x2.Place.Slot,.int .i64 x2.ao]) (fun _=>Wd.old rN) hx2 rfl dh rfl) rfl<|Q.q (q.gZ (x:=x1) (y:=x2) uU rfl rfl h3) rfl<|Q.nil ?_
        refine R.aI rfl rfl ?_
        refine R.reg rfl<|R.u 1 rfl<|R.nil ?_
        exact R.rv rfl Tryz.results39 rfl (rB (by (first|exact iJ (by assumption)|exact gi (by assumption) (by assumption) HA|exact iK hx1 hx2 (by assumption))))
    ·
      refine R.q (q.lss rfl rfl (decide_eq_false (by omega))) rfl<|R.nil ?_
      refine R.aH rfl rfl ?_
      refine R.reg rfl<|R.u 1 rfl<|R.nil ?_
      exact R.rv rfl Tryz.results39 rfl (rB (by (first|exact iJ (by assumption)|exact gi (by assumption) (by assumption) HA|exact iK hx1 hx2 (by assumption))))
  ·
    refine R.q (q.neq rfl rfl (bne_iff_ne.2 (by omega))) rfl<|R.nil ?_
    refine R.aI rfl rfl ?_
    refine R.reg rfl<|R.u 1 rfl<|R.nil ?_
    exact R.rv rfl Tryz.results39 rfl (rB (by (first|exact iJ (by assumption)|exact gi (by assumption) (by assumption) HA|exact iK hx1 hx2 (by assumption))))
end Go.Proofs.YtpipachmngdegaaGreat
end
