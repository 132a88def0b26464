import Derived.Test.YtkbhcbipadkcaaaGreatDoorTO30
namespace Go.Proofs.YtkbhcbipadkcaaaGreatDoor
set_option linter.unusedVariables false
set_option linter.unusedSimpArgs false
open Go Go.RowKit
set_option maxRecDepth 100000
set_option maxHeartbeats 90000000
theorem H0 (bR bH bI bJ:Value)(r:aC)(p:Place)(kind:Int)(w:World)(own:List Nat)(H:HN w own [] [ag.ls bR r.ak,ag.ls bH r.Things,ag.ls bI r.Held,ag.ls bJ r.Notes])(hk:Ok r):RC Tryz.prog 56 #[.agg #[bR,bH,bI,bJ,iV r.ae,iV r.ah],.agg #[iV p.aB,iV p.Slot],iV kind] H (fun z:Value×Value×Value×Value => .tuple #[.agg #[z.1,z.2.1,z.2.2.1,z.2.2.2,iV (dU r p kind).1.ae,iV (dU r p kind).1.ah],df (dU r p kind).2]) (fun _=>[]) (fun z=>[ag.ls z.1 (dU r p kind).1.ak,ag.ls z.2.1 (dU r p kind).1.Things,ag.ls z.2.2.1 (dU r p kind).1.Held,ag.ls z.2.2.2 (dU r p kind).1.Notes]):=by
 have eJ:=H.cq 0 rfl
 have dM:=H.cq 1 rfl
 have fG:=H.cq 2 rfl
 have eK:=H.cq 3 rfl
 have bw:=hk.wl;have bt:=hk.tl;have bh:=hk.hl;have bn:=hk.nl;have KM:=hk.w0;have KN:=hk.w1;have KO:=hk.t0;have KP:=hk.t1
 refine R.bC [(0,.agg #[bR,bH,bI,bJ,iV r.ae,iV r.ah]),(1,.agg #[iV p.aB,iV p.Slot]),(2,iV kind)] Tryz.func56 O O O O H<|R.reg O<|R.s O (s.box O O O) fun b1=>?_
 refine R.s O (s.box O O O) fun b2=>?_
 refine R.s O (s.alloc dP O O) fun b3=>?_
 refine R.u 1 O<|R.nil<|R.reg O<|R.u 1 O<|?_
 by_cases h1:kind=1
 .
  refine R.q (q.lK O O) O<|R.u 4 O<|R.nil<|R.aA O O<|R.reg O<|R.q (q.dt 2 O O ao) O<|R.q (q.dt 1 O O bM) O<|R.c (q.call Az O O (fun w hw=>(qW _ _ _ _ r p w (hw.bP 0 O) (hw.bP 1 O) (hw.bP 2 O) (hw.bP 3 O) ‹_›))) O<|R.u 1 O<|R.nil ?_
  refine R.reg O<|R.u 1 O<|?_
  by_cases h2:gL r p=0
  .
   refine R.q (q.dB O O Tryz.underlying38) O<|R.nil<|R.aA O O<|R.reg O<|R.q (q.aO O cy O) O<|R.q (q.ld 2 O O dC O) O<|R.q (q.len' (dw 1 O) O Tryz.underlying44) O<|?_
   by_cases h3:r.Things.length=10
   .
    refine R.q (q.fN O O) O<|R.u 10 O<|R.nil<|R.av O O<|R.reg O<|R.q (q.build dZ O O) O<|R.q (q.iface O bj) O<|R.s O (s.st 0 _ O O O O (.inl ao) O O O O) fun _=>?_
    refine R.u 1 O<|R.nil<|R.mp (fun _ hw=>hw.a8 (α:=aj))<|R.mp (fun _ hw=>hw.a8 (α:=aE))<|R.mp (fun _ hw=>hw.a8 (α:=Held))<|R.mp (fun _ hw=>hw.a8 (α:=Note)) ?_
    have hz:dU r p kind=((⟨[],[],[],[],0,0⟩:aC),9):=by (unfold dU;(repeat' split) <;> first|rfl|(exfalso;omega)|(simp_all;done))
    rw [hz]
    exact R.w2 ((nS),(nS),(nS),(nS)) [3] gj O Tryz.results56 (RV.cell 0 O O ao) (RV.tmp O) O O O (dy O (dj (by decide) O))
   refine R.q (q.e8 O O) O<|R.u 1 O<|R.qg O (q.aO O dO O) O<|R.qg O (q.ld 2 O O au O) O<|?_
   by_cases h4:999<r.ah
   .
    refine R.qg O (q.eL O O) O<|R.u 6 O<|R.nil<|R.av O O<|R.reg O<|R.q (q.build dZ O O) O<|R.q (q.iface O bj) O<|R.s O (s.st 0 _ O O O O (.inl ao) O O O O) fun _=>?_
    refine R.u 1 O<|R.nil<|R.mp (fun _ hw=>hw.a8 (α:=aj))<|R.mp (fun _ hw=>hw.a8 (α:=aE))<|R.mp (fun _ hw=>hw.a8 (α:=Held))<|R.mp (fun _ hw=>hw.a8 (α:=Note)) ?_
    have hz:dU r p kind=((⟨[],[],[],[],0,0⟩:aC),9):=by (unfold dU;(repeat' split) <;> first|rfl|(exfalso;omega)|(simp_all;done))
    rw [hz]
    exact R.w2 ((nS),(nS),(nS),(nS)) [3] gj O Tryz.results56 (RV.cell 0 O O ao) (RV.tmp O) O O O (dy O (dj (by decide) O))
   refine R.qg O (q.eo O O) O<|R.u 2 O<|R.qg O (q.aO O cJ O) O<|R.qg O (q.ld 2 O O au O) O<|?_
   by_cases h5:999<r.ae
   .
    refine R.qg O (q.eL O O) O<|R.u 1 O<|R.nil<|R.av O O<|R.reg O<|R.q (q.build dZ O O) O<|R.q (q.iface O bj) O<|R.s O (s.st 0 _ O O O O (.inl ao) O O O O) fun _=>?_
    refine R.u 1 O<|R.nil<|R.mp (fun _ hw=>hw.a8 (α:=aj))<|R.mp (fun _ hw=>hw.a8 (α:=aE))<|R.mp (fun _ hw=>hw.a8 (α:=Held))<|R.mp (fun _ hw=>hw.a8 (α:=Note)) ?_
    have hz:dU r p kind=((⟨[],[],[],[],0,0⟩:aC),9):=by (unfold dU;(repeat' split) <;> first|rfl|(exfalso;omega)|(simp_all;done))
    rw [hz]
    exact R.w2 ((nS),(nS),(nS),(nS)) [3] gj O Tryz.results56 (RV.cell 0 O O ao) (RV.tmp O) O O O (dy O (dj (by decide) O))
   refine R.qg O (q.eo O O) O<|R.u 1 O<|R.nil<|R.aA O O<|R.reg O<|R.q (q.aO O dO O) O<|R.q (q.ld 2 O O au O) O<|R.u 1 O<|R.nil<|R.reg O<|R.q (q.aO O cy O) O<|R.q (q.ld 2 O O dC O) O<|R.s O (s.aW bL [1] _ _ _ O O O wt O O (fun w own hw H=>jm bH r.Things w own H (by omega)) O) fun z1=>?_
   refine R.u 2 O<|R.q (q.build Ev O O) O<|R.s O (s.bs (l:=([(⟨r.ah,kind,⟨#[]⟩⟩:aE)]:List aE)) iM ju O O O O O O O) fun b4=>?_
   refine R.s O (s.app 1 _ O O O (bB 0 O) sQ (by (simp;omega)) (by (simp;omega)) (fun _=>rfl) O) fun v1=>?_
   refine R.q (q.aO O cy O) O<|R.s O (s.fX 4 _ O O O (fun w hw=>Sl.cm (hw.row 1 O)) (.inr ⟨dC,rfl⟩) (fun w hw=>(af (Sl.one (hw.row 1 O)) aP)) O O O) fun _=>?_
   refine R.nil<|R.reg O<|R.q (q.aO O dO O) O<|R.q (q.ld 4 O O au O) O<|R.q (q.bA (r:=r.ah+1) O O) O<|R.q (q.aO O dO O) O<|R.s O (s.st 4 _ O O O O (.inr ⟨au,rfl⟩) O O O O) fun _=>?_
   refine R.nil<|R.reg O<|R.q (q.dt 4 O O ao) O<|R.q (q.aO O cJ O) O<|R.q (q.ld 4 O O au O) O<|R.u 1 O<|R.q (q.build iY O O) O<|R.q (q.dt 3 O O bM) O<|R.s O (s.pre (fun _ hw=>hw.cW 1 _ O O) (s.aW gX [1,0,3,4] _ _ _ O O O wu O O (fun w own hw H=>qq bR v1 bI bJ (⟨r.ak,(r.Things++([(⟨r.ah,kind,⟨#[]⟩⟩:aE)])),r.Held,r.Notes,r.ae,(r.ah+1)⟩:aC) (⟨r.ae,r.ah,7,0,0⟩:aj) p w own H (by (dsimp only;omega))) O)) ?_
   rintro ⟨z2,z3,z4,z5⟩
   dsimp only
   refine R.s O (s.fX 1 _ O O O (fun _ _=>rfl) (.inl ao) (fun w hw=>(af (Sl.one (hw.bP 0 O)) (af (Sl.one (hw.bP 1 O)) (af (Sl.one (hw.bP 2 O)) (af (Sl.one (hw.bP 3 O)) (af O (af O aP))))))) O O O) fun _=>?_
   refine R.u 1 O<|R.nil ?_
   have hz:dU r p kind=((fx (⟨r.ak,(r.Things++([(⟨r.ah,kind,⟨#[]⟩⟩:aE)])),r.Held,r.Notes,r.ae,(r.ah+1)⟩:aC) (⟨r.ae,r.ah,7,0,0⟩:aj) p),0):=by (unfold dU;(repeat' split) <;> first|rfl|(exfalso;omega)|(simp_all;done))
   rw [hz]
   exact R.w2 (z2,z3,z4,z5) [4] bL O Tryz.results56 (RV.cell 1 O O ao) (RV.tmp O) O O O (dy O (iK O))
  refine R.q (q.ej O O Tryz.underlying38) O<|R.nil<|R.av O O<|R.reg O<|R.q (q.build dZ O O) O<|R.u 1 O<|R.s O (s.st 0 _ O O O O (.inl ao) O O O O) fun _=>?_
  refine R.u 1 O<|R.nil<|R.mp (fun _ hw=>hw.a8 (α:=aj))<|R.mp (fun _ hw=>hw.a8 (α:=aE))<|R.mp (fun _ hw=>hw.a8 (α:=Held))<|R.mp (fun _ hw=>hw.a8 (α:=Note)) ?_
  have hz:dU r p kind=((⟨[],[],[],[],0,0⟩:aC),gL r p):=by (unfold dU;(repeat' split) <;> first|rfl|(exfalso;omega)|(simp_all;done))
  rw [hz]
  exact R.w2 ((nS),(nS),(nS),(nS)) [3] gj O Tryz.results56 (RV.cell 0 O O ao) (RV.tmp O) O O O (dy O O)
 refine R.q (q.lJ O O) O<|R.u 2 O<|?_
 by_cases h6:kind=2
 .
  refine R.qg O (q.lK O O) O<|R.u 1 O<|R.nil<|R.aA O O<|R.reg O<|R.q (q.dt 2 O O ao) O<|R.q (q.dt 1 O O bM) O<|R.c (q.call Az O O (fun w hw=>(qW _ _ _ _ r p w (hw.bP 0 O) (hw.bP 1 O) (hw.bP 2 O) (hw.bP 3 O) ‹_›))) O<|R.u 1 O<|R.nil ?_
  refine R.reg O<|R.u 1 O<|?_
  by_cases h7:gL r p=0
  .
   refine R.q (q.dB O O Tryz.underlying38) O<|R.nil<|R.aA O O<|R.reg O<|R.q (q.aO O cy O) O<|R.q (q.ld 2 O O dC O) O<|R.q (q.len' (dw 1 O) O Tryz.underlying44) O<|?_
   by_cases h8:r.Things.length=10
   .
    refine R.q (q.fN O O) O<|R.u 10 O<|R.nil<|R.av O O<|R.reg O<|R.q (q.build dZ O O) O<|R.q (q.iface O bj) O<|R.s O (s.st 0 _ O O O O (.inl ao) O O O O) fun _=>?_
    refine R.u 1 O<|R.nil<|R.mp (fun _ hw=>hw.a8 (α:=aj))<|R.mp (fun _ hw=>hw.a8 (α:=aE))<|R.mp (fun _ hw=>hw.a8 (α:=Held))<|R.mp (fun _ hw=>hw.a8 (α:=Note)) ?_
    have hz:dU r p kind=((⟨[],[],[],[],0,0⟩:aC),9):=by (unfold dU;(repeat' split) <;> first|rfl|(exfalso;omega)|(simp_all;done))
    rw [hz]
    exact R.w2 ((nS),(nS),(nS),(nS)) [3] gj O Tryz.results56 (RV.cell 0 O O ao) (RV.tmp O) O O O (dy O (dj (by decide) O))
   refine R.q (q.e8 O O) O<|R.u 1 O<|R.qg O (q.aO O dO O) O<|R.qg O (q.ld 2 O O au O) O<|?_
   by_cases h9:999<r.ah
   .
    refine R.qg O (q.eL O O) O<|R.u 6 O<|R.nil<|R.av O O<|R.reg O<|R.q (q.build dZ O O) O<|R.q (q.iface O bj) O<|R.s O (s.st 0 _ O O O O (.inl ao) O O O O) fun _=>?_
    refine R.u 1 O<|R.nil<|R.mp (fun _ hw=>hw.a8 (α:=aj))<|R.mp (fun _ hw=>hw.a8 (α:=aE))<|R.mp (fun _ hw=>hw.a8 (α:=Held))<|R.mp (fun _ hw=>hw.a8 (α:=Note)) ?_
    have hz:dU r p kind=((⟨[],[],[],[],0,0⟩:aC),9):=by (unfold dU;(repeat' split) <;> first|rfl|(exfalso;omega)|(simp_all;done))
    rw [hz]
    exact R.w2 ((nS),(nS),(nS),(nS)) [3] gj O Tryz.results56 (RV.cell 0 O O ao) (RV.tmp O) O O O (dy O (dj (by decide) O))
   refine R.qg O (q.eo O O) O<|R.u 2 O<|R.qg O (q.aO O cJ O) O<|R.qg O (q.ld 2 O O au O) O<|?_
   by_cases h10:999<r.ae
   .
    refine R.qg O (q.eL O O) O<|R.u 1 O<|R.nil<|R.av O O<|R.reg O<|R.q (q.build dZ O O) O<|R.q (q.iface O bj) O<|R.s O (s.st 0 _ O O O O (.inl ao) O O O O) fun _=>?_
    refine R.u 1 O<|R.nil<|R.mp (fun _ hw=>hw.a8 (α:=aj))<|R.mp (fun _ hw=>hw.a8 (α:=aE))<|R.mp (fun _ hw=>hw.a8 (α:=Held))<|R.mp (fun _ hw=>hw.a8 (α:=Note)) ?_
    have hz:dU r p kind=((⟨[],[],[],[],0,0⟩:aC),9):=by (unfold dU;(repeat' split) <;> first|rfl|(exfalso;omega)|(simp_all;done))
    rw [hz]
    exact R.w2 ((nS),(nS),(nS),(nS)) [3] gj O Tryz.results56 (RV.cell 0 O O ao) (RV.tmp O) O O O (dy O (dj (by decide) O))
   refine R.qg O (q.eo O O) O<|R.u 1 O<|R.nil<|R.aA O O<|R.reg O<|R.q (q.aO O dO O) O<|R.q (q.ld 2 O O au O) O<|R.u 1 O<|R.nil<|R.reg O<|R.q (q.aO O cy O) O<|R.q (q.ld 2 O O dC O) O<|R.s O (s.aW bL [1] _ _ _ O O O wt O O (fun w own hw H=>jm bH r.Things w own H (by omega)) O) fun z6=>?_
   refine R.u 2 O<|R.q (q.build Ev O O) O<|R.s O (s.bs (l:=([(⟨r.ah,kind,⟨#[]⟩⟩:aE)]:List aE)) iM ju O O O O O O O) fun b5=>?_
   refine R.s O (s.app 1 _ O O O (bB 0 O) sQ (by (simp;omega)) (by (simp;omega)) (fun _=>rfl) O) fun v2=>?_
   refine R.q (q.aO O cy O) O<|R.s O (s.fX 4 _ O O O (fun w hw=>Sl.cm (hw.row 1 O)) (.inr ⟨dC,rfl⟩) (fun w hw=>(af (Sl.one (hw.row 1 O)) aP)) O O O) fun _=>?_
   refine R.nil<|R.reg O<|R.q (q.aO O dO O) O<|R.q (q.ld 4 O O au O) O<|R.q (q.bA (r:=r.ah+1) O O) O<|R.q (q.aO O dO O) O<|R.s O (s.st 4 _ O O O O (.inr ⟨au,rfl⟩) O O O O) fun _=>?_
   refine R.nil<|R.reg O<|R.q (q.dt 4 O O ao) O<|R.q (q.aO O cJ O) O<|R.q (q.ld 4 O O au O) O<|R.u 1 O<|R.q (q.build iY O O) O<|R.q (q.dt 3 O O bM) O<|R.s O (s.pre (fun _ hw=>hw.cW 1 _ O O) (s.aW gX [1,0,3,4] _ _ _ O O O wu O O (fun w own hw H=>qq bR v2 bI bJ (⟨r.ak,(r.Things++([(⟨r.ah,kind,⟨#[]⟩⟩:aE)])),r.Held,r.Notes,r.ae,(r.ah+1)⟩:aC) (⟨r.ae,r.ah,7,0,0⟩:aj) p w own H (by (dsimp only;omega))) O)) ?_
   rintro ⟨z7,z8,z9,lH⟩
   dsimp only
   refine R.s O (s.fX 1 _ O O O (fun _ _=>rfl) (.inl ao) (fun w hw=>(af (Sl.one (hw.bP 0 O)) (af (Sl.one (hw.bP 1 O)) (af (Sl.one (hw.bP 2 O)) (af (Sl.one (hw.bP 3 O)) (af O (af O aP))))))) O O O) fun _=>?_
   refine R.u 1 O<|R.nil ?_
   have hz:dU r p kind=((fx (⟨r.ak,(r.Things++([(⟨r.ah,kind,⟨#[]⟩⟩:aE)])),r.Held,r.Notes,r.ae,(r.ah+1)⟩:aC) (⟨r.ae,r.ah,7,0,0⟩:aj) p),0):=by (unfold dU;(repeat' split) <;> first|rfl|(exfalso;omega)|(simp_all;done))
   rw [hz]
   exact R.w2 (z7,z8,z9,lH) [4] bL O Tryz.results56 (RV.cell 1 O O ao) (RV.tmp O) O O O (dy O (iK O))
  refine R.q (q.ej O O Tryz.underlying38) O<|R.nil<|R.av O O<|R.reg O<|R.q (q.build dZ O O) O<|R.u 1 O<|R.s O (s.st 0 _ O O O O (.inl ao) O O O O) fun _=>?_
  refine R.u 1 O<|R.nil<|R.mp (fun _ hw=>hw.a8 (α:=aj))<|R.mp (fun _ hw=>hw.a8 (α:=aE))<|R.mp (fun _ hw=>hw.a8 (α:=Held))<|R.mp (fun _ hw=>hw.a8 (α:=Note)) ?_
  have hz:dU r p kind=((⟨[],[],[],[],0,0⟩:aC),gL r p):=by (unfold dU;(repeat' split) <;> first|rfl|(exfalso;omega)|(simp_all;done))
  rw [hz]
  exact R.w2 ((nS),(nS),(nS),(nS)) [3] gj O Tryz.results56 (RV.cell 0 O O ao) (RV.tmp O) O O O (dy O O)
 refine R.qg O (q.lJ O O) O<|R.u 1 O<|R.nil<|R.av O O<|R.reg O<|R.q (q.build dZ O O) O<|R.q (q.iface O bj) O<|R.s O (s.st 0 _ O O O O (.inl ao) O O O O) fun _=>?_
 refine R.u 1 O<|R.nil<|R.mp (fun _ hw=>hw.a8 (α:=aj))<|R.mp (fun _ hw=>hw.a8 (α:=aE))<|R.mp (fun _ hw=>hw.a8 (α:=Held))<|R.mp (fun _ hw=>hw.a8 (α:=Note)) ?_
 have hz:dU r p kind=((⟨[],[],[],[],0,0⟩:aC),8):=by (unfold dU;(repeat' split) <;> first|rfl|(exfalso;omega)|(simp_all;done))
 rw [hz]
 exact R.w2 ((nS),(nS),(nS),(nS)) [3] gj O Tryz.results56 (RV.cell 0 O O ao) (RV.tmp O) O O O (dy O (dj (by decide) O))
theorem H2 (bR bH bI bJ:Value)(r:aC)(p:Place)(t:Place)(rights:Int)(dL:Int)(w:World)(own:List Nat)(H:HN w own [] [ag.ls bR r.ak,ag.ls bH r.Things,ag.ls bI r.Held,ag.ls bJ r.Notes])(hk:Ok r):RC Tryz.prog 57 #[.agg #[bR,bH,bI,bJ,iV r.ae,iV r.ah],.agg #[iV p.aB,iV p.Slot],.agg #[iV t.aB,iV t.Slot],iV rights,iV dL] H (fun z:Value×Value×Value×Value => .tuple #[.agg #[z.1,z.2.1,z.2.2.1,z.2.2.2,iV (fk r p t rights dL).1.ae,iV (fk r p t rights dL).1.ah],df (fk r p t rights dL).2]) (fun _=>[]) (fun z=>[ag.ls z.1 (fk r p t rights dL).1.ak,ag.ls z.2.1 (fk r p t rights dL).1.Things,ag.ls z.2.2.1 (fk r p t rights dL).1.Held,ag.ls z.2.2.2 (fk r p t rights dL).1.Notes]):=by
 have eJ:=H.cq 0 rfl
 have dM:=H.cq 1 rfl
 have fG:=H.cq 2 rfl
 have eK:=H.cq 3 rfl
 have bw:=hk.wl;have bt:=hk.tl;have bh:=hk.hl;have bn:=hk.nl;have KM:=hk.w0;have KN:=hk.w1;have KO:=hk.t0;have KP:=hk.t1
 refine R.bC [(0,.agg #[bR,bH,bI,bJ,iV r.ae,iV r.ah]),(1,.agg #[iV p.aB,iV p.Slot]),(2,.agg #[iV t.aB,iV t.Slot]),(3,iV rights),(4,iV dL)] Tryz.func57 O O O O H<|R.reg O<|R.s O (s.box O O O) fun b1=>?_
 refine R.s O (s.box O O O) fun b2=>?_
 refine R.s O (s.box O O O) fun b3=>?_
 refine R.s O (s.alloc dP O O) fun b4=>?_
 refine R.u 1 O<|R.nil<|R.reg O<|R.q (q.dt 3 O O ao) O<|R.q (q.dt 2 O O bM) O<|R.c (q.call tJ O O (fun w hw=>(qV _ _ _ _ r p w (hw.bP 0 O) (hw.bP 1 O) (hw.bP 2 O) (hw.bP 3 O) ‹_›))) O<|R.u 3 O<|?_
 refine R.s O (s.alloc bO O O) fun b5=>?_
 refine R.s O (s.st 0 _ O O O O (.inl aM) O O O O) fun _=>?_
 refine R.u 1 O<|R.nil<|R.reg O<|R.u 1 O<|?_
 by_cases h1:(aS r p).2=0
 .
  have VQ:=hk.get h1
  refine R.q (q.dB O O Tryz.underlying38) O<|R.nil<|R.aA O O<|R.reg O<|R.q (q.dt 4 O O ao) O<|R.q (q.dt 2 O O bM) O<|R.c (q.call Az O O (fun w hw=>(qW _ _ _ _ r t w (hw.bP 0 O) (hw.bP 1 O) (hw.bP 2 O) (hw.bP 3 O) ‹_›))) O<|R.u 1 O<|R.nil ?_
  refine R.reg O<|R.u 1 O<|?_
  by_cases h2:gL r t=0
  .
   refine R.q (q.dB O O Tryz.underlying38) O<|R.nil<|R.aA O O<|R.reg O<|R.q (q.aO O fq O) O<|R.q (q.ld 3 O O au O) O<|R.q (q.aO O fq O) O<|R.q (q.ld 2 O O au O) O<|?_
   by_cases h3:p.aB=t.aB
   .
    refine R.q (q.lK O O) O<|R.u 6 O<|R.nil<|R.aA O O<|R.reg O<|R.q (q.aO O cJ O) O<|R.q (q.ld 4 O O au O) O<|?_
    by_cases h4:999<r.ae
    .
     refine R.q (q.eL O O) O<|R.nil<|R.av O O<|R.reg O<|R.q (q.build dZ O O) O<|R.q (q.iface O bj) O<|R.s O (s.st 1 _ O O O O (.inl ao) O O O O) fun _=>?_
     refine R.u 1 O<|R.nil<|R.mp (fun _ hw=>hw.a8 (α:=aj))<|R.mp (fun _ hw=>hw.a8 (α:=aE))<|R.mp (fun _ hw=>hw.a8 (α:=Held))<|R.mp (fun _ hw=>hw.a8 (α:=Note)) ?_
     have hz:fk r p t rights dL=((⟨[],[],[],[],0,0⟩:aC),9):=by (unfold fk;(repeat' split) <;> first|rfl|(exfalso;omega)|(simp_all;done))
     rw [hz]
     exact R.w2 ((nS),(nS),(nS),(nS)) [5] gj O Tryz.results57 (RV.cell 1 O O ao) (RV.tmp O) O O O (dy O (dj (by decide) O))
    refine R.q (q.eo O O) O<|R.nil<|R.aA O O<|R.reg O<|R.q (q.dt 0 O O aM) O<|R.q (q.aO O cJ O) O<|R.q (q.ld 4 O O au O) O<|R.u 2 O<|R.c (q.call wv O O (fun w hw=>(mF (aS r p).1 r.ae rights dL w (by omega)))) O<|R.u 3 O<|?_
    refine R.s O (s.alloc bO O O) fun b6=>?_
    refine R.s O (s.st 0 _ O O O O (.inl aM) O O O O) fun _=>?_
    refine R.u 1 O<|R.nil<|R.reg O<|R.u 1 O<|?_
    by_cases h5:(derived (aS r p).1 r.ae rights dL).2=0
    .
     refine R.q (q.dB O O Tryz.underlying38) O<|R.nil<|R.aA O O<|R.reg O<|R.q (q.dt 5 O O ao) O<|R.q (q.dt 0 O O aM) O<|R.q (q.dt 3 O O bM) O<|R.s O (s.aW mg bL _ _ _ O O O wu O O (fun w own hw H=>qq bR bH bI bJ r (derived (aS r p).1 r.ae rights dL).1 t w own H (by omega)) O) ?_
     rintro ⟨z1,z2,z3,z4⟩
     dsimp only
     refine R.s O (s.fX 2 _ O O O (fun _ _=>rfl) (.inl ao) (fun w hw=>(af (Sl.one (hw.bP 0 O)) (af (Sl.one (hw.bP 1 O)) (af (Sl.one (hw.bP 2 O)) (af (Sl.one (hw.bP 3 O)) (af O (af O aP))))))) O O O) fun _=>?_
     refine R.u 1 O<|R.nil ?_
     have hz:fk r p t rights dL=((fx r (derived (aS r p).1 r.ae rights dL).1 t),0):=by (unfold fk;(repeat' split) <;> first|rfl|(exfalso;omega)|(simp_all;done))
     rw [hz]
     exact R.w2 (z1,z2,z3,z4) [6] bL O Tryz.results57 (RV.cell 2 O O ao) (RV.tmp O) O O O (dy O (iK O))
    refine R.q (q.ej O O Tryz.underlying38) O<|R.nil<|R.av O O<|R.reg O<|R.q (q.build dZ O O) O<|R.u 1 O<|R.s O (s.st 2 _ O O O O (.inl ao) O O O O) fun _=>?_
    refine R.u 1 O<|R.nil<|R.mp (fun _ hw=>hw.a8 (α:=aj))<|R.mp (fun _ hw=>hw.a8 (α:=aE))<|R.mp (fun _ hw=>hw.a8 (α:=Held))<|R.mp (fun _ hw=>hw.a8 (α:=Note)) ?_
    have hz:fk r p t rights dL=((⟨[],[],[],[],0,0⟩:aC),(derived (aS r p).1 r.ae rights dL).2):=by (unfold fk;(repeat' split) <;> first|rfl|(exfalso;omega)|(simp_all;done))
    rw [hz]
    exact R.w2 ((nS),(nS),(nS),(nS)) [6] gj O Tryz.results57 (RV.cell 2 O O ao) (RV.tmp O) O O O (dy O O)
   refine R.q (q.lJ O O) O<|R.u 1 O<|R.qg O (q.aO O jT O) O<|R.qg O (q.ld 0 O O au O) O<|?_
   rcases Bool.eq_false_or_eq_true (ji (aS r p).1.Rights 4) with h6|h6
   .
    refine R.cg O (q.call pR O O (fun w hw=>(cv (congrArg Value.bool h6) (gJ (aS r p).1.Rights 4 w (by omega) (by omega))))) O<|R.u 2 O<|R.nil<|R.aA O O<|R.reg O<|R.q (q.aO O cJ O) O<|R.q (q.ld 4 O O au O) O<|?_
    by_cases h7:999<r.ae
    .
     refine R.q (q.eL O O) O<|R.nil<|R.av O O<|R.reg O<|R.q (q.build dZ O O) O<|R.q (q.iface O bj) O<|R.s O (s.st 1 _ O O O O (.inl ao) O O O O) fun _=>?_
     refine R.u 1 O<|R.nil<|R.mp (fun _ hw=>hw.a8 (α:=aj))<|R.mp (fun _ hw=>hw.a8 (α:=aE))<|R.mp (fun _ hw=>hw.a8 (α:=Held))<|R.mp (fun _ hw=>hw.a8 (α:=Note)) ?_
     have hz:fk r p t rights dL=((⟨[],[],[],[],0,0⟩:aC),9):=by (unfold fk;(repeat' split) <;> first|rfl|(exfalso;omega)|(simp_all;done))
     rw [hz]
     exact R.w2 ((nS),(nS),(nS),(nS)) [5] gj O Tryz.results57 (RV.cell 1 O O ao) (RV.tmp O) O O O (dy O (dj (by decide) O))
    refine R.q (q.eo O O) O<|R.nil<|R.aA O O<|R.reg O<|R.q (q.dt 0 O O aM) O<|R.q (q.aO O cJ O) O<|R.q (q.ld 4 O O au O) O<|R.u 2 O<|R.c (q.call wv O O (fun w hw=>(mF (aS r p).1 r.ae rights dL w (by omega)))) O<|R.u 3 O<|?_
    refine R.s O (s.alloc bO O O) fun b7=>?_
    refine R.s O (s.st 0 _ O O O O (.inl aM) O O O O) fun _=>?_
    refine R.u 1 O<|R.nil<|R.reg O<|R.u 1 O<|?_
    by_cases h8:(derived (aS r p).1 r.ae rights dL).2=0
    .
     refine R.q (q.dB O O Tryz.underlying38) O<|R.nil<|R.aA O O<|R.reg O<|R.q (q.dt 5 O O ao) O<|R.q (q.dt 0 O O aM) O<|R.q (q.dt 3 O O bM) O<|R.s O (s.aW mg bL _ _ _ O O O wu O O (fun w own hw H=>qq bR bH bI bJ r (derived (aS r p).1 r.ae rights dL).1 t w own H (by omega)) O) ?_
     rintro ⟨z5,z6,z7,z8⟩
     dsimp only
     refine R.s O (s.fX 2 _ O O O (fun _ _=>rfl) (.inl ao) (fun w hw=>(af (Sl.one (hw.bP 0 O)) (af (Sl.one (hw.bP 1 O)) (af (Sl.one (hw.bP 2 O)) (af (Sl.one (hw.bP 3 O)) (af O (af O aP))))))) O O O) fun _=>?_
     refine R.u 1 O<|R.nil ?_
     have hz:fk r p t rights dL=((fx r (derived (aS r p).1 r.ae rights dL).1 t),0):=by (unfold fk;(repeat' split) <;> first|rfl|(exfalso;omega)|(simp_all;done))
     rw [hz]
     exact R.w2 (z5,z6,z7,z8) [6] bL O Tryz.results57 (RV.cell 2 O O ao) (RV.tmp O) O O O (dy O (iK O))
    refine R.q (q.ej O O Tryz.underlying38) O<|R.nil<|R.av O O<|R.reg O<|R.q (q.build dZ O O) O<|R.u 1 O<|R.s O (s.st 2 _ O O O O (.inl ao) O O O O) fun _=>?_
    refine R.u 1 O<|R.nil<|R.mp (fun _ hw=>hw.a8 (α:=aj))<|R.mp (fun _ hw=>hw.a8 (α:=aE))<|R.mp (fun _ hw=>hw.a8 (α:=Held))<|R.mp (fun _ hw=>hw.a8 (α:=Note)) ?_
    have hz:fk r p t rights dL=((⟨[],[],[],[],0,0⟩:aC),(derived (aS r p).1 r.ae rights dL).2):=by (unfold fk;(repeat' split) <;> first|rfl|(exfalso;omega)|(simp_all;done))
    rw [hz]
    exact R.w2 ((nS),(nS),(nS),(nS)) [6] gj O Tryz.results57 (RV.cell 2 O O ao) (RV.tmp O) O O O (dy O O)
   refine R.cg O (q.call pR O O (fun w hw=>(cv (congrArg Value.bool h6) (gJ (aS r p).1.Rights 4 w (by omega) (by omega))))) O<|R.u 2 O<|R.nil<|R.av O O<|R.reg O<|R.q (q.build dZ O O) O<|R.q (q.iface O bj) O<|R.s O (s.st 1 _ O O O O (.inl ao) O O O O) fun _=>?_
   refine R.u 1 O<|R.nil<|R.mp (fun _ hw=>hw.a8 (α:=aj))<|R.mp (fun _ hw=>hw.a8 (α:=aE))<|R.mp (fun _ hw=>hw.a8 (α:=Held))<|R.mp (fun _ hw=>hw.a8 (α:=Note)) ?_
   have hz:fk r p t rights dL=((⟨[],[],[],[],0,0⟩:aC),7):=by (unfold fk;(repeat' split) <;> first|rfl|(exfalso;omega)|(simp_all;done))
   rw [hz]
   exact R.w2 ((nS),(nS),(nS),(nS)) [5] gj O Tryz.results57 (RV.cell 1 O O ao) (RV.tmp O) O O O (dy O (dj (by decide) O))
  refine R.q (q.ej O O Tryz.underlying38) O<|R.nil<|R.av O O<|R.reg O<|R.q (q.build dZ O O) O<|R.u 1 O<|R.s O (s.st 1 _ O O O O (.inl ao) O O O O) fun _=>?_
  refine R.u 1 O<|R.nil<|R.mp (fun _ hw=>hw.a8 (α:=aj))<|R.mp (fun _ hw=>hw.a8 (α:=aE))<|R.mp (fun _ hw=>hw.a8 (α:=Held))<|R.mp (fun _ hw=>hw.a8 (α:=Note)) ?_
  have hz:fk r p t rights dL=((⟨[],[],[],[],0,0⟩:aC),gL r t):=by (unfold fk;(repeat' split) <;> rfl)
  rw [hz]
  exact R.w2 ((nS),(nS),(nS),(nS)) [5] gj O Tryz.results57 (RV.cell 1 O O ao) (RV.tmp O) O O O (dy O O)
 refine R.q (q.ej O O Tryz.underlying38) O<|R.nil<|R.av O O<|R.reg O<|R.q (q.build dZ O O) O<|R.u 1 O<|R.s O (s.st 1 _ O O O O (.inl ao) O O O O) fun _=>?_
 refine R.u 1 O<|R.nil<|R.mp (fun _ hw=>hw.a8 (α:=aj))<|R.mp (fun _ hw=>hw.a8 (α:=aE))<|R.mp (fun _ hw=>hw.a8 (α:=Held))<|R.mp (fun _ hw=>hw.a8 (α:=Note)) ?_
 have hz:fk r p t rights dL=((⟨[],[],[],[],0,0⟩:aC),(aS r p).2):=by (unfold fk;(repeat' split) <;> first|rfl|(exfalso;omega)|(simp_all;done))
 rw [hz]
 exact R.w2 ((nS),(nS),(nS),(nS)) [5] gj O Tryz.results57 (RV.cell 1 O O ao) (RV.tmp O) O O O (dy O O)
theorem H3 (bR bH bI bJ:Value)(r:aC)(p:Place)(slot:Int)(w:World)(own:List Nat)(H:HN w own [] [ag.ls bR r.ak,ag.ls bH r.Things,ag.ls bI r.Held,ag.ls bJ r.Notes])(hk:Ok r):RC Tryz.prog 58 #[.agg #[bR,bH,bI,bJ,iV r.ae,iV r.ah],.agg #[iV p.aB,iV p.Slot],iV slot] H (fun z:Value×Value×Value×Value => .tuple #[.agg #[z.1,z.2.1,z.2.2.1,z.2.2.2,iV (jl r p slot).1.ae,iV (jl r p slot).1.ah],df (jl r p slot).2]) (fun _=>[]) (fun z=>[ag.ls z.1 (jl r p slot).1.ak,ag.ls z.2.1 (jl r p slot).1.Things,ag.ls z.2.2.1 (jl r p slot).1.Held,ag.ls z.2.2.2 (jl r p slot).1.Notes]):=by
 have eJ:=H.cq 0 rfl
 have dM:=H.cq 1 rfl
 have fG:=H.cq 2 rfl
 have eK:=H.cq 3 rfl
 have bw:=hk.wl;have bt:=hk.tl;have bh:=hk.hl;have bn:=hk.nl;have KM:=hk.w0;have KN:=hk.w1;have KO:=hk.t0;have KP:=hk.t1
 have bp:=nT r.Held p 0
 refine R.bC [(0,.agg #[bR,bH,bI,bJ,iV r.ae,iV r.ah]),(1,.agg #[iV p.aB,iV p.Slot]),(2,iV slot)] Tryz.func58 O O O O H<|R.reg O<|R.s O (s.box O O O) fun b1=>?_
 refine R.s O (s.box O O O) fun b2=>?_
 refine R.s O (s.alloc dP O O) fun b3=>?_
 refine R.u 1 O<|R.nil<|R.reg O<|R.q (q.dt 2 O O ao) O<|R.q (q.dt 1 O O bM) O<|R.c (q.call tJ O O (fun w hw=>(qV _ _ _ _ r p w (hw.bP 0 O) (hw.bP 1 O) (hw.bP 2 O) (hw.bP 3 O) ‹_›))) O<|R.u 3 O<|?_
 refine R.s O (s.alloc bO O O) fun b4=>?_
 refine R.s O (s.st 0 _ O O O O (.inl aM) O O O O) fun _=>?_
 refine R.u 1 O<|R.nil<|R.reg O<|R.u 1 O<|?_
 by_cases h1:(aS r p).2=0
 .
  refine R.q (q.dB O O Tryz.underlying38) O<|R.nil<|R.aA O O<|R.reg O<|R.q (q.aO O fq O) O<|R.q (q.ld 2 O O au O) O<|R.u 1 O<|R.q (q.build wk O O) O<|R.s O (s.alloc Co O O) fun b5=>?_
  refine R.s O (s.st 0 _ O O O O (.inl bM) O O O O) fun _=>?_
  refine R.nil<|R.reg O<|R.q (q.dt 4 O O ao) O<|R.q (q.dt 0 O O bM) O<|R.c (q.call Az O O (fun w hw=>(qW _ _ _ _ r (⟨p.aB,slot⟩:Place) w (hw.bP 0 O) (hw.bP 1 O) (hw.bP 2 O) (hw.bP 3 O) ‹_›))) O<|R.u 1 O<|R.nil ?_
  refine R.reg O<|R.u 1 O<|?_
  by_cases h2:gL r (⟨p.aB,slot⟩:Place)=0
  .
   refine R.q (q.dB O O Tryz.underlying38) O<|R.nil<|R.aA O O<|R.fY (fuel:=10) nC O O mixed O<|D.q (i:=0) O (aD nC bL O) O (q.aO O cz O) O<|D.q (i:=2) O (aD nC bL O) O (q.dt 3 O O bM) O<|D.q (i:=4) O (aD nC bL O) O (q.dt 0 O O bM) O<|D.q (i:=5) O (aD nC bL O) O (q.aO O bU O) O<|D.q (i:=6) O (aD nC bL O) O (q.ld 1 O O au O) O<|D.one (i:=1) O<|Do.s (s.c (Qt.a (q.ld 4 O O dD O)) O) (fun _=>(aD nC bL O)) O fun _=>?_
   refine D.one (i:=3) O<|Do.s (s.aW rm [2] _ _ _ O O O tK O O (fun w own hw H=>qG bI r.Held p 0 w own H (by omega)) O) (fun _=>(aD sD bL O)) O fun z3=>?_
   refine D.one (i:=7) O<|Do.s (s.pre (fun _ hw=>hw.cW 0 _ O O) (s.aW rm [0] _ _ _ O O O tK O O (fun w own hw H=>qG z3 (fP r.Held p 0) (⟨p.aB,slot⟩:Place) (aS r p).1.ID w own H (by omega)) O)) (fun _=>(aD sD [1,2,3,4] O)) O fun z4=>?_
   refine D.q (i:=8) O (aD sD [1,2,3,4] O) O (q.aO O cz O) O<|D.one (i:=9) O<|Do.s (s.fX 5 _ O O O (fun w hw=>Sl.cm (hw.row 0 O)) (.inr ⟨dD,rfl⟩) (fun w hw=>(af (Sl.one (hw.row 0 O)) aP)) O O O) (fun _=>(aD sD [1,2,3,4] O)) O fun _=>?_
   refine D.done<|R.reg O<|R.q (q.dt 5 O O ao) O<|R.s O (s.fX 3 _ O O O (fun _ _=>rfl) (.inl ao) (fun w hw=>(af (Sl.one (hw.bP 1 O)) (af (Sl.one (hw.bP 2 O)) (af (Sl.one (hw.row 0 O)) (af (Sl.one (hw.bP 4 O)) (af O (af O aP))))))) O O O) fun _=>?_
   refine R.u 1 O<|R.nil<|R.mp (fun _ hw=>hw.cW 0 _ O O) ?_
   have hz:jl r p slot=((⟨r.ak,r.Things,fP (fP r.Held p 0) (⟨p.aB,slot⟩:Place) (aS r p).1.ID,r.Notes,r.ae,r.ah⟩:aC),0):=by (unfold jl;(repeat' split) <;> rfl)
   rw [hz]
   exact R.w2 (bR,bH,z4,bJ) [5] [2,3,0,5] O Tryz.results58 (RV.cell 2 O O ao) (RV.tmp O) O O O (dy O (iK O))
  refine R.q (q.ej O O Tryz.underlying38) O<|R.nil<|R.av O O<|R.reg O<|R.q (q.build dZ O O) O<|R.u 1 O<|R.s O (s.st 2 _ O O O O (.inl ao) O O O O) fun _=>?_
  refine R.u 1 O<|R.nil<|R.mp (fun _ hw=>hw.a8 (α:=aj))<|R.mp (fun _ hw=>hw.a8 (α:=aE))<|R.mp (fun _ hw=>hw.a8 (α:=Held))<|R.mp (fun _ hw=>hw.a8 (α:=Note)) ?_
  have hz:jl r p slot=((⟨[],[],[],[],0,0⟩:aC),gL r (⟨p.aB,slot⟩:Place)):=by (unfold jl;(repeat' split) <;> rfl)
  rw [hz]
  exact R.w2 ((nS),(nS),(nS),(nS)) [5] gj O Tryz.results58 (RV.cell 2 O O ao) (RV.tmp O) O O O (dy O O)
 refine R.q (q.ej O O Tryz.underlying38) O<|R.nil<|R.av O O<|R.reg O<|R.q (q.build dZ O O) O<|R.u 1 O<|R.s O (s.st 1 _ O O O O (.inl ao) O O O O) fun _=>?_
 refine R.u 1 O<|R.nil<|R.mp (fun _ hw=>hw.a8 (α:=aj))<|R.mp (fun _ hw=>hw.a8 (α:=aE))<|R.mp (fun _ hw=>hw.a8 (α:=Held))<|R.mp (fun _ hw=>hw.a8 (α:=Note)) ?_
 have hz:jl r p slot=((⟨[],[],[],[],0,0⟩:aC),(aS r p).2):=by (unfold jl;(repeat' split) <;> first|rfl|(exfalso;omega)|(simp_all;done))
 rw [hz]
 exact R.w2 ((nS),(nS),(nS),(nS)) [4] gj O Tryz.results58 (RV.cell 1 O O ao) (RV.tmp O) O O O (dy O O)
theorem H4 (bR bH bI bJ:Value)(r:aC)(p:Place)(w:World)(own:List Nat)(H:HN w own [] [ag.ls bR r.ak,ag.ls bH r.Things,ag.ls bI r.Held,ag.ls bJ r.Notes])(hk:Ok r):RC Tryz.prog 59 #[.agg #[bR,bH,bI,bJ,iV r.ae,iV r.ah],.agg #[iV p.aB,iV p.Slot]] H (fun z:Value×Value×Value×Value => .tuple #[.agg #[z.1,z.2.1,z.2.2.1,z.2.2.2,iV (jL r p).1.ae,iV (jL r p).1.ah],df (jL r p).2]) (fun _=>[]) (fun z=>[ag.ls z.1 (jL r p).1.ak,ag.ls z.2.1 (jL r p).1.Things,ag.ls z.2.2.1 (jL r p).1.Held,ag.ls z.2.2.2 (jL r p).1.Notes]):=by
 have eJ:=H.cq 0 rfl
 have dM:=H.cq 1 rfl
 have fG:=H.cq 2 rfl
 have eK:=H.cq 3 rfl
 have bw:=hk.wl;have bt:=hk.tl;have bh:=hk.hl;have bn:=hk.nl;have KM:=hk.w0;have KN:=hk.w1;have KO:=hk.t0;have KP:=hk.t1
 have hkd:=hk.wo (aS r p).1.ID
 refine R.bC [(0,.agg #[bR,bH,bI,bJ,iV r.ae,iV r.ah]),(1,.agg #[iV p.aB,iV p.Slot])] Tryz.func59 O O O O H<|R.reg O<|R.s O (s.box O O O) fun b1=>?_
 refine R.s O (s.box O O O) fun b2=>?_
 refine R.s O (s.alloc dP O O) fun b3=>?_
 refine R.u 1 O<|R.nil<|R.reg O<|R.q (q.dt 2 O O ao) O<|R.q (q.dt 1 O O bM) O<|R.c (q.call tJ O O (fun w hw=>(qV _ _ _ _ r p w (hw.bP 0 O) (hw.bP 1 O) (hw.bP 2 O) (hw.bP 3 O) ‹_›))) O<|R.u 3 O<|?_
 refine R.s O (s.alloc bO O O) fun b4=>?_
 refine R.s O (s.st 0 _ O O O O (.inl aM) O O O O) fun _=>?_
 refine R.u 1 O<|R.nil<|R.reg O<|R.u 1 O<|?_
 by_cases h1:(aS r p).2=0
 .
  refine R.q (q.dB O O Tryz.underlying38) O<|R.nil<|R.aA O O<|R.reg O<|R.q (q.aO O bg O) O<|R.q (q.ld 3 O O bS O) O<|R.q (q.aO O bU O) O<|R.q (q.ld 0 O O au O) O<|R.s O (s.vQ Jb O O (fun w hw=>qj _ r.ak (aS r p).1.ID w (hw.bP 0 O) (by omega)) O) fun v1=>?_
  refine R.q (q.aO O bg O) O<|R.s O (s.fX 4 _ O O O (fun w hw=>Sl.cm (hw.row 0 O)) (.inr ⟨bS,rfl⟩) (fun w hw=>(af (Sl.one (hw.row 0 O)) aP)) O O O) fun _=>?_
  refine R.nil<|R.reg O<|R.q (q.dt 4 O O ao) O<|R.s O (s.pre (fun _ hw=>hw.cW 0 _ O O) (s.aW gX [0,2,3,4] _ _ _ O O O Jc O O (fun w own hw H=>sg v1 bH bI bJ (⟨(without r.ak (aS r p).1.ID),r.Things,r.Held,r.Notes,r.ae,r.ah⟩:aC) w own H ‹_›) O)) ?_
  rintro ⟨z1,z2,z3,z4⟩
  dsimp only
  refine R.s O (s.fX 1 _ O O O (fun _ _=>rfl) (.inl ao) (fun w hw=>(af (Sl.one (hw.bP 0 O)) (af (Sl.one (hw.bP 1 O)) (af (Sl.one (hw.bP 2 O)) (af (Sl.one (hw.bP 3 O)) (af O (af O aP))))))) O O O) fun _=>?_
  refine R.u 1 O<|R.nil ?_
  have hz:jL r p=((dR (⟨(without r.ak (aS r p).1.ID),r.Things,r.Held,r.Notes,r.ae,r.ah⟩:aC)),0):=by (unfold jL;(repeat' split) <;> rfl)
  rw [hz]
  exact R.w2 (z1,z2,z3,z4) [4] bL O Tryz.results59 (RV.cell 1 O O ao) (RV.tmp O) O O O (dy O (iK O))
 refine R.q (q.ej O O Tryz.underlying38) O<|R.nil<|R.av O O<|R.reg O<|R.q (q.build dZ O O) O<|R.u 1 O<|R.s O (s.st 1 _ O O O O (.inl ao) O O O O) fun _=>?_
 refine R.u 1 O<|R.nil<|R.mp (fun _ hw=>hw.a8 (α:=aj))<|R.mp (fun _ hw=>hw.a8 (α:=aE))<|R.mp (fun _ hw=>hw.a8 (α:=Held))<|R.mp (fun _ hw=>hw.a8 (α:=Note)) ?_
 have hz:jL r p=((⟨[],[],[],[],0,0⟩:aC),(aS r p).2):=by (unfold jL;(repeat' split) <;> first|rfl|(exfalso;omega)|(simp_all;done))
 rw [hz]
 exact R.w2 ((nS),(nS),(nS),(nS)) [4] gj O Tryz.results59 (RV.cell 1 O O ao) (RV.tmp O) O O O (dy O O)
set_option maxHeartbeats 90000000 in
theorem Dm (bR bH bI bJ:Value)(r:aC)(p:Place)(w:World)(own:List Nat)(H:HN w own [] [ag.ls bR r.ak,ag.ls bH r.Things,ag.ls bI r.Held,ag.ls bJ r.Notes])(hk:Ok r):RC Tryz.prog 60 #[.agg #[bR,bH,bI,bJ,iV r.ae,iV r.ah],.agg #[iV p.aB,iV p.Slot]] H (fun z:Value×Value×Value×Value => .tuple #[.agg #[z.1,z.2.1,z.2.2.1,z.2.2.2,iV (fc r p).1.ae,iV (fc r p).1.ah],df (fc r p).2]) (fun _=>[]) (fun z=>[ag.ls z.1 (fc r p).1.ak,ag.ls z.2.1 (fc r p).1.Things,ag.ls z.2.2.1 (fc r p).1.Held,ag.ls z.2.2.2 (fc r p).1.Notes]):=by
 have eJ:=H.cq 0 rfl
 have dM:=H.cq 1 rfl
 have fG:=H.cq 2 rfl
 have eK:=H.cq 3 rfl
 have bw:=hk.wl;have bt:=hk.tl;have bh:=hk.hl;have bn:=hk.nl;have KM:=hk.w0;have KN:=hk.w1;have KO:=hk.t0;have KP:=hk.t1
 have hkd:Ok (⟨r.ak.filter (fun x => !(fun (x:aj)=>decide (x.ID∈(kB (aS r p).1.ID r.ak))) x),r.Things,r.Held,r.Notes,r.ae,r.ah⟩:aC):=hk.cut (aS r p).1.ID
 refine R.bC [(0,.agg #[bR,bH,bI,bJ,iV r.ae,iV r.ah]),(1,.agg #[iV p.aB,iV p.Slot])] Tryz.func60 O O O O H<|R.reg O<|R.s O (s.box O O O) fun b1=>?_
 refine R.s O (s.box O O O) fun b2=>?_
 refine R.s O (s.alloc dP O O) fun b3=>?_
 refine R.u 1 O<|R.nil<|R.reg O<|R.q (q.dt 2 O O ao) O<|R.q (q.dt 1 O O bM) O<|R.c (q.call tJ O O (fun w hw=>(qV _ _ _ _ r p w (hw.bP 0 O) (hw.bP 1 O) (hw.bP 2 O) (hw.bP 3 O) ‹_›))) O<|R.u 3 O<|?_
 refine R.s O (s.alloc bO O O) fun b4=>?_
 refine R.s O (s.st 0 _ O O O O (.inl aM) O O O O) fun _=>?_
 refine R.u 1 O<|R.nil<|R.reg O<|R.u 1 O<|?_
 by_cases h1:(aS r p).2=0
 .
  refine R.q (q.dB O O Tryz.underlying38) O<|R.nil<|R.aA O O<|R.reg O<|R.q (q.aO O bg O) O<|R.q (q.ld 3 O O bS O) O<|R.q (q.aO O bU O) O<|R.q (q.ld 0 O O au O) O<|R.s O (s.vQ O4 O O (fun w hw=>Bw _ r.ak (aS r p).1.ID w (hw.bP 0 O) (by omega)) O) fun v1=>?_
  refine R.s O (s.alloc zh O O) fun b5=>?_
  refine R.s O (s.fX 0 _ O O O (fun w hw=>Sl.cm (hw.row 1 O)) (.inr ⟨nL,rfl⟩) (fun w hw=>(af (Sl.one (hw.row 1 O)) aP)) O O O) fun _=>?_
  refine R.nil<|R.reg O<|R.q (q.aO O bg O) O<|R.q (q.ld 5 O O bS O) O<|R.s O (s.aW mg [0] _ _ _ O O O wq O O (fun w own hw H=>jM bR r.ak w own H (by omega)) O) fun z1=>?_
  refine R.q (q.LR (cap:=[.pointer (some ⟨b5,0,none⟩)]) O O) O<|R.s O (s.aW ff [] _ _ _ O O O O5 O O (fun w own hw H=>vo z1 r.ak (fun (x:aj)=>decide (x.ID∈(kB (aS r p).1.ID r.ak))) _ _ O6 w own H (fun W x hU=>yQ x _ (kB (aS r p).1.ID r.ak) _ W (hw.vZ 1 0 O O (by decide) hU) (Own.sl (hw.vZ 2 0 O O (by decide) hU)) ) (by omega)) O) fun z2=>?_
  refine R.q (q.aO O bg O) O<|R.s O (s.fX 6 _ O O O (fun w hw=>Sl.cm (hw.row 0 O)) (.inr ⟨bS,rfl⟩) (fun w hw=>(af (Sl.one (hw.row 0 O)) aP)) O O O) fun _=>?_
  refine R.nil<|R.reg O<|R.q (q.dt 6 O O ao) O<|R.s O (s.pre (fun _ hw=>hw.cW 0 _ O O) (s.aW mg [0,2,3,4] _ _ _ O O O Jc O O (fun w own hw H=>by have PK:=sg z2 bH bI bJ (⟨r.ak.filter (fun x => !(fun (x:aj)=>decide (x.ID∈(kB (aS r p).1.ID r.ak))) x),r.Things,r.Held,r.Notes,r.ae,r.ah⟩:aC) w own H ‹_›;exact PK) O)) ?_
  rintro ⟨z3,z4,z5,z6⟩
  dsimp only
  refine R.s O (s.fX 3 _ O O O (fun _ _=>rfl) (.inl ao) (fun w hw=>(af (Sl.one (hw.bP 0 O)) (af (Sl.one (hw.bP 1 O)) (af (Sl.one (hw.bP 2 O)) (af (Sl.one (hw.bP 3 O)) (af O (af O aP))))))) O O O) fun _=>?_
  refine R.u 1 O<|R.nil ?_
  have hz:fc r p=((dR (⟨r.ak.filter (fun x => !(fun (x:aj)=>decide (x.ID∈(kB (aS r p).1.ID r.ak))) x),r.Things,r.Held,r.Notes,r.ae,r.ah⟩:aC)),0):=by (unfold fc;(repeat' split) <;> rfl)
  rw [hz]
  exact R.w2 (z3,z4,z5,z6) [6] bL O Tryz.results60 (RV.cell 3 O O ao) (RV.tmp O) O O O (dy O (iK O))
 refine R.q (q.ej O O Tryz.underlying38) O<|R.nil<|R.av O O<|R.reg O<|R.q (q.build dZ O O) O<|R.u 1 O<|R.s O (s.st 1 _ O O O O (.inl ao) O O O O) fun _=>?_
 refine R.u 1 O<|R.nil<|R.mp (fun _ hw=>hw.a8 (α:=aj))<|R.mp (fun _ hw=>hw.a8 (α:=aE))<|R.mp (fun _ hw=>hw.a8 (α:=Held))<|R.mp (fun _ hw=>hw.a8 (α:=Note)) ?_
 have hz:fc r p=((⟨[],[],[],[],0,0⟩:aC),(aS r p).2):=by (unfold fc;(repeat' split) <;> first|rfl|(exfalso;omega)|(simp_all;done))
 rw [hz]
 exact R.w2 ((nS),(nS),(nS),(nS)) [4] gj O Tryz.results60 (RV.cell 1 O O ao) (RV.tmp O) O O O (dy O O)
theorem xM (bR bH bI bJ:Value)(r:aC)(p:Place)(kind:Int)(rights:Int)(w:World)(yN:Sl w bR r.ak)(BD:Sl w bH r.Things)(E8:Sl w bI r.Held)(MK:Sl w bJ r.Notes)(hk:Ok r)(hr:0<=rights/\rights<=7):Calls Tryz.prog 125 #[.agg #[bR,bH,bI,bJ,iV r.ae,iV r.ah],.agg #[iV p.aB,iV p.Slot],iV kind,iV rights] w fun e w'=>e = .returned (.tuple #[aj.val (cC r p kind rights).1,iV (cC r p kind rights).2.1,df (cC r p kind rights).2.2])/\Ext w w':=by
 have bw:=hk.wl;have bt:=hk.tl;have bh:=hk.hl;have bn:=hk.nl;have KM:=hk.w0;have KN:=hk.w1;have KO:=hk.t0;have KP:=hk.t1
 refine R.enter [] [(0,.agg #[bR,bH,bI,bJ,iV r.ae,iV r.ah]),(1,.agg #[iV p.aB,iV p.Slot]),(2,iV kind),(3,iV rights)] Tryz.func125 O O O O<|R.reg O<|R.s O (s.box O O O) fun b1=>?_
 refine R.s O (s.box O O O) fun b2=>?_
 refine R.s O (s.alloc bO O O) fun b3=>?_
 refine R.u 2 O<|R.nil<|R.reg O<|R.q (q.dt 2 O O ao) O<|R.q (q.dt 1 O O bM) O<|R.c (q.call tJ O O (fun w hw=>(qV _ _ _ _ r p w ((fun _=>Wd.old yN) w hw) ((fun _=>Wd.old BD) w hw) ((fun _=>Wd.old E8) w hw) ((fun _=>Wd.old MK) w hw) ‹_›))) O<|R.u 3 O<|?_
 refine R.s O (s.alloc bO O O) fun b4=>?_
 refine R.s O (s.st 0 _ O O O O (.inl aM) O O O O) fun _=>?_
 refine R.u 1 O<|R.nil<|R.reg O<|R.u 1 O<|?_
 by_cases h1:(aS r p).2=0
 .
  have VQ:=hk.get h1
  refine R.q (q.dB O O Tryz.underlying38) O<|R.nil<|R.aA O O<|R.reg O<|R.q (q.aO O cy O) O<|R.q (q.ld 3 O O dC O) O<|R.q (q.LR (cap:=[.pointer (some ⟨b4,0,none⟩)]) O O) O<|?_
  rcases j5 (fun (t:aE)=>t.ID==(aS r p).1.aE) r.Things with ⟨gU,Eo⟩ | ⟨rz,Em,gU,lW,ve,AQ,TE⟩
  .
   refine R.c (q.call AF O O (fun w hw=>(cv (congrArg (Value.int .i64) gU) (iw _ r.Things (fun (t:aE)=>t.ID==(aS r p).1.aE) _ _ Jr w ((fun _=>Wd.old BD) w hw) (fun W t hW=>xL t (aS r p).1 _ W (sK (hw.b 0 O) hW) ) )))) O<|R.u 1 O<|R.nil ?_
   refine R.reg O<|R.u 1 O<|R.q (q.lss (b:=true) O O (by decide)) O<|R.u 10 O<|R.nil<|R.av O O<|R.reg O<|R.q (q.build iY O O) O<|R.q (q.iface O bj) O<|R.s O (s.st 1 _ O O O O (.inl aM) O O O O) fun _=>?_
   exact R.u 2 O<|R.nil<|R.Rm O Tryz.results125 (RV.cell 1 O O aM) (RV.tmp O) (RV.tmp O) (congrArg aj.val (show (⟨0,0,0,0,0⟩:aj)=(cC r p kind rights).1 from by (rw [qS ‹_› Eo];rfl))) (rI (by (rw [qS ‹_› Eo];done))) (dj (by decide) (by (rw [qS ‹_› Eo];done)))
  refine R.c (q.call AF O O (fun w hw=>(cv (congrArg (Value.int .i64) gU) (iw _ r.Things (fun (t:aE)=>t.ID==(aS r p).1.aE) _ _ Jr w ((fun _=>Wd.old BD) w hw) (fun W t hW=>xL t (aS r p).1 _ W (sK (hw.b 0 O) hW) ) )))) O<|R.u 1 O<|R.nil ?_
  refine R.reg O<|R.u 1 O<|R.q (q.cU O O) O<|R.u 1 O<|R.qg O (q.aO O cy O) O<|R.qg O (q.ld 3 O O dC O) O<|R.u 1 O<|R.qg O (q.idx (i:=rz) (fun _=>Wd.old BD) O O iM O lW) O<|R.qg O (q.nG (j':=1) (fun _=>Wd.old BD) lW O wm O) O<|R.qg O (q.lv (fun _=>Wd.old BD) lW O au O) O<|R.u 1 O<|?_
  by_cases h2:Em.Kind=kind
  .
   refine R.qg O (q.lK O O) O<|R.u 1 O<|R.nil<|R.aA O O<|R.reg O<|R.q (q.aO O jT O) O<|R.q (q.ld 0 O O au O) O<|R.u 1 O<|?_
   rcases Bool.eq_false_or_eq_true (ji (aS r p).1.Rights rights) with h3|h3
   .
    refine R.c (q.call pR O O (fun w hw=>(cv (congrArg Value.bool h3) (gJ (aS r p).1.Rights rights w (by omega) (by omega))))) O<|R.u 1 O<|R.nil ?_
    refine R.aA O O<|R.reg O<|R.q (q.dt 0 O O aM) O<|R.u 1 O<|R.s O (s.st 1 _ O O O O (.inl aM) O O O O) fun _=>?_
    exact R.u 2 O<|R.nil<|R.Rm O Tryz.results125 (RV.cell 1 O O aM) (RV.tmp O) (RV.tmp O) (congrArg aj.val (show (aS r p).1=(cC r p kind rights).1 from by (rw [vB ‹_› lW ve AQ ‹_› ‹_›];done))) (rI (by (rw [vB ‹_› lW ve AQ ‹_› ‹_›];done))) (iK (by (rw [vB ‹_› lW ve AQ ‹_› ‹_›];done)))
   refine R.c (q.call pR O O (fun w hw=>(cv (congrArg Value.bool h3) (gJ (aS r p).1.Rights rights w (by omega) (by omega))))) O<|R.u 1 O<|R.nil ?_
   refine R.av O O<|R.reg O<|R.q (q.build iY O O) O<|R.q (q.iface O bj) O<|R.s O (s.st 1 _ O O O O (.inl aM) O O O O) fun _=>?_
   exact R.u 2 O<|R.nil<|R.Rm O Tryz.results125 (RV.cell 1 O O aM) (RV.tmp O) (RV.tmp O) (congrArg aj.val (show (⟨0,0,0,0,0⟩:aj)=(cC r p kind rights).1 from by (rw [oU ‹_› lW ve AQ ‹_› ‹_›];rfl))) (rI (by (rw [oU ‹_› lW ve AQ ‹_› ‹_›];done))) (dj (by decide) (by (rw [oU ‹_› lW ve AQ ‹_› ‹_›];done)))
  refine R.qg O (q.lJ O O) O<|R.u 1 O<|R.nil<|R.av O O<|R.reg O<|R.q (q.build iY O O) O<|R.q (q.iface O bj) O<|R.s O (s.st 1 _ O O O O (.inl aM) O O O O) fun _=>?_
  exact R.u 2 O<|R.nil<|R.Rm O Tryz.results125 (RV.cell 1 O O aM) (RV.tmp O) (RV.tmp O) (congrArg aj.val (show (⟨0,0,0,0,0⟩:aj)=(cC r p kind rights).1 from by (rw [qT ‹_› lW ve AQ ‹_›];rfl))) (rI (by (rw [qT ‹_› lW ve AQ ‹_›];done))) (dj (by decide) (by (rw [qT ‹_› lW ve AQ ‹_›];done)))
 refine R.q (q.ej O O Tryz.underlying38) O<|R.nil<|R.av O O<|R.reg O<|R.q (q.build iY O O) O<|R.u 1 O<|R.s O (s.st 1 _ O O O O (.inl aM) O O O O) fun _=>?_
 exact R.u 2 O<|R.nil<|R.Rm O Tryz.results125 (RV.cell 1 O O aM) (RV.tmp O) (RV.tmp O) (congrArg aj.val (show (⟨0,0,0,0,0⟩:aj)=(cC r p kind rights).1 from by (rw [td ‹_›];rfl))) (rI (by (rw [td ‹_›];done))) (rE (by (rw [td ‹_›];done)))
theorem E9 (bR bH bI bJ:Value)(r:aC)(p:Place)(d:ByteArray)(w:World)(own:List Nat)(H:HN w own [] [ag.ls bR r.ak,ag.ls bH r.Things,ag.ls bI r.Held,ag.ls bJ r.Notes])(hk:Ok r):RC Tryz.prog 61 #[.agg #[bR,bH,bI,bJ,iV r.ae,iV r.ah],.agg #[iV p.aB,iV p.Slot],.string d] H (fun z:Value×Value×Value×Value => .tuple #[.agg #[z.1,z.2.1,z.2.2.1,z.2.2.2,iV (fV r p d).1.ae,iV (fV r p d).1.ah],df (fV r p d).2]) (fun _=>[]) (fun z=>[ag.ls z.1 (fV r p d).1.ak,ag.ls z.2.1 (fV r p d).1.Things,ag.ls z.2.2.1 (fV r p d).1.Held,ag.ls z.2.2.2 (fV r p d).1.Notes]):=by
 have eJ:=H.cq 0 rfl
 have dM:=H.cq 1 rfl
 have fG:=H.cq 2 rfl
 have eK:=H.cq 3 rfl
 have bw:=hk.wl;have bt:=hk.tl;have bh:=hk.hl;have bn:=hk.nl;have KM:=hk.w0;have KN:=hk.w1;have KO:=hk.t0;have KP:=hk.t1
 refine R.bC [(0,.agg #[bR,bH,bI,bJ,iV r.ae,iV r.ah]),(1,.agg #[iV p.aB,iV p.Slot]),(2,.string d)] Tryz.func61 O O O O H<|R.reg O<|R.s O (s.box O O O) fun b1=>?_
 refine R.s O (s.box O O O) fun b2=>?_
 refine R.s O (s.alloc dP O O) fun b3=>?_
 refine R.u 1 O<|R.nil<|R.reg O<|R.q (q.dt 2 O O ao) O<|R.q (q.dt 1 O O bM) O<|R.c (q.call Ey O O (fun w hw=>(xM _ _ _ _ r p 1 2 w (hw.bP 0 O) (hw.bP 1 O) (hw.bP 2 O) (hw.bP 3 O) ‹_› (by omega)))) O<|R.u 4 O<|?_
 refine R.s O (s.alloc bO O O) fun b4=>?_
 refine R.s O (s.st 0 _ O O O O (.inl aM) O O O O) fun _=>?_
 refine R.u 2 O<|R.nil<|R.reg O<|R.u 1 O<|?_
 by_cases h1:(cC r p 1 2).2.2=0
 .
  obtain ⟨m1,m2,m3,i,ix,ik,ih,ii,id,ib⟩:=qU h1;have iB:=(List.getElem?_eq_some_iff.1 ih).1
  refine R.q (q.dB O O Tryz.underlying38) O<|R.nil<|R.aA O O<|R.reg O<|R.u 1 O<|R.q (q.iA O Tryz.underlying9) O<|?_
  by_cases h2:8<d.size
  .
   refine R.q (q.eL O O) O<|R.nil<|R.av O O<|R.reg O<|R.q (q.build dZ O O) O<|R.q (q.iface O bj) O<|R.s O (s.st 1 _ O O O O (.inl ao) O O O O) fun _=>?_
   refine R.u 1 O<|R.nil<|R.mp (fun _ hw=>hw.a8 (α:=aj))<|R.mp (fun _ hw=>hw.a8 (α:=aE))<|R.mp (fun _ hw=>hw.a8 (α:=Held))<|R.mp (fun _ hw=>hw.a8 (α:=Note)) ?_
   have hz:fV r p d=((⟨[],[],[],[],0,0⟩:aC),2):=by (unfold fV gW;(repeat' split) <;> rfl)
   rw [hz]
   exact R.w2 ((nS),(nS),(nS),(nS)) [4] gj O Tryz.results61 (RV.cell 1 O O ao) (RV.tmp O) O O O (dy O (dj (by decide) O))
  refine R.q (q.eo O O) O<|R.nil<|R.aA O O<|R.reg O<|R.q (q.aO O cy O) O<|R.q (q.ld 3 O O dC O) O<|R.s O (s.aW gX [1] _ _ _ O O O wt O O (fun w own hw H=>jm bH r.Things w own H (by omega)) O) fun z1=>?_
  refine R.q (q.aO O cy O) O<|R.s O (s.fX 4 _ O O O (fun w hw=>Sl.cm (hw.row 0 O)) (.inr ⟨dC,rfl⟩) (fun w hw=>(af (Sl.one (hw.row 0 O)) aP)) O O O) fun _=>?_
  refine R.nil<|R.reg O<|R.q (q.aO O cy O) O<|R.q (q.ld 4 O O dC O) O<|R.u 2 O<|?_
  obtain ⟨x1,hx1⟩:∃z,r.Things[(cC r p 1 2).2.1.toNat]? = some z:=⟨_,List.getElem?_eq_getElem (by omega)⟩
  refine R.q (q.idx (i:=(cC r p 1 2).2.1.toNat) (bB 0 O) O O iM (by omega) hx1) O<|R.q (q.nG (j':=2) (bB 0 O) hx1 O wn O) O<|R.s O (s.stP (o:=2) (z:=(⟨x1.ID,x1.Kind,d⟩:aE)) 0 _ O hx1 O O O O O (by simp [Value.oneCell']) (.inr ⟨bE,rfl⟩) O) fun _=>?_
  refine R.nil<|R.reg O<|R.q (q.dt 4 O O ao) O<|R.s O (s.fX 2 _ O O O (fun _ _=>rfl) (.inl ao) (fun w hw=>(af (Sl.one (hw.bP 0 O)) (af (Sl.one (hw.row 0 O)) (af (Sl.one (hw.bP 2 O)) (af (Sl.one (hw.bP 3 O)) (af O (af O aP))))))) O O O) fun _=>?_
  refine R.u 1 O<|R.nil<|R.mp (fun _ hw=>hw.cW 0 _ O O) ?_
  have hz:fV r p d=((⟨r.ak,(r.Things.set (cC r p 1 2).2.1.toNat (⟨x1.ID,x1.Kind,d⟩:aE)),r.Held,r.Notes,r.ae,r.ah⟩:aC),0):=by (unfold fV gW;(repeat' split) <;> first|rfl|(exfalso;omega)|(simp_all;done))
  rw [hz]
  exact R.w2 (bR,z1,bI,bJ) [4] [1,0,3,4] O Tryz.results61 (RV.cell 1 O O ao) (RV.tmp O) O O O (dy O (iK O))
 refine R.q (q.ej O O Tryz.underlying38) O<|R.nil<|R.av O O<|R.reg O<|R.q (q.build dZ O O) O<|R.u 1 O<|R.s O (s.st 1 _ O O O O (.inl ao) O O O O) fun _=>?_
 refine R.u 1 O<|R.nil<|R.mp (fun _ hw=>hw.a8 (α:=aj))<|R.mp (fun _ hw=>hw.a8 (α:=aE))<|R.mp (fun _ hw=>hw.a8 (α:=Held))<|R.mp (fun _ hw=>hw.a8 (α:=Note)) ?_
 have hz:fV r p d=((⟨[],[],[],[],0,0⟩:aC),(cC r p 1 2).2.2):=by (unfold fV gW;(repeat' split) <;> first|rfl|(exfalso;omega)|(simp_all;done))
 rw [hz]
 exact R.w2 ((nS),(nS),(nS),(nS)) [4] gj O Tryz.results61 (RV.cell 1 O O ao) (RV.tmp O) O O O (dy O O)
set_option maxRecDepth 100000 in
set_option maxHeartbeats 90000000 in
theorem H5 (bR bH bI bJ:Value)(r:aC)(p:Place)(d:ByteArray)(slot:Int)(rights:Int)(w:World)(own:List Nat)(H:HN w own [] [ag.ls bR r.ak,ag.ls bH r.Things,ag.ls bI r.Held,ag.ls bJ r.Notes])(hk:Ok r):RC Tryz.prog 62 #[.agg #[bR,bH,bI,bJ,iV r.ae,iV r.ah],.agg #[iV p.aB,iV p.Slot],.string d,iV slot,iV rights] H (fun z:Value×Value×Value×Value => .tuple #[.agg #[z.1,z.2.1,z.2.2.1,z.2.2.2,iV (dN r p d slot rights).1.ae,iV (dN r p d slot rights).1.ah],df (dN r p d slot rights).2]) (fun _=>[]) (fun z=>[ag.ls z.1 (dN r p d slot rights).1.ak,ag.ls z.2.1 (dN r p d slot rights).1.Things,ag.ls z.2.2.1 (dN r p d slot rights).1.Held,ag.ls z.2.2.2 (dN r p d slot rights).1.Notes]):=by
 have eJ:=H.cq 0 rfl
 have dM:=H.cq 1 rfl
 have fG:=H.cq 2 rfl
 have eK:=H.cq 3 rfl
 have bw:=hk.wl;have bt:=hk.tl;have bh:=hk.hl;have bn:=hk.nl;have KM:=hk.w0;have KN:=hk.w1;have KO:=hk.t0;have KP:=hk.t1
 refine R.bC [(0,.agg #[bR,bH,bI,bJ,iV r.ae,iV r.ah]),(1,.agg #[iV p.aB,iV p.Slot]),(2,.string d),(3,iV slot),(4,iV rights)] Tryz.func62 O O O O H<|R.reg O<|R.s O (s.box O O O) fun b1=>?_
 refine R.s O (s.box O O O) fun b2=>?_
 refine R.s O (s.alloc dP O O) fun b3=>?_
 refine R.u 1 O<|R.nil<|R.reg O<|R.q (q.dt 2 O O ao) O<|R.q (q.dt 1 O O bM) O<|R.c (q.call Ey O O (fun w hw=>(xM _ _ _ _ r p 2 2 w (hw.bP 0 O) (hw.bP 1 O) (hw.bP 2 O) (hw.bP 3 O) ‹_› (by omega)))) O<|R.u 4 O<|?_
 refine R.s O (s.alloc bO O O) fun b4=>?_
 refine R.s O (s.st 0 _ O O O O (.inl aM) O O O O) fun _=>?_
 refine R.u 2 O<|R.nil<|R.reg O<|R.u 1 O<|?_
 by_cases h1:(cC r p 2 2).2.2=0
 .
  have mz:=qU h1;have mr:=hk.get mz.1;rw [<- mz.2.1] at mr
  refine R.q (q.dB O O Tryz.underlying38) O<|R.nil<|R.aA O O<|R.reg O<|R.u 1 O<|R.q (q.iA O Tryz.underlying9) O<|?_
  by_cases h2:8<d.size
  .
   refine R.q (q.eL O O) O<|R.nil<|R.av O O<|R.reg O<|R.q (q.build dZ O O) O<|R.q (q.iface O bj) O<|R.s O (s.st 1 _ O O O O (.inl ao) O O O O) fun _=>?_
   refine R.u 1 O<|R.nil<|R.mp (fun _ hw=>hw.a8 (α:=aj))<|R.mp (fun _ hw=>hw.a8 (α:=aE))<|R.mp (fun _ hw=>hw.a8 (α:=Held))<|R.mp (fun _ hw=>hw.a8 (α:=Note)) ?_
   have hz:dN r p d slot rights=((⟨[],[],[],[],0,0⟩:aC),2):=by (unfold dN;(repeat' split) <;> rfl)
   rw [hz]
   exact R.w2 ((nS),(nS),(nS),(nS)) [4] gj O Tryz.results62 (RV.cell 1 O O ao) (RV.tmp O) O O O (dy O (dj (by decide) O))
  refine R.q (q.eo O O) O<|R.nil<|R.aA O O<|R.reg O<|R.u 1 O<|R.nil<|R.reg O<|R.q (q.aO O cB O) O<|R.q (q.ld 3 O O du O) O<|R.q (q.len' (dw 3 O) O Tryz.underlying46) O<|R.u 1 O<|R.nil<|R.loop (fun g_:Nat×Nat=>[(2,.string d),(3,iV slot),(4,iV rights),(5,.pointer (some ⟨b1,0,none⟩)),(6,.pointer (some ⟨b2,0,none⟩)),(10,.pointer (some ⟨b3,0,none⟩)),(12,.pointer (some ⟨b4,0,none⟩)),(15,iV (g_.2:Int)),(39,bJ),(40,iV (r.Notes.length:Int)),(41,iV (g_.1:Int))]) (fun g_=>[ag.box b4 [iV (cC r p 2 2).1.ID,iV (cC r p 2 2).1.aE,iV (cC r p 2 2).1.Rights,iV (cC r p 2 2).1.aQ,iV (cC r p 2 2).1.From] 127,ag.box b3 GX 48,ag.box b2 (jO p) 32,ag.box b1 [bR,bH,bI,bJ,iV r.ae,iV r.ah] 48,ag.held w own]) (fun g_=>[ag.ls bR r.ak,ag.ls bH r.Things,ag.ls bI r.Held,ag.ls bJ r.Notes]) (fun g_=>g_.1<=r.Notes.length/\g_.2=gh (r.Notes.take g_.1) (cC r p 2 2).1.aE) (fun g_=>r.Notes.length-g_.1) (0,0) O (by exact ⟨by omega,by simp [gh]⟩) (sF O) (ic gX bL O) ?_
  rintro ⟨k,c⟩ ⟨hk1,HC⟩
  dsimp only at *
  have hc1:c<=k:=by rw [HC];exact MJ
  refine R.reg O<|?_
  by_cases h3:k<r.Notes.length
  .
   refine R.q (q.dx O O) O<|R.nil<|R.av O O<|R.reg O<|?_
   obtain ⟨x1,hx1⟩:∃z,r.Notes[k]? = some z:=⟨_,List.getElem?_eq_getElem (by omega)⟩
   refine R.q (q.idx (i:=k) (dw 3 O) O O fu O hx1) O<|R.q (q.eS (ds:=ou x1) (dw 3 O) hx1 O dh O) O<|R.s O (s.alloc eU O O) fun b5=>?_
   refine R.s O (s.st 0 _ O O O O (.inl dh) O O O O) fun _=>?_
   refine R.nil<|R.reg O<|R.q (q.aO O qB O) O<|R.q (q.ld 0 O O au O) O<|R.q (q.aO O fR O) O<|R.q (q.ld 1 O O au O) O<|?_
   by_cases h4:x1.Port=(cC r p 2 2).1.aE
   .
    refine R.q (q.fN O O) O<|R.nil<|R.av O O<|R.reg O<|R.u 1 O<|R.q (q.bA (r:=((c+1:Nat):Int)) O O) O<|R.u 1 O<|R.nil<|R.reg O<|R.q (q.bA (r:=((k+1:Nat):Int)) O O) O<|R.u 1 O<|R.nil<|R.back ((k+1),(c+1)) O (by (exact ⟨by omega,by rw [KG hx1 ‹_›,HC]⟩)) (by dsimp only;omega) (sF O) (aD uw bL O)
   refine R.q (q.e8 O O) O<|R.nil<|R.aA O O<|R.reg O<|R.q (q.bA (r:=((k+1:Nat):Int)) O O) O<|R.u 1 O<|R.nil<|R.back ((k+1),c) O (by (exact ⟨by omega,by rw [HZ hx1 ‹_›,HC]⟩)) (by dsimp only;omega) (sF O) (aD uw bL O)
  refine R.q (q.cU O O) O<|R.nil<|R.aA O O<|R.reg O<|R.u 1 O<|?_
  by_cases h5:c=3
  .
   refine R.q (q.fN O O) O<|R.nil<|R.av O O<|R.reg O<|R.q (q.build dZ O O) O<|R.q (q.iface O bj) O<|R.s O (s.st 1 _ O O O O (.inl ao) O O O O) fun _=>?_
   refine R.u 1 O<|R.nil<|R.mp (fun _ hw=>hw.a8 (α:=aj))<|R.mp (fun _ hw=>hw.a8 (α:=aE))<|R.mp (fun _ hw=>hw.a8 (α:=Held))<|R.mp (fun _ hw=>hw.a8 (α:=Note)) ?_
   have hz:dN r p d slot rights=((⟨[],[],[],[],0,0⟩:aC),9):=by (rw [List.take_of_length_le (by omega)] at HC;subst HC;unfold dN;(repeat' split) <;> rfl)
   rw [hz]
   exact R.w2 ((nS),(nS),(nS),(nS)) [4] gj O Tryz.results62 (RV.cell 1 O O ao) (RV.tmp O) O O O (dy O (dj (by decide) O))
  refine R.q (q.e8 O O) O<|R.nil<|R.aA O O<|R.reg O<|R.q (q.aO O fR O) O<|R.q (q.ld 0 O O au O) O<|R.u 1 O<|R.q (q.aO O iZ O) O<|R.q (q.ld 0 O O au O) O<|R.q (q.build FV O O) O<|R.s O (s.alloc eU O O) fun b6=>?_
  refine R.s O (s.st 0 _ O O O O (.inl dh) O O O O) fun _=>?_
  refine R.nil<|R.reg O<|R.u 1 O<|?_
  by_cases h6:slot<0
  .
   refine R.q (q.IP O O) O<|R.nil<|R.aA O O<|R.fY (fuel:=8) nC O O mixed O<|D.q (i:=0) O (aD nC bL O) O (q.aO O cB O) O<|D.q (i:=3) O (aD nC bL O) O (q.dt 0 O O dh) O<|D.two (i:=1) (j:=4) O O ?_ ?_
   .
    refine Do.s (s.c (Qt.a (q.ld 4 O O du O)) O) (fun _=>(aD nC bL O)) O fun _=>?_
    refine D.two (i:=2) (j:=4) O O ?_ ?_
    .
     refine Do.s (s.aW rm [3] _ _ _ O O O oE O O (fun w own hw H=>fe bJ r.Notes w own H (by omega)) O) (fun _=>(aD sD bL O)) O fun z2=>?_
     refine D.one (i:=4) O<|Do.s (s.bs (l:=([(⟨((cC r p 2 2).1).aE,d,(cC r p 2 2).1.aQ,0⟩:Note)]:List Note)) fu eU O O O O O O O) (fun _=>(aD o9 bL O)) O fun b7=>?_
     refine D.one (i:=5) O<|Do.s (s.app 1 _ O O O (bB 0 O) kj (by (simp;omega)) (by (simp;omega)) (fun _=>rfl) O) (fun _=>(aD o9 bL O)) O fun v1=>?_
     refine D.q (i:=6) O (aD o9 bL O) O (q.aO O cB O) O<|D.one (i:=7) O<|Do.s (s.fX 6 _ O O O (fun w hw=>Sl.cm (hw.row 1 O)) (.inr ⟨du,rfl⟩) (fun w hw=>(af (Sl.one (hw.row 1 O)) aP)) O O O) (fun _=>(aD o9 bL O)) O fun _=>?_
     refine D.done<|R.reg O<|R.q (q.dt 6 O O ao) O<|R.s O (s.fX 4 _ O O O (fun _ _=>rfl) (.inl ao) (fun w hw=>(af (Sl.one (hw.bP 0 O)) (af (Sl.one (hw.bP 1 O)) (af (Sl.one (hw.bP 2 O)) (af (Sl.one (hw.row 1 O)) (af O (af O aP))))))) O O O) fun _=>?_
     refine R.u 1 O<|R.nil<|R.mp (fun _ hw=>hw.cW 1 _ O O) ?_
     have hz:dN r p d slot rights=((⟨r.ak,r.Things,r.Held,(r.Notes++([(⟨((cC r p 2 2).1).aE,d,(cC r p 2 2).1.aQ,0⟩:Note)])),r.ae,r.ah⟩:aC),0):=by (rw [List.take_of_length_le (by omega)] at HC;subst HC;unfold dN;(repeat' split) <;> rfl)
     rw [hz]
     exact R.w2 (bR,bH,bI,v1) [6] vL O Tryz.results62 (RV.cell 3 O O ao) (RV.tmp O) O O O (dy O (iK O))
    refine Do.s (s.bs (l:=([(⟨((cC r p 2 2).1).aE,d,(cC r p 2 2).1.aQ,0⟩:Note)]:List Note)) fu eU O O O O O O O) (fun _=>(aD sD bL O)) O fun b8=>?_
    refine D.one (i:=2) O<|Do.s (s.aW mg [3] _ _ _ O O O oE O O (fun w own hw H=>fe bJ r.Notes w own H (by omega)) O) (fun _=>(aD o9 bL O)) O fun z3=>?_
    refine D.one (i:=5) O<|Do.s (s.app 0 _ O O O (bB 1 O) kj (by (simp;omega)) (by (simp;omega)) (fun _=>rfl) O) (fun _=>(aD o9 bL O)) O fun v2=>?_
    refine D.q (i:=6) O (aD o9 bL O) O (q.aO O cB O) O<|D.one (i:=7) O<|Do.s (s.fX 6 _ O O O (fun w hw=>Sl.cm (hw.row 0 O)) (.inr ⟨du,rfl⟩) (fun w hw=>(af (Sl.one (hw.row 0 O)) aP)) O O O) (fun _=>(aD o9 bL O)) O fun _=>?_
    refine D.done<|R.reg O<|R.q (q.dt 6 O O ao) O<|R.s O (s.fX 4 _ O O O (fun _ _=>rfl) (.inl ao) (fun w hw=>(af (Sl.one (hw.bP 0 O)) (af (Sl.one (hw.bP 1 O)) (af (Sl.one (hw.bP 2 O)) (af (Sl.one (hw.row 0 O)) (af O (af O aP))))))) O O O) fun _=>?_
    refine R.u 1 O<|R.nil<|R.mp (fun _ hw=>hw.cW 0 _ O O) ?_
    have hz:dN r p d slot rights=((⟨r.ak,r.Things,r.Held,(r.Notes++([(⟨((cC r p 2 2).1).aE,d,(cC r p 2 2).1.aQ,0⟩:Note)])),r.ae,r.ah⟩:aC),0):=by (rw [List.take_of_length_le (by omega)] at HC;subst HC;unfold dN;(repeat' split) <;> rfl)
    rw [hz]
    exact R.w2 (bR,bH,bI,v2) [6] vL O Tryz.results62 (RV.cell 3 O O ao) (RV.tmp O) O O O (dy O (iK O))
   refine Do.s (s.bs (l:=([(⟨((cC r p 2 2).1).aE,d,(cC r p 2 2).1.aQ,0⟩:Note)]:List Note)) fu eU O O O O O O O) (fun _=>(aD sD bL O)) O fun b9=>?_
   refine D.one (i:=1) O<|Do.s (s.c (Qt.a (q.ld 5 O O du O)) O) (fun _=>(aD sD bL O)) O fun _=>?_
   refine D.one (i:=2) O<|Do.s (s.aW mg [3] _ _ _ O O O oE O O (fun w own hw H=>fe bJ r.Notes w own H (by omega)) O) (fun _=>(aD o9 bL O)) O fun z4=>?_
   refine D.one (i:=5) O<|Do.s (s.app 0 _ O O O (bB 1 O) kj (by (simp;omega)) (by (simp;omega)) (fun _=>rfl) O) (fun _=>(aD o9 bL O)) O fun v3=>?_
   refine D.q (i:=6) O (aD o9 bL O) O (q.aO O cB O) O<|D.one (i:=7) O<|Do.s (s.fX 6 _ O O O (fun w hw=>Sl.cm (hw.row 0 O)) (.inr ⟨du,rfl⟩) (fun w hw=>(af (Sl.one (hw.row 0 O)) aP)) O O O) (fun _=>(aD o9 bL O)) O fun _=>?_
   refine D.done<|R.reg O<|R.q (q.dt 6 O O ao) O<|R.s O (s.fX 4 _ O O O (fun _ _=>rfl) (.inl ao) (fun w hw=>(af (Sl.one (hw.bP 0 O)) (af (Sl.one (hw.bP 1 O)) (af (Sl.one (hw.bP 2 O)) (af (Sl.one (hw.row 0 O)) (af O (af O aP))))))) O O O) fun _=>?_
   refine R.u 1 O<|R.nil<|R.mp (fun _ hw=>hw.cW 0 _ O O) ?_
   have hz:dN r p d slot rights=((⟨r.ak,r.Things,r.Held,(r.Notes++([(⟨((cC r p 2 2).1).aE,d,(cC r p 2 2).1.aQ,0⟩:Note)])),r.ae,r.ah⟩:aC),0):=by (rw [List.take_of_length_le (by omega)] at HC;subst HC;unfold dN;(repeat' split) <;> rfl)
   rw [hz]
   exact R.w2 (bR,bH,bI,v3) [6] vL O Tryz.results62 (RV.cell 3 O O ao) (RV.tmp O) O O O (dy O (iK O))
  refine R.q (q.G0 O O) O<|R.nil<|R.av O O<|R.reg O<|R.q (q.aO O jT O) O<|R.q (q.ld 1 O O au O) O<|?_
  rcases Bool.eq_false_or_eq_true (ji (cC r p 2 2).1.Rights 4) with h7|h7
  .
   refine R.c (q.call pR O O (fun w hw=>(cv (congrArg Value.bool h7) (gJ (cC r p 2 2).1.Rights 4 w (by omega) (by omega))))) O<|R.u 1 O<|R.nil ?_
   refine R.aA O O<|R.reg O<|R.q (q.dt 4 O O ao) O<|R.q (q.aO O fq O) O<|R.q (q.ld 3 O O au O) O<|R.u 1 O<|R.q (q.build wk O O) O<|R.c (q.call tJ O O (fun w hw=>(qV _ _ _ _ r (⟨p.aB,slot⟩:Place) w (hw.bP 0 O) (hw.bP 1 O) (hw.bP 2 O) (hw.bP 3 O) ‹_›))) O<|R.u 3 O<|?_
   refine R.s O (s.alloc bO O O) fun b10=>?_
   refine R.s O (s.st 0 _ O O O O (.inl aM) O O O O) fun _=>?_
   refine R.u 1 O<|R.nil<|R.reg O<|R.u 1 O<|?_
   by_cases h8:(aS r (⟨p.aB,slot⟩:Place)).2=0
   .
    have Wl:=hk.get h8
    have hn0:∀x,(fx r x ⟨0,0⟩).Notes.length<=2000:=fun x=>hk.nl
    have hnz:=hn0 (derived (aS r ⟨p.aB,slot⟩).1 r.ae rights 0).1
    refine R.q (q.dB O O Tryz.underlying38) O<|R.nil<|R.aA O O<|R.reg O<|R.q (q.aO O cJ O) O<|R.q (q.ld 5 O O au O) O<|?_
    by_cases h9:999<r.ae
    .
     refine R.q (q.eL O O) O<|R.nil<|R.av O O<|R.reg O<|R.q (q.build dZ O O) O<|R.q (q.iface O bj) O<|R.s O (s.st 3 _ O O O O (.inl ao) O O O O) fun _=>?_
     refine R.u 1 O<|R.nil<|R.mp (fun _ hw=>hw.a8 (α:=aj))<|R.mp (fun _ hw=>hw.a8 (α:=aE))<|R.mp (fun _ hw=>hw.a8 (α:=Held))<|R.mp (fun _ hw=>hw.a8 (α:=Note)) ?_
     have hz:dN r p d slot rights=((⟨[],[],[],[],0,0⟩:aC),9):=by (rw [List.take_of_length_le (by omega)] at HC;subst HC;unfold dN;(repeat' split) <;> rfl)
     rw [hz]
     exact R.w2 ((nS),(nS),(nS),(nS)) [6] gj O Tryz.results62 (RV.cell 3 O O ao) (RV.tmp O) O O O (dy O (dj (by decide) O))
    refine R.q (q.eo O O) O<|R.nil<|R.aA O O<|R.reg O<|R.q (q.dt 0 O O aM) O<|R.q (q.aO O cJ O) O<|R.q (q.ld 5 O O au O) O<|R.u 1 O<|R.c (q.call wv O O (fun w hw=>(mF (aS r (⟨p.aB,slot⟩:Place)).1 r.ae rights 0 w (by omega)))) O<|R.u 3 O<|?_
    refine R.s O (s.alloc bO O O) fun b11=>?_
    refine R.s O (s.st 0 _ O O O O (.inl aM) O O O O) fun _=>?_
    refine R.u 1 O<|R.nil<|R.reg O<|R.u 1 O<|?_
    by_cases h10:(derived (aS r (⟨p.aB,slot⟩:Place)).1 r.ae rights 0).2=0
    .
     refine R.q (q.dB O O Tryz.underlying38) O<|R.nil<|R.aA O O<|R.reg O<|R.q (q.dt 6 O O ao) O<|R.q (q.dt 0 O O aM) O<|R.q (q.build wk O O) O<|R.s O (s.aW ff bL _ _ _ O O O wu O O (fun w own hw H=>qq bR bH bI bJ r (derived (aS r (⟨p.aB,slot⟩:Place)).1 r.ae rights 0).1 (⟨0,0⟩:Place) w own H (by omega)) O) ?_
     rintro ⟨z5,z6,z7,z8⟩
     dsimp only
     refine R.s O (s.fX 6 _ O O O (fun _ _=>rfl) (.inl ao) (fun w hw=>(af (Sl.one (hw.bP 0 O)) (af (Sl.one (hw.bP 1 O)) (af (Sl.one (hw.bP 2 O)) (af (Sl.one (hw.bP 3 O)) (af O (af O aP))))))) O O O) fun _=>?_
     refine R.nil<|R.reg O<|R.q (q.aO O bU O) O<|R.q (q.ld 0 O O au O) O<|R.q (q.aO O iG O) O<|R.s O (s.st 2 _ O O O O (.inr ⟨au,rfl⟩) O O O O) fun _=>?_
     refine R.nil<|R.fY (fuel:=8) Cd O O mixed O<|D.q (i:=0) O (aD Cd ff O) O (q.aO O cB O) O<|D.q (i:=3) O (aD Cd ff O) O (q.dt 2 O O dh) O<|D.two (i:=1) (j:=4) O O ?_ ?_
     .
      refine Do.s (s.c (Qt.a (q.ld 6 O O du O)) O) (fun _=>(aD Cd ff O)) O fun _=>?_
      refine D.two (i:=2) (j:=4) O O ?_ ?_
      .
       refine Do.s (s.aW ff [3] _ _ _ O O O oE O O (fun w own hw H=>fe z8 (fx r (derived (aS r (⟨p.aB,slot⟩:Place)).1 r.ae rights 0).1 (⟨0,0⟩:Place)).Notes w own H (by omega)) O) (fun _=>(aD [1,2,3,4,5,6,8] ff O)) O fun lH=>?_
       refine D.one (i:=4) O<|Do.s (s.bs (l:=([(⟨((cC r p 2 2).1).aE,d,(cC r p 2 2).1.aQ,(derived (aS r (⟨p.aB,slot⟩:Place)).1 r.ae rights 0).1.ID⟩:Note)]:List Note)) fu eU O O O O O O O) (fun _=>(aD pb ff O)) O fun b12=>?_
       refine D.one (i:=5) O<|Do.s (s.app 1 _ O O O (bB 0 O) kj (by (simp;omega)) (by (simp;omega)) (fun _=>rfl) O) (fun _=>(aD pb ff O)) O fun v4=>?_
       refine D.q (i:=6) O (aD pb ff O) O (q.aO O cB O) O<|D.one (i:=7) O<|Do.s (s.fX 8 _ O O O (fun w hw=>Sl.cm (hw.row 1 O)) (.inr ⟨du,rfl⟩) (fun w hw=>(af (Sl.one (hw.row 1 O)) aP)) O O O) (fun _=>(aD pb ff O)) O fun _=>?_
       refine D.done<|R.reg O<|R.q (q.dt 8 O O ao) O<|R.s O (s.fX 6 _ O O O (fun _ _=>rfl) (.inl ao) (fun w hw=>(af (Sl.one (hw.bP 0 O)) (af (Sl.one (hw.bP 1 O)) (af (Sl.one (hw.bP 2 O)) (af (Sl.one (hw.row 1 O)) (af O (af O aP))))))) O O O) fun _=>?_
       refine R.u 1 O<|R.nil<|R.mp (fun _ hw=>hw.cW 1 _ O O) ?_
       have hz:dN r p d slot rights=((⟨(fx r (derived (aS r (⟨p.aB,slot⟩:Place)).1 r.ae rights 0).1 (⟨0,0⟩:Place)).ak,(fx r (derived (aS r (⟨p.aB,slot⟩:Place)).1 r.ae rights 0).1 (⟨0,0⟩:Place)).Things,(fx r (derived (aS r (⟨p.aB,slot⟩:Place)).1 r.ae rights 0).1 (⟨0,0⟩:Place)).Held,(((fx r (derived (aS r (⟨p.aB,slot⟩:Place)).1 r.ae rights 0).1 (⟨0,0⟩:Place)).Notes)++([(⟨((cC r p 2 2).1).aE,d,(cC r p 2 2).1.aQ,(derived (aS r (⟨p.aB,slot⟩:Place)).1 r.ae rights 0).1.ID⟩:Note)])),(fx r (derived (aS r (⟨p.aB,slot⟩:Place)).1 r.ae rights 0).1 (⟨0,0⟩:Place)).ae,(fx r (derived (aS r (⟨p.aB,slot⟩:Place)).1 r.ae rights 0).1 (⟨0,0⟩:Place)).ah⟩:aC),0):=by (rw [List.take_of_length_le (by omega)] at HC;subst HC;unfold dN;(repeat' split) <;> rfl)
       rw [hz]
       exact R.w2 (z5,z6,z7,v4) [8] vL O Tryz.results62 (RV.cell 5 O O ao) (RV.tmp O) O O O (dy O (iK O))
      refine Do.s (s.bs (l:=([(⟨((cC r p 2 2).1).aE,d,(cC r p 2 2).1.aQ,(derived (aS r (⟨p.aB,slot⟩:Place)).1 r.ae rights 0).1.ID⟩:Note)]:List Note)) fu eU O O O O O O O) (fun _=>(aD [1,2,3,4,5,6,8] ff O)) O fun b13=>?_
      refine D.one (i:=2) O<|Do.s (s.aW bZ [3] _ _ _ O O O oE O O (fun w own hw H=>fe z8 (fx r (derived (aS r (⟨p.aB,slot⟩:Place)).1 r.ae rights 0).1 (⟨0,0⟩:Place)).Notes w own H (by omega)) O) (fun _=>(aD pb ff O)) O fun l9=>?_
      refine D.one (i:=5) O<|Do.s (s.app 0 _ O O O (bB 1 O) kj (by (simp;omega)) (by (simp;omega)) (fun _=>rfl) O) (fun _=>(aD pb ff O)) O fun v5=>?_
      refine D.q (i:=6) O (aD pb ff O) O (q.aO O cB O) O<|D.one (i:=7) O<|Do.s (s.fX 8 _ O O O (fun w hw=>Sl.cm (hw.row 0 O)) (.inr ⟨du,rfl⟩) (fun w hw=>(af (Sl.one (hw.row 0 O)) aP)) O O O) (fun _=>(aD pb ff O)) O fun _=>?_
      refine D.done<|R.reg O<|R.q (q.dt 8 O O ao) O<|R.s O (s.fX 6 _ O O O (fun _ _=>rfl) (.inl ao) (fun w hw=>(af (Sl.one (hw.bP 0 O)) (af (Sl.one (hw.bP 1 O)) (af (Sl.one (hw.bP 2 O)) (af (Sl.one (hw.row 0 O)) (af O (af O aP))))))) O O O) fun _=>?_
      refine R.u 1 O<|R.nil<|R.mp (fun _ hw=>hw.cW 0 _ O O) ?_
      have hz:dN r p d slot rights=((⟨(fx r (derived (aS r (⟨p.aB,slot⟩:Place)).1 r.ae rights 0).1 (⟨0,0⟩:Place)).ak,(fx r (derived (aS r (⟨p.aB,slot⟩:Place)).1 r.ae rights 0).1 (⟨0,0⟩:Place)).Things,(fx r (derived (aS r (⟨p.aB,slot⟩:Place)).1 r.ae rights 0).1 (⟨0,0⟩:Place)).Held,(((fx r (derived (aS r (⟨p.aB,slot⟩:Place)).1 r.ae rights 0).1 (⟨0,0⟩:Place)).Notes)++([(⟨((cC r p 2 2).1).aE,d,(cC r p 2 2).1.aQ,(derived (aS r (⟨p.aB,slot⟩:Place)).1 r.ae rights 0).1.ID⟩:Note)])),(fx r (derived (aS r (⟨p.aB,slot⟩:Place)).1 r.ae rights 0).1 (⟨0,0⟩:Place)).ae,(fx r (derived (aS r (⟨p.aB,slot⟩:Place)).1 r.ae rights 0).1 (⟨0,0⟩:Place)).ah⟩:aC),0):=by (rw [List.take_of_length_le (by omega)] at HC;subst HC;unfold dN;(repeat' split) <;> rfl)
      rw [hz]
      exact R.w2 (z5,z6,z7,v5) [8] vL O Tryz.results62 (RV.cell 5 O O ao) (RV.tmp O) O O O (dy O (iK O))
     refine Do.s (s.bs (l:=([(⟨((cC r p 2 2).1).aE,d,(cC r p 2 2).1.aQ,(derived (aS r (⟨p.aB,slot⟩:Place)).1 r.ae rights 0).1.ID⟩:Note)]:List Note)) fu eU O O O O O O O) (fun _=>(aD [1,2,3,4,5,6,8] ff O)) O fun b14=>?_
     refine D.one (i:=1) O<|Do.s (s.c (Qt.a (q.ld 7 O O du O)) O) (fun _=>(aD [1,2,3,4,5,6,8] ff O)) O fun _=>?_
     refine D.one (i:=2) O<|Do.s (s.aW bZ [3] _ _ _ O O O oE O O (fun w own hw H=>fe z8 (fx r (derived (aS r (⟨p.aB,slot⟩:Place)).1 r.ae rights 0).1 (⟨0,0⟩:Place)).Notes w own H (by omega)) O) (fun _=>(aD pb ff O)) O fun z12=>?_
     refine D.one (i:=5) O<|Do.s (s.app 0 _ O O O (bB 1 O) kj (by (simp;omega)) (by (simp;omega)) (fun _=>rfl) O) (fun _=>(aD pb ff O)) O fun v6=>?_
     refine D.q (i:=6) O (aD pb ff O) O (q.aO O cB O) O<|D.one (i:=7) O<|Do.s (s.fX 8 _ O O O (fun w hw=>Sl.cm (hw.row 0 O)) (.inr ⟨du,rfl⟩) (fun w hw=>(af (Sl.one (hw.row 0 O)) aP)) O O O) (fun _=>(aD pb ff O)) O fun _=>?_
     refine D.done<|R.reg O<|R.q (q.dt 8 O O ao) O<|R.s O (s.fX 6 _ O O O (fun _ _=>rfl) (.inl ao) (fun w hw=>(af (Sl.one (hw.bP 0 O)) (af (Sl.one (hw.bP 1 O)) (af (Sl.one (hw.bP 2 O)) (af (Sl.one (hw.row 0 O)) (af O (af O aP))))))) O O O) fun _=>?_
     refine R.u 1 O<|R.nil<|R.mp (fun _ hw=>hw.cW 0 _ O O) ?_
     have hz:dN r p d slot rights=((⟨(fx r (derived (aS r (⟨p.aB,slot⟩:Place)).1 r.ae rights 0).1 (⟨0,0⟩:Place)).ak,(fx r (derived (aS r (⟨p.aB,slot⟩:Place)).1 r.ae rights 0).1 (⟨0,0⟩:Place)).Things,(fx r (derived (aS r (⟨p.aB,slot⟩:Place)).1 r.ae rights 0).1 (⟨0,0⟩:Place)).Held,(((fx r (derived (aS r (⟨p.aB,slot⟩:Place)).1 r.ae rights 0).1 (⟨0,0⟩:Place)).Notes)++([(⟨((cC r p 2 2).1).aE,d,(cC r p 2 2).1.aQ,(derived (aS r (⟨p.aB,slot⟩:Place)).1 r.ae rights 0).1.ID⟩:Note)])),(fx r (derived (aS r (⟨p.aB,slot⟩:Place)).1 r.ae rights 0).1 (⟨0,0⟩:Place)).ae,(fx r (derived (aS r (⟨p.aB,slot⟩:Place)).1 r.ae rights 0).1 (⟨0,0⟩:Place)).ah⟩:aC),0):=by (rw [List.take_of_length_le (by omega)] at HC;subst HC;unfold dN;(repeat' split) <;> rfl)
     rw [hz]
     exact R.w2 (z5,z6,z7,v6) [8] vL O Tryz.results62 (RV.cell 5 O O ao) (RV.tmp O) O O O (dy O (iK O))
    refine R.q (q.ej O O Tryz.underlying38) O<|R.nil<|R.av O O<|R.reg O<|R.q (q.build dZ O O) O<|R.u 1 O<|R.s O (s.st 4 _ O O O O (.inl ao) O O O O) fun _=>?_
    refine R.u 1 O<|R.nil<|R.mp (fun _ hw=>hw.a8 (α:=aj))<|R.mp (fun _ hw=>hw.a8 (α:=aE))<|R.mp (fun _ hw=>hw.a8 (α:=Held))<|R.mp (fun _ hw=>hw.a8 (α:=Note)) ?_
    have hz:dN r p d slot rights=((⟨[],[],[],[],0,0⟩:aC),(derived (aS r (⟨p.aB,slot⟩:Place)).1 r.ae rights 0).2):=by (rw [List.take_of_length_le (by omega)] at HC;subst HC;unfold dN;(repeat' split) <;> rfl)
    rw [hz]
    exact R.w2 ((nS),(nS),(nS),(nS)) [7] gj O Tryz.results62 (RV.cell 4 O O ao) (RV.tmp O) O O O (dy O O)
   refine R.q (q.ej O O Tryz.underlying38) O<|R.nil<|R.av O O<|R.reg O<|R.q (q.build dZ O O) O<|R.u 1 O<|R.s O (s.st 3 _ O O O O (.inl ao) O O O O) fun _=>?_
   refine R.u 1 O<|R.nil<|R.mp (fun _ hw=>hw.a8 (α:=aj))<|R.mp (fun _ hw=>hw.a8 (α:=aE))<|R.mp (fun _ hw=>hw.a8 (α:=Held))<|R.mp (fun _ hw=>hw.a8 (α:=Note)) ?_
   have hz:dN r p d slot rights=((⟨[],[],[],[],0,0⟩:aC),(aS r (⟨p.aB,slot⟩:Place)).2):=by (rw [List.take_of_length_le (by omega)] at HC;subst HC;unfold dN;(repeat' split) <;> rfl)
   rw [hz]
   exact R.w2 ((nS),(nS),(nS),(nS)) [6] gj O Tryz.results62 (RV.cell 3 O O ao) (RV.tmp O) O O O (dy O O)
  refine R.c (q.call pR O O (fun w hw=>(cv (congrArg Value.bool h7) (gJ (cC r p 2 2).1.Rights 4 w (by omega) (by omega))))) O<|R.u 1 O<|R.nil ?_
  refine R.av O O<|R.reg O<|R.q (q.build dZ O O) O<|R.q (q.iface O bj) O<|R.s O (s.st 2 _ O O O O (.inl ao) O O O O) fun _=>?_
  refine R.u 1 O<|R.nil<|R.mp (fun _ hw=>hw.a8 (α:=aj))<|R.mp (fun _ hw=>hw.a8 (α:=aE))<|R.mp (fun _ hw=>hw.a8 (α:=Held))<|R.mp (fun _ hw=>hw.a8 (α:=Note)) ?_
  have hz:dN r p d slot rights=((⟨[],[],[],[],0,0⟩:aC),7):=by (rw [List.take_of_length_le (by omega)] at HC;subst HC;unfold dN;(repeat' split) <;> first|rfl|(exfalso;omega)|(simp_all;done))
  rw [hz]
  exact R.w2 ((nS),(nS),(nS),(nS)) [5] gj O Tryz.results62 (RV.cell 2 O O ao) (RV.tmp O) O O O (dy O (dj (by decide) O))
 refine R.q (q.ej O O Tryz.underlying38) O<|R.nil<|R.av O O<|R.reg O<|R.q (q.build dZ O O) O<|R.u 1 O<|R.s O (s.st 1 _ O O O O (.inl ao) O O O O) fun _=>?_
 refine R.u 1 O<|R.nil<|R.mp (fun _ hw=>hw.a8 (α:=aj))<|R.mp (fun _ hw=>hw.a8 (α:=aE))<|R.mp (fun _ hw=>hw.a8 (α:=Held))<|R.mp (fun _ hw=>hw.a8 (α:=Note)) ?_
 have hz:dN r p d slot rights=((⟨[],[],[],[],0,0⟩:aC),(cC r p 2 2).2.2):=by (unfold dN;(repeat' split) <;> first|rfl|(exfalso;omega)|(simp_all;done))
 rw [hz]
 exact R.w2 ((nS),(nS),(nS),(nS)) [4] gj O Tryz.results62 (RV.cell 1 O O ao) (RV.tmp O) O O O (dy O O)
theorem H6 (bR bH bI bJ:Value)(r:aC)(p:Place)(w:World)(own:List Nat)(H:HN w own [] [ag.ls bR r.ak,ag.ls bH r.Things,ag.ls bI r.Held,ag.ls bJ r.Notes])(hk:Ok r):RC Tryz.prog 63 #[.agg #[bR,bH,bI,bJ,iV r.ae,iV r.ah],.agg #[iV p.aB,iV p.Slot]] H (fun z:Value×Value×Value×Value => .tuple #[.agg #[z.1,z.2.1,z.2.2.1,z.2.2.2,iV (eB r p).1.ae,iV (eB r p).1.ah],.agg #[iV (eB r p).2.1.Port,.string (eB r p).2.1.Data,iV (eB r p).2.1.aQ,iV (eB r p).2.1.aj],iV (eB r p).2.2.1,df (eB r p).2.2.2]) (fun _=>[]) (fun z=>[ag.ls z.1 (eB r p).1.ak,ag.ls z.2.1 (eB r p).1.Things,ag.ls z.2.2.1 (eB r p).1.Held,ag.ls z.2.2.2 (eB r p).1.Notes]):=by
 have eJ:=H.cq 0 rfl
 have dM:=H.cq 1 rfl
 have fG:=H.cq 2 rfl
 have eK:=H.cq 3 rfl
 have bw:=hk.wl;have bt:=hk.tl;have bh:=hk.hl;have bn:=hk.nl;have KM:=hk.w0;have KN:=hk.w1;have KO:=hk.t0;have KP:=hk.t1
 refine R.bC [(0,.agg #[bR,bH,bI,bJ,iV r.ae,iV r.ah]),(1,.agg #[iV p.aB,iV p.Slot])] Tryz.func63 O O O O H<|R.reg O<|R.s O (s.box O O O) fun b1=>?_
 refine R.s O (s.box O O O) fun b2=>?_
 refine R.s O (s.alloc dP O O) fun b3=>?_
 refine R.s O (s.alloc eU O O) fun b4=>?_
 refine R.u 2 O<|R.nil<|R.reg O<|R.q (q.dt 3 O O ao) O<|R.q (q.dt 2 O O bM) O<|R.c (q.call Ey O O (fun w hw=>(xM _ _ _ _ r p 2 1 w (hw.bP 0 O) (hw.bP 1 O) (hw.bP 2 O) (hw.bP 3 O) ‹_› (by omega)))) O<|R.u 4 O<|?_
 refine R.s O (s.alloc bO O O) fun b5=>?_
 refine R.s O (s.st 0 _ O O O O (.inl aM) O O O O) fun _=>?_
 refine R.u 2 O<|R.nil<|R.reg O<|R.u 1 O<|?_
 by_cases h1:(cC r p 2 1).2.2=0
 .
  refine R.q (q.dB O O Tryz.underlying38) O<|R.nil<|R.aA O O<|R.reg O<|R.q (q.aO O cB O) O<|R.q (q.ld 4 O O du O) O<|R.q (q.LR (cap:=[.pointer (some ⟨b5,0,none⟩)]) O O) O<|?_
  rcases j5 (fun (t:Note)=>t.Port==(cC r p 2 1).1.aE) r.Notes with ⟨gU,Eo⟩ | ⟨rz,Em,gU,lW,ve,AQ,TE⟩
  .
   refine R.c (q.call Ji O O (fun w hw=>(cv (congrArg (Value.int .i64) gU) (nh _ r.Notes (fun (t:Note)=>t.Port==(cC r p 2 1).1.aE) _ _ Jj w (hw.bP 3 O) (fun W t hW=>uN t (cC r p 2 1).1 _ W (sK (hw.b 0 O) hW) ) )))) O<|R.u 1 O<|R.nil ?_
   refine R.reg O<|R.u 1 O<|R.q (q.lss (b:=true) O O (by decide)) O<|R.nil<|R.av O O<|R.reg O<|R.q (q.build dZ O O) O<|R.q (q.build FV O O) O<|R.q (q.iface O bj) O<|R.s O (s.st 2 _ O O O O (.inl ao) O O O O) fun _=>?_
   refine R.s O (s.st 1 _ O O O O (.inl dh) O O O O) fun _=>?_
   refine R.u 2 O<|R.nil<|R.mp (fun _ hw=>hw.a8 (α:=aj))<|R.mp (fun _ hw=>hw.a8 (α:=aE))<|R.mp (fun _ hw=>hw.a8 (α:=Held))<|R.mp (fun _ hw=>hw.a8 (α:=Note)) ?_
   have hz:eB r p=((⟨[],[],[],[],0,0⟩:aC),(⟨0,⟨#[]⟩,0,0⟩:Note),0,5):=by (unfold eB;(rw [if_pos ‹_›,gU,show decide ((0:Int) <= -1)=false from rfl];cases r.Notes[(-1:Int).toNat]? <;> rfl))
   rw [hz]
   exact R.w4 ((nS),(nS),(nS),(nS)) [5] gj O Tryz.results63 (RV.cell 2 O O ao) (RV.cell 1 O O dh) (RV.tmp O) (RV.tmp O) O O O (IV O O O (dj (by decide) O))
  refine R.c (q.call Ji O O (fun w hw=>(cv (congrArg (Value.int .i64) gU) (nh _ r.Notes (fun (t:Note)=>t.Port==(cC r p 2 1).1.aE) _ _ Jj w (hw.bP 3 O) (fun W t hW=>uN t (cC r p 2 1).1 _ W (sK (hw.b 0 O) hW) ) )))) O<|R.u 1 O<|R.nil ?_
  refine R.reg O<|R.u 1 O<|R.q (q.cU O O) O<|R.nil<|R.aA O O<|R.reg O<|R.q (q.aO O cB O) O<|R.q (q.ld 4 O O du O) O<|R.u 1 O<|R.q (q.idx (i:=rz) (dw 3 O) O O fu O lW) O<|R.q (q.eS (ds:=ou Em) (dw 3 O) lW O dh O) O<|R.s O (s.alloc eU O O) fun b6=>?_
  refine R.s O (s.st 0 _ O O O O (.inl dh) O O O O) fun _=>?_
  refine R.nil<|R.reg O<|R.u 1 O<|R.nil<|R.reg O<|R.q (q.aO O iG O) O<|R.q (q.ld 0 O O au O) O<|?_
  by_cases h2:0<Em.aj
  .
   refine R.q (q.eL O O) O<|R.nil<|R.av O O<|R.reg O<|R.q (q.aO O cz O) O<|R.q (q.ld 5 O O dD O) O<|R.q (q.aO O fq O) O<|R.q (q.ld 4 O O au O) O<|R.c (q.call O7 O O (fun w hw=>(JJ _ r.Held p.aB w (hw.bP 2 O) (by omega)))) O<|R.u 1 O<|R.nil ?_
   refine R.reg O<|R.u 1 O<|?_
   by_cases h3:je r.Held p.aB<0
   .
    refine R.q (q.dx O O) O<|R.nil<|R.av O O<|R.reg O<|R.q (q.build dZ O O) O<|R.q (q.build FV O O) O<|R.q (q.iface O bj) O<|R.s O (s.st 3 _ O O O O (.inl ao) O O O O) fun _=>?_
    refine R.s O (s.st 2 _ O O O O (.inl dh) O O O O) fun _=>?_
    refine R.u 2 O<|R.nil<|R.mp (fun _ hw=>hw.a8 (α:=aj))<|R.mp (fun _ hw=>hw.a8 (α:=aE))<|R.mp (fun _ hw=>hw.a8 (α:=Held))<|R.mp (fun _ hw=>hw.a8 (α:=Note)) ?_
    have hz:eB r p=((⟨[],[],[],[],0,0⟩:aC),(⟨0,⟨#[]⟩,0,0⟩:Note),0,9):=by (unfold eB;(rw [if_pos ‹_›,gU,Int.toNat_natCast,lW,decide_eq_true (by omega)];dsimp only;(repeat' split) <;> rfl))
    rw [hz]
    exact R.w4 ((nS),(nS),(nS),(nS)) [6] gj O Tryz.results63 (RV.cell 3 O O ao) (RV.cell 2 O O dh) (RV.tmp O) (RV.tmp O) O O O (IV O O O (dj (by decide) O))
   refine R.q (q.cU O O) O<|R.nil<|R.aA O O<|R.reg O<|R.q (q.aO O cz O) O<|R.q (q.ld 5 O O dD O) O<|R.q (q.aO O fq O) O<|R.q (q.ld 4 O O au O) O<|R.u 1 O<|R.q (q.build wk O O) O<|R.q (q.aO O iG O) O<|R.q (q.ld 0 O O au O) O<|R.s O (s.aW mg [2] _ _ _ O O O tK O O (fun w own hw H=>qG bI r.Held (⟨p.aB,je r.Held p.aB⟩:Place) Em.aj w own H (by omega)) O) fun z1=>?_
   refine R.q (q.aO O cz O) O<|R.s O (s.fX 6 _ O O O (fun w hw=>Sl.cm (hw.row 0 O)) (.inr ⟨dD,rfl⟩) (fun w hw=>(af (Sl.one (hw.row 0 O)) aP)) O O O) fun _=>?_
   refine R.nil<|R.reg O<|R.q (q.aO O cB O) O<|R.q (q.ld 6 O O du O) O<|R.s O (s.aW ff [3] _ _ _ O O O oE O O (fun w own hw H=>fe bJ r.Notes w own H (by omega)) O) fun z2=>?_
   refine R.u 2 O<|R.q (q.bA (r:=((rz+1:Nat):Int)) O O) O<|R.s O (s.aW bZ [] _ _ _ O O O Jk O O (fun w own hw H=>qp z2 r.Notes rz (rz+1) w own H (by omega)) O) fun z3=>?_
   refine R.q (q.aO O cB O) O<|R.s O (s.fX 7 _ O O O (fun w hw=>Sl.cm (hw.row 0 O)) (.inr ⟨du,rfl⟩) (fun w hw=>(af (Sl.one (hw.row 0 O)) aP)) O O O) fun _=>?_
   refine R.nil<|R.fY (fuel:=7) ux O O mixed O<|D.q (i:=0) O (aD ux bL O) O (q.dt 5 O O ao) O<|D.q (i:=1) O (aD ux bL O) O (q.dt 2 O O dh) O<|D.q (i:=2) O (aD ux bL O) O (q.mv O) O<|D.one (i:=3) O<|Do.s (s.fX 5 _ O O O (fun _ _=>rfl) (.inl ao) (fun w hw=>(af (Sl.one (hw.bP 0 O)) (af (Sl.one (hw.bP 1 O)) (af (Sl.one (hw.row 1 O)) (af (Sl.one (hw.row 0 O)) (af O (af O aP))))))) O O O) (fun _=>(aD ux bL O)) O fun _=>?_
   refine D.one (i:=4) O<|Do.s (s.st 4 _ O O O O (.inl dh) O O O O) (fun _=>(aD ux bL O)) O fun _=>?_
   refine D.q (i:=5) O (aD ux bL O) O (q.as O) O<|D.q (i:=6) O (aD ux bL O) O (q.as O) O<|D.done<|R.mp (fun _ hw=>hw.cW 1 _ O O)<|R.mp (fun _ hw=>hw.cW 0 _ O O) ?_
   have hz:eB r p=((⟨r.ak,r.Things,fP r.Held (⟨p.aB,je r.Held p.aB⟩:Place) Em.aj,r.Notes.take rz++r.Notes.drop (rz+1),r.ae,r.ah⟩:aC),Em,je r.Held p.aB,0):=by (unfold eB;(rw [if_pos ‹_›,gU,Int.toNat_natCast,lW,decide_eq_true (by omega)];dsimp only;(repeat' split) <;> rfl))
   rw [hz]
   exact R.w4 (bR,bH,z1,z3) [6] [2,3,1,0] O Tryz.results63 (RV.cell 3 O O ao) (RV.cell 2 O O dh) (RV.tmp O) (RV.tmp O) O O O (IV O O O (iK O))
  refine R.q (q.eo O O) O<|R.nil<|R.aA O O<|R.reg O<|R.q (q.aO O cB O) O<|R.q (q.ld 5 O O du O) O<|R.s O (s.aW mg [3] _ _ _ O O O oE O O (fun w own hw H=>fe bJ r.Notes w own H (by omega)) O) fun z4=>?_
  refine R.u 2 O<|R.q (q.bA (r:=((rz+1:Nat):Int)) O O) O<|R.s O (s.aW ff [] _ _ _ O O O Jk O O (fun w own hw H=>qp z4 r.Notes rz (rz+1) w own H (by omega)) O) fun z5=>?_
  refine R.q (q.aO O cB O) O<|R.s O (s.fX 6 _ O O O (fun w hw=>Sl.cm (hw.row 0 O)) (.inr ⟨du,rfl⟩) (fun w hw=>(af (Sl.one (hw.row 0 O)) aP)) O O O) fun _=>?_
  refine R.nil<|R.fY (fuel:=7) uy O O mixed O<|D.q (i:=0) O (aD uy bL O) O (q.dt 4 O O ao) O<|D.q (i:=1) O (aD uy bL O) O (q.dt 1 O O dh) O<|D.q (i:=2) O (aD uy bL O) O (q.mv O) O<|D.one (i:=3) O<|Do.s (s.fX 4 _ O O O (fun _ _=>rfl) (.inl ao) (fun w hw=>(af (Sl.one (hw.bP 0 O)) (af (Sl.one (hw.bP 1 O)) (af (Sl.one (hw.bP 2 O)) (af (Sl.one (hw.row 0 O)) (af O (af O aP))))))) O O O) (fun _=>(aD uy bL O)) O fun _=>?_
  refine D.one (i:=4) O<|Do.s (s.st 3 _ O O O O (.inl dh) O O O O) (fun _=>(aD uy bL O)) O fun _=>?_
  refine D.q (i:=5) O (aD uy bL O) O (q.as O) O<|D.q (i:=6) O (aD uy bL O) O (q.as O) O<|D.done<|R.mp (fun _ hw=>hw.cW 0 _ O O) ?_
  have hz:eB r p=((⟨r.ak,r.Things,r.Held,r.Notes.take rz++r.Notes.drop (rz+1),r.ae,r.ah⟩:aC),Em,-1,0):=by (unfold eB;(rw [if_pos ‹_›,gU,Int.toNat_natCast,lW,decide_eq_true (by omega)];dsimp only;(repeat' split) <;> first|rfl|(exfalso;omega)))
  rw [hz]
  exact R.w4 (bR,bH,bI,z5) [6] vL O Tryz.results63 (RV.cell 3 O O ao) (RV.cell 2 O O dh) (RV.tmp O) (RV.tmp O) O O O (IV O O O (iK O))
 refine R.q (q.ej O O Tryz.underlying38) O<|R.nil<|R.av O O<|R.reg O<|R.q (q.build dZ O O) O<|R.q (q.build FV O O) O<|R.u 1 O<|R.s O (s.st 2 _ O O O O (.inl ao) O O O O) fun _=>?_
 refine R.s O (s.st 1 _ O O O O (.inl dh) O O O O) fun _=>?_
 refine R.u 2 O<|R.nil<|R.mp (fun _ hw=>hw.a8 (α:=aj))<|R.mp (fun _ hw=>hw.a8 (α:=aE))<|R.mp (fun _ hw=>hw.a8 (α:=Held))<|R.mp (fun _ hw=>hw.a8 (α:=Note)) ?_
 have hz:eB r p=((⟨[],[],[],[],0,0⟩:aC),(⟨0,⟨#[]⟩,0,0⟩:Note),0,(cC r p 2 1).2.2):=by (unfold eB;(rw [if_neg ‹_›];rfl))
 rw [hz]
 exact R.w4 ((nS),(nS),(nS),(nS)) [5] gj O Tryz.results63 (RV.cell 2 O O ao) (RV.cell 1 O O dh) (RV.tmp O) (RV.tmp O) O O O (IV O O O O)
end Go.Proofs.YtkbhcbipadkcaaaGreatDoor
