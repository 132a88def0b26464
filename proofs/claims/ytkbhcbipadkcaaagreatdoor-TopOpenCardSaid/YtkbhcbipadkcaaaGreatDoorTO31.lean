import Derived.Test.YtkbhcbipadkcaaaGreatDoorTO30
namespace Go.Proofs.YtkbhcbipadkcaaaGreatDoor
set_option linter.unusedVariables false
set_option linter.unusedSimpArgs false
open Go Go.RowKit
set_option maxRecDepth 100000
set_option maxHeartbeats 1000000
theorem H4 (bH bB bC bD:Value)(r:aD)(p:Place)(kind:Int)(w:World)(own:List Nat)(H:HN w own [] [af.ls bH r.aj,af.ls bB r.Things,af.ls bC r.Held,af.ls bD r.Notes])(hk:Ok r):RC Tryz.prog 56 #[.agg #[bH,bB,bC,bD,iV r.ae,iV r.ah],.agg #[iV p.az,iV p.Slot],iV kind] H (fun z:Value×Value×Value×Value => .tuple #[.agg #[z.1,z.2.1,z.2.2.1,z.2.2.2,iV (dV r p kind).1.ae,iV (dV r p kind).1.ah],dh (dV r p kind).2]) (fun _=>[]) (fun z=>[af.ls z.1 (dV r p kind).1.aj,af.ls z.2.1 (dV r p kind).1.Things,af.ls z.2.2.1 (dV r p kind).1.Held,af.ls z.2.2.2 (dV r p kind).1.Notes]):=by
 have eJ:=H.cx 0 rfl
 have dM:=H.cx 1 rfl
 have fI:=H.cx 2 rfl
 have eK:=H.cx 3 rfl
 have bw:=hk.wl;have bt:=hk.tl;have bh:=hk.hl;have bn:=hk.nl;have KO:=hk.w0;have KP:=hk.w1;have KQ:=hk.t0;have KR:=hk.t1
 refine R.bF [(0,.agg #[bH,bB,bC,bD,iV r.ae,iV r.ah]),(1,.agg #[iV p.az,iV p.Slot]),(2,iV kind)] Tryz.func56 O O O O H<|R.reg O<|R.s O (s.box O O O) fun b1=>R.s O (s.box O O O) fun b2=>R.s O (s.alloc dQ O O) fun b3=>R.u 1 O<|R.nil<|R.reg O<|R.u 1 O<|?_
 by_cases h1:kind=1
 .
  refine R.q (q.lH O O) O<|R.u 4 O<|R.nil<|R.aB O O<|R.reg O<|R.q (q.dv 2 O O ar) O<|R.q (q.dv 1 O O bP) O<|R.c (q.call AH O O (fun w hw=>(qW _ _ _ _ r p w (hw.bT 0 O) (hw.bT 1 O) (hw.bT 2 O) (hw.bT 3 O) ‹_›))) O<|R.u 1 O<|R.nil<|R.reg O<|R.u 1 O<|?_
  by_cases h2:gM r p=0
  .
   refine R.q (q.dC O O Tryz.underlying38) O<|R.nil<|R.aB O O<|R.reg O<|R.q (q.aO O cF O) O<|R.q (q.ld 2 O O dD O) O<|R.q (q.len' (dr 1 O) O Tryz.underlying44) O<|?_
   by_cases h3:r.Things.length=10
   .
    refine R.q (q.fQ O O) O<|R.u 10 O<|R.nil<|R.ay O O<|R.reg O<|R.q (q.build d9 O O) O<|R.q (q.iface O bm) O<|R.s O (s.st 0 _ O O O O (.inl ar) O O O O) fun _=>R.u 1 O<|R.nil<|R.mp (fun _ hw=>hw.a8 (α:=ap))<|R.mp (fun _ hw=>hw.a8 (α:=aE))<|R.mp (fun _ hw=>hw.a8 (α:=Held))<|R.mp (fun _ hw=>hw.a8 (α:=Note)) ?_
    have hz:dV r p kind=((⟨[],[],[],[],0,0⟩:aD),9):=by (unfold dV;(repeat' split) <;> first|rfl|(exfalso;omega)|(simp_all;done))
    rw [hz]
    exact R.w2 ((nS),(nS),(nS),(nS)) [3] gN O Tryz.results56 (RV.cell 0 O O ar) (RV.tmp O) O O O (dz O (dq (by decide) O))
   refine R.q (q.fa O O) O<|R.u 1 O<|R.qg O (q.aO O dP O) O<|R.qg O (q.ld 2 O O av O) O<|?_
   by_cases h4:999<r.ah
   .
    refine R.qg O (q.eL O O) O<|R.u 6 O<|R.nil<|R.ay O O<|R.reg O<|R.q (q.build d9 O O) O<|R.q (q.iface O bm) O<|R.s O (s.st 0 _ O O O O (.inl ar) O O O O) fun _=>R.u 1 O<|R.nil<|R.mp (fun _ hw=>hw.a8 (α:=ap))<|R.mp (fun _ hw=>hw.a8 (α:=aE))<|R.mp (fun _ hw=>hw.a8 (α:=Held))<|R.mp (fun _ hw=>hw.a8 (α:=Note)) ?_
    have hz:dV r p kind=((⟨[],[],[],[],0,0⟩:aD),9):=by (unfold dV;(repeat' split) <;> first|rfl|(exfalso;omega)|(simp_all;done))
    rw [hz]
    exact R.w2 ((nS),(nS),(nS),(nS)) [3] gN O Tryz.results56 (RV.cell 0 O O ar) (RV.tmp O) O O O (dz O (dq (by decide) O))
   refine R.qg O (q.eu O O) O<|R.u 2 O<|R.qg O (q.aO O cM O) O<|R.qg O (q.ld 2 O O av O) O<|?_
   by_cases h5:999<r.ae
   .
    refine R.qg O (q.eL O O) O<|R.u 1 O<|R.nil<|R.ay O O<|R.reg O<|R.q (q.build d9 O O) O<|R.q (q.iface O bm) O<|R.s O (s.st 0 _ O O O O (.inl ar) O O O O) fun _=>R.u 1 O<|R.nil<|R.mp (fun _ hw=>hw.a8 (α:=ap))<|R.mp (fun _ hw=>hw.a8 (α:=aE))<|R.mp (fun _ hw=>hw.a8 (α:=Held))<|R.mp (fun _ hw=>hw.a8 (α:=Note)) ?_
    have hz:dV r p kind=((⟨[],[],[],[],0,0⟩:aD),9):=by (unfold dV;(repeat' split) <;> first|rfl|(exfalso;omega)|(simp_all;done))
    rw [hz]
    exact R.w2 ((nS),(nS),(nS),(nS)) [3] gN O Tryz.results56 (RV.cell 0 O O ar) (RV.tmp O) O O O (dz O (dq (by decide) O))
   refine R.qg O (q.eu O O) O<|R.u 1 O<|R.nil<|R.aB O O<|R.reg O<|R.q (q.aO O dP O) O<|R.q (q.ld 2 O O av O) O<|R.u 1 O<|R.nil<|R.reg O<|R.q (q.aO O cF O) O<|R.q (q.ld 2 O O dD O) O<|R.s O (s.aW bS [1] _ _ _ O O O wv O O (fun w own hw H=>jl bB r.Things w own H (by omega)) O) fun z1=>R.u 2 O<|R.q (q.build Ex O O) O<|R.s O (s.bs (l:=([(⟨r.ah,kind,⟨#[]⟩⟩:aE)]:List aE)) iK jt O O O O O O O) fun b4=>R.s O (s.app 1 _ O O O (ck 0 O) sS (by (simp;omega)) (by (simp;omega)) (fun _=>rfl) O) fun v1=>R.q (q.aO O cF O) O<|R.s O (s.fZ 4 _ O O O (fun w hw=>Sl.cu (hw.row 1 O)) (.inr ⟨dD,rfl⟩) (fun w hw=>(ag (Sl.one (hw.row 1 O)) aP)) O O O) fun _=>R.nil<|R.reg O<|R.q (q.aO O dP O) O<|R.q (q.ld 4 O O av O) O<|R.q (q.bA (r:=r.ah+1) O O) O<|R.q (q.aO O dP O) O<|R.s O (s.st 4 _ O O O O (.inr ⟨av,rfl⟩) O O O O) fun _=>R.nil<|R.reg O<|R.q (q.dv 4 O O ar) O<|R.q (q.aO O cM O) O<|R.q (q.ld 4 O O av O) O<|R.u 1 O<|R.q (q.build iY O O) O<|R.q (q.dv 3 O O bP) O<|R.s O (s.pre (fun _ hw=>hw.cX 1 _ O O) (s.aW ig [1,0,3,4] _ _ _ O O O wA O O (fun w own hw H=>qq bH v1 bC bD (⟨r.aj,(r.Things++([(⟨r.ah,kind,⟨#[]⟩⟩:aE)])),r.Held,r.Notes,r.ae,(r.ah+1)⟩:aD) (⟨r.ae,r.ah,7,0,0⟩:ap) p w own H (by (dsimp only;omega))) O)) ?_
   rintro ⟨z2,z3,z4,z5⟩
   dsimp only
   refine R.s O (s.fZ 1 _ O O O (fun _ _=>rfl) (.inl ar) (fun w hw=>(ag (Sl.one (hw.bT 0 O)) (ag (Sl.one (hw.bT 1 O)) (ag (Sl.one (hw.bT 2 O)) (ag (Sl.one (hw.bT 3 O)) (ag O (ag O aP))))))) O O O) fun _=>R.u 1 O<|R.nil ?_
   have hz:dV r p kind=((e8 (⟨r.aj,(r.Things++([(⟨r.ah,kind,⟨#[]⟩⟩:aE)])),r.Held,r.Notes,r.ae,(r.ah+1)⟩:aD) (⟨r.ae,r.ah,7,0,0⟩:ap) p),0):=by (unfold dV;(repeat' split) <;> first|rfl|(exfalso;omega)|(simp_all;done))
   rw [hz]
   exact R.w2 (z2,z3,z4,z5) [4] bS O Tryz.results56 (RV.cell 1 O O ar) (RV.tmp O) O O O (dz O (iI O))
  refine R.q (q.eo O O Tryz.underlying38) O<|R.nil<|R.ay O O<|R.reg O<|R.q (q.build d9 O O) O<|R.u 1 O<|R.s O (s.st 0 _ O O O O (.inl ar) O O O O) fun _=>R.u 1 O<|R.nil<|R.mp (fun _ hw=>hw.a8 (α:=ap))<|R.mp (fun _ hw=>hw.a8 (α:=aE))<|R.mp (fun _ hw=>hw.a8 (α:=Held))<|R.mp (fun _ hw=>hw.a8 (α:=Note)) ?_
  have hz:dV r p kind=((⟨[],[],[],[],0,0⟩:aD),gM r p):=by (unfold dV;(repeat' split) <;> first|rfl|(exfalso;omega)|(simp_all;done))
  rw [hz]
  exact R.w2 ((nS),(nS),(nS),(nS)) [3] gN O Tryz.results56 (RV.cell 0 O O ar) (RV.tmp O) O O O (dz O O)
 refine R.q (q.lG O O) O<|R.u 2 O<|?_
 by_cases h6:kind=2
 .
  refine R.qg O (q.lH O O) O<|R.u 1 O<|R.nil<|R.aB O O<|R.reg O<|R.q (q.dv 2 O O ar) O<|R.q (q.dv 1 O O bP) O<|R.c (q.call AH O O (fun w hw=>(qW _ _ _ _ r p w (hw.bT 0 O) (hw.bT 1 O) (hw.bT 2 O) (hw.bT 3 O) ‹_›))) O<|R.u 1 O<|R.nil<|R.reg O<|R.u 1 O<|?_
  by_cases h7:gM r p=0
  .
   refine R.q (q.dC O O Tryz.underlying38) O<|R.nil<|R.aB O O<|R.reg O<|R.q (q.aO O cF O) O<|R.q (q.ld 2 O O dD O) O<|R.q (q.len' (dr 1 O) O Tryz.underlying44) O<|?_
   by_cases h8:r.Things.length=10
   .
    refine R.q (q.fQ O O) O<|R.u 10 O<|R.nil<|R.ay O O<|R.reg O<|R.q (q.build d9 O O) O<|R.q (q.iface O bm) O<|R.s O (s.st 0 _ O O O O (.inl ar) O O O O) fun _=>R.u 1 O<|R.nil<|R.mp (fun _ hw=>hw.a8 (α:=ap))<|R.mp (fun _ hw=>hw.a8 (α:=aE))<|R.mp (fun _ hw=>hw.a8 (α:=Held))<|R.mp (fun _ hw=>hw.a8 (α:=Note)) ?_
    have hz:dV r p kind=((⟨[],[],[],[],0,0⟩:aD),9):=by (unfold dV;(repeat' split) <;> first|rfl|(exfalso;omega)|(simp_all;done))
    rw [hz]
    exact R.w2 ((nS),(nS),(nS),(nS)) [3] gN O Tryz.results56 (RV.cell 0 O O ar) (RV.tmp O) O O O (dz O (dq (by decide) O))
   refine R.q (q.fa O O) O<|R.u 1 O<|R.qg O (q.aO O dP O) O<|R.qg O (q.ld 2 O O av O) O<|?_
   by_cases h9:999<r.ah
   .
    refine R.qg O (q.eL O O) O<|R.u 6 O<|R.nil<|R.ay O O<|R.reg O<|R.q (q.build d9 O O) O<|R.q (q.iface O bm) O<|R.s O (s.st 0 _ O O O O (.inl ar) O O O O) fun _=>R.u 1 O<|R.nil<|R.mp (fun _ hw=>hw.a8 (α:=ap))<|R.mp (fun _ hw=>hw.a8 (α:=aE))<|R.mp (fun _ hw=>hw.a8 (α:=Held))<|R.mp (fun _ hw=>hw.a8 (α:=Note)) ?_
    have hz:dV r p kind=((⟨[],[],[],[],0,0⟩:aD),9):=by (unfold dV;(repeat' split) <;> first|rfl|(exfalso;omega)|(simp_all;done))
    rw [hz]
    exact R.w2 ((nS),(nS),(nS),(nS)) [3] gN O Tryz.results56 (RV.cell 0 O O ar) (RV.tmp O) O O O (dz O (dq (by decide) O))
   refine R.qg O (q.eu O O) O<|R.u 2 O<|R.qg O (q.aO O cM O) O<|R.qg O (q.ld 2 O O av O) O<|?_
   by_cases h10:999<r.ae
   .
    refine R.qg O (q.eL O O) O<|R.u 1 O<|R.nil<|R.ay O O<|R.reg O<|R.q (q.build d9 O O) O<|R.q (q.iface O bm) O<|R.s O (s.st 0 _ O O O O (.inl ar) O O O O) fun _=>R.u 1 O<|R.nil<|R.mp (fun _ hw=>hw.a8 (α:=ap))<|R.mp (fun _ hw=>hw.a8 (α:=aE))<|R.mp (fun _ hw=>hw.a8 (α:=Held))<|R.mp (fun _ hw=>hw.a8 (α:=Note)) ?_
    have hz:dV r p kind=((⟨[],[],[],[],0,0⟩:aD),9):=by (unfold dV;(repeat' split) <;> first|rfl|(exfalso;omega)|(simp_all;done))
    rw [hz]
    exact R.w2 ((nS),(nS),(nS),(nS)) [3] gN O Tryz.results56 (RV.cell 0 O O ar) (RV.tmp O) O O O (dz O (dq (by decide) O))
   refine R.qg O (q.eu O O) O<|R.u 1 O<|R.nil<|R.aB O O<|R.reg O<|R.q (q.aO O dP O) O<|R.q (q.ld 2 O O av O) O<|R.u 1 O<|R.nil<|R.reg O<|R.q (q.aO O cF O) O<|R.q (q.ld 2 O O dD O) O<|R.s O (s.aW bS [1] _ _ _ O O O wv O O (fun w own hw H=>jl bB r.Things w own H (by omega)) O) fun z6=>R.u 2 O<|R.q (q.build Ex O O) O<|R.s O (s.bs (l:=([(⟨r.ah,kind,⟨#[]⟩⟩:aE)]:List aE)) iK jt O O O O O O O) fun b5=>R.s O (s.app 1 _ O O O (ck 0 O) sS (by (simp;omega)) (by (simp;omega)) (fun _=>rfl) O) fun v2=>R.q (q.aO O cF O) O<|R.s O (s.fZ 4 _ O O O (fun w hw=>Sl.cu (hw.row 1 O)) (.inr ⟨dD,rfl⟩) (fun w hw=>(ag (Sl.one (hw.row 1 O)) aP)) O O O) fun _=>R.nil<|R.reg O<|R.q (q.aO O dP O) O<|R.q (q.ld 4 O O av O) O<|R.q (q.bA (r:=r.ah+1) O O) O<|R.q (q.aO O dP O) O<|R.s O (s.st 4 _ O O O O (.inr ⟨av,rfl⟩) O O O O) fun _=>R.nil<|R.reg O<|R.q (q.dv 4 O O ar) O<|R.q (q.aO O cM O) O<|R.q (q.ld 4 O O av O) O<|R.u 1 O<|R.q (q.build iY O O) O<|R.q (q.dv 3 O O bP) O<|R.s O (s.pre (fun _ hw=>hw.cX 1 _ O O) (s.aW ig [1,0,3,4] _ _ _ O O O wA O O (fun w own hw H=>qq bH v2 bC bD (⟨r.aj,(r.Things++([(⟨r.ah,kind,⟨#[]⟩⟩:aE)])),r.Held,r.Notes,r.ae,(r.ah+1)⟩:aD) (⟨r.ae,r.ah,7,0,0⟩:ap) p w own H (by (dsimp only;omega))) O)) ?_
   rintro ⟨z7,z8,z9,lF⟩
   dsimp only
   refine R.s O (s.fZ 1 _ O O O (fun _ _=>rfl) (.inl ar) (fun w hw=>(ag (Sl.one (hw.bT 0 O)) (ag (Sl.one (hw.bT 1 O)) (ag (Sl.one (hw.bT 2 O)) (ag (Sl.one (hw.bT 3 O)) (ag O (ag O aP))))))) O O O) fun _=>R.u 1 O<|R.nil ?_
   have hz:dV r p kind=((e8 (⟨r.aj,(r.Things++([(⟨r.ah,kind,⟨#[]⟩⟩:aE)])),r.Held,r.Notes,r.ae,(r.ah+1)⟩:aD) (⟨r.ae,r.ah,7,0,0⟩:ap) p),0):=by (unfold dV;(repeat' split) <;> first|rfl|(exfalso;omega)|(simp_all;done))
   rw [hz]
   exact R.w2 (z7,z8,z9,lF) [4] bS O Tryz.results56 (RV.cell 1 O O ar) (RV.tmp O) O O O (dz O (iI O))
  refine R.q (q.eo O O Tryz.underlying38) O<|R.nil<|R.ay O O<|R.reg O<|R.q (q.build d9 O O) O<|R.u 1 O<|R.s O (s.st 0 _ O O O O (.inl ar) O O O O) fun _=>R.u 1 O<|R.nil<|R.mp (fun _ hw=>hw.a8 (α:=ap))<|R.mp (fun _ hw=>hw.a8 (α:=aE))<|R.mp (fun _ hw=>hw.a8 (α:=Held))<|R.mp (fun _ hw=>hw.a8 (α:=Note)) ?_
  have hz:dV r p kind=((⟨[],[],[],[],0,0⟩:aD),gM r p):=by (unfold dV;(repeat' split) <;> first|rfl|(exfalso;omega)|(simp_all;done))
  rw [hz]
  exact R.w2 ((nS),(nS),(nS),(nS)) [3] gN O Tryz.results56 (RV.cell 0 O O ar) (RV.tmp O) O O O (dz O O)
 refine R.qg O (q.lG O O) O<|R.u 1 O<|R.nil<|R.ay O O<|R.reg O<|R.q (q.build d9 O O) O<|R.q (q.iface O bm) O<|R.s O (s.st 0 _ O O O O (.inl ar) O O O O) fun _=>R.u 1 O<|R.nil<|R.mp (fun _ hw=>hw.a8 (α:=ap))<|R.mp (fun _ hw=>hw.a8 (α:=aE))<|R.mp (fun _ hw=>hw.a8 (α:=Held))<|R.mp (fun _ hw=>hw.a8 (α:=Note)) ?_
 have hz:dV r p kind=((⟨[],[],[],[],0,0⟩:aD),8):=by (unfold dV;(repeat' split) <;> first|rfl|(exfalso;omega)|(simp_all;done))
 rw [hz]
 exact R.w2 ((nS),(nS),(nS),(nS)) [3] gN O Tryz.results56 (RV.cell 0 O O ar) (RV.tmp O) O O O (dz O (dq (by decide) O))
theorem H5 (bH bB bC bD:Value)(r:aD)(p:Place)(t:Place)(rights:Int)(dL:Int)(w:World)(own:List Nat)(H:HN w own [] [af.ls bH r.aj,af.ls bB r.Things,af.ls bC r.Held,af.ls bD r.Notes])(hk:Ok r):RC Tryz.prog 57 #[.agg #[bH,bB,bC,bD,iV r.ae,iV r.ah],.agg #[iV p.az,iV p.Slot],.agg #[iV t.az,iV t.Slot],iV rights,iV dL] H (fun z:Value×Value×Value×Value => .tuple #[.agg #[z.1,z.2.1,z.2.2.1,z.2.2.2,iV (fq r p t rights dL).1.ae,iV (fq r p t rights dL).1.ah],dh (fq r p t rights dL).2]) (fun _=>[]) (fun z=>[af.ls z.1 (fq r p t rights dL).1.aj,af.ls z.2.1 (fq r p t rights dL).1.Things,af.ls z.2.2.1 (fq r p t rights dL).1.Held,af.ls z.2.2.2 (fq r p t rights dL).1.Notes]):=by
 have eJ:=H.cx 0 rfl
 have dM:=H.cx 1 rfl
 have fI:=H.cx 2 rfl
 have eK:=H.cx 3 rfl
 have bw:=hk.wl;have bt:=hk.tl;have bh:=hk.hl;have bn:=hk.nl;have KO:=hk.w0;have KP:=hk.w1;have KQ:=hk.t0;have KR:=hk.t1
 refine R.bF [(0,.agg #[bH,bB,bC,bD,iV r.ae,iV r.ah]),(1,.agg #[iV p.az,iV p.Slot]),(2,.agg #[iV t.az,iV t.Slot]),(3,iV rights),(4,iV dL)] Tryz.func57 O O O O H<|R.reg O<|R.s O (s.box O O O) fun b1=>R.s O (s.box O O O) fun b2=>R.s O (s.box O O O) fun b3=>R.s O (s.alloc dQ O O) fun b4=>R.u 1 O<|R.nil<|R.reg O<|R.q (q.dv 3 O O ar) O<|R.q (q.dv 2 O O bP) O<|R.c (q.call tL O O (fun w hw=>(qV _ _ _ _ r p w (hw.bT 0 O) (hw.bT 1 O) (hw.bT 2 O) (hw.bT 3 O) ‹_›))) O<|R.u 3 O<|R.s O (s.alloc bQ O O) fun b5=>R.s O (s.st 0 _ O O O O (.inl aL) O O O O) fun _=>R.u 1 O<|R.nil<|R.reg O<|R.u 1 O<|?_
 by_cases h1:(aQ r p).2=0
 .
  have VQ:=hk.get h1
  refine R.q (q.dC O O Tryz.underlying38) O<|R.nil<|R.aB O O<|R.reg O<|R.q (q.dv 4 O O ar) O<|R.q (q.dv 2 O O bP) O<|R.c (q.call AH O O (fun w hw=>(qW _ _ _ _ r t w (hw.bT 0 O) (hw.bT 1 O) (hw.bT 2 O) (hw.bT 3 O) ‹_›))) O<|R.u 1 O<|R.nil<|R.reg O<|R.u 1 O<|?_
  by_cases h2:gM r t=0
  .
   refine R.q (q.dC O O Tryz.underlying38) O<|R.nil<|R.aB O O<|R.reg O<|R.q (q.aO O fx O) O<|R.q (q.ld 3 O O av O) O<|R.q (q.aO O fx O) O<|R.q (q.ld 2 O O av O) O<|?_
   by_cases h3:p.az=t.az
   .
    refine R.q (q.lH O O) O<|R.u 6 O<|R.nil<|R.aB O O<|R.reg O<|R.q (q.aO O cM O) O<|R.q (q.ld 4 O O av O) O<|?_
    by_cases h4:999<r.ae
    .
     refine R.q (q.eL O O) O<|R.nil<|R.ay O O<|R.reg O<|R.q (q.build d9 O O) O<|R.q (q.iface O bm) O<|R.s O (s.st 1 _ O O O O (.inl ar) O O O O) fun _=>R.u 1 O<|R.nil<|R.mp (fun _ hw=>hw.a8 (α:=ap))<|R.mp (fun _ hw=>hw.a8 (α:=aE))<|R.mp (fun _ hw=>hw.a8 (α:=Held))<|R.mp (fun _ hw=>hw.a8 (α:=Note)) ?_
     have hz:fq r p t rights dL=((⟨[],[],[],[],0,0⟩:aD),9):=by (unfold fq;(repeat' split) <;> first|rfl|(exfalso;omega)|(simp_all;done))
     rw [hz]
     exact R.w2 ((nS),(nS),(nS),(nS)) [5] gN O Tryz.results57 (RV.cell 1 O O ar) (RV.tmp O) O O O (dz O (dq (by decide) O))
    refine R.q (q.eu O O) O<|R.nil<|R.aB O O<|R.reg O<|R.q (q.dv 0 O O aL) O<|R.q (q.aO O cM O) O<|R.q (q.ld 4 O O av O) O<|R.u 2 O<|R.c (q.call wB O O (fun w hw=>(mJ (aQ r p).1 r.ae rights dL w (by omega)))) O<|R.u 3 O<|R.s O (s.alloc bQ O O) fun b6=>R.s O (s.st 0 _ O O O O (.inl aL) O O O O) fun _=>R.u 1 O<|R.nil<|R.reg O<|R.u 1 O<|?_
    by_cases h5:(derived (aQ r p).1 r.ae rights dL).2=0
    .
     refine R.q (q.dC O O Tryz.underlying38) O<|R.nil<|R.aB O O<|R.reg O<|R.q (q.dv 5 O O ar) O<|R.q (q.dv 0 O O aL) O<|R.q (q.dv 3 O O bP) O<|R.s O (s.aW ml bS _ _ _ O O O wA O O (fun w own hw H=>qq bH bB bC bD r (derived (aQ r p).1 r.ae rights dL).1 t w own H (by omega)) O) ?_
     rintro ⟨z1,z2,z3,z4⟩
     dsimp only
     refine R.s O (s.fZ 2 _ O O O (fun _ _=>rfl) (.inl ar) (fun w hw=>(ag (Sl.one (hw.bT 0 O)) (ag (Sl.one (hw.bT 1 O)) (ag (Sl.one (hw.bT 2 O)) (ag (Sl.one (hw.bT 3 O)) (ag O (ag O aP))))))) O O O) fun _=>R.u 1 O<|R.nil ?_
     have hz:fq r p t rights dL=((e8 r (derived (aQ r p).1 r.ae rights dL).1 t),0):=by (unfold fq;(repeat' split) <;> first|rfl|(exfalso;omega)|(simp_all;done))
     rw [hz]
     exact R.w2 (z1,z2,z3,z4) [6] bS O Tryz.results57 (RV.cell 2 O O ar) (RV.tmp O) O O O (dz O (iI O))
    refine R.q (q.eo O O Tryz.underlying38) O<|R.nil<|R.ay O O<|R.reg O<|R.q (q.build d9 O O) O<|R.u 1 O<|R.s O (s.st 2 _ O O O O (.inl ar) O O O O) fun _=>R.u 1 O<|R.nil<|R.mp (fun _ hw=>hw.a8 (α:=ap))<|R.mp (fun _ hw=>hw.a8 (α:=aE))<|R.mp (fun _ hw=>hw.a8 (α:=Held))<|R.mp (fun _ hw=>hw.a8 (α:=Note)) ?_
    have hz:fq r p t rights dL=((⟨[],[],[],[],0,0⟩:aD),(derived (aQ r p).1 r.ae rights dL).2):=by (unfold fq;(repeat' split) <;> first|rfl|(exfalso;omega)|(simp_all;done))
    rw [hz]
    exact R.w2 ((nS),(nS),(nS),(nS)) [6] gN O Tryz.results57 (RV.cell 2 O O ar) (RV.tmp O) O O O (dz O O)
   refine R.q (q.lG O O) O<|R.u 1 O<|R.qg O (q.aO O jR O) O<|R.qg O (q.ld 0 O O av O) O<|?_
   rcases Bool.eq_false_or_eq_true (jh (aQ r p).1.Rights 4) with h6|h6
   .
    refine R.cg O (q.call pQ O O (fun w hw=>(cv (congrArg Value.bool h6) (gK (aQ r p).1.Rights 4 w (by omega) (by omega))))) O<|R.u 2 O<|R.nil<|R.aB O O<|R.reg O<|R.q (q.aO O cM O) O<|R.q (q.ld 4 O O av O) O<|?_
    by_cases h7:999<r.ae
    .
     refine R.q (q.eL O O) O<|R.nil<|R.ay O O<|R.reg O<|R.q (q.build d9 O O) O<|R.q (q.iface O bm) O<|R.s O (s.st 1 _ O O O O (.inl ar) O O O O) fun _=>R.u 1 O<|R.nil<|R.mp (fun _ hw=>hw.a8 (α:=ap))<|R.mp (fun _ hw=>hw.a8 (α:=aE))<|R.mp (fun _ hw=>hw.a8 (α:=Held))<|R.mp (fun _ hw=>hw.a8 (α:=Note)) ?_
     have hz:fq r p t rights dL=((⟨[],[],[],[],0,0⟩:aD),9):=by (unfold fq;(repeat' split) <;> first|rfl|(exfalso;omega)|(simp_all;done))
     rw [hz]
     exact R.w2 ((nS),(nS),(nS),(nS)) [5] gN O Tryz.results57 (RV.cell 1 O O ar) (RV.tmp O) O O O (dz O (dq (by decide) O))
    refine R.q (q.eu O O) O<|R.nil<|R.aB O O<|R.reg O<|R.q (q.dv 0 O O aL) O<|R.q (q.aO O cM O) O<|R.q (q.ld 4 O O av O) O<|R.u 2 O<|R.c (q.call wB O O (fun w hw=>(mJ (aQ r p).1 r.ae rights dL w (by omega)))) O<|R.u 3 O<|R.s O (s.alloc bQ O O) fun b7=>R.s O (s.st 0 _ O O O O (.inl aL) O O O O) fun _=>R.u 1 O<|R.nil<|R.reg O<|R.u 1 O<|?_
    by_cases h8:(derived (aQ r p).1 r.ae rights dL).2=0
    .
     refine R.q (q.dC O O Tryz.underlying38) O<|R.nil<|R.aB O O<|R.reg O<|R.q (q.dv 5 O O ar) O<|R.q (q.dv 0 O O aL) O<|R.q (q.dv 3 O O bP) O<|R.s O (s.aW ml bS _ _ _ O O O wA O O (fun w own hw H=>qq bH bB bC bD r (derived (aQ r p).1 r.ae rights dL).1 t w own H (by omega)) O) ?_
     rintro ⟨z5,z6,z7,z8⟩
     dsimp only
     refine R.s O (s.fZ 2 _ O O O (fun _ _=>rfl) (.inl ar) (fun w hw=>(ag (Sl.one (hw.bT 0 O)) (ag (Sl.one (hw.bT 1 O)) (ag (Sl.one (hw.bT 2 O)) (ag (Sl.one (hw.bT 3 O)) (ag O (ag O aP))))))) O O O) fun _=>R.u 1 O<|R.nil ?_
     have hz:fq r p t rights dL=((e8 r (derived (aQ r p).1 r.ae rights dL).1 t),0):=by (unfold fq;(repeat' split) <;> first|rfl|(exfalso;omega)|(simp_all;done))
     rw [hz]
     exact R.w2 (z5,z6,z7,z8) [6] bS O Tryz.results57 (RV.cell 2 O O ar) (RV.tmp O) O O O (dz O (iI O))
    refine R.q (q.eo O O Tryz.underlying38) O<|R.nil<|R.ay O O<|R.reg O<|R.q (q.build d9 O O) O<|R.u 1 O<|R.s O (s.st 2 _ O O O O (.inl ar) O O O O) fun _=>R.u 1 O<|R.nil<|R.mp (fun _ hw=>hw.a8 (α:=ap))<|R.mp (fun _ hw=>hw.a8 (α:=aE))<|R.mp (fun _ hw=>hw.a8 (α:=Held))<|R.mp (fun _ hw=>hw.a8 (α:=Note)) ?_
    have hz:fq r p t rights dL=((⟨[],[],[],[],0,0⟩:aD),(derived (aQ r p).1 r.ae rights dL).2):=by (unfold fq;(repeat' split) <;> first|rfl|(exfalso;omega)|(simp_all;done))
    rw [hz]
    exact R.w2 ((nS),(nS),(nS),(nS)) [6] gN O Tryz.results57 (RV.cell 2 O O ar) (RV.tmp O) O O O (dz O O)
   refine R.cg O (q.call pQ O O (fun w hw=>(cv (congrArg Value.bool h6) (gK (aQ r p).1.Rights 4 w (by omega) (by omega))))) O<|R.u 2 O<|R.nil<|R.ay O O<|R.reg O<|R.q (q.build d9 O O) O<|R.q (q.iface O bm) O<|R.s O (s.st 1 _ O O O O (.inl ar) O O O O) fun _=>R.u 1 O<|R.nil<|R.mp (fun _ hw=>hw.a8 (α:=ap))<|R.mp (fun _ hw=>hw.a8 (α:=aE))<|R.mp (fun _ hw=>hw.a8 (α:=Held))<|R.mp (fun _ hw=>hw.a8 (α:=Note)) ?_
   have hz:fq r p t rights dL=((⟨[],[],[],[],0,0⟩:aD),7):=by (unfold fq;(repeat' split) <;> first|rfl|(exfalso;omega)|(simp_all;done))
   rw [hz]
   exact R.w2 ((nS),(nS),(nS),(nS)) [5] gN O Tryz.results57 (RV.cell 1 O O ar) (RV.tmp O) O O O (dz O (dq (by decide) O))
  refine R.q (q.eo O O Tryz.underlying38) O<|R.nil<|R.ay O O<|R.reg O<|R.q (q.build d9 O O) O<|R.u 1 O<|R.s O (s.st 1 _ O O O O (.inl ar) O O O O) fun _=>R.u 1 O<|R.nil<|R.mp (fun _ hw=>hw.a8 (α:=ap))<|R.mp (fun _ hw=>hw.a8 (α:=aE))<|R.mp (fun _ hw=>hw.a8 (α:=Held))<|R.mp (fun _ hw=>hw.a8 (α:=Note)) ?_
  have hz:fq r p t rights dL=((⟨[],[],[],[],0,0⟩:aD),gM r t):=by (unfold fq;(repeat' split) <;> rfl)
  rw [hz]
  exact R.w2 ((nS),(nS),(nS),(nS)) [5] gN O Tryz.results57 (RV.cell 1 O O ar) (RV.tmp O) O O O (dz O O)
 refine R.q (q.eo O O Tryz.underlying38) O<|R.nil<|R.ay O O<|R.reg O<|R.q (q.build d9 O O) O<|R.u 1 O<|R.s O (s.st 1 _ O O O O (.inl ar) O O O O) fun _=>R.u 1 O<|R.nil<|R.mp (fun _ hw=>hw.a8 (α:=ap))<|R.mp (fun _ hw=>hw.a8 (α:=aE))<|R.mp (fun _ hw=>hw.a8 (α:=Held))<|R.mp (fun _ hw=>hw.a8 (α:=Note)) ?_
 have hz:fq r p t rights dL=((⟨[],[],[],[],0,0⟩:aD),(aQ r p).2):=by (unfold fq;(repeat' split) <;> first|rfl|(exfalso;omega)|(simp_all;done))
 rw [hz]
 exact R.w2 ((nS),(nS),(nS),(nS)) [5] gN O Tryz.results57 (RV.cell 1 O O ar) (RV.tmp O) O O O (dz O O)
theorem H6 (bH bB bC bD:Value)(r:aD)(p:Place)(slot:Int)(w:World)(own:List Nat)(H:HN w own [] [af.ls bH r.aj,af.ls bB r.Things,af.ls bC r.Held,af.ls bD r.Notes])(hk:Ok r):RC Tryz.prog 58 #[.agg #[bH,bB,bC,bD,iV r.ae,iV r.ah],.agg #[iV p.az,iV p.Slot],iV slot] H (fun z:Value×Value×Value×Value => .tuple #[.agg #[z.1,z.2.1,z.2.2.1,z.2.2.2,iV (jk r p slot).1.ae,iV (jk r p slot).1.ah],dh (jk r p slot).2]) (fun _=>[]) (fun z=>[af.ls z.1 (jk r p slot).1.aj,af.ls z.2.1 (jk r p slot).1.Things,af.ls z.2.2.1 (jk r p slot).1.Held,af.ls z.2.2.2 (jk r p slot).1.Notes]):=by
 have eJ:=H.cx 0 rfl
 have dM:=H.cx 1 rfl
 have fI:=H.cx 2 rfl
 have eK:=H.cx 3 rfl
 have bw:=hk.wl;have bt:=hk.tl;have bh:=hk.hl;have bn:=hk.nl;have KO:=hk.w0;have KP:=hk.w1;have KQ:=hk.t0;have KR:=hk.t1
 have bp:=nQ r.Held p 0
 refine R.bF [(0,.agg #[bH,bB,bC,bD,iV r.ae,iV r.ah]),(1,.agg #[iV p.az,iV p.Slot]),(2,iV slot)] Tryz.func58 O O O O H<|R.reg O<|R.s O (s.box O O O) fun b1=>R.s O (s.box O O O) fun b2=>R.s O (s.alloc dQ O O) fun b3=>R.u 1 O<|R.nil<|R.reg O<|R.q (q.dv 2 O O ar) O<|R.q (q.dv 1 O O bP) O<|R.c (q.call tL O O (fun w hw=>(qV _ _ _ _ r p w (hw.bT 0 O) (hw.bT 1 O) (hw.bT 2 O) (hw.bT 3 O) ‹_›))) O<|R.u 3 O<|R.s O (s.alloc bQ O O) fun b4=>R.s O (s.st 0 _ O O O O (.inl aL) O O O O) fun _=>R.u 1 O<|R.nil<|R.reg O<|R.u 1 O<|?_
 by_cases h1:(aQ r p).2=0
 .
  refine R.q (q.dC O O Tryz.underlying38) O<|R.nil<|R.aB O O<|R.reg O<|R.q (q.aO O fx O) O<|R.q (q.ld 2 O O av O) O<|R.u 1 O<|R.q (q.build wn O O) O<|R.s O (s.alloc Ct O O) fun b5=>R.s O (s.st 0 _ O O O O (.inl bP) O O O O) fun _=>R.nil<|R.reg O<|R.q (q.dv 4 O O ar) O<|R.q (q.dv 0 O O bP) O<|R.c (q.call AH O O (fun w hw=>(qW _ _ _ _ r (⟨p.az,slot⟩:Place) w (hw.bT 0 O) (hw.bT 1 O) (hw.bT 2 O) (hw.bT 3 O) ‹_›))) O<|R.u 1 O<|R.nil<|R.reg O<|R.u 1 O<|?_
  by_cases h2:gM r (⟨p.az,slot⟩:Place)=0
  .
   refine R.q (q.dC O O Tryz.underlying38) O<|R.nil<|R.aB O O<|R.fu (fuel:=10) (Wd w (blks []++own) [af.box b5 [iV p.az,iV slot] 32,af.box b4 [iV (aQ r p).1.ID,iV (aQ r p).1.aE,iV (aQ r p).1.Rights,iV (aQ r p).1.aN,iV (aQ r p).1.From] 127,af.box b3 rP 48,af.box b2 (fw p) 32,af.held w own] [af.ls bH r.aj,af.ls bB r.Things,af.ls bC r.Held,af.ls bD r.Notes]) O mixed O<|D.q (i:=0) O (aC pB bS O O O) O (q.aO O cG O) O<|D.q (i:=2) O (aC pB bS O O O) O (q.dv 3 O O bP) O<|D.q (i:=4) O (aC pB bS O O O) O (q.dv 0 O O bP) O<|D.q (i:=5) O (aC pB bS O O O) O (q.aO O bX O) O<|D.q (i:=6) O (aC pB bS O O O) O (q.ld 1 O O av O) O<|D.one (i:=1) O<|Do.s (s.c (Qt.a (q.ld 4 O O dE O)) O) (fun _=>(aC pB bS O O O)) O fun _=>D.one (i:=3) O<|Do.s (s.aW rO [2] _ _ _ O O O tM O O (fun w own hw H=>qG bC r.Held p 0 w own H (by omega)) O) (fun _=>(aC sG bS O O O)) O fun z3=>D.one (i:=7) O<|Do.s (s.pre (fun _ hw=>hw.cX 0 _ O O) (s.aW rO [0] _ _ _ O O O tM O O (fun w own hw H=>qG z3 (fL r.Held p 0) (⟨p.az,slot⟩:Place) (aQ r p).1.ID w own H (by omega)) O)) (fun _=>(aC sG [1,2,3,4] O O O)) O fun z4=>D.q (i:=8) O (aC sG [1,2,3,4] O O O) O (q.aO O cG O) O<|D.one (i:=9) O<|Do.s (s.fZ 5 _ O O O (fun w hw=>Sl.cu (hw.row 0 O)) (.inr ⟨dE,rfl⟩) (fun w hw=>(ag (Sl.one (hw.row 0 O)) aP)) O O O) (fun _=>(aC sG [1,2,3,4] O O O)) O fun _=>D.done<|R.reg O<|R.q (q.dv 5 O O ar) O<|R.s O (s.fZ 3 _ O O O (fun _ _=>rfl) (.inl ar) (fun w hw=>(ag (Sl.one (hw.bT 1 O)) (ag (Sl.one (hw.bT 2 O)) (ag (Sl.one (hw.row 0 O)) (ag (Sl.one (hw.bT 4 O)) (ag O (ag O aP))))))) O O O) fun _=>R.u 1 O<|R.nil<|R.mp (fun _ hw=>hw.cX 0 _ O O) ?_
   have hz:jk r p slot=((⟨r.aj,r.Things,fL (fL r.Held p 0) (⟨p.az,slot⟩:Place) (aQ r p).1.ID,r.Notes,r.ae,r.ah⟩:aD),0):=by (unfold jk;(repeat' split) <;> rfl)
   rw [hz]
   exact R.w2 (bH,bB,z4,bD) [5] [2,3,0,5] O Tryz.results58 (RV.cell 2 O O ar) (RV.tmp O) O O O (dz O (iI O))
  refine R.q (q.eo O O Tryz.underlying38) O<|R.nil<|R.ay O O<|R.reg O<|R.q (q.build d9 O O) O<|R.u 1 O<|R.s O (s.st 2 _ O O O O (.inl ar) O O O O) fun _=>R.u 1 O<|R.nil<|R.mp (fun _ hw=>hw.a8 (α:=ap))<|R.mp (fun _ hw=>hw.a8 (α:=aE))<|R.mp (fun _ hw=>hw.a8 (α:=Held))<|R.mp (fun _ hw=>hw.a8 (α:=Note)) ?_
  have hz:jk r p slot=((⟨[],[],[],[],0,0⟩:aD),gM r (⟨p.az,slot⟩:Place)):=by (unfold jk;(repeat' split) <;> rfl)
  rw [hz]
  exact R.w2 ((nS),(nS),(nS),(nS)) [5] gN O Tryz.results58 (RV.cell 2 O O ar) (RV.tmp O) O O O (dz O O)
 refine R.q (q.eo O O Tryz.underlying38) O<|R.nil<|R.ay O O<|R.reg O<|R.q (q.build d9 O O) O<|R.u 1 O<|R.s O (s.st 1 _ O O O O (.inl ar) O O O O) fun _=>R.u 1 O<|R.nil<|R.mp (fun _ hw=>hw.a8 (α:=ap))<|R.mp (fun _ hw=>hw.a8 (α:=aE))<|R.mp (fun _ hw=>hw.a8 (α:=Held))<|R.mp (fun _ hw=>hw.a8 (α:=Note)) ?_
 have hz:jk r p slot=((⟨[],[],[],[],0,0⟩:aD),(aQ r p).2):=by (unfold jk;(repeat' split) <;> first|rfl|(exfalso;omega)|(simp_all;done))
 rw [hz]
 exact R.w2 ((nS),(nS),(nS),(nS)) [4] gN O Tryz.results58 (RV.cell 1 O O ar) (RV.tmp O) O O O (dz O O)
theorem H7 (bH bB bC bD:Value)(r:aD)(p:Place)(w:World)(own:List Nat)(H:HN w own [] [af.ls bH r.aj,af.ls bB r.Things,af.ls bC r.Held,af.ls bD r.Notes])(hk:Ok r):RC Tryz.prog 59 #[.agg #[bH,bB,bC,bD,iV r.ae,iV r.ah],.agg #[iV p.az,iV p.Slot]] H (fun z:Value×Value×Value×Value => .tuple #[.agg #[z.1,z.2.1,z.2.2.1,z.2.2.2,iV (jK r p).1.ae,iV (jK r p).1.ah],dh (jK r p).2]) (fun _=>[]) (fun z=>[af.ls z.1 (jK r p).1.aj,af.ls z.2.1 (jK r p).1.Things,af.ls z.2.2.1 (jK r p).1.Held,af.ls z.2.2.2 (jK r p).1.Notes]):=by
 have eJ:=H.cx 0 rfl
 have dM:=H.cx 1 rfl
 have fI:=H.cx 2 rfl
 have eK:=H.cx 3 rfl
 have bw:=hk.wl;have bt:=hk.tl;have bh:=hk.hl;have bn:=hk.nl;have KO:=hk.w0;have KP:=hk.w1;have KQ:=hk.t0;have KR:=hk.t1
 have hkd:=hk.wo (aQ r p).1.ID
 refine R.bF [(0,.agg #[bH,bB,bC,bD,iV r.ae,iV r.ah]),(1,.agg #[iV p.az,iV p.Slot])] Tryz.func59 O O O O H<|R.reg O<|R.s O (s.box O O O) fun b1=>R.s O (s.box O O O) fun b2=>R.s O (s.alloc dQ O O) fun b3=>R.u 1 O<|R.nil<|R.reg O<|R.q (q.dv 2 O O ar) O<|R.q (q.dv 1 O O bP) O<|R.c (q.call tL O O (fun w hw=>(qV _ _ _ _ r p w (hw.bT 0 O) (hw.bT 1 O) (hw.bT 2 O) (hw.bT 3 O) ‹_›))) O<|R.u 3 O<|R.s O (s.alloc bQ O O) fun b4=>R.s O (s.st 0 _ O O O O (.inl aL) O O O O) fun _=>R.u 1 O<|R.nil<|R.reg O<|R.u 1 O<|?_
 by_cases h1:(aQ r p).2=0
 .
  refine R.q (q.dC O O Tryz.underlying38) O<|R.nil<|R.aB O O<|R.reg O<|R.q (q.aO O bg O) O<|R.q (q.ld 3 O O bV O) O<|R.q (q.aO O bX O) O<|R.q (q.ld 0 O O av O) O<|R.s O (s.vS Jf O O (fun w hw=>qj _ r.aj (aQ r p).1.ID w (hw.bT 0 O) (by omega)) O) fun v1=>R.q (q.aO O bg O) O<|R.s O (s.fZ 4 _ O O O (fun w hw=>Sl.cu (hw.row 0 O)) (.inr ⟨bV,rfl⟩) (fun w hw=>(ag (Sl.one (hw.row 0 O)) aP)) O O O) fun _=>R.nil<|R.reg O<|R.q (q.dv 4 O O ar) O<|R.s O (s.pre (fun _ hw=>hw.cX 0 _ O O) (s.aW ig [0,2,3,4] _ _ _ O O O Jg O O (fun w own hw H=>si v1 bB bC bD (⟨(without r.aj (aQ r p).1.ID),r.Things,r.Held,r.Notes,r.ae,r.ah⟩:aD) w own H ‹_›) O)) ?_
  rintro ⟨z1,z2,z3,z4⟩
  dsimp only
  refine R.s O (s.fZ 1 _ O O O (fun _ _=>rfl) (.inl ar) (fun w hw=>(ag (Sl.one (hw.bT 0 O)) (ag (Sl.one (hw.bT 1 O)) (ag (Sl.one (hw.bT 2 O)) (ag (Sl.one (hw.bT 3 O)) (ag O (ag O aP))))))) O O O) fun _=>R.u 1 O<|R.nil ?_
  have hz:jK r p=((dS (⟨(without r.aj (aQ r p).1.ID),r.Things,r.Held,r.Notes,r.ae,r.ah⟩:aD)),0):=by (unfold jK;(repeat' split) <;> rfl)
  rw [hz]
  exact R.w2 (z1,z2,z3,z4) [4] bS O Tryz.results59 (RV.cell 1 O O ar) (RV.tmp O) O O O (dz O (iI O))
 refine R.q (q.eo O O Tryz.underlying38) O<|R.nil<|R.ay O O<|R.reg O<|R.q (q.build d9 O O) O<|R.u 1 O<|R.s O (s.st 1 _ O O O O (.inl ar) O O O O) fun _=>R.u 1 O<|R.nil<|R.mp (fun _ hw=>hw.a8 (α:=ap))<|R.mp (fun _ hw=>hw.a8 (α:=aE))<|R.mp (fun _ hw=>hw.a8 (α:=Held))<|R.mp (fun _ hw=>hw.a8 (α:=Note)) ?_
 have hz:jK r p=((⟨[],[],[],[],0,0⟩:aD),(aQ r p).2):=by (unfold jK;(repeat' split) <;> first|rfl|(exfalso;omega)|(simp_all;done))
 rw [hz]
 exact R.w2 ((nS),(nS),(nS),(nS)) [4] gN O Tryz.results59 (RV.cell 1 O O ar) (RV.tmp O) O O O (dz O O)
set_option maxHeartbeats 1000000 in
theorem Ds (bH bB bC bD:Value)(r:aD)(p:Place)(w:World)(own:List Nat)(H:HN w own [] [af.ls bH r.aj,af.ls bB r.Things,af.ls bC r.Held,af.ls bD r.Notes])(hk:Ok r):RC Tryz.prog 60 #[.agg #[bH,bB,bC,bD,iV r.ae,iV r.ah],.agg #[iV p.az,iV p.Slot]] H (fun z:Value×Value×Value×Value => .tuple #[.agg #[z.1,z.2.1,z.2.2.1,z.2.2.2,iV (ff r p).1.ae,iV (ff r p).1.ah],dh (ff r p).2]) (fun _=>[]) (fun z=>[af.ls z.1 (ff r p).1.aj,af.ls z.2.1 (ff r p).1.Things,af.ls z.2.2.1 (ff r p).1.Held,af.ls z.2.2.2 (ff r p).1.Notes]):=by
 have eJ:=H.cx 0 rfl
 have dM:=H.cx 1 rfl
 have fI:=H.cx 2 rfl
 have eK:=H.cx 3 rfl
 have bw:=hk.wl;have bt:=hk.tl;have bh:=hk.hl;have bn:=hk.nl;have KO:=hk.w0;have KP:=hk.w1;have KQ:=hk.t0;have KR:=hk.t1
 have hkd:Ok (⟨r.aj.filter (fun x => !(fun (x:ap)=>decide (x.ID∈(ky (aQ r p).1.ID r.aj))) x),r.Things,r.Held,r.Notes,r.ae,r.ah⟩:aD):=hk.cut (aQ r p).1.ID
 refine R.bF [(0,.agg #[bH,bB,bC,bD,iV r.ae,iV r.ah]),(1,.agg #[iV p.az,iV p.Slot])] Tryz.func60 O O O O H<|R.reg O<|R.s O (s.box O O O) fun b1=>R.s O (s.box O O O) fun b2=>R.s O (s.alloc dQ O O) fun b3=>R.u 1 O<|R.nil<|R.reg O<|R.q (q.dv 2 O O ar) O<|R.q (q.dv 1 O O bP) O<|R.c (q.call tL O O (fun w hw=>(qV _ _ _ _ r p w (hw.bT 0 O) (hw.bT 1 O) (hw.bT 2 O) (hw.bT 3 O) ‹_›))) O<|R.u 3 O<|R.s O (s.alloc bQ O O) fun b4=>R.s O (s.st 0 _ O O O O (.inl aL) O O O O) fun _=>R.u 1 O<|R.nil<|R.reg O<|R.u 1 O<|?_
 by_cases h1:(aQ r p).2=0
 .
  refine R.q (q.dC O O Tryz.underlying38) O<|R.nil<|R.aB O O<|R.reg O<|R.q (q.aO O bg O) O<|R.q (q.ld 3 O O bV O) O<|R.q (q.aO O bX O) O<|R.q (q.ld 0 O O av O) O<|R.s O (s.vS O6 O O (fun w hw=>BH _ r.aj (aQ r p).1.ID w (hw.bT 0 O) (by omega)) O) fun v1=>R.s O (s.alloc zm O O) fun b5=>R.s O (s.fZ 0 _ O O O (fun w hw=>Sl.cu (hw.row 1 O)) (.inr ⟨nK,rfl⟩) (fun w hw=>(ag (Sl.one (hw.row 1 O)) aP)) O O O) fun _=>R.nil<|R.reg O<|R.q (q.aO O bg O) O<|R.q (q.ld 5 O O bV O) O<|R.s O (s.aW ml [0] _ _ _ O O O wu O O (fun w own hw H=>jL bH r.aj w own H (by omega)) O) fun z1=>R.q (q.LU (cap:=[.pointer (some ⟨b5,0,none⟩)]) O O) O<|R.s O (s.aW ft [] _ _ _ O O O O7 O O (fun w own hw H=>vo z1 r.aj (fun (x:ap)=>decide (x.ID∈(ky (aQ r p).1.ID r.aj))) _ _ O8 w own H (fun W x hU=>yV x _ (ky (aQ r p).1.ID r.aj) _ W (hw.wj 1 0 O O (by decide) hU) (Own.sl (hw.wj 2 0 O O (by decide) hU)) ) (by omega)) O) fun z2=>R.q (q.aO O bg O) O<|R.s O (s.fZ 6 _ O O O (fun w hw=>Sl.cu (hw.row 0 O)) (.inr ⟨bV,rfl⟩) (fun w hw=>(ag (Sl.one (hw.row 0 O)) aP)) O O O) fun _=>R.nil<|R.reg O<|R.q (q.dv 6 O O ar) O<|R.s O (s.pre (fun _ hw=>hw.cX 0 _ O O) (s.aW ml [0,2,3,4] _ _ _ O O O Jg O O (fun w own hw H=>by have PL:=si z2 bB bC bD (⟨r.aj.filter (fun x => !(fun (x:ap)=>decide (x.ID∈(ky (aQ r p).1.ID r.aj))) x),r.Things,r.Held,r.Notes,r.ae,r.ah⟩:aD) w own H ‹_›;exact PL) O)) ?_
  rintro ⟨z3,z4,z5,z6⟩
  dsimp only
  refine R.s O (s.fZ 3 _ O O O (fun _ _=>rfl) (.inl ar) (fun w hw=>(ag (Sl.one (hw.bT 0 O)) (ag (Sl.one (hw.bT 1 O)) (ag (Sl.one (hw.bT 2 O)) (ag (Sl.one (hw.bT 3 O)) (ag O (ag O aP))))))) O O O) fun _=>R.u 1 O<|R.nil ?_
  have hz:ff r p=((dS (⟨r.aj.filter (fun x => !(fun (x:ap)=>decide (x.ID∈(ky (aQ r p).1.ID r.aj))) x),r.Things,r.Held,r.Notes,r.ae,r.ah⟩:aD)),0):=by (unfold ff;(repeat' split) <;> rfl)
  rw [hz]
  exact R.w2 (z3,z4,z5,z6) [6] bS O Tryz.results60 (RV.cell 3 O O ar) (RV.tmp O) O O O (dz O (iI O))
 refine R.q (q.eo O O Tryz.underlying38) O<|R.nil<|R.ay O O<|R.reg O<|R.q (q.build d9 O O) O<|R.u 1 O<|R.s O (s.st 1 _ O O O O (.inl ar) O O O O) fun _=>R.u 1 O<|R.nil<|R.mp (fun _ hw=>hw.a8 (α:=ap))<|R.mp (fun _ hw=>hw.a8 (α:=aE))<|R.mp (fun _ hw=>hw.a8 (α:=Held))<|R.mp (fun _ hw=>hw.a8 (α:=Note)) ?_
 have hz:ff r p=((⟨[],[],[],[],0,0⟩:aD),(aQ r p).2):=by (unfold ff;(repeat' split) <;> first|rfl|(exfalso;omega)|(simp_all;done))
 rw [hz]
 exact R.w2 ((nS),(nS),(nS),(nS)) [4] gN O Tryz.results60 (RV.cell 1 O O ar) (RV.tmp O) O O O (dz O O)
theorem xR (bH bB bC bD:Value)(r:aD)(p:Place)(kind:Int)(rights:Int)(w:World)(yR:Sl w bH r.aj)(BK:Sl w bB r.Things)(Fb:Sl w bC r.Held)(ML:Sl w bD r.Notes)(hk:Ok r)(hr:0<=rights/\rights<=7):Calls Tryz.prog 125 #[.agg #[bH,bB,bC,bD,iV r.ae,iV r.ah],.agg #[iV p.az,iV p.Slot],iV kind,iV rights] w fun e w'=>e = .returned (.tuple #[ap.val (bR r p kind rights).1,iV (bR r p kind rights).2.1,dh (bR r p kind rights).2.2])/\Ext w w':=by
 have bw:=hk.wl;have bt:=hk.tl;have bh:=hk.hl;have bn:=hk.nl;have KO:=hk.w0;have KP:=hk.w1;have KQ:=hk.t0;have KR:=hk.t1
 refine R.enter [] [(0,.agg #[bH,bB,bC,bD,iV r.ae,iV r.ah]),(1,.agg #[iV p.az,iV p.Slot]),(2,iV kind),(3,iV rights)] Tryz.func125 O O O O<|R.reg O<|R.s O (s.box O O O) fun b1=>R.s O (s.box O O O) fun b2=>R.s O (s.alloc bQ O O) fun b3=>R.u 2 O<|R.nil<|R.reg O<|R.q (q.dv 2 O O ar) O<|R.q (q.dv 1 O O bP) O<|R.c (q.call tL O O (fun w hw=>(qV _ _ _ _ r p w ((fun _=>Wd.old yR) w hw) ((fun _=>Wd.old BK) w hw) ((fun _=>Wd.old Fb) w hw) ((fun _=>Wd.old ML) w hw) ‹_›))) O<|R.u 3 O<|R.s O (s.alloc bQ O O) fun b4=>R.s O (s.st 0 _ O O O O (.inl aL) O O O O) fun _=>R.u 1 O<|R.nil<|R.reg O<|R.u 1 O<|?_
 by_cases h1:(aQ r p).2=0
 .
  have VQ:=hk.get h1
  refine R.q (q.dC O O Tryz.underlying38) O<|R.nil<|R.aB O O<|R.reg O<|R.q (q.aO O cF O) O<|R.q (q.ld 3 O O dD O) O<|R.q (q.LU (cap:=[.pointer (some ⟨b4,0,none⟩)]) O O) O<|?_
  rcases j3 (fun (t:aE)=>t.ID==(aQ r p).1.aE) r.Things with ⟨gW,Et⟩ | ⟨px,AY,gW,lY,ve,AZ,TF⟩
  .
   exact R.c (q.call AO O O (fun w hw=>(cv (congrArg (Value.int .i64) gW) (iu _ r.Things (fun (t:aE)=>t.ID==(aQ r p).1.aE) _ _ Jv w ((fun _=>Wd.old BK) w hw) (fun W t hW=>xQ t (aQ r p).1 _ W (sM (hw.b 0 O) hW) ) )))) O<|R.u 1 O<|R.nil<|R.reg O<|R.u 1 O<|R.q (q.lss (b:=true) O O (by decide)) O<|R.u 10 O<|R.nil<|R.ay O O<|R.reg O<|R.q (q.build iY O O) O<|R.q (q.iface O bm) O<|R.s O (s.st 1 _ O O O O (.inl aL) O O O O) fun _=>R.u 2 O<|R.nil<|R.Rn O Tryz.results125 (RV.cell 1 O O aL) (RV.tmp O) (RV.tmp O) (congrArg ap.val (show (⟨0,0,0,0,0⟩:ap)=(bR r p kind rights).1 from by (rw [qS ‹_› Et];rfl))) (rI (by (rw [qS ‹_› Et];done))) (dq (by decide) (by (rw [qS ‹_› Et];done)))
  refine R.c (q.call AO O O (fun w hw=>(cv (congrArg (Value.int .i64) gW) (iu _ r.Things (fun (t:aE)=>t.ID==(aQ r p).1.aE) _ _ Jv w ((fun _=>Wd.old BK) w hw) (fun W t hW=>xQ t (aQ r p).1 _ W (sM (hw.b 0 O) hW) ) )))) O<|R.u 1 O<|R.nil<|R.reg O<|R.u 1 O<|R.q (q.cW O O) O<|R.u 1 O<|R.qg O (q.aO O cF O) O<|R.qg O (q.ld 3 O O dD O) O<|R.u 1 O<|R.qg O (q.idx (i:=px) (fun _=>Wd.old BK) O O iK O lY) O<|R.qg O (q.nF (j':=1) (fun _=>Wd.old BK) lY O wq O) O<|R.qg O (q.lr (fun _=>Wd.old BK) lY O av O) O<|R.u 1 O<|?_
  by_cases h2:AY.Kind=kind
  .
   refine R.qg O (q.lH O O) O<|R.u 1 O<|R.nil<|R.aB O O<|R.reg O<|R.q (q.aO O jR O) O<|R.q (q.ld 0 O O av O) O<|R.u 1 O<|?_
   rcases Bool.eq_false_or_eq_true (jh (aQ r p).1.Rights rights) with h3|h3
   .
    exact R.c (q.call pQ O O (fun w hw=>(cv (congrArg Value.bool h3) (gK (aQ r p).1.Rights rights w (by omega) (by omega))))) O<|R.u 1 O<|R.nil<|R.aB O O<|R.reg O<|R.q (q.dv 0 O O aL) O<|R.u 1 O<|R.s O (s.st 1 _ O O O O (.inl aL) O O O O) fun _=>R.u 2 O<|R.nil<|R.Rn O Tryz.results125 (RV.cell 1 O O aL) (RV.tmp O) (RV.tmp O) (congrArg ap.val (show (aQ r p).1=(bR r p kind rights).1 from by (rw [vB ‹_› lY ve AZ ‹_› ‹_›];done))) (rI (by (rw [vB ‹_› lY ve AZ ‹_› ‹_›];done))) (iI (by (rw [vB ‹_› lY ve AZ ‹_› ‹_›];done)))
   exact R.c (q.call pQ O O (fun w hw=>(cv (congrArg Value.bool h3) (gK (aQ r p).1.Rights rights w (by omega) (by omega))))) O<|R.u 1 O<|R.nil<|R.ay O O<|R.reg O<|R.q (q.build iY O O) O<|R.q (q.iface O bm) O<|R.s O (s.st 1 _ O O O O (.inl aL) O O O O) fun _=>R.u 2 O<|R.nil<|R.Rn O Tryz.results125 (RV.cell 1 O O aL) (RV.tmp O) (RV.tmp O) (congrArg ap.val (show (⟨0,0,0,0,0⟩:ap)=(bR r p kind rights).1 from by (rw [oS ‹_› lY ve AZ ‹_› ‹_›];rfl))) (rI (by (rw [oS ‹_› lY ve AZ ‹_› ‹_›];done))) (dq (by decide) (by (rw [oS ‹_› lY ve AZ ‹_› ‹_›];done)))
  exact R.qg O (q.lG O O) O<|R.u 1 O<|R.nil<|R.ay O O<|R.reg O<|R.q (q.build iY O O) O<|R.q (q.iface O bm) O<|R.s O (s.st 1 _ O O O O (.inl aL) O O O O) fun _=>R.u 2 O<|R.nil<|R.Rn O Tryz.results125 (RV.cell 1 O O aL) (RV.tmp O) (RV.tmp O) (congrArg ap.val (show (⟨0,0,0,0,0⟩:ap)=(bR r p kind rights).1 from by (rw [qT ‹_› lY ve AZ ‹_›];rfl))) (rI (by (rw [qT ‹_› lY ve AZ ‹_›];done))) (dq (by decide) (by (rw [qT ‹_› lY ve AZ ‹_›];done)))
 exact R.q (q.eo O O Tryz.underlying38) O<|R.nil<|R.ay O O<|R.reg O<|R.q (q.build iY O O) O<|R.u 1 O<|R.s O (s.st 1 _ O O O O (.inl aL) O O O O) fun _=>R.u 2 O<|R.nil<|R.Rn O Tryz.results125 (RV.cell 1 O O aL) (RV.tmp O) (RV.tmp O) (congrArg ap.val (show (⟨0,0,0,0,0⟩:ap)=(bR r p kind rights).1 from by (rw [tg ‹_›];rfl))) (rI (by (rw [tg ‹_›];done))) (rE (by (rw [tg ‹_›];done)))
theorem Fc (bH bB bC bD:Value)(r:aD)(p:Place)(d:ByteArray)(w:World)(own:List Nat)(H:HN w own [] [af.ls bH r.aj,af.ls bB r.Things,af.ls bC r.Held,af.ls bD r.Notes])(hk:Ok r):RC Tryz.prog 61 #[.agg #[bH,bB,bC,bD,iV r.ae,iV r.ah],.agg #[iV p.az,iV p.Slot],.string d] H (fun z:Value×Value×Value×Value => .tuple #[.agg #[z.1,z.2.1,z.2.2.1,z.2.2.2,iV (fX r p d).1.ae,iV (fX r p d).1.ah],dh (fX r p d).2]) (fun _=>[]) (fun z=>[af.ls z.1 (fX r p d).1.aj,af.ls z.2.1 (fX r p d).1.Things,af.ls z.2.2.1 (fX r p d).1.Held,af.ls z.2.2.2 (fX r p d).1.Notes]):=by
 have eJ:=H.cx 0 rfl
 have dM:=H.cx 1 rfl
 have fI:=H.cx 2 rfl
 have eK:=H.cx 3 rfl
 have bw:=hk.wl;have bt:=hk.tl;have bh:=hk.hl;have bn:=hk.nl;have KO:=hk.w0;have KP:=hk.w1;have KQ:=hk.t0;have KR:=hk.t1
 refine R.bF [(0,.agg #[bH,bB,bC,bD,iV r.ae,iV r.ah]),(1,.agg #[iV p.az,iV p.Slot]),(2,.string d)] Tryz.func61 O O O O H<|R.reg O<|R.s O (s.box O O O) fun b1=>R.s O (s.box O O O) fun b2=>R.s O (s.alloc dQ O O) fun b3=>R.u 1 O<|R.nil<|R.reg O<|R.q (q.dv 2 O O ar) O<|R.q (q.dv 1 O O bP) O<|R.c (q.call EA O O (fun w hw=>(xR _ _ _ _ r p 1 2 w (hw.bT 0 O) (hw.bT 1 O) (hw.bT 2 O) (hw.bT 3 O) ‹_› (by omega)))) O<|R.u 4 O<|R.s O (s.alloc bQ O O) fun b4=>R.s O (s.st 0 _ O O O O (.inl aL) O O O O) fun _=>R.u 2 O<|R.nil<|R.reg O<|R.u 1 O<|?_
 by_cases h1:(bR r p 1 2).2.2=0
 .
  obtain ⟨m1,m2,m3,i,ix,ik,ih,ii,id,ib⟩:=qU h1;have iB:=(List.getElem?_eq_some_iff.1 ih).1
  refine R.q (q.dC O O Tryz.underlying38) O<|R.nil<|R.aB O O<|R.reg O<|R.u 1 O<|R.q (q.iy O Tryz.underlying9) O<|?_
  by_cases h2:8<d.size
  .
   refine R.q (q.eL O O) O<|R.nil<|R.ay O O<|R.reg O<|R.q (q.build d9 O O) O<|R.q (q.iface O bm) O<|R.s O (s.st 1 _ O O O O (.inl ar) O O O O) fun _=>R.u 1 O<|R.nil<|R.mp (fun _ hw=>hw.a8 (α:=ap))<|R.mp (fun _ hw=>hw.a8 (α:=aE))<|R.mp (fun _ hw=>hw.a8 (α:=Held))<|R.mp (fun _ hw=>hw.a8 (α:=Note)) ?_
   have hz:fX r p d=((⟨[],[],[],[],0,0⟩:aD),2):=by (unfold fX gY;(repeat' split) <;> rfl)
   rw [hz]
   exact R.w2 ((nS),(nS),(nS),(nS)) [4] gN O Tryz.results61 (RV.cell 1 O O ar) (RV.tmp O) O O O (dz O (dq (by decide) O))
  refine R.q (q.eu O O) O<|R.nil<|R.aB O O<|R.reg O<|R.q (q.aO O cF O) O<|R.q (q.ld 3 O O dD O) O<|R.s O (s.aW ig [1] _ _ _ O O O wv O O (fun w own hw H=>jl bB r.Things w own H (by omega)) O) fun z1=>R.q (q.aO O cF O) O<|R.s O (s.fZ 4 _ O O O (fun w hw=>Sl.cu (hw.row 0 O)) (.inr ⟨dD,rfl⟩) (fun w hw=>(ag (Sl.one (hw.row 0 O)) aP)) O O O) fun _=>R.nil<|R.reg O<|R.q (q.aO O cF O) O<|R.q (q.ld 4 O O dD O) O<|R.u 2 O<|?_
  obtain ⟨x1,hx1⟩:∃z,r.Things[(bR r p 1 2).2.1.toNat]? = some z:=⟨_,List.getElem?_eq_getElem (by omega)⟩
  refine R.q (q.idx (i:=(bR r p 1 2).2.1.toNat) (ck 0 O) O O iK (by omega) hx1) O<|R.q (q.nF (j':=2) (ck 0 O) hx1 O wt O) O<|R.s O (s.stP (o:=2) (z:=(⟨x1.ID,x1.Kind,d⟩:aE)) 0 _ O hx1 O O O O O (by simp [Value.oneCell']) (.inr ⟨bK,rfl⟩) O) fun _=>R.nil<|R.reg O<|R.q (q.dv 4 O O ar) O<|R.s O (s.fZ 2 _ O O O (fun _ _=>rfl) (.inl ar) (fun w hw=>(ag (Sl.one (hw.bT 0 O)) (ag (Sl.one (hw.row 0 O)) (ag (Sl.one (hw.bT 2 O)) (ag (Sl.one (hw.bT 3 O)) (ag O (ag O aP))))))) O O O) fun _=>R.u 1 O<|R.nil<|R.mp (fun _ hw=>hw.cX 0 _ O O) ?_
  have hz:fX r p d=((⟨r.aj,(r.Things.set (bR r p 1 2).2.1.toNat (⟨x1.ID,x1.Kind,d⟩:aE)),r.Held,r.Notes,r.ae,r.ah⟩:aD),0):=by (unfold fX gY;(repeat' split) <;> first|rfl|(exfalso;omega)|(simp_all;done))
  rw [hz]
  exact R.w2 (bH,z1,bC,bD) [4] [1,0,3,4] O Tryz.results61 (RV.cell 1 O O ar) (RV.tmp O) O O O (dz O (iI O))
 refine R.q (q.eo O O Tryz.underlying38) O<|R.nil<|R.ay O O<|R.reg O<|R.q (q.build d9 O O) O<|R.u 1 O<|R.s O (s.st 1 _ O O O O (.inl ar) O O O O) fun _=>R.u 1 O<|R.nil<|R.mp (fun _ hw=>hw.a8 (α:=ap))<|R.mp (fun _ hw=>hw.a8 (α:=aE))<|R.mp (fun _ hw=>hw.a8 (α:=Held))<|R.mp (fun _ hw=>hw.a8 (α:=Note)) ?_
 have hz:fX r p d=((⟨[],[],[],[],0,0⟩:aD),(bR r p 1 2).2.2):=by (unfold fX gY;(repeat' split) <;> first|rfl|(exfalso;omega)|(simp_all;done))
 rw [hz]
 exact R.w2 ((nS),(nS),(nS),(nS)) [4] gN O Tryz.results61 (RV.cell 1 O O ar) (RV.tmp O) O O O (dz O O)
set_option maxRecDepth 100000 in
set_option maxHeartbeats 800000 in
theorem H8 (bH bB bC bD:Value)(r:aD)(p:Place)(d:ByteArray)(slot:Int)(rights:Int)(w:World)(own:List Nat)(H:HN w own [] [af.ls bH r.aj,af.ls bB r.Things,af.ls bC r.Held,af.ls bD r.Notes])(hk:Ok r):RC Tryz.prog 62 #[.agg #[bH,bB,bC,bD,iV r.ae,iV r.ah],.agg #[iV p.az,iV p.Slot],.string d,iV slot,iV rights] H (fun z:Value×Value×Value×Value => .tuple #[.agg #[z.1,z.2.1,z.2.2.1,z.2.2.2,iV (dO r p d slot rights).1.ae,iV (dO r p d slot rights).1.ah],dh (dO r p d slot rights).2]) (fun _=>[]) (fun z=>[af.ls z.1 (dO r p d slot rights).1.aj,af.ls z.2.1 (dO r p d slot rights).1.Things,af.ls z.2.2.1 (dO r p d slot rights).1.Held,af.ls z.2.2.2 (dO r p d slot rights).1.Notes]):=by
 have eJ:=H.cx 0 rfl
 have dM:=H.cx 1 rfl
 have fI:=H.cx 2 rfl
 have eK:=H.cx 3 rfl
 have bw:=hk.wl;have bt:=hk.tl;have bh:=hk.hl;have bn:=hk.nl;have KO:=hk.w0;have KP:=hk.w1;have KQ:=hk.t0;have KR:=hk.t1
 refine R.bF [(0,.agg #[bH,bB,bC,bD,iV r.ae,iV r.ah]),(1,.agg #[iV p.az,iV p.Slot]),(2,.string d),(3,iV slot),(4,iV rights)] Tryz.func62 O O O O H<|R.reg O<|R.s O (s.box O O O) fun b1=>R.s O (s.box O O O) fun b2=>R.s O (s.alloc dQ O O) fun b3=>R.u 1 O<|R.nil<|R.reg O<|R.q (q.dv 2 O O ar) O<|R.q (q.dv 1 O O bP) O<|R.c (q.call EA O O (fun w hw=>(xR _ _ _ _ r p 2 2 w (hw.bT 0 O) (hw.bT 1 O) (hw.bT 2 O) (hw.bT 3 O) ‹_› (by omega)))) O<|R.u 4 O<|R.s O (s.alloc bQ O O) fun b4=>R.s O (s.st 0 _ O O O O (.inl aL) O O O O) fun _=>R.u 2 O<|R.nil<|R.reg O<|R.u 1 O<|?_
 by_cases h1:(bR r p 2 2).2.2=0
 .
  have mz:=qU h1;have mr:=hk.get mz.1;rw [<- mz.2.1] at mr
  refine R.q (q.dC O O Tryz.underlying38) O<|R.nil<|R.aB O O<|R.reg O<|R.u 1 O<|R.q (q.iy O Tryz.underlying9) O<|?_
  by_cases h2:8<d.size
  .
   refine R.q (q.eL O O) O<|R.nil<|R.ay O O<|R.reg O<|R.q (q.build d9 O O) O<|R.q (q.iface O bm) O<|R.s O (s.st 1 _ O O O O (.inl ar) O O O O) fun _=>R.u 1 O<|R.nil<|R.mp (fun _ hw=>hw.a8 (α:=ap))<|R.mp (fun _ hw=>hw.a8 (α:=aE))<|R.mp (fun _ hw=>hw.a8 (α:=Held))<|R.mp (fun _ hw=>hw.a8 (α:=Note)) ?_
   have hz:dO r p d slot rights=((⟨[],[],[],[],0,0⟩:aD),2):=by (unfold dO;(repeat' split) <;> rfl)
   rw [hz]
   exact R.w2 ((nS),(nS),(nS),(nS)) [4] gN O Tryz.results62 (RV.cell 1 O O ar) (RV.tmp O) O O O (dz O (dq (by decide) O))
  refine R.q (q.eu O O) O<|R.nil<|R.aB O O<|R.reg O<|R.u 1 O<|R.nil<|R.reg O<|R.q (q.aO O cI O) O<|R.q (q.ld 3 O O dw O) O<|R.q (q.len' (dr 3 O) O Tryz.underlying46) O<|R.u 1 O<|R.nil<|R.loop (fun g_:Nat×Nat=>[(2,.string d),(3,iV slot),(4,iV rights),(5,.pointer (some ⟨b1,0,none⟩)),(6,.pointer (some ⟨b2,0,none⟩)),(10,.pointer (some ⟨b3,0,none⟩)),(12,.pointer (some ⟨b4,0,none⟩)),(15,iV (g_.2:Int)),(39,bD),(40,iV (r.Notes.length:Int)),(41,iV (g_.1:Int))]) (fun g_=>[af.box b4 [iV (bR r p 2 2).1.ID,iV (bR r p 2 2).1.aE,iV (bR r p 2 2).1.Rights,iV (bR r p 2 2).1.aN,iV (bR r p 2 2).1.From] 127,af.box b3 rP 48,af.box b2 (fw p) 32,af.box b1 [bH,bB,bC,bD,iV r.ae,iV r.ah] 48,af.held w own]) (fun g_=>[af.ls bH r.aj,af.ls bB r.Things,af.ls bC r.Held,af.ls bD r.Notes]) (fun g_=>g_.1<=r.Notes.length/\g_.2=gi (r.Notes.take g_.1) (bR r p 2 2).1.aE) (fun g_=>r.Notes.length-g_.1) (0,0) O (by exact ⟨by omega,by simp [gi]⟩) (sF O) (fun _=>Wd.pick ig bS O O O) ?_
  rintro ⟨k,c⟩ ⟨hk1,HC⟩
  dsimp only at *
  have hc1:c<=k:=by rw [HC];exact MK
  refine R.reg O<|?_
  by_cases h3:k<r.Notes.length
  .
   refine R.q (q.dy O O) O<|R.nil<|R.ay O O<|R.reg O<|?_
   obtain ⟨x1,hx1⟩:∃z,r.Notes[k]? = some z:=⟨_,List.getElem?_eq_getElem (by omega)⟩
   refine R.q (q.idx (i:=k) (dr 3 O) O O fA O hx1) O<|R.q (q.eV (ds:=mq x1) (dr 3 O) hx1 O di O) O<|R.s O (s.alloc eW O O) fun b5=>R.s O (s.st 0 _ O O O O (.inl di) O O O O) fun _=>R.nil<|R.reg O<|R.q (q.aO O qB O) O<|R.q (q.ld 0 O O av O) O<|R.q (q.aO O fT O) O<|R.q (q.ld 1 O O av O) O<|?_
   by_cases h4:x1.Port=(bR r p 2 2).1.aE
   .
    refine R.q (q.fQ O O) O<|R.nil<|R.ay O O<|R.reg O<|R.u 1 O<|R.q (q.bA (r:=((c+1:Nat):Int)) O O) O<|R.u 1 O<|R.nil<|R.reg O<|R.q (q.bA (r:=((k+1:Nat):Int)) O O) O<|R.u 1 O<|R.nil<|R.back ((k+1),(c+1)) O (by (exact ⟨by omega,by rw [KL hx1 ‹_›,HC]⟩)) (by dsimp only;omega) (sF O) (aC uy bS O O O)
   refine R.q (q.fa O O) O<|R.nil<|R.aB O O<|R.reg O<|R.q (q.bA (r:=((k+1:Nat):Int)) O O) O<|R.u 1 O<|R.nil<|R.back ((k+1),c) O (by (exact ⟨by omega,by rw [H3 hx1 ‹_›,HC]⟩)) (by dsimp only;omega) (sF O) (aC uy bS O O O)
  refine R.q (q.cW O O) O<|R.nil<|R.aB O O<|R.reg O<|R.u 1 O<|?_
  by_cases h5:c=3
  .
   refine R.q (q.fQ O O) O<|R.nil<|R.ay O O<|R.reg O<|R.q (q.build d9 O O) O<|R.q (q.iface O bm) O<|R.s O (s.st 1 _ O O O O (.inl ar) O O O O) fun _=>R.u 1 O<|R.nil<|R.mp (fun _ hw=>hw.a8 (α:=ap))<|R.mp (fun _ hw=>hw.a8 (α:=aE))<|R.mp (fun _ hw=>hw.a8 (α:=Held))<|R.mp (fun _ hw=>hw.a8 (α:=Note)) ?_
   have hz:dO r p d slot rights=((⟨[],[],[],[],0,0⟩:aD),9):=by (rw [List.take_of_length_le (by omega)] at HC;subst HC;unfold dO;(repeat' split) <;> rfl)
   rw [hz]
   exact R.w2 ((nS),(nS),(nS),(nS)) [4] gN O Tryz.results62 (RV.cell 1 O O ar) (RV.tmp O) O O O (dz O (dq (by decide) O))
  refine R.q (q.fa O O) O<|R.nil<|R.aB O O<|R.reg O<|R.q (q.aO O fT O) O<|R.q (q.ld 0 O O av O) O<|R.u 1 O<|R.q (q.aO O iZ O) O<|R.q (q.ld 0 O O av O) O<|R.q (q.build FZ O O) O<|R.s O (s.alloc eW O O) fun b6=>R.s O (s.st 0 _ O O O O (.inl di) O O O O) fun _=>R.nil<|R.reg O<|R.u 1 O<|?_
  by_cases h6:slot<0
  .
   refine R.q (q.IW O O) O<|R.nil<|R.aB O O<|R.fu (fuel:=8) (Wd w (blks []++own) [af.box b6 [iV (bR r p 2 2).1.aE,.string d,iV (bR r p 2 2).1.aN,iV 0] 89,af.box b4 [iV (bR r p 2 2).1.ID,iV (bR r p 2 2).1.aE,iV (bR r p 2 2).1.Rights,iV (bR r p 2 2).1.aN,iV (bR r p 2 2).1.From] 127,af.box b3 rP 48,af.box b2 (fw p) 32,af.held w own] [af.ls bH r.aj,af.ls bB r.Things,af.ls bC r.Held,af.ls bD r.Notes]) O mixed O<|D.q (i:=0) O (aC pB bS O O O) O (q.aO O cI O) O<|D.q (i:=3) O (aC pB bS O O O) O (q.dv 0 O O di) O<|D.two (i:=1) (j:=4) O O ?_ ?_
   .
    refine Do.s (s.c (Qt.a (q.ld 4 O O dw O)) O) (fun _=>(aC pB bS O O O)) O fun _=>D.two (i:=2) (j:=4) O O ?_ ?_
    .
     refine Do.s (s.aW rO [3] _ _ _ O O O oC O O (fun w own hw H=>fh bD r.Notes w own H (by omega)) O) (fun _=>(aC sG bS O O O)) O fun z2=>D.one (i:=4) O<|Do.s (s.bs (l:=([(⟨((bR r p 2 2).1).aE,d,(bR r p 2 2).1.aN,0⟩:Note)]:List Note)) fA eW O O O O O O O) (fun _=>(aC o8 bS O O O)) O fun b7=>D.one (i:=5) O<|Do.s (s.app 1 _ O O O (ck 0 O) kg (by (simp;omega)) (by (simp;omega)) (fun _=>rfl) O) (fun _=>(aC o8 bS O O O)) O fun v1=>D.q (i:=6) O (aC o8 bS O O O) O (q.aO O cI O) O<|D.one (i:=7) O<|Do.s (s.fZ 6 _ O O O (fun w hw=>Sl.cu (hw.row 1 O)) (.inr ⟨dw,rfl⟩) (fun w hw=>(ag (Sl.one (hw.row 1 O)) aP)) O O O) (fun _=>(aC o8 bS O O O)) O fun _=>D.done<|R.reg O<|R.q (q.dv 6 O O ar) O<|R.s O (s.fZ 4 _ O O O (fun _ _=>rfl) (.inl ar) (fun w hw=>(ag (Sl.one (hw.bT 0 O)) (ag (Sl.one (hw.bT 1 O)) (ag (Sl.one (hw.bT 2 O)) (ag (Sl.one (hw.row 1 O)) (ag O (ag O aP))))))) O O O) fun _=>R.u 1 O<|R.nil<|R.mp (fun _ hw=>hw.cX 1 _ O O) ?_
     have hz:dO r p d slot rights=((⟨r.aj,r.Things,r.Held,(r.Notes++([(⟨((bR r p 2 2).1).aE,d,(bR r p 2 2).1.aN,0⟩:Note)])),r.ae,r.ah⟩:aD),0):=by (rw [List.take_of_length_le (by omega)] at HC;subst HC;unfold dO;(repeat' split) <;> rfl)
     rw [hz]
     exact R.w2 (bH,bB,bC,v1) [6] vL O Tryz.results62 (RV.cell 3 O O ar) (RV.tmp O) O O O (dz O (iI O))
    refine Do.s (s.bs (l:=([(⟨((bR r p 2 2).1).aE,d,(bR r p 2 2).1.aN,0⟩:Note)]:List Note)) fA eW O O O O O O O) (fun _=>(aC sG bS O O O)) O fun b8=>D.one (i:=2) O<|Do.s (s.aW ml [3] _ _ _ O O O oC O O (fun w own hw H=>fh bD r.Notes w own H (by omega)) O) (fun _=>(aC o8 bS O O O)) O fun z3=>D.one (i:=5) O<|Do.s (s.app 0 _ O O O (ck 1 O) kg (by (simp;omega)) (by (simp;omega)) (fun _=>rfl) O) (fun _=>(aC o8 bS O O O)) O fun v2=>D.q (i:=6) O (aC o8 bS O O O) O (q.aO O cI O) O<|D.one (i:=7) O<|Do.s (s.fZ 6 _ O O O (fun w hw=>Sl.cu (hw.row 0 O)) (.inr ⟨dw,rfl⟩) (fun w hw=>(ag (Sl.one (hw.row 0 O)) aP)) O O O) (fun _=>(aC o8 bS O O O)) O fun _=>D.done<|R.reg O<|R.q (q.dv 6 O O ar) O<|R.s O (s.fZ 4 _ O O O (fun _ _=>rfl) (.inl ar) (fun w hw=>(ag (Sl.one (hw.bT 0 O)) (ag (Sl.one (hw.bT 1 O)) (ag (Sl.one (hw.bT 2 O)) (ag (Sl.one (hw.row 0 O)) (ag O (ag O aP))))))) O O O) fun _=>R.u 1 O<|R.nil<|R.mp (fun _ hw=>hw.cX 0 _ O O) ?_
    have hz:dO r p d slot rights=((⟨r.aj,r.Things,r.Held,(r.Notes++([(⟨((bR r p 2 2).1).aE,d,(bR r p 2 2).1.aN,0⟩:Note)])),r.ae,r.ah⟩:aD),0):=by (rw [List.take_of_length_le (by omega)] at HC;subst HC;unfold dO;(repeat' split) <;> rfl)
    rw [hz]
    exact R.w2 (bH,bB,bC,v2) [6] vL O Tryz.results62 (RV.cell 3 O O ar) (RV.tmp O) O O O (dz O (iI O))
   refine Do.s (s.bs (l:=([(⟨((bR r p 2 2).1).aE,d,(bR r p 2 2).1.aN,0⟩:Note)]:List Note)) fA eW O O O O O O O) (fun _=>(aC sG bS O O O)) O fun b9=>D.one (i:=1) O<|Do.s (s.c (Qt.a (q.ld 5 O O dw O)) O) (fun _=>(aC sG bS O O O)) O fun _=>D.one (i:=2) O<|Do.s (s.aW ml [3] _ _ _ O O O oC O O (fun w own hw H=>fh bD r.Notes w own H (by omega)) O) (fun _=>(aC o8 bS O O O)) O fun z4=>D.one (i:=5) O<|Do.s (s.app 0 _ O O O (ck 1 O) kg (by (simp;omega)) (by (simp;omega)) (fun _=>rfl) O) (fun _=>(aC o8 bS O O O)) O fun v3=>D.q (i:=6) O (aC o8 bS O O O) O (q.aO O cI O) O<|D.one (i:=7) O<|Do.s (s.fZ 6 _ O O O (fun w hw=>Sl.cu (hw.row 0 O)) (.inr ⟨dw,rfl⟩) (fun w hw=>(ag (Sl.one (hw.row 0 O)) aP)) O O O) (fun _=>(aC o8 bS O O O)) O fun _=>D.done<|R.reg O<|R.q (q.dv 6 O O ar) O<|R.s O (s.fZ 4 _ O O O (fun _ _=>rfl) (.inl ar) (fun w hw=>(ag (Sl.one (hw.bT 0 O)) (ag (Sl.one (hw.bT 1 O)) (ag (Sl.one (hw.bT 2 O)) (ag (Sl.one (hw.row 0 O)) (ag O (ag O aP))))))) O O O) fun _=>R.u 1 O<|R.nil<|R.mp (fun _ hw=>hw.cX 0 _ O O) ?_
   have hz:dO r p d slot rights=((⟨r.aj,r.Things,r.Held,(r.Notes++([(⟨((bR r p 2 2).1).aE,d,(bR r p 2 2).1.aN,0⟩:Note)])),r.ae,r.ah⟩:aD),0):=by (rw [List.take_of_length_le (by omega)] at HC;subst HC;unfold dO;(repeat' split) <;> rfl)
   rw [hz]
   exact R.w2 (bH,bB,bC,v3) [6] vL O Tryz.results62 (RV.cell 3 O O ar) (RV.tmp O) O O O (dz O (iI O))
  refine R.q (q.G2 O O) O<|R.nil<|R.ay O O<|R.reg O<|R.q (q.aO O jR O) O<|R.q (q.ld 1 O O av O) O<|?_
  rcases Bool.eq_false_or_eq_true (jh (bR r p 2 2).1.Rights 4) with h7|h7
  .
   refine R.c (q.call pQ O O (fun w hw=>(cv (congrArg Value.bool h7) (gK (bR r p 2 2).1.Rights 4 w (by omega) (by omega))))) O<|R.u 1 O<|R.nil<|R.aB O O<|R.reg O<|R.q (q.dv 4 O O ar) O<|R.q (q.aO O fx O) O<|R.q (q.ld 3 O O av O) O<|R.u 1 O<|R.q (q.build wn O O) O<|R.c (q.call tL O O (fun w hw=>(qV _ _ _ _ r (⟨p.az,slot⟩:Place) w (hw.bT 0 O) (hw.bT 1 O) (hw.bT 2 O) (hw.bT 3 O) ‹_›))) O<|R.u 3 O<|R.s O (s.alloc bQ O O) fun b10=>R.s O (s.st 0 _ O O O O (.inl aL) O O O O) fun _=>R.u 1 O<|R.nil<|R.reg O<|R.u 1 O<|?_
   by_cases h8:(aQ r (⟨p.az,slot⟩:Place)).2=0
   .
    have Wl:=hk.get h8
    have hn0:∀x,(e8 r x ⟨0,0⟩).Notes.length<=2000:=fun x=>hk.nl
    have hnz:=hn0 (derived (aQ r ⟨p.az,slot⟩).1 r.ae rights 0).1
    refine R.q (q.dC O O Tryz.underlying38) O<|R.nil<|R.aB O O<|R.reg O<|R.q (q.aO O cM O) O<|R.q (q.ld 5 O O av O) O<|?_
    by_cases h9:999<r.ae
    .
     refine R.q (q.eL O O) O<|R.nil<|R.ay O O<|R.reg O<|R.q (q.build d9 O O) O<|R.q (q.iface O bm) O<|R.s O (s.st 3 _ O O O O (.inl ar) O O O O) fun _=>R.u 1 O<|R.nil<|R.mp (fun _ hw=>hw.a8 (α:=ap))<|R.mp (fun _ hw=>hw.a8 (α:=aE))<|R.mp (fun _ hw=>hw.a8 (α:=Held))<|R.mp (fun _ hw=>hw.a8 (α:=Note)) ?_
     have hz:dO r p d slot rights=((⟨[],[],[],[],0,0⟩:aD),9):=by (rw [List.take_of_length_le (by omega)] at HC;subst HC;unfold dO;(repeat' split) <;> rfl)
     rw [hz]
     exact R.w2 ((nS),(nS),(nS),(nS)) [6] gN O Tryz.results62 (RV.cell 3 O O ar) (RV.tmp O) O O O (dz O (dq (by decide) O))
    refine R.q (q.eu O O) O<|R.nil<|R.aB O O<|R.reg O<|R.q (q.dv 0 O O aL) O<|R.q (q.aO O cM O) O<|R.q (q.ld 5 O O av O) O<|R.u 1 O<|R.c (q.call wB O O (fun w hw=>(mJ (aQ r (⟨p.az,slot⟩:Place)).1 r.ae rights 0 w (by omega)))) O<|R.u 3 O<|R.s O (s.alloc bQ O O) fun b11=>R.s O (s.st 0 _ O O O O (.inl aL) O O O O) fun _=>R.u 1 O<|R.nil<|R.reg O<|R.u 1 O<|?_
    by_cases h10:(derived (aQ r (⟨p.az,slot⟩:Place)).1 r.ae rights 0).2=0
    .
     refine R.q (q.dC O O Tryz.underlying38) O<|R.nil<|R.aB O O<|R.reg O<|R.q (q.dv 6 O O ar) O<|R.q (q.dv 0 O O aL) O<|R.q (q.build wn O O) O<|R.s O (s.aW ft bS _ _ _ O O O wA O O (fun w own hw H=>qq bH bB bC bD r (derived (aQ r (⟨p.az,slot⟩:Place)).1 r.ae rights 0).1 (⟨0,0⟩:Place) w own H (by omega)) O) ?_
     rintro ⟨z5,z6,z7,z8⟩
     dsimp only
     refine R.s O (s.fZ 6 _ O O O (fun _ _=>rfl) (.inl ar) (fun w hw=>(ag (Sl.one (hw.bT 0 O)) (ag (Sl.one (hw.bT 1 O)) (ag (Sl.one (hw.bT 2 O)) (ag (Sl.one (hw.bT 3 O)) (ag O (ag O aP))))))) O O O) fun _=>R.nil<|R.reg O<|R.q (q.aO O bX O) O<|R.q (q.ld 0 O O av O) O<|R.q (q.aO O iE O) O<|R.s O (s.st 2 _ O O O O (.inr ⟨av,rfl⟩) O O O O) fun _=>R.nil<|R.fu (fuel:=8) (Wd w (blks []++own) [af.box b11 [iV (derived (aQ r (⟨p.az,slot⟩:Place)).1 r.ae rights 0).1.ID,iV (derived (aQ r (⟨p.az,slot⟩:Place)).1 r.ae rights 0).1.aE,iV (derived (aQ r (⟨p.az,slot⟩:Place)).1 r.ae rights 0).1.Rights,iV (derived (aQ r (⟨p.az,slot⟩:Place)).1 r.ae rights 0).1.aN,iV (derived (aQ r (⟨p.az,slot⟩:Place)).1 r.ae rights 0).1.From] 127,af.box b10 [iV (aQ r (⟨p.az,slot⟩:Place)).1.ID,iV (aQ r (⟨p.az,slot⟩:Place)).1.aE,iV (aQ r (⟨p.az,slot⟩:Place)).1.Rights,iV (aQ r (⟨p.az,slot⟩:Place)).1.aN,iV (aQ r (⟨p.az,slot⟩:Place)).1.From] 127,af.box b6 [iV (bR r p 2 2).1.aE,.string d,iV (bR r p 2 2).1.aN,iV (derived (aQ r (⟨p.az,slot⟩:Place)).1 r.ae rights 0).1.ID] 89,af.box b4 [iV (bR r p 2 2).1.ID,iV (bR r p 2 2).1.aE,iV (bR r p 2 2).1.Rights,iV (bR r p 2 2).1.aN,iV (bR r p 2 2).1.From] 127,af.box b3 rP 48,af.box b2 (fw p) 32,af.held w own] [af.ls z5 (e8 r (derived (aQ r (⟨p.az,slot⟩:Place)).1 r.ae rights 0).1 (⟨0,0⟩:Place)).aj,af.ls z6 (e8 r (derived (aQ r (⟨p.az,slot⟩:Place)).1 r.ae rights 0).1 (⟨0,0⟩:Place)).Things,af.ls z7 (e8 r (derived (aQ r (⟨p.az,slot⟩:Place)).1 r.ae rights 0).1 (⟨0,0⟩:Place)).Held,af.ls z8 (e8 r (derived (aQ r (⟨p.az,slot⟩:Place)).1 r.ae rights 0).1 (⟨0,0⟩:Place)).Notes,af.ls bH r.aj,af.ls bB r.Things,af.ls bC r.Held,af.ls bD r.Notes]) O mixed O<|D.q (i:=0) O (aC [0,1,2,3,4,5,7] ft O O O) O (q.aO O cI O) O<|D.q (i:=3) O (aC [0,1,2,3,4,5,7] ft O O O) O (q.dv 2 O O di) O<|D.two (i:=1) (j:=4) O O ?_ ?_
     .
      refine Do.s (s.c (Qt.a (q.ld 6 O O dw O)) O) (fun _=>(aC [0,1,2,3,4,5,7] ft O O O)) O fun _=>D.two (i:=2) (j:=4) O O ?_ ?_
      .
       refine Do.s (s.aW ft [3] _ _ _ O O O oC O O (fun w own hw H=>fh z8 (e8 r (derived (aQ r (⟨p.az,slot⟩:Place)).1 r.ae rights 0).1 (⟨0,0⟩:Place)).Notes w own H (by omega)) O) (fun _=>(aC [1,2,3,4,5,6,8] ft O O O)) O fun lF=>D.one (i:=4) O<|Do.s (s.bs (l:=([(⟨((bR r p 2 2).1).aE,d,(bR r p 2 2).1.aN,(derived (aQ r (⟨p.az,slot⟩:Place)).1 r.ae rights 0).1.ID⟩:Note)]:List Note)) fA eW O O O O O O O) (fun _=>(aC o9 ft O O O)) O fun b12=>D.one (i:=5) O<|Do.s (s.app 1 _ O O O (ck 0 O) kg (by (simp;omega)) (by (simp;omega)) (fun _=>rfl) O) (fun _=>(aC o9 ft O O O)) O fun v4=>D.q (i:=6) O (aC o9 ft O O O) O (q.aO O cI O) O<|D.one (i:=7) O<|Do.s (s.fZ 8 _ O O O (fun w hw=>Sl.cu (hw.row 1 O)) (.inr ⟨dw,rfl⟩) (fun w hw=>(ag (Sl.one (hw.row 1 O)) aP)) O O O) (fun _=>(aC o9 ft O O O)) O fun _=>D.done<|R.reg O<|R.q (q.dv 8 O O ar) O<|R.s O (s.fZ 6 _ O O O (fun _ _=>rfl) (.inl ar) (fun w hw=>(ag (Sl.one (hw.bT 0 O)) (ag (Sl.one (hw.bT 1 O)) (ag (Sl.one (hw.bT 2 O)) (ag (Sl.one (hw.row 1 O)) (ag O (ag O aP))))))) O O O) fun _=>R.u 1 O<|R.nil<|R.mp (fun _ hw=>hw.cX 1 _ O O) ?_
       have hz:dO r p d slot rights=((⟨(e8 r (derived (aQ r (⟨p.az,slot⟩:Place)).1 r.ae rights 0).1 (⟨0,0⟩:Place)).aj,(e8 r (derived (aQ r (⟨p.az,slot⟩:Place)).1 r.ae rights 0).1 (⟨0,0⟩:Place)).Things,(e8 r (derived (aQ r (⟨p.az,slot⟩:Place)).1 r.ae rights 0).1 (⟨0,0⟩:Place)).Held,(((e8 r (derived (aQ r (⟨p.az,slot⟩:Place)).1 r.ae rights 0).1 (⟨0,0⟩:Place)).Notes)++([(⟨((bR r p 2 2).1).aE,d,(bR r p 2 2).1.aN,(derived (aQ r (⟨p.az,slot⟩:Place)).1 r.ae rights 0).1.ID⟩:Note)])),(e8 r (derived (aQ r (⟨p.az,slot⟩:Place)).1 r.ae rights 0).1 (⟨0,0⟩:Place)).ae,(e8 r (derived (aQ r (⟨p.az,slot⟩:Place)).1 r.ae rights 0).1 (⟨0,0⟩:Place)).ah⟩:aD),0):=by (rw [List.take_of_length_le (by omega)] at HC;subst HC;unfold dO;(repeat' split) <;> rfl)
       rw [hz]
       exact R.w2 (z5,z6,z7,v4) [8] vL O Tryz.results62 (RV.cell 5 O O ar) (RV.tmp O) O O O (dz O (iI O))
      refine Do.s (s.bs (l:=([(⟨((bR r p 2 2).1).aE,d,(bR r p 2 2).1.aN,(derived (aQ r (⟨p.az,slot⟩:Place)).1 r.ae rights 0).1.ID⟩:Note)]:List Note)) fA eW O O O O O O O) (fun _=>(aC [1,2,3,4,5,6,8] ft O O O)) O fun b13=>D.one (i:=2) O<|Do.s (s.aW bN [3] _ _ _ O O O oC O O (fun w own hw H=>fh z8 (e8 r (derived (aQ r (⟨p.az,slot⟩:Place)).1 r.ae rights 0).1 (⟨0,0⟩:Place)).Notes w own H (by omega)) O) (fun _=>(aC o9 ft O O O)) O fun mb=>D.one (i:=5) O<|Do.s (s.app 0 _ O O O (ck 1 O) kg (by (simp;omega)) (by (simp;omega)) (fun _=>rfl) O) (fun _=>(aC o9 ft O O O)) O fun v5=>D.q (i:=6) O (aC o9 ft O O O) O (q.aO O cI O) O<|D.one (i:=7) O<|Do.s (s.fZ 8 _ O O O (fun w hw=>Sl.cu (hw.row 0 O)) (.inr ⟨dw,rfl⟩) (fun w hw=>(ag (Sl.one (hw.row 0 O)) aP)) O O O) (fun _=>(aC o9 ft O O O)) O fun _=>D.done<|R.reg O<|R.q (q.dv 8 O O ar) O<|R.s O (s.fZ 6 _ O O O (fun _ _=>rfl) (.inl ar) (fun w hw=>(ag (Sl.one (hw.bT 0 O)) (ag (Sl.one (hw.bT 1 O)) (ag (Sl.one (hw.bT 2 O)) (ag (Sl.one (hw.row 0 O)) (ag O (ag O aP))))))) O O O) fun _=>R.u 1 O<|R.nil<|R.mp (fun _ hw=>hw.cX 0 _ O O) ?_
      have hz:dO r p d slot rights=((⟨(e8 r (derived (aQ r (⟨p.az,slot⟩:Place)).1 r.ae rights 0).1 (⟨0,0⟩:Place)).aj,(e8 r (derived (aQ r (⟨p.az,slot⟩:Place)).1 r.ae rights 0).1 (⟨0,0⟩:Place)).Things,(e8 r (derived (aQ r (⟨p.az,slot⟩:Place)).1 r.ae rights 0).1 (⟨0,0⟩:Place)).Held,(((e8 r (derived (aQ r (⟨p.az,slot⟩:Place)).1 r.ae rights 0).1 (⟨0,0⟩:Place)).Notes)++([(⟨((bR r p 2 2).1).aE,d,(bR r p 2 2).1.aN,(derived (aQ r (⟨p.az,slot⟩:Place)).1 r.ae rights 0).1.ID⟩:Note)])),(e8 r (derived (aQ r (⟨p.az,slot⟩:Place)).1 r.ae rights 0).1 (⟨0,0⟩:Place)).ae,(e8 r (derived (aQ r (⟨p.az,slot⟩:Place)).1 r.ae rights 0).1 (⟨0,0⟩:Place)).ah⟩:aD),0):=by (rw [List.take_of_length_le (by omega)] at HC;subst HC;unfold dO;(repeat' split) <;> rfl)
      rw [hz]
      exact R.w2 (z5,z6,z7,v5) [8] vL O Tryz.results62 (RV.cell 5 O O ar) (RV.tmp O) O O O (dz O (iI O))
     refine Do.s (s.bs (l:=([(⟨((bR r p 2 2).1).aE,d,(bR r p 2 2).1.aN,(derived (aQ r (⟨p.az,slot⟩:Place)).1 r.ae rights 0).1.ID⟩:Note)]:List Note)) fA eW O O O O O O O) (fun _=>(aC [1,2,3,4,5,6,8] ft O O O)) O fun b14=>D.one (i:=1) O<|Do.s (s.c (Qt.a (q.ld 7 O O dw O)) O) (fun _=>(aC [1,2,3,4,5,6,8] ft O O O)) O fun _=>D.one (i:=2) O<|Do.s (s.aW bN [3] _ _ _ O O O oC O O (fun w own hw H=>fh z8 (e8 r (derived (aQ r (⟨p.az,slot⟩:Place)).1 r.ae rights 0).1 (⟨0,0⟩:Place)).Notes w own H (by omega)) O) (fun _=>(aC o9 ft O O O)) O fun z12=>D.one (i:=5) O<|Do.s (s.app 0 _ O O O (ck 1 O) kg (by (simp;omega)) (by (simp;omega)) (fun _=>rfl) O) (fun _=>(aC o9 ft O O O)) O fun v6=>D.q (i:=6) O (aC o9 ft O O O) O (q.aO O cI O) O<|D.one (i:=7) O<|Do.s (s.fZ 8 _ O O O (fun w hw=>Sl.cu (hw.row 0 O)) (.inr ⟨dw,rfl⟩) (fun w hw=>(ag (Sl.one (hw.row 0 O)) aP)) O O O) (fun _=>(aC o9 ft O O O)) O fun _=>D.done<|R.reg O<|R.q (q.dv 8 O O ar) O<|R.s O (s.fZ 6 _ O O O (fun _ _=>rfl) (.inl ar) (fun w hw=>(ag (Sl.one (hw.bT 0 O)) (ag (Sl.one (hw.bT 1 O)) (ag (Sl.one (hw.bT 2 O)) (ag (Sl.one (hw.row 0 O)) (ag O (ag O aP))))))) O O O) fun _=>R.u 1 O<|R.nil<|R.mp (fun _ hw=>hw.cX 0 _ O O) ?_
     have hz:dO r p d slot rights=((⟨(e8 r (derived (aQ r (⟨p.az,slot⟩:Place)).1 r.ae rights 0).1 (⟨0,0⟩:Place)).aj,(e8 r (derived (aQ r (⟨p.az,slot⟩:Place)).1 r.ae rights 0).1 (⟨0,0⟩:Place)).Things,(e8 r (derived (aQ r (⟨p.az,slot⟩:Place)).1 r.ae rights 0).1 (⟨0,0⟩:Place)).Held,(((e8 r (derived (aQ r (⟨p.az,slot⟩:Place)).1 r.ae rights 0).1 (⟨0,0⟩:Place)).Notes)++([(⟨((bR r p 2 2).1).aE,d,(bR r p 2 2).1.aN,(derived (aQ r (⟨p.az,slot⟩:Place)).1 r.ae rights 0).1.ID⟩:Note)])),(e8 r (derived (aQ r (⟨p.az,slot⟩:Place)).1 r.ae rights 0).1 (⟨0,0⟩:Place)).ae,(e8 r (derived (aQ r (⟨p.az,slot⟩:Place)).1 r.ae rights 0).1 (⟨0,0⟩:Place)).ah⟩:aD),0):=by (rw [List.take_of_length_le (by omega)] at HC;subst HC;unfold dO;(repeat' split) <;> rfl)
     rw [hz]
     exact R.w2 (z5,z6,z7,v6) [8] vL O Tryz.results62 (RV.cell 5 O O ar) (RV.tmp O) O O O (dz O (iI O))
    refine R.q (q.eo O O Tryz.underlying38) O<|R.nil<|R.ay O O<|R.reg O<|R.q (q.build d9 O O) O<|R.u 1 O<|R.s O (s.st 4 _ O O O O (.inl ar) O O O O) fun _=>R.u 1 O<|R.nil<|R.mp (fun _ hw=>hw.a8 (α:=ap))<|R.mp (fun _ hw=>hw.a8 (α:=aE))<|R.mp (fun _ hw=>hw.a8 (α:=Held))<|R.mp (fun _ hw=>hw.a8 (α:=Note)) ?_
    have hz:dO r p d slot rights=((⟨[],[],[],[],0,0⟩:aD),(derived (aQ r (⟨p.az,slot⟩:Place)).1 r.ae rights 0).2):=by (rw [List.take_of_length_le (by omega)] at HC;subst HC;unfold dO;(repeat' split) <;> rfl)
    rw [hz]
    exact R.w2 ((nS),(nS),(nS),(nS)) [7] gN O Tryz.results62 (RV.cell 4 O O ar) (RV.tmp O) O O O (dz O O)
   refine R.q (q.eo O O Tryz.underlying38) O<|R.nil<|R.ay O O<|R.reg O<|R.q (q.build d9 O O) O<|R.u 1 O<|R.s O (s.st 3 _ O O O O (.inl ar) O O O O) fun _=>R.u 1 O<|R.nil<|R.mp (fun _ hw=>hw.a8 (α:=ap))<|R.mp (fun _ hw=>hw.a8 (α:=aE))<|R.mp (fun _ hw=>hw.a8 (α:=Held))<|R.mp (fun _ hw=>hw.a8 (α:=Note)) ?_
   have hz:dO r p d slot rights=((⟨[],[],[],[],0,0⟩:aD),(aQ r (⟨p.az,slot⟩:Place)).2):=by (rw [List.take_of_length_le (by omega)] at HC;subst HC;unfold dO;(repeat' split) <;> rfl)
   rw [hz]
   exact R.w2 ((nS),(nS),(nS),(nS)) [6] gN O Tryz.results62 (RV.cell 3 O O ar) (RV.tmp O) O O O (dz O O)
  refine R.c (q.call pQ O O (fun w hw=>(cv (congrArg Value.bool h7) (gK (bR r p 2 2).1.Rights 4 w (by omega) (by omega))))) O<|R.u 1 O<|R.nil<|R.ay O O<|R.reg O<|R.q (q.build d9 O O) O<|R.q (q.iface O bm) O<|R.s O (s.st 2 _ O O O O (.inl ar) O O O O) fun _=>R.u 1 O<|R.nil<|R.mp (fun _ hw=>hw.a8 (α:=ap))<|R.mp (fun _ hw=>hw.a8 (α:=aE))<|R.mp (fun _ hw=>hw.a8 (α:=Held))<|R.mp (fun _ hw=>hw.a8 (α:=Note)) ?_
  have hz:dO r p d slot rights=((⟨[],[],[],[],0,0⟩:aD),7):=by (rw [List.take_of_length_le (by omega)] at HC;subst HC;unfold dO;(repeat' split) <;> first|rfl|(exfalso;omega)|(simp_all;done))
  rw [hz]
  exact R.w2 ((nS),(nS),(nS),(nS)) [5] gN O Tryz.results62 (RV.cell 2 O O ar) (RV.tmp O) O O O (dz O (dq (by decide) O))
 refine R.q (q.eo O O Tryz.underlying38) O<|R.nil<|R.ay O O<|R.reg O<|R.q (q.build d9 O O) O<|R.u 1 O<|R.s O (s.st 1 _ O O O O (.inl ar) O O O O) fun _=>R.u 1 O<|R.nil<|R.mp (fun _ hw=>hw.a8 (α:=ap))<|R.mp (fun _ hw=>hw.a8 (α:=aE))<|R.mp (fun _ hw=>hw.a8 (α:=Held))<|R.mp (fun _ hw=>hw.a8 (α:=Note)) ?_
 have hz:dO r p d slot rights=((⟨[],[],[],[],0,0⟩:aD),(bR r p 2 2).2.2):=by (unfold dO;(repeat' split) <;> first|rfl|(exfalso;omega)|(simp_all;done))
 rw [hz]
 exact R.w2 ((nS),(nS),(nS),(nS)) [4] gN O Tryz.results62 (RV.cell 1 O O ar) (RV.tmp O) O O O (dz O O)
theorem H9 (bH bB bC bD:Value)(r:aD)(p:Place)(w:World)(own:List Nat)(H:HN w own [] [af.ls bH r.aj,af.ls bB r.Things,af.ls bC r.Held,af.ls bD r.Notes])(hk:Ok r):RC Tryz.prog 63 #[.agg #[bH,bB,bC,bD,iV r.ae,iV r.ah],.agg #[iV p.az,iV p.Slot]] H (fun z:Value×Value×Value×Value => .tuple #[.agg #[z.1,z.2.1,z.2.2.1,z.2.2.2,iV (eC r p).1.ae,iV (eC r p).1.ah],.agg #[iV (eC r p).2.1.Port,.string (eC r p).2.1.Data,iV (eC r p).2.1.aN,iV (eC r p).2.1.ap],iV (eC r p).2.2.1,dh (eC r p).2.2.2]) (fun _=>[]) (fun z=>[af.ls z.1 (eC r p).1.aj,af.ls z.2.1 (eC r p).1.Things,af.ls z.2.2.1 (eC r p).1.Held,af.ls z.2.2.2 (eC r p).1.Notes]):=by
 have eJ:=H.cx 0 rfl
 have dM:=H.cx 1 rfl
 have fI:=H.cx 2 rfl
 have eK:=H.cx 3 rfl
 have bw:=hk.wl;have bt:=hk.tl;have bh:=hk.hl;have bn:=hk.nl;have KO:=hk.w0;have KP:=hk.w1;have KQ:=hk.t0;have KR:=hk.t1
 refine R.bF [(0,.agg #[bH,bB,bC,bD,iV r.ae,iV r.ah]),(1,.agg #[iV p.az,iV p.Slot])] Tryz.func63 O O O O H<|R.reg O<|R.s O (s.box O O O) fun b1=>R.s O (s.box O O O) fun b2=>R.s O (s.alloc dQ O O) fun b3=>R.s O (s.alloc eW O O) fun b4=>R.u 2 O<|R.nil<|R.reg O<|R.q (q.dv 3 O O ar) O<|R.q (q.dv 2 O O bP) O<|R.c (q.call EA O O (fun w hw=>(xR _ _ _ _ r p 2 1 w (hw.bT 0 O) (hw.bT 1 O) (hw.bT 2 O) (hw.bT 3 O) ‹_› (by omega)))) O<|R.u 4 O<|R.s O (s.alloc bQ O O) fun b5=>R.s O (s.st 0 _ O O O O (.inl aL) O O O O) fun _=>R.u 2 O<|R.nil<|R.reg O<|R.u 1 O<|?_
 by_cases h1:(bR r p 2 1).2.2=0
 .
  refine R.q (q.dC O O Tryz.underlying38) O<|R.nil<|R.aB O O<|R.reg O<|R.q (q.aO O cI O) O<|R.q (q.ld 4 O O dw O) O<|R.q (q.LU (cap:=[.pointer (some ⟨b5,0,none⟩)]) O O) O<|?_
  rcases j3 (fun (t:Note)=>t.Port==(bR r p 2 1).1.aE) r.Notes with ⟨gW,Et⟩ | ⟨px,AY,gW,lY,ve,AZ,TF⟩
  .
   refine R.c (q.call Jm O O (fun w hw=>(cv (congrArg (Value.int .i64) gW) (ng _ r.Notes (fun (t:Note)=>t.Port==(bR r p 2 1).1.aE) _ _ Jn w (hw.bT 3 O) (fun W t hW=>uN t (bR r p 2 1).1 _ W (sM (hw.b 0 O) hW) ) )))) O<|R.u 1 O<|R.nil<|R.reg O<|R.u 1 O<|R.q (q.lss (b:=true) O O (by decide)) O<|R.nil<|R.ay O O<|R.reg O<|R.q (q.build d9 O O) O<|R.q (q.build FZ O O) O<|R.q (q.iface O bm) O<|R.s O (s.st 2 _ O O O O (.inl ar) O O O O) fun _=>R.s O (s.st 1 _ O O O O (.inl di) O O O O) fun _=>R.u 2 O<|R.nil<|R.mp (fun _ hw=>hw.a8 (α:=ap))<|R.mp (fun _ hw=>hw.a8 (α:=aE))<|R.mp (fun _ hw=>hw.a8 (α:=Held))<|R.mp (fun _ hw=>hw.a8 (α:=Note)) ?_
   have hz:eC r p=((⟨[],[],[],[],0,0⟩:aD),(⟨0,⟨#[]⟩,0,0⟩:Note),0,5):=by (unfold eC;(rw [if_pos ‹_›,gW,show decide ((0:Int) <= -1)=false from rfl];cases r.Notes[(-1:Int).toNat]? <;> rfl))
   rw [hz]
   exact R.w4 ((nS),(nS),(nS),(nS)) [5] gN O Tryz.results63 (RV.cell 2 O O ar) (RV.cell 1 O O di) (RV.tmp O) (RV.tmp O) O O O (IZ O O O (dq (by decide) O))
  refine R.c (q.call Jm O O (fun w hw=>(cv (congrArg (Value.int .i64) gW) (ng _ r.Notes (fun (t:Note)=>t.Port==(bR r p 2 1).1.aE) _ _ Jn w (hw.bT 3 O) (fun W t hW=>uN t (bR r p 2 1).1 _ W (sM (hw.b 0 O) hW) ) )))) O<|R.u 1 O<|R.nil<|R.reg O<|R.u 1 O<|R.q (q.cW O O) O<|R.nil<|R.aB O O<|R.reg O<|R.q (q.aO O cI O) O<|R.q (q.ld 4 O O dw O) O<|R.u 1 O<|R.q (q.idx (i:=px) (dr 3 O) O O fA O lY) O<|R.q (q.eV (ds:=mq AY) (dr 3 O) lY O di O) O<|R.s O (s.alloc eW O O) fun b6=>R.s O (s.st 0 _ O O O O (.inl di) O O O O) fun _=>R.nil<|R.reg O<|R.u 1 O<|R.nil<|R.reg O<|R.q (q.aO O iE O) O<|R.q (q.ld 0 O O av O) O<|?_
  by_cases h2:0<AY.ap
  .
   refine R.q (q.eL O O) O<|R.nil<|R.ay O O<|R.reg O<|R.q (q.aO O cG O) O<|R.q (q.ld 5 O O dE O) O<|R.q (q.aO O fx O) O<|R.q (q.ld 4 O O av O) O<|R.c (q.call O9 O O (fun w hw=>(JM _ r.Held p.az w (hw.bT 2 O) (by omega)))) O<|R.u 1 O<|R.nil<|R.reg O<|R.u 1 O<|?_
   by_cases h3:iO r.Held p.az<0
   .
    refine R.q (q.dy O O) O<|R.nil<|R.ay O O<|R.reg O<|R.q (q.build d9 O O) O<|R.q (q.build FZ O O) O<|R.q (q.iface O bm) O<|R.s O (s.st 3 _ O O O O (.inl ar) O O O O) fun _=>R.s O (s.st 2 _ O O O O (.inl di) O O O O) fun _=>R.u 2 O<|R.nil<|R.mp (fun _ hw=>hw.a8 (α:=ap))<|R.mp (fun _ hw=>hw.a8 (α:=aE))<|R.mp (fun _ hw=>hw.a8 (α:=Held))<|R.mp (fun _ hw=>hw.a8 (α:=Note)) ?_
    have hz:eC r p=((⟨[],[],[],[],0,0⟩:aD),(⟨0,⟨#[]⟩,0,0⟩:Note),0,9):=by (unfold eC;(rw [if_pos ‹_›,gW,Int.toNat_natCast,lY,decide_eq_true (by omega)];dsimp only;(repeat' split) <;> rfl))
    rw [hz]
    exact R.w4 ((nS),(nS),(nS),(nS)) [6] gN O Tryz.results63 (RV.cell 3 O O ar) (RV.cell 2 O O di) (RV.tmp O) (RV.tmp O) O O O (IZ O O O (dq (by decide) O))
   refine R.q (q.cW O O) O<|R.nil<|R.aB O O<|R.reg O<|R.q (q.aO O cG O) O<|R.q (q.ld 5 O O dE O) O<|R.q (q.aO O fx O) O<|R.q (q.ld 4 O O av O) O<|R.u 1 O<|R.q (q.build wn O O) O<|R.q (q.aO O iE O) O<|R.q (q.ld 0 O O av O) O<|R.s O (s.aW ml [2] _ _ _ O O O tM O O (fun w own hw H=>qG bC r.Held (⟨p.az,iO r.Held p.az⟩:Place) AY.ap w own H (by omega)) O) fun z1=>R.q (q.aO O cG O) O<|R.s O (s.fZ 6 _ O O O (fun w hw=>Sl.cu (hw.row 0 O)) (.inr ⟨dE,rfl⟩) (fun w hw=>(ag (Sl.one (hw.row 0 O)) aP)) O O O) fun _=>R.nil<|R.reg O<|R.q (q.aO O cI O) O<|R.q (q.ld 6 O O dw O) O<|R.s O (s.aW ft [3] _ _ _ O O O oC O O (fun w own hw H=>fh bD r.Notes w own H (by omega)) O) fun z2=>R.u 2 O<|R.q (q.bA (r:=((px+1:Nat):Int)) O O) O<|R.s O (s.aW bN [] _ _ _ O O O Jo O O (fun w own hw H=>qp z2 r.Notes px (px+1) w own H (by omega)) O) fun z3=>R.q (q.aO O cI O) O<|R.s O (s.fZ 7 _ O O O (fun w hw=>Sl.cu (hw.row 0 O)) (.inr ⟨dw,rfl⟩) (fun w hw=>(ag (Sl.one (hw.row 0 O)) aP)) O O O) fun _=>R.nil<|R.fu (fuel:=7) (Wd w (blks []++own) [af.row 89 z3 (r.Notes.take px++r.Notes.drop (px+1)),af.row 124 z1 (fL r.Held (⟨p.az,iO r.Held p.az⟩:Place) AY.ap),af.box b6 (mq AY) 89,af.box b5 [iV (bR r p 2 1).1.ID,iV (bR r p 2 1).1.aE,iV (bR r p 2 1).1.Rights,iV (bR r p 2 1).1.aN,iV (bR r p 2 1).1.From] 127,af.box b2 (fw p) 32,af.box b1 [bH,bB,z1,z3,iV r.ae,iV r.ah] 48,af.held w own] [af.ls bH r.aj,af.ls bB r.Things,af.ls bC r.Held,af.ls bD r.Notes]) O mixed O<|D.q (i:=0) O (aC vM bS O O O) O (q.dv 5 O O ar) O<|D.q (i:=1) O (aC vM bS O O O) O (q.dv 2 O O di) O<|D.q (i:=2) O (aC vM bS O O O) O (q.mv O) O<|D.one (i:=3) O<|Do.s (s.fZ 5 _ O O O (fun _ _=>rfl) (.inl ar) (fun w hw=>(ag (Sl.one (hw.bT 0 O)) (ag (Sl.one (hw.bT 1 O)) (ag (Sl.one (hw.row 1 O)) (ag (Sl.one (hw.row 0 O)) (ag O (ag O aP))))))) O O O) (fun _=>(aC vM bS O O O)) O fun _=>D.one (i:=4) O<|Do.s (s.st 4 _ O O O O (.inl di) O O O O) (fun _=>(aC vM bS O O O)) O fun _=>D.q (i:=5) O (aC vM bS O O O) O (q.as O) O<|D.q (i:=6) O (aC vM bS O O O) O (q.as O) O<|D.done<|R.mp (fun _ hw=>hw.cX 1 _ O O)<|R.mp (fun _ hw=>hw.cX 0 _ O O) ?_
   have hz:eC r p=((⟨r.aj,r.Things,fL r.Held (⟨p.az,iO r.Held p.az⟩:Place) AY.ap,r.Notes.take px++r.Notes.drop (px+1),r.ae,r.ah⟩:aD),AY,iO r.Held p.az,0):=by (unfold eC;(rw [if_pos ‹_›,gW,Int.toNat_natCast,lY,decide_eq_true (by omega)];dsimp only;(repeat' split) <;> rfl))
   rw [hz]
   exact R.w4 (bH,bB,z1,z3) [6] [2,3,1,0] O Tryz.results63 (RV.cell 3 O O ar) (RV.cell 2 O O di) (RV.tmp O) (RV.tmp O) O O O (IZ O O O (iI O))
  refine R.q (q.eu O O) O<|R.nil<|R.aB O O<|R.reg O<|R.q (q.aO O cI O) O<|R.q (q.ld 5 O O dw O) O<|R.s O (s.aW ml [3] _ _ _ O O O oC O O (fun w own hw H=>fh bD r.Notes w own H (by omega)) O) fun z4=>R.u 2 O<|R.q (q.bA (r:=((px+1:Nat):Int)) O O) O<|R.s O (s.aW ft [] _ _ _ O O O Jo O O (fun w own hw H=>qp z4 r.Notes px (px+1) w own H (by omega)) O) fun z5=>R.q (q.aO O cI O) O<|R.s O (s.fZ 6 _ O O O (fun w hw=>Sl.cu (hw.row 0 O)) (.inr ⟨dw,rfl⟩) (fun w hw=>(ag (Sl.one (hw.row 0 O)) aP)) O O O) fun _=>R.nil<|R.fu (fuel:=7) (Wd w (blks []++own) [af.row 89 z5 (r.Notes.take px++r.Notes.drop (px+1)),af.box b6 (mq AY) 89,af.box b5 [iV (bR r p 2 1).1.ID,iV (bR r p 2 1).1.aE,iV (bR r p 2 1).1.Rights,iV (bR r p 2 1).1.aN,iV (bR r p 2 1).1.From] 127,af.box b2 (fw p) 32,af.box b1 [bH,bB,bC,z5,iV r.ae,iV r.ah] 48,af.held w own] [af.ls bH r.aj,af.ls bB r.Things,af.ls bC r.Held,af.ls bD r.Notes]) O mixed O<|D.q (i:=0) O (aC vN bS O O O) O (q.dv 4 O O ar) O<|D.q (i:=1) O (aC vN bS O O O) O (q.dv 1 O O di) O<|D.q (i:=2) O (aC vN bS O O O) O (q.mv O) O<|D.one (i:=3) O<|Do.s (s.fZ 4 _ O O O (fun _ _=>rfl) (.inl ar) (fun w hw=>(ag (Sl.one (hw.bT 0 O)) (ag (Sl.one (hw.bT 1 O)) (ag (Sl.one (hw.bT 2 O)) (ag (Sl.one (hw.row 0 O)) (ag O (ag O aP))))))) O O O) (fun _=>(aC vN bS O O O)) O fun _=>D.one (i:=4) O<|Do.s (s.st 3 _ O O O O (.inl di) O O O O) (fun _=>(aC vN bS O O O)) O fun _=>D.q (i:=5) O (aC vN bS O O O) O (q.as O) O<|D.q (i:=6) O (aC vN bS O O O) O (q.as O) O<|D.done<|R.mp (fun _ hw=>hw.cX 0 _ O O) ?_
  have hz:eC r p=((⟨r.aj,r.Things,r.Held,r.Notes.take px++r.Notes.drop (px+1),r.ae,r.ah⟩:aD),AY,-1,0):=by (unfold eC;(rw [if_pos ‹_›,gW,Int.toNat_natCast,lY,decide_eq_true (by omega)];dsimp only;(repeat' split) <;> first|rfl|(exfalso;omega)))
  rw [hz]
  exact R.w4 (bH,bB,bC,z5) [6] vL O Tryz.results63 (RV.cell 3 O O ar) (RV.cell 2 O O di) (RV.tmp O) (RV.tmp O) O O O (IZ O O O (iI O))
 refine R.q (q.eo O O Tryz.underlying38) O<|R.nil<|R.ay O O<|R.reg O<|R.q (q.build d9 O O) O<|R.q (q.build FZ O O) O<|R.u 1 O<|R.s O (s.st 2 _ O O O O (.inl ar) O O O O) fun _=>R.s O (s.st 1 _ O O O O (.inl di) O O O O) fun _=>R.u 2 O<|R.nil<|R.mp (fun _ hw=>hw.a8 (α:=ap))<|R.mp (fun _ hw=>hw.a8 (α:=aE))<|R.mp (fun _ hw=>hw.a8 (α:=Held))<|R.mp (fun _ hw=>hw.a8 (α:=Note)) ?_
 have hz:eC r p=((⟨[],[],[],[],0,0⟩:aD),(⟨0,⟨#[]⟩,0,0⟩:Note),0,(bR r p 2 1).2.2):=by (unfold eC;(rw [if_neg ‹_›];rfl))
 rw [hz]
 exact R.w4 ((nS),(nS),(nS),(nS)) [5] gN O Tryz.results63 (RV.cell 2 O O ar) (RV.cell 1 O O di) (RV.tmp O) (RV.tmp O) O O O (IZ O O O O)
end Go.Proofs.YtkbhcbipadkcaaaGreatDoor
