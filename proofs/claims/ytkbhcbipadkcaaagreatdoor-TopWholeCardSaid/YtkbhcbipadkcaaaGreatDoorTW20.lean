import Derived.Test.YtkbhcbipadkcaaaGreatDoorTW19
namespace Go.Proofs.YtkbhcbipadkcaaaGreatDoor
set_option linter.unusedVariables false
set_option linter.unusedSimpArgs false
set_option maxRecDepth 100000
set_option maxHeartbeats 90000000
open Go Go.RowKit
theorem Ia (bS bK bL bM:Value)(r:aC)(p:Place)(kind:Int)(w:World)(own:List Nat)(H:HN w own [] [ag.ls bS r.ao,ag.ls bK r.Things,ag.ls bL r.Held,ag.ls bM r.Notes])(hk:Ok r):RC Tryz.prog 56 #[.agg #[bS,bK,bL,bM,iV r.ae,iV r.ah],.agg #[iV p.aA,iV p.Slot],iV kind] H (fun z:Value×Value×Value×Value => .tuple #[.agg #[z.1,z.2.1,z.2.2.1,z.2.2.2,iV (dV r p kind).1.ae,iV (dV r p kind).1.ah],da (dV r p kind).2]) (fun _=>[]) (fun z=>[ag.ls z.1 (dV r p kind).1.ao,ag.ls z.2.1 (dV r p kind).1.Things,ag.ls z.2.2.1 (dV r p kind).1.Held,ag.ls z.2.2.2 (dV r p kind).1.Notes]):=by
 have eJ:=H.cq 0 rfl
 have dN:=H.cq 1 rfl
 have fH:=H.cq 2 rfl
 have eK:=H.cq 3 rfl
 have bw:=hk.wl;have bt:=hk.tl;have bh:=hk.hl;have bn:=hk.nl;have KV:=hk.w0;have KW:=hk.w1;have KX:=hk.t0;have KY:=hk.t1
 refine R.bD [(0,.agg #[bS,bK,bL,bM,iV r.ae,iV r.ah]),(1,.agg #[iV p.aA,iV p.Slot]),(2,iV kind)] Tryz.func56 O O O O H<|R.reg O<|R.s O (s.box O O O) fun b1=>?_
 refine R.s O (s.box O O O) fun b2=>?_
 refine R.s O (s.alloc dI O O) fun b3=>?_
 refine R.u 1 O<|R.nil<|R.reg O<|R.u 1 O<|?_
 by_cases h1:kind=1
 .
  refine R.q (q.lL O O) O<|R.u 4 O<|R.nil<|R.aB O O<|R.reg O<|R.q (q.dh 2 O O aj) O<|R.q (q.dh 1 O O bO) O<|R.c (q.call AH O O (fun w hw=>(rh _ _ _ _ r p w (hw.bG 0 O) (hw.bG 1 O) (hw.bG 2 O) (hw.bG 3 O) ‹_›))) O<|R.u 1 O<|R.nil ?_
  refine R.reg O<|R.u 1 O<|?_
  by_cases h2:gL r p=0
  .
   refine R.q (q.dx O O Tryz.underlying38) O<|R.nil<|R.aB O O<|R.reg O<|R.q (q.aO O cz O) O<|R.q (q.ld 2 O O dD O) O<|R.q (q.len' (dy 1 O) O Tryz.underlying44) O<|?_
   by_cases h3:r.Things.length=10
   .
    refine R.q (q.fI O O) O<|R.u 10 O<|R.nil<|R.av O O<|R.reg O<|R.q (q.build ea O O) O<|R.q (q.iface O bm) O<|R.s O (s.st 0 _ O O O O (.inl aj) O O O O) fun _=>?_
    refine R.u 1 O<|R.nil<|R.mp (fun _ hw=>hw.a8 (α:=ak))<|R.mp (fun _ hw=>hw.a8 (α:=aE))<|R.mp (fun _ hw=>hw.a8 (α:=Held))<|R.mp (fun _ hw=>hw.a8 (α:=Note)) ?_
    have hz:dV r p kind=((⟨[],[],[],[],0,0⟩:aC),9):=by (unfold dV;(repeat' split) <;> first|rfl|(exfalso;omega)|(simp_all;done))
    rw [hz]
    exact R.w2 ((nS),(nS),(nS),(nS)) [3] gj O Tryz.results56 (RV.cell 0 O O aj) (RV.tmp O) O O O (dA O (dr (by decide) O))
   refine R.q (q.e9 O O) O<|R.u 1 O<|R.qg O (q.aO O dP O) O<|R.qg O (q.ld 2 O O au O) O<|?_
   by_cases h4:999<r.ah
   .
    refine R.qg O (q.eL O O) O<|R.u 6 O<|R.nil<|R.av O O<|R.reg O<|R.q (q.build ea O O) O<|R.q (q.iface O bm) O<|R.s O (s.st 0 _ O O O O (.inl aj) O O O O) fun _=>?_
    refine R.u 1 O<|R.nil<|R.mp (fun _ hw=>hw.a8 (α:=ak))<|R.mp (fun _ hw=>hw.a8 (α:=aE))<|R.mp (fun _ hw=>hw.a8 (α:=Held))<|R.mp (fun _ hw=>hw.a8 (α:=Note)) ?_
    have hz:dV r p kind=((⟨[],[],[],[],0,0⟩:aC),9):=by (unfold dV;(repeat' split) <;> first|rfl|(exfalso;omega)|(simp_all;done))
    rw [hz]
    exact R.w2 ((nS),(nS),(nS),(nS)) [3] gj O Tryz.results56 (RV.cell 0 O O aj) (RV.tmp O) O O O (dA O (dr (by decide) O))
   refine R.qg O (q.eo O O) O<|R.u 2 O<|R.qg O (q.aO O cL O) O<|R.qg O (q.ld 2 O O au O) O<|?_
   by_cases h5:999<r.ae
   .
    refine R.qg O (q.eL O O) O<|R.u 1 O<|R.nil<|R.av O O<|R.reg O<|R.q (q.build ea O O) O<|R.q (q.iface O bm) O<|R.s O (s.st 0 _ O O O O (.inl aj) O O O O) fun _=>?_
    refine R.u 1 O<|R.nil<|R.mp (fun _ hw=>hw.a8 (α:=ak))<|R.mp (fun _ hw=>hw.a8 (α:=aE))<|R.mp (fun _ hw=>hw.a8 (α:=Held))<|R.mp (fun _ hw=>hw.a8 (α:=Note)) ?_
    have hz:dV r p kind=((⟨[],[],[],[],0,0⟩:aC),9):=by (unfold dV;(repeat' split) <;> first|rfl|(exfalso;omega)|(simp_all;done))
    rw [hz]
    exact R.w2 ((nS),(nS),(nS),(nS)) [3] gj O Tryz.results56 (RV.cell 0 O O aj) (RV.tmp O) O O O (dA O (dr (by decide) O))
   refine R.qg O (q.eo O O) O<|R.u 1 O<|R.nil<|R.aB O O<|R.reg O<|R.q (q.aO O dP O) O<|R.q (q.ld 2 O O au O) O<|R.u 1 O<|R.nil<|R.reg O<|R.q (q.aO O cz O) O<|R.q (q.ld 2 O O dD O) O<|R.s O (s.aW bJ [1] _ _ _ O O O wE O O (fun w own hw H=>jm bK r.Things w own H (by omega)) O) fun z1=>?_
   refine R.u 2 O<|R.q (q.build EA O O) O<|R.s O (s.bs (l:=([(⟨r.ah,kind,⟨#[]⟩⟩:aE)]:List aE)) iM ju O O O O O O O) fun b4=>?_
   refine R.s O (s.app 1 _ O O O (bC 0 O) sX (by (simp;omega)) (by (simp;omega)) (fun _=>rfl) O) fun v1=>?_
   refine R.q (q.aO O cz O) O<|R.s O (s.fS 4 _ O O O (fun w hw=>Sl.cm (hw.row 1 O)) (.inr ⟨dD,rfl⟩) (fun w hw=>(af (Sl.one (hw.row 1 O)) aP)) O O O) fun _=>?_
   refine R.nil<|R.reg O<|R.q (q.aO O dP O) O<|R.q (q.ld 4 O O au O) O<|R.q (q.bB (r:=r.ah+1) O O) O<|R.q (q.aO O dP O) O<|R.s O (s.st 4 _ O O O O (.inr ⟨au,rfl⟩) O O O O) fun _=>?_
   refine R.nil<|R.reg O<|R.q (q.dh 4 O O aj) O<|R.q (q.aO O cL O) O<|R.q (q.ld 4 O O au O) O<|R.u 1 O<|R.q (q.build iY O O) O<|R.q (q.dh 3 O O bO) O<|R.s O (s.pre (fun _ hw=>hw.cX 1 _ O O) (s.aW gX [1,0,3,4] _ _ _ O O O wF O O (fun w own hw H=>qx bS v1 bL bM (⟨r.ao,(r.Things++([(⟨r.ah,kind,⟨#[]⟩⟩:aE)])),r.Held,r.Notes,r.ae,(r.ah+1)⟩:aC) (⟨r.ae,r.ah,7,0,0⟩:ak) p w own H (by (dsimp only;omega))) O)) ?_
   rintro ⟨z2,z3,z4,z5⟩
   dsimp only
   refine R.s O (s.fS 1 _ O O O (fun _ _=>rfl) (.inl aj) (fun w hw=>(af (Sl.one (hw.bG 0 O)) (af (Sl.one (hw.bG 1 O)) (af (Sl.one (hw.bG 2 O)) (af (Sl.one (hw.bG 3 O)) (af O (af O aP))))))) O O O) fun _=>?_
   refine R.u 1 O<|R.nil ?_
   have hz:dV r p kind=((fy (⟨r.ao,(r.Things++([(⟨r.ah,kind,⟨#[]⟩⟩:aE)])),r.Held,r.Notes,r.ae,(r.ah+1)⟩:aC) (⟨r.ae,r.ah,7,0,0⟩:ak) p),0):=by (unfold dV;(repeat' split) <;> first|rfl|(exfalso;omega)|(simp_all;done))
   rw [hz]
   exact R.w2 (z2,z3,z4,z5) [4] bJ O Tryz.results56 (RV.cell 1 O O aj) (RV.tmp O) O O O (dA O (iK O))
  refine R.q (q.d9 O O Tryz.underlying38) O<|R.nil<|R.av O O<|R.reg O<|R.q (q.build ea O O) O<|R.u 1 O<|R.s O (s.st 0 _ O O O O (.inl aj) O O O O) fun _=>?_
  refine R.u 1 O<|R.nil<|R.mp (fun _ hw=>hw.a8 (α:=ak))<|R.mp (fun _ hw=>hw.a8 (α:=aE))<|R.mp (fun _ hw=>hw.a8 (α:=Held))<|R.mp (fun _ hw=>hw.a8 (α:=Note)) ?_
  have hz:dV r p kind=((⟨[],[],[],[],0,0⟩:aC),gL r p):=by (unfold dV;(repeat' split) <;> first|rfl|(exfalso;omega)|(simp_all;done))
  rw [hz]
  exact R.w2 ((nS),(nS),(nS),(nS)) [3] gj O Tryz.results56 (RV.cell 0 O O aj) (RV.tmp O) O O O (dA O O)
 refine R.q (q.lK O O) O<|R.u 2 O<|?_
 by_cases h6:kind=2
 .
  refine R.qg O (q.lL O O) O<|R.u 1 O<|R.nil<|R.aB O O<|R.reg O<|R.q (q.dh 2 O O aj) O<|R.q (q.dh 1 O O bO) O<|R.c (q.call AH O O (fun w hw=>(rh _ _ _ _ r p w (hw.bG 0 O) (hw.bG 1 O) (hw.bG 2 O) (hw.bG 3 O) ‹_›))) O<|R.u 1 O<|R.nil ?_
  refine R.reg O<|R.u 1 O<|?_
  by_cases h7:gL r p=0
  .
   refine R.q (q.dx O O Tryz.underlying38) O<|R.nil<|R.aB O O<|R.reg O<|R.q (q.aO O cz O) O<|R.q (q.ld 2 O O dD O) O<|R.q (q.len' (dy 1 O) O Tryz.underlying44) O<|?_
   by_cases h8:r.Things.length=10
   .
    refine R.q (q.fI O O) O<|R.u 10 O<|R.nil<|R.av O O<|R.reg O<|R.q (q.build ea O O) O<|R.q (q.iface O bm) O<|R.s O (s.st 0 _ O O O O (.inl aj) O O O O) fun _=>?_
    refine R.u 1 O<|R.nil<|R.mp (fun _ hw=>hw.a8 (α:=ak))<|R.mp (fun _ hw=>hw.a8 (α:=aE))<|R.mp (fun _ hw=>hw.a8 (α:=Held))<|R.mp (fun _ hw=>hw.a8 (α:=Note)) ?_
    have hz:dV r p kind=((⟨[],[],[],[],0,0⟩:aC),9):=by (unfold dV;(repeat' split) <;> first|rfl|(exfalso;omega)|(simp_all;done))
    rw [hz]
    exact R.w2 ((nS),(nS),(nS),(nS)) [3] gj O Tryz.results56 (RV.cell 0 O O aj) (RV.tmp O) O O O (dA O (dr (by decide) O))
   refine R.q (q.e9 O O) O<|R.u 1 O<|R.qg O (q.aO O dP O) O<|R.qg O (q.ld 2 O O au O) O<|?_
   by_cases h9:999<r.ah
   .
    refine R.qg O (q.eL O O) O<|R.u 6 O<|R.nil<|R.av O O<|R.reg O<|R.q (q.build ea O O) O<|R.q (q.iface O bm) O<|R.s O (s.st 0 _ O O O O (.inl aj) O O O O) fun _=>?_
    refine R.u 1 O<|R.nil<|R.mp (fun _ hw=>hw.a8 (α:=ak))<|R.mp (fun _ hw=>hw.a8 (α:=aE))<|R.mp (fun _ hw=>hw.a8 (α:=Held))<|R.mp (fun _ hw=>hw.a8 (α:=Note)) ?_
    have hz:dV r p kind=((⟨[],[],[],[],0,0⟩:aC),9):=by (unfold dV;(repeat' split) <;> first|rfl|(exfalso;omega)|(simp_all;done))
    rw [hz]
    exact R.w2 ((nS),(nS),(nS),(nS)) [3] gj O Tryz.results56 (RV.cell 0 O O aj) (RV.tmp O) O O O (dA O (dr (by decide) O))
   refine R.qg O (q.eo O O) O<|R.u 2 O<|R.qg O (q.aO O cL O) O<|R.qg O (q.ld 2 O O au O) O<|?_
   by_cases h10:999<r.ae
   .
    refine R.qg O (q.eL O O) O<|R.u 1 O<|R.nil<|R.av O O<|R.reg O<|R.q (q.build ea O O) O<|R.q (q.iface O bm) O<|R.s O (s.st 0 _ O O O O (.inl aj) O O O O) fun _=>?_
    refine R.u 1 O<|R.nil<|R.mp (fun _ hw=>hw.a8 (α:=ak))<|R.mp (fun _ hw=>hw.a8 (α:=aE))<|R.mp (fun _ hw=>hw.a8 (α:=Held))<|R.mp (fun _ hw=>hw.a8 (α:=Note)) ?_
    have hz:dV r p kind=((⟨[],[],[],[],0,0⟩:aC),9):=by (unfold dV;(repeat' split) <;> first|rfl|(exfalso;omega)|(simp_all;done))
    rw [hz]
    exact R.w2 ((nS),(nS),(nS),(nS)) [3] gj O Tryz.results56 (RV.cell 0 O O aj) (RV.tmp O) O O O (dA O (dr (by decide) O))
   refine R.qg O (q.eo O O) O<|R.u 1 O<|R.nil<|R.aB O O<|R.reg O<|R.q (q.aO O dP O) O<|R.q (q.ld 2 O O au O) O<|R.u 1 O<|R.nil<|R.reg O<|R.q (q.aO O cz O) O<|R.q (q.ld 2 O O dD O) O<|R.s O (s.aW bJ [1] _ _ _ O O O wE O O (fun w own hw H=>jm bK r.Things w own H (by omega)) O) fun z6=>?_
   refine R.u 2 O<|R.q (q.build EA O O) O<|R.s O (s.bs (l:=([(⟨r.ah,kind,⟨#[]⟩⟩:aE)]:List aE)) iM ju O O O O O O O) fun b5=>?_
   refine R.s O (s.app 1 _ O O O (bC 0 O) sX (by (simp;omega)) (by (simp;omega)) (fun _=>rfl) O) fun v2=>?_
   refine R.q (q.aO O cz O) O<|R.s O (s.fS 4 _ O O O (fun w hw=>Sl.cm (hw.row 1 O)) (.inr ⟨dD,rfl⟩) (fun w hw=>(af (Sl.one (hw.row 1 O)) aP)) O O O) fun _=>?_
   refine R.nil<|R.reg O<|R.q (q.aO O dP O) O<|R.q (q.ld 4 O O au O) O<|R.q (q.bB (r:=r.ah+1) O O) O<|R.q (q.aO O dP O) O<|R.s O (s.st 4 _ O O O O (.inr ⟨au,rfl⟩) O O O O) fun _=>?_
   refine R.nil<|R.reg O<|R.q (q.dh 4 O O aj) O<|R.q (q.aO O cL O) O<|R.q (q.ld 4 O O au O) O<|R.u 1 O<|R.q (q.build iY O O) O<|R.q (q.dh 3 O O bO) O<|R.s O (s.pre (fun _ hw=>hw.cX 1 _ O O) (s.aW gX [1,0,3,4] _ _ _ O O O wF O O (fun w own hw H=>qx bS v2 bL bM (⟨r.ao,(r.Things++([(⟨r.ah,kind,⟨#[]⟩⟩:aE)])),r.Held,r.Notes,r.ae,(r.ah+1)⟩:aC) (⟨r.ae,r.ah,7,0,0⟩:ak) p w own H (by (dsimp only;omega))) O)) ?_
   rintro ⟨z7,z8,z9,kY⟩
   dsimp only
   refine R.s O (s.fS 1 _ O O O (fun _ _=>rfl) (.inl aj) (fun w hw=>(af (Sl.one (hw.bG 0 O)) (af (Sl.one (hw.bG 1 O)) (af (Sl.one (hw.bG 2 O)) (af (Sl.one (hw.bG 3 O)) (af O (af O aP))))))) O O O) fun _=>?_
   refine R.u 1 O<|R.nil ?_
   have hz:dV r p kind=((fy (⟨r.ao,(r.Things++([(⟨r.ah,kind,⟨#[]⟩⟩:aE)])),r.Held,r.Notes,r.ae,(r.ah+1)⟩:aC) (⟨r.ae,r.ah,7,0,0⟩:ak) p),0):=by (unfold dV;(repeat' split) <;> first|rfl|(exfalso;omega)|(simp_all;done))
   rw [hz]
   exact R.w2 (z7,z8,z9,kY) [4] bJ O Tryz.results56 (RV.cell 1 O O aj) (RV.tmp O) O O O (dA O (iK O))
  refine R.q (q.d9 O O Tryz.underlying38) O<|R.nil<|R.av O O<|R.reg O<|R.q (q.build ea O O) O<|R.u 1 O<|R.s O (s.st 0 _ O O O O (.inl aj) O O O O) fun _=>?_
  refine R.u 1 O<|R.nil<|R.mp (fun _ hw=>hw.a8 (α:=ak))<|R.mp (fun _ hw=>hw.a8 (α:=aE))<|R.mp (fun _ hw=>hw.a8 (α:=Held))<|R.mp (fun _ hw=>hw.a8 (α:=Note)) ?_
  have hz:dV r p kind=((⟨[],[],[],[],0,0⟩:aC),gL r p):=by (unfold dV;(repeat' split) <;> first|rfl|(exfalso;omega)|(simp_all;done))
  rw [hz]
  exact R.w2 ((nS),(nS),(nS),(nS)) [3] gj O Tryz.results56 (RV.cell 0 O O aj) (RV.tmp O) O O O (dA O O)
 refine R.qg O (q.lK O O) O<|R.u 1 O<|R.nil<|R.av O O<|R.reg O<|R.q (q.build ea O O) O<|R.q (q.iface O bm) O<|R.s O (s.st 0 _ O O O O (.inl aj) O O O O) fun _=>?_
 refine R.u 1 O<|R.nil<|R.mp (fun _ hw=>hw.a8 (α:=ak))<|R.mp (fun _ hw=>hw.a8 (α:=aE))<|R.mp (fun _ hw=>hw.a8 (α:=Held))<|R.mp (fun _ hw=>hw.a8 (α:=Note)) ?_
 have hz:dV r p kind=((⟨[],[],[],[],0,0⟩:aC),8):=by (unfold dV;(repeat' split) <;> first|rfl|(exfalso;omega)|(simp_all;done))
 rw [hz]
 exact R.w2 ((nS),(nS),(nS),(nS)) [3] gj O Tryz.results56 (RV.cell 0 O O aj) (RV.tmp O) O O O (dA O (dr (by decide) O))
theorem Ib (bS bK bL bM:Value)(r:aC)(p:Place)(t:Place)(rights:Int)(dM:Int)(w:World)(own:List Nat)(H:HN w own [] [ag.ls bS r.ao,ag.ls bK r.Things,ag.ls bL r.Held,ag.ls bM r.Notes])(hk:Ok r):RC Tryz.prog 57 #[.agg #[bS,bK,bL,bM,iV r.ae,iV r.ah],.agg #[iV p.aA,iV p.Slot],.agg #[iV t.aA,iV t.Slot],iV rights,iV dM] H (fun z:Value×Value×Value×Value => .tuple #[.agg #[z.1,z.2.1,z.2.2.1,z.2.2.2,iV (fq r p t rights dM).1.ae,iV (fq r p t rights dM).1.ah],da (fq r p t rights dM).2]) (fun _=>[]) (fun z=>[ag.ls z.1 (fq r p t rights dM).1.ao,ag.ls z.2.1 (fq r p t rights dM).1.Things,ag.ls z.2.2.1 (fq r p t rights dM).1.Held,ag.ls z.2.2.2 (fq r p t rights dM).1.Notes]):=by
 have eJ:=H.cq 0 rfl
 have dN:=H.cq 1 rfl
 have fH:=H.cq 2 rfl
 have eK:=H.cq 3 rfl
 have bw:=hk.wl;have bt:=hk.tl;have bh:=hk.hl;have bn:=hk.nl;have KV:=hk.w0;have KW:=hk.w1;have KX:=hk.t0;have KY:=hk.t1
 refine R.bD [(0,.agg #[bS,bK,bL,bM,iV r.ae,iV r.ah]),(1,.agg #[iV p.aA,iV p.Slot]),(2,.agg #[iV t.aA,iV t.Slot]),(3,iV rights),(4,iV dM)] Tryz.func57 O O O O H<|R.reg O<|R.s O (s.box O O O) fun b1=>?_
 refine R.s O (s.box O O O) fun b2=>?_
 refine R.s O (s.box O O O) fun b3=>?_
 refine R.s O (s.alloc dI O O) fun b4=>?_
 refine R.u 1 O<|R.nil<|R.reg O<|R.q (q.dh 3 O O aj) O<|R.q (q.dh 2 O O bO) O<|R.c (q.call tQ O O (fun w hw=>(ra _ _ _ _ r p w (hw.bG 0 O) (hw.bG 1 O) (hw.bG 2 O) (hw.bG 3 O) ‹_›))) O<|R.u 3 O<|?_
 refine R.s O (s.alloc bQ O O) fun b5=>?_
 refine R.s O (s.st 0 _ O O O O (.inl aM) O O O O) fun _=>?_
 refine R.u 1 O<|R.nil<|R.reg O<|R.u 1 O<|?_
 by_cases h1:(aS r p).2=0
 .
  have V4:=hk.get h1
  refine R.q (q.dx O O Tryz.underlying38) O<|R.nil<|R.aB O O<|R.reg O<|R.q (q.dh 4 O O aj) O<|R.q (q.dh 2 O O bO) O<|R.c (q.call AH O O (fun w hw=>(rh _ _ _ _ r t w (hw.bG 0 O) (hw.bG 1 O) (hw.bG 2 O) (hw.bG 3 O) ‹_›))) O<|R.u 1 O<|R.nil ?_
  refine R.reg O<|R.u 1 O<|?_
  by_cases h2:gL r t=0
  .
   refine R.q (q.dx O O Tryz.underlying38) O<|R.nil<|R.aB O O<|R.reg O<|R.q (q.aO O ft O) O<|R.q (q.ld 3 O O au O) O<|R.q (q.aO O ft O) O<|R.q (q.ld 2 O O au O) O<|?_
   by_cases h3:p.aA=t.aA
   .
    refine R.q (q.lL O O) O<|R.u 6 O<|R.nil<|R.aB O O<|R.reg O<|R.q (q.aO O cL O) O<|R.q (q.ld 4 O O au O) O<|?_
    by_cases h4:999<r.ae
    .
     refine R.q (q.eL O O) O<|R.nil<|R.av O O<|R.reg O<|R.q (q.build ea O O) O<|R.q (q.iface O bm) O<|R.s O (s.st 1 _ O O O O (.inl aj) O O O O) fun _=>?_
     refine R.u 1 O<|R.nil<|R.mp (fun _ hw=>hw.a8 (α:=ak))<|R.mp (fun _ hw=>hw.a8 (α:=aE))<|R.mp (fun _ hw=>hw.a8 (α:=Held))<|R.mp (fun _ hw=>hw.a8 (α:=Note)) ?_
     have hz:fq r p t rights dM=((⟨[],[],[],[],0,0⟩:aC),9):=by (unfold fq;(repeat' split) <;> first|rfl|(exfalso;omega)|(simp_all;done))
     rw [hz]
     exact R.w2 ((nS),(nS),(nS),(nS)) [5] gj O Tryz.results57 (RV.cell 1 O O aj) (RV.tmp O) O O O (dA O (dr (by decide) O))
    refine R.q (q.eo O O) O<|R.nil<|R.aB O O<|R.reg O<|R.q (q.dh 0 O O aM) O<|R.q (q.aO O cL O) O<|R.q (q.ld 4 O O au O) O<|R.u 2 O<|R.c (q.call wG O O (fun w hw=>(mF (aS r p).1 r.ae rights dM w (by omega)))) O<|R.u 3 O<|?_
    refine R.s O (s.alloc bQ O O) fun b6=>?_
    refine R.s O (s.st 0 _ O O O O (.inl aM) O O O O) fun _=>?_
    refine R.u 1 O<|R.nil<|R.reg O<|R.u 1 O<|?_
    by_cases h5:(derived (aS r p).1 r.ae rights dM).2=0
    .
     refine R.q (q.dx O O Tryz.underlying38) O<|R.nil<|R.aB O O<|R.reg O<|R.q (q.dh 5 O O aj) O<|R.q (q.dh 0 O O aM) O<|R.q (q.dh 3 O O bO) O<|R.s O (s.aW mK bJ _ _ _ O O O wF O O (fun w own hw H=>qx bS bK bL bM r (derived (aS r p).1 r.ae rights dM).1 t w own H (by omega)) O) ?_
     rintro ⟨z1,z2,z3,z4⟩
     dsimp only
     refine R.s O (s.fS 2 _ O O O (fun _ _=>rfl) (.inl aj) (fun w hw=>(af (Sl.one (hw.bG 0 O)) (af (Sl.one (hw.bG 1 O)) (af (Sl.one (hw.bG 2 O)) (af (Sl.one (hw.bG 3 O)) (af O (af O aP))))))) O O O) fun _=>?_
     refine R.u 1 O<|R.nil ?_
     have hz:fq r p t rights dM=((fy r (derived (aS r p).1 r.ae rights dM).1 t),0):=by (unfold fq;(repeat' split) <;> first|rfl|(exfalso;omega)|(simp_all;done))
     rw [hz]
     exact R.w2 (z1,z2,z3,z4) [6] bJ O Tryz.results57 (RV.cell 2 O O aj) (RV.tmp O) O O O (dA O (iK O))
    refine R.q (q.d9 O O Tryz.underlying38) O<|R.nil<|R.av O O<|R.reg O<|R.q (q.build ea O O) O<|R.u 1 O<|R.s O (s.st 2 _ O O O O (.inl aj) O O O O) fun _=>?_
    refine R.u 1 O<|R.nil<|R.mp (fun _ hw=>hw.a8 (α:=ak))<|R.mp (fun _ hw=>hw.a8 (α:=aE))<|R.mp (fun _ hw=>hw.a8 (α:=Held))<|R.mp (fun _ hw=>hw.a8 (α:=Note)) ?_
    have hz:fq r p t rights dM=((⟨[],[],[],[],0,0⟩:aC),(derived (aS r p).1 r.ae rights dM).2):=by (unfold fq;(repeat' split) <;> first|rfl|(exfalso;omega)|(simp_all;done))
    rw [hz]
    exact R.w2 ((nS),(nS),(nS),(nS)) [6] gj O Tryz.results57 (RV.cell 2 O O aj) (RV.tmp O) O O O (dA O O)
   refine R.q (q.lK O O) O<|R.u 1 O<|R.qg O (q.aO O jT O) O<|R.qg O (q.ld 0 O O au O) O<|?_
   rcases Bool.eq_false_or_eq_true (ji (aS r p).1.Rights 4) with h6|h6
   .
    refine R.cg O (q.call pY O O (fun w hw=>(cv (congrArg Value.bool h6) (gJ (aS r p).1.Rights 4 w (by omega) (by omega))))) O<|R.u 2 O<|R.nil<|R.aB O O<|R.reg O<|R.q (q.aO O cL O) O<|R.q (q.ld 4 O O au O) O<|?_
    by_cases h7:999<r.ae
    .
     refine R.q (q.eL O O) O<|R.nil<|R.av O O<|R.reg O<|R.q (q.build ea O O) O<|R.q (q.iface O bm) O<|R.s O (s.st 1 _ O O O O (.inl aj) O O O O) fun _=>?_
     refine R.u 1 O<|R.nil<|R.mp (fun _ hw=>hw.a8 (α:=ak))<|R.mp (fun _ hw=>hw.a8 (α:=aE))<|R.mp (fun _ hw=>hw.a8 (α:=Held))<|R.mp (fun _ hw=>hw.a8 (α:=Note)) ?_
     have hz:fq r p t rights dM=((⟨[],[],[],[],0,0⟩:aC),9):=by (unfold fq;(repeat' split) <;> first|rfl|(exfalso;omega)|(simp_all;done))
     rw [hz]
     exact R.w2 ((nS),(nS),(nS),(nS)) [5] gj O Tryz.results57 (RV.cell 1 O O aj) (RV.tmp O) O O O (dA O (dr (by decide) O))
    refine R.q (q.eo O O) O<|R.nil<|R.aB O O<|R.reg O<|R.q (q.dh 0 O O aM) O<|R.q (q.aO O cL O) O<|R.q (q.ld 4 O O au O) O<|R.u 2 O<|R.c (q.call wG O O (fun w hw=>(mF (aS r p).1 r.ae rights dM w (by omega)))) O<|R.u 3 O<|?_
    refine R.s O (s.alloc bQ O O) fun b7=>?_
    refine R.s O (s.st 0 _ O O O O (.inl aM) O O O O) fun _=>?_
    refine R.u 1 O<|R.nil<|R.reg O<|R.u 1 O<|?_
    by_cases h8:(derived (aS r p).1 r.ae rights dM).2=0
    .
     refine R.q (q.dx O O Tryz.underlying38) O<|R.nil<|R.aB O O<|R.reg O<|R.q (q.dh 5 O O aj) O<|R.q (q.dh 0 O O aM) O<|R.q (q.dh 3 O O bO) O<|R.s O (s.aW mK bJ _ _ _ O O O wF O O (fun w own hw H=>qx bS bK bL bM r (derived (aS r p).1 r.ae rights dM).1 t w own H (by omega)) O) ?_
     rintro ⟨z5,z6,z7,z8⟩
     dsimp only
     refine R.s O (s.fS 2 _ O O O (fun _ _=>rfl) (.inl aj) (fun w hw=>(af (Sl.one (hw.bG 0 O)) (af (Sl.one (hw.bG 1 O)) (af (Sl.one (hw.bG 2 O)) (af (Sl.one (hw.bG 3 O)) (af O (af O aP))))))) O O O) fun _=>?_
     refine R.u 1 O<|R.nil ?_
     have hz:fq r p t rights dM=((fy r (derived (aS r p).1 r.ae rights dM).1 t),0):=by (unfold fq;(repeat' split) <;> first|rfl|(exfalso;omega)|(simp_all;done))
     rw [hz]
     exact R.w2 (z5,z6,z7,z8) [6] bJ O Tryz.results57 (RV.cell 2 O O aj) (RV.tmp O) O O O (dA O (iK O))
    refine R.q (q.d9 O O Tryz.underlying38) O<|R.nil<|R.av O O<|R.reg O<|R.q (q.build ea O O) O<|R.u 1 O<|R.s O (s.st 2 _ O O O O (.inl aj) O O O O) fun _=>?_
    refine R.u 1 O<|R.nil<|R.mp (fun _ hw=>hw.a8 (α:=ak))<|R.mp (fun _ hw=>hw.a8 (α:=aE))<|R.mp (fun _ hw=>hw.a8 (α:=Held))<|R.mp (fun _ hw=>hw.a8 (α:=Note)) ?_
    have hz:fq r p t rights dM=((⟨[],[],[],[],0,0⟩:aC),(derived (aS r p).1 r.ae rights dM).2):=by (unfold fq;(repeat' split) <;> first|rfl|(exfalso;omega)|(simp_all;done))
    rw [hz]
    exact R.w2 ((nS),(nS),(nS),(nS)) [6] gj O Tryz.results57 (RV.cell 2 O O aj) (RV.tmp O) O O O (dA O O)
   refine R.cg O (q.call pY O O (fun w hw=>(cv (congrArg Value.bool h6) (gJ (aS r p).1.Rights 4 w (by omega) (by omega))))) O<|R.u 2 O<|R.nil<|R.av O O<|R.reg O<|R.q (q.build ea O O) O<|R.q (q.iface O bm) O<|R.s O (s.st 1 _ O O O O (.inl aj) O O O O) fun _=>?_
   refine R.u 1 O<|R.nil<|R.mp (fun _ hw=>hw.a8 (α:=ak))<|R.mp (fun _ hw=>hw.a8 (α:=aE))<|R.mp (fun _ hw=>hw.a8 (α:=Held))<|R.mp (fun _ hw=>hw.a8 (α:=Note)) ?_
   have hz:fq r p t rights dM=((⟨[],[],[],[],0,0⟩:aC),7):=by (unfold fq;(repeat' split) <;> first|rfl|(exfalso;omega)|(simp_all;done))
   rw [hz]
   exact R.w2 ((nS),(nS),(nS),(nS)) [5] gj O Tryz.results57 (RV.cell 1 O O aj) (RV.tmp O) O O O (dA O (dr (by decide) O))
  refine R.q (q.d9 O O Tryz.underlying38) O<|R.nil<|R.av O O<|R.reg O<|R.q (q.build ea O O) O<|R.u 1 O<|R.s O (s.st 1 _ O O O O (.inl aj) O O O O) fun _=>?_
  refine R.u 1 O<|R.nil<|R.mp (fun _ hw=>hw.a8 (α:=ak))<|R.mp (fun _ hw=>hw.a8 (α:=aE))<|R.mp (fun _ hw=>hw.a8 (α:=Held))<|R.mp (fun _ hw=>hw.a8 (α:=Note)) ?_
  have hz:fq r p t rights dM=((⟨[],[],[],[],0,0⟩:aC),gL r t):=by (unfold fq;(repeat' split) <;> rfl)
  rw [hz]
  exact R.w2 ((nS),(nS),(nS),(nS)) [5] gj O Tryz.results57 (RV.cell 1 O O aj) (RV.tmp O) O O O (dA O O)
 refine R.q (q.d9 O O Tryz.underlying38) O<|R.nil<|R.av O O<|R.reg O<|R.q (q.build ea O O) O<|R.u 1 O<|R.s O (s.st 1 _ O O O O (.inl aj) O O O O) fun _=>?_
 refine R.u 1 O<|R.nil<|R.mp (fun _ hw=>hw.a8 (α:=ak))<|R.mp (fun _ hw=>hw.a8 (α:=aE))<|R.mp (fun _ hw=>hw.a8 (α:=Held))<|R.mp (fun _ hw=>hw.a8 (α:=Note)) ?_
 have hz:fq r p t rights dM=((⟨[],[],[],[],0,0⟩:aC),(aS r p).2):=by (unfold fq;(repeat' split) <;> first|rfl|(exfalso;omega)|(simp_all;done))
 rw [hz]
 exact R.w2 ((nS),(nS),(nS),(nS)) [5] gj O Tryz.results57 (RV.cell 1 O O aj) (RV.tmp O) O O O (dA O O)
theorem Ic (bS bK bL bM:Value)(r:aC)(p:Place)(slot:Int)(w:World)(own:List Nat)(H:HN w own [] [ag.ls bS r.ao,ag.ls bK r.Things,ag.ls bL r.Held,ag.ls bM r.Notes])(hk:Ok r):RC Tryz.prog 58 #[.agg #[bS,bK,bL,bM,iV r.ae,iV r.ah],.agg #[iV p.aA,iV p.Slot],iV slot] H (fun z:Value×Value×Value×Value => .tuple #[.agg #[z.1,z.2.1,z.2.2.1,z.2.2.2,iV (jl r p slot).1.ae,iV (jl r p slot).1.ah],da (jl r p slot).2]) (fun _=>[]) (fun z=>[ag.ls z.1 (jl r p slot).1.ao,ag.ls z.2.1 (jl r p slot).1.Things,ag.ls z.2.2.1 (jl r p slot).1.Held,ag.ls z.2.2.2 (jl r p slot).1.Notes]):=by
 have eJ:=H.cq 0 rfl
 have dN:=H.cq 1 rfl
 have fH:=H.cq 2 rfl
 have eK:=H.cq 3 rfl
 have bw:=hk.wl;have bt:=hk.tl;have bh:=hk.hl;have bn:=hk.nl;have KV:=hk.w0;have KW:=hk.w1;have KX:=hk.t0;have KY:=hk.t1
 have bp:=nV r.Held p 0
 refine R.bD [(0,.agg #[bS,bK,bL,bM,iV r.ae,iV r.ah]),(1,.agg #[iV p.aA,iV p.Slot]),(2,iV slot)] Tryz.func58 O O O O H<|R.reg O<|R.s O (s.box O O O) fun b1=>?_
 refine R.s O (s.box O O O) fun b2=>?_
 refine R.s O (s.alloc dI O O) fun b3=>?_
 refine R.u 1 O<|R.nil<|R.reg O<|R.q (q.dh 2 O O aj) O<|R.q (q.dh 1 O O bO) O<|R.c (q.call tQ O O (fun w hw=>(ra _ _ _ _ r p w (hw.bG 0 O) (hw.bG 1 O) (hw.bG 2 O) (hw.bG 3 O) ‹_›))) O<|R.u 3 O<|?_
 refine R.s O (s.alloc bQ O O) fun b4=>?_
 refine R.s O (s.st 0 _ O O O O (.inl aM) O O O O) fun _=>?_
 refine R.u 1 O<|R.nil<|R.reg O<|R.u 1 O<|?_
 by_cases h1:(aS r p).2=0
 .
  refine R.q (q.dx O O Tryz.underlying38) O<|R.nil<|R.aB O O<|R.reg O<|R.q (q.aO O ft O) O<|R.q (q.ld 2 O O au O) O<|R.u 1 O<|R.q (q.build wA O O) O<|R.s O (s.alloc Cx O O) fun b5=>?_
  refine R.s O (s.st 0 _ O O O O (.inl bO) O O O O) fun _=>?_
  refine R.nil<|R.reg O<|R.q (q.dh 4 O O aj) O<|R.q (q.dh 0 O O bO) O<|R.c (q.call AH O O (fun w hw=>(rh _ _ _ _ r (⟨p.aA,slot⟩:Place) w (hw.bG 0 O) (hw.bG 1 O) (hw.bG 2 O) (hw.bG 3 O) ‹_›))) O<|R.u 1 O<|R.nil ?_
  refine R.reg O<|R.u 1 O<|?_
  by_cases h2:gL r (⟨p.aA,slot⟩:Place)=0
  .
   refine R.q (q.dx O O Tryz.underlying38) O<|R.nil<|R.aB O O<|R.fP (fuel:=10) nD O O mixed O<|D.q (i:=0) O (aD nD bJ O) O (q.aO O cB O) O<|D.q (i:=2) O (aD nD bJ O) O (q.dh 3 O O bO) O<|D.q (i:=4) O (aD nD bJ O) O (q.dh 0 O O bO) O<|D.q (i:=5) O (aD nD bJ O) O (q.aO O bV O) O<|D.q (i:=6) O (aD nD bJ O) O (q.ld 1 O O au O) O<|D.one (i:=1) O<|Do.s (s.c (Qt.a (q.ld 4 O O dE O)) O) (fun _=>(aD nD bJ O)) O fun _=>?_
   refine D.one (i:=3) O<|Do.s (s.aW rz [2] _ _ _ O O O tT O O (fun w own hw H=>qM bL r.Held p 0 w own H (by omega)) O) (fun _=>(aD sJ bJ O)) O fun z3=>?_
   refine D.one (i:=7) O<|Do.s (s.pre (fun _ hw=>hw.cX 0 _ O O) (s.aW rz [0] _ _ _ O O O tT O O (fun w own hw H=>qM z3 (fR r.Held p 0) (⟨p.aA,slot⟩:Place) (aS r p).1.ID w own H (by omega)) O)) (fun _=>(aD sJ [1,2,3,4] O)) O fun z4=>?_
   refine D.q (i:=8) O (aD sJ [1,2,3,4] O) O (q.aO O cB O) O<|D.one (i:=9) O<|Do.s (s.fS 5 _ O O O (fun w hw=>Sl.cm (hw.row 0 O)) (.inr ⟨dE,rfl⟩) (fun w hw=>(af (Sl.one (hw.row 0 O)) aP)) O O O) (fun _=>(aD sJ [1,2,3,4] O)) O fun _=>?_
   refine D.done<|R.reg O<|R.q (q.dh 5 O O aj) O<|R.s O (s.fS 3 _ O O O (fun _ _=>rfl) (.inl aj) (fun w hw=>(af (Sl.one (hw.bG 1 O)) (af (Sl.one (hw.bG 2 O)) (af (Sl.one (hw.row 0 O)) (af (Sl.one (hw.bG 4 O)) (af O (af O aP))))))) O O O) fun _=>?_
   refine R.u 1 O<|R.nil<|R.mp (fun _ hw=>hw.cX 0 _ O O) ?_
   have hz:jl r p slot=((⟨r.ao,r.Things,fR (fR r.Held p 0) (⟨p.aA,slot⟩:Place) (aS r p).1.ID,r.Notes,r.ae,r.ah⟩:aC),0):=by (unfold jl;(repeat' split) <;> rfl)
   rw [hz]
   exact R.w2 (bS,bK,z4,bM) [5] [2,3,0,5] O Tryz.results58 (RV.cell 2 O O aj) (RV.tmp O) O O O (dA O (iK O))
  refine R.q (q.d9 O O Tryz.underlying38) O<|R.nil<|R.av O O<|R.reg O<|R.q (q.build ea O O) O<|R.u 1 O<|R.s O (s.st 2 _ O O O O (.inl aj) O O O O) fun _=>?_
  refine R.u 1 O<|R.nil<|R.mp (fun _ hw=>hw.a8 (α:=ak))<|R.mp (fun _ hw=>hw.a8 (α:=aE))<|R.mp (fun _ hw=>hw.a8 (α:=Held))<|R.mp (fun _ hw=>hw.a8 (α:=Note)) ?_
  have hz:jl r p slot=((⟨[],[],[],[],0,0⟩:aC),gL r (⟨p.aA,slot⟩:Place)):=by (unfold jl;(repeat' split) <;> rfl)
  rw [hz]
  exact R.w2 ((nS),(nS),(nS),(nS)) [5] gj O Tryz.results58 (RV.cell 2 O O aj) (RV.tmp O) O O O (dA O O)
 refine R.q (q.d9 O O Tryz.underlying38) O<|R.nil<|R.av O O<|R.reg O<|R.q (q.build ea O O) O<|R.u 1 O<|R.s O (s.st 1 _ O O O O (.inl aj) O O O O) fun _=>?_
 refine R.u 1 O<|R.nil<|R.mp (fun _ hw=>hw.a8 (α:=ak))<|R.mp (fun _ hw=>hw.a8 (α:=aE))<|R.mp (fun _ hw=>hw.a8 (α:=Held))<|R.mp (fun _ hw=>hw.a8 (α:=Note)) ?_
 have hz:jl r p slot=((⟨[],[],[],[],0,0⟩:aC),(aS r p).2):=by (unfold jl;(repeat' split) <;> first|rfl|(exfalso;omega)|(simp_all;done))
 rw [hz]
 exact R.w2 ((nS),(nS),(nS),(nS)) [4] gj O Tryz.results58 (RV.cell 1 O O aj) (RV.tmp O) O O O (dA O O)
theorem Ie (bS bK bL bM:Value)(r:aC)(p:Place)(w:World)(own:List Nat)(H:HN w own [] [ag.ls bS r.ao,ag.ls bK r.Things,ag.ls bL r.Held,ag.ls bM r.Notes])(hk:Ok r):RC Tryz.prog 59 #[.agg #[bS,bK,bL,bM,iV r.ae,iV r.ah],.agg #[iV p.aA,iV p.Slot]] H (fun z:Value×Value×Value×Value => .tuple #[.agg #[z.1,z.2.1,z.2.2.1,z.2.2.2,iV (jL r p).1.ae,iV (jL r p).1.ah],da (jL r p).2]) (fun _=>[]) (fun z=>[ag.ls z.1 (jL r p).1.ao,ag.ls z.2.1 (jL r p).1.Things,ag.ls z.2.2.1 (jL r p).1.Held,ag.ls z.2.2.2 (jL r p).1.Notes]):=by
 have eJ:=H.cq 0 rfl
 have dN:=H.cq 1 rfl
 have fH:=H.cq 2 rfl
 have eK:=H.cq 3 rfl
 have bw:=hk.wl;have bt:=hk.tl;have bh:=hk.hl;have bn:=hk.nl;have KV:=hk.w0;have KW:=hk.w1;have KX:=hk.t0;have KY:=hk.t1
 have hkd:=hk.wo (aS r p).1.ID
 refine R.bD [(0,.agg #[bS,bK,bL,bM,iV r.ae,iV r.ah]),(1,.agg #[iV p.aA,iV p.Slot])] Tryz.func59 O O O O H<|R.reg O<|R.s O (s.box O O O) fun b1=>?_
 refine R.s O (s.box O O O) fun b2=>?_
 refine R.s O (s.alloc dI O O) fun b3=>?_
 refine R.u 1 O<|R.nil<|R.reg O<|R.q (q.dh 2 O O aj) O<|R.q (q.dh 1 O O bO) O<|R.c (q.call tQ O O (fun w hw=>(ra _ _ _ _ r p w (hw.bG 0 O) (hw.bG 1 O) (hw.bG 2 O) (hw.bG 3 O) ‹_›))) O<|R.u 3 O<|?_
 refine R.s O (s.alloc bQ O O) fun b4=>?_
 refine R.s O (s.st 0 _ O O O O (.inl aM) O O O O) fun _=>?_
 refine R.u 1 O<|R.nil<|R.reg O<|R.u 1 O<|?_
 by_cases h1:(aS r p).2=0
 .
  refine R.q (q.dx O O Tryz.underlying38) O<|R.nil<|R.aB O O<|R.reg O<|R.q (q.aO O bg O) O<|R.q (q.ld 3 O O bT O) O<|R.q (q.aO O bV O) O<|R.q (q.ld 0 O O au O) O<|R.s O (s.vW Jk O O (fun w hw=>qp _ r.ao (aS r p).1.ID w (hw.bG 0 O) (by omega)) O) fun v1=>?_
  refine R.q (q.aO O bg O) O<|R.s O (s.fS 4 _ O O O (fun w hw=>Sl.cm (hw.row 0 O)) (.inr ⟨bT,rfl⟩) (fun w hw=>(af (Sl.one (hw.row 0 O)) aP)) O O O) fun _=>?_
  refine R.nil<|R.reg O<|R.q (q.dh 4 O O aj) O<|R.s O (s.pre (fun _ hw=>hw.cX 0 _ O O) (s.aW gX [0,2,3,4] _ _ _ O O O Jl O O (fun w own hw H=>sq v1 bK bL bM (⟨(without r.ao (aS r p).1.ID),r.Things,r.Held,r.Notes,r.ae,r.ah⟩:aC) w own H ‹_›) O)) ?_
  rintro ⟨z1,z2,z3,z4⟩
  dsimp only
  refine R.s O (s.fS 1 _ O O O (fun _ _=>rfl) (.inl aj) (fun w hw=>(af (Sl.one (hw.bG 0 O)) (af (Sl.one (hw.bG 1 O)) (af (Sl.one (hw.bG 2 O)) (af (Sl.one (hw.bG 3 O)) (af O (af O aP))))))) O O O) fun _=>?_
  refine R.u 1 O<|R.nil ?_
  have hz:jL r p=((dS (⟨(without r.ao (aS r p).1.ID),r.Things,r.Held,r.Notes,r.ae,r.ah⟩:aC)),0):=by (unfold jL;(repeat' split) <;> rfl)
  rw [hz]
  exact R.w2 (z1,z2,z3,z4) [4] bJ O Tryz.results59 (RV.cell 1 O O aj) (RV.tmp O) O O O (dA O (iK O))
 refine R.q (q.d9 O O Tryz.underlying38) O<|R.nil<|R.av O O<|R.reg O<|R.q (q.build ea O O) O<|R.u 1 O<|R.s O (s.st 1 _ O O O O (.inl aj) O O O O) fun _=>?_
 refine R.u 1 O<|R.nil<|R.mp (fun _ hw=>hw.a8 (α:=ak))<|R.mp (fun _ hw=>hw.a8 (α:=aE))<|R.mp (fun _ hw=>hw.a8 (α:=Held))<|R.mp (fun _ hw=>hw.a8 (α:=Note)) ?_
 have hz:jL r p=((⟨[],[],[],[],0,0⟩:aC),(aS r p).2):=by (unfold jL;(repeat' split) <;> first|rfl|(exfalso;omega)|(simp_all;done))
 rw [hz]
 exact R.w2 ((nS),(nS),(nS),(nS)) [4] gj O Tryz.results59 (RV.cell 1 O O aj) (RV.tmp O) O O O (dA O O)
theorem Du (bS bK bL bM:Value)(r:aC)(p:Place)(w:World)(own:List Nat)(H:HN w own [] [ag.ls bS r.ao,ag.ls bK r.Things,ag.ls bL r.Held,ag.ls bM r.Notes])(hk:Ok r):RC Tryz.prog 60 #[.agg #[bS,bK,bL,bM,iV r.ae,iV r.ah],.agg #[iV p.aA,iV p.Slot]] H (fun z:Value×Value×Value×Value => .tuple #[.agg #[z.1,z.2.1,z.2.2.1,z.2.2.2,iV (fe r p).1.ae,iV (fe r p).1.ah],da (fe r p).2]) (fun _=>[]) (fun z=>[ag.ls z.1 (fe r p).1.ao,ag.ls z.2.1 (fe r p).1.Things,ag.ls z.2.2.1 (fe r p).1.Held,ag.ls z.2.2.2 (fe r p).1.Notes]):=by
 have eJ:=H.cq 0 rfl
 have dN:=H.cq 1 rfl
 have fH:=H.cq 2 rfl
 have eK:=H.cq 3 rfl
 have bw:=hk.wl;have bt:=hk.tl;have bh:=hk.hl;have bn:=hk.nl;have KV:=hk.w0;have KW:=hk.w1;have KX:=hk.t0;have KY:=hk.t1
 have hkd:Ok (⟨r.ao.filter (fun x => !(fun (x:ak)=>decide (x.ID∈(kA (aS r p).1.ID r.ao))) x),r.Things,r.Held,r.Notes,r.ae,r.ah⟩:aC):=hk.cut (aS r p).1.ID
 refine R.bD [(0,.agg #[bS,bK,bL,bM,iV r.ae,iV r.ah]),(1,.agg #[iV p.aA,iV p.Slot])] Tryz.func60 O O O O H<|R.reg O<|R.s O (s.box O O O) fun b1=>?_
 refine R.s O (s.box O O O) fun b2=>?_
 refine R.s O (s.alloc dI O O) fun b3=>?_
 refine R.u 1 O<|R.nil<|R.reg O<|R.q (q.dh 2 O O aj) O<|R.q (q.dh 1 O O bO) O<|R.c (q.call tQ O O (fun w hw=>(ra _ _ _ _ r p w (hw.bG 0 O) (hw.bG 1 O) (hw.bG 2 O) (hw.bG 3 O) ‹_›))) O<|R.u 3 O<|?_
 refine R.s O (s.alloc bQ O O) fun b4=>?_
 refine R.s O (s.st 0 _ O O O O (.inl aM) O O O O) fun _=>?_
 refine R.u 1 O<|R.nil<|R.reg O<|R.u 1 O<|?_
 by_cases h1:(aS r p).2=0
 .
  refine R.q (q.dx O O Tryz.underlying38) O<|R.nil<|R.aB O O<|R.reg O<|R.q (q.aO O bg O) O<|R.q (q.ld 3 O O bT O) O<|R.q (q.aO O bV O) O<|R.q (q.ld 0 O O au O) O<|R.s O (s.vW Pg O O (fun w hw=>BJ _ r.ao (aS r p).1.ID w (hw.bG 0 O) (by omega)) O) fun v1=>?_
  refine R.s O (s.alloc zn O O) fun b5=>?_
  refine R.s O (s.fS 0 _ O O O (fun w hw=>Sl.cm (hw.row 1 O)) (.inr ⟨nO,rfl⟩) (fun w hw=>(af (Sl.one (hw.row 1 O)) aP)) O O O) fun _=>?_
  refine R.nil<|R.reg O<|R.q (q.aO O bg O) O<|R.q (q.ld 5 O O bT O) O<|R.s O (s.aW mK [0] _ _ _ O O O wD O O (fun w own hw H=>jM bS r.ao w own H (by omega)) O) fun z1=>?_
  refine R.q (q.L9 (cap:=[.pointer (some ⟨b5,0,none⟩)]) O O) O<|R.s O (s.aW fh [] _ _ _ O O O Ph O O (fun w own hw H=>vy z1 r.ao (fun (x:ak)=>decide (x.ID∈(kA (aS r p).1.ID r.ao))) _ _ Pj w own H (fun W x hU=>yW x _ (kA (aS r p).1.ID r.ao) _ W (hw.wq 1 0 O O (by decide) hU) (Own.sl (hw.wq 2 0 O O (by decide) hU)) ) (by omega)) O) fun z2=>?_
  refine R.q (q.aO O bg O) O<|R.s O (s.fS 6 _ O O O (fun w hw=>Sl.cm (hw.row 0 O)) (.inr ⟨bT,rfl⟩) (fun w hw=>(af (Sl.one (hw.row 0 O)) aP)) O O O) fun _=>?_
  refine R.nil<|R.reg O<|R.q (q.dh 6 O O aj) O<|R.s O (s.pre (fun _ hw=>hw.cX 0 _ O O) (s.aW mK [0,2,3,4] _ _ _ O O O Jl O O (fun w own hw H=>by have PY:=sq z2 bK bL bM (⟨r.ao.filter (fun x => !(fun (x:ak)=>decide (x.ID∈(kA (aS r p).1.ID r.ao))) x),r.Things,r.Held,r.Notes,r.ae,r.ah⟩:aC) w own H ‹_›;exact PY) O)) ?_
  rintro ⟨z3,z4,z5,z6⟩
  dsimp only
  refine R.s O (s.fS 3 _ O O O (fun _ _=>rfl) (.inl aj) (fun w hw=>(af (Sl.one (hw.bG 0 O)) (af (Sl.one (hw.bG 1 O)) (af (Sl.one (hw.bG 2 O)) (af (Sl.one (hw.bG 3 O)) (af O (af O aP))))))) O O O) fun _=>?_
  refine R.u 1 O<|R.nil ?_
  have hz:fe r p=((dS (⟨r.ao.filter (fun x => !(fun (x:ak)=>decide (x.ID∈(kA (aS r p).1.ID r.ao))) x),r.Things,r.Held,r.Notes,r.ae,r.ah⟩:aC)),0):=by (unfold fe;(repeat' split) <;> rfl)
  rw [hz]
  exact R.w2 (z3,z4,z5,z6) [6] bJ O Tryz.results60 (RV.cell 3 O O aj) (RV.tmp O) O O O (dA O (iK O))
 refine R.q (q.d9 O O Tryz.underlying38) O<|R.nil<|R.av O O<|R.reg O<|R.q (q.build ea O O) O<|R.u 1 O<|R.s O (s.st 1 _ O O O O (.inl aj) O O O O) fun _=>?_
 refine R.u 1 O<|R.nil<|R.mp (fun _ hw=>hw.a8 (α:=ak))<|R.mp (fun _ hw=>hw.a8 (α:=aE))<|R.mp (fun _ hw=>hw.a8 (α:=Held))<|R.mp (fun _ hw=>hw.a8 (α:=Note)) ?_
 have hz:fe r p=((⟨[],[],[],[],0,0⟩:aC),(aS r p).2):=by (unfold fe;(repeat' split) <;> first|rfl|(exfalso;omega)|(simp_all;done))
 rw [hz]
 exact R.w2 ((nS),(nS),(nS),(nS)) [4] gj O Tryz.results60 (RV.cell 1 O O aj) (RV.tmp O) O O O (dA O O)
theorem xU (bS bK bL bM:Value)(r:aC)(p:Place)(kind:Int)(rights:Int)(w:World)(yS:Sl w bS r.ao)(BL:Sl w bK r.Things)(Fe:Sl w bL r.Held)(MY:Sl w bM r.Notes)(hk:Ok r)(hr:0<=rights/\rights<=7):Calls Tryz.prog 125 #[.agg #[bS,bK,bL,bM,iV r.ae,iV r.ah],.agg #[iV p.aA,iV p.Slot],iV kind,iV rights] w fun e w'=>e = .returned (.tuple #[ak.val (cD r p kind rights).1,iV (cD r p kind rights).2.1,da (cD r p kind rights).2.2])/\Ext w w':=by
 have bw:=hk.wl;have bt:=hk.tl;have bh:=hk.hl;have bn:=hk.nl;have KV:=hk.w0;have KW:=hk.w1;have KX:=hk.t0;have KY:=hk.t1
 refine R.enter [] [(0,.agg #[bS,bK,bL,bM,iV r.ae,iV r.ah]),(1,.agg #[iV p.aA,iV p.Slot]),(2,iV kind),(3,iV rights)] Tryz.func125 O O O O<|R.reg O<|R.s O (s.box O O O) fun b1=>?_
 refine R.s O (s.box O O O) fun b2=>?_
 refine R.s O (s.alloc bQ O O) fun b3=>?_
 refine R.u 2 O<|R.nil<|R.reg O<|R.q (q.dh 2 O O aj) O<|R.q (q.dh 1 O O bO) O<|R.c (q.call tQ O O (fun w hw=>(ra _ _ _ _ r p w ((fun _=>Wd.old yS) w hw) ((fun _=>Wd.old BL) w hw) ((fun _=>Wd.old Fe) w hw) ((fun _=>Wd.old MY) w hw) ‹_›))) O<|R.u 3 O<|?_
 refine R.s O (s.alloc bQ O O) fun b4=>?_
 refine R.s O (s.st 0 _ O O O O (.inl aM) O O O O) fun _=>?_
 refine R.u 1 O<|R.nil<|R.reg O<|R.u 1 O<|?_
 by_cases h1:(aS r p).2=0
 .
  have V4:=hk.get h1
  refine R.q (q.dx O O Tryz.underlying38) O<|R.nil<|R.aB O O<|R.reg O<|R.q (q.aO O cz O) O<|R.q (q.ld 3 O O dD O) O<|R.q (q.L9 (cap:=[.pointer (some ⟨b4,0,none⟩)]) O O) O<|?_
  rcases j5 (fun (t:aE)=>t.ID==(aS r p).1.aE) r.Things with ⟨gU,Eu⟩ | ⟨rF,Es,gU,lY,vo,AY,TP⟩
  .
   refine R.c (q.call AO O O (fun w hw=>(cv (congrArg (Value.int .i64) gU) (iw _ r.Things (fun (t:aE)=>t.ID==(aS r p).1.aE) _ _ JA w ((fun _=>Wd.old BL) w hw) (fun W t hW=>xS t (aS r p).1 _ W (sQ (hw.b 0 O) hW) ) )))) O<|R.u 1 O<|R.nil ?_
   refine R.reg O<|R.u 1 O<|R.q (q.lss (b:=true) O O (by decide)) O<|R.u 10 O<|R.nil<|R.av O O<|R.reg O<|R.q (q.build iY O O) O<|R.q (q.iface O bm) O<|R.s O (s.st 1 _ O O O O (.inl aM) O O O O) fun _=>?_
   exact R.u 2 O<|R.nil<|R.Rx O Tryz.results125 (RV.cell 1 O O aM) (RV.tmp O) (RV.tmp O) (congrArg ak.val (show (⟨0,0,0,0,0⟩:ak)=(cD r p kind rights).1 from by (rw [qX ‹_› Eu];rfl))) (rI (by (rw [qX ‹_› Eu];done))) (dr (by decide) (by (rw [qX ‹_› Eu];done)))
  refine R.c (q.call AO O O (fun w hw=>(cv (congrArg (Value.int .i64) gU) (iw _ r.Things (fun (t:aE)=>t.ID==(aS r p).1.aE) _ _ JA w ((fun _=>Wd.old BL) w hw) (fun W t hW=>xS t (aS r p).1 _ W (sQ (hw.b 0 O) hW) ) )))) O<|R.u 1 O<|R.nil ?_
  refine R.reg O<|R.u 1 O<|R.q (q.cW O O) O<|R.u 1 O<|R.qg O (q.aO O cz O) O<|R.qg O (q.ld 3 O O dD O) O<|R.u 1 O<|R.qg O (q.idx (i:=rF) (fun _=>Wd.old BL) O O iM O lY) O<|R.qg O (q.nI (j':=1) (fun _=>Wd.old BL) lY O wB O) O<|R.qg O (q.lw (fun _=>Wd.old BL) lY O au O) O<|R.u 1 O<|?_
  by_cases h2:Es.Kind=kind
  .
   refine R.qg O (q.lL O O) O<|R.u 1 O<|R.nil<|R.aB O O<|R.reg O<|R.q (q.aO O jT O) O<|R.q (q.ld 0 O O au O) O<|R.u 1 O<|?_
   rcases Bool.eq_false_or_eq_true (ji (aS r p).1.Rights rights) with h3|h3
   .
    refine R.c (q.call pY O O (fun w hw=>(cv (congrArg Value.bool h3) (gJ (aS r p).1.Rights rights w (by omega) (by omega))))) O<|R.u 1 O<|R.nil ?_
    refine R.aB O O<|R.reg O<|R.q (q.dh 0 O O aM) O<|R.u 1 O<|R.s O (s.st 1 _ O O O O (.inl aM) O O O O) fun _=>?_
    exact R.u 2 O<|R.nil<|R.Rx O Tryz.results125 (RV.cell 1 O O aM) (RV.tmp O) (RV.tmp O) (congrArg ak.val (show (aS r p).1=(cD r p kind rights).1 from by (rw [vI ‹_› lY vo AY ‹_› ‹_›];done))) (rI (by (rw [vI ‹_› lY vo AY ‹_› ‹_›];done))) (iK (by (rw [vI ‹_› lY vo AY ‹_› ‹_›];done)))
   refine R.c (q.call pY O O (fun w hw=>(cv (congrArg Value.bool h3) (gJ (aS r p).1.Rights rights w (by omega) (by omega))))) O<|R.u 1 O<|R.nil ?_
   refine R.av O O<|R.reg O<|R.q (q.build iY O O) O<|R.q (q.iface O bm) O<|R.s O (s.st 1 _ O O O O (.inl aM) O O O O) fun _=>?_
   exact R.u 2 O<|R.nil<|R.Rx O Tryz.results125 (RV.cell 1 O O aM) (RV.tmp O) (RV.tmp O) (congrArg ak.val (show (⟨0,0,0,0,0⟩:ak)=(cD r p kind rights).1 from by (rw [oX ‹_› lY vo AY ‹_› ‹_›];rfl))) (rI (by (rw [oX ‹_› lY vo AY ‹_› ‹_›];done))) (dr (by decide) (by (rw [oX ‹_› lY vo AY ‹_› ‹_›];done)))
  refine R.qg O (q.lK O O) O<|R.u 1 O<|R.nil<|R.av O O<|R.reg O<|R.q (q.build iY O O) O<|R.q (q.iface O bm) O<|R.s O (s.st 1 _ O O O O (.inl aM) O O O O) fun _=>?_
  exact R.u 2 O<|R.nil<|R.Rx O Tryz.results125 (RV.cell 1 O O aM) (RV.tmp O) (RV.tmp O) (congrArg ak.val (show (⟨0,0,0,0,0⟩:ak)=(cD r p kind rights).1 from by (rw [qY ‹_› lY vo AY ‹_›];rfl))) (rI (by (rw [qY ‹_› lY vo AY ‹_›];done))) (dr (by decide) (by (rw [qY ‹_› lY vo AY ‹_›];done)))
 refine R.q (q.d9 O O Tryz.underlying38) O<|R.nil<|R.av O O<|R.reg O<|R.q (q.build iY O O) O<|R.u 1 O<|R.s O (s.st 1 _ O O O O (.inl aM) O O O O) fun _=>?_
 exact R.u 2 O<|R.nil<|R.Rx O Tryz.results125 (RV.cell 1 O O aM) (RV.tmp O) (RV.tmp O) (congrArg ak.val (show (⟨0,0,0,0,0⟩:ak)=(cD r p kind rights).1 from by (rw [tv ‹_›];rfl))) (rI (by (rw [tv ‹_›];done))) (rE (by (rw [tv ‹_›];done)))
theorem Ff (bS bK bL bM:Value)(r:aC)(p:Place)(d:ByteArray)(w:World)(own:List Nat)(H:HN w own [] [ag.ls bS r.ao,ag.ls bK r.Things,ag.ls bL r.Held,ag.ls bM r.Notes])(hk:Ok r):RC Tryz.prog 61 #[.agg #[bS,bK,bL,bM,iV r.ae,iV r.ah],.agg #[iV p.aA,iV p.Slot],.string d] H (fun z:Value×Value×Value×Value => .tuple #[.agg #[z.1,z.2.1,z.2.2.1,z.2.2.2,iV (fY r p d).1.ae,iV (fY r p d).1.ah],da (fY r p d).2]) (fun _=>[]) (fun z=>[ag.ls z.1 (fY r p d).1.ao,ag.ls z.2.1 (fY r p d).1.Things,ag.ls z.2.2.1 (fY r p d).1.Held,ag.ls z.2.2.2 (fY r p d).1.Notes]):=by
 have eJ:=H.cq 0 rfl
 have dN:=H.cq 1 rfl
 have fH:=H.cq 2 rfl
 have eK:=H.cq 3 rfl
 have bw:=hk.wl;have bt:=hk.tl;have bh:=hk.hl;have bn:=hk.nl;have KV:=hk.w0;have KW:=hk.w1;have KX:=hk.t0;have KY:=hk.t1
 refine R.bD [(0,.agg #[bS,bK,bL,bM,iV r.ae,iV r.ah]),(1,.agg #[iV p.aA,iV p.Slot]),(2,.string d)] Tryz.func61 O O O O H<|R.reg O<|R.s O (s.box O O O) fun b1=>?_
 refine R.s O (s.box O O O) fun b2=>?_
 refine R.s O (s.alloc dI O O) fun b3=>?_
 refine R.u 1 O<|R.nil<|R.reg O<|R.q (q.dh 2 O O aj) O<|R.q (q.dh 1 O O bO) O<|R.c (q.call ED O O (fun w hw=>(xU _ _ _ _ r p 1 2 w (hw.bG 0 O) (hw.bG 1 O) (hw.bG 2 O) (hw.bG 3 O) ‹_› (by omega)))) O<|R.u 4 O<|?_
 refine R.s O (s.alloc bQ O O) fun b4=>?_
 refine R.s O (s.st 0 _ O O O O (.inl aM) O O O O) fun _=>?_
 refine R.u 2 O<|R.nil<|R.reg O<|R.u 1 O<|?_
 by_cases h1:(cD r p 1 2).2.2=0
 .
  obtain ⟨m1,m2,m3,i,ix,ik,ih,ii,id,ib⟩:=qZ h1;have iB:=(List.getElem?_eq_some_iff.1 ih).1
  refine R.q (q.dx O O Tryz.underlying38) O<|R.nil<|R.aB O O<|R.reg O<|R.u 1 O<|R.q (q.iA O Tryz.underlying9) O<|?_
  by_cases h2:8<d.size
  .
   refine R.q (q.eL O O) O<|R.nil<|R.av O O<|R.reg O<|R.q (q.build ea O O) O<|R.q (q.iface O bm) O<|R.s O (s.st 1 _ O O O O (.inl aj) O O O O) fun _=>?_
   refine R.u 1 O<|R.nil<|R.mp (fun _ hw=>hw.a8 (α:=ak))<|R.mp (fun _ hw=>hw.a8 (α:=aE))<|R.mp (fun _ hw=>hw.a8 (α:=Held))<|R.mp (fun _ hw=>hw.a8 (α:=Note)) ?_
   have hz:fY r p d=((⟨[],[],[],[],0,0⟩:aC),2):=by (unfold fY gW;(repeat' split) <;> rfl)
   rw [hz]
   exact R.w2 ((nS),(nS),(nS),(nS)) [4] gj O Tryz.results61 (RV.cell 1 O O aj) (RV.tmp O) O O O (dA O (dr (by decide) O))
  refine R.q (q.eo O O) O<|R.nil<|R.aB O O<|R.reg O<|R.q (q.aO O cz O) O<|R.q (q.ld 3 O O dD O) O<|R.s O (s.aW gX [1] _ _ _ O O O wE O O (fun w own hw H=>jm bK r.Things w own H (by omega)) O) fun z1=>?_
  refine R.q (q.aO O cz O) O<|R.s O (s.fS 4 _ O O O (fun w hw=>Sl.cm (hw.row 0 O)) (.inr ⟨dD,rfl⟩) (fun w hw=>(af (Sl.one (hw.row 0 O)) aP)) O O O) fun _=>?_
  refine R.nil<|R.reg O<|R.q (q.aO O cz O) O<|R.q (q.ld 4 O O dD O) O<|R.u 2 O<|?_
  obtain ⟨x1,hx1⟩:∃z,r.Things[(cD r p 1 2).2.1.toNat]? = some z:=⟨_,List.getElem?_eq_getElem (by omega)⟩
  refine R.q (q.idx (i:=(cD r p 1 2).2.1.toNat) (bC 0 O) O O iM (by omega) hx1) O<|R.q (q.nI (j':=2) (bC 0 O) hx1 O wC O) O<|R.s O (s.stP (o:=2) (z:=(⟨x1.ID,x1.Kind,d⟩:aE)) 0 _ O hx1 O O O O O (by simp [Value.oneCell']) (.inr ⟨bF,rfl⟩) O) fun _=>?_
  refine R.nil<|R.reg O<|R.q (q.dh 4 O O aj) O<|R.s O (s.fS 2 _ O O O (fun _ _=>rfl) (.inl aj) (fun w hw=>(af (Sl.one (hw.bG 0 O)) (af (Sl.one (hw.row 0 O)) (af (Sl.one (hw.bG 2 O)) (af (Sl.one (hw.bG 3 O)) (af O (af O aP))))))) O O O) fun _=>?_
  refine R.u 1 O<|R.nil<|R.mp (fun _ hw=>hw.cX 0 _ O O) ?_
  have hz:fY r p d=((⟨r.ao,(r.Things.set (cD r p 1 2).2.1.toNat (⟨x1.ID,x1.Kind,d⟩:aE)),r.Held,r.Notes,r.ae,r.ah⟩:aC),0):=by (unfold fY gW;(repeat' split) <;> first|rfl|(exfalso;omega)|(simp_all;done))
  rw [hz]
  exact R.w2 (bS,z1,bL,bM) [4] [1,0,3,4] O Tryz.results61 (RV.cell 1 O O aj) (RV.tmp O) O O O (dA O (iK O))
 refine R.q (q.d9 O O Tryz.underlying38) O<|R.nil<|R.av O O<|R.reg O<|R.q (q.build ea O O) O<|R.u 1 O<|R.s O (s.st 1 _ O O O O (.inl aj) O O O O) fun _=>?_
 refine R.u 1 O<|R.nil<|R.mp (fun _ hw=>hw.a8 (α:=ak))<|R.mp (fun _ hw=>hw.a8 (α:=aE))<|R.mp (fun _ hw=>hw.a8 (α:=Held))<|R.mp (fun _ hw=>hw.a8 (α:=Note)) ?_
 have hz:fY r p d=((⟨[],[],[],[],0,0⟩:aC),(cD r p 1 2).2.2):=by (unfold fY gW;(repeat' split) <;> first|rfl|(exfalso;omega)|(simp_all;done))
 rw [hz]
 exact R.w2 ((nS),(nS),(nS),(nS)) [4] gj O Tryz.results61 (RV.cell 1 O O aj) (RV.tmp O) O O O (dA O O)
theorem Ig (bS bK bL bM:Value)(r:aC)(p:Place)(d:ByteArray)(slot:Int)(rights:Int)(w:World)(own:List Nat)(H:HN w own [] [ag.ls bS r.ao,ag.ls bK r.Things,ag.ls bL r.Held,ag.ls bM r.Notes])(hk:Ok r):RC Tryz.prog 62 #[.agg #[bS,bK,bL,bM,iV r.ae,iV r.ah],.agg #[iV p.aA,iV p.Slot],.string d,iV slot,iV rights] H (fun z:Value×Value×Value×Value => .tuple #[.agg #[z.1,z.2.1,z.2.2.1,z.2.2.2,iV (dO r p d slot rights).1.ae,iV (dO r p d slot rights).1.ah],da (dO r p d slot rights).2]) (fun _=>[]) (fun z=>[ag.ls z.1 (dO r p d slot rights).1.ao,ag.ls z.2.1 (dO r p d slot rights).1.Things,ag.ls z.2.2.1 (dO r p d slot rights).1.Held,ag.ls z.2.2.2 (dO r p d slot rights).1.Notes]):=by
 have eJ:=H.cq 0 rfl
 have dN:=H.cq 1 rfl
 have fH:=H.cq 2 rfl
 have eK:=H.cq 3 rfl
 have bw:=hk.wl;have bt:=hk.tl;have bh:=hk.hl;have bn:=hk.nl;have KV:=hk.w0;have KW:=hk.w1;have KX:=hk.t0;have KY:=hk.t1
 refine R.bD [(0,.agg #[bS,bK,bL,bM,iV r.ae,iV r.ah]),(1,.agg #[iV p.aA,iV p.Slot]),(2,.string d),(3,iV slot),(4,iV rights)] Tryz.func62 O O O O H<|R.reg O<|R.s O (s.box O O O) fun b1=>?_
 refine R.s O (s.box O O O) fun b2=>?_
 refine R.s O (s.alloc dI O O) fun b3=>?_
 refine R.u 1 O<|R.nil<|R.reg O<|R.q (q.dh 2 O O aj) O<|R.q (q.dh 1 O O bO) O<|R.c (q.call ED O O (fun w hw=>(xU _ _ _ _ r p 2 2 w (hw.bG 0 O) (hw.bG 1 O) (hw.bG 2 O) (hw.bG 3 O) ‹_› (by omega)))) O<|R.u 4 O<|?_
 refine R.s O (s.alloc bQ O O) fun b4=>?_
 refine R.s O (s.st 0 _ O O O O (.inl aM) O O O O) fun _=>?_
 refine R.u 2 O<|R.nil<|R.reg O<|R.u 1 O<|?_
 by_cases h1:(cD r p 2 2).2.2=0
 .
  have mz:=qZ h1;have mr:=hk.get mz.1;rw [<- mz.2.1] at mr
  refine R.q (q.dx O O Tryz.underlying38) O<|R.nil<|R.aB O O<|R.reg O<|R.u 1 O<|R.q (q.iA O Tryz.underlying9) O<|?_
  by_cases h2:8<d.size
  .
   refine R.q (q.eL O O) O<|R.nil<|R.av O O<|R.reg O<|R.q (q.build ea O O) O<|R.q (q.iface O bm) O<|R.s O (s.st 1 _ O O O O (.inl aj) O O O O) fun _=>?_
   refine R.u 1 O<|R.nil<|R.mp (fun _ hw=>hw.a8 (α:=ak))<|R.mp (fun _ hw=>hw.a8 (α:=aE))<|R.mp (fun _ hw=>hw.a8 (α:=Held))<|R.mp (fun _ hw=>hw.a8 (α:=Note)) ?_
   have hz:dO r p d slot rights=((⟨[],[],[],[],0,0⟩:aC),2):=by (unfold dO;(repeat' split) <;> rfl)
   rw [hz]
   exact R.w2 ((nS),(nS),(nS),(nS)) [4] gj O Tryz.results62 (RV.cell 1 O O aj) (RV.tmp O) O O O (dA O (dr (by decide) O))
  refine R.q (q.eo O O) O<|R.nil<|R.aB O O<|R.reg O<|R.u 1 O<|R.nil<|R.reg O<|R.q (q.aO O cC O) O<|R.q (q.ld 3 O O dv O) O<|R.q (q.len' (dy 3 O) O Tryz.underlying46) O<|R.u 1 O<|R.nil<|R.loop (fun g_:Nat×Nat=>[(2,.string d),(3,iV slot),(4,iV rights),(5,.pointer (some ⟨b1,0,none⟩)),(6,.pointer (some ⟨b2,0,none⟩)),(10,.pointer (some ⟨b3,0,none⟩)),(12,.pointer (some ⟨b4,0,none⟩)),(15,iV (g_.2:Int)),(39,bM),(40,iV (r.Notes.length:Int)),(41,iV (g_.1:Int))]) (fun g_=>[ag.box b4 [iV (cD r p 2 2).1.ID,iV (cD r p 2 2).1.aE,iV (cD r p 2 2).1.Rights,iV (cD r p 2 2).1.aQ,iV (cD r p 2 2).1.From] 127,ag.box b3 G8 48,ag.box b2 (jO p) 32,ag.box b1 [bS,bK,bL,bM,iV r.ae,iV r.ah] 48,ag.held w own]) (fun g_=>[ag.ls bS r.ao,ag.ls bK r.Things,ag.ls bL r.Held,ag.ls bM r.Notes]) (fun g_=>g_.1<=r.Notes.length/\g_.2=gh (r.Notes.take g_.1) (cD r p 2 2).1.aE) (fun g_=>r.Notes.length-g_.1) (0,0) O (by exact ⟨by omega,by simp [gh]⟩) (sF O) (ic gX bJ O) ?_
  rintro ⟨k,c⟩ ⟨hk1,HC⟩
  dsimp only at *
  have hc1:c<=k:=by rw [HC];exact MX
  refine R.reg O<|?_
  by_cases h3:k<r.Notes.length
  .
   refine R.q (q.dz O O) O<|R.nil<|R.av O O<|R.reg O<|?_
   obtain ⟨x1,hx1⟩:∃z,r.Notes[k]? = some z:=⟨_,List.getElem?_eq_getElem (by omega)⟩
   refine R.q (q.idx (i:=k) (dy 3 O) O O fw O hx1) O<|R.q (q.eS (ds:=ox x1) (dy 3 O) hx1 O dj O) O<|R.s O (s.alloc eU O O) fun b5=>?_
   refine R.s O (s.st 0 _ O O O O (.inl dj) O O O O) fun _=>?_
   refine R.nil<|R.reg O<|R.q (q.aO O qG O) O<|R.q (q.ld 0 O O au O) O<|R.q (q.aO O fU O) O<|R.q (q.ld 1 O O au O) O<|?_
   by_cases h4:x1.Port=(cD r p 2 2).1.aE
   .
    refine R.q (q.fI O O) O<|R.nil<|R.av O O<|R.reg O<|R.u 1 O<|R.q (q.bB (r:=((c+1:Nat):Int)) O O) O<|R.u 1 O<|R.nil<|R.reg O<|R.q (q.bB (r:=((k+1:Nat):Int)) O O) O<|R.u 1 O<|R.nil<|R.back ((k+1),(c+1)) O (by (exact ⟨by omega,by rw [KR hx1 ‹_›,HC]⟩)) (by dsimp only;omega) (sF O) (aD uC bJ O)
   refine R.q (q.e9 O O) O<|R.nil<|R.aB O O<|R.reg O<|R.q (q.bB (r:=((k+1:Nat):Int)) O O) O<|R.u 1 O<|R.nil<|R.back ((k+1),c) O (by (exact ⟨by omega,by rw [H9 hx1 ‹_›,HC]⟩)) (by dsimp only;omega) (sF O) (aD uC bJ O)
  refine R.q (q.cW O O) O<|R.nil<|R.aB O O<|R.reg O<|R.u 1 O<|?_
  by_cases h5:c=3
  .
   refine R.q (q.fI O O) O<|R.nil<|R.av O O<|R.reg O<|R.q (q.build ea O O) O<|R.q (q.iface O bm) O<|R.s O (s.st 1 _ O O O O (.inl aj) O O O O) fun _=>?_
   refine R.u 1 O<|R.nil<|R.mp (fun _ hw=>hw.a8 (α:=ak))<|R.mp (fun _ hw=>hw.a8 (α:=aE))<|R.mp (fun _ hw=>hw.a8 (α:=Held))<|R.mp (fun _ hw=>hw.a8 (α:=Note)) ?_
   have hz:dO r p d slot rights=((⟨[],[],[],[],0,0⟩:aC),9):=by (rw [List.take_of_length_le (by omega)] at HC;subst HC;unfold dO;(repeat' split) <;> rfl)
   rw [hz]
   exact R.w2 ((nS),(nS),(nS),(nS)) [4] gj O Tryz.results62 (RV.cell 1 O O aj) (RV.tmp O) O O O (dA O (dr (by decide) O))
  refine R.q (q.e9 O O) O<|R.nil<|R.aB O O<|R.reg O<|R.q (q.aO O fU O) O<|R.q (q.ld 0 O O au O) O<|R.u 1 O<|R.q (q.aO O iZ O) O<|R.q (q.ld 0 O O au O) O<|R.q (q.build F6 O O) O<|R.s O (s.alloc eU O O) fun b6=>?_
  refine R.s O (s.st 0 _ O O O O (.inl dj) O O O O) fun _=>?_
  refine R.nil<|R.reg O<|R.u 1 O<|?_
  by_cases h6:slot<0
  .
   refine R.q (q.I0 O O) O<|R.nil<|R.aB O O<|R.fP (fuel:=8) nD O O mixed O<|D.q (i:=0) O (aD nD bJ O) O (q.aO O cC O) O<|D.q (i:=3) O (aD nD bJ O) O (q.dh 0 O O dj) O<|D.two (i:=1) (j:=4) O O ?_ ?_
   .
    refine Do.s (s.c (Qt.a (q.ld 4 O O dv O)) O) (fun _=>(aD nD bJ O)) O fun _=>?_
    refine D.two (i:=2) (j:=4) O O ?_ ?_
    .
     refine Do.s (s.aW rz [3] _ _ _ O O O oH O O (fun w own hw H=>ff bM r.Notes w own H (by omega)) O) (fun _=>(aD sJ bJ O)) O fun z2=>?_
     refine D.one (i:=4) O<|Do.s (s.bs (l:=([(⟨((cD r p 2 2).1).aE,d,(cD r p 2 2).1.aQ,0⟩:Note)]:List Note)) fw eU O O O O O O O) (fun _=>(aD pj bJ O)) O fun b7=>?_
     refine D.one (i:=5) O<|Do.s (s.app 1 _ O O O (bC 0 O) ki (by (simp;omega)) (by (simp;omega)) (fun _=>rfl) O) (fun _=>(aD pj bJ O)) O fun v1=>?_
     refine D.q (i:=6) O (aD pj bJ O) O (q.aO O cC O) O<|D.one (i:=7) O<|Do.s (s.fS 6 _ O O O (fun w hw=>Sl.cm (hw.row 1 O)) (.inr ⟨dv,rfl⟩) (fun w hw=>(af (Sl.one (hw.row 1 O)) aP)) O O O) (fun _=>(aD pj bJ O)) O fun _=>?_
     refine D.done<|R.reg O<|R.q (q.dh 6 O O aj) O<|R.s O (s.fS 4 _ O O O (fun _ _=>rfl) (.inl aj) (fun w hw=>(af (Sl.one (hw.bG 0 O)) (af (Sl.one (hw.bG 1 O)) (af (Sl.one (hw.bG 2 O)) (af (Sl.one (hw.row 1 O)) (af O (af O aP))))))) O O O) fun _=>?_
     refine R.u 1 O<|R.nil<|R.mp (fun _ hw=>hw.cX 1 _ O O) ?_
     have hz:dO r p d slot rights=((⟨r.ao,r.Things,r.Held,(r.Notes++([(⟨((cD r p 2 2).1).aE,d,(cD r p 2 2).1.aQ,0⟩:Note)])),r.ae,r.ah⟩:aC),0):=by (rw [List.take_of_length_le (by omega)] at HC;subst HC;unfold dO;(repeat' split) <;> rfl)
     rw [hz]
     exact R.w2 (bS,bK,bL,v1) [6] vS O Tryz.results62 (RV.cell 3 O O aj) (RV.tmp O) O O O (dA O (iK O))
    refine Do.s (s.bs (l:=([(⟨((cD r p 2 2).1).aE,d,(cD r p 2 2).1.aQ,0⟩:Note)]:List Note)) fw eU O O O O O O O) (fun _=>(aD sJ bJ O)) O fun b8=>?_
    refine D.one (i:=2) O<|Do.s (s.aW mK [3] _ _ _ O O O oH O O (fun w own hw H=>ff bM r.Notes w own H (by omega)) O) (fun _=>(aD pj bJ O)) O fun z3=>?_
    refine D.one (i:=5) O<|Do.s (s.app 0 _ O O O (bC 1 O) ki (by (simp;omega)) (by (simp;omega)) (fun _=>rfl) O) (fun _=>(aD pj bJ O)) O fun v2=>?_
    refine D.q (i:=6) O (aD pj bJ O) O (q.aO O cC O) O<|D.one (i:=7) O<|Do.s (s.fS 6 _ O O O (fun w hw=>Sl.cm (hw.row 0 O)) (.inr ⟨dv,rfl⟩) (fun w hw=>(af (Sl.one (hw.row 0 O)) aP)) O O O) (fun _=>(aD pj bJ O)) O fun _=>?_
    refine D.done<|R.reg O<|R.q (q.dh 6 O O aj) O<|R.s O (s.fS 4 _ O O O (fun _ _=>rfl) (.inl aj) (fun w hw=>(af (Sl.one (hw.bG 0 O)) (af (Sl.one (hw.bG 1 O)) (af (Sl.one (hw.bG 2 O)) (af (Sl.one (hw.row 0 O)) (af O (af O aP))))))) O O O) fun _=>?_
    refine R.u 1 O<|R.nil<|R.mp (fun _ hw=>hw.cX 0 _ O O) ?_
    have hz:dO r p d slot rights=((⟨r.ao,r.Things,r.Held,(r.Notes++([(⟨((cD r p 2 2).1).aE,d,(cD r p 2 2).1.aQ,0⟩:Note)])),r.ae,r.ah⟩:aC),0):=by (rw [List.take_of_length_le (by omega)] at HC;subst HC;unfold dO;(repeat' split) <;> rfl)
    rw [hz]
    exact R.w2 (bS,bK,bL,v2) [6] vS O Tryz.results62 (RV.cell 3 O O aj) (RV.tmp O) O O O (dA O (iK O))
   refine Do.s (s.bs (l:=([(⟨((cD r p 2 2).1).aE,d,(cD r p 2 2).1.aQ,0⟩:Note)]:List Note)) fw eU O O O O O O O) (fun _=>(aD sJ bJ O)) O fun b9=>?_
   refine D.one (i:=1) O<|Do.s (s.c (Qt.a (q.ld 5 O O dv O)) O) (fun _=>(aD sJ bJ O)) O fun _=>?_
   refine D.one (i:=2) O<|Do.s (s.aW mK [3] _ _ _ O O O oH O O (fun w own hw H=>ff bM r.Notes w own H (by omega)) O) (fun _=>(aD pj bJ O)) O fun z4=>?_
   refine D.one (i:=5) O<|Do.s (s.app 0 _ O O O (bC 1 O) ki (by (simp;omega)) (by (simp;omega)) (fun _=>rfl) O) (fun _=>(aD pj bJ O)) O fun v3=>?_
   refine D.q (i:=6) O (aD pj bJ O) O (q.aO O cC O) O<|D.one (i:=7) O<|Do.s (s.fS 6 _ O O O (fun w hw=>Sl.cm (hw.row 0 O)) (.inr ⟨dv,rfl⟩) (fun w hw=>(af (Sl.one (hw.row 0 O)) aP)) O O O) (fun _=>(aD pj bJ O)) O fun _=>?_
   refine D.done<|R.reg O<|R.q (q.dh 6 O O aj) O<|R.s O (s.fS 4 _ O O O (fun _ _=>rfl) (.inl aj) (fun w hw=>(af (Sl.one (hw.bG 0 O)) (af (Sl.one (hw.bG 1 O)) (af (Sl.one (hw.bG 2 O)) (af (Sl.one (hw.row 0 O)) (af O (af O aP))))))) O O O) fun _=>?_
   refine R.u 1 O<|R.nil<|R.mp (fun _ hw=>hw.cX 0 _ O O) ?_
   have hz:dO r p d slot rights=((⟨r.ao,r.Things,r.Held,(r.Notes++([(⟨((cD r p 2 2).1).aE,d,(cD r p 2 2).1.aQ,0⟩:Note)])),r.ae,r.ah⟩:aC),0):=by (rw [List.take_of_length_le (by omega)] at HC;subst HC;unfold dO;(repeat' split) <;> rfl)
   rw [hz]
   exact R.w2 (bS,bK,bL,v3) [6] vS O Tryz.results62 (RV.cell 3 O O aj) (RV.tmp O) O O O (dA O (iK O))
  refine R.q (q.Hb O O) O<|R.nil<|R.av O O<|R.reg O<|R.q (q.aO O jT O) O<|R.q (q.ld 1 O O au O) O<|?_
  rcases Bool.eq_false_or_eq_true (ji (cD r p 2 2).1.Rights 4) with h7|h7
  .
   refine R.c (q.call pY O O (fun w hw=>(cv (congrArg Value.bool h7) (gJ (cD r p 2 2).1.Rights 4 w (by omega) (by omega))))) O<|R.u 1 O<|R.nil ?_
   refine R.aB O O<|R.reg O<|R.q (q.dh 4 O O aj) O<|R.q (q.aO O ft O) O<|R.q (q.ld 3 O O au O) O<|R.u 1 O<|R.q (q.build wA O O) O<|R.c (q.call tQ O O (fun w hw=>(ra _ _ _ _ r (⟨p.aA,slot⟩:Place) w (hw.bG 0 O) (hw.bG 1 O) (hw.bG 2 O) (hw.bG 3 O) ‹_›))) O<|R.u 3 O<|?_
   refine R.s O (s.alloc bQ O O) fun b10=>?_
   refine R.s O (s.st 0 _ O O O O (.inl aM) O O O O) fun _=>?_
   refine R.u 1 O<|R.nil<|R.reg O<|R.u 1 O<|?_
   by_cases h8:(aS r (⟨p.aA,slot⟩:Place)).2=0
   .
    have Wv:=hk.get h8
    have hn0:∀x,(fy r x ⟨0,0⟩).Notes.length<=2000:=fun x=>hk.nl
    have hnz:=hn0 (derived (aS r ⟨p.aA,slot⟩).1 r.ae rights 0).1
    refine R.q (q.dx O O Tryz.underlying38) O<|R.nil<|R.aB O O<|R.reg O<|R.q (q.aO O cL O) O<|R.q (q.ld 5 O O au O) O<|?_
    by_cases h9:999<r.ae
    .
     refine R.q (q.eL O O) O<|R.nil<|R.av O O<|R.reg O<|R.q (q.build ea O O) O<|R.q (q.iface O bm) O<|R.s O (s.st 3 _ O O O O (.inl aj) O O O O) fun _=>?_
     refine R.u 1 O<|R.nil<|R.mp (fun _ hw=>hw.a8 (α:=ak))<|R.mp (fun _ hw=>hw.a8 (α:=aE))<|R.mp (fun _ hw=>hw.a8 (α:=Held))<|R.mp (fun _ hw=>hw.a8 (α:=Note)) ?_
     have hz:dO r p d slot rights=((⟨[],[],[],[],0,0⟩:aC),9):=by (rw [List.take_of_length_le (by omega)] at HC;subst HC;unfold dO;(repeat' split) <;> rfl)
     rw [hz]
     exact R.w2 ((nS),(nS),(nS),(nS)) [6] gj O Tryz.results62 (RV.cell 3 O O aj) (RV.tmp O) O O O (dA O (dr (by decide) O))
    refine R.q (q.eo O O) O<|R.nil<|R.aB O O<|R.reg O<|R.q (q.dh 0 O O aM) O<|R.q (q.aO O cL O) O<|R.q (q.ld 5 O O au O) O<|R.u 1 O<|R.c (q.call wG O O (fun w hw=>(mF (aS r (⟨p.aA,slot⟩:Place)).1 r.ae rights 0 w (by omega)))) O<|R.u 3 O<|?_
    refine R.s O (s.alloc bQ O O) fun b11=>?_
    refine R.s O (s.st 0 _ O O O O (.inl aM) O O O O) fun _=>?_
    refine R.u 1 O<|R.nil<|R.reg O<|R.u 1 O<|?_
    by_cases h10:(derived (aS r (⟨p.aA,slot⟩:Place)).1 r.ae rights 0).2=0
    .
     refine R.q (q.dx O O Tryz.underlying38) O<|R.nil<|R.aB O O<|R.reg O<|R.q (q.dh 6 O O aj) O<|R.q (q.dh 0 O O aM) O<|R.q (q.build wA O O) O<|R.s O (s.aW fh bJ _ _ _ O O O wF O O (fun w own hw H=>qx bS bK bL bM r (derived (aS r (⟨p.aA,slot⟩:Place)).1 r.ae rights 0).1 (⟨0,0⟩:Place) w own H (by omega)) O) ?_
     rintro ⟨z5,z6,z7,z8⟩
     dsimp only
     refine R.s O (s.fS 6 _ O O O (fun _ _=>rfl) (.inl aj) (fun w hw=>(af (Sl.one (hw.bG 0 O)) (af (Sl.one (hw.bG 1 O)) (af (Sl.one (hw.bG 2 O)) (af (Sl.one (hw.bG 3 O)) (af O (af O aP))))))) O O O) fun _=>?_
     refine R.nil<|R.reg O<|R.q (q.aO O bV O) O<|R.q (q.ld 0 O O au O) O<|R.q (q.aO O iG O) O<|R.s O (s.st 2 _ O O O O (.inr ⟨au,rfl⟩) O O O O) fun _=>?_
     refine R.nil<|R.fP (fuel:=8) Cl O O mixed O<|D.q (i:=0) O (aD Cl fh O) O (q.aO O cC O) O<|D.q (i:=3) O (aD Cl fh O) O (q.dh 2 O O dj) O<|D.two (i:=1) (j:=4) O O ?_ ?_
     .
      refine Do.s (s.c (Qt.a (q.ld 6 O O dv O)) O) (fun _=>(aD Cl fh O)) O fun _=>?_
      refine D.two (i:=2) (j:=4) O O ?_ ?_
      .
       refine Do.s (s.aW fh [3] _ _ _ O O O oH O O (fun w own hw H=>ff z8 (fy r (derived (aS r (⟨p.aA,slot⟩:Place)).1 r.ae rights 0).1 (⟨0,0⟩:Place)).Notes w own H (by omega)) O) (fun _=>(aD [1,2,3,4,5,6,8] fh O)) O fun kY=>?_
       refine D.one (i:=4) O<|Do.s (s.bs (l:=([(⟨((cD r p 2 2).1).aE,d,(cD r p 2 2).1.aQ,(derived (aS r (⟨p.aA,slot⟩:Place)).1 r.ae rights 0).1.ID⟩:Note)]:List Note)) fw eU O O O O O O O) (fun _=>(aD pn fh O)) O fun b12=>?_
       refine D.one (i:=5) O<|Do.s (s.app 1 _ O O O (bC 0 O) ki (by (simp;omega)) (by (simp;omega)) (fun _=>rfl) O) (fun _=>(aD pn fh O)) O fun v4=>?_
       refine D.q (i:=6) O (aD pn fh O) O (q.aO O cC O) O<|D.one (i:=7) O<|Do.s (s.fS 8 _ O O O (fun w hw=>Sl.cm (hw.row 1 O)) (.inr ⟨dv,rfl⟩) (fun w hw=>(af (Sl.one (hw.row 1 O)) aP)) O O O) (fun _=>(aD pn fh O)) O fun _=>?_
       refine D.done<|R.reg O<|R.q (q.dh 8 O O aj) O<|R.s O (s.fS 6 _ O O O (fun _ _=>rfl) (.inl aj) (fun w hw=>(af (Sl.one (hw.bG 0 O)) (af (Sl.one (hw.bG 1 O)) (af (Sl.one (hw.bG 2 O)) (af (Sl.one (hw.row 1 O)) (af O (af O aP))))))) O O O) fun _=>?_
       refine R.u 1 O<|R.nil<|R.mp (fun _ hw=>hw.cX 1 _ O O) ?_
       have hz:dO r p d slot rights=((⟨(fy r (derived (aS r (⟨p.aA,slot⟩:Place)).1 r.ae rights 0).1 (⟨0,0⟩:Place)).ao,(fy r (derived (aS r (⟨p.aA,slot⟩:Place)).1 r.ae rights 0).1 (⟨0,0⟩:Place)).Things,(fy r (derived (aS r (⟨p.aA,slot⟩:Place)).1 r.ae rights 0).1 (⟨0,0⟩:Place)).Held,(((fy r (derived (aS r (⟨p.aA,slot⟩:Place)).1 r.ae rights 0).1 (⟨0,0⟩:Place)).Notes)++([(⟨((cD r p 2 2).1).aE,d,(cD r p 2 2).1.aQ,(derived (aS r (⟨p.aA,slot⟩:Place)).1 r.ae rights 0).1.ID⟩:Note)])),(fy r (derived (aS r (⟨p.aA,slot⟩:Place)).1 r.ae rights 0).1 (⟨0,0⟩:Place)).ae,(fy r (derived (aS r (⟨p.aA,slot⟩:Place)).1 r.ae rights 0).1 (⟨0,0⟩:Place)).ah⟩:aC),0):=by (rw [List.take_of_length_le (by omega)] at HC;subst HC;unfold dO;(repeat' split) <;> rfl)
       rw [hz]
       exact R.w2 (z5,z6,z7,v4) [8] vS O Tryz.results62 (RV.cell 5 O O aj) (RV.tmp O) O O O (dA O (iK O))
      refine Do.s (s.bs (l:=([(⟨((cD r p 2 2).1).aE,d,(cD r p 2 2).1.aQ,(derived (aS r (⟨p.aA,slot⟩:Place)).1 r.ae rights 0).1.ID⟩:Note)]:List Note)) fw eU O O O O O O O) (fun _=>(aD [1,2,3,4,5,6,8] fh O)) O fun b13=>?_
      refine D.one (i:=2) O<|Do.s (s.aW bZ [3] _ _ _ O O O oH O O (fun w own hw H=>ff z8 (fy r (derived (aS r (⟨p.aA,slot⟩:Place)).1 r.ae rights 0).1 (⟨0,0⟩:Place)).Notes w own H (by omega)) O) (fun _=>(aD pn fh O)) O fun lZ=>?_
      refine D.one (i:=5) O<|Do.s (s.app 0 _ O O O (bC 1 O) ki (by (simp;omega)) (by (simp;omega)) (fun _=>rfl) O) (fun _=>(aD pn fh O)) O fun v5=>?_
      refine D.q (i:=6) O (aD pn fh O) O (q.aO O cC O) O<|D.one (i:=7) O<|Do.s (s.fS 8 _ O O O (fun w hw=>Sl.cm (hw.row 0 O)) (.inr ⟨dv,rfl⟩) (fun w hw=>(af (Sl.one (hw.row 0 O)) aP)) O O O) (fun _=>(aD pn fh O)) O fun _=>?_
      refine D.done<|R.reg O<|R.q (q.dh 8 O O aj) O<|R.s O (s.fS 6 _ O O O (fun _ _=>rfl) (.inl aj) (fun w hw=>(af (Sl.one (hw.bG 0 O)) (af (Sl.one (hw.bG 1 O)) (af (Sl.one (hw.bG 2 O)) (af (Sl.one (hw.row 0 O)) (af O (af O aP))))))) O O O) fun _=>?_
      refine R.u 1 O<|R.nil<|R.mp (fun _ hw=>hw.cX 0 _ O O) ?_
      have hz:dO r p d slot rights=((⟨(fy r (derived (aS r (⟨p.aA,slot⟩:Place)).1 r.ae rights 0).1 (⟨0,0⟩:Place)).ao,(fy r (derived (aS r (⟨p.aA,slot⟩:Place)).1 r.ae rights 0).1 (⟨0,0⟩:Place)).Things,(fy r (derived (aS r (⟨p.aA,slot⟩:Place)).1 r.ae rights 0).1 (⟨0,0⟩:Place)).Held,(((fy r (derived (aS r (⟨p.aA,slot⟩:Place)).1 r.ae rights 0).1 (⟨0,0⟩:Place)).Notes)++([(⟨((cD r p 2 2).1).aE,d,(cD r p 2 2).1.aQ,(derived (aS r (⟨p.aA,slot⟩:Place)).1 r.ae rights 0).1.ID⟩:Note)])),(fy r (derived (aS r (⟨p.aA,slot⟩:Place)).1 r.ae rights 0).1 (⟨0,0⟩:Place)).ae,(fy r (derived (aS r (⟨p.aA,slot⟩:Place)).1 r.ae rights 0).1 (⟨0,0⟩:Place)).ah⟩:aC),0):=by (rw [List.take_of_length_le (by omega)] at HC;subst HC;unfold dO;(repeat' split) <;> rfl)
      rw [hz]
      exact R.w2 (z5,z6,z7,v5) [8] vS O Tryz.results62 (RV.cell 5 O O aj) (RV.tmp O) O O O (dA O (iK O))
     refine Do.s (s.bs (l:=([(⟨((cD r p 2 2).1).aE,d,(cD r p 2 2).1.aQ,(derived (aS r (⟨p.aA,slot⟩:Place)).1 r.ae rights 0).1.ID⟩:Note)]:List Note)) fw eU O O O O O O O) (fun _=>(aD [1,2,3,4,5,6,8] fh O)) O fun b14=>?_
     refine D.one (i:=1) O<|Do.s (s.c (Qt.a (q.ld 7 O O dv O)) O) (fun _=>(aD [1,2,3,4,5,6,8] fh O)) O fun _=>?_
     refine D.one (i:=2) O<|Do.s (s.aW bZ [3] _ _ _ O O O oH O O (fun w own hw H=>ff z8 (fy r (derived (aS r (⟨p.aA,slot⟩:Place)).1 r.ae rights 0).1 (⟨0,0⟩:Place)).Notes w own H (by omega)) O) (fun _=>(aD pn fh O)) O fun z12=>?_
     refine D.one (i:=5) O<|Do.s (s.app 0 _ O O O (bC 1 O) ki (by (simp;omega)) (by (simp;omega)) (fun _=>rfl) O) (fun _=>(aD pn fh O)) O fun v6=>?_
     refine D.q (i:=6) O (aD pn fh O) O (q.aO O cC O) O<|D.one (i:=7) O<|Do.s (s.fS 8 _ O O O (fun w hw=>Sl.cm (hw.row 0 O)) (.inr ⟨dv,rfl⟩) (fun w hw=>(af (Sl.one (hw.row 0 O)) aP)) O O O) (fun _=>(aD pn fh O)) O fun _=>?_
     refine D.done<|R.reg O<|R.q (q.dh 8 O O aj) O<|R.s O (s.fS 6 _ O O O (fun _ _=>rfl) (.inl aj) (fun w hw=>(af (Sl.one (hw.bG 0 O)) (af (Sl.one (hw.bG 1 O)) (af (Sl.one (hw.bG 2 O)) (af (Sl.one (hw.row 0 O)) (af O (af O aP))))))) O O O) fun _=>?_
     refine R.u 1 O<|R.nil<|R.mp (fun _ hw=>hw.cX 0 _ O O) ?_
     have hz:dO r p d slot rights=((⟨(fy r (derived (aS r (⟨p.aA,slot⟩:Place)).1 r.ae rights 0).1 (⟨0,0⟩:Place)).ao,(fy r (derived (aS r (⟨p.aA,slot⟩:Place)).1 r.ae rights 0).1 (⟨0,0⟩:Place)).Things,(fy r (derived (aS r (⟨p.aA,slot⟩:Place)).1 r.ae rights 0).1 (⟨0,0⟩:Place)).Held,(((fy r (derived (aS r (⟨p.aA,slot⟩:Place)).1 r.ae rights 0).1 (⟨0,0⟩:Place)).Notes)++([(⟨((cD r p 2 2).1).aE,d,(cD r p 2 2).1.aQ,(derived (aS r (⟨p.aA,slot⟩:Place)).1 r.ae rights 0).1.ID⟩:Note)])),(fy r (derived (aS r (⟨p.aA,slot⟩:Place)).1 r.ae rights 0).1 (⟨0,0⟩:Place)).ae,(fy r (derived (aS r (⟨p.aA,slot⟩:Place)).1 r.ae rights 0).1 (⟨0,0⟩:Place)).ah⟩:aC),0):=by (rw [List.take_of_length_le (by omega)] at HC;subst HC;unfold dO;(repeat' split) <;> rfl)
     rw [hz]
     exact R.w2 (z5,z6,z7,v6) [8] vS O Tryz.results62 (RV.cell 5 O O aj) (RV.tmp O) O O O (dA O (iK O))
    refine R.q (q.d9 O O Tryz.underlying38) O<|R.nil<|R.av O O<|R.reg O<|R.q (q.build ea O O) O<|R.u 1 O<|R.s O (s.st 4 _ O O O O (.inl aj) O O O O) fun _=>?_
    refine R.u 1 O<|R.nil<|R.mp (fun _ hw=>hw.a8 (α:=ak))<|R.mp (fun _ hw=>hw.a8 (α:=aE))<|R.mp (fun _ hw=>hw.a8 (α:=Held))<|R.mp (fun _ hw=>hw.a8 (α:=Note)) ?_
    have hz:dO r p d slot rights=((⟨[],[],[],[],0,0⟩:aC),(derived (aS r (⟨p.aA,slot⟩:Place)).1 r.ae rights 0).2):=by (rw [List.take_of_length_le (by omega)] at HC;subst HC;unfold dO;(repeat' split) <;> rfl)
    rw [hz]
    exact R.w2 ((nS),(nS),(nS),(nS)) [7] gj O Tryz.results62 (RV.cell 4 O O aj) (RV.tmp O) O O O (dA O O)
   refine R.q (q.d9 O O Tryz.underlying38) O<|R.nil<|R.av O O<|R.reg O<|R.q (q.build ea O O) O<|R.u 1 O<|R.s O (s.st 3 _ O O O O (.inl aj) O O O O) fun _=>?_
   refine R.u 1 O<|R.nil<|R.mp (fun _ hw=>hw.a8 (α:=ak))<|R.mp (fun _ hw=>hw.a8 (α:=aE))<|R.mp (fun _ hw=>hw.a8 (α:=Held))<|R.mp (fun _ hw=>hw.a8 (α:=Note)) ?_
   have hz:dO r p d slot rights=((⟨[],[],[],[],0,0⟩:aC),(aS r (⟨p.aA,slot⟩:Place)).2):=by (rw [List.take_of_length_le (by omega)] at HC;subst HC;unfold dO;(repeat' split) <;> rfl)
   rw [hz]
   exact R.w2 ((nS),(nS),(nS),(nS)) [6] gj O Tryz.results62 (RV.cell 3 O O aj) (RV.tmp O) O O O (dA O O)
  refine R.c (q.call pY O O (fun w hw=>(cv (congrArg Value.bool h7) (gJ (cD r p 2 2).1.Rights 4 w (by omega) (by omega))))) O<|R.u 1 O<|R.nil ?_
  refine R.av O O<|R.reg O<|R.q (q.build ea O O) O<|R.q (q.iface O bm) O<|R.s O (s.st 2 _ O O O O (.inl aj) O O O O) fun _=>?_
  refine R.u 1 O<|R.nil<|R.mp (fun _ hw=>hw.a8 (α:=ak))<|R.mp (fun _ hw=>hw.a8 (α:=aE))<|R.mp (fun _ hw=>hw.a8 (α:=Held))<|R.mp (fun _ hw=>hw.a8 (α:=Note)) ?_
  have hz:dO r p d slot rights=((⟨[],[],[],[],0,0⟩:aC),7):=by (rw [List.take_of_length_le (by omega)] at HC;subst HC;unfold dO;(repeat' split) <;> first|rfl|(exfalso;omega)|(simp_all;done))
  rw [hz]
  exact R.w2 ((nS),(nS),(nS),(nS)) [5] gj O Tryz.results62 (RV.cell 2 O O aj) (RV.tmp O) O O O (dA O (dr (by decide) O))
 refine R.q (q.d9 O O Tryz.underlying38) O<|R.nil<|R.av O O<|R.reg O<|R.q (q.build ea O O) O<|R.u 1 O<|R.s O (s.st 1 _ O O O O (.inl aj) O O O O) fun _=>?_
 refine R.u 1 O<|R.nil<|R.mp (fun _ hw=>hw.a8 (α:=ak))<|R.mp (fun _ hw=>hw.a8 (α:=aE))<|R.mp (fun _ hw=>hw.a8 (α:=Held))<|R.mp (fun _ hw=>hw.a8 (α:=Note)) ?_
 have hz:dO r p d slot rights=((⟨[],[],[],[],0,0⟩:aC),(cD r p 2 2).2.2):=by (unfold dO;(repeat' split) <;> first|rfl|(exfalso;omega)|(simp_all;done))
 rw [hz]
 exact R.w2 ((nS),(nS),(nS),(nS)) [4] gj O Tryz.results62 (RV.cell 1 O O aj) (RV.tmp O) O O O (dA O O)
theorem Ih (bS bK bL bM:Value)(r:aC)(p:Place)(w:World)(own:List Nat)(H:HN w own [] [ag.ls bS r.ao,ag.ls bK r.Things,ag.ls bL r.Held,ag.ls bM r.Notes])(hk:Ok r):RC Tryz.prog 63 #[.agg #[bS,bK,bL,bM,iV r.ae,iV r.ah],.agg #[iV p.aA,iV p.Slot]] H (fun z:Value×Value×Value×Value => .tuple #[.agg #[z.1,z.2.1,z.2.2.1,z.2.2.2,iV (eB r p).1.ae,iV (eB r p).1.ah],.agg #[iV (eB r p).2.1.Port,.string (eB r p).2.1.Data,iV (eB r p).2.1.aQ,iV (eB r p).2.1.ak],iV (eB r p).2.2.1,da (eB r p).2.2.2]) (fun _=>[]) (fun z=>[ag.ls z.1 (eB r p).1.ao,ag.ls z.2.1 (eB r p).1.Things,ag.ls z.2.2.1 (eB r p).1.Held,ag.ls z.2.2.2 (eB r p).1.Notes]):=by
 have eJ:=H.cq 0 rfl
 have dN:=H.cq 1 rfl
 have fH:=H.cq 2 rfl
 have eK:=H.cq 3 rfl
 have bw:=hk.wl;have bt:=hk.tl;have bh:=hk.hl;have bn:=hk.nl;have KV:=hk.w0;have KW:=hk.w1;have KX:=hk.t0;have KY:=hk.t1
 refine R.bD [(0,.agg #[bS,bK,bL,bM,iV r.ae,iV r.ah]),(1,.agg #[iV p.aA,iV p.Slot])] Tryz.func63 O O O O H<|R.reg O<|R.s O (s.box O O O) fun b1=>?_
 refine R.s O (s.box O O O) fun b2=>?_
 refine R.s O (s.alloc dI O O) fun b3=>?_
 refine R.s O (s.alloc eU O O) fun b4=>?_
 refine R.u 2 O<|R.nil<|R.reg O<|R.q (q.dh 3 O O aj) O<|R.q (q.dh 2 O O bO) O<|R.c (q.call ED O O (fun w hw=>(xU _ _ _ _ r p 2 1 w (hw.bG 0 O) (hw.bG 1 O) (hw.bG 2 O) (hw.bG 3 O) ‹_› (by omega)))) O<|R.u 4 O<|?_
 refine R.s O (s.alloc bQ O O) fun b5=>?_
 refine R.s O (s.st 0 _ O O O O (.inl aM) O O O O) fun _=>?_
 refine R.u 2 O<|R.nil<|R.reg O<|R.u 1 O<|?_
 by_cases h1:(cD r p 2 1).2.2=0
 .
  refine R.q (q.dx O O Tryz.underlying38) O<|R.nil<|R.aB O O<|R.reg O<|R.q (q.aO O cC O) O<|R.q (q.ld 4 O O dv O) O<|R.q (q.L9 (cap:=[.pointer (some ⟨b5,0,none⟩)]) O O) O<|?_
  rcases j5 (fun (t:Note)=>t.Port==(cD r p 2 1).1.aE) r.Notes with ⟨gU,Eu⟩ | ⟨rF,Es,gU,lY,vo,AY,TP⟩
  .
   refine R.c (q.call Jr O O (fun w hw=>(cv (congrArg (Value.int .i64) gU) (ni _ r.Notes (fun (t:Note)=>t.Port==(cD r p 2 1).1.aE) _ _ Js w (hw.bG 3 O) (fun W t hW=>uT t (cD r p 2 1).1 _ W (sQ (hw.b 0 O) hW) ) )))) O<|R.u 1 O<|R.nil ?_
   refine R.reg O<|R.u 1 O<|R.q (q.lss (b:=true) O O (by decide)) O<|R.nil<|R.av O O<|R.reg O<|R.q (q.build ea O O) O<|R.q (q.build F6 O O) O<|R.q (q.iface O bm) O<|R.s O (s.st 2 _ O O O O (.inl aj) O O O O) fun _=>?_
   refine R.s O (s.st 1 _ O O O O (.inl dj) O O O O) fun _=>?_
   refine R.u 2 O<|R.nil<|R.mp (fun _ hw=>hw.a8 (α:=ak))<|R.mp (fun _ hw=>hw.a8 (α:=aE))<|R.mp (fun _ hw=>hw.a8 (α:=Held))<|R.mp (fun _ hw=>hw.a8 (α:=Note)) ?_
   have hz:eB r p=((⟨[],[],[],[],0,0⟩:aC),(⟨0,⟨#[]⟩,0,0⟩:Note),0,5):=by (unfold eB;(rw [if_pos ‹_›,gU,show decide ((0:Int) <= -1)=false from rfl];cases r.Notes[(-1:Int).toNat]? <;> rfl))
   rw [hz]
   exact R.w4 ((nS),(nS),(nS),(nS)) [5] gj O Tryz.results63 (RV.cell 2 O O aj) (RV.cell 1 O O dj) (RV.tmp O) (RV.tmp O) O O O (I3 O O O (dr (by decide) O))
  refine R.c (q.call Jr O O (fun w hw=>(cv (congrArg (Value.int .i64) gU) (ni _ r.Notes (fun (t:Note)=>t.Port==(cD r p 2 1).1.aE) _ _ Js w (hw.bG 3 O) (fun W t hW=>uT t (cD r p 2 1).1 _ W (sQ (hw.b 0 O) hW) ) )))) O<|R.u 1 O<|R.nil ?_
  refine R.reg O<|R.u 1 O<|R.q (q.cW O O) O<|R.nil<|R.aB O O<|R.reg O<|R.q (q.aO O cC O) O<|R.q (q.ld 4 O O dv O) O<|R.u 1 O<|R.q (q.idx (i:=rF) (dy 3 O) O O fw O lY) O<|R.q (q.eS (ds:=ox Es) (dy 3 O) lY O dj O) O<|R.s O (s.alloc eU O O) fun b6=>?_
  refine R.s O (s.st 0 _ O O O O (.inl dj) O O O O) fun _=>?_
  refine R.nil<|R.reg O<|R.u 1 O<|R.nil<|R.reg O<|R.q (q.aO O iG O) O<|R.q (q.ld 0 O O au O) O<|?_
  by_cases h2:0<Es.ak
  .
   refine R.q (q.eL O O) O<|R.nil<|R.av O O<|R.reg O<|R.q (q.aO O cB O) O<|R.q (q.ld 5 O O dE O) O<|R.q (q.aO O ft O) O<|R.q (q.ld 4 O O au O) O<|R.c (q.call Pk O O (fun w hw=>(JV _ r.Held p.aA w (hw.bG 2 O) (by omega)))) O<|R.u 1 O<|R.nil ?_
   refine R.reg O<|R.u 1 O<|?_
   by_cases h3:je r.Held p.aA<0
   .
    refine R.q (q.dz O O) O<|R.nil<|R.av O O<|R.reg O<|R.q (q.build ea O O) O<|R.q (q.build F6 O O) O<|R.q (q.iface O bm) O<|R.s O (s.st 3 _ O O O O (.inl aj) O O O O) fun _=>?_
    refine R.s O (s.st 2 _ O O O O (.inl dj) O O O O) fun _=>?_
    refine R.u 2 O<|R.nil<|R.mp (fun _ hw=>hw.a8 (α:=ak))<|R.mp (fun _ hw=>hw.a8 (α:=aE))<|R.mp (fun _ hw=>hw.a8 (α:=Held))<|R.mp (fun _ hw=>hw.a8 (α:=Note)) ?_
    have hz:eB r p=((⟨[],[],[],[],0,0⟩:aC),(⟨0,⟨#[]⟩,0,0⟩:Note),0,9):=by (unfold eB;(rw [if_pos ‹_›,gU,Int.toNat_natCast,lY,decide_eq_true (by omega)];dsimp only;(repeat' split) <;> rfl))
    rw [hz]
    exact R.w4 ((nS),(nS),(nS),(nS)) [6] gj O Tryz.results63 (RV.cell 3 O O aj) (RV.cell 2 O O dj) (RV.tmp O) (RV.tmp O) O O O (I3 O O O (dr (by decide) O))
   refine R.q (q.cW O O) O<|R.nil<|R.aB O O<|R.reg O<|R.q (q.aO O cB O) O<|R.q (q.ld 5 O O dE O) O<|R.q (q.aO O ft O) O<|R.q (q.ld 4 O O au O) O<|R.u 1 O<|R.q (q.build wA O O) O<|R.q (q.aO O iG O) O<|R.q (q.ld 0 O O au O) O<|R.s O (s.aW mK [2] _ _ _ O O O tT O O (fun w own hw H=>qM bL r.Held (⟨p.aA,je r.Held p.aA⟩:Place) Es.ak w own H (by omega)) O) fun z1=>?_
   refine R.q (q.aO O cB O) O<|R.s O (s.fS 6 _ O O O (fun w hw=>Sl.cm (hw.row 0 O)) (.inr ⟨dE,rfl⟩) (fun w hw=>(af (Sl.one (hw.row 0 O)) aP)) O O O) fun _=>?_
   refine R.nil<|R.reg O<|R.q (q.aO O cC O) O<|R.q (q.ld 6 O O dv O) O<|R.s O (s.aW fh [3] _ _ _ O O O oH O O (fun w own hw H=>ff bM r.Notes w own H (by omega)) O) fun z2=>?_
   refine R.u 2 O<|R.q (q.bB (r:=((rF+1:Nat):Int)) O O) O<|R.s O (s.aW bZ [] _ _ _ O O O Jt O O (fun w own hw H=>qw z2 r.Notes rF (rF+1) w own H (by omega)) O) fun z3=>?_
   refine R.q (q.aO O cC O) O<|R.s O (s.fS 7 _ O O O (fun w hw=>Sl.cm (hw.row 0 O)) (.inr ⟨dv,rfl⟩) (fun w hw=>(af (Sl.one (hw.row 0 O)) aP)) O O O) fun _=>?_
   refine R.nil<|R.fP (fuel:=7) uD O O mixed O<|D.q (i:=0) O (aD uD bJ O) O (q.dh 5 O O aj) O<|D.q (i:=1) O (aD uD bJ O) O (q.dh 2 O O dj) O<|D.q (i:=2) O (aD uD bJ O) O (q.mv O) O<|D.one (i:=3) O<|Do.s (s.fS 5 _ O O O (fun _ _=>rfl) (.inl aj) (fun w hw=>(af (Sl.one (hw.bG 0 O)) (af (Sl.one (hw.bG 1 O)) (af (Sl.one (hw.row 1 O)) (af (Sl.one (hw.row 0 O)) (af O (af O aP))))))) O O O) (fun _=>(aD uD bJ O)) O fun _=>?_
   refine D.one (i:=4) O<|Do.s (s.st 4 _ O O O O (.inl dj) O O O O) (fun _=>(aD uD bJ O)) O fun _=>?_
   refine D.q (i:=5) O (aD uD bJ O) O (q.as O) O<|D.q (i:=6) O (aD uD bJ O) O (q.as O) O<|D.done<|R.mp (fun _ hw=>hw.cX 1 _ O O)<|R.mp (fun _ hw=>hw.cX 0 _ O O) ?_
   have hz:eB r p=((⟨r.ao,r.Things,fR r.Held (⟨p.aA,je r.Held p.aA⟩:Place) Es.ak,r.Notes.take rF++r.Notes.drop (rF+1),r.ae,r.ah⟩:aC),Es,je r.Held p.aA,0):=by (unfold eB;(rw [if_pos ‹_›,gU,Int.toNat_natCast,lY,decide_eq_true (by omega)];dsimp only;(repeat' split) <;> rfl))
   rw [hz]
   exact R.w4 (bS,bK,z1,z3) [6] [2,3,1,0] O Tryz.results63 (RV.cell 3 O O aj) (RV.cell 2 O O dj) (RV.tmp O) (RV.tmp O) O O O (I3 O O O (iK O))
  refine R.q (q.eo O O) O<|R.nil<|R.aB O O<|R.reg O<|R.q (q.aO O cC O) O<|R.q (q.ld 5 O O dv O) O<|R.s O (s.aW mK [3] _ _ _ O O O oH O O (fun w own hw H=>ff bM r.Notes w own H (by omega)) O) fun z4=>?_
  refine R.u 2 O<|R.q (q.bB (r:=((rF+1:Nat):Int)) O O) O<|R.s O (s.aW fh [] _ _ _ O O O Jt O O (fun w own hw H=>qw z4 r.Notes rF (rF+1) w own H (by omega)) O) fun z5=>?_
  refine R.q (q.aO O cC O) O<|R.s O (s.fS 6 _ O O O (fun w hw=>Sl.cm (hw.row 0 O)) (.inr ⟨dv,rfl⟩) (fun w hw=>(af (Sl.one (hw.row 0 O)) aP)) O O O) fun _=>?_
  refine R.nil<|R.fP (fuel:=7) uE O O mixed O<|D.q (i:=0) O (aD uE bJ O) O (q.dh 4 O O aj) O<|D.q (i:=1) O (aD uE bJ O) O (q.dh 1 O O dj) O<|D.q (i:=2) O (aD uE bJ O) O (q.mv O) O<|D.one (i:=3) O<|Do.s (s.fS 4 _ O O O (fun _ _=>rfl) (.inl aj) (fun w hw=>(af (Sl.one (hw.bG 0 O)) (af (Sl.one (hw.bG 1 O)) (af (Sl.one (hw.bG 2 O)) (af (Sl.one (hw.row 0 O)) (af O (af O aP))))))) O O O) (fun _=>(aD uE bJ O)) O fun _=>?_
  refine D.one (i:=4) O<|Do.s (s.st 3 _ O O O O (.inl dj) O O O O) (fun _=>(aD uE bJ O)) O fun _=>?_
  refine D.q (i:=5) O (aD uE bJ O) O (q.as O) O<|D.q (i:=6) O (aD uE bJ O) O (q.as O) O<|D.done<|R.mp (fun _ hw=>hw.cX 0 _ O O) ?_
  have hz:eB r p=((⟨r.ao,r.Things,r.Held,r.Notes.take rF++r.Notes.drop (rF+1),r.ae,r.ah⟩:aC),Es,-1,0):=by (unfold eB;(rw [if_pos ‹_›,gU,Int.toNat_natCast,lY,decide_eq_true (by omega)];dsimp only;(repeat' split) <;> first|rfl|(exfalso;omega)))
  rw [hz]
  exact R.w4 (bS,bK,bL,z5) [6] vS O Tryz.results63 (RV.cell 3 O O aj) (RV.cell 2 O O dj) (RV.tmp O) (RV.tmp O) O O O (I3 O O O (iK O))
 refine R.q (q.d9 O O Tryz.underlying38) O<|R.nil<|R.av O O<|R.reg O<|R.q (q.build ea O O) O<|R.q (q.build F6 O O) O<|R.u 1 O<|R.s O (s.st 2 _ O O O O (.inl aj) O O O O) fun _=>?_
 refine R.s O (s.st 1 _ O O O O (.inl dj) O O O O) fun _=>?_
 refine R.u 2 O<|R.nil<|R.mp (fun _ hw=>hw.a8 (α:=ak))<|R.mp (fun _ hw=>hw.a8 (α:=aE))<|R.mp (fun _ hw=>hw.a8 (α:=Held))<|R.mp (fun _ hw=>hw.a8 (α:=Note)) ?_
 have hz:eB r p=((⟨[],[],[],[],0,0⟩:aC),(⟨0,⟨#[]⟩,0,0⟩:Note),0,(cD r p 2 1).2.2):=by (unfold eB;(rw [if_neg ‹_›];rfl))
 rw [hz]
 exact R.w4 ((nS),(nS),(nS),(nS)) [5] gj O Tryz.results63 (RV.cell 2 O O aj) (RV.cell 1 O O dj) (RV.tmp O) (RV.tmp O) O O O (I3 O O O O)
end Go.Proofs.YtkbhcbipadkcaaaGreatDoor
