import Derived.Test.YtkbhcbipadkcaaaGreatDoorTF20
namespace Go.Proofs.YtkbhcbipadkcaaaGreatDoor
set_option linter.unusedVariables false
set_option linter.unusedSimpArgs false
set_option maxRecDepth 100000
set_option maxHeartbeats 90000000
open Go Go.RowKit
theorem Ie (bU bJ bK bL:Value)(r:aB)(p:Place)(kind:Int)(w:World)(own:List Nat)(H:HN w own [] [ag.ls bU r.ao,ag.ls bJ r.Things,ag.ls bK r.Held,ag.ls bL r.Notes])(hk:Ok r):RC Tryz.prog 56 #[.agg #[bU,bJ,bK,bL,iV r.ae,iV r.ah],.agg #[iV p.aA,iV p.Slot],iV kind] H (fun z:Value×Value×Value×Value => .tuple #[.agg #[z.1,z.2.1,z.2.2.1,z.2.2.2,iV (dX r p kind).1.ae,iV (dX r p kind).1.ah],dh (dX r p kind).2]) (fun _=>[]) (fun z=>[ag.ls z.1 (dX r p kind).1.ao,ag.ls z.2.1 (dX r p kind).1.Things,ag.ls z.2.2.1 (dX r p kind).1.Held,ag.ls z.2.2.2 (dX r p kind).1.Notes]):=by
 have eJ:=H.ck 0 rfl
 have dK:=H.ck 1 rfl
 have fI:=H.ck 2 rfl
 have eK:=H.ck 3 rfl
 have bw:=hk.wl;have bt:=hk.tl;have bh:=hk.hl;have bn:=hk.nl;have KV:=hk.w0;have KW:=hk.w1;have KX:=hk.t0;have KY:=hk.t1
 refine R.bD [(0,.agg #[bU,bJ,bK,bL,iV r.ae,iV r.ah]),(1,.agg #[iV p.aA,iV p.Slot]),(2,iV kind)] Tryz.func56 O O O O H<|R.reg O<|R.s O (s.box O O O) fun b1=>?_
 refine R.s O (s.box O O O) fun b2=>?_
 refine R.s O (s.alloc dB O O) fun b3=>?_
 refine R.u 1 O<|R.nil<|R.reg O<|R.u 1 O<|?_
 by_cases h1:kind=1
 .
  refine R.q (q.nB O O) O<|R.u 4 O<|R.nil<|R.aC O O<|R.reg O<|R.q (q.cW 2 O O aj) O<|R.q (q.cW 1 O O bO) O<|R.c (q.call Az O O (fun w hw=>(qU _ _ _ _ r p w (hw.bN 0 O) (hw.bN 1 O) (hw.bN 2 O) (hw.bN 3 O) ‹_›))) O<|R.u 1 O<|R.nil ?_
  refine R.reg O<|R.u 1 O<|?_
  by_cases h2:gI r p=0
  .
   refine R.q (q.dq O O Tryz.underlying38) O<|R.nil<|R.aC O O<|R.reg O<|R.q (q.aP O du O) O<|R.q (q.ld 2 O O eR O) O<|R.q (q.len' (dx 1 O) O Tryz.underlying44) O<|?_
   by_cases h3:r.Things.length=10
   .
    refine R.q (q.fJ O O) O<|R.u 10 O<|R.nil<|R.az O O<|R.reg O<|R.q (q.build ec O O) O<|R.q (q.iface O br) O<|R.s O (s.st 0 _ O O O O (.inl aj) O O O O) fun _=>?_
    refine R.u 1 O<|R.nil<|R.mp (fun _ hw=>hw.a8 (α:=ak))<|R.mp (fun _ hw=>hw.a8 (α:=aF))<|R.mp (fun _ hw=>hw.a8 (α:=Held))<|R.mp (fun _ hw=>hw.a8 (α:=Note)) ?_
    have hz:dX r p kind=((⟨[],[],[],[],0,0⟩:aB),9):=by (unfold dX;(repeat' split) <;> first|rfl|(exfalso;omega)|(simp_all;done))
    rw [hz]
    exact R.w2 ((nS),(nS),(nS),(nS)) [3] gj O Tryz.results56 (RV.cell 0 O O aj) (RV.tmp O) O O O (dy O (dj (by decide) O))
   refine R.q (q.eX O O) O<|R.u 1 O<|R.qg O (q.aP O eH O) O<|R.qg O (q.ld 2 O O au O) O<|?_
   by_cases h4:999<r.ah
   .
    refine R.qg O (q.eM O O) O<|R.u 6 O<|R.nil<|R.az O O<|R.reg O<|R.q (q.build ec O O) O<|R.q (q.iface O br) O<|R.s O (s.st 0 _ O O O O (.inl aj) O O O O) fun _=>?_
    refine R.u 1 O<|R.nil<|R.mp (fun _ hw=>hw.a8 (α:=ak))<|R.mp (fun _ hw=>hw.a8 (α:=aF))<|R.mp (fun _ hw=>hw.a8 (α:=Held))<|R.mp (fun _ hw=>hw.a8 (α:=Note)) ?_
    have hz:dX r p kind=((⟨[],[],[],[],0,0⟩:aB),9):=by (unfold dX;(repeat' split) <;> first|rfl|(exfalso;omega)|(simp_all;done))
    rw [hz]
    exact R.w2 ((nS),(nS),(nS),(nS)) [3] gj O Tryz.results56 (RV.cell 0 O O aj) (RV.tmp O) O O O (dy O (dj (by decide) O))
   refine R.qg O (q.ey O O) O<|R.u 2 O<|R.qg O (q.aP O cR O) O<|R.qg O (q.ld 2 O O au O) O<|?_
   by_cases h5:999<r.ae
   .
    refine R.qg O (q.eM O O) O<|R.u 1 O<|R.nil<|R.az O O<|R.reg O<|R.q (q.build ec O O) O<|R.q (q.iface O br) O<|R.s O (s.st 0 _ O O O O (.inl aj) O O O O) fun _=>?_
    refine R.u 1 O<|R.nil<|R.mp (fun _ hw=>hw.a8 (α:=ak))<|R.mp (fun _ hw=>hw.a8 (α:=aF))<|R.mp (fun _ hw=>hw.a8 (α:=Held))<|R.mp (fun _ hw=>hw.a8 (α:=Note)) ?_
    have hz:dX r p kind=((⟨[],[],[],[],0,0⟩:aB),9):=by (unfold dX;(repeat' split) <;> first|rfl|(exfalso;omega)|(simp_all;done))
    rw [hz]
    exact R.w2 ((nS),(nS),(nS),(nS)) [3] gj O Tryz.results56 (RV.cell 0 O O aj) (RV.tmp O) O O O (dy O (dj (by decide) O))
   refine R.qg O (q.ey O O) O<|R.u 1 O<|R.nil<|R.aC O O<|R.reg O<|R.q (q.aP O eH O) O<|R.q (q.ld 2 O O au O) O<|R.u 1 O<|R.nil<|R.reg O<|R.q (q.aP O du O) O<|R.q (q.ld 2 O O eR O) O<|R.s O (s.aT bI [1] _ _ _ O O O wv O O (fun w own hw H=>ji bJ r.Things w own H (by omega)) O) fun z1=>?_
   refine R.u 2 O<|R.q (q.build EF O O) O<|R.s O (s.bs (l:=([(⟨r.ah,kind,⟨#[]⟩⟩:aF)]:List aF)) kg jo O O O O O O O) fun b4=>?_
   refine R.s O (s.app 1 _ O O O (bE 0 O) sS (by (simp;omega)) (by (simp;omega)) (fun _=>rfl) O) fun v1=>?_
   refine R.q (q.aP O du O) O<|R.s O (s.fR 4 _ O O O (fun w hw=>Sl.cq (hw.row 1 O)) (.inr ⟨eR,rfl⟩) (fun w hw=>(af (Sl.one (hw.row 1 O)) aO)) O O O) fun _=>?_
   refine R.nil<|R.reg O<|R.q (q.aP O eH O) O<|R.q (q.ld 4 O O au O) O<|R.q (q.bC (r:=r.ah+1) O O) O<|R.q (q.aP O eH O) O<|R.s O (s.st 4 _ O O O O (.inr ⟨au,rfl⟩) O O O O) fun _=>?_
   refine R.nil<|R.reg O<|R.q (q.cW 4 O O aj) O<|R.q (q.aP O cR O) O<|R.q (q.ld 4 O O au O) O<|R.u 1 O<|R.q (q.build iT O O) O<|R.q (q.cW 3 O O bO) O<|R.s O (s.pre (fun _ hw=>hw.cX 1 _ O O) (s.aT gJ [1,0,3,4] _ _ _ O O O wA O O (fun w own hw H=>qn bU v1 bK bL (⟨r.ao,(r.Things++([(⟨r.ah,kind,⟨#[]⟩⟩:aF)])),r.Held,r.Notes,r.ae,(r.ah+1)⟩:aB) (⟨r.ae,r.ah,7,0,0⟩:ak) p w own H (by (dsimp only;omega))) O)) ?_
   rintro ⟨z2,z3,z4,z5⟩
   dsimp only
   refine R.s O (s.fR 1 _ O O O (fun _ _=>rfl) (.inl aj) (fun w hw=>(af (Sl.one (hw.bN 0 O)) (af (Sl.one (hw.bN 1 O)) (af (Sl.one (hw.bN 2 O)) (af (Sl.one (hw.bN 3 O)) (af O (af O aO))))))) O O O) fun _=>?_
   refine R.u 1 O<|R.nil ?_
   have hz:dX r p kind=((fB (⟨r.ao,(r.Things++([(⟨r.ah,kind,⟨#[]⟩⟩:aF)])),r.Held,r.Notes,r.ae,(r.ah+1)⟩:aB) (⟨r.ae,r.ah,7,0,0⟩:ak) p),0):=by (unfold dX;(repeat' split) <;> first|rfl|(exfalso;omega)|(simp_all;done))
   rw [hz]
   exact R.w2 (z2,z3,z4,z5) [4] bI O Tryz.results56 (RV.cell 1 O O aj) (RV.tmp O) O O O (dy O (iJ O))
  refine R.q (q.dW O O Tryz.underlying38) O<|R.nil<|R.az O O<|R.reg O<|R.q (q.build ec O O) O<|R.u 1 O<|R.s O (s.st 0 _ O O O O (.inl aj) O O O O) fun _=>?_
  refine R.u 1 O<|R.nil<|R.mp (fun _ hw=>hw.a8 (α:=ak))<|R.mp (fun _ hw=>hw.a8 (α:=aF))<|R.mp (fun _ hw=>hw.a8 (α:=Held))<|R.mp (fun _ hw=>hw.a8 (α:=Note)) ?_
  have hz:dX r p kind=((⟨[],[],[],[],0,0⟩:aB),gI r p):=by (unfold dX;(repeat' split) <;> first|rfl|(exfalso;omega)|(simp_all;done))
  rw [hz]
  exact R.w2 ((nS),(nS),(nS),(nS)) [3] gj O Tryz.results56 (RV.cell 0 O O aj) (RV.tmp O) O O O (dy O O)
 refine R.q (q.nA O O) O<|R.u 2 O<|?_
 by_cases h6:kind=2
 .
  refine R.qg O (q.nB O O) O<|R.u 1 O<|R.nil<|R.aC O O<|R.reg O<|R.q (q.cW 2 O O aj) O<|R.q (q.cW 1 O O bO) O<|R.c (q.call Az O O (fun w hw=>(qU _ _ _ _ r p w (hw.bN 0 O) (hw.bN 1 O) (hw.bN 2 O) (hw.bN 3 O) ‹_›))) O<|R.u 1 O<|R.nil ?_
  refine R.reg O<|R.u 1 O<|?_
  by_cases h7:gI r p=0
  .
   refine R.q (q.dq O O Tryz.underlying38) O<|R.nil<|R.aC O O<|R.reg O<|R.q (q.aP O du O) O<|R.q (q.ld 2 O O eR O) O<|R.q (q.len' (dx 1 O) O Tryz.underlying44) O<|?_
   by_cases h8:r.Things.length=10
   .
    refine R.q (q.fJ O O) O<|R.u 10 O<|R.nil<|R.az O O<|R.reg O<|R.q (q.build ec O O) O<|R.q (q.iface O br) O<|R.s O (s.st 0 _ O O O O (.inl aj) O O O O) fun _=>?_
    refine R.u 1 O<|R.nil<|R.mp (fun _ hw=>hw.a8 (α:=ak))<|R.mp (fun _ hw=>hw.a8 (α:=aF))<|R.mp (fun _ hw=>hw.a8 (α:=Held))<|R.mp (fun _ hw=>hw.a8 (α:=Note)) ?_
    have hz:dX r p kind=((⟨[],[],[],[],0,0⟩:aB),9):=by (unfold dX;(repeat' split) <;> first|rfl|(exfalso;omega)|(simp_all;done))
    rw [hz]
    exact R.w2 ((nS),(nS),(nS),(nS)) [3] gj O Tryz.results56 (RV.cell 0 O O aj) (RV.tmp O) O O O (dy O (dj (by decide) O))
   refine R.q (q.eX O O) O<|R.u 1 O<|R.qg O (q.aP O eH O) O<|R.qg O (q.ld 2 O O au O) O<|?_
   by_cases h9:999<r.ah
   .
    refine R.qg O (q.eM O O) O<|R.u 6 O<|R.nil<|R.az O O<|R.reg O<|R.q (q.build ec O O) O<|R.q (q.iface O br) O<|R.s O (s.st 0 _ O O O O (.inl aj) O O O O) fun _=>?_
    refine R.u 1 O<|R.nil<|R.mp (fun _ hw=>hw.a8 (α:=ak))<|R.mp (fun _ hw=>hw.a8 (α:=aF))<|R.mp (fun _ hw=>hw.a8 (α:=Held))<|R.mp (fun _ hw=>hw.a8 (α:=Note)) ?_
    have hz:dX r p kind=((⟨[],[],[],[],0,0⟩:aB),9):=by (unfold dX;(repeat' split) <;> first|rfl|(exfalso;omega)|(simp_all;done))
    rw [hz]
    exact R.w2 ((nS),(nS),(nS),(nS)) [3] gj O Tryz.results56 (RV.cell 0 O O aj) (RV.tmp O) O O O (dy O (dj (by decide) O))
   refine R.qg O (q.ey O O) O<|R.u 2 O<|R.qg O (q.aP O cR O) O<|R.qg O (q.ld 2 O O au O) O<|?_
   by_cases h10:999<r.ae
   .
    refine R.qg O (q.eM O O) O<|R.u 1 O<|R.nil<|R.az O O<|R.reg O<|R.q (q.build ec O O) O<|R.q (q.iface O br) O<|R.s O (s.st 0 _ O O O O (.inl aj) O O O O) fun _=>?_
    refine R.u 1 O<|R.nil<|R.mp (fun _ hw=>hw.a8 (α:=ak))<|R.mp (fun _ hw=>hw.a8 (α:=aF))<|R.mp (fun _ hw=>hw.a8 (α:=Held))<|R.mp (fun _ hw=>hw.a8 (α:=Note)) ?_
    have hz:dX r p kind=((⟨[],[],[],[],0,0⟩:aB),9):=by (unfold dX;(repeat' split) <;> first|rfl|(exfalso;omega)|(simp_all;done))
    rw [hz]
    exact R.w2 ((nS),(nS),(nS),(nS)) [3] gj O Tryz.results56 (RV.cell 0 O O aj) (RV.tmp O) O O O (dy O (dj (by decide) O))
   refine R.qg O (q.ey O O) O<|R.u 1 O<|R.nil<|R.aC O O<|R.reg O<|R.q (q.aP O eH O) O<|R.q (q.ld 2 O O au O) O<|R.u 1 O<|R.nil<|R.reg O<|R.q (q.aP O du O) O<|R.q (q.ld 2 O O eR O) O<|R.s O (s.aT bI [1] _ _ _ O O O wv O O (fun w own hw H=>ji bJ r.Things w own H (by omega)) O) fun z6=>?_
   refine R.u 2 O<|R.q (q.build EF O O) O<|R.s O (s.bs (l:=([(⟨r.ah,kind,⟨#[]⟩⟩:aF)]:List aF)) kg jo O O O O O O O) fun b5=>?_
   refine R.s O (s.app 1 _ O O O (bE 0 O) sS (by (simp;omega)) (by (simp;omega)) (fun _=>rfl) O) fun v2=>?_
   refine R.q (q.aP O du O) O<|R.s O (s.fR 4 _ O O O (fun w hw=>Sl.cq (hw.row 1 O)) (.inr ⟨eR,rfl⟩) (fun w hw=>(af (Sl.one (hw.row 1 O)) aO)) O O O) fun _=>?_
   refine R.nil<|R.reg O<|R.q (q.aP O eH O) O<|R.q (q.ld 4 O O au O) O<|R.q (q.bC (r:=r.ah+1) O O) O<|R.q (q.aP O eH O) O<|R.s O (s.st 4 _ O O O O (.inr ⟨au,rfl⟩) O O O O) fun _=>?_
   refine R.nil<|R.reg O<|R.q (q.cW 4 O O aj) O<|R.q (q.aP O cR O) O<|R.q (q.ld 4 O O au O) O<|R.u 1 O<|R.q (q.build iT O O) O<|R.q (q.cW 3 O O bO) O<|R.s O (s.pre (fun _ hw=>hw.cX 1 _ O O) (s.aT gJ [1,0,3,4] _ _ _ O O O wA O O (fun w own hw H=>qn bU v2 bK bL (⟨r.ao,(r.Things++([(⟨r.ah,kind,⟨#[]⟩⟩:aF)])),r.Held,r.Notes,r.ae,(r.ah+1)⟩:aB) (⟨r.ae,r.ah,7,0,0⟩:ak) p w own H (by (dsimp only;omega))) O)) ?_
   rintro ⟨z7,z8,z9,lE⟩
   dsimp only
   refine R.s O (s.fR 1 _ O O O (fun _ _=>rfl) (.inl aj) (fun w hw=>(af (Sl.one (hw.bN 0 O)) (af (Sl.one (hw.bN 1 O)) (af (Sl.one (hw.bN 2 O)) (af (Sl.one (hw.bN 3 O)) (af O (af O aO))))))) O O O) fun _=>?_
   refine R.u 1 O<|R.nil ?_
   have hz:dX r p kind=((fB (⟨r.ao,(r.Things++([(⟨r.ah,kind,⟨#[]⟩⟩:aF)])),r.Held,r.Notes,r.ae,(r.ah+1)⟩:aB) (⟨r.ae,r.ah,7,0,0⟩:ak) p),0):=by (unfold dX;(repeat' split) <;> first|rfl|(exfalso;omega)|(simp_all;done))
   rw [hz]
   exact R.w2 (z7,z8,z9,lE) [4] bI O Tryz.results56 (RV.cell 1 O O aj) (RV.tmp O) O O O (dy O (iJ O))
  refine R.q (q.dW O O Tryz.underlying38) O<|R.nil<|R.az O O<|R.reg O<|R.q (q.build ec O O) O<|R.u 1 O<|R.s O (s.st 0 _ O O O O (.inl aj) O O O O) fun _=>?_
  refine R.u 1 O<|R.nil<|R.mp (fun _ hw=>hw.a8 (α:=ak))<|R.mp (fun _ hw=>hw.a8 (α:=aF))<|R.mp (fun _ hw=>hw.a8 (α:=Held))<|R.mp (fun _ hw=>hw.a8 (α:=Note)) ?_
  have hz:dX r p kind=((⟨[],[],[],[],0,0⟩:aB),gI r p):=by (unfold dX;(repeat' split) <;> first|rfl|(exfalso;omega)|(simp_all;done))
  rw [hz]
  exact R.w2 ((nS),(nS),(nS),(nS)) [3] gj O Tryz.results56 (RV.cell 0 O O aj) (RV.tmp O) O O O (dy O O)
 refine R.qg O (q.nA O O) O<|R.u 1 O<|R.nil<|R.az O O<|R.reg O<|R.q (q.build ec O O) O<|R.q (q.iface O br) O<|R.s O (s.st 0 _ O O O O (.inl aj) O O O O) fun _=>?_
 refine R.u 1 O<|R.nil<|R.mp (fun _ hw=>hw.a8 (α:=ak))<|R.mp (fun _ hw=>hw.a8 (α:=aF))<|R.mp (fun _ hw=>hw.a8 (α:=Held))<|R.mp (fun _ hw=>hw.a8 (α:=Note)) ?_
 have hz:dX r p kind=((⟨[],[],[],[],0,0⟩:aB),8):=by (unfold dX;(repeat' split) <;> first|rfl|(exfalso;omega)|(simp_all;done))
 rw [hz]
 exact R.w2 ((nS),(nS),(nS),(nS)) [3] gj O Tryz.results56 (RV.cell 0 O O aj) (RV.tmp O) O O O (dy O (dj (by decide) O))
theorem Ig (bU bJ bK bL:Value)(r:aB)(p:Place)(t:Place)(rights:Int)(dJ:Int)(w:World)(own:List Nat)(H:HN w own [] [ag.ls bU r.ao,ag.ls bJ r.Things,ag.ls bK r.Held,ag.ls bL r.Notes])(hk:Ok r):RC Tryz.prog 57 #[.agg #[bU,bJ,bK,bL,iV r.ae,iV r.ah],.agg #[iV p.aA,iV p.Slot],.agg #[iV t.aA,iV t.Slot],iV rights,iV dJ] H (fun z:Value×Value×Value×Value => .tuple #[.agg #[z.1,z.2.1,z.2.2.1,z.2.2.2,iV (fu r p t rights dJ).1.ae,iV (fu r p t rights dJ).1.ah],dh (fu r p t rights dJ).2]) (fun _=>[]) (fun z=>[ag.ls z.1 (fu r p t rights dJ).1.ao,ag.ls z.2.1 (fu r p t rights dJ).1.Things,ag.ls z.2.2.1 (fu r p t rights dJ).1.Held,ag.ls z.2.2.2 (fu r p t rights dJ).1.Notes]):=by
 have eJ:=H.ck 0 rfl
 have dK:=H.ck 1 rfl
 have fI:=H.ck 2 rfl
 have eK:=H.ck 3 rfl
 have bw:=hk.wl;have bt:=hk.tl;have bh:=hk.hl;have bn:=hk.nl;have KV:=hk.w0;have KW:=hk.w1;have KX:=hk.t0;have KY:=hk.t1
 refine R.bD [(0,.agg #[bU,bJ,bK,bL,iV r.ae,iV r.ah]),(1,.agg #[iV p.aA,iV p.Slot]),(2,.agg #[iV t.aA,iV t.Slot]),(3,iV rights),(4,iV dJ)] Tryz.func57 O O O O H<|R.reg O<|R.s O (s.box O O O) fun b1=>?_
 refine R.s O (s.box O O O) fun b2=>?_
 refine R.s O (s.box O O O) fun b3=>?_
 refine R.s O (s.alloc dB O O) fun b4=>?_
 refine R.u 1 O<|R.nil<|R.reg O<|R.q (q.cW 3 O O aj) O<|R.q (q.cW 2 O O bO) O<|R.c (q.call tN O O (fun w hw=>(qT _ _ _ _ r p w (hw.bN 0 O) (hw.bN 1 O) (hw.bN 2 O) (hw.bN 3 O) ‹_›))) O<|R.u 3 O<|?_
 refine R.s O (s.alloc bR O O) fun b5=>?_
 refine R.s O (s.st 0 _ O O O O (.inl aN) O O O O) fun _=>?_
 refine R.u 1 O<|R.nil<|R.reg O<|R.u 1 O<|?_
 by_cases h1:(aS r p).2=0
 .
  have V7:=hk.get h1
  refine R.q (q.dq O O Tryz.underlying38) O<|R.nil<|R.aC O O<|R.reg O<|R.q (q.cW 4 O O aj) O<|R.q (q.cW 2 O O bO) O<|R.c (q.call Az O O (fun w hw=>(qU _ _ _ _ r t w (hw.bN 0 O) (hw.bN 1 O) (hw.bN 2 O) (hw.bN 3 O) ‹_›))) O<|R.u 1 O<|R.nil ?_
  refine R.reg O<|R.u 1 O<|?_
  by_cases h2:gI r t=0
  .
   refine R.q (q.dq O O Tryz.underlying38) O<|R.nil<|R.aC O O<|R.reg O<|R.q (q.aP O fw O) O<|R.q (q.ld 3 O O au O) O<|R.q (q.aP O fw O) O<|R.q (q.ld 2 O O au O) O<|?_
   by_cases h3:p.aA=t.aA
   .
    refine R.q (q.nB O O) O<|R.u 6 O<|R.nil<|R.aC O O<|R.reg O<|R.q (q.aP O cR O) O<|R.q (q.ld 4 O O au O) O<|?_
    by_cases h4:999<r.ae
    .
     refine R.q (q.eM O O) O<|R.nil<|R.az O O<|R.reg O<|R.q (q.build ec O O) O<|R.q (q.iface O br) O<|R.s O (s.st 1 _ O O O O (.inl aj) O O O O) fun _=>?_
     refine R.u 1 O<|R.nil<|R.mp (fun _ hw=>hw.a8 (α:=ak))<|R.mp (fun _ hw=>hw.a8 (α:=aF))<|R.mp (fun _ hw=>hw.a8 (α:=Held))<|R.mp (fun _ hw=>hw.a8 (α:=Note)) ?_
     have hz:fu r p t rights dJ=((⟨[],[],[],[],0,0⟩:aB),9):=by (unfold fu;(repeat' split) <;> first|rfl|(exfalso;omega)|(simp_all;done))
     rw [hz]
     exact R.w2 ((nS),(nS),(nS),(nS)) [5] gj O Tryz.results57 (RV.cell 1 O O aj) (RV.tmp O) O O O (dy O (dj (by decide) O))
    refine R.q (q.ey O O) O<|R.nil<|R.aC O O<|R.reg O<|R.q (q.cW 0 O O aN) O<|R.q (q.aP O cR O) O<|R.q (q.ld 4 O O au O) O<|R.u 2 O<|R.c (q.call wB O O (fun w hw=>(mB (aS r p).1 r.ae rights dJ w (by omega)))) O<|R.u 3 O<|?_
    refine R.s O (s.alloc bR O O) fun b6=>?_
    refine R.s O (s.st 0 _ O O O O (.inl aN) O O O O) fun _=>?_
    refine R.u 1 O<|R.nil<|R.reg O<|R.u 1 O<|?_
    by_cases h5:(derived (aS r p).1 r.ae rights dJ).2=0
    .
     refine R.q (q.dq O O Tryz.underlying38) O<|R.nil<|R.aC O O<|R.reg O<|R.q (q.cW 5 O O aj) O<|R.q (q.cW 0 O O aN) O<|R.q (q.cW 3 O O bO) O<|R.s O (s.aT mH bI _ _ _ O O O wA O O (fun w own hw H=>qn bU bJ bK bL r (derived (aS r p).1 r.ae rights dJ).1 t w own H (by omega)) O) ?_
     rintro ⟨z1,z2,z3,z4⟩
     dsimp only
     refine R.s O (s.fR 2 _ O O O (fun _ _=>rfl) (.inl aj) (fun w hw=>(af (Sl.one (hw.bN 0 O)) (af (Sl.one (hw.bN 1 O)) (af (Sl.one (hw.bN 2 O)) (af (Sl.one (hw.bN 3 O)) (af O (af O aO))))))) O O O) fun _=>?_
     refine R.u 1 O<|R.nil ?_
     have hz:fu r p t rights dJ=((fB r (derived (aS r p).1 r.ae rights dJ).1 t),0):=by (unfold fu;(repeat' split) <;> first|rfl|(exfalso;omega)|(simp_all;done))
     rw [hz]
     exact R.w2 (z1,z2,z3,z4) [6] bI O Tryz.results57 (RV.cell 2 O O aj) (RV.tmp O) O O O (dy O (iJ O))
    refine R.q (q.dW O O Tryz.underlying38) O<|R.nil<|R.az O O<|R.reg O<|R.q (q.build ec O O) O<|R.u 1 O<|R.s O (s.st 2 _ O O O O (.inl aj) O O O O) fun _=>?_
    refine R.u 1 O<|R.nil<|R.mp (fun _ hw=>hw.a8 (α:=ak))<|R.mp (fun _ hw=>hw.a8 (α:=aF))<|R.mp (fun _ hw=>hw.a8 (α:=Held))<|R.mp (fun _ hw=>hw.a8 (α:=Note)) ?_
    have hz:fu r p t rights dJ=((⟨[],[],[],[],0,0⟩:aB),(derived (aS r p).1 r.ae rights dJ).2):=by (unfold fu;(repeat' split) <;> first|rfl|(exfalso;omega)|(simp_all;done))
    rw [hz]
    exact R.w2 ((nS),(nS),(nS),(nS)) [6] gj O Tryz.results57 (RV.cell 2 O O aj) (RV.tmp O) O O O (dy O O)
   refine R.q (q.nA O O) O<|R.u 1 O<|R.qg O (q.aP O jR O) O<|R.qg O (q.ld 0 O O au O) O<|?_
   rcases Bool.eq_false_or_eq_true (je (aS r p).1.Rights 4) with h6|h6
   .
    refine R.cg O (q.call pQ O O (fun w hw=>(cv (congrArg Value.bool h6) (gG (aS r p).1.Rights 4 w (by omega) (by omega))))) O<|R.u 2 O<|R.nil<|R.aC O O<|R.reg O<|R.q (q.aP O cR O) O<|R.q (q.ld 4 O O au O) O<|?_
    by_cases h7:999<r.ae
    .
     refine R.q (q.eM O O) O<|R.nil<|R.az O O<|R.reg O<|R.q (q.build ec O O) O<|R.q (q.iface O br) O<|R.s O (s.st 1 _ O O O O (.inl aj) O O O O) fun _=>?_
     refine R.u 1 O<|R.nil<|R.mp (fun _ hw=>hw.a8 (α:=ak))<|R.mp (fun _ hw=>hw.a8 (α:=aF))<|R.mp (fun _ hw=>hw.a8 (α:=Held))<|R.mp (fun _ hw=>hw.a8 (α:=Note)) ?_
     have hz:fu r p t rights dJ=((⟨[],[],[],[],0,0⟩:aB),9):=by (unfold fu;(repeat' split) <;> first|rfl|(exfalso;omega)|(simp_all;done))
     rw [hz]
     exact R.w2 ((nS),(nS),(nS),(nS)) [5] gj O Tryz.results57 (RV.cell 1 O O aj) (RV.tmp O) O O O (dy O (dj (by decide) O))
    refine R.q (q.ey O O) O<|R.nil<|R.aC O O<|R.reg O<|R.q (q.cW 0 O O aN) O<|R.q (q.aP O cR O) O<|R.q (q.ld 4 O O au O) O<|R.u 2 O<|R.c (q.call wB O O (fun w hw=>(mB (aS r p).1 r.ae rights dJ w (by omega)))) O<|R.u 3 O<|?_
    refine R.s O (s.alloc bR O O) fun b7=>?_
    refine R.s O (s.st 0 _ O O O O (.inl aN) O O O O) fun _=>?_
    refine R.u 1 O<|R.nil<|R.reg O<|R.u 1 O<|?_
    by_cases h8:(derived (aS r p).1 r.ae rights dJ).2=0
    .
     refine R.q (q.dq O O Tryz.underlying38) O<|R.nil<|R.aC O O<|R.reg O<|R.q (q.cW 5 O O aj) O<|R.q (q.cW 0 O O aN) O<|R.q (q.cW 3 O O bO) O<|R.s O (s.aT mH bI _ _ _ O O O wA O O (fun w own hw H=>qn bU bJ bK bL r (derived (aS r p).1 r.ae rights dJ).1 t w own H (by omega)) O) ?_
     rintro ⟨z5,z6,z7,z8⟩
     dsimp only
     refine R.s O (s.fR 2 _ O O O (fun _ _=>rfl) (.inl aj) (fun w hw=>(af (Sl.one (hw.bN 0 O)) (af (Sl.one (hw.bN 1 O)) (af (Sl.one (hw.bN 2 O)) (af (Sl.one (hw.bN 3 O)) (af O (af O aO))))))) O O O) fun _=>?_
     refine R.u 1 O<|R.nil ?_
     have hz:fu r p t rights dJ=((fB r (derived (aS r p).1 r.ae rights dJ).1 t),0):=by (unfold fu;(repeat' split) <;> first|rfl|(exfalso;omega)|(simp_all;done))
     rw [hz]
     exact R.w2 (z5,z6,z7,z8) [6] bI O Tryz.results57 (RV.cell 2 O O aj) (RV.tmp O) O O O (dy O (iJ O))
    refine R.q (q.dW O O Tryz.underlying38) O<|R.nil<|R.az O O<|R.reg O<|R.q (q.build ec O O) O<|R.u 1 O<|R.s O (s.st 2 _ O O O O (.inl aj) O O O O) fun _=>?_
    refine R.u 1 O<|R.nil<|R.mp (fun _ hw=>hw.a8 (α:=ak))<|R.mp (fun _ hw=>hw.a8 (α:=aF))<|R.mp (fun _ hw=>hw.a8 (α:=Held))<|R.mp (fun _ hw=>hw.a8 (α:=Note)) ?_
    have hz:fu r p t rights dJ=((⟨[],[],[],[],0,0⟩:aB),(derived (aS r p).1 r.ae rights dJ).2):=by (unfold fu;(repeat' split) <;> first|rfl|(exfalso;omega)|(simp_all;done))
    rw [hz]
    exact R.w2 ((nS),(nS),(nS),(nS)) [6] gj O Tryz.results57 (RV.cell 2 O O aj) (RV.tmp O) O O O (dy O O)
   refine R.cg O (q.call pQ O O (fun w hw=>(cv (congrArg Value.bool h6) (gG (aS r p).1.Rights 4 w (by omega) (by omega))))) O<|R.u 2 O<|R.nil<|R.az O O<|R.reg O<|R.q (q.build ec O O) O<|R.q (q.iface O br) O<|R.s O (s.st 1 _ O O O O (.inl aj) O O O O) fun _=>?_
   refine R.u 1 O<|R.nil<|R.mp (fun _ hw=>hw.a8 (α:=ak))<|R.mp (fun _ hw=>hw.a8 (α:=aF))<|R.mp (fun _ hw=>hw.a8 (α:=Held))<|R.mp (fun _ hw=>hw.a8 (α:=Note)) ?_
   have hz:fu r p t rights dJ=((⟨[],[],[],[],0,0⟩:aB),7):=by (unfold fu;(repeat' split) <;> first|rfl|(exfalso;omega)|(simp_all;done))
   rw [hz]
   exact R.w2 ((nS),(nS),(nS),(nS)) [5] gj O Tryz.results57 (RV.cell 1 O O aj) (RV.tmp O) O O O (dy O (dj (by decide) O))
  refine R.q (q.dW O O Tryz.underlying38) O<|R.nil<|R.az O O<|R.reg O<|R.q (q.build ec O O) O<|R.u 1 O<|R.s O (s.st 1 _ O O O O (.inl aj) O O O O) fun _=>?_
  refine R.u 1 O<|R.nil<|R.mp (fun _ hw=>hw.a8 (α:=ak))<|R.mp (fun _ hw=>hw.a8 (α:=aF))<|R.mp (fun _ hw=>hw.a8 (α:=Held))<|R.mp (fun _ hw=>hw.a8 (α:=Note)) ?_
  have hz:fu r p t rights dJ=((⟨[],[],[],[],0,0⟩:aB),gI r t):=by (unfold fu;(repeat' split) <;> rfl)
  rw [hz]
  exact R.w2 ((nS),(nS),(nS),(nS)) [5] gj O Tryz.results57 (RV.cell 1 O O aj) (RV.tmp O) O O O (dy O O)
 refine R.q (q.dW O O Tryz.underlying38) O<|R.nil<|R.az O O<|R.reg O<|R.q (q.build ec O O) O<|R.u 1 O<|R.s O (s.st 1 _ O O O O (.inl aj) O O O O) fun _=>?_
 refine R.u 1 O<|R.nil<|R.mp (fun _ hw=>hw.a8 (α:=ak))<|R.mp (fun _ hw=>hw.a8 (α:=aF))<|R.mp (fun _ hw=>hw.a8 (α:=Held))<|R.mp (fun _ hw=>hw.a8 (α:=Note)) ?_
 have hz:fu r p t rights dJ=((⟨[],[],[],[],0,0⟩:aB),(aS r p).2):=by (unfold fu;(repeat' split) <;> first|rfl|(exfalso;omega)|(simp_all;done))
 rw [hz]
 exact R.w2 ((nS),(nS),(nS),(nS)) [5] gj O Tryz.results57 (RV.cell 1 O O aj) (RV.tmp O) O O O (dy O O)
theorem Ih (bU bJ bK bL:Value)(r:aB)(p:Place)(slot:Int)(w:World)(own:List Nat)(H:HN w own [] [ag.ls bU r.ao,ag.ls bJ r.Things,ag.ls bK r.Held,ag.ls bL r.Notes])(hk:Ok r):RC Tryz.prog 58 #[.agg #[bU,bJ,bK,bL,iV r.ae,iV r.ah],.agg #[iV p.aA,iV p.Slot],iV slot] H (fun z:Value×Value×Value×Value => .tuple #[.agg #[z.1,z.2.1,z.2.2.1,z.2.2.2,iV (jh r p slot).1.ae,iV (jh r p slot).1.ah],dh (jh r p slot).2]) (fun _=>[]) (fun z=>[ag.ls z.1 (jh r p slot).1.ao,ag.ls z.2.1 (jh r p slot).1.Things,ag.ls z.2.2.1 (jh r p slot).1.Held,ag.ls z.2.2.2 (jh r p slot).1.Notes]):=by
 have eJ:=H.ck 0 rfl
 have dK:=H.ck 1 rfl
 have fI:=H.ck 2 rfl
 have eK:=H.ck 3 rfl
 have bw:=hk.wl;have bt:=hk.tl;have bh:=hk.hl;have bn:=hk.nl;have KV:=hk.w0;have KW:=hk.w1;have KX:=hk.t0;have KY:=hk.t1
 have bp:=nP r.Held p 0
 refine R.bD [(0,.agg #[bU,bJ,bK,bL,iV r.ae,iV r.ah]),(1,.agg #[iV p.aA,iV p.Slot]),(2,iV slot)] Tryz.func58 O O O O H<|R.reg O<|R.s O (s.box O O O) fun b1=>?_
 refine R.s O (s.box O O O) fun b2=>?_
 refine R.s O (s.alloc dB O O) fun b3=>?_
 refine R.u 1 O<|R.nil<|R.reg O<|R.q (q.cW 2 O O aj) O<|R.q (q.cW 1 O O bO) O<|R.c (q.call tN O O (fun w hw=>(qT _ _ _ _ r p w (hw.bN 0 O) (hw.bN 1 O) (hw.bN 2 O) (hw.bN 3 O) ‹_›))) O<|R.u 3 O<|?_
 refine R.s O (s.alloc bR O O) fun b4=>?_
 refine R.s O (s.st 0 _ O O O O (.inl aN) O O O O) fun _=>?_
 refine R.u 1 O<|R.nil<|R.reg O<|R.u 1 O<|?_
 by_cases h1:(aS r p).2=0
 .
  refine R.q (q.dq O O Tryz.underlying38) O<|R.nil<|R.aC O O<|R.reg O<|R.q (q.aP O fw O) O<|R.q (q.ld 2 O O au O) O<|R.u 1 O<|R.q (q.build wn O O) O<|R.s O (s.alloc Cr O O) fun b5=>?_
  refine R.s O (s.st 0 _ O O O O (.inl bO) O O O O) fun _=>?_
  refine R.nil<|R.reg O<|R.q (q.cW 4 O O aj) O<|R.q (q.cW 0 O O bO) O<|R.c (q.call Az O O (fun w hw=>(qU _ _ _ _ r (⟨p.aA,slot⟩:Place) w (hw.bN 0 O) (hw.bN 1 O) (hw.bN 2 O) (hw.bN 3 O) ‹_›))) O<|R.u 1 O<|R.nil ?_
  refine R.reg O<|R.u 1 O<|?_
  by_cases h2:gI r (⟨p.aA,slot⟩:Place)=0
  .
   refine R.q (q.dq O O Tryz.underlying38) O<|R.nil<|R.aC O O<|R.fP (fuel:=10) ny O O mixed O<|D.q (i:=0) O (aD ny bI O) O (q.aP O cQ O) O<|D.q (i:=2) O (aD ny bI O) O (q.cW 3 O O bO) O<|D.q (i:=4) O (aD ny bI O) O (q.cW 0 O O bO) O<|D.q (i:=5) O (aD ny bI O) O (q.aP O bX O) O<|D.q (i:=6) O (aD ny bI O) O (q.ld 1 O O au O) O<|D.one (i:=1) O<|Do.s (s.c (Qt.a (q.ld 4 O O dV O)) O) (fun _=>(aD ny bI O)) O fun _=>?_
   refine D.one (i:=3) O<|Do.s (s.aT rk [2] _ _ _ O O O tO O O (fun w own hw H=>qE bK r.Held p 0 w own H (by omega)) O) (fun _=>(aD sE bI O)) O fun z3=>?_
   refine D.one (i:=7) O<|Do.s (s.pre (fun _ hw=>hw.cX 0 _ O O) (s.aT rk [0] _ _ _ O O O tO O O (fun w own hw H=>qE z3 (fS r.Held p 0) (⟨p.aA,slot⟩:Place) (aS r p).1.ID w own H (by omega)) O)) (fun _=>(aD sE [1,2,3,4] O)) O fun z4=>?_
   refine D.q (i:=8) O (aD sE [1,2,3,4] O) O (q.aP O cQ O) O<|D.one (i:=9) O<|Do.s (s.fR 5 _ O O O (fun w hw=>Sl.cq (hw.row 0 O)) (.inr ⟨dV,rfl⟩) (fun w hw=>(af (Sl.one (hw.row 0 O)) aO)) O O O) (fun _=>(aD sE [1,2,3,4] O)) O fun _=>?_
   refine D.done<|R.reg O<|R.q (q.cW 5 O O aj) O<|R.s O (s.fR 3 _ O O O (fun _ _=>rfl) (.inl aj) (fun w hw=>(af (Sl.one (hw.bN 1 O)) (af (Sl.one (hw.bN 2 O)) (af (Sl.one (hw.row 0 O)) (af (Sl.one (hw.bN 4 O)) (af O (af O aO))))))) O O O) fun _=>?_
   refine R.u 1 O<|R.nil<|R.mp (fun _ hw=>hw.cX 0 _ O O) ?_
   have hz:jh r p slot=((⟨r.ao,r.Things,fS (fS r.Held p 0) (⟨p.aA,slot⟩:Place) (aS r p).1.ID,r.Notes,r.ae,r.ah⟩:aB),0):=by (unfold jh;(repeat' split) <;> rfl)
   rw [hz]
   exact R.w2 (bU,bJ,z4,bL) [5] [2,3,0,5] O Tryz.results58 (RV.cell 2 O O aj) (RV.tmp O) O O O (dy O (iJ O))
  refine R.q (q.dW O O Tryz.underlying38) O<|R.nil<|R.az O O<|R.reg O<|R.q (q.build ec O O) O<|R.u 1 O<|R.s O (s.st 2 _ O O O O (.inl aj) O O O O) fun _=>?_
  refine R.u 1 O<|R.nil<|R.mp (fun _ hw=>hw.a8 (α:=ak))<|R.mp (fun _ hw=>hw.a8 (α:=aF))<|R.mp (fun _ hw=>hw.a8 (α:=Held))<|R.mp (fun _ hw=>hw.a8 (α:=Note)) ?_
  have hz:jh r p slot=((⟨[],[],[],[],0,0⟩:aB),gI r (⟨p.aA,slot⟩:Place)):=by (unfold jh;(repeat' split) <;> rfl)
  rw [hz]
  exact R.w2 ((nS),(nS),(nS),(nS)) [5] gj O Tryz.results58 (RV.cell 2 O O aj) (RV.tmp O) O O O (dy O O)
 refine R.q (q.dW O O Tryz.underlying38) O<|R.nil<|R.az O O<|R.reg O<|R.q (q.build ec O O) O<|R.u 1 O<|R.s O (s.st 1 _ O O O O (.inl aj) O O O O) fun _=>?_
 refine R.u 1 O<|R.nil<|R.mp (fun _ hw=>hw.a8 (α:=ak))<|R.mp (fun _ hw=>hw.a8 (α:=aF))<|R.mp (fun _ hw=>hw.a8 (α:=Held))<|R.mp (fun _ hw=>hw.a8 (α:=Note)) ?_
 have hz:jh r p slot=((⟨[],[],[],[],0,0⟩:aB),(aS r p).2):=by (unfold jh;(repeat' split) <;> first|rfl|(exfalso;omega)|(simp_all;done))
 rw [hz]
 exact R.w2 ((nS),(nS),(nS),(nS)) [4] gj O Tryz.results58 (RV.cell 1 O O aj) (RV.tmp O) O O O (dy O O)
theorem Ii (bU bJ bK bL:Value)(r:aB)(p:Place)(w:World)(own:List Nat)(H:HN w own [] [ag.ls bU r.ao,ag.ls bJ r.Things,ag.ls bK r.Held,ag.ls bL r.Notes])(hk:Ok r):RC Tryz.prog 59 #[.agg #[bU,bJ,bK,bL,iV r.ae,iV r.ah],.agg #[iV p.aA,iV p.Slot]] H (fun z:Value×Value×Value×Value => .tuple #[.agg #[z.1,z.2.1,z.2.2.1,z.2.2.2,iV (jI r p).1.ae,iV (jI r p).1.ah],dh (jI r p).2]) (fun _=>[]) (fun z=>[ag.ls z.1 (jI r p).1.ao,ag.ls z.2.1 (jI r p).1.Things,ag.ls z.2.2.1 (jI r p).1.Held,ag.ls z.2.2.2 (jI r p).1.Notes]):=by
 have eJ:=H.ck 0 rfl
 have dK:=H.ck 1 rfl
 have fI:=H.ck 2 rfl
 have eK:=H.ck 3 rfl
 have bw:=hk.wl;have bt:=hk.tl;have bh:=hk.hl;have bn:=hk.nl;have KV:=hk.w0;have KW:=hk.w1;have KX:=hk.t0;have KY:=hk.t1
 have hkd:=hk.wo (aS r p).1.ID
 refine R.bD [(0,.agg #[bU,bJ,bK,bL,iV r.ae,iV r.ah]),(1,.agg #[iV p.aA,iV p.Slot])] Tryz.func59 O O O O H<|R.reg O<|R.s O (s.box O O O) fun b1=>?_
 refine R.s O (s.box O O O) fun b2=>?_
 refine R.s O (s.alloc dB O O) fun b3=>?_
 refine R.u 1 O<|R.nil<|R.reg O<|R.q (q.cW 2 O O aj) O<|R.q (q.cW 1 O O bO) O<|R.c (q.call tN O O (fun w hw=>(qT _ _ _ _ r p w (hw.bN 0 O) (hw.bN 1 O) (hw.bN 2 O) (hw.bN 3 O) ‹_›))) O<|R.u 3 O<|?_
 refine R.s O (s.alloc bR O O) fun b4=>?_
 refine R.s O (s.st 0 _ O O O O (.inl aN) O O O O) fun _=>?_
 refine R.u 1 O<|R.nil<|R.reg O<|R.u 1 O<|?_
 by_cases h1:(aS r p).2=0
 .
  refine R.q (q.dq O O Tryz.underlying38) O<|R.nil<|R.aC O O<|R.reg O<|R.q (q.aP O bq O) O<|R.q (q.ld 3 O O cb O) O<|R.q (q.aP O bX O) O<|R.q (q.ld 0 O O au O) O<|R.s O (s.vU Jn O O (fun w hw=>qf _ r.ao (aS r p).1.ID w (hw.bN 0 O) (by omega)) O) fun v1=>?_
  refine R.q (q.aP O bq O) O<|R.s O (s.fR 4 _ O O O (fun w hw=>Sl.cq (hw.row 0 O)) (.inr ⟨cb,rfl⟩) (fun w hw=>(af (Sl.one (hw.row 0 O)) aO)) O O O) fun _=>?_
  refine R.nil<|R.reg O<|R.q (q.cW 4 O O aj) O<|R.s O (s.pre (fun _ hw=>hw.cX 0 _ O O) (s.aT gJ [0,2,3,4] _ _ _ O O O Jo O O (fun w own hw H=>sf v1 bJ bK bL (⟨(without r.ao (aS r p).1.ID),r.Things,r.Held,r.Notes,r.ae,r.ah⟩:aB) w own H ‹_›) O)) ?_
  rintro ⟨z1,z2,z3,z4⟩
  dsimp only
  refine R.s O (s.fR 1 _ O O O (fun _ _=>rfl) (.inl aj) (fun w hw=>(af (Sl.one (hw.bN 0 O)) (af (Sl.one (hw.bN 1 O)) (af (Sl.one (hw.bN 2 O)) (af (Sl.one (hw.bN 3 O)) (af O (af O aO))))))) O O O) fun _=>?_
  refine R.u 1 O<|R.nil ?_
  have hz:jI r p=((dS (⟨(without r.ao (aS r p).1.ID),r.Things,r.Held,r.Notes,r.ae,r.ah⟩:aB)),0):=by (unfold jI;(repeat' split) <;> rfl)
  rw [hz]
  exact R.w2 (z1,z2,z3,z4) [4] bI O Tryz.results59 (RV.cell 1 O O aj) (RV.tmp O) O O O (dy O (iJ O))
 refine R.q (q.dW O O Tryz.underlying38) O<|R.nil<|R.az O O<|R.reg O<|R.q (q.build ec O O) O<|R.u 1 O<|R.s O (s.st 1 _ O O O O (.inl aj) O O O O) fun _=>?_
 refine R.u 1 O<|R.nil<|R.mp (fun _ hw=>hw.a8 (α:=ak))<|R.mp (fun _ hw=>hw.a8 (α:=aF))<|R.mp (fun _ hw=>hw.a8 (α:=Held))<|R.mp (fun _ hw=>hw.a8 (α:=Note)) ?_
 have hz:jI r p=((⟨[],[],[],[],0,0⟩:aB),(aS r p).2):=by (unfold jI;(repeat' split) <;> first|rfl|(exfalso;omega)|(simp_all;done))
 rw [hz]
 exact R.w2 ((nS),(nS),(nS),(nS)) [4] gj O Tryz.results59 (RV.cell 1 O O aj) (RV.tmp O) O O O (dy O O)
theorem Dw (bU bJ bK bL:Value)(r:aB)(p:Place)(w:World)(own:List Nat)(H:HN w own [] [ag.ls bU r.ao,ag.ls bJ r.Things,ag.ls bK r.Held,ag.ls bL r.Notes])(hk:Ok r):RC Tryz.prog 60 #[.agg #[bU,bJ,bK,bL,iV r.ae,iV r.ah],.agg #[iV p.aA,iV p.Slot]] H (fun z:Value×Value×Value×Value => .tuple #[.agg #[z.1,z.2.1,z.2.2.1,z.2.2.2,iV (ff r p).1.ae,iV (ff r p).1.ah],dh (ff r p).2]) (fun _=>[]) (fun z=>[ag.ls z.1 (ff r p).1.ao,ag.ls z.2.1 (ff r p).1.Things,ag.ls z.2.2.1 (ff r p).1.Held,ag.ls z.2.2.2 (ff r p).1.Notes]):=by
 have eJ:=H.ck 0 rfl
 have dK:=H.ck 1 rfl
 have fI:=H.ck 2 rfl
 have eK:=H.ck 3 rfl
 have bw:=hk.wl;have bt:=hk.tl;have bh:=hk.hl;have bn:=hk.nl;have KV:=hk.w0;have KW:=hk.w1;have KX:=hk.t0;have KY:=hk.t1
 have hkd:Ok (⟨r.ao.filter (fun x => !(fun (x:ak)=>decide (x.ID∈(kA (aS r p).1.ID r.ao))) x),r.Things,r.Held,r.Notes,r.ae,r.ah⟩:aB):=hk.cut (aS r p).1.ID
 refine R.bD [(0,.agg #[bU,bJ,bK,bL,iV r.ae,iV r.ah]),(1,.agg #[iV p.aA,iV p.Slot])] Tryz.func60 O O O O H<|R.reg O<|R.s O (s.box O O O) fun b1=>?_
 refine R.s O (s.box O O O) fun b2=>?_
 refine R.s O (s.alloc dB O O) fun b3=>?_
 refine R.u 1 O<|R.nil<|R.reg O<|R.q (q.cW 2 O O aj) O<|R.q (q.cW 1 O O bO) O<|R.c (q.call tN O O (fun w hw=>(qT _ _ _ _ r p w (hw.bN 0 O) (hw.bN 1 O) (hw.bN 2 O) (hw.bN 3 O) ‹_›))) O<|R.u 3 O<|?_
 refine R.s O (s.alloc bR O O) fun b4=>?_
 refine R.s O (s.st 0 _ O O O O (.inl aN) O O O O) fun _=>?_
 refine R.u 1 O<|R.nil<|R.reg O<|R.u 1 O<|?_
 by_cases h1:(aS r p).2=0
 .
  refine R.q (q.dq O O Tryz.underlying38) O<|R.nil<|R.aC O O<|R.reg O<|R.q (q.aP O bq O) O<|R.q (q.ld 3 O O cb O) O<|R.q (q.aP O bX O) O<|R.q (q.ld 0 O O au O) O<|R.s O (s.vU O8 O O (fun w hw=>BD _ r.ao (aS r p).1.ID w (hw.bN 0 O) (by omega)) O) fun v1=>?_
  refine R.s O (s.alloc ze O O) fun b5=>?_
  refine R.s O (s.fR 0 _ O O O (fun w hw=>Sl.cq (hw.row 1 O)) (.inr ⟨nJ,rfl⟩) (fun w hw=>(af (Sl.one (hw.row 1 O)) aO)) O O O) fun _=>?_
  refine R.nil<|R.reg O<|R.q (q.aP O bq O) O<|R.q (q.ld 5 O O cb O) O<|R.s O (s.aT mH [0] _ _ _ O O O wu O O (fun w own hw H=>jJ bU r.ao w own H (by omega)) O) fun z1=>?_
  refine R.q (q.LR (cap:=[.pointer (some ⟨b5,0,none⟩)]) O O) O<|R.s O (s.aT fj [] _ _ _ O O O O9 O O (fun w own hw H=>vt z1 r.ao (fun (x:ak)=>decide (x.ID∈(kA (aS r p).1.ID r.ao))) _ _ Pb w own H (fun W x hU=>yM x _ (kA (aS r p).1.ID r.ao) _ W (hw.wh 1 0 O O (by decide) hU) (Own.sl (hw.wh 2 0 O O (by decide) hU)) ) (by omega)) O) fun z2=>?_
  refine R.q (q.aP O bq O) O<|R.s O (s.fR 6 _ O O O (fun w hw=>Sl.cq (hw.row 0 O)) (.inr ⟨cb,rfl⟩) (fun w hw=>(af (Sl.one (hw.row 0 O)) aO)) O O O) fun _=>?_
  refine R.nil<|R.reg O<|R.q (q.cW 6 O O aj) O<|R.s O (s.pre (fun _ hw=>hw.cX 0 _ O O) (s.aT mH [0,2,3,4] _ _ _ O O O Jo O O (fun w own hw H=>by have PQ:=sf z2 bJ bK bL (⟨r.ao.filter (fun x => !(fun (x:ak)=>decide (x.ID∈(kA (aS r p).1.ID r.ao))) x),r.Things,r.Held,r.Notes,r.ae,r.ah⟩:aB) w own H ‹_›;exact PQ) O)) ?_
  rintro ⟨z3,z4,z5,z6⟩
  dsimp only
  refine R.s O (s.fR 3 _ O O O (fun _ _=>rfl) (.inl aj) (fun w hw=>(af (Sl.one (hw.bN 0 O)) (af (Sl.one (hw.bN 1 O)) (af (Sl.one (hw.bN 2 O)) (af (Sl.one (hw.bN 3 O)) (af O (af O aO))))))) O O O) fun _=>?_
  refine R.u 1 O<|R.nil ?_
  have hz:ff r p=((dS (⟨r.ao.filter (fun x => !(fun (x:ak)=>decide (x.ID∈(kA (aS r p).1.ID r.ao))) x),r.Things,r.Held,r.Notes,r.ae,r.ah⟩:aB)),0):=by (unfold ff;(repeat' split) <;> rfl)
  rw [hz]
  exact R.w2 (z3,z4,z5,z6) [6] bI O Tryz.results60 (RV.cell 3 O O aj) (RV.tmp O) O O O (dy O (iJ O))
 refine R.q (q.dW O O Tryz.underlying38) O<|R.nil<|R.az O O<|R.reg O<|R.q (q.build ec O O) O<|R.u 1 O<|R.s O (s.st 1 _ O O O O (.inl aj) O O O O) fun _=>?_
 refine R.u 1 O<|R.nil<|R.mp (fun _ hw=>hw.a8 (α:=ak))<|R.mp (fun _ hw=>hw.a8 (α:=aF))<|R.mp (fun _ hw=>hw.a8 (α:=Held))<|R.mp (fun _ hw=>hw.a8 (α:=Note)) ?_
 have hz:ff r p=((⟨[],[],[],[],0,0⟩:aB),(aS r p).2):=by (unfold ff;(repeat' split) <;> first|rfl|(exfalso;omega)|(simp_all;done))
 rw [hz]
 exact R.w2 ((nS),(nS),(nS),(nS)) [4] gj O Tryz.results60 (RV.cell 1 O O aj) (RV.tmp O) O O O (dy O O)
theorem xL (bU bJ bK bL:Value)(r:aB)(p:Place)(kind:Int)(rights:Int)(w:World)(yJ:Sl w bU r.ao)(BG:Sl w bJ r.Things)(Fp:Sl w bK r.Held)(MP:Sl w bL r.Notes)(hk:Ok r)(hr:0<=rights/\rights<=7):Calls Tryz.prog 125 #[.agg #[bU,bJ,bK,bL,iV r.ae,iV r.ah],.agg #[iV p.aA,iV p.Slot],iV kind,iV rights] w fun e w'=>e = .returned (.tuple #[ak.val (cB r p kind rights).1,iV (cB r p kind rights).2.1,dh (cB r p kind rights).2.2])/\Ext w w':=by
 have bw:=hk.wl;have bt:=hk.tl;have bh:=hk.hl;have bn:=hk.nl;have KV:=hk.w0;have KW:=hk.w1;have KX:=hk.t0;have KY:=hk.t1
 refine R.enter [] [(0,.agg #[bU,bJ,bK,bL,iV r.ae,iV r.ah]),(1,.agg #[iV p.aA,iV p.Slot]),(2,iV kind),(3,iV rights)] Tryz.func125 O O O O<|R.reg O<|R.s O (s.box O O O) fun b1=>?_
 refine R.s O (s.box O O O) fun b2=>?_
 refine R.s O (s.alloc bR O O) fun b3=>?_
 refine R.u 2 O<|R.nil<|R.reg O<|R.q (q.cW 2 O O aj) O<|R.q (q.cW 1 O O bO) O<|R.c (q.call tN O O (fun w hw=>(qT _ _ _ _ r p w ((fun _=>Wd.old yJ) w hw) ((fun _=>Wd.old BG) w hw) ((fun _=>Wd.old Fp) w hw) ((fun _=>Wd.old MP) w hw) ‹_›))) O<|R.u 3 O<|?_
 refine R.s O (s.alloc bR O O) fun b4=>?_
 refine R.s O (s.st 0 _ O O O O (.inl aN) O O O O) fun _=>?_
 refine R.u 1 O<|R.nil<|R.reg O<|R.u 1 O<|?_
 by_cases h1:(aS r p).2=0
 .
  have V7:=hk.get h1
  refine R.q (q.dq O O Tryz.underlying38) O<|R.nil<|R.aC O O<|R.reg O<|R.q (q.aP O du O) O<|R.q (q.ld 3 O O eR O) O<|R.q (q.LR (cap:=[.pointer (some ⟨b4,0,none⟩)]) O O) O<|?_
  rcases j3 (fun (t:aF)=>t.ID==(aS r p).1.aF) r.Things with ⟨gS,Ey⟩ | ⟨rx,Ew,gS,lW,vh,AV,TT⟩
  .
   refine R.c (q.call AF O O (fun w hw=>(cv (congrArg (Value.int .i64) gS) (iu _ r.Things (fun (t:aF)=>t.ID==(aS r p).1.aF) _ _ JC w ((fun _=>Wd.old BG) w hw) (fun W t hW=>xK t (aS r p).1 _ W (sL (hw.b 0 O) hW) ) )))) O<|R.u 1 O<|R.nil ?_
   refine R.reg O<|R.u 1 O<|R.q (q.lss (b:=true) O O (by decide)) O<|R.u 10 O<|R.nil<|R.az O O<|R.reg O<|R.q (q.build iT O O) O<|R.q (q.iface O br) O<|R.s O (s.st 1 _ O O O O (.inl aN) O O O O) fun _=>?_
   exact R.u 2 O<|R.nil<|R.Ry O Tryz.results125 (RV.cell 1 O O aN) (RV.tmp O) (RV.tmp O) (congrArg ak.val (show (⟨0,0,0,0,0⟩:ak)=(cB r p kind rights).1 from by (rw [qQ ‹_› Ey];rfl))) (rI (by (rw [qQ ‹_› Ey];done))) (dj (by decide) (by (rw [qQ ‹_› Ey];done)))
  refine R.c (q.call AF O O (fun w hw=>(cv (congrArg (Value.int .i64) gS) (iu _ r.Things (fun (t:aF)=>t.ID==(aS r p).1.aF) _ _ JC w ((fun _=>Wd.old BG) w hw) (fun W t hW=>xK t (aS r p).1 _ W (sL (hw.b 0 O) hW) ) )))) O<|R.u 1 O<|R.nil ?_
  refine R.reg O<|R.u 1 O<|R.q (q.cU O O) O<|R.u 1 O<|R.qg O (q.aP O du O) O<|R.qg O (q.ld 3 O O eR O) O<|R.u 1 O<|R.qg O (q.idx (i:=rx) (fun _=>Wd.old BG) O O kg O lW) O<|R.qg O (q.nD (j':=1) (fun _=>Wd.old BG) lW O wq O) O<|R.qg O (q.lw (fun _=>Wd.old BG) lW O au O) O<|R.u 1 O<|?_
  by_cases h2:Ew.Kind=kind
  .
   refine R.qg O (q.nB O O) O<|R.u 1 O<|R.nil<|R.aC O O<|R.reg O<|R.q (q.aP O jR O) O<|R.q (q.ld 0 O O au O) O<|R.u 1 O<|?_
   rcases Bool.eq_false_or_eq_true (je (aS r p).1.Rights rights) with h3|h3
   .
    refine R.c (q.call pQ O O (fun w hw=>(cv (congrArg Value.bool h3) (gG (aS r p).1.Rights rights w (by omega) (by omega))))) O<|R.u 1 O<|R.nil ?_
    refine R.aC O O<|R.reg O<|R.q (q.cW 0 O O aN) O<|R.u 1 O<|R.s O (s.st 1 _ O O O O (.inl aN) O O O O) fun _=>?_
    exact R.u 2 O<|R.nil<|R.Ry O Tryz.results125 (RV.cell 1 O O aN) (RV.tmp O) (RV.tmp O) (congrArg ak.val (show (aS r p).1=(cB r p kind rights).1 from by (rw [vF ‹_› lW vh AV ‹_› ‹_›];done))) (rI (by (rw [vF ‹_› lW vh AV ‹_› ‹_›];done))) (iJ (by (rw [vF ‹_› lW vh AV ‹_› ‹_›];done)))
   refine R.c (q.call pQ O O (fun w hw=>(cv (congrArg Value.bool h3) (gG (aS r p).1.Rights rights w (by omega) (by omega))))) O<|R.u 1 O<|R.nil ?_
   refine R.az O O<|R.reg O<|R.q (q.build iT O O) O<|R.q (q.iface O br) O<|R.s O (s.st 1 _ O O O O (.inl aN) O O O O) fun _=>?_
   exact R.u 2 O<|R.nil<|R.Ry O Tryz.results125 (RV.cell 1 O O aN) (RV.tmp O) (RV.tmp O) (congrArg ak.val (show (⟨0,0,0,0,0⟩:ak)=(cB r p kind rights).1 from by (rw [oO ‹_› lW vh AV ‹_› ‹_›];rfl))) (rI (by (rw [oO ‹_› lW vh AV ‹_› ‹_›];done))) (dj (by decide) (by (rw [oO ‹_› lW vh AV ‹_› ‹_›];done)))
  refine R.qg O (q.nA O O) O<|R.u 1 O<|R.nil<|R.az O O<|R.reg O<|R.q (q.build iT O O) O<|R.q (q.iface O br) O<|R.s O (s.st 1 _ O O O O (.inl aN) O O O O) fun _=>?_
  exact R.u 2 O<|R.nil<|R.Ry O Tryz.results125 (RV.cell 1 O O aN) (RV.tmp O) (RV.tmp O) (congrArg ak.val (show (⟨0,0,0,0,0⟩:ak)=(cB r p kind rights).1 from by (rw [qR ‹_› lW vh AV ‹_›];rfl))) (rI (by (rw [qR ‹_› lW vh AV ‹_›];done))) (dj (by decide) (by (rw [qR ‹_› lW vh AV ‹_›];done)))
 refine R.q (q.dW O O Tryz.underlying38) O<|R.nil<|R.az O O<|R.reg O<|R.q (q.build iT O O) O<|R.u 1 O<|R.s O (s.st 1 _ O O O O (.inl aN) O O O O) fun _=>?_
 exact R.u 2 O<|R.nil<|R.Ry O Tryz.results125 (RV.cell 1 O O aN) (RV.tmp O) (RV.tmp O) (congrArg ak.val (show (⟨0,0,0,0,0⟩:ak)=(cB r p kind rights).1 from by (rw [tg ‹_›];rfl))) (rI (by (rw [tg ‹_›];done))) (rE (by (rw [tg ‹_›];done)))
theorem Fq (bU bJ bK bL:Value)(r:aB)(p:Place)(d:ByteArray)(w:World)(own:List Nat)(H:HN w own [] [ag.ls bU r.ao,ag.ls bJ r.Things,ag.ls bK r.Held,ag.ls bL r.Notes])(hk:Ok r):RC Tryz.prog 61 #[.agg #[bU,bJ,bK,bL,iV r.ae,iV r.ah],.agg #[iV p.aA,iV p.Slot],.string d] H (fun z:Value×Value×Value×Value => .tuple #[.agg #[z.1,z.2.1,z.2.2.1,z.2.2.2,iV (fY r p d).1.ae,iV (fY r p d).1.ah],dh (fY r p d).2]) (fun _=>[]) (fun z=>[ag.ls z.1 (fY r p d).1.ao,ag.ls z.2.1 (fY r p d).1.Things,ag.ls z.2.2.1 (fY r p d).1.Held,ag.ls z.2.2.2 (fY r p d).1.Notes]):=by
 have eJ:=H.ck 0 rfl
 have dK:=H.ck 1 rfl
 have fI:=H.ck 2 rfl
 have eK:=H.ck 3 rfl
 have bw:=hk.wl;have bt:=hk.tl;have bh:=hk.hl;have bn:=hk.nl;have KV:=hk.w0;have KW:=hk.w1;have KX:=hk.t0;have KY:=hk.t1
 refine R.bD [(0,.agg #[bU,bJ,bK,bL,iV r.ae,iV r.ah]),(1,.agg #[iV p.aA,iV p.Slot]),(2,.string d)] Tryz.func61 O O O O H<|R.reg O<|R.s O (s.box O O O) fun b1=>?_
 refine R.s O (s.box O O O) fun b2=>?_
 refine R.s O (s.alloc dB O O) fun b3=>?_
 refine R.u 1 O<|R.nil<|R.reg O<|R.q (q.cW 2 O O aj) O<|R.q (q.cW 1 O O bO) O<|R.c (q.call EJ O O (fun w hw=>(xL _ _ _ _ r p 1 2 w (hw.bN 0 O) (hw.bN 1 O) (hw.bN 2 O) (hw.bN 3 O) ‹_› (by omega)))) O<|R.u 4 O<|?_
 refine R.s O (s.alloc bR O O) fun b4=>?_
 refine R.s O (s.st 0 _ O O O O (.inl aN) O O O O) fun _=>?_
 refine R.u 2 O<|R.nil<|R.reg O<|R.u 1 O<|?_
 by_cases h1:(cB r p 1 2).2.2=0
 .
  obtain ⟨m1,m2,m3,i,ix,ik,ih,ii,id,ib⟩:=qS h1;have iB:=(List.getElem?_eq_some_iff.1 ih).1
  refine R.q (q.dq O O Tryz.underlying38) O<|R.nil<|R.aC O O<|R.reg O<|R.u 1 O<|R.q (q.iy O Tryz.underlying9) O<|?_
  by_cases h2:8<d.size
  .
   refine R.q (q.eM O O) O<|R.nil<|R.az O O<|R.reg O<|R.q (q.build ec O O) O<|R.q (q.iface O br) O<|R.s O (s.st 1 _ O O O O (.inl aj) O O O O) fun _=>?_
   refine R.u 1 O<|R.nil<|R.mp (fun _ hw=>hw.a8 (α:=ak))<|R.mp (fun _ hw=>hw.a8 (α:=aF))<|R.mp (fun _ hw=>hw.a8 (α:=Held))<|R.mp (fun _ hw=>hw.a8 (α:=Note)) ?_
   have hz:fY r p d=((⟨[],[],[],[],0,0⟩:aB),2):=by (unfold fY gU;(repeat' split) <;> rfl)
   rw [hz]
   exact R.w2 ((nS),(nS),(nS),(nS)) [4] gj O Tryz.results61 (RV.cell 1 O O aj) (RV.tmp O) O O O (dy O (dj (by decide) O))
  refine R.q (q.ey O O) O<|R.nil<|R.aC O O<|R.reg O<|R.q (q.aP O du O) O<|R.q (q.ld 3 O O eR O) O<|R.s O (s.aT gJ [1] _ _ _ O O O wv O O (fun w own hw H=>ji bJ r.Things w own H (by omega)) O) fun z1=>?_
  refine R.q (q.aP O du O) O<|R.s O (s.fR 4 _ O O O (fun w hw=>Sl.cq (hw.row 0 O)) (.inr ⟨eR,rfl⟩) (fun w hw=>(af (Sl.one (hw.row 0 O)) aO)) O O O) fun _=>?_
  refine R.nil<|R.reg O<|R.q (q.aP O du O) O<|R.q (q.ld 4 O O eR O) O<|R.u 2 O<|?_
  obtain ⟨x1,hx1⟩:∃z,r.Things[(cB r p 1 2).2.1.toNat]? = some z:=⟨_,List.getElem?_eq_getElem (by omega)⟩
  refine R.q (q.idx (i:=(cB r p 1 2).2.1.toNat) (bE 0 O) O O kg (by omega) hx1) O<|R.q (q.nD (j':=2) (bE 0 O) hx1 O wt O) O<|R.s O (s.stP (o:=2) (z:=(⟨x1.ID,x1.Kind,d⟩:aF)) 0 _ O hx1 O O O O O (by simp [Value.oneCell']) (.inr ⟨bF,rfl⟩) O) fun _=>?_
  refine R.nil<|R.reg O<|R.q (q.cW 4 O O aj) O<|R.s O (s.fR 2 _ O O O (fun _ _=>rfl) (.inl aj) (fun w hw=>(af (Sl.one (hw.bN 0 O)) (af (Sl.one (hw.row 0 O)) (af (Sl.one (hw.bN 2 O)) (af (Sl.one (hw.bN 3 O)) (af O (af O aO))))))) O O O) fun _=>?_
  refine R.u 1 O<|R.nil<|R.mp (fun _ hw=>hw.cX 0 _ O O) ?_
  have hz:fY r p d=((⟨r.ao,(r.Things.set (cB r p 1 2).2.1.toNat (⟨x1.ID,x1.Kind,d⟩:aF)),r.Held,r.Notes,r.ae,r.ah⟩:aB),0):=by (unfold fY gU;(repeat' split) <;> first|rfl|(exfalso;omega)|(simp_all;done))
  rw [hz]
  exact R.w2 (bU,z1,bK,bL) [4] [1,0,3,4] O Tryz.results61 (RV.cell 1 O O aj) (RV.tmp O) O O O (dy O (iJ O))
 refine R.q (q.dW O O Tryz.underlying38) O<|R.nil<|R.az O O<|R.reg O<|R.q (q.build ec O O) O<|R.u 1 O<|R.s O (s.st 1 _ O O O O (.inl aj) O O O O) fun _=>?_
 refine R.u 1 O<|R.nil<|R.mp (fun _ hw=>hw.a8 (α:=ak))<|R.mp (fun _ hw=>hw.a8 (α:=aF))<|R.mp (fun _ hw=>hw.a8 (α:=Held))<|R.mp (fun _ hw=>hw.a8 (α:=Note)) ?_
 have hz:fY r p d=((⟨[],[],[],[],0,0⟩:aB),(cB r p 1 2).2.2):=by (unfold fY gU;(repeat' split) <;> first|rfl|(exfalso;omega)|(simp_all;done))
 rw [hz]
 exact R.w2 ((nS),(nS),(nS),(nS)) [4] gj O Tryz.results61 (RV.cell 1 O O aj) (RV.tmp O) O O O (dy O O)
theorem Ij (bU bJ bK bL:Value)(r:aB)(p:Place)(d:ByteArray)(slot:Int)(rights:Int)(w:World)(own:List Nat)(H:HN w own [] [ag.ls bU r.ao,ag.ls bJ r.Things,ag.ls bK r.Held,ag.ls bL r.Notes])(hk:Ok r):RC Tryz.prog 62 #[.agg #[bU,bJ,bK,bL,iV r.ae,iV r.ah],.agg #[iV p.aA,iV p.Slot],.string d,iV slot,iV rights] H (fun z:Value×Value×Value×Value => .tuple #[.agg #[z.1,z.2.1,z.2.2.1,z.2.2.2,iV (dL r p d slot rights).1.ae,iV (dL r p d slot rights).1.ah],dh (dL r p d slot rights).2]) (fun _=>[]) (fun z=>[ag.ls z.1 (dL r p d slot rights).1.ao,ag.ls z.2.1 (dL r p d slot rights).1.Things,ag.ls z.2.2.1 (dL r p d slot rights).1.Held,ag.ls z.2.2.2 (dL r p d slot rights).1.Notes]):=by
 have eJ:=H.ck 0 rfl
 have dK:=H.ck 1 rfl
 have fI:=H.ck 2 rfl
 have eK:=H.ck 3 rfl
 have bw:=hk.wl;have bt:=hk.tl;have bh:=hk.hl;have bn:=hk.nl;have KV:=hk.w0;have KW:=hk.w1;have KX:=hk.t0;have KY:=hk.t1
 refine R.bD [(0,.agg #[bU,bJ,bK,bL,iV r.ae,iV r.ah]),(1,.agg #[iV p.aA,iV p.Slot]),(2,.string d),(3,iV slot),(4,iV rights)] Tryz.func62 O O O O H<|R.reg O<|R.s O (s.box O O O) fun b1=>?_
 refine R.s O (s.box O O O) fun b2=>?_
 refine R.s O (s.alloc dB O O) fun b3=>?_
 refine R.u 1 O<|R.nil<|R.reg O<|R.q (q.cW 2 O O aj) O<|R.q (q.cW 1 O O bO) O<|R.c (q.call EJ O O (fun w hw=>(xL _ _ _ _ r p 2 2 w (hw.bN 0 O) (hw.bN 1 O) (hw.bN 2 O) (hw.bN 3 O) ‹_› (by omega)))) O<|R.u 4 O<|?_
 refine R.s O (s.alloc bR O O) fun b4=>?_
 refine R.s O (s.st 0 _ O O O O (.inl aN) O O O O) fun _=>?_
 refine R.u 2 O<|R.nil<|R.reg O<|R.u 1 O<|?_
 by_cases h1:(cB r p 2 2).2.2=0
 .
  have mz:=qS h1;have mr:=hk.get mz.1;rw [<- mz.2.1] at mr
  refine R.q (q.dq O O Tryz.underlying38) O<|R.nil<|R.aC O O<|R.reg O<|R.u 1 O<|R.q (q.iy O Tryz.underlying9) O<|?_
  by_cases h2:8<d.size
  .
   refine R.q (q.eM O O) O<|R.nil<|R.az O O<|R.reg O<|R.q (q.build ec O O) O<|R.q (q.iface O br) O<|R.s O (s.st 1 _ O O O O (.inl aj) O O O O) fun _=>?_
   refine R.u 1 O<|R.nil<|R.mp (fun _ hw=>hw.a8 (α:=ak))<|R.mp (fun _ hw=>hw.a8 (α:=aF))<|R.mp (fun _ hw=>hw.a8 (α:=Held))<|R.mp (fun _ hw=>hw.a8 (α:=Note)) ?_
   have hz:dL r p d slot rights=((⟨[],[],[],[],0,0⟩:aB),2):=by (unfold dL;(repeat' split) <;> rfl)
   rw [hz]
   exact R.w2 ((nS),(nS),(nS),(nS)) [4] gj O Tryz.results62 (RV.cell 1 O O aj) (RV.tmp O) O O O (dy O (dj (by decide) O))
  refine R.q (q.ey O O) O<|R.nil<|R.aC O O<|R.reg O<|R.u 1 O<|R.nil<|R.reg O<|R.q (q.aP O dv O) O<|R.q (q.ld 3 O O eB O) O<|R.q (q.len' (dx 3 O) O Tryz.underlying46) O<|R.u 1 O<|R.nil<|R.loop (fun g_:Nat×Nat=>[(2,.string d),(3,iV slot),(4,iV rights),(5,.pointer (some ⟨b1,0,none⟩)),(6,.pointer (some ⟨b2,0,none⟩)),(10,.pointer (some ⟨b3,0,none⟩)),(12,.pointer (some ⟨b4,0,none⟩)),(15,iV (g_.2:Int)),(39,bL),(40,iV (r.Notes.length:Int)),(41,iV (g_.1:Int))]) (fun g_=>[ag.box b4 [iV (cB r p 2 2).1.ID,iV (cB r p 2 2).1.aF,iV (cB r p 2 2).1.Rights,iV (cB r p 2 2).1.aQ,iV (cB r p 2 2).1.From] 127,ag.box b3 Hb 48,ag.box b2 (jL p) 32,ag.box b1 [bU,bJ,bK,bL,iV r.ae,iV r.ah] 48,ag.held w own]) (fun g_=>[ag.ls bU r.ao,ag.ls bJ r.Things,ag.ls bK r.Held,ag.ls bL r.Notes]) (fun g_=>g_.1<=r.Notes.length/\g_.2=gh (r.Notes.take g_.1) (cB r p 2 2).1.aF) (fun g_=>r.Notes.length-g_.1) (0,0) O (by exact ⟨by omega,by simp [gh]⟩) (sF O) (iz gJ bI O) ?_
  rintro ⟨k,c⟩ ⟨hk1,HC⟩
  dsimp only at *
  have hc1:c<=k:=by rw [HC];exact MO
  refine R.reg O<|?_
  by_cases h3:k<r.Notes.length
  .
   refine R.q (q.dD O O) O<|R.nil<|R.az O O<|R.reg O<|?_
   obtain ⟨x1,hx1⟩:∃z,r.Notes[k]? = some z:=⟨_,List.getElem?_eq_getElem (by omega)⟩
   refine R.q (q.idx (i:=k) (dx 3 O) O O gK O hx1) O<|R.q (q.gk (ds:=vP x1) (dx 3 O) hx1 O dH O) O<|R.s O (s.alloc eT O O) fun b5=>?_
   refine R.s O (s.st 0 _ O O O O (.inl dH) O O O O) fun _=>?_
   refine R.nil<|R.reg O<|R.q (q.aP O qz O) O<|R.q (q.ld 0 O O au O) O<|R.q (q.aP O fU O) O<|R.q (q.ld 1 O O au O) O<|?_
   by_cases h4:x1.Port=(cB r p 2 2).1.aF
   .
    refine R.q (q.fJ O O) O<|R.nil<|R.az O O<|R.reg O<|R.u 1 O<|R.q (q.bC (r:=((c+1:Nat):Int)) O O) O<|R.u 1 O<|R.nil<|R.reg O<|R.q (q.bC (r:=((k+1:Nat):Int)) O O) O<|R.u 1 O<|R.nil<|R.back ((k+1),(c+1)) O (by (exact ⟨by omega,by rw [KR hx1 ‹_›,HC]⟩)) (by dsimp only;omega) (sF O) (aD rz bI O)
   refine R.q (q.eX O O) O<|R.nil<|R.aC O O<|R.reg O<|R.q (q.bC (r:=((k+1:Nat):Int)) O O) O<|R.u 1 O<|R.nil<|R.back ((k+1),c) O (by (exact ⟨by omega,by rw [Ic hx1 ‹_›,HC]⟩)) (by dsimp only;omega) (sF O) (aD rz bI O)
  refine R.q (q.cU O O) O<|R.nil<|R.aC O O<|R.reg O<|R.u 1 O<|?_
  by_cases h5:c=3
  .
   refine R.q (q.fJ O O) O<|R.nil<|R.az O O<|R.reg O<|R.q (q.build ec O O) O<|R.q (q.iface O br) O<|R.s O (s.st 1 _ O O O O (.inl aj) O O O O) fun _=>?_
   refine R.u 1 O<|R.nil<|R.mp (fun _ hw=>hw.a8 (α:=ak))<|R.mp (fun _ hw=>hw.a8 (α:=aF))<|R.mp (fun _ hw=>hw.a8 (α:=Held))<|R.mp (fun _ hw=>hw.a8 (α:=Note)) ?_
   have hz:dL r p d slot rights=((⟨[],[],[],[],0,0⟩:aB),9):=by (rw [List.take_of_length_le (by omega)] at HC;subst HC;unfold dL;(repeat' split) <;> rfl)
   rw [hz]
   exact R.w2 ((nS),(nS),(nS),(nS)) [4] gj O Tryz.results62 (RV.cell 1 O O aj) (RV.tmp O) O O O (dy O (dj (by decide) O))
  refine R.q (q.eX O O) O<|R.nil<|R.aC O O<|R.reg O<|R.q (q.aP O fU O) O<|R.q (q.ld 0 O O au O) O<|R.u 1 O<|R.q (q.aP O iU O) O<|R.q (q.ld 0 O O au O) O<|R.q (q.build Ga O O) O<|R.s O (s.alloc eT O O) fun b6=>?_
  refine R.s O (s.st 0 _ O O O O (.inl dH) O O O O) fun _=>?_
  refine R.nil<|R.reg O<|R.u 1 O<|?_
  by_cases h6:slot<0
  .
   refine R.q (q.I1 O O) O<|R.nil<|R.aC O O<|R.fP (fuel:=8) ny O O mixed O<|D.q (i:=0) O (aD ny bI O) O (q.aP O dv O) O<|D.q (i:=3) O (aD ny bI O) O (q.cW 0 O O dH) O<|D.two (i:=1) (j:=4) O O ?_ ?_
   .
    refine Do.s (s.c (Qt.a (q.ld 4 O O eB O)) O) (fun _=>(aD ny bI O)) O fun _=>?_
    refine D.two (i:=2) (j:=4) O O ?_ ?_
    .
     refine Do.s (s.aT rk [3] _ _ _ O O O oA O O (fun w own hw H=>fh bL r.Notes w own H (by omega)) O) (fun _=>(aD sE bI O)) O fun z2=>?_
     refine D.one (i:=4) O<|Do.s (s.bs (l:=([(⟨((cB r p 2 2).1).aF,d,(cB r p 2 2).1.aQ,0⟩:Note)]:List Note)) gK eT O O O O O O O) (fun _=>(aD o5 bI O)) O fun b7=>?_
     refine D.one (i:=5) O<|Do.s (s.app 1 _ O O O (bE 0 O) ki (by (simp;omega)) (by (simp;omega)) (fun _=>rfl) O) (fun _=>(aD o5 bI O)) O fun v1=>?_
     refine D.q (i:=6) O (aD o5 bI O) O (q.aP O dv O) O<|D.one (i:=7) O<|Do.s (s.fR 6 _ O O O (fun w hw=>Sl.cq (hw.row 1 O)) (.inr ⟨eB,rfl⟩) (fun w hw=>(af (Sl.one (hw.row 1 O)) aO)) O O O) (fun _=>(aD o5 bI O)) O fun _=>?_
     refine D.done<|R.reg O<|R.q (q.cW 6 O O aj) O<|R.s O (s.fR 4 _ O O O (fun _ _=>rfl) (.inl aj) (fun w hw=>(af (Sl.one (hw.bN 0 O)) (af (Sl.one (hw.bN 1 O)) (af (Sl.one (hw.bN 2 O)) (af (Sl.one (hw.row 1 O)) (af O (af O aO))))))) O O O) fun _=>?_
     refine R.u 1 O<|R.nil<|R.mp (fun _ hw=>hw.cX 1 _ O O) ?_
     have hz:dL r p d slot rights=((⟨r.ao,r.Things,r.Held,(r.Notes++([(⟨((cB r p 2 2).1).aF,d,(cB r p 2 2).1.aQ,0⟩:Note)])),r.ae,r.ah⟩:aB),0):=by (rw [List.take_of_length_le (by omega)] at HC;subst HC;unfold dL;(repeat' split) <;> rfl)
     rw [hz]
     exact R.w2 (bU,bJ,bK,v1) [6] vO O Tryz.results62 (RV.cell 3 O O aj) (RV.tmp O) O O O (dy O (iJ O))
    refine Do.s (s.bs (l:=([(⟨((cB r p 2 2).1).aF,d,(cB r p 2 2).1.aQ,0⟩:Note)]:List Note)) gK eT O O O O O O O) (fun _=>(aD sE bI O)) O fun b8=>?_
    refine D.one (i:=2) O<|Do.s (s.aT mH [3] _ _ _ O O O oA O O (fun w own hw H=>fh bL r.Notes w own H (by omega)) O) (fun _=>(aD o5 bI O)) O fun z3=>?_
    refine D.one (i:=5) O<|Do.s (s.app 0 _ O O O (bE 1 O) ki (by (simp;omega)) (by (simp;omega)) (fun _=>rfl) O) (fun _=>(aD o5 bI O)) O fun v2=>?_
    refine D.q (i:=6) O (aD o5 bI O) O (q.aP O dv O) O<|D.one (i:=7) O<|Do.s (s.fR 6 _ O O O (fun w hw=>Sl.cq (hw.row 0 O)) (.inr ⟨eB,rfl⟩) (fun w hw=>(af (Sl.one (hw.row 0 O)) aO)) O O O) (fun _=>(aD o5 bI O)) O fun _=>?_
    refine D.done<|R.reg O<|R.q (q.cW 6 O O aj) O<|R.s O (s.fR 4 _ O O O (fun _ _=>rfl) (.inl aj) (fun w hw=>(af (Sl.one (hw.bN 0 O)) (af (Sl.one (hw.bN 1 O)) (af (Sl.one (hw.bN 2 O)) (af (Sl.one (hw.row 0 O)) (af O (af O aO))))))) O O O) fun _=>?_
    refine R.u 1 O<|R.nil<|R.mp (fun _ hw=>hw.cX 0 _ O O) ?_
    have hz:dL r p d slot rights=((⟨r.ao,r.Things,r.Held,(r.Notes++([(⟨((cB r p 2 2).1).aF,d,(cB r p 2 2).1.aQ,0⟩:Note)])),r.ae,r.ah⟩:aB),0):=by (rw [List.take_of_length_le (by omega)] at HC;subst HC;unfold dL;(repeat' split) <;> rfl)
    rw [hz]
    exact R.w2 (bU,bJ,bK,v2) [6] vO O Tryz.results62 (RV.cell 3 O O aj) (RV.tmp O) O O O (dy O (iJ O))
   refine Do.s (s.bs (l:=([(⟨((cB r p 2 2).1).aF,d,(cB r p 2 2).1.aQ,0⟩:Note)]:List Note)) gK eT O O O O O O O) (fun _=>(aD sE bI O)) O fun b9=>?_
   refine D.one (i:=1) O<|Do.s (s.c (Qt.a (q.ld 5 O O eB O)) O) (fun _=>(aD sE bI O)) O fun _=>?_
   refine D.one (i:=2) O<|Do.s (s.aT mH [3] _ _ _ O O O oA O O (fun w own hw H=>fh bL r.Notes w own H (by omega)) O) (fun _=>(aD o5 bI O)) O fun z4=>?_
   refine D.one (i:=5) O<|Do.s (s.app 0 _ O O O (bE 1 O) ki (by (simp;omega)) (by (simp;omega)) (fun _=>rfl) O) (fun _=>(aD o5 bI O)) O fun v3=>?_
   refine D.q (i:=6) O (aD o5 bI O) O (q.aP O dv O) O<|D.one (i:=7) O<|Do.s (s.fR 6 _ O O O (fun w hw=>Sl.cq (hw.row 0 O)) (.inr ⟨eB,rfl⟩) (fun w hw=>(af (Sl.one (hw.row 0 O)) aO)) O O O) (fun _=>(aD o5 bI O)) O fun _=>?_
   refine D.done<|R.reg O<|R.q (q.cW 6 O O aj) O<|R.s O (s.fR 4 _ O O O (fun _ _=>rfl) (.inl aj) (fun w hw=>(af (Sl.one (hw.bN 0 O)) (af (Sl.one (hw.bN 1 O)) (af (Sl.one (hw.bN 2 O)) (af (Sl.one (hw.row 0 O)) (af O (af O aO))))))) O O O) fun _=>?_
   refine R.u 1 O<|R.nil<|R.mp (fun _ hw=>hw.cX 0 _ O O) ?_
   have hz:dL r p d slot rights=((⟨r.ao,r.Things,r.Held,(r.Notes++([(⟨((cB r p 2 2).1).aF,d,(cB r p 2 2).1.aQ,0⟩:Note)])),r.ae,r.ah⟩:aB),0):=by (rw [List.take_of_length_le (by omega)] at HC;subst HC;unfold dL;(repeat' split) <;> rfl)
   rw [hz]
   exact R.w2 (bU,bJ,bK,v3) [6] vO O Tryz.results62 (RV.cell 3 O O aj) (RV.tmp O) O O O (dy O (iJ O))
  refine R.q (q.He O O) O<|R.nil<|R.az O O<|R.reg O<|R.q (q.aP O jR O) O<|R.q (q.ld 1 O O au O) O<|?_
  rcases Bool.eq_false_or_eq_true (je (cB r p 2 2).1.Rights 4) with h7|h7
  .
   refine R.c (q.call pQ O O (fun w hw=>(cv (congrArg Value.bool h7) (gG (cB r p 2 2).1.Rights 4 w (by omega) (by omega))))) O<|R.u 1 O<|R.nil ?_
   refine R.aC O O<|R.reg O<|R.q (q.cW 4 O O aj) O<|R.q (q.aP O fw O) O<|R.q (q.ld 3 O O au O) O<|R.u 1 O<|R.q (q.build wn O O) O<|R.c (q.call tN O O (fun w hw=>(qT _ _ _ _ r (⟨p.aA,slot⟩:Place) w (hw.bN 0 O) (hw.bN 1 O) (hw.bN 2 O) (hw.bN 3 O) ‹_›))) O<|R.u 3 O<|?_
   refine R.s O (s.alloc bR O O) fun b10=>?_
   refine R.s O (s.st 0 _ O O O O (.inl aN) O O O O) fun _=>?_
   refine R.u 1 O<|R.nil<|R.reg O<|R.u 1 O<|?_
   by_cases h8:(aS r (⟨p.aA,slot⟩:Place)).2=0
   .
    have Wz:=hk.get h8
    have hn0:∀x,(fB r x ⟨0,0⟩).Notes.length<=2000:=fun x=>hk.nl
    have hnz:=hn0 (derived (aS r ⟨p.aA,slot⟩).1 r.ae rights 0).1
    refine R.q (q.dq O O Tryz.underlying38) O<|R.nil<|R.aC O O<|R.reg O<|R.q (q.aP O cR O) O<|R.q (q.ld 5 O O au O) O<|?_
    by_cases h9:999<r.ae
    .
     refine R.q (q.eM O O) O<|R.nil<|R.az O O<|R.reg O<|R.q (q.build ec O O) O<|R.q (q.iface O br) O<|R.s O (s.st 3 _ O O O O (.inl aj) O O O O) fun _=>?_
     refine R.u 1 O<|R.nil<|R.mp (fun _ hw=>hw.a8 (α:=ak))<|R.mp (fun _ hw=>hw.a8 (α:=aF))<|R.mp (fun _ hw=>hw.a8 (α:=Held))<|R.mp (fun _ hw=>hw.a8 (α:=Note)) ?_
     have hz:dL r p d slot rights=((⟨[],[],[],[],0,0⟩:aB),9):=by (rw [List.take_of_length_le (by omega)] at HC;subst HC;unfold dL;(repeat' split) <;> rfl)
     rw [hz]
     exact R.w2 ((nS),(nS),(nS),(nS)) [6] gj O Tryz.results62 (RV.cell 3 O O aj) (RV.tmp O) O O O (dy O (dj (by decide) O))
    refine R.q (q.ey O O) O<|R.nil<|R.aC O O<|R.reg O<|R.q (q.cW 0 O O aN) O<|R.q (q.aP O cR O) O<|R.q (q.ld 5 O O au O) O<|R.u 1 O<|R.c (q.call wB O O (fun w hw=>(mB (aS r (⟨p.aA,slot⟩:Place)).1 r.ae rights 0 w (by omega)))) O<|R.u 3 O<|?_
    refine R.s O (s.alloc bR O O) fun b11=>?_
    refine R.s O (s.st 0 _ O O O O (.inl aN) O O O O) fun _=>?_
    refine R.u 1 O<|R.nil<|R.reg O<|R.u 1 O<|?_
    by_cases h10:(derived (aS r (⟨p.aA,slot⟩:Place)).1 r.ae rights 0).2=0
    .
     refine R.q (q.dq O O Tryz.underlying38) O<|R.nil<|R.aC O O<|R.reg O<|R.q (q.cW 6 O O aj) O<|R.q (q.cW 0 O O aN) O<|R.q (q.build wn O O) O<|R.s O (s.aT fj bI _ _ _ O O O wA O O (fun w own hw H=>qn bU bJ bK bL r (derived (aS r (⟨p.aA,slot⟩:Place)).1 r.ae rights 0).1 (⟨0,0⟩:Place) w own H (by omega)) O) ?_
     rintro ⟨z5,z6,z7,z8⟩
     dsimp only
     refine R.s O (s.fR 6 _ O O O (fun _ _=>rfl) (.inl aj) (fun w hw=>(af (Sl.one (hw.bN 0 O)) (af (Sl.one (hw.bN 1 O)) (af (Sl.one (hw.bN 2 O)) (af (Sl.one (hw.bN 3 O)) (af O (af O aO))))))) O O O) fun _=>?_
     refine R.nil<|R.reg O<|R.q (q.aP O bX O) O<|R.q (q.ld 0 O O au O) O<|R.q (q.aP O iF O) O<|R.s O (s.st 2 _ O O O O (.inr ⟨au,rfl⟩) O O O O) fun _=>?_
     refine R.nil<|R.fP (fuel:=8) Ch O O mixed O<|D.q (i:=0) O (aD Ch fj O) O (q.aP O dv O) O<|D.q (i:=3) O (aD Ch fj O) O (q.cW 2 O O dH) O<|D.two (i:=1) (j:=4) O O ?_ ?_
     .
      refine Do.s (s.c (Qt.a (q.ld 6 O O eB O)) O) (fun _=>(aD Ch fj O)) O fun _=>?_
      refine D.two (i:=2) (j:=4) O O ?_ ?_
      .
       refine Do.s (s.aT fj [3] _ _ _ O O O oA O O (fun w own hw H=>fh z8 (fB r (derived (aS r (⟨p.aA,slot⟩:Place)).1 r.ae rights 0).1 (⟨0,0⟩:Place)).Notes w own H (by omega)) O) (fun _=>(aD [1,2,3,4,5,6,8] fj O)) O fun lE=>?_
       refine D.one (i:=4) O<|Do.s (s.bs (l:=([(⟨((cB r p 2 2).1).aF,d,(cB r p 2 2).1.aQ,(derived (aS r (⟨p.aA,slot⟩:Place)).1 r.ae rights 0).1.ID⟩:Note)]:List Note)) gK eT O O O O O O O) (fun _=>(aD o6 fj O)) O fun b12=>?_
       refine D.one (i:=5) O<|Do.s (s.app 1 _ O O O (bE 0 O) ki (by (simp;omega)) (by (simp;omega)) (fun _=>rfl) O) (fun _=>(aD o6 fj O)) O fun v4=>?_
       refine D.q (i:=6) O (aD o6 fj O) O (q.aP O dv O) O<|D.one (i:=7) O<|Do.s (s.fR 8 _ O O O (fun w hw=>Sl.cq (hw.row 1 O)) (.inr ⟨eB,rfl⟩) (fun w hw=>(af (Sl.one (hw.row 1 O)) aO)) O O O) (fun _=>(aD o6 fj O)) O fun _=>?_
       refine D.done<|R.reg O<|R.q (q.cW 8 O O aj) O<|R.s O (s.fR 6 _ O O O (fun _ _=>rfl) (.inl aj) (fun w hw=>(af (Sl.one (hw.bN 0 O)) (af (Sl.one (hw.bN 1 O)) (af (Sl.one (hw.bN 2 O)) (af (Sl.one (hw.row 1 O)) (af O (af O aO))))))) O O O) fun _=>?_
       refine R.u 1 O<|R.nil<|R.mp (fun _ hw=>hw.cX 1 _ O O) ?_
       have hz:dL r p d slot rights=((⟨(fB r (derived (aS r (⟨p.aA,slot⟩:Place)).1 r.ae rights 0).1 (⟨0,0⟩:Place)).ao,(fB r (derived (aS r (⟨p.aA,slot⟩:Place)).1 r.ae rights 0).1 (⟨0,0⟩:Place)).Things,(fB r (derived (aS r (⟨p.aA,slot⟩:Place)).1 r.ae rights 0).1 (⟨0,0⟩:Place)).Held,(((fB r (derived (aS r (⟨p.aA,slot⟩:Place)).1 r.ae rights 0).1 (⟨0,0⟩:Place)).Notes)++([(⟨((cB r p 2 2).1).aF,d,(cB r p 2 2).1.aQ,(derived (aS r (⟨p.aA,slot⟩:Place)).1 r.ae rights 0).1.ID⟩:Note)])),(fB r (derived (aS r (⟨p.aA,slot⟩:Place)).1 r.ae rights 0).1 (⟨0,0⟩:Place)).ae,(fB r (derived (aS r (⟨p.aA,slot⟩:Place)).1 r.ae rights 0).1 (⟨0,0⟩:Place)).ah⟩:aB),0):=by (rw [List.take_of_length_le (by omega)] at HC;subst HC;unfold dL;(repeat' split) <;> rfl)
       rw [hz]
       exact R.w2 (z5,z6,z7,v4) [8] vO O Tryz.results62 (RV.cell 5 O O aj) (RV.tmp O) O O O (dy O (iJ O))
      refine Do.s (s.bs (l:=([(⟨((cB r p 2 2).1).aF,d,(cB r p 2 2).1.aQ,(derived (aS r (⟨p.aA,slot⟩:Place)).1 r.ae rights 0).1.ID⟩:Note)]:List Note)) gK eT O O O O O O O) (fun _=>(aD [1,2,3,4,5,6,8] fj O)) O fun b13=>?_
      refine D.one (i:=2) O<|Do.s (s.aT cj [3] _ _ _ O O O oA O O (fun w own hw H=>fh z8 (fB r (derived (aS r (⟨p.aA,slot⟩:Place)).1 r.ae rights 0).1 (⟨0,0⟩:Place)).Notes w own H (by omega)) O) (fun _=>(aD o6 fj O)) O fun lX=>?_
      refine D.one (i:=5) O<|Do.s (s.app 0 _ O O O (bE 1 O) ki (by (simp;omega)) (by (simp;omega)) (fun _=>rfl) O) (fun _=>(aD o6 fj O)) O fun v5=>?_
      refine D.q (i:=6) O (aD o6 fj O) O (q.aP O dv O) O<|D.one (i:=7) O<|Do.s (s.fR 8 _ O O O (fun w hw=>Sl.cq (hw.row 0 O)) (.inr ⟨eB,rfl⟩) (fun w hw=>(af (Sl.one (hw.row 0 O)) aO)) O O O) (fun _=>(aD o6 fj O)) O fun _=>?_
      refine D.done<|R.reg O<|R.q (q.cW 8 O O aj) O<|R.s O (s.fR 6 _ O O O (fun _ _=>rfl) (.inl aj) (fun w hw=>(af (Sl.one (hw.bN 0 O)) (af (Sl.one (hw.bN 1 O)) (af (Sl.one (hw.bN 2 O)) (af (Sl.one (hw.row 0 O)) (af O (af O aO))))))) O O O) fun _=>?_
      refine R.u 1 O<|R.nil<|R.mp (fun _ hw=>hw.cX 0 _ O O) ?_
      have hz:dL r p d slot rights=((⟨(fB r (derived (aS r (⟨p.aA,slot⟩:Place)).1 r.ae rights 0).1 (⟨0,0⟩:Place)).ao,(fB r (derived (aS r (⟨p.aA,slot⟩:Place)).1 r.ae rights 0).1 (⟨0,0⟩:Place)).Things,(fB r (derived (aS r (⟨p.aA,slot⟩:Place)).1 r.ae rights 0).1 (⟨0,0⟩:Place)).Held,(((fB r (derived (aS r (⟨p.aA,slot⟩:Place)).1 r.ae rights 0).1 (⟨0,0⟩:Place)).Notes)++([(⟨((cB r p 2 2).1).aF,d,(cB r p 2 2).1.aQ,(derived (aS r (⟨p.aA,slot⟩:Place)).1 r.ae rights 0).1.ID⟩:Note)])),(fB r (derived (aS r (⟨p.aA,slot⟩:Place)).1 r.ae rights 0).1 (⟨0,0⟩:Place)).ae,(fB r (derived (aS r (⟨p.aA,slot⟩:Place)).1 r.ae rights 0).1 (⟨0,0⟩:Place)).ah⟩:aB),0):=by (rw [List.take_of_length_le (by omega)] at HC;subst HC;unfold dL;(repeat' split) <;> rfl)
      rw [hz]
      exact R.w2 (z5,z6,z7,v5) [8] vO O Tryz.results62 (RV.cell 5 O O aj) (RV.tmp O) O O O (dy O (iJ O))
     refine Do.s (s.bs (l:=([(⟨((cB r p 2 2).1).aF,d,(cB r p 2 2).1.aQ,(derived (aS r (⟨p.aA,slot⟩:Place)).1 r.ae rights 0).1.ID⟩:Note)]:List Note)) gK eT O O O O O O O) (fun _=>(aD [1,2,3,4,5,6,8] fj O)) O fun b14=>?_
     refine D.one (i:=1) O<|Do.s (s.c (Qt.a (q.ld 7 O O eB O)) O) (fun _=>(aD [1,2,3,4,5,6,8] fj O)) O fun _=>?_
     refine D.one (i:=2) O<|Do.s (s.aT cj [3] _ _ _ O O O oA O O (fun w own hw H=>fh z8 (fB r (derived (aS r (⟨p.aA,slot⟩:Place)).1 r.ae rights 0).1 (⟨0,0⟩:Place)).Notes w own H (by omega)) O) (fun _=>(aD o6 fj O)) O fun z12=>?_
     refine D.one (i:=5) O<|Do.s (s.app 0 _ O O O (bE 1 O) ki (by (simp;omega)) (by (simp;omega)) (fun _=>rfl) O) (fun _=>(aD o6 fj O)) O fun v6=>?_
     refine D.q (i:=6) O (aD o6 fj O) O (q.aP O dv O) O<|D.one (i:=7) O<|Do.s (s.fR 8 _ O O O (fun w hw=>Sl.cq (hw.row 0 O)) (.inr ⟨eB,rfl⟩) (fun w hw=>(af (Sl.one (hw.row 0 O)) aO)) O O O) (fun _=>(aD o6 fj O)) O fun _=>?_
     refine D.done<|R.reg O<|R.q (q.cW 8 O O aj) O<|R.s O (s.fR 6 _ O O O (fun _ _=>rfl) (.inl aj) (fun w hw=>(af (Sl.one (hw.bN 0 O)) (af (Sl.one (hw.bN 1 O)) (af (Sl.one (hw.bN 2 O)) (af (Sl.one (hw.row 0 O)) (af O (af O aO))))))) O O O) fun _=>?_
     refine R.u 1 O<|R.nil<|R.mp (fun _ hw=>hw.cX 0 _ O O) ?_
     have hz:dL r p d slot rights=((⟨(fB r (derived (aS r (⟨p.aA,slot⟩:Place)).1 r.ae rights 0).1 (⟨0,0⟩:Place)).ao,(fB r (derived (aS r (⟨p.aA,slot⟩:Place)).1 r.ae rights 0).1 (⟨0,0⟩:Place)).Things,(fB r (derived (aS r (⟨p.aA,slot⟩:Place)).1 r.ae rights 0).1 (⟨0,0⟩:Place)).Held,(((fB r (derived (aS r (⟨p.aA,slot⟩:Place)).1 r.ae rights 0).1 (⟨0,0⟩:Place)).Notes)++([(⟨((cB r p 2 2).1).aF,d,(cB r p 2 2).1.aQ,(derived (aS r (⟨p.aA,slot⟩:Place)).1 r.ae rights 0).1.ID⟩:Note)])),(fB r (derived (aS r (⟨p.aA,slot⟩:Place)).1 r.ae rights 0).1 (⟨0,0⟩:Place)).ae,(fB r (derived (aS r (⟨p.aA,slot⟩:Place)).1 r.ae rights 0).1 (⟨0,0⟩:Place)).ah⟩:aB),0):=by (rw [List.take_of_length_le (by omega)] at HC;subst HC;unfold dL;(repeat' split) <;> rfl)
     rw [hz]
     exact R.w2 (z5,z6,z7,v6) [8] vO O Tryz.results62 (RV.cell 5 O O aj) (RV.tmp O) O O O (dy O (iJ O))
    refine R.q (q.dW O O Tryz.underlying38) O<|R.nil<|R.az O O<|R.reg O<|R.q (q.build ec O O) O<|R.u 1 O<|R.s O (s.st 4 _ O O O O (.inl aj) O O O O) fun _=>?_
    refine R.u 1 O<|R.nil<|R.mp (fun _ hw=>hw.a8 (α:=ak))<|R.mp (fun _ hw=>hw.a8 (α:=aF))<|R.mp (fun _ hw=>hw.a8 (α:=Held))<|R.mp (fun _ hw=>hw.a8 (α:=Note)) ?_
    have hz:dL r p d slot rights=((⟨[],[],[],[],0,0⟩:aB),(derived (aS r (⟨p.aA,slot⟩:Place)).1 r.ae rights 0).2):=by (rw [List.take_of_length_le (by omega)] at HC;subst HC;unfold dL;(repeat' split) <;> rfl)
    rw [hz]
    exact R.w2 ((nS),(nS),(nS),(nS)) [7] gj O Tryz.results62 (RV.cell 4 O O aj) (RV.tmp O) O O O (dy O O)
   refine R.q (q.dW O O Tryz.underlying38) O<|R.nil<|R.az O O<|R.reg O<|R.q (q.build ec O O) O<|R.u 1 O<|R.s O (s.st 3 _ O O O O (.inl aj) O O O O) fun _=>?_
   refine R.u 1 O<|R.nil<|R.mp (fun _ hw=>hw.a8 (α:=ak))<|R.mp (fun _ hw=>hw.a8 (α:=aF))<|R.mp (fun _ hw=>hw.a8 (α:=Held))<|R.mp (fun _ hw=>hw.a8 (α:=Note)) ?_
   have hz:dL r p d slot rights=((⟨[],[],[],[],0,0⟩:aB),(aS r (⟨p.aA,slot⟩:Place)).2):=by (rw [List.take_of_length_le (by omega)] at HC;subst HC;unfold dL;(repeat' split) <;> rfl)
   rw [hz]
   exact R.w2 ((nS),(nS),(nS),(nS)) [6] gj O Tryz.results62 (RV.cell 3 O O aj) (RV.tmp O) O O O (dy O O)
  refine R.c (q.call pQ O O (fun w hw=>(cv (congrArg Value.bool h7) (gG (cB r p 2 2).1.Rights 4 w (by omega) (by omega))))) O<|R.u 1 O<|R.nil ?_
  refine R.az O O<|R.reg O<|R.q (q.build ec O O) O<|R.q (q.iface O br) O<|R.s O (s.st 2 _ O O O O (.inl aj) O O O O) fun _=>?_
  refine R.u 1 O<|R.nil<|R.mp (fun _ hw=>hw.a8 (α:=ak))<|R.mp (fun _ hw=>hw.a8 (α:=aF))<|R.mp (fun _ hw=>hw.a8 (α:=Held))<|R.mp (fun _ hw=>hw.a8 (α:=Note)) ?_
  have hz:dL r p d slot rights=((⟨[],[],[],[],0,0⟩:aB),7):=by (rw [List.take_of_length_le (by omega)] at HC;subst HC;unfold dL;(repeat' split) <;> first|rfl|(exfalso;omega)|(simp_all;done))
  rw [hz]
  exact R.w2 ((nS),(nS),(nS),(nS)) [5] gj O Tryz.results62 (RV.cell 2 O O aj) (RV.tmp O) O O O (dy O (dj (by decide) O))
 refine R.q (q.dW O O Tryz.underlying38) O<|R.nil<|R.az O O<|R.reg O<|R.q (q.build ec O O) O<|R.u 1 O<|R.s O (s.st 1 _ O O O O (.inl aj) O O O O) fun _=>?_
 refine R.u 1 O<|R.nil<|R.mp (fun _ hw=>hw.a8 (α:=ak))<|R.mp (fun _ hw=>hw.a8 (α:=aF))<|R.mp (fun _ hw=>hw.a8 (α:=Held))<|R.mp (fun _ hw=>hw.a8 (α:=Note)) ?_
 have hz:dL r p d slot rights=((⟨[],[],[],[],0,0⟩:aB),(cB r p 2 2).2.2):=by (unfold dL;(repeat' split) <;> first|rfl|(exfalso;omega)|(simp_all;done))
 rw [hz]
 exact R.w2 ((nS),(nS),(nS),(nS)) [4] gj O Tryz.results62 (RV.cell 1 O O aj) (RV.tmp O) O O O (dy O O)
theorem Ik (bU bJ bK bL:Value)(r:aB)(p:Place)(w:World)(own:List Nat)(H:HN w own [] [ag.ls bU r.ao,ag.ls bJ r.Things,ag.ls bK r.Held,ag.ls bL r.Notes])(hk:Ok r):RC Tryz.prog 63 #[.agg #[bU,bJ,bK,bL,iV r.ae,iV r.ah],.agg #[iV p.aA,iV p.Slot]] H (fun z:Value×Value×Value×Value => .tuple #[.agg #[z.1,z.2.1,z.2.2.1,z.2.2.2,iV (eF r p).1.ae,iV (eF r p).1.ah],.agg #[iV (eF r p).2.1.Port,.string (eF r p).2.1.Data,iV (eF r p).2.1.aQ,iV (eF r p).2.1.ak],iV (eF r p).2.2.1,dh (eF r p).2.2.2]) (fun _=>[]) (fun z=>[ag.ls z.1 (eF r p).1.ao,ag.ls z.2.1 (eF r p).1.Things,ag.ls z.2.2.1 (eF r p).1.Held,ag.ls z.2.2.2 (eF r p).1.Notes]):=by
 have eJ:=H.ck 0 rfl
 have dK:=H.ck 1 rfl
 have fI:=H.ck 2 rfl
 have eK:=H.ck 3 rfl
 have bw:=hk.wl;have bt:=hk.tl;have bh:=hk.hl;have bn:=hk.nl;have KV:=hk.w0;have KW:=hk.w1;have KX:=hk.t0;have KY:=hk.t1
 refine R.bD [(0,.agg #[bU,bJ,bK,bL,iV r.ae,iV r.ah]),(1,.agg #[iV p.aA,iV p.Slot])] Tryz.func63 O O O O H<|R.reg O<|R.s O (s.box O O O) fun b1=>?_
 refine R.s O (s.box O O O) fun b2=>?_
 refine R.s O (s.alloc dB O O) fun b3=>?_
 refine R.s O (s.alloc eT O O) fun b4=>?_
 refine R.u 2 O<|R.nil<|R.reg O<|R.q (q.cW 3 O O aj) O<|R.q (q.cW 2 O O bO) O<|R.c (q.call EJ O O (fun w hw=>(xL _ _ _ _ r p 2 1 w (hw.bN 0 O) (hw.bN 1 O) (hw.bN 2 O) (hw.bN 3 O) ‹_› (by omega)))) O<|R.u 4 O<|?_
 refine R.s O (s.alloc bR O O) fun b5=>?_
 refine R.s O (s.st 0 _ O O O O (.inl aN) O O O O) fun _=>?_
 refine R.u 2 O<|R.nil<|R.reg O<|R.u 1 O<|?_
 by_cases h1:(cB r p 2 1).2.2=0
 .
  refine R.q (q.dq O O Tryz.underlying38) O<|R.nil<|R.aC O O<|R.reg O<|R.q (q.aP O dv O) O<|R.q (q.ld 4 O O eB O) O<|R.q (q.LR (cap:=[.pointer (some ⟨b5,0,none⟩)]) O O) O<|?_
  rcases j3 (fun (t:Note)=>t.Port==(cB r p 2 1).1.aF) r.Notes with ⟨gS,Ey⟩ | ⟨rx,Ew,gS,lW,vh,AV,TT⟩
  .
   refine R.c (q.call Jt O O (fun w hw=>(cv (congrArg (Value.int .i64) gS) (m8 _ r.Notes (fun (t:Note)=>t.Port==(cB r p 2 1).1.aF) _ _ Ju w (hw.bN 3 O) (fun W t hW=>uQ t (cB r p 2 1).1 _ W (sL (hw.b 0 O) hW) ) )))) O<|R.u 1 O<|R.nil ?_
   refine R.reg O<|R.u 1 O<|R.q (q.lss (b:=true) O O (by decide)) O<|R.nil<|R.az O O<|R.reg O<|R.q (q.build ec O O) O<|R.q (q.build Ga O O) O<|R.q (q.iface O br) O<|R.s O (s.st 2 _ O O O O (.inl aj) O O O O) fun _=>?_
   refine R.s O (s.st 1 _ O O O O (.inl dH) O O O O) fun _=>?_
   refine R.u 2 O<|R.nil<|R.mp (fun _ hw=>hw.a8 (α:=ak))<|R.mp (fun _ hw=>hw.a8 (α:=aF))<|R.mp (fun _ hw=>hw.a8 (α:=Held))<|R.mp (fun _ hw=>hw.a8 (α:=Note)) ?_
   have hz:eF r p=((⟨[],[],[],[],0,0⟩:aB),(⟨0,⟨#[]⟩,0,0⟩:Note),0,5):=by (unfold eF;(rw [if_pos ‹_›,gS,show decide ((0:Int) <= -1)=false from rfl];cases r.Notes[(-1:Int).toNat]? <;> rfl))
   rw [hz]
   exact R.w4 ((nS),(nS),(nS),(nS)) [5] gj O Tryz.results63 (RV.cell 2 O O aj) (RV.cell 1 O O dH) (RV.tmp O) (RV.tmp O) O O O (I4 O O O (dj (by decide) O))
  refine R.c (q.call Jt O O (fun w hw=>(cv (congrArg (Value.int .i64) gS) (m8 _ r.Notes (fun (t:Note)=>t.Port==(cB r p 2 1).1.aF) _ _ Ju w (hw.bN 3 O) (fun W t hW=>uQ t (cB r p 2 1).1 _ W (sL (hw.b 0 O) hW) ) )))) O<|R.u 1 O<|R.nil ?_
  refine R.reg O<|R.u 1 O<|R.q (q.cU O O) O<|R.nil<|R.aC O O<|R.reg O<|R.q (q.aP O dv O) O<|R.q (q.ld 4 O O eB O) O<|R.u 1 O<|R.q (q.idx (i:=rx) (dx 3 O) O O gK O lW) O<|R.q (q.gk (ds:=vP Ew) (dx 3 O) lW O dH O) O<|R.s O (s.alloc eT O O) fun b6=>?_
  refine R.s O (s.st 0 _ O O O O (.inl dH) O O O O) fun _=>?_
  refine R.nil<|R.reg O<|R.u 1 O<|R.nil<|R.reg O<|R.q (q.aP O iF O) O<|R.q (q.ld 0 O O au O) O<|?_
  by_cases h2:0<Ew.ak
  .
   refine R.q (q.eM O O) O<|R.nil<|R.az O O<|R.reg O<|R.q (q.aP O cQ O) O<|R.q (q.ld 5 O O dV O) O<|R.q (q.aP O fw O) O<|R.q (q.ld 4 O O au O) O<|R.c (q.call Pd O O (fun w hw=>(JV _ r.Held p.aA w (hw.bN 2 O) (by omega)))) O<|R.u 1 O<|R.nil ?_
   refine R.reg O<|R.u 1 O<|?_
   by_cases h3:i6 r.Held p.aA<0
   .
    refine R.q (q.dD O O) O<|R.nil<|R.az O O<|R.reg O<|R.q (q.build ec O O) O<|R.q (q.build Ga O O) O<|R.q (q.iface O br) O<|R.s O (s.st 3 _ O O O O (.inl aj) O O O O) fun _=>?_
    refine R.s O (s.st 2 _ O O O O (.inl dH) O O O O) fun _=>?_
    refine R.u 2 O<|R.nil<|R.mp (fun _ hw=>hw.a8 (α:=ak))<|R.mp (fun _ hw=>hw.a8 (α:=aF))<|R.mp (fun _ hw=>hw.a8 (α:=Held))<|R.mp (fun _ hw=>hw.a8 (α:=Note)) ?_
    have hz:eF r p=((⟨[],[],[],[],0,0⟩:aB),(⟨0,⟨#[]⟩,0,0⟩:Note),0,9):=by (unfold eF;(rw [if_pos ‹_›,gS,Int.toNat_natCast,lW,decide_eq_true (by omega)];dsimp only;(repeat' split) <;> rfl))
    rw [hz]
    exact R.w4 ((nS),(nS),(nS),(nS)) [6] gj O Tryz.results63 (RV.cell 3 O O aj) (RV.cell 2 O O dH) (RV.tmp O) (RV.tmp O) O O O (I4 O O O (dj (by decide) O))
   refine R.q (q.cU O O) O<|R.nil<|R.aC O O<|R.reg O<|R.q (q.aP O cQ O) O<|R.q (q.ld 5 O O dV O) O<|R.q (q.aP O fw O) O<|R.q (q.ld 4 O O au O) O<|R.u 1 O<|R.q (q.build wn O O) O<|R.q (q.aP O iF O) O<|R.q (q.ld 0 O O au O) O<|R.s O (s.aT mH [2] _ _ _ O O O tO O O (fun w own hw H=>qE bK r.Held (⟨p.aA,i6 r.Held p.aA⟩:Place) Ew.ak w own H (by omega)) O) fun z1=>?_
   refine R.q (q.aP O cQ O) O<|R.s O (s.fR 6 _ O O O (fun w hw=>Sl.cq (hw.row 0 O)) (.inr ⟨dV,rfl⟩) (fun w hw=>(af (Sl.one (hw.row 0 O)) aO)) O O O) fun _=>?_
   refine R.nil<|R.reg O<|R.q (q.aP O dv O) O<|R.q (q.ld 6 O O eB O) O<|R.s O (s.aT fj [3] _ _ _ O O O oA O O (fun w own hw H=>fh bL r.Notes w own H (by omega)) O) fun z2=>?_
   refine R.u 2 O<|R.q (q.bC (r:=((rx+1:Nat):Int)) O O) O<|R.s O (s.aT cj [] _ _ _ O O O Jv O O (fun w own hw H=>qm z2 r.Notes rx (rx+1) w own H (by omega)) O) fun z3=>?_
   refine R.q (q.aP O dv O) O<|R.s O (s.fR 7 _ O O O (fun w hw=>Sl.cq (hw.row 0 O)) (.inr ⟨eB,rfl⟩) (fun w hw=>(af (Sl.one (hw.row 0 O)) aO)) O O O) fun _=>?_
   refine R.nil<|R.fP (fuel:=7) uz O O mixed O<|D.q (i:=0) O (aD uz bI O) O (q.cW 5 O O aj) O<|D.q (i:=1) O (aD uz bI O) O (q.cW 2 O O dH) O<|D.q (i:=2) O (aD uz bI O) O (q.mv O) O<|D.one (i:=3) O<|Do.s (s.fR 5 _ O O O (fun _ _=>rfl) (.inl aj) (fun w hw=>(af (Sl.one (hw.bN 0 O)) (af (Sl.one (hw.bN 1 O)) (af (Sl.one (hw.row 1 O)) (af (Sl.one (hw.row 0 O)) (af O (af O aO))))))) O O O) (fun _=>(aD uz bI O)) O fun _=>?_
   refine D.one (i:=4) O<|Do.s (s.st 4 _ O O O O (.inl dH) O O O O) (fun _=>(aD uz bI O)) O fun _=>?_
   refine D.q (i:=5) O (aD uz bI O) O (q.as O) O<|D.q (i:=6) O (aD uz bI O) O (q.as O) O<|D.done<|R.mp (fun _ hw=>hw.cX 1 _ O O)<|R.mp (fun _ hw=>hw.cX 0 _ O O) ?_
   have hz:eF r p=((⟨r.ao,r.Things,fS r.Held (⟨p.aA,i6 r.Held p.aA⟩:Place) Ew.ak,r.Notes.take rx++r.Notes.drop (rx+1),r.ae,r.ah⟩:aB),Ew,i6 r.Held p.aA,0):=by (unfold eF;(rw [if_pos ‹_›,gS,Int.toNat_natCast,lW,decide_eq_true (by omega)];dsimp only;(repeat' split) <;> rfl))
   rw [hz]
   exact R.w4 (bU,bJ,z1,z3) [6] [2,3,1,0] O Tryz.results63 (RV.cell 3 O O aj) (RV.cell 2 O O dH) (RV.tmp O) (RV.tmp O) O O O (I4 O O O (iJ O))
  refine R.q (q.ey O O) O<|R.nil<|R.aC O O<|R.reg O<|R.q (q.aP O dv O) O<|R.q (q.ld 5 O O eB O) O<|R.s O (s.aT mH [3] _ _ _ O O O oA O O (fun w own hw H=>fh bL r.Notes w own H (by omega)) O) fun z4=>?_
  refine R.u 2 O<|R.q (q.bC (r:=((rx+1:Nat):Int)) O O) O<|R.s O (s.aT fj [] _ _ _ O O O Jv O O (fun w own hw H=>qm z4 r.Notes rx (rx+1) w own H (by omega)) O) fun z5=>?_
  refine R.q (q.aP O dv O) O<|R.s O (s.fR 6 _ O O O (fun w hw=>Sl.cq (hw.row 0 O)) (.inr ⟨eB,rfl⟩) (fun w hw=>(af (Sl.one (hw.row 0 O)) aO)) O O O) fun _=>?_
  refine R.nil<|R.fP (fuel:=7) uA O O mixed O<|D.q (i:=0) O (aD uA bI O) O (q.cW 4 O O aj) O<|D.q (i:=1) O (aD uA bI O) O (q.cW 1 O O dH) O<|D.q (i:=2) O (aD uA bI O) O (q.mv O) O<|D.one (i:=3) O<|Do.s (s.fR 4 _ O O O (fun _ _=>rfl) (.inl aj) (fun w hw=>(af (Sl.one (hw.bN 0 O)) (af (Sl.one (hw.bN 1 O)) (af (Sl.one (hw.bN 2 O)) (af (Sl.one (hw.row 0 O)) (af O (af O aO))))))) O O O) (fun _=>(aD uA bI O)) O fun _=>?_
  refine D.one (i:=4) O<|Do.s (s.st 3 _ O O O O (.inl dH) O O O O) (fun _=>(aD uA bI O)) O fun _=>?_
  refine D.q (i:=5) O (aD uA bI O) O (q.as O) O<|D.q (i:=6) O (aD uA bI O) O (q.as O) O<|D.done<|R.mp (fun _ hw=>hw.cX 0 _ O O) ?_
  have hz:eF r p=((⟨r.ao,r.Things,r.Held,r.Notes.take rx++r.Notes.drop (rx+1),r.ae,r.ah⟩:aB),Ew,-1,0):=by (unfold eF;(rw [if_pos ‹_›,gS,Int.toNat_natCast,lW,decide_eq_true (by omega)];dsimp only;(repeat' split) <;> first|rfl|(exfalso;omega)))
  rw [hz]
  exact R.w4 (bU,bJ,bK,z5) [6] vO O Tryz.results63 (RV.cell 3 O O aj) (RV.cell 2 O O dH) (RV.tmp O) (RV.tmp O) O O O (I4 O O O (iJ O))
 refine R.q (q.dW O O Tryz.underlying38) O<|R.nil<|R.az O O<|R.reg O<|R.q (q.build ec O O) O<|R.q (q.build Ga O O) O<|R.u 1 O<|R.s O (s.st 2 _ O O O O (.inl aj) O O O O) fun _=>?_
 refine R.s O (s.st 1 _ O O O O (.inl dH) O O O O) fun _=>?_
 refine R.u 2 O<|R.nil<|R.mp (fun _ hw=>hw.a8 (α:=ak))<|R.mp (fun _ hw=>hw.a8 (α:=aF))<|R.mp (fun _ hw=>hw.a8 (α:=Held))<|R.mp (fun _ hw=>hw.a8 (α:=Note)) ?_
 have hz:eF r p=((⟨[],[],[],[],0,0⟩:aB),(⟨0,⟨#[]⟩,0,0⟩:Note),0,(cB r p 2 1).2.2):=by (unfold eF;(rw [if_neg ‹_›];rfl))
 rw [hz]
 exact R.w4 ((nS),(nS),(nS),(nS)) [5] gj O Tryz.results63 (RV.cell 2 O O aj) (RV.cell 1 O O dH) (RV.tmp O) (RV.tmp O) O O O (I4 O O O O)
end Go.Proofs.YtkbhcbipadkcaaaGreatDoor
