import Derived.Test.YtkbhcbipadkcaaaGreatDoorTS20
namespace Go.Proofs.YtkbhcbipadkcaaaGreatDoor
set_option linter.unusedVariables false
set_option linter.unusedSimpArgs false
set_option maxRecDepth 100000
set_option maxHeartbeats 90000000
open Go Go.RowKit
theorem H8 (bU bK bL bM:Value)(r:aB)(p:Place)(kind:Int)(w:World)(own:List Nat)(H:HN w own [] [ag.ls bU r.ao,ag.ls bK r.Things,ag.ls bL r.Held,ag.ls bM r.Notes])(hk:Ok r):RC Tryz.prog 56 #[.agg #[bU,bK,bL,bM,iV r.af,iV r.ah],.agg #[iV p.aC,iV p.Slot],iV kind] H (fun z:Value×Value×Value×Value => .tuple #[.agg #[z.1,z.2.1,z.2.2.1,z.2.2.2,iV (dQ r p kind).1.af,iV (dQ r p kind).1.ah],df (dQ r p kind).2]) (fun _=>[]) (fun z=>[ag.ls z.1 (dQ r p kind).1.ao,ag.ls z.2.1 (dQ r p kind).1.Things,ag.ls z.2.2.1 (dQ r p kind).1.Held,ag.ls z.2.2.2 (dQ r p kind).1.Notes]):=by
 have eK:=H.cq 0 rfl
 have dJ:=H.cq 1 rfl
 have fG:=H.cq 2 rfl
 have eL:=H.cq 3 rfl
 have bw:=hk.wl;have bt:=hk.tl;have bh:=hk.hl;have bn:=hk.nl;have KN:=hk.w0;have KO:=hk.w1;have KP:=hk.t0;have KQ:=hk.t1
 refine R.bF [(0,.agg #[bU,bK,bL,bM,iV r.af,iV r.ah]),(1,.agg #[iV p.aC,iV p.Slot]),(2,iV kind)] Tryz.func56 O O O O H<|R.reg O<|R.s O (s.box O O O) fun b1=>?_
 refine R.s O (s.box O O O) fun b2=>?_
 refine R.s O (s.alloc dq O O) fun b3=>?_
 refine R.u 1 O<|R.nil<|R.reg O<|R.u 1 O<|?_
 by_cases h1:kind=1
 .
  refine R.q (q.ny O O) O<|R.u 4 O<|R.nil<|R.aD O O<|R.reg O<|R.q (q.cT 2 O O aj) O<|R.q (q.cT 1 O O bP) O<|R.c (q.call Aw O O (fun w hw=>(qP _ _ _ _ r p w (hw.bO 0 O) (hw.bO 1 O) (hw.bO 2 O) (hw.bO 3 O) ‹_›))) O<|R.u 1 O<|R.nil ?_
  refine R.reg O<|R.u 1 O<|?_
  by_cases h2:gI r p=0
  .
   refine R.q (q.dx O O Tryz.underlying38) O<|R.nil<|R.aD O O<|R.reg O<|R.q (q.aP O du O) O<|R.q (q.ld 2 O O eQ O) O<|R.q (q.len' (dh 1 O) O Tryz.underlying44) O<|?_
   by_cases h3:r.Things.length=10
   .
    refine R.q (q.fI O O) O<|R.u 10 O<|R.nil<|R.az O O<|R.reg O<|R.q (q.build dY O O) O<|R.q (q.iface O br) O<|R.s O (s.st 0 _ O O O O (.inl aj) O O O O) fun _=>?_
    refine R.u 1 O<|R.nil<|R.mp (fun _ hw=>hw.bg (α:=ak))<|R.mp (fun _ hw=>hw.bg (α:=aE))<|R.mp (fun _ hw=>hw.bg (α:=Held))<|R.mp (fun _ hw=>hw.bg (α:=Note)) ?_
    have hz:dQ r p kind=((⟨[],[],[],[],0,0⟩:aB),9):=by (unfold dQ;(repeat' split) <;> first|rfl|(exfalso;omega)|(simp_all;done))
    rw [hz]
    exact R.w2 ((nS),(nS),(nS),(nS)) [3] gk O Tryz.results56 (RV.cell 0 O O aj) (RV.tmp O) O O O (dy O (dj (by decide) O))
   refine R.q (q.eU O O) O<|R.u 1 O<|R.qg O (q.aP O eI O) O<|R.qg O (q.ld 2 O O ap O) O<|?_
   by_cases h4:999<r.ah
   .
    refine R.qg O (q.eM O O) O<|R.u 6 O<|R.nil<|R.az O O<|R.reg O<|R.q (q.build dY O O) O<|R.q (q.iface O br) O<|R.s O (s.st 0 _ O O O O (.inl aj) O O O O) fun _=>?_
    refine R.u 1 O<|R.nil<|R.mp (fun _ hw=>hw.bg (α:=ak))<|R.mp (fun _ hw=>hw.bg (α:=aE))<|R.mp (fun _ hw=>hw.bg (α:=Held))<|R.mp (fun _ hw=>hw.bg (α:=Note)) ?_
    have hz:dQ r p kind=((⟨[],[],[],[],0,0⟩:aB),9):=by (unfold dQ;(repeat' split) <;> first|rfl|(exfalso;omega)|(simp_all;done))
    rw [hz]
    exact R.w2 ((nS),(nS),(nS),(nS)) [3] gk O Tryz.results56 (RV.cell 0 O O aj) (RV.tmp O) O O O (dy O (dj (by decide) O))
   refine R.qg O (q.ey O O) O<|R.u 2 O<|R.qg O (q.aP O cO O) O<|R.qg O (q.ld 2 O O ap O) O<|?_
   by_cases h5:999<r.af
   .
    refine R.qg O (q.eM O O) O<|R.u 1 O<|R.nil<|R.az O O<|R.reg O<|R.q (q.build dY O O) O<|R.q (q.iface O br) O<|R.s O (s.st 0 _ O O O O (.inl aj) O O O O) fun _=>?_
    refine R.u 1 O<|R.nil<|R.mp (fun _ hw=>hw.bg (α:=ak))<|R.mp (fun _ hw=>hw.bg (α:=aE))<|R.mp (fun _ hw=>hw.bg (α:=Held))<|R.mp (fun _ hw=>hw.bg (α:=Note)) ?_
    have hz:dQ r p kind=((⟨[],[],[],[],0,0⟩:aB),9):=by (unfold dQ;(repeat' split) <;> first|rfl|(exfalso;omega)|(simp_all;done))
    rw [hz]
    exact R.w2 ((nS),(nS),(nS),(nS)) [3] gk O Tryz.results56 (RV.cell 0 O O aj) (RV.tmp O) O O O (dy O (dj (by decide) O))
   refine R.qg O (q.ey O O) O<|R.u 1 O<|R.nil<|R.aD O O<|R.reg O<|R.q (q.aP O eI O) O<|R.q (q.ld 2 O O ap O) O<|R.u 1 O<|R.nil<|R.reg O<|R.q (q.aP O du O) O<|R.q (q.ld 2 O O eQ O) O<|R.s O (s.aT bJ [1] _ _ _ O O O wt O O (fun w own hw H=>ji bK r.Things w own H (by omega)) O) fun z1=>?_
   refine R.u 2 O<|R.q (q.build Ey O O) O<|R.s O (s.bs (l:=([(⟨r.ah,kind,⟨#[]⟩⟩:aE)]:List aE)) kg jq O O O O O O O) fun b4=>?_
   refine R.s O (s.app 1 _ O O O (bD 0 O) sM (by (simp;omega)) (by (simp;omega)) (fun _=>rfl) O) fun v1=>?_
   refine R.q (q.aP O du O) O<|R.s O (s.fP 4 _ O O O (fun w hw=>Sl.cr (hw.row 1 O)) (.inr ⟨eQ,rfl⟩) (fun w hw=>(ae (Sl.one (hw.row 1 O)) aO)) O O O) fun _=>?_
   refine R.nil<|R.reg O<|R.q (q.aP O eI O) O<|R.q (q.ld 4 O O ap O) O<|R.q (q.bA (r:=r.ah+1) O O) O<|R.q (q.aP O eI O) O<|R.s O (s.st 4 _ O O O O (.inr ⟨ap,rfl⟩) O O O O) fun _=>?_
   refine R.nil<|R.reg O<|R.q (q.cT 4 O O aj) O<|R.q (q.aP O cO O) O<|R.q (q.ld 4 O O ap O) O<|R.u 1 O<|R.q (q.build iT O O) O<|R.q (q.cT 3 O O bP) O<|R.s O (s.pre (fun _ hw=>hw.cW 1 _ O O) (s.aT gV [1,0,3,4] _ _ _ O O O wu O O (fun w own hw H=>qm bU v1 bL bM (⟨r.ao,(r.Things++([(⟨r.ah,kind,⟨#[]⟩⟩:aE)])),r.Held,r.Notes,r.af,(r.ah+1)⟩:aB) (⟨r.af,r.ah,7,0,0⟩:ak) p w own H (by (dsimp only;omega))) O)) ?_
   rintro ⟨z2,z3,z4,z5⟩
   dsimp only
   refine R.s O (s.fP 1 _ O O O (fun _ _=>rfl) (.inl aj) (fun w hw=>(ae (Sl.one (hw.bO 0 O)) (ae (Sl.one (hw.bO 1 O)) (ae (Sl.one (hw.bO 2 O)) (ae (Sl.one (hw.bO 3 O)) (ae O (ae O aO))))))) O O O) fun _=>?_
   refine R.u 1 O<|R.nil ?_
   have hz:dQ r p kind=((fA (⟨r.ao,(r.Things++([(⟨r.ah,kind,⟨#[]⟩⟩:aE)])),r.Held,r.Notes,r.af,(r.ah+1)⟩:aB) (⟨r.af,r.ah,7,0,0⟩:ak) p),0):=by (unfold dQ;(repeat' split) <;> first|rfl|(exfalso;omega)|(simp_all;done))
   rw [hz]
   exact R.w2 (z2,z3,z4,z5) [4] bJ O Tryz.results56 (RV.cell 1 O O aj) (RV.tmp O) O O O (dy O (iJ O))
  refine R.q (q.dX O O Tryz.underlying38) O<|R.nil<|R.az O O<|R.reg O<|R.q (q.build dY O O) O<|R.u 1 O<|R.s O (s.st 0 _ O O O O (.inl aj) O O O O) fun _=>?_
  refine R.u 1 O<|R.nil<|R.mp (fun _ hw=>hw.bg (α:=ak))<|R.mp (fun _ hw=>hw.bg (α:=aE))<|R.mp (fun _ hw=>hw.bg (α:=Held))<|R.mp (fun _ hw=>hw.bg (α:=Note)) ?_
  have hz:dQ r p kind=((⟨[],[],[],[],0,0⟩:aB),gI r p):=by (unfold dQ;(repeat' split) <;> first|rfl|(exfalso;omega)|(simp_all;done))
  rw [hz]
  exact R.w2 ((nS),(nS),(nS),(nS)) [3] gk O Tryz.results56 (RV.cell 0 O O aj) (RV.tmp O) O O O (dy O O)
 refine R.q (q.nu O O) O<|R.u 2 O<|?_
 by_cases h6:kind=2
 .
  refine R.qg O (q.ny O O) O<|R.u 1 O<|R.nil<|R.aD O O<|R.reg O<|R.q (q.cT 2 O O aj) O<|R.q (q.cT 1 O O bP) O<|R.c (q.call Aw O O (fun w hw=>(qP _ _ _ _ r p w (hw.bO 0 O) (hw.bO 1 O) (hw.bO 2 O) (hw.bO 3 O) ‹_›))) O<|R.u 1 O<|R.nil ?_
  refine R.reg O<|R.u 1 O<|?_
  by_cases h7:gI r p=0
  .
   refine R.q (q.dx O O Tryz.underlying38) O<|R.nil<|R.aD O O<|R.reg O<|R.q (q.aP O du O) O<|R.q (q.ld 2 O O eQ O) O<|R.q (q.len' (dh 1 O) O Tryz.underlying44) O<|?_
   by_cases h8:r.Things.length=10
   .
    refine R.q (q.fI O O) O<|R.u 10 O<|R.nil<|R.az O O<|R.reg O<|R.q (q.build dY O O) O<|R.q (q.iface O br) O<|R.s O (s.st 0 _ O O O O (.inl aj) O O O O) fun _=>?_
    refine R.u 1 O<|R.nil<|R.mp (fun _ hw=>hw.bg (α:=ak))<|R.mp (fun _ hw=>hw.bg (α:=aE))<|R.mp (fun _ hw=>hw.bg (α:=Held))<|R.mp (fun _ hw=>hw.bg (α:=Note)) ?_
    have hz:dQ r p kind=((⟨[],[],[],[],0,0⟩:aB),9):=by (unfold dQ;(repeat' split) <;> first|rfl|(exfalso;omega)|(simp_all;done))
    rw [hz]
    exact R.w2 ((nS),(nS),(nS),(nS)) [3] gk O Tryz.results56 (RV.cell 0 O O aj) (RV.tmp O) O O O (dy O (dj (by decide) O))
   refine R.q (q.eU O O) O<|R.u 1 O<|R.qg O (q.aP O eI O) O<|R.qg O (q.ld 2 O O ap O) O<|?_
   by_cases h9:999<r.ah
   .
    refine R.qg O (q.eM O O) O<|R.u 6 O<|R.nil<|R.az O O<|R.reg O<|R.q (q.build dY O O) O<|R.q (q.iface O br) O<|R.s O (s.st 0 _ O O O O (.inl aj) O O O O) fun _=>?_
    refine R.u 1 O<|R.nil<|R.mp (fun _ hw=>hw.bg (α:=ak))<|R.mp (fun _ hw=>hw.bg (α:=aE))<|R.mp (fun _ hw=>hw.bg (α:=Held))<|R.mp (fun _ hw=>hw.bg (α:=Note)) ?_
    have hz:dQ r p kind=((⟨[],[],[],[],0,0⟩:aB),9):=by (unfold dQ;(repeat' split) <;> first|rfl|(exfalso;omega)|(simp_all;done))
    rw [hz]
    exact R.w2 ((nS),(nS),(nS),(nS)) [3] gk O Tryz.results56 (RV.cell 0 O O aj) (RV.tmp O) O O O (dy O (dj (by decide) O))
   refine R.qg O (q.ey O O) O<|R.u 2 O<|R.qg O (q.aP O cO O) O<|R.qg O (q.ld 2 O O ap O) O<|?_
   by_cases h10:999<r.af
   .
    refine R.qg O (q.eM O O) O<|R.u 1 O<|R.nil<|R.az O O<|R.reg O<|R.q (q.build dY O O) O<|R.q (q.iface O br) O<|R.s O (s.st 0 _ O O O O (.inl aj) O O O O) fun _=>?_
    refine R.u 1 O<|R.nil<|R.mp (fun _ hw=>hw.bg (α:=ak))<|R.mp (fun _ hw=>hw.bg (α:=aE))<|R.mp (fun _ hw=>hw.bg (α:=Held))<|R.mp (fun _ hw=>hw.bg (α:=Note)) ?_
    have hz:dQ r p kind=((⟨[],[],[],[],0,0⟩:aB),9):=by (unfold dQ;(repeat' split) <;> first|rfl|(exfalso;omega)|(simp_all;done))
    rw [hz]
    exact R.w2 ((nS),(nS),(nS),(nS)) [3] gk O Tryz.results56 (RV.cell 0 O O aj) (RV.tmp O) O O O (dy O (dj (by decide) O))
   refine R.qg O (q.ey O O) O<|R.u 1 O<|R.nil<|R.aD O O<|R.reg O<|R.q (q.aP O eI O) O<|R.q (q.ld 2 O O ap O) O<|R.u 1 O<|R.nil<|R.reg O<|R.q (q.aP O du O) O<|R.q (q.ld 2 O O eQ O) O<|R.s O (s.aT bJ [1] _ _ _ O O O wt O O (fun w own hw H=>ji bK r.Things w own H (by omega)) O) fun z6=>?_
   refine R.u 2 O<|R.q (q.build Ey O O) O<|R.s O (s.bs (l:=([(⟨r.ah,kind,⟨#[]⟩⟩:aE)]:List aE)) kg jq O O O O O O O) fun b5=>?_
   refine R.s O (s.app 1 _ O O O (bD 0 O) sM (by (simp;omega)) (by (simp;omega)) (fun _=>rfl) O) fun v2=>?_
   refine R.q (q.aP O du O) O<|R.s O (s.fP 4 _ O O O (fun w hw=>Sl.cr (hw.row 1 O)) (.inr ⟨eQ,rfl⟩) (fun w hw=>(ae (Sl.one (hw.row 1 O)) aO)) O O O) fun _=>?_
   refine R.nil<|R.reg O<|R.q (q.aP O eI O) O<|R.q (q.ld 4 O O ap O) O<|R.q (q.bA (r:=r.ah+1) O O) O<|R.q (q.aP O eI O) O<|R.s O (s.st 4 _ O O O O (.inr ⟨ap,rfl⟩) O O O O) fun _=>?_
   refine R.nil<|R.reg O<|R.q (q.cT 4 O O aj) O<|R.q (q.aP O cO O) O<|R.q (q.ld 4 O O ap O) O<|R.u 1 O<|R.q (q.build iT O O) O<|R.q (q.cT 3 O O bP) O<|R.s O (s.pre (fun _ hw=>hw.cW 1 _ O O) (s.aT gV [1,0,3,4] _ _ _ O O O wu O O (fun w own hw H=>qm bU v2 bL bM (⟨r.ao,(r.Things++([(⟨r.ah,kind,⟨#[]⟩⟩:aE)])),r.Held,r.Notes,r.af,(r.ah+1)⟩:aB) (⟨r.af,r.ah,7,0,0⟩:ak) p w own H (by (dsimp only;omega))) O)) ?_
   rintro ⟨z7,z8,z9,mG⟩
   dsimp only
   refine R.s O (s.fP 1 _ O O O (fun _ _=>rfl) (.inl aj) (fun w hw=>(ae (Sl.one (hw.bO 0 O)) (ae (Sl.one (hw.bO 1 O)) (ae (Sl.one (hw.bO 2 O)) (ae (Sl.one (hw.bO 3 O)) (ae O (ae O aO))))))) O O O) fun _=>?_
   refine R.u 1 O<|R.nil ?_
   have hz:dQ r p kind=((fA (⟨r.ao,(r.Things++([(⟨r.ah,kind,⟨#[]⟩⟩:aE)])),r.Held,r.Notes,r.af,(r.ah+1)⟩:aB) (⟨r.af,r.ah,7,0,0⟩:ak) p),0):=by (unfold dQ;(repeat' split) <;> first|rfl|(exfalso;omega)|(simp_all;done))
   rw [hz]
   exact R.w2 (z7,z8,z9,mG) [4] bJ O Tryz.results56 (RV.cell 1 O O aj) (RV.tmp O) O O O (dy O (iJ O))
  refine R.q (q.dX O O Tryz.underlying38) O<|R.nil<|R.az O O<|R.reg O<|R.q (q.build dY O O) O<|R.u 1 O<|R.s O (s.st 0 _ O O O O (.inl aj) O O O O) fun _=>?_
  refine R.u 1 O<|R.nil<|R.mp (fun _ hw=>hw.bg (α:=ak))<|R.mp (fun _ hw=>hw.bg (α:=aE))<|R.mp (fun _ hw=>hw.bg (α:=Held))<|R.mp (fun _ hw=>hw.bg (α:=Note)) ?_
  have hz:dQ r p kind=((⟨[],[],[],[],0,0⟩:aB),gI r p):=by (unfold dQ;(repeat' split) <;> first|rfl|(exfalso;omega)|(simp_all;done))
  rw [hz]
  exact R.w2 ((nS),(nS),(nS),(nS)) [3] gk O Tryz.results56 (RV.cell 0 O O aj) (RV.tmp O) O O O (dy O O)
 refine R.qg O (q.nu O O) O<|R.u 1 O<|R.nil<|R.az O O<|R.reg O<|R.q (q.build dY O O) O<|R.q (q.iface O br) O<|R.s O (s.st 0 _ O O O O (.inl aj) O O O O) fun _=>?_
 refine R.u 1 O<|R.nil<|R.mp (fun _ hw=>hw.bg (α:=ak))<|R.mp (fun _ hw=>hw.bg (α:=aE))<|R.mp (fun _ hw=>hw.bg (α:=Held))<|R.mp (fun _ hw=>hw.bg (α:=Note)) ?_
 have hz:dQ r p kind=((⟨[],[],[],[],0,0⟩:aB),8):=by (unfold dQ;(repeat' split) <;> first|rfl|(exfalso;omega)|(simp_all;done))
 rw [hz]
 exact R.w2 ((nS),(nS),(nS),(nS)) [3] gk O Tryz.results56 (RV.cell 0 O O aj) (RV.tmp O) O O O (dy O (dj (by decide) O))
theorem H9 (bU bK bL bM:Value)(r:aB)(p:Place)(t:Place)(rights:Int)(dI:Int)(w:World)(own:List Nat)(H:HN w own [] [ag.ls bU r.ao,ag.ls bK r.Things,ag.ls bL r.Held,ag.ls bM r.Notes])(hk:Ok r):RC Tryz.prog 57 #[.agg #[bU,bK,bL,bM,iV r.af,iV r.ah],.agg #[iV p.aC,iV p.Slot],.agg #[iV t.aC,iV t.Slot],iV rights,iV dI] H (fun z:Value×Value×Value×Value => .tuple #[.agg #[z.1,z.2.1,z.2.2.1,z.2.2.2,iV (fq r p t rights dI).1.af,iV (fq r p t rights dI).1.ah],df (fq r p t rights dI).2]) (fun _=>[]) (fun z=>[ag.ls z.1 (fq r p t rights dI).1.ao,ag.ls z.2.1 (fq r p t rights dI).1.Things,ag.ls z.2.2.1 (fq r p t rights dI).1.Held,ag.ls z.2.2.2 (fq r p t rights dI).1.Notes]):=by
 have eK:=H.cq 0 rfl
 have dJ:=H.cq 1 rfl
 have fG:=H.cq 2 rfl
 have eL:=H.cq 3 rfl
 have bw:=hk.wl;have bt:=hk.tl;have bh:=hk.hl;have bn:=hk.nl;have KN:=hk.w0;have KO:=hk.w1;have KP:=hk.t0;have KQ:=hk.t1
 refine R.bF [(0,.agg #[bU,bK,bL,bM,iV r.af,iV r.ah]),(1,.agg #[iV p.aC,iV p.Slot]),(2,.agg #[iV t.aC,iV t.Slot]),(3,iV rights),(4,iV dI)] Tryz.func57 O O O O H<|R.reg O<|R.s O (s.box O O O) fun b1=>?_
 refine R.s O (s.box O O O) fun b2=>?_
 refine R.s O (s.box O O O) fun b3=>?_
 refine R.s O (s.alloc dq O O) fun b4=>?_
 refine R.u 1 O<|R.nil<|R.reg O<|R.q (q.cT 3 O O aj) O<|R.q (q.cT 2 O O bP) O<|R.c (q.call tH O O (fun w hw=>(qO _ _ _ _ r p w (hw.bO 0 O) (hw.bO 1 O) (hw.bO 2 O) (hw.bO 3 O) ‹_›))) O<|R.u 3 O<|?_
 refine R.s O (s.alloc bQ O O) fun b5=>?_
 refine R.s O (s.st 0 _ O O O O (.inl aN) O O O O) fun _=>?_
 refine R.u 1 O<|R.nil<|R.reg O<|R.u 1 O<|?_
 by_cases h1:(aS r p).2=0
 .
  have V5:=hk.get h1
  refine R.q (q.dx O O Tryz.underlying38) O<|R.nil<|R.aD O O<|R.reg O<|R.q (q.cT 4 O O aj) O<|R.q (q.cT 2 O O bP) O<|R.c (q.call Aw O O (fun w hw=>(qP _ _ _ _ r t w (hw.bO 0 O) (hw.bO 1 O) (hw.bO 2 O) (hw.bO 3 O) ‹_›))) O<|R.u 1 O<|R.nil ?_
  refine R.reg O<|R.u 1 O<|?_
  by_cases h2:gI r t=0
  .
   refine R.q (q.dx O O Tryz.underlying38) O<|R.nil<|R.aD O O<|R.reg O<|R.q (q.aP O fu O) O<|R.q (q.ld 3 O O ap O) O<|R.q (q.aP O fu O) O<|R.q (q.ld 2 O O ap O) O<|?_
   by_cases h3:p.aC=t.aC
   .
    refine R.q (q.ny O O) O<|R.u 6 O<|R.nil<|R.aD O O<|R.reg O<|R.q (q.aP O cO O) O<|R.q (q.ld 4 O O ap O) O<|?_
    by_cases h4:999<r.af
    .
     refine R.q (q.eM O O) O<|R.nil<|R.az O O<|R.reg O<|R.q (q.build dY O O) O<|R.q (q.iface O br) O<|R.s O (s.st 1 _ O O O O (.inl aj) O O O O) fun _=>?_
     refine R.u 1 O<|R.nil<|R.mp (fun _ hw=>hw.bg (α:=ak))<|R.mp (fun _ hw=>hw.bg (α:=aE))<|R.mp (fun _ hw=>hw.bg (α:=Held))<|R.mp (fun _ hw=>hw.bg (α:=Note)) ?_
     have hz:fq r p t rights dI=((⟨[],[],[],[],0,0⟩:aB),9):=by (unfold fq;(repeat' split) <;> first|rfl|(exfalso;omega)|(simp_all;done))
     rw [hz]
     exact R.w2 ((nS),(nS),(nS),(nS)) [5] gk O Tryz.results57 (RV.cell 1 O O aj) (RV.tmp O) O O O (dy O (dj (by decide) O))
    refine R.q (q.ey O O) O<|R.nil<|R.aD O O<|R.reg O<|R.q (q.cT 0 O O aN) O<|R.q (q.aP O cO O) O<|R.q (q.ld 4 O O ap O) O<|R.u 2 O<|R.c (q.call wv O O (fun w hw=>(mA (aS r p).1 r.af rights dI w (by omega)))) O<|R.u 3 O<|?_
    refine R.s O (s.alloc bQ O O) fun b6=>?_
    refine R.s O (s.st 0 _ O O O O (.inl aN) O O O O) fun _=>?_
    refine R.u 1 O<|R.nil<|R.reg O<|R.u 1 O<|?_
    by_cases h5:(derived (aS r p).1 r.af rights dI).2=0
    .
     refine R.q (q.dx O O Tryz.underlying38) O<|R.nil<|R.aD O O<|R.reg O<|R.q (q.cT 5 O O aj) O<|R.q (q.cT 0 O O aN) O<|R.q (q.cT 3 O O bP) O<|R.s O (s.aT l9 bJ _ _ _ O O O wu O O (fun w own hw H=>qm bU bK bL bM r (derived (aS r p).1 r.af rights dI).1 t w own H (by omega)) O) ?_
     rintro ⟨z1,z2,z3,z4⟩
     dsimp only
     refine R.s O (s.fP 2 _ O O O (fun _ _=>rfl) (.inl aj) (fun w hw=>(ae (Sl.one (hw.bO 0 O)) (ae (Sl.one (hw.bO 1 O)) (ae (Sl.one (hw.bO 2 O)) (ae (Sl.one (hw.bO 3 O)) (ae O (ae O aO))))))) O O O) fun _=>?_
     refine R.u 1 O<|R.nil ?_
     have hz:fq r p t rights dI=((fA r (derived (aS r p).1 r.af rights dI).1 t),0):=by (unfold fq;(repeat' split) <;> first|rfl|(exfalso;omega)|(simp_all;done))
     rw [hz]
     exact R.w2 (z1,z2,z3,z4) [6] bJ O Tryz.results57 (RV.cell 2 O O aj) (RV.tmp O) O O O (dy O (iJ O))
    refine R.q (q.dX O O Tryz.underlying38) O<|R.nil<|R.az O O<|R.reg O<|R.q (q.build dY O O) O<|R.u 1 O<|R.s O (s.st 2 _ O O O O (.inl aj) O O O O) fun _=>?_
    refine R.u 1 O<|R.nil<|R.mp (fun _ hw=>hw.bg (α:=ak))<|R.mp (fun _ hw=>hw.bg (α:=aE))<|R.mp (fun _ hw=>hw.bg (α:=Held))<|R.mp (fun _ hw=>hw.bg (α:=Note)) ?_
    have hz:fq r p t rights dI=((⟨[],[],[],[],0,0⟩:aB),(derived (aS r p).1 r.af rights dI).2):=by (unfold fq;(repeat' split) <;> first|rfl|(exfalso;omega)|(simp_all;done))
    rw [hz]
    exact R.w2 ((nS),(nS),(nS),(nS)) [6] gk O Tryz.results57 (RV.cell 2 O O aj) (RV.tmp O) O O O (dy O O)
   refine R.q (q.nu O O) O<|R.u 1 O<|R.qg O (q.aP O jT O) O<|R.qg O (q.ld 0 O O ap O) O<|?_
   rcases Bool.eq_false_or_eq_true (je (aS r p).1.Rights 4) with h6|h6
   .
    refine R.cg O (q.call pO O O (fun w hw=>(cv (congrArg Value.bool h6) (gG (aS r p).1.Rights 4 w (by omega) (by omega))))) O<|R.u 2 O<|R.nil<|R.aD O O<|R.reg O<|R.q (q.aP O cO O) O<|R.q (q.ld 4 O O ap O) O<|?_
    by_cases h7:999<r.af
    .
     refine R.q (q.eM O O) O<|R.nil<|R.az O O<|R.reg O<|R.q (q.build dY O O) O<|R.q (q.iface O br) O<|R.s O (s.st 1 _ O O O O (.inl aj) O O O O) fun _=>?_
     refine R.u 1 O<|R.nil<|R.mp (fun _ hw=>hw.bg (α:=ak))<|R.mp (fun _ hw=>hw.bg (α:=aE))<|R.mp (fun _ hw=>hw.bg (α:=Held))<|R.mp (fun _ hw=>hw.bg (α:=Note)) ?_
     have hz:fq r p t rights dI=((⟨[],[],[],[],0,0⟩:aB),9):=by (unfold fq;(repeat' split) <;> first|rfl|(exfalso;omega)|(simp_all;done))
     rw [hz]
     exact R.w2 ((nS),(nS),(nS),(nS)) [5] gk O Tryz.results57 (RV.cell 1 O O aj) (RV.tmp O) O O O (dy O (dj (by decide) O))
    refine R.q (q.ey O O) O<|R.nil<|R.aD O O<|R.reg O<|R.q (q.cT 0 O O aN) O<|R.q (q.aP O cO O) O<|R.q (q.ld 4 O O ap O) O<|R.u 2 O<|R.c (q.call wv O O (fun w hw=>(mA (aS r p).1 r.af rights dI w (by omega)))) O<|R.u 3 O<|?_
    refine R.s O (s.alloc bQ O O) fun b7=>?_
    refine R.s O (s.st 0 _ O O O O (.inl aN) O O O O) fun _=>?_
    refine R.u 1 O<|R.nil<|R.reg O<|R.u 1 O<|?_
    by_cases h8:(derived (aS r p).1 r.af rights dI).2=0
    .
     refine R.q (q.dx O O Tryz.underlying38) O<|R.nil<|R.aD O O<|R.reg O<|R.q (q.cT 5 O O aj) O<|R.q (q.cT 0 O O aN) O<|R.q (q.cT 3 O O bP) O<|R.s O (s.aT l9 bJ _ _ _ O O O wu O O (fun w own hw H=>qm bU bK bL bM r (derived (aS r p).1 r.af rights dI).1 t w own H (by omega)) O) ?_
     rintro ⟨z5,z6,z7,z8⟩
     dsimp only
     refine R.s O (s.fP 2 _ O O O (fun _ _=>rfl) (.inl aj) (fun w hw=>(ae (Sl.one (hw.bO 0 O)) (ae (Sl.one (hw.bO 1 O)) (ae (Sl.one (hw.bO 2 O)) (ae (Sl.one (hw.bO 3 O)) (ae O (ae O aO))))))) O O O) fun _=>?_
     refine R.u 1 O<|R.nil ?_
     have hz:fq r p t rights dI=((fA r (derived (aS r p).1 r.af rights dI).1 t),0):=by (unfold fq;(repeat' split) <;> first|rfl|(exfalso;omega)|(simp_all;done))
     rw [hz]
     exact R.w2 (z5,z6,z7,z8) [6] bJ O Tryz.results57 (RV.cell 2 O O aj) (RV.tmp O) O O O (dy O (iJ O))
    refine R.q (q.dX O O Tryz.underlying38) O<|R.nil<|R.az O O<|R.reg O<|R.q (q.build dY O O) O<|R.u 1 O<|R.s O (s.st 2 _ O O O O (.inl aj) O O O O) fun _=>?_
    refine R.u 1 O<|R.nil<|R.mp (fun _ hw=>hw.bg (α:=ak))<|R.mp (fun _ hw=>hw.bg (α:=aE))<|R.mp (fun _ hw=>hw.bg (α:=Held))<|R.mp (fun _ hw=>hw.bg (α:=Note)) ?_
    have hz:fq r p t rights dI=((⟨[],[],[],[],0,0⟩:aB),(derived (aS r p).1 r.af rights dI).2):=by (unfold fq;(repeat' split) <;> first|rfl|(exfalso;omega)|(simp_all;done))
    rw [hz]
    exact R.w2 ((nS),(nS),(nS),(nS)) [6] gk O Tryz.results57 (RV.cell 2 O O aj) (RV.tmp O) O O O (dy O O)
   refine R.cg O (q.call pO O O (fun w hw=>(cv (congrArg Value.bool h6) (gG (aS r p).1.Rights 4 w (by omega) (by omega))))) O<|R.u 2 O<|R.nil<|R.az O O<|R.reg O<|R.q (q.build dY O O) O<|R.q (q.iface O br) O<|R.s O (s.st 1 _ O O O O (.inl aj) O O O O) fun _=>?_
   refine R.u 1 O<|R.nil<|R.mp (fun _ hw=>hw.bg (α:=ak))<|R.mp (fun _ hw=>hw.bg (α:=aE))<|R.mp (fun _ hw=>hw.bg (α:=Held))<|R.mp (fun _ hw=>hw.bg (α:=Note)) ?_
   have hz:fq r p t rights dI=((⟨[],[],[],[],0,0⟩:aB),7):=by (unfold fq;(repeat' split) <;> first|rfl|(exfalso;omega)|(simp_all;done))
   rw [hz]
   exact R.w2 ((nS),(nS),(nS),(nS)) [5] gk O Tryz.results57 (RV.cell 1 O O aj) (RV.tmp O) O O O (dy O (dj (by decide) O))
  refine R.q (q.dX O O Tryz.underlying38) O<|R.nil<|R.az O O<|R.reg O<|R.q (q.build dY O O) O<|R.u 1 O<|R.s O (s.st 1 _ O O O O (.inl aj) O O O O) fun _=>?_
  refine R.u 1 O<|R.nil<|R.mp (fun _ hw=>hw.bg (α:=ak))<|R.mp (fun _ hw=>hw.bg (α:=aE))<|R.mp (fun _ hw=>hw.bg (α:=Held))<|R.mp (fun _ hw=>hw.bg (α:=Note)) ?_
  have hz:fq r p t rights dI=((⟨[],[],[],[],0,0⟩:aB),gI r t):=by (unfold fq;(repeat' split) <;> rfl)
  rw [hz]
  exact R.w2 ((nS),(nS),(nS),(nS)) [5] gk O Tryz.results57 (RV.cell 1 O O aj) (RV.tmp O) O O O (dy O O)
 refine R.q (q.dX O O Tryz.underlying38) O<|R.nil<|R.az O O<|R.reg O<|R.q (q.build dY O O) O<|R.u 1 O<|R.s O (s.st 1 _ O O O O (.inl aj) O O O O) fun _=>?_
 refine R.u 1 O<|R.nil<|R.mp (fun _ hw=>hw.bg (α:=ak))<|R.mp (fun _ hw=>hw.bg (α:=aE))<|R.mp (fun _ hw=>hw.bg (α:=Held))<|R.mp (fun _ hw=>hw.bg (α:=Note)) ?_
 have hz:fq r p t rights dI=((⟨[],[],[],[],0,0⟩:aB),(aS r p).2):=by (unfold fq;(repeat' split) <;> first|rfl|(exfalso;omega)|(simp_all;done))
 rw [hz]
 exact R.w2 ((nS),(nS),(nS),(nS)) [5] gk O Tryz.results57 (RV.cell 1 O O aj) (RV.tmp O) O O O (dy O O)
theorem Ia (bU bK bL bM:Value)(r:aB)(p:Place)(slot:Int)(w:World)(own:List Nat)(H:HN w own [] [ag.ls bU r.ao,ag.ls bK r.Things,ag.ls bL r.Held,ag.ls bM r.Notes])(hk:Ok r):RC Tryz.prog 58 #[.agg #[bU,bK,bL,bM,iV r.af,iV r.ah],.agg #[iV p.aC,iV p.Slot],iV slot] H (fun z:Value×Value×Value×Value => .tuple #[.agg #[z.1,z.2.1,z.2.2.1,z.2.2.2,iV (jh r p slot).1.af,iV (jh r p slot).1.ah],df (jh r p slot).2]) (fun _=>[]) (fun z=>[ag.ls z.1 (jh r p slot).1.ao,ag.ls z.2.1 (jh r p slot).1.Things,ag.ls z.2.2.1 (jh r p slot).1.Held,ag.ls z.2.2.2 (jh r p slot).1.Notes]):=by
 have eK:=H.cq 0 rfl
 have dJ:=H.cq 1 rfl
 have fG:=H.cq 2 rfl
 have eL:=H.cq 3 rfl
 have bw:=hk.wl;have bt:=hk.tl;have bh:=hk.hl;have bn:=hk.nl;have KN:=hk.w0;have KO:=hk.w1;have KP:=hk.t0;have KQ:=hk.t1
 have bp:=nK r.Held p 0
 refine R.bF [(0,.agg #[bU,bK,bL,bM,iV r.af,iV r.ah]),(1,.agg #[iV p.aC,iV p.Slot]),(2,iV slot)] Tryz.func58 O O O O H<|R.reg O<|R.s O (s.box O O O) fun b1=>?_
 refine R.s O (s.box O O O) fun b2=>?_
 refine R.s O (s.alloc dq O O) fun b3=>?_
 refine R.u 1 O<|R.nil<|R.reg O<|R.q (q.cT 2 O O aj) O<|R.q (q.cT 1 O O bP) O<|R.c (q.call tH O O (fun w hw=>(qO _ _ _ _ r p w (hw.bO 0 O) (hw.bO 1 O) (hw.bO 2 O) (hw.bO 3 O) ‹_›))) O<|R.u 3 O<|?_
 refine R.s O (s.alloc bQ O O) fun b4=>?_
 refine R.s O (s.st 0 _ O O O O (.inl aN) O O O O) fun _=>?_
 refine R.u 1 O<|R.nil<|R.reg O<|R.u 1 O<|?_
 by_cases h1:(aS r p).2=0
 .
  refine R.q (q.dx O O Tryz.underlying38) O<|R.nil<|R.aD O O<|R.reg O<|R.q (q.aP O fu O) O<|R.q (q.ld 2 O O ap O) O<|R.u 1 O<|R.q (q.build wk O O) O<|R.s O (s.alloc Ct O O) fun b5=>?_
  refine R.s O (s.st 0 _ O O O O (.inl bP) O O O O) fun _=>?_
  refine R.nil<|R.reg O<|R.q (q.cT 4 O O aj) O<|R.q (q.cT 0 O O bP) O<|R.c (q.call Aw O O (fun w hw=>(qP _ _ _ _ r (⟨p.aC,slot⟩:Place) w (hw.bO 0 O) (hw.bO 1 O) (hw.bO 2 O) (hw.bO 3 O) ‹_›))) O<|R.u 1 O<|R.nil ?_
  refine R.reg O<|R.u 1 O<|?_
  by_cases h2:gI r (⟨p.aC,slot⟩:Place)=0
  .
   refine R.q (q.dx O O Tryz.underlying38) O<|R.nil<|R.aD O O<|R.fJ (fuel:=10) nq O O mixed O<|D.q (i:=0) O (aA nq bJ O) O (q.aP O cM O) O<|D.q (i:=2) O (aA nq bJ O) O (q.cT 3 O O bP) O<|D.q (i:=4) O (aA nq bJ O) O (q.cT 0 O O bP) O<|D.q (i:=5) O (aA nq bJ O) O (q.aP O bX O) O<|D.q (i:=6) O (aA nq bJ O) O (q.ld 1 O O ap O) O<|D.one (i:=1) O<|Do.s (s.c (Qt.a (q.ld 4 O O dP O)) O) (fun _=>(aA nq bJ O)) O fun _=>?_
   refine D.one (i:=3) O<|Do.s (s.aT qY [2] _ _ _ O O O tI O O (fun w own hw H=>qz bL r.Held p 0 w own H (by omega)) O) (fun _=>(aA sy bJ O)) O fun z3=>?_
   refine D.one (i:=7) O<|Do.s (s.pre (fun _ hw=>hw.cW 0 _ O O) (s.aT qY [0] _ _ _ O O O tI O O (fun w own hw H=>qz z3 (fT r.Held p 0) (⟨p.aC,slot⟩:Place) (aS r p).1.ID w own H (by omega)) O)) (fun _=>(aA sy [1,2,3,4] O)) O fun z4=>?_
   refine D.q (i:=8) O (aA sy [1,2,3,4] O) O (q.aP O cM O) O<|D.one (i:=9) O<|Do.s (s.fP 5 _ O O O (fun w hw=>Sl.cr (hw.row 0 O)) (.inr ⟨dP,rfl⟩) (fun w hw=>(ae (Sl.one (hw.row 0 O)) aO)) O O O) (fun _=>(aA sy [1,2,3,4] O)) O fun _=>?_
   refine D.done<|R.reg O<|R.q (q.cT 5 O O aj) O<|R.s O (s.fP 3 _ O O O (fun _ _=>rfl) (.inl aj) (fun w hw=>(ae (Sl.one (hw.bO 1 O)) (ae (Sl.one (hw.bO 2 O)) (ae (Sl.one (hw.row 0 O)) (ae (Sl.one (hw.bO 4 O)) (ae O (ae O aO))))))) O O O) fun _=>?_
   refine R.u 1 O<|R.nil<|R.mp (fun _ hw=>hw.cW 0 _ O O) ?_
   have hz:jh r p slot=((⟨r.ao,r.Things,fT (fT r.Held p 0) (⟨p.aC,slot⟩:Place) (aS r p).1.ID,r.Notes,r.af,r.ah⟩:aB),0):=by (unfold jh;(repeat' split) <;> rfl)
   rw [hz]
   exact R.w2 (bU,bK,z4,bM) [5] [2,3,0,5] O Tryz.results58 (RV.cell 2 O O aj) (RV.tmp O) O O O (dy O (iJ O))
  refine R.q (q.dX O O Tryz.underlying38) O<|R.nil<|R.az O O<|R.reg O<|R.q (q.build dY O O) O<|R.u 1 O<|R.s O (s.st 2 _ O O O O (.inl aj) O O O O) fun _=>?_
  refine R.u 1 O<|R.nil<|R.mp (fun _ hw=>hw.bg (α:=ak))<|R.mp (fun _ hw=>hw.bg (α:=aE))<|R.mp (fun _ hw=>hw.bg (α:=Held))<|R.mp (fun _ hw=>hw.bg (α:=Note)) ?_
  have hz:jh r p slot=((⟨[],[],[],[],0,0⟩:aB),gI r (⟨p.aC,slot⟩:Place)):=by (unfold jh;(repeat' split) <;> rfl)
  rw [hz]
  exact R.w2 ((nS),(nS),(nS),(nS)) [5] gk O Tryz.results58 (RV.cell 2 O O aj) (RV.tmp O) O O O (dy O O)
 refine R.q (q.dX O O Tryz.underlying38) O<|R.nil<|R.az O O<|R.reg O<|R.q (q.build dY O O) O<|R.u 1 O<|R.s O (s.st 1 _ O O O O (.inl aj) O O O O) fun _=>?_
 refine R.u 1 O<|R.nil<|R.mp (fun _ hw=>hw.bg (α:=ak))<|R.mp (fun _ hw=>hw.bg (α:=aE))<|R.mp (fun _ hw=>hw.bg (α:=Held))<|R.mp (fun _ hw=>hw.bg (α:=Note)) ?_
 have hz:jh r p slot=((⟨[],[],[],[],0,0⟩:aB),(aS r p).2):=by (unfold jh;(repeat' split) <;> first|rfl|(exfalso;omega)|(simp_all;done))
 rw [hz]
 exact R.w2 ((nS),(nS),(nS),(nS)) [4] gk O Tryz.results58 (RV.cell 1 O O aj) (RV.tmp O) O O O (dy O O)
theorem Ib (bU bK bL bM:Value)(r:aB)(p:Place)(w:World)(own:List Nat)(H:HN w own [] [ag.ls bU r.ao,ag.ls bK r.Things,ag.ls bL r.Held,ag.ls bM r.Notes])(hk:Ok r):RC Tryz.prog 59 #[.agg #[bU,bK,bL,bM,iV r.af,iV r.ah],.agg #[iV p.aC,iV p.Slot]] H (fun z:Value×Value×Value×Value => .tuple #[.agg #[z.1,z.2.1,z.2.2.1,z.2.2.2,iV (jJ r p).1.af,iV (jJ r p).1.ah],df (jJ r p).2]) (fun _=>[]) (fun z=>[ag.ls z.1 (jJ r p).1.ao,ag.ls z.2.1 (jJ r p).1.Things,ag.ls z.2.2.1 (jJ r p).1.Held,ag.ls z.2.2.2 (jJ r p).1.Notes]):=by
 have eK:=H.cq 0 rfl
 have dJ:=H.cq 1 rfl
 have fG:=H.cq 2 rfl
 have eL:=H.cq 3 rfl
 have bw:=hk.wl;have bt:=hk.tl;have bh:=hk.hl;have bn:=hk.nl;have KN:=hk.w0;have KO:=hk.w1;have KP:=hk.t0;have KQ:=hk.t1
 have hkd:=hk.wo (aS r p).1.ID
 refine R.bF [(0,.agg #[bU,bK,bL,bM,iV r.af,iV r.ah]),(1,.agg #[iV p.aC,iV p.Slot])] Tryz.func59 O O O O H<|R.reg O<|R.s O (s.box O O O) fun b1=>?_
 refine R.s O (s.box O O O) fun b2=>?_
 refine R.s O (s.alloc dq O O) fun b3=>?_
 refine R.u 1 O<|R.nil<|R.reg O<|R.q (q.cT 2 O O aj) O<|R.q (q.cT 1 O O bP) O<|R.c (q.call tH O O (fun w hw=>(qO _ _ _ _ r p w (hw.bO 0 O) (hw.bO 1 O) (hw.bO 2 O) (hw.bO 3 O) ‹_›))) O<|R.u 3 O<|?_
 refine R.s O (s.alloc bQ O O) fun b4=>?_
 refine R.s O (s.st 0 _ O O O O (.inl aN) O O O O) fun _=>?_
 refine R.u 1 O<|R.nil<|R.reg O<|R.u 1 O<|?_
 by_cases h1:(aS r p).2=0
 .
  refine R.q (q.dx O O Tryz.underlying38) O<|R.nil<|R.aD O O<|R.reg O<|R.q (q.aP O bq O) O<|R.q (q.ld 3 O O cd O) O<|R.q (q.aP O bX O) O<|R.q (q.ld 0 O O ap O) O<|R.s O (s.vT Je O O (fun w hw=>qe _ r.ao (aS r p).1.ID w (hw.bO 0 O) (by omega)) O) fun v1=>?_
  refine R.q (q.aP O bq O) O<|R.s O (s.fP 4 _ O O O (fun w hw=>Sl.cr (hw.row 0 O)) (.inr ⟨cd,rfl⟩) (fun w hw=>(ae (Sl.one (hw.row 0 O)) aO)) O O O) fun _=>?_
  refine R.nil<|R.reg O<|R.q (q.cT 4 O O aj) O<|R.s O (s.pre (fun _ hw=>hw.cW 0 _ O O) (s.aT gV [0,2,3,4] _ _ _ O O O Jf O O (fun w own hw H=>r5 v1 bK bL bM (⟨(without r.ao (aS r p).1.ID),r.Things,r.Held,r.Notes,r.af,r.ah⟩:aB) w own H ‹_›) O)) ?_
  rintro ⟨z1,z2,z3,z4⟩
  dsimp only
  refine R.s O (s.fP 1 _ O O O (fun _ _=>rfl) (.inl aj) (fun w hw=>(ae (Sl.one (hw.bO 0 O)) (ae (Sl.one (hw.bO 1 O)) (ae (Sl.one (hw.bO 2 O)) (ae (Sl.one (hw.bO 3 O)) (ae O (ae O aO))))))) O O O) fun _=>?_
  refine R.u 1 O<|R.nil ?_
  have hz:jJ r p=((dN (⟨(without r.ao (aS r p).1.ID),r.Things,r.Held,r.Notes,r.af,r.ah⟩:aB)),0):=by (unfold jJ;(repeat' split) <;> rfl)
  rw [hz]
  exact R.w2 (z1,z2,z3,z4) [4] bJ O Tryz.results59 (RV.cell 1 O O aj) (RV.tmp O) O O O (dy O (iJ O))
 refine R.q (q.dX O O Tryz.underlying38) O<|R.nil<|R.az O O<|R.reg O<|R.q (q.build dY O O) O<|R.u 1 O<|R.s O (s.st 1 _ O O O O (.inl aj) O O O O) fun _=>?_
 refine R.u 1 O<|R.nil<|R.mp (fun _ hw=>hw.bg (α:=ak))<|R.mp (fun _ hw=>hw.bg (α:=aE))<|R.mp (fun _ hw=>hw.bg (α:=Held))<|R.mp (fun _ hw=>hw.bg (α:=Note)) ?_
 have hz:jJ r p=((⟨[],[],[],[],0,0⟩:aB),(aS r p).2):=by (unfold jJ;(repeat' split) <;> first|rfl|(exfalso;omega)|(simp_all;done))
 rw [hz]
 exact R.w2 ((nS),(nS),(nS),(nS)) [4] gk O Tryz.results59 (RV.cell 1 O O aj) (RV.tmp O) O O O (dy O O)
theorem Dv (bU bK bL bM:Value)(r:aB)(p:Place)(w:World)(own:List Nat)(H:HN w own [] [ag.ls bU r.ao,ag.ls bK r.Things,ag.ls bL r.Held,ag.ls bM r.Notes])(hk:Ok r):RC Tryz.prog 60 #[.agg #[bU,bK,bL,bM,iV r.af,iV r.ah],.agg #[iV p.aC,iV p.Slot]] H (fun z:Value×Value×Value×Value => .tuple #[.agg #[z.1,z.2.1,z.2.2.1,z.2.2.2,iV (fa r p).1.af,iV (fa r p).1.ah],df (fa r p).2]) (fun _=>[]) (fun z=>[ag.ls z.1 (fa r p).1.ao,ag.ls z.2.1 (fa r p).1.Things,ag.ls z.2.2.1 (fa r p).1.Held,ag.ls z.2.2.2 (fa r p).1.Notes]):=by
 have eK:=H.cq 0 rfl
 have dJ:=H.cq 1 rfl
 have fG:=H.cq 2 rfl
 have eL:=H.cq 3 rfl
 have bw:=hk.wl;have bt:=hk.tl;have bh:=hk.hl;have bn:=hk.nl;have KN:=hk.w0;have KO:=hk.w1;have KP:=hk.t0;have KQ:=hk.t1
 have hkd:Ok (⟨r.ao.filter (fun x => !(fun (x:ak)=>decide (x.ID∈(kA (aS r p).1.ID r.ao))) x),r.Things,r.Held,r.Notes,r.af,r.ah⟩:aB):=hk.cut (aS r p).1.ID
 refine R.bF [(0,.agg #[bU,bK,bL,bM,iV r.af,iV r.ah]),(1,.agg #[iV p.aC,iV p.Slot])] Tryz.func60 O O O O H<|R.reg O<|R.s O (s.box O O O) fun b1=>?_
 refine R.s O (s.box O O O) fun b2=>?_
 refine R.s O (s.alloc dq O O) fun b3=>?_
 refine R.u 1 O<|R.nil<|R.reg O<|R.q (q.cT 2 O O aj) O<|R.q (q.cT 1 O O bP) O<|R.c (q.call tH O O (fun w hw=>(qO _ _ _ _ r p w (hw.bO 0 O) (hw.bO 1 O) (hw.bO 2 O) (hw.bO 3 O) ‹_›))) O<|R.u 3 O<|?_
 refine R.s O (s.alloc bQ O O) fun b4=>?_
 refine R.s O (s.st 0 _ O O O O (.inl aN) O O O O) fun _=>?_
 refine R.u 1 O<|R.nil<|R.reg O<|R.u 1 O<|?_
 by_cases h1:(aS r p).2=0
 .
  refine R.q (q.dx O O Tryz.underlying38) O<|R.nil<|R.aD O O<|R.reg O<|R.q (q.aP O bq O) O<|R.q (q.ld 3 O O cd O) O<|R.q (q.aP O bX O) O<|R.q (q.ld 0 O O ap O) O<|R.s O (s.vT O1 O O (fun w hw=>Bw _ r.ao (aS r p).1.ID w (hw.bO 0 O) (by omega)) O) fun v1=>?_
  refine R.s O (s.alloc y9 O O) fun b5=>?_
  refine R.s O (s.fP 0 _ O O O (fun w hw=>Sl.cr (hw.row 1 O)) (.inr ⟨nF,rfl⟩) (fun w hw=>(ae (Sl.one (hw.row 1 O)) aO)) O O O) fun _=>?_
  refine R.nil<|R.reg O<|R.q (q.aP O bq O) O<|R.q (q.ld 5 O O cd O) O<|R.s O (s.aT l9 [0] _ _ _ O O O wq O O (fun w own hw H=>jK bU r.ao w own H (by omega)) O) fun z1=>?_
  refine R.q (q.LM (cap:=[.pointer (some ⟨b5,0,none⟩)]) O O) O<|R.s O (s.aT dU [] _ _ _ O O O O2 O O (fun w own hw H=>vp z1 r.ao (fun (x:ak)=>decide (x.ID∈(kA (aS r p).1.ID r.ao))) _ _ O3 w own H (fun W x hU=>yK x _ (kA (aS r p).1.ID r.ao) _ W (hw.vZ 1 0 O O (by decide) hU) (Own.sl (hw.vZ 2 0 O O (by decide) hU)) ) (by omega)) O) fun z2=>?_
  refine R.q (q.aP O bq O) O<|R.s O (s.fP 6 _ O O O (fun w hw=>Sl.cr (hw.row 0 O)) (.inr ⟨cd,rfl⟩) (fun w hw=>(ae (Sl.one (hw.row 0 O)) aO)) O O O) fun _=>?_
  refine R.nil<|R.reg O<|R.q (q.cT 6 O O aj) O<|R.s O (s.pre (fun _ hw=>hw.cW 0 _ O O) (s.aT l9 [0,2,3,4] _ _ _ O O O Jf O O (fun w own hw H=>by have PF:=r5 z2 bK bL bM (⟨r.ao.filter (fun x => !(fun (x:ak)=>decide (x.ID∈(kA (aS r p).1.ID r.ao))) x),r.Things,r.Held,r.Notes,r.af,r.ah⟩:aB) w own H ‹_›;exact PF) O)) ?_
  rintro ⟨z3,z4,z5,z6⟩
  dsimp only
  refine R.s O (s.fP 3 _ O O O (fun _ _=>rfl) (.inl aj) (fun w hw=>(ae (Sl.one (hw.bO 0 O)) (ae (Sl.one (hw.bO 1 O)) (ae (Sl.one (hw.bO 2 O)) (ae (Sl.one (hw.bO 3 O)) (ae O (ae O aO))))))) O O O) fun _=>?_
  refine R.u 1 O<|R.nil ?_
  have hz:fa r p=((dN (⟨r.ao.filter (fun x => !(fun (x:ak)=>decide (x.ID∈(kA (aS r p).1.ID r.ao))) x),r.Things,r.Held,r.Notes,r.af,r.ah⟩:aB)),0):=by (unfold fa;(repeat' split) <;> rfl)
  rw [hz]
  exact R.w2 (z3,z4,z5,z6) [6] bJ O Tryz.results60 (RV.cell 3 O O aj) (RV.tmp O) O O O (dy O (iJ O))
 refine R.q (q.dX O O Tryz.underlying38) O<|R.nil<|R.az O O<|R.reg O<|R.q (q.build dY O O) O<|R.u 1 O<|R.s O (s.st 1 _ O O O O (.inl aj) O O O O) fun _=>?_
 refine R.u 1 O<|R.nil<|R.mp (fun _ hw=>hw.bg (α:=ak))<|R.mp (fun _ hw=>hw.bg (α:=aE))<|R.mp (fun _ hw=>hw.bg (α:=Held))<|R.mp (fun _ hw=>hw.bg (α:=Note)) ?_
 have hz:fa r p=((⟨[],[],[],[],0,0⟩:aB),(aS r p).2):=by (unfold fa;(repeat' split) <;> first|rfl|(exfalso;omega)|(simp_all;done))
 rw [hz]
 exact R.w2 ((nS),(nS),(nS),(nS)) [4] gk O Tryz.results60 (RV.cell 1 O O aj) (RV.tmp O) O O O (dy O O)
theorem xI (bU bK bL bM:Value)(r:aB)(p:Place)(kind:Int)(rights:Int)(w:World)(yH:Sl w bU r.ao)(BD:Sl w bK r.Things)(Fg:Sl w bL r.Held)(MG:Sl w bM r.Notes)(hk:Ok r)(hr:0<=rights/\rights<=7):Calls Tryz.prog 125 #[.agg #[bU,bK,bL,bM,iV r.af,iV r.ah],.agg #[iV p.aC,iV p.Slot],iV kind,iV rights] w fun e w'=>e = .returned (.tuple #[ak.val (cz r p kind rights).1,iV (cz r p kind rights).2.1,df (cz r p kind rights).2.2])/\Ext w w':=by
 have bw:=hk.wl;have bt:=hk.tl;have bh:=hk.hl;have bn:=hk.nl;have KN:=hk.w0;have KO:=hk.w1;have KP:=hk.t0;have KQ:=hk.t1
 refine R.enter [] [(0,.agg #[bU,bK,bL,bM,iV r.af,iV r.ah]),(1,.agg #[iV p.aC,iV p.Slot]),(2,iV kind),(3,iV rights)] Tryz.func125 O O O O<|R.reg O<|R.s O (s.box O O O) fun b1=>?_
 refine R.s O (s.box O O O) fun b2=>?_
 refine R.s O (s.alloc bQ O O) fun b3=>?_
 refine R.u 2 O<|R.nil<|R.reg O<|R.q (q.cT 2 O O aj) O<|R.q (q.cT 1 O O bP) O<|R.c (q.call tH O O (fun w hw=>(qO _ _ _ _ r p w ((fun _=>Wd.old yH) w hw) ((fun _=>Wd.old BD) w hw) ((fun _=>Wd.old Fg) w hw) ((fun _=>Wd.old MG) w hw) ‹_›))) O<|R.u 3 O<|?_
 refine R.s O (s.alloc bQ O O) fun b4=>?_
 refine R.s O (s.st 0 _ O O O O (.inl aN) O O O O) fun _=>?_
 refine R.u 1 O<|R.nil<|R.reg O<|R.u 1 O<|?_
 by_cases h1:(aS r p).2=0
 .
  have V5:=hk.get h1
  refine R.q (q.dx O O Tryz.underlying38) O<|R.nil<|R.aD O O<|R.reg O<|R.q (q.aP O du O) O<|R.q (q.ld 3 O O eQ O) O<|R.q (q.LM (cap:=[.pointer (some ⟨b4,0,none⟩)]) O O) O<|?_
  rcases j5 (fun (t:aE)=>t.ID==(aS r p).1.aE) r.Things with ⟨gS,Eu⟩ | ⟨rj,Es,gS,lU,ve,AR,TQ⟩
  .
   refine R.c (q.call AA O O (fun w hw=>(cv (congrArg (Value.int .i64) gS) (iu _ r.Things (fun (t:aE)=>t.ID==(aS r p).1.aE) _ _ Jt w ((fun _=>Wd.old BD) w hw) (fun W t hW=>xH t (aS r p).1 _ W (sG (hw.b 0 O) hW) ) )))) O<|R.u 1 O<|R.nil ?_
   refine R.reg O<|R.u 1 O<|R.q (q.lss (b:=true) O O (by decide)) O<|R.u 10 O<|R.nil<|R.az O O<|R.reg O<|R.q (q.build iT O O) O<|R.q (q.iface O br) O<|R.s O (s.st 1 _ O O O O (.inl aN) O O O O) fun _=>?_
   exact R.u 2 O<|R.nil<|R.Rn O Tryz.results125 (RV.cell 1 O O aN) (RV.tmp O) (RV.tmp O) (congrArg ak.val (show (⟨0,0,0,0,0⟩:ak)=(cz r p kind rights).1 from by (rw [qL ‹_› Eu];rfl))) (rI (by (rw [qL ‹_› Eu];done))) (dj (by decide) (by (rw [qL ‹_› Eu];done)))
  refine R.c (q.call AA O O (fun w hw=>(cv (congrArg (Value.int .i64) gS) (iu _ r.Things (fun (t:aE)=>t.ID==(aS r p).1.aE) _ _ Jt w ((fun _=>Wd.old BD) w hw) (fun W t hW=>xH t (aS r p).1 _ W (sG (hw.b 0 O) hW) ) )))) O<|R.u 1 O<|R.nil ?_
  refine R.reg O<|R.u 1 O<|R.q (q.cS O O) O<|R.u 1 O<|R.qg O (q.aP O du O) O<|R.qg O (q.ld 3 O O eQ O) O<|R.u 1 O<|R.qg O (q.idx (i:=rj) (fun _=>Wd.old BD) O O kg O lU) O<|R.qg O (q.m9 (j':=1) (fun _=>Wd.old BD) lU O wm O) O<|R.qg O (q.ln (fun _=>Wd.old BD) lU O ap O) O<|R.u 1 O<|?_
  by_cases h2:Es.Kind=kind
  .
   refine R.qg O (q.ny O O) O<|R.u 1 O<|R.nil<|R.aD O O<|R.reg O<|R.q (q.aP O jT O) O<|R.q (q.ld 0 O O ap O) O<|R.u 1 O<|?_
   rcases Bool.eq_false_or_eq_true (je (aS r p).1.Rights rights) with h3|h3
   .
    refine R.c (q.call pO O O (fun w hw=>(cv (congrArg Value.bool h3) (gG (aS r p).1.Rights rights w (by omega) (by omega))))) O<|R.u 1 O<|R.nil ?_
    refine R.aD O O<|R.reg O<|R.q (q.cT 0 O O aN) O<|R.u 1 O<|R.s O (s.st 1 _ O O O O (.inl aN) O O O O) fun _=>?_
    exact R.u 2 O<|R.nil<|R.Rn O Tryz.results125 (RV.cell 1 O O aN) (RV.tmp O) (RV.tmp O) (congrArg ak.val (show (aS r p).1=(cz r p kind rights).1 from by (rw [vD ‹_› lU ve AR ‹_› ‹_›];done))) (rI (by (rw [vD ‹_› lU ve AR ‹_› ‹_›];done))) (iJ (by (rw [vD ‹_› lU ve AR ‹_› ‹_›];done)))
   refine R.c (q.call pO O O (fun w hw=>(cv (congrArg Value.bool h3) (gG (aS r p).1.Rights rights w (by omega) (by omega))))) O<|R.u 1 O<|R.nil ?_
   refine R.az O O<|R.reg O<|R.q (q.build iT O O) O<|R.q (q.iface O br) O<|R.s O (s.st 1 _ O O O O (.inl aN) O O O O) fun _=>?_
   exact R.u 2 O<|R.nil<|R.Rn O Tryz.results125 (RV.cell 1 O O aN) (RV.tmp O) (RV.tmp O) (congrArg ak.val (show (⟨0,0,0,0,0⟩:ak)=(cz r p kind rights).1 from by (rw [oL ‹_› lU ve AR ‹_› ‹_›];rfl))) (rI (by (rw [oL ‹_› lU ve AR ‹_› ‹_›];done))) (dj (by decide) (by (rw [oL ‹_› lU ve AR ‹_› ‹_›];done)))
  refine R.qg O (q.nu O O) O<|R.u 1 O<|R.nil<|R.az O O<|R.reg O<|R.q (q.build iT O O) O<|R.q (q.iface O br) O<|R.s O (s.st 1 _ O O O O (.inl aN) O O O O) fun _=>?_
  exact R.u 2 O<|R.nil<|R.Rn O Tryz.results125 (RV.cell 1 O O aN) (RV.tmp O) (RV.tmp O) (congrArg ak.val (show (⟨0,0,0,0,0⟩:ak)=(cz r p kind rights).1 from by (rw [qM ‹_› lU ve AR ‹_›];rfl))) (rI (by (rw [qM ‹_› lU ve AR ‹_›];done))) (dj (by decide) (by (rw [qM ‹_› lU ve AR ‹_›];done)))
 refine R.q (q.dX O O Tryz.underlying38) O<|R.nil<|R.az O O<|R.reg O<|R.q (q.build iT O O) O<|R.u 1 O<|R.s O (s.st 1 _ O O O O (.inl aN) O O O O) fun _=>?_
 exact R.u 2 O<|R.nil<|R.Rn O Tryz.results125 (RV.cell 1 O O aN) (RV.tmp O) (RV.tmp O) (congrArg ak.val (show (⟨0,0,0,0,0⟩:ak)=(cz r p kind rights).1 from by (rw [s7 ‹_›];rfl))) (rI (by (rw [s7 ‹_›];done))) (rE (by (rw [s7 ‹_›];done)))
theorem Fh (bU bK bL bM:Value)(r:aB)(p:Place)(d:ByteArray)(w:World)(own:List Nat)(H:HN w own [] [ag.ls bU r.ao,ag.ls bK r.Things,ag.ls bL r.Held,ag.ls bM r.Notes])(hk:Ok r):RC Tryz.prog 61 #[.agg #[bU,bK,bL,bM,iV r.af,iV r.ah],.agg #[iV p.aC,iV p.Slot],.string d] H (fun z:Value×Value×Value×Value => .tuple #[.agg #[z.1,z.2.1,z.2.2.1,z.2.2.2,iV (fY r p d).1.af,iV (fY r p d).1.ah],df (fY r p d).2]) (fun _=>[]) (fun z=>[ag.ls z.1 (fY r p d).1.ao,ag.ls z.2.1 (fY r p d).1.Things,ag.ls z.2.2.1 (fY r p d).1.Held,ag.ls z.2.2.2 (fY r p d).1.Notes]):=by
 have eK:=H.cq 0 rfl
 have dJ:=H.cq 1 rfl
 have fG:=H.cq 2 rfl
 have eL:=H.cq 3 rfl
 have bw:=hk.wl;have bt:=hk.tl;have bh:=hk.hl;have bn:=hk.nl;have KN:=hk.w0;have KO:=hk.w1;have KP:=hk.t0;have KQ:=hk.t1
 refine R.bF [(0,.agg #[bU,bK,bL,bM,iV r.af,iV r.ah]),(1,.agg #[iV p.aC,iV p.Slot]),(2,.string d)] Tryz.func61 O O O O H<|R.reg O<|R.s O (s.box O O O) fun b1=>?_
 refine R.s O (s.box O O O) fun b2=>?_
 refine R.s O (s.alloc dq O O) fun b3=>?_
 refine R.u 1 O<|R.nil<|R.reg O<|R.q (q.cT 2 O O aj) O<|R.q (q.cT 1 O O bP) O<|R.c (q.call EC O O (fun w hw=>(xI _ _ _ _ r p 1 2 w (hw.bO 0 O) (hw.bO 1 O) (hw.bO 2 O) (hw.bO 3 O) ‹_› (by omega)))) O<|R.u 4 O<|?_
 refine R.s O (s.alloc bQ O O) fun b4=>?_
 refine R.s O (s.st 0 _ O O O O (.inl aN) O O O O) fun _=>?_
 refine R.u 2 O<|R.nil<|R.reg O<|R.u 1 O<|?_
 by_cases h1:(cz r p 1 2).2.2=0
 .
  obtain ⟨m1,m2,m3,i,ix,ik,ih,ii,id,ib⟩:=qN h1;have iB:=(List.getElem?_eq_some_iff.1 ih).1
  refine R.q (q.dx O O Tryz.underlying38) O<|R.nil<|R.aD O O<|R.reg O<|R.u 1 O<|R.q (q.iy O Tryz.underlying9) O<|?_
  by_cases h2:8<d.size
  .
   refine R.q (q.eM O O) O<|R.nil<|R.az O O<|R.reg O<|R.q (q.build dY O O) O<|R.q (q.iface O br) O<|R.s O (s.st 1 _ O O O O (.inl aj) O O O O) fun _=>?_
   refine R.u 1 O<|R.nil<|R.mp (fun _ hw=>hw.bg (α:=ak))<|R.mp (fun _ hw=>hw.bg (α:=aE))<|R.mp (fun _ hw=>hw.bg (α:=Held))<|R.mp (fun _ hw=>hw.bg (α:=Note)) ?_
   have hz:fY r p d=((⟨[],[],[],[],0,0⟩:aB),2):=by (unfold fY gU;(repeat' split) <;> rfl)
   rw [hz]
   exact R.w2 ((nS),(nS),(nS),(nS)) [4] gk O Tryz.results61 (RV.cell 1 O O aj) (RV.tmp O) O O O (dy O (dj (by decide) O))
  refine R.q (q.ey O O) O<|R.nil<|R.aD O O<|R.reg O<|R.q (q.aP O du O) O<|R.q (q.ld 3 O O eQ O) O<|R.s O (s.aT gV [1] _ _ _ O O O wt O O (fun w own hw H=>ji bK r.Things w own H (by omega)) O) fun z1=>?_
  refine R.q (q.aP O du O) O<|R.s O (s.fP 4 _ O O O (fun w hw=>Sl.cr (hw.row 0 O)) (.inr ⟨eQ,rfl⟩) (fun w hw=>(ae (Sl.one (hw.row 0 O)) aO)) O O O) fun _=>?_
  refine R.nil<|R.reg O<|R.q (q.aP O du O) O<|R.q (q.ld 4 O O eQ O) O<|R.u 2 O<|?_
  obtain ⟨x1,hx1⟩:∃z,r.Things[(cz r p 1 2).2.1.toNat]? = some z:=⟨_,List.getElem?_eq_getElem (by omega)⟩
  refine R.q (q.idx (i:=(cz r p 1 2).2.1.toNat) (bD 0 O) O O kg (by omega) hx1) O<|R.q (q.m9 (j':=2) (bD 0 O) hx1 O wn O) O<|R.s O (s.stP (o:=2) (z:=(⟨x1.ID,x1.Kind,d⟩:aE)) 0 _ O hx1 O O O O O (by simp [Value.oneCell']) (.inr ⟨bG,rfl⟩) O) fun _=>?_
  refine R.nil<|R.reg O<|R.q (q.cT 4 O O aj) O<|R.s O (s.fP 2 _ O O O (fun _ _=>rfl) (.inl aj) (fun w hw=>(ae (Sl.one (hw.bO 0 O)) (ae (Sl.one (hw.row 0 O)) (ae (Sl.one (hw.bO 2 O)) (ae (Sl.one (hw.bO 3 O)) (ae O (ae O aO))))))) O O O) fun _=>?_
  refine R.u 1 O<|R.nil<|R.mp (fun _ hw=>hw.cW 0 _ O O) ?_
  have hz:fY r p d=((⟨r.ao,(r.Things.set (cz r p 1 2).2.1.toNat (⟨x1.ID,x1.Kind,d⟩:aE)),r.Held,r.Notes,r.af,r.ah⟩:aB),0):=by (unfold fY gU;(repeat' split) <;> first|rfl|(exfalso;omega)|(simp_all;done))
  rw [hz]
  exact R.w2 (bU,z1,bL,bM) [4] [1,0,3,4] O Tryz.results61 (RV.cell 1 O O aj) (RV.tmp O) O O O (dy O (iJ O))
 refine R.q (q.dX O O Tryz.underlying38) O<|R.nil<|R.az O O<|R.reg O<|R.q (q.build dY O O) O<|R.u 1 O<|R.s O (s.st 1 _ O O O O (.inl aj) O O O O) fun _=>?_
 refine R.u 1 O<|R.nil<|R.mp (fun _ hw=>hw.bg (α:=ak))<|R.mp (fun _ hw=>hw.bg (α:=aE))<|R.mp (fun _ hw=>hw.bg (α:=Held))<|R.mp (fun _ hw=>hw.bg (α:=Note)) ?_
 have hz:fY r p d=((⟨[],[],[],[],0,0⟩:aB),(cz r p 1 2).2.2):=by (unfold fY gU;(repeat' split) <;> first|rfl|(exfalso;omega)|(simp_all;done))
 rw [hz]
 exact R.w2 ((nS),(nS),(nS),(nS)) [4] gk O Tryz.results61 (RV.cell 1 O O aj) (RV.tmp O) O O O (dy O O)
theorem Ic (bU bK bL bM:Value)(r:aB)(p:Place)(d:ByteArray)(slot:Int)(rights:Int)(w:World)(own:List Nat)(H:HN w own [] [ag.ls bU r.ao,ag.ls bK r.Things,ag.ls bL r.Held,ag.ls bM r.Notes])(hk:Ok r):RC Tryz.prog 62 #[.agg #[bU,bK,bL,bM,iV r.af,iV r.ah],.agg #[iV p.aC,iV p.Slot],.string d,iV slot,iV rights] H (fun z:Value×Value×Value×Value => .tuple #[.agg #[z.1,z.2.1,z.2.2.1,z.2.2.2,iV (dK r p d slot rights).1.af,iV (dK r p d slot rights).1.ah],df (dK r p d slot rights).2]) (fun _=>[]) (fun z=>[ag.ls z.1 (dK r p d slot rights).1.ao,ag.ls z.2.1 (dK r p d slot rights).1.Things,ag.ls z.2.2.1 (dK r p d slot rights).1.Held,ag.ls z.2.2.2 (dK r p d slot rights).1.Notes]):=by
 have eK:=H.cq 0 rfl
 have dJ:=H.cq 1 rfl
 have fG:=H.cq 2 rfl
 have eL:=H.cq 3 rfl
 have bw:=hk.wl;have bt:=hk.tl;have bh:=hk.hl;have bn:=hk.nl;have KN:=hk.w0;have KO:=hk.w1;have KP:=hk.t0;have KQ:=hk.t1
 refine R.bF [(0,.agg #[bU,bK,bL,bM,iV r.af,iV r.ah]),(1,.agg #[iV p.aC,iV p.Slot]),(2,.string d),(3,iV slot),(4,iV rights)] Tryz.func62 O O O O H<|R.reg O<|R.s O (s.box O O O) fun b1=>?_
 refine R.s O (s.box O O O) fun b2=>?_
 refine R.s O (s.alloc dq O O) fun b3=>?_
 refine R.u 1 O<|R.nil<|R.reg O<|R.q (q.cT 2 O O aj) O<|R.q (q.cT 1 O O bP) O<|R.c (q.call EC O O (fun w hw=>(xI _ _ _ _ r p 2 2 w (hw.bO 0 O) (hw.bO 1 O) (hw.bO 2 O) (hw.bO 3 O) ‹_› (by omega)))) O<|R.u 4 O<|?_
 refine R.s O (s.alloc bQ O O) fun b4=>?_
 refine R.s O (s.st 0 _ O O O O (.inl aN) O O O O) fun _=>?_
 refine R.u 2 O<|R.nil<|R.reg O<|R.u 1 O<|?_
 by_cases h1:(cz r p 2 2).2.2=0
 .
  have mz:=qN h1;have mr:=hk.get mz.1;rw [<- mz.2.1] at mr
  refine R.q (q.dx O O Tryz.underlying38) O<|R.nil<|R.aD O O<|R.reg O<|R.u 1 O<|R.q (q.iy O Tryz.underlying9) O<|?_
  by_cases h2:8<d.size
  .
   refine R.q (q.eM O O) O<|R.nil<|R.az O O<|R.reg O<|R.q (q.build dY O O) O<|R.q (q.iface O br) O<|R.s O (s.st 1 _ O O O O (.inl aj) O O O O) fun _=>?_
   refine R.u 1 O<|R.nil<|R.mp (fun _ hw=>hw.bg (α:=ak))<|R.mp (fun _ hw=>hw.bg (α:=aE))<|R.mp (fun _ hw=>hw.bg (α:=Held))<|R.mp (fun _ hw=>hw.bg (α:=Note)) ?_
   have hz:dK r p d slot rights=((⟨[],[],[],[],0,0⟩:aB),2):=by (unfold dK;(repeat' split) <;> rfl)
   rw [hz]
   exact R.w2 ((nS),(nS),(nS),(nS)) [4] gk O Tryz.results62 (RV.cell 1 O O aj) (RV.tmp O) O O O (dy O (dj (by decide) O))
  refine R.q (q.ey O O) O<|R.nil<|R.aD O O<|R.reg O<|R.u 1 O<|R.nil<|R.reg O<|R.q (q.aP O dv O) O<|R.q (q.ld 3 O O eC O) O<|R.q (q.len' (dh 3 O) O Tryz.underlying46) O<|R.u 1 O<|R.nil<|R.loop (fun g_:Nat×Nat=>[(2,.string d),(3,iV slot),(4,iV rights),(5,.pointer (some ⟨b1,0,none⟩)),(6,.pointer (some ⟨b2,0,none⟩)),(10,.pointer (some ⟨b3,0,none⟩)),(12,.pointer (some ⟨b4,0,none⟩)),(15,iV (g_.2:Int)),(39,bM),(40,iV (r.Notes.length:Int)),(41,iV (g_.1:Int))]) (fun g_=>[ag.box b4 [iV (cz r p 2 2).1.ID,iV (cz r p 2 2).1.aE,iV (cz r p 2 2).1.Rights,iV (cz r p 2 2).1.aQ,iV (cz r p 2 2).1.From] 127,ag.box b3 G0 48,ag.box b2 (jN p) 32,ag.box b1 [bU,bK,bL,bM,iV r.af,iV r.ah] 48,ag.held w own]) (fun g_=>[ag.ls bU r.ao,ag.ls bK r.Things,ag.ls bL r.Held,ag.ls bM r.Notes]) (fun g_=>g_.1<=r.Notes.length/\g_.2=gj (r.Notes.take g_.1) (cz r p 2 2).1.aE) (fun g_=>r.Notes.length-g_.1) (0,0) O (by exact ⟨by omega,by simp [gj]⟩) (sF O) (iz gV bJ O) ?_
  rintro ⟨k,c⟩ ⟨hk1,HC⟩
  dsimp only at *
  have hc1:c<=k:=by rw [HC];exact MF
  refine R.reg O<|?_
  by_cases h3:k<r.Notes.length
  .
   refine R.q (q.dC O O) O<|R.nil<|R.az O O<|R.reg O<|?_
   obtain ⟨x1,hx1⟩:∃z,r.Notes[k]? = some z:=⟨_,List.getElem?_eq_getElem (by omega)⟩
   refine R.q (q.idx (i:=k) (dh 3 O) O O gJ O hx1) O<|R.q (q.gh (ds:=vO x1) (dh 3 O) hx1 O dG O) O<|R.s O (s.alloc eS O O) fun b5=>?_
   refine R.s O (s.st 0 _ O O O O (.inl dG) O O O O) fun _=>?_
   refine R.nil<|R.reg O<|R.q (q.aP O qv O) O<|R.q (q.ld 0 O O ap O) O<|R.q (q.aP O fU O) O<|R.q (q.ld 1 O O ap O) O<|?_
   by_cases h4:x1.Port=(cz r p 2 2).1.aE
   .
    refine R.q (q.fI O O) O<|R.nil<|R.az O O<|R.reg O<|R.u 1 O<|R.q (q.bA (r:=((c+1:Nat):Int)) O O) O<|R.u 1 O<|R.nil<|R.reg O<|R.q (q.bA (r:=((k+1:Nat):Int)) O O) O<|R.u 1 O<|R.nil<|R.back ((k+1),(c+1)) O (by (exact ⟨by omega,by rw [KH hx1 ‹_›,HC]⟩)) (by dsimp only;omega) (sF O) (aA rl bJ O)
   refine R.q (q.eU O O) O<|R.nil<|R.aD O O<|R.reg O<|R.q (q.bA (r:=((k+1:Nat):Int)) O O) O<|R.u 1 O<|R.nil<|R.back ((k+1),c) O (by (exact ⟨by omega,by rw [H7 hx1 ‹_›,HC]⟩)) (by dsimp only;omega) (sF O) (aA rl bJ O)
  refine R.q (q.cS O O) O<|R.nil<|R.aD O O<|R.reg O<|R.u 1 O<|?_
  by_cases h5:c=3
  .
   refine R.q (q.fI O O) O<|R.nil<|R.az O O<|R.reg O<|R.q (q.build dY O O) O<|R.q (q.iface O br) O<|R.s O (s.st 1 _ O O O O (.inl aj) O O O O) fun _=>?_
   refine R.u 1 O<|R.nil<|R.mp (fun _ hw=>hw.bg (α:=ak))<|R.mp (fun _ hw=>hw.bg (α:=aE))<|R.mp (fun _ hw=>hw.bg (α:=Held))<|R.mp (fun _ hw=>hw.bg (α:=Note)) ?_
   have hz:dK r p d slot rights=((⟨[],[],[],[],0,0⟩:aB),9):=by (rw [List.take_of_length_le (by omega)] at HC;subst HC;unfold dK;(repeat' split) <;> rfl)
   rw [hz]
   exact R.w2 ((nS),(nS),(nS),(nS)) [4] gk O Tryz.results62 (RV.cell 1 O O aj) (RV.tmp O) O O O (dy O (dj (by decide) O))
  refine R.q (q.eU O O) O<|R.nil<|R.aD O O<|R.reg O<|R.q (q.aP O fU O) O<|R.q (q.ld 0 O O ap O) O<|R.u 1 O<|R.q (q.aP O iU O) O<|R.q (q.ld 0 O O ap O) O<|R.q (q.build F4 O O) O<|R.s O (s.alloc eS O O) fun b6=>?_
  refine R.s O (s.st 0 _ O O O O (.inl dG) O O O O) fun _=>?_
  refine R.nil<|R.reg O<|R.u 1 O<|?_
  by_cases h6:slot<0
  .
   refine R.q (q.IQ O O) O<|R.nil<|R.aD O O<|R.fJ (fuel:=8) nq O O mixed O<|D.q (i:=0) O (aA nq bJ O) O (q.aP O dv O) O<|D.q (i:=3) O (aA nq bJ O) O (q.cT 0 O O dG) O<|D.two (i:=1) (j:=4) O O ?_ ?_
   .
    refine Do.s (s.c (Qt.a (q.ld 4 O O eC O)) O) (fun _=>(aA nq bJ O)) O fun _=>?_
    refine D.two (i:=2) (j:=4) O O ?_ ?_
    .
     refine Do.s (s.aT qY [3] _ _ _ O O O ox O O (fun w own hw H=>fc bM r.Notes w own H (by omega)) O) (fun _=>(aA sy bJ O)) O fun z2=>?_
     refine D.one (i:=4) O<|Do.s (s.bs (l:=([(⟨((cz r p 2 2).1).aE,d,(cz r p 2 2).1.aQ,0⟩:Note)]:List Note)) gJ eS O O O O O O O) (fun _=>(aA oW bJ O)) O fun b7=>?_
     refine D.one (i:=5) O<|Do.s (s.app 1 _ O O O (bD 0 O) ki (by (simp;omega)) (by (simp;omega)) (fun _=>rfl) O) (fun _=>(aA oW bJ O)) O fun v1=>?_
     refine D.q (i:=6) O (aA oW bJ O) O (q.aP O dv O) O<|D.one (i:=7) O<|Do.s (s.fP 6 _ O O O (fun w hw=>Sl.cr (hw.row 1 O)) (.inr ⟨eC,rfl⟩) (fun w hw=>(ae (Sl.one (hw.row 1 O)) aO)) O O O) (fun _=>(aA oW bJ O)) O fun _=>?_
     refine D.done<|R.reg O<|R.q (q.cT 6 O O aj) O<|R.s O (s.fP 4 _ O O O (fun _ _=>rfl) (.inl aj) (fun w hw=>(ae (Sl.one (hw.bO 0 O)) (ae (Sl.one (hw.bO 1 O)) (ae (Sl.one (hw.bO 2 O)) (ae (Sl.one (hw.row 1 O)) (ae O (ae O aO))))))) O O O) fun _=>?_
     refine R.u 1 O<|R.nil<|R.mp (fun _ hw=>hw.cW 1 _ O O) ?_
     have hz:dK r p d slot rights=((⟨r.ao,r.Things,r.Held,(r.Notes++([(⟨((cz r p 2 2).1).aE,d,(cz r p 2 2).1.aQ,0⟩:Note)])),r.af,r.ah⟩:aB),0):=by (rw [List.take_of_length_le (by omega)] at HC;subst HC;unfold dK;(repeat' split) <;> rfl)
     rw [hz]
     exact R.w2 (bU,bK,bL,v1) [6] vN O Tryz.results62 (RV.cell 3 O O aj) (RV.tmp O) O O O (dy O (iJ O))
    refine Do.s (s.bs (l:=([(⟨((cz r p 2 2).1).aE,d,(cz r p 2 2).1.aQ,0⟩:Note)]:List Note)) gJ eS O O O O O O O) (fun _=>(aA sy bJ O)) O fun b8=>?_
    refine D.one (i:=2) O<|Do.s (s.aT l9 [3] _ _ _ O O O ox O O (fun w own hw H=>fc bM r.Notes w own H (by omega)) O) (fun _=>(aA oW bJ O)) O fun z3=>?_
    refine D.one (i:=5) O<|Do.s (s.app 0 _ O O O (bD 1 O) ki (by (simp;omega)) (by (simp;omega)) (fun _=>rfl) O) (fun _=>(aA oW bJ O)) O fun v2=>?_
    refine D.q (i:=6) O (aA oW bJ O) O (q.aP O dv O) O<|D.one (i:=7) O<|Do.s (s.fP 6 _ O O O (fun w hw=>Sl.cr (hw.row 0 O)) (.inr ⟨eC,rfl⟩) (fun w hw=>(ae (Sl.one (hw.row 0 O)) aO)) O O O) (fun _=>(aA oW bJ O)) O fun _=>?_
    refine D.done<|R.reg O<|R.q (q.cT 6 O O aj) O<|R.s O (s.fP 4 _ O O O (fun _ _=>rfl) (.inl aj) (fun w hw=>(ae (Sl.one (hw.bO 0 O)) (ae (Sl.one (hw.bO 1 O)) (ae (Sl.one (hw.bO 2 O)) (ae (Sl.one (hw.row 0 O)) (ae O (ae O aO))))))) O O O) fun _=>?_
    refine R.u 1 O<|R.nil<|R.mp (fun _ hw=>hw.cW 0 _ O O) ?_
    have hz:dK r p d slot rights=((⟨r.ao,r.Things,r.Held,(r.Notes++([(⟨((cz r p 2 2).1).aE,d,(cz r p 2 2).1.aQ,0⟩:Note)])),r.af,r.ah⟩:aB),0):=by (rw [List.take_of_length_le (by omega)] at HC;subst HC;unfold dK;(repeat' split) <;> rfl)
    rw [hz]
    exact R.w2 (bU,bK,bL,v2) [6] vN O Tryz.results62 (RV.cell 3 O O aj) (RV.tmp O) O O O (dy O (iJ O))
   refine Do.s (s.bs (l:=([(⟨((cz r p 2 2).1).aE,d,(cz r p 2 2).1.aQ,0⟩:Note)]:List Note)) gJ eS O O O O O O O) (fun _=>(aA sy bJ O)) O fun b9=>?_
   refine D.one (i:=1) O<|Do.s (s.c (Qt.a (q.ld 5 O O eC O)) O) (fun _=>(aA sy bJ O)) O fun _=>?_
   refine D.one (i:=2) O<|Do.s (s.aT l9 [3] _ _ _ O O O ox O O (fun w own hw H=>fc bM r.Notes w own H (by omega)) O) (fun _=>(aA oW bJ O)) O fun z4=>?_
   refine D.one (i:=5) O<|Do.s (s.app 0 _ O O O (bD 1 O) ki (by (simp;omega)) (by (simp;omega)) (fun _=>rfl) O) (fun _=>(aA oW bJ O)) O fun v3=>?_
   refine D.q (i:=6) O (aA oW bJ O) O (q.aP O dv O) O<|D.one (i:=7) O<|Do.s (s.fP 6 _ O O O (fun w hw=>Sl.cr (hw.row 0 O)) (.inr ⟨eC,rfl⟩) (fun w hw=>(ae (Sl.one (hw.row 0 O)) aO)) O O O) (fun _=>(aA oW bJ O)) O fun _=>?_
   refine D.done<|R.reg O<|R.q (q.cT 6 O O aj) O<|R.s O (s.fP 4 _ O O O (fun _ _=>rfl) (.inl aj) (fun w hw=>(ae (Sl.one (hw.bO 0 O)) (ae (Sl.one (hw.bO 1 O)) (ae (Sl.one (hw.bO 2 O)) (ae (Sl.one (hw.row 0 O)) (ae O (ae O aO))))))) O O O) fun _=>?_
   refine R.u 1 O<|R.nil<|R.mp (fun _ hw=>hw.cW 0 _ O O) ?_
   have hz:dK r p d slot rights=((⟨r.ao,r.Things,r.Held,(r.Notes++([(⟨((cz r p 2 2).1).aE,d,(cz r p 2 2).1.aQ,0⟩:Note)])),r.af,r.ah⟩:aB),0):=by (rw [List.take_of_length_le (by omega)] at HC;subst HC;unfold dK;(repeat' split) <;> rfl)
   rw [hz]
   exact R.w2 (bU,bK,bL,v3) [6] vN O Tryz.results62 (RV.cell 3 O O aj) (RV.tmp O) O O O (dy O (iJ O))
  refine R.q (q.G3 O O) O<|R.nil<|R.az O O<|R.reg O<|R.q (q.aP O jT O) O<|R.q (q.ld 1 O O ap O) O<|?_
  rcases Bool.eq_false_or_eq_true (je (cz r p 2 2).1.Rights 4) with h7|h7
  .
   refine R.c (q.call pO O O (fun w hw=>(cv (congrArg Value.bool h7) (gG (cz r p 2 2).1.Rights 4 w (by omega) (by omega))))) O<|R.u 1 O<|R.nil ?_
   refine R.aD O O<|R.reg O<|R.q (q.cT 4 O O aj) O<|R.q (q.aP O fu O) O<|R.q (q.ld 3 O O ap O) O<|R.u 1 O<|R.q (q.build wk O O) O<|R.c (q.call tH O O (fun w hw=>(qO _ _ _ _ r (⟨p.aC,slot⟩:Place) w (hw.bO 0 O) (hw.bO 1 O) (hw.bO 2 O) (hw.bO 3 O) ‹_›))) O<|R.u 3 O<|?_
   refine R.s O (s.alloc bQ O O) fun b10=>?_
   refine R.s O (s.st 0 _ O O O O (.inl aN) O O O O) fun _=>?_
   refine R.u 1 O<|R.nil<|R.reg O<|R.u 1 O<|?_
   by_cases h8:(aS r (⟨p.aC,slot⟩:Place)).2=0
   .
    have Wx:=hk.get h8
    have hn0:∀x,(fA r x ⟨0,0⟩).Notes.length<=2000:=fun x=>hk.nl
    have hnz:=hn0 (derived (aS r ⟨p.aC,slot⟩).1 r.af rights 0).1
    refine R.q (q.dx O O Tryz.underlying38) O<|R.nil<|R.aD O O<|R.reg O<|R.q (q.aP O cO O) O<|R.q (q.ld 5 O O ap O) O<|?_
    by_cases h9:999<r.af
    .
     refine R.q (q.eM O O) O<|R.nil<|R.az O O<|R.reg O<|R.q (q.build dY O O) O<|R.q (q.iface O br) O<|R.s O (s.st 3 _ O O O O (.inl aj) O O O O) fun _=>?_
     refine R.u 1 O<|R.nil<|R.mp (fun _ hw=>hw.bg (α:=ak))<|R.mp (fun _ hw=>hw.bg (α:=aE))<|R.mp (fun _ hw=>hw.bg (α:=Held))<|R.mp (fun _ hw=>hw.bg (α:=Note)) ?_
     have hz:dK r p d slot rights=((⟨[],[],[],[],0,0⟩:aB),9):=by (rw [List.take_of_length_le (by omega)] at HC;subst HC;unfold dK;(repeat' split) <;> rfl)
     rw [hz]
     exact R.w2 ((nS),(nS),(nS),(nS)) [6] gk O Tryz.results62 (RV.cell 3 O O aj) (RV.tmp O) O O O (dy O (dj (by decide) O))
    refine R.q (q.ey O O) O<|R.nil<|R.aD O O<|R.reg O<|R.q (q.cT 0 O O aN) O<|R.q (q.aP O cO O) O<|R.q (q.ld 5 O O ap O) O<|R.u 1 O<|R.c (q.call wv O O (fun w hw=>(mA (aS r (⟨p.aC,slot⟩:Place)).1 r.af rights 0 w (by omega)))) O<|R.u 3 O<|?_
    refine R.s O (s.alloc bQ O O) fun b11=>?_
    refine R.s O (s.st 0 _ O O O O (.inl aN) O O O O) fun _=>?_
    refine R.u 1 O<|R.nil<|R.reg O<|R.u 1 O<|?_
    by_cases h10:(derived (aS r (⟨p.aC,slot⟩:Place)).1 r.af rights 0).2=0
    .
     refine R.q (q.dx O O Tryz.underlying38) O<|R.nil<|R.aD O O<|R.reg O<|R.q (q.cT 6 O O aj) O<|R.q (q.cT 0 O O aN) O<|R.q (q.build wk O O) O<|R.s O (s.aT dU bJ _ _ _ O O O wu O O (fun w own hw H=>qm bU bK bL bM r (derived (aS r (⟨p.aC,slot⟩:Place)).1 r.af rights 0).1 (⟨0,0⟩:Place) w own H (by omega)) O) ?_
     rintro ⟨z5,z6,z7,z8⟩
     dsimp only
     refine R.s O (s.fP 6 _ O O O (fun _ _=>rfl) (.inl aj) (fun w hw=>(ae (Sl.one (hw.bO 0 O)) (ae (Sl.one (hw.bO 1 O)) (ae (Sl.one (hw.bO 2 O)) (ae (Sl.one (hw.bO 3 O)) (ae O (ae O aO))))))) O O O) fun _=>?_
     refine R.nil<|R.reg O<|R.q (q.aP O bX O) O<|R.q (q.ld 0 O O ap O) O<|R.q (q.aP O iG O) O<|R.s O (s.st 2 _ O O O O (.inr ⟨ap,rfl⟩) O O O O) fun _=>?_
     refine R.nil<|R.fJ (fuel:=8) Ch O O mixed O<|D.q (i:=0) O (aA Ch dU O) O (q.aP O dv O) O<|D.q (i:=3) O (aA Ch dU O) O (q.cT 2 O O dG) O<|D.two (i:=1) (j:=4) O O ?_ ?_
     .
      refine Do.s (s.c (Qt.a (q.ld 6 O O eC O)) O) (fun _=>(aA Ch dU O)) O fun _=>?_
      refine D.two (i:=2) (j:=4) O O ?_ ?_
      .
       refine Do.s (s.aT dU [3] _ _ _ O O O ox O O (fun w own hw H=>fc z8 (fA r (derived (aS r (⟨p.aC,slot⟩:Place)).1 r.af rights 0).1 (⟨0,0⟩:Place)).Notes w own H (by omega)) O) (fun _=>(aA [1,2,3,4,5,6,8] dU O)) O fun mG=>?_
       refine D.one (i:=4) O<|Do.s (s.bs (l:=([(⟨((cz r p 2 2).1).aE,d,(cz r p 2 2).1.aQ,(derived (aS r (⟨p.aC,slot⟩:Place)).1 r.af rights 0).1.ID⟩:Note)]:List Note)) gJ eS O O O O O O O) (fun _=>(aA oX dU O)) O fun b12=>?_
       refine D.one (i:=5) O<|Do.s (s.app 1 _ O O O (bD 0 O) ki (by (simp;omega)) (by (simp;omega)) (fun _=>rfl) O) (fun _=>(aA oX dU O)) O fun v4=>?_
       refine D.q (i:=6) O (aA oX dU O) O (q.aP O dv O) O<|D.one (i:=7) O<|Do.s (s.fP 8 _ O O O (fun w hw=>Sl.cr (hw.row 1 O)) (.inr ⟨eC,rfl⟩) (fun w hw=>(ae (Sl.one (hw.row 1 O)) aO)) O O O) (fun _=>(aA oX dU O)) O fun _=>?_
       refine D.done<|R.reg O<|R.q (q.cT 8 O O aj) O<|R.s O (s.fP 6 _ O O O (fun _ _=>rfl) (.inl aj) (fun w hw=>(ae (Sl.one (hw.bO 0 O)) (ae (Sl.one (hw.bO 1 O)) (ae (Sl.one (hw.bO 2 O)) (ae (Sl.one (hw.row 1 O)) (ae O (ae O aO))))))) O O O) fun _=>?_
       refine R.u 1 O<|R.nil<|R.mp (fun _ hw=>hw.cW 1 _ O O) ?_
       have hz:dK r p d slot rights=((⟨(fA r (derived (aS r (⟨p.aC,slot⟩:Place)).1 r.af rights 0).1 (⟨0,0⟩:Place)).ao,(fA r (derived (aS r (⟨p.aC,slot⟩:Place)).1 r.af rights 0).1 (⟨0,0⟩:Place)).Things,(fA r (derived (aS r (⟨p.aC,slot⟩:Place)).1 r.af rights 0).1 (⟨0,0⟩:Place)).Held,(((fA r (derived (aS r (⟨p.aC,slot⟩:Place)).1 r.af rights 0).1 (⟨0,0⟩:Place)).Notes)++([(⟨((cz r p 2 2).1).aE,d,(cz r p 2 2).1.aQ,(derived (aS r (⟨p.aC,slot⟩:Place)).1 r.af rights 0).1.ID⟩:Note)])),(fA r (derived (aS r (⟨p.aC,slot⟩:Place)).1 r.af rights 0).1 (⟨0,0⟩:Place)).af,(fA r (derived (aS r (⟨p.aC,slot⟩:Place)).1 r.af rights 0).1 (⟨0,0⟩:Place)).ah⟩:aB),0):=by (rw [List.take_of_length_le (by omega)] at HC;subst HC;unfold dK;(repeat' split) <;> rfl)
       rw [hz]
       exact R.w2 (z5,z6,z7,v4) [8] vN O Tryz.results62 (RV.cell 5 O O aj) (RV.tmp O) O O O (dy O (iJ O))
      refine Do.s (s.bs (l:=([(⟨((cz r p 2 2).1).aE,d,(cz r p 2 2).1.aQ,(derived (aS r (⟨p.aC,slot⟩:Place)).1 r.af rights 0).1.ID⟩:Note)]:List Note)) gJ eS O O O O O O O) (fun _=>(aA [1,2,3,4,5,6,8] dU O)) O fun b13=>?_
      refine D.one (i:=2) O<|Do.s (s.aT bZ [3] _ _ _ O O O ox O O (fun w own hw H=>fc z8 (fA r (derived (aS r (⟨p.aC,slot⟩:Place)).1 r.af rights 0).1 (⟨0,0⟩:Place)).Notes w own H (by omega)) O) (fun _=>(aA oX dU O)) O fun l5=>?_
      refine D.one (i:=5) O<|Do.s (s.app 0 _ O O O (bD 1 O) ki (by (simp;omega)) (by (simp;omega)) (fun _=>rfl) O) (fun _=>(aA oX dU O)) O fun v5=>?_
      refine D.q (i:=6) O (aA oX dU O) O (q.aP O dv O) O<|D.one (i:=7) O<|Do.s (s.fP 8 _ O O O (fun w hw=>Sl.cr (hw.row 0 O)) (.inr ⟨eC,rfl⟩) (fun w hw=>(ae (Sl.one (hw.row 0 O)) aO)) O O O) (fun _=>(aA oX dU O)) O fun _=>?_
      refine D.done<|R.reg O<|R.q (q.cT 8 O O aj) O<|R.s O (s.fP 6 _ O O O (fun _ _=>rfl) (.inl aj) (fun w hw=>(ae (Sl.one (hw.bO 0 O)) (ae (Sl.one (hw.bO 1 O)) (ae (Sl.one (hw.bO 2 O)) (ae (Sl.one (hw.row 0 O)) (ae O (ae O aO))))))) O O O) fun _=>?_
      refine R.u 1 O<|R.nil<|R.mp (fun _ hw=>hw.cW 0 _ O O) ?_
      have hz:dK r p d slot rights=((⟨(fA r (derived (aS r (⟨p.aC,slot⟩:Place)).1 r.af rights 0).1 (⟨0,0⟩:Place)).ao,(fA r (derived (aS r (⟨p.aC,slot⟩:Place)).1 r.af rights 0).1 (⟨0,0⟩:Place)).Things,(fA r (derived (aS r (⟨p.aC,slot⟩:Place)).1 r.af rights 0).1 (⟨0,0⟩:Place)).Held,(((fA r (derived (aS r (⟨p.aC,slot⟩:Place)).1 r.af rights 0).1 (⟨0,0⟩:Place)).Notes)++([(⟨((cz r p 2 2).1).aE,d,(cz r p 2 2).1.aQ,(derived (aS r (⟨p.aC,slot⟩:Place)).1 r.af rights 0).1.ID⟩:Note)])),(fA r (derived (aS r (⟨p.aC,slot⟩:Place)).1 r.af rights 0).1 (⟨0,0⟩:Place)).af,(fA r (derived (aS r (⟨p.aC,slot⟩:Place)).1 r.af rights 0).1 (⟨0,0⟩:Place)).ah⟩:aB),0):=by (rw [List.take_of_length_le (by omega)] at HC;subst HC;unfold dK;(repeat' split) <;> rfl)
      rw [hz]
      exact R.w2 (z5,z6,z7,v5) [8] vN O Tryz.results62 (RV.cell 5 O O aj) (RV.tmp O) O O O (dy O (iJ O))
     refine Do.s (s.bs (l:=([(⟨((cz r p 2 2).1).aE,d,(cz r p 2 2).1.aQ,(derived (aS r (⟨p.aC,slot⟩:Place)).1 r.af rights 0).1.ID⟩:Note)]:List Note)) gJ eS O O O O O O O) (fun _=>(aA [1,2,3,4,5,6,8] dU O)) O fun b14=>?_
     refine D.one (i:=1) O<|Do.s (s.c (Qt.a (q.ld 7 O O eC O)) O) (fun _=>(aA [1,2,3,4,5,6,8] dU O)) O fun _=>?_
     refine D.one (i:=2) O<|Do.s (s.aT bZ [3] _ _ _ O O O ox O O (fun w own hw H=>fc z8 (fA r (derived (aS r (⟨p.aC,slot⟩:Place)).1 r.af rights 0).1 (⟨0,0⟩:Place)).Notes w own H (by omega)) O) (fun _=>(aA oX dU O)) O fun z12=>?_
     refine D.one (i:=5) O<|Do.s (s.app 0 _ O O O (bD 1 O) ki (by (simp;omega)) (by (simp;omega)) (fun _=>rfl) O) (fun _=>(aA oX dU O)) O fun v6=>?_
     refine D.q (i:=6) O (aA oX dU O) O (q.aP O dv O) O<|D.one (i:=7) O<|Do.s (s.fP 8 _ O O O (fun w hw=>Sl.cr (hw.row 0 O)) (.inr ⟨eC,rfl⟩) (fun w hw=>(ae (Sl.one (hw.row 0 O)) aO)) O O O) (fun _=>(aA oX dU O)) O fun _=>?_
     refine D.done<|R.reg O<|R.q (q.cT 8 O O aj) O<|R.s O (s.fP 6 _ O O O (fun _ _=>rfl) (.inl aj) (fun w hw=>(ae (Sl.one (hw.bO 0 O)) (ae (Sl.one (hw.bO 1 O)) (ae (Sl.one (hw.bO 2 O)) (ae (Sl.one (hw.row 0 O)) (ae O (ae O aO))))))) O O O) fun _=>?_
     refine R.u 1 O<|R.nil<|R.mp (fun _ hw=>hw.cW 0 _ O O) ?_
     have hz:dK r p d slot rights=((⟨(fA r (derived (aS r (⟨p.aC,slot⟩:Place)).1 r.af rights 0).1 (⟨0,0⟩:Place)).ao,(fA r (derived (aS r (⟨p.aC,slot⟩:Place)).1 r.af rights 0).1 (⟨0,0⟩:Place)).Things,(fA r (derived (aS r (⟨p.aC,slot⟩:Place)).1 r.af rights 0).1 (⟨0,0⟩:Place)).Held,(((fA r (derived (aS r (⟨p.aC,slot⟩:Place)).1 r.af rights 0).1 (⟨0,0⟩:Place)).Notes)++([(⟨((cz r p 2 2).1).aE,d,(cz r p 2 2).1.aQ,(derived (aS r (⟨p.aC,slot⟩:Place)).1 r.af rights 0).1.ID⟩:Note)])),(fA r (derived (aS r (⟨p.aC,slot⟩:Place)).1 r.af rights 0).1 (⟨0,0⟩:Place)).af,(fA r (derived (aS r (⟨p.aC,slot⟩:Place)).1 r.af rights 0).1 (⟨0,0⟩:Place)).ah⟩:aB),0):=by (rw [List.take_of_length_le (by omega)] at HC;subst HC;unfold dK;(repeat' split) <;> rfl)
     rw [hz]
     exact R.w2 (z5,z6,z7,v6) [8] vN O Tryz.results62 (RV.cell 5 O O aj) (RV.tmp O) O O O (dy O (iJ O))
    refine R.q (q.dX O O Tryz.underlying38) O<|R.nil<|R.az O O<|R.reg O<|R.q (q.build dY O O) O<|R.u 1 O<|R.s O (s.st 4 _ O O O O (.inl aj) O O O O) fun _=>?_
    refine R.u 1 O<|R.nil<|R.mp (fun _ hw=>hw.bg (α:=ak))<|R.mp (fun _ hw=>hw.bg (α:=aE))<|R.mp (fun _ hw=>hw.bg (α:=Held))<|R.mp (fun _ hw=>hw.bg (α:=Note)) ?_
    have hz:dK r p d slot rights=((⟨[],[],[],[],0,0⟩:aB),(derived (aS r (⟨p.aC,slot⟩:Place)).1 r.af rights 0).2):=by (rw [List.take_of_length_le (by omega)] at HC;subst HC;unfold dK;(repeat' split) <;> rfl)
    rw [hz]
    exact R.w2 ((nS),(nS),(nS),(nS)) [7] gk O Tryz.results62 (RV.cell 4 O O aj) (RV.tmp O) O O O (dy O O)
   refine R.q (q.dX O O Tryz.underlying38) O<|R.nil<|R.az O O<|R.reg O<|R.q (q.build dY O O) O<|R.u 1 O<|R.s O (s.st 3 _ O O O O (.inl aj) O O O O) fun _=>?_
   refine R.u 1 O<|R.nil<|R.mp (fun _ hw=>hw.bg (α:=ak))<|R.mp (fun _ hw=>hw.bg (α:=aE))<|R.mp (fun _ hw=>hw.bg (α:=Held))<|R.mp (fun _ hw=>hw.bg (α:=Note)) ?_
   have hz:dK r p d slot rights=((⟨[],[],[],[],0,0⟩:aB),(aS r (⟨p.aC,slot⟩:Place)).2):=by (rw [List.take_of_length_le (by omega)] at HC;subst HC;unfold dK;(repeat' split) <;> rfl)
   rw [hz]
   exact R.w2 ((nS),(nS),(nS),(nS)) [6] gk O Tryz.results62 (RV.cell 3 O O aj) (RV.tmp O) O O O (dy O O)
  refine R.c (q.call pO O O (fun w hw=>(cv (congrArg Value.bool h7) (gG (cz r p 2 2).1.Rights 4 w (by omega) (by omega))))) O<|R.u 1 O<|R.nil ?_
  refine R.az O O<|R.reg O<|R.q (q.build dY O O) O<|R.q (q.iface O br) O<|R.s O (s.st 2 _ O O O O (.inl aj) O O O O) fun _=>?_
  refine R.u 1 O<|R.nil<|R.mp (fun _ hw=>hw.bg (α:=ak))<|R.mp (fun _ hw=>hw.bg (α:=aE))<|R.mp (fun _ hw=>hw.bg (α:=Held))<|R.mp (fun _ hw=>hw.bg (α:=Note)) ?_
  have hz:dK r p d slot rights=((⟨[],[],[],[],0,0⟩:aB),7):=by (rw [List.take_of_length_le (by omega)] at HC;subst HC;unfold dK;(repeat' split) <;> first|rfl|(exfalso;omega)|(simp_all;done))
  rw [hz]
  exact R.w2 ((nS),(nS),(nS),(nS)) [5] gk O Tryz.results62 (RV.cell 2 O O aj) (RV.tmp O) O O O (dy O (dj (by decide) O))
 refine R.q (q.dX O O Tryz.underlying38) O<|R.nil<|R.az O O<|R.reg O<|R.q (q.build dY O O) O<|R.u 1 O<|R.s O (s.st 1 _ O O O O (.inl aj) O O O O) fun _=>?_
 refine R.u 1 O<|R.nil<|R.mp (fun _ hw=>hw.bg (α:=ak))<|R.mp (fun _ hw=>hw.bg (α:=aE))<|R.mp (fun _ hw=>hw.bg (α:=Held))<|R.mp (fun _ hw=>hw.bg (α:=Note)) ?_
 have hz:dK r p d slot rights=((⟨[],[],[],[],0,0⟩:aB),(cz r p 2 2).2.2):=by (unfold dK;(repeat' split) <;> first|rfl|(exfalso;omega)|(simp_all;done))
 rw [hz]
 exact R.w2 ((nS),(nS),(nS),(nS)) [4] gk O Tryz.results62 (RV.cell 1 O O aj) (RV.tmp O) O O O (dy O O)
theorem Ie (bU bK bL bM:Value)(r:aB)(p:Place)(w:World)(own:List Nat)(H:HN w own [] [ag.ls bU r.ao,ag.ls bK r.Things,ag.ls bL r.Held,ag.ls bM r.Notes])(hk:Ok r):RC Tryz.prog 63 #[.agg #[bU,bK,bL,bM,iV r.af,iV r.ah],.agg #[iV p.aC,iV p.Slot]] H (fun z:Value×Value×Value×Value => .tuple #[.agg #[z.1,z.2.1,z.2.2.1,z.2.2.2,iV (eG r p).1.af,iV (eG r p).1.ah],.agg #[iV (eG r p).2.1.Port,.string (eG r p).2.1.Data,iV (eG r p).2.1.aQ,iV (eG r p).2.1.ak],iV (eG r p).2.2.1,df (eG r p).2.2.2]) (fun _=>[]) (fun z=>[ag.ls z.1 (eG r p).1.ao,ag.ls z.2.1 (eG r p).1.Things,ag.ls z.2.2.1 (eG r p).1.Held,ag.ls z.2.2.2 (eG r p).1.Notes]):=by
 have eK:=H.cq 0 rfl
 have dJ:=H.cq 1 rfl
 have fG:=H.cq 2 rfl
 have eL:=H.cq 3 rfl
 have bw:=hk.wl;have bt:=hk.tl;have bh:=hk.hl;have bn:=hk.nl;have KN:=hk.w0;have KO:=hk.w1;have KP:=hk.t0;have KQ:=hk.t1
 refine R.bF [(0,.agg #[bU,bK,bL,bM,iV r.af,iV r.ah]),(1,.agg #[iV p.aC,iV p.Slot])] Tryz.func63 O O O O H<|R.reg O<|R.s O (s.box O O O) fun b1=>?_
 refine R.s O (s.box O O O) fun b2=>?_
 refine R.s O (s.alloc dq O O) fun b3=>?_
 refine R.s O (s.alloc eS O O) fun b4=>?_
 refine R.u 2 O<|R.nil<|R.reg O<|R.q (q.cT 3 O O aj) O<|R.q (q.cT 2 O O bP) O<|R.c (q.call EC O O (fun w hw=>(xI _ _ _ _ r p 2 1 w (hw.bO 0 O) (hw.bO 1 O) (hw.bO 2 O) (hw.bO 3 O) ‹_› (by omega)))) O<|R.u 4 O<|?_
 refine R.s O (s.alloc bQ O O) fun b5=>?_
 refine R.s O (s.st 0 _ O O O O (.inl aN) O O O O) fun _=>?_
 refine R.u 2 O<|R.nil<|R.reg O<|R.u 1 O<|?_
 by_cases h1:(cz r p 2 1).2.2=0
 .
  refine R.q (q.dx O O Tryz.underlying38) O<|R.nil<|R.aD O O<|R.reg O<|R.q (q.aP O dv O) O<|R.q (q.ld 4 O O eC O) O<|R.q (q.LM (cap:=[.pointer (some ⟨b5,0,none⟩)]) O O) O<|?_
  rcases j5 (fun (t:Note)=>t.Port==(cz r p 2 1).1.aE) r.Notes with ⟨gS,Eu⟩ | ⟨rj,Es,gS,lU,ve,AR,TQ⟩
  .
   refine R.c (q.call Jk O O (fun w hw=>(cv (congrArg (Value.int .i64) gS) (m4 _ r.Notes (fun (t:Note)=>t.Port==(cz r p 2 1).1.aE) _ _ Jl w (hw.bO 3 O) (fun W t hW=>uL t (cz r p 2 1).1 _ W (sG (hw.b 0 O) hW) ) )))) O<|R.u 1 O<|R.nil ?_
   refine R.reg O<|R.u 1 O<|R.q (q.lss (b:=true) O O (by decide)) O<|R.nil<|R.az O O<|R.reg O<|R.q (q.build dY O O) O<|R.q (q.build F4 O O) O<|R.q (q.iface O br) O<|R.s O (s.st 2 _ O O O O (.inl aj) O O O O) fun _=>?_
   refine R.s O (s.st 1 _ O O O O (.inl dG) O O O O) fun _=>?_
   refine R.u 2 O<|R.nil<|R.mp (fun _ hw=>hw.bg (α:=ak))<|R.mp (fun _ hw=>hw.bg (α:=aE))<|R.mp (fun _ hw=>hw.bg (α:=Held))<|R.mp (fun _ hw=>hw.bg (α:=Note)) ?_
   have hz:eG r p=((⟨[],[],[],[],0,0⟩:aB),(⟨0,⟨#[]⟩,0,0⟩:Note),0,5):=by (unfold eG;(rw [if_pos ‹_›,gS,show decide ((0:Int) <= -1)=false from rfl];cases r.Notes[(-1:Int).toNat]? <;> rfl))
   rw [hz]
   exact R.w4 ((nS),(nS),(nS),(nS)) [5] gk O Tryz.results63 (RV.cell 2 O O aj) (RV.cell 1 O O dG) (RV.tmp O) (RV.tmp O) O O O (IX O O O (dj (by decide) O))
  refine R.c (q.call Jk O O (fun w hw=>(cv (congrArg (Value.int .i64) gS) (m4 _ r.Notes (fun (t:Note)=>t.Port==(cz r p 2 1).1.aE) _ _ Jl w (hw.bO 3 O) (fun W t hW=>uL t (cz r p 2 1).1 _ W (sG (hw.b 0 O) hW) ) )))) O<|R.u 1 O<|R.nil ?_
  refine R.reg O<|R.u 1 O<|R.q (q.cS O O) O<|R.nil<|R.aD O O<|R.reg O<|R.q (q.aP O dv O) O<|R.q (q.ld 4 O O eC O) O<|R.u 1 O<|R.q (q.idx (i:=rj) (dh 3 O) O O gJ O lU) O<|R.q (q.gh (ds:=vO Es) (dh 3 O) lU O dG O) O<|R.s O (s.alloc eS O O) fun b6=>?_
  refine R.s O (s.st 0 _ O O O O (.inl dG) O O O O) fun _=>?_
  refine R.nil<|R.reg O<|R.u 1 O<|R.nil<|R.reg O<|R.q (q.aP O iG O) O<|R.q (q.ld 0 O O ap O) O<|?_
  by_cases h2:0<Es.ak
  .
   refine R.q (q.eM O O) O<|R.nil<|R.az O O<|R.reg O<|R.q (q.aP O cM O) O<|R.q (q.ld 5 O O dP O) O<|R.q (q.aP O fu O) O<|R.q (q.ld 4 O O ap O) O<|R.c (q.call O4 O O (fun w hw=>(JJ _ r.Held p.aC w (hw.bO 2 O) (by omega)))) O<|R.u 1 O<|R.nil ?_
   refine R.reg O<|R.u 1 O<|?_
   by_cases h3:i6 r.Held p.aC<0
   .
    refine R.q (q.dC O O) O<|R.nil<|R.az O O<|R.reg O<|R.q (q.build dY O O) O<|R.q (q.build F4 O O) O<|R.q (q.iface O br) O<|R.s O (s.st 3 _ O O O O (.inl aj) O O O O) fun _=>?_
    refine R.s O (s.st 2 _ O O O O (.inl dG) O O O O) fun _=>?_
    refine R.u 2 O<|R.nil<|R.mp (fun _ hw=>hw.bg (α:=ak))<|R.mp (fun _ hw=>hw.bg (α:=aE))<|R.mp (fun _ hw=>hw.bg (α:=Held))<|R.mp (fun _ hw=>hw.bg (α:=Note)) ?_
    have hz:eG r p=((⟨[],[],[],[],0,0⟩:aB),(⟨0,⟨#[]⟩,0,0⟩:Note),0,9):=by (unfold eG;(rw [if_pos ‹_›,gS,Int.toNat_natCast,lU,decide_eq_true (by omega)];dsimp only;(repeat' split) <;> rfl))
    rw [hz]
    exact R.w4 ((nS),(nS),(nS),(nS)) [6] gk O Tryz.results63 (RV.cell 3 O O aj) (RV.cell 2 O O dG) (RV.tmp O) (RV.tmp O) O O O (IX O O O (dj (by decide) O))
   refine R.q (q.cS O O) O<|R.nil<|R.aD O O<|R.reg O<|R.q (q.aP O cM O) O<|R.q (q.ld 5 O O dP O) O<|R.q (q.aP O fu O) O<|R.q (q.ld 4 O O ap O) O<|R.u 1 O<|R.q (q.build wk O O) O<|R.q (q.aP O iG O) O<|R.q (q.ld 0 O O ap O) O<|R.s O (s.aT l9 [2] _ _ _ O O O tI O O (fun w own hw H=>qz bL r.Held (⟨p.aC,i6 r.Held p.aC⟩:Place) Es.ak w own H (by omega)) O) fun z1=>?_
   refine R.q (q.aP O cM O) O<|R.s O (s.fP 6 _ O O O (fun w hw=>Sl.cr (hw.row 0 O)) (.inr ⟨dP,rfl⟩) (fun w hw=>(ae (Sl.one (hw.row 0 O)) aO)) O O O) fun _=>?_
   refine R.nil<|R.reg O<|R.q (q.aP O dv O) O<|R.q (q.ld 6 O O eC O) O<|R.s O (s.aT dU [3] _ _ _ O O O ox O O (fun w own hw H=>fc bM r.Notes w own H (by omega)) O) fun z2=>?_
   refine R.u 2 O<|R.q (q.bA (r:=((rj+1:Nat):Int)) O O) O<|R.s O (s.aT bZ [] _ _ _ O O O Jm O O (fun w own hw H=>ql z2 r.Notes rj (rj+1) w own H (by omega)) O) fun z3=>?_
   refine R.q (q.aP O dv O) O<|R.s O (s.fP 7 _ O O O (fun w hw=>Sl.cr (hw.row 0 O)) (.inr ⟨eC,rfl⟩) (fun w hw=>(ae (Sl.one (hw.row 0 O)) aO)) O O O) fun _=>?_
   refine R.nil<|R.fJ (fuel:=7) uu O O mixed O<|D.q (i:=0) O (aA uu bJ O) O (q.cT 5 O O aj) O<|D.q (i:=1) O (aA uu bJ O) O (q.cT 2 O O dG) O<|D.q (i:=2) O (aA uu bJ O) O (q.mv O) O<|D.one (i:=3) O<|Do.s (s.fP 5 _ O O O (fun _ _=>rfl) (.inl aj) (fun w hw=>(ae (Sl.one (hw.bO 0 O)) (ae (Sl.one (hw.bO 1 O)) (ae (Sl.one (hw.row 1 O)) (ae (Sl.one (hw.row 0 O)) (ae O (ae O aO))))))) O O O) (fun _=>(aA uu bJ O)) O fun _=>?_
   refine D.one (i:=4) O<|Do.s (s.st 4 _ O O O O (.inl dG) O O O O) (fun _=>(aA uu bJ O)) O fun _=>?_
   refine D.q (i:=5) O (aA uu bJ O) O (q.as O) O<|D.q (i:=6) O (aA uu bJ O) O (q.as O) O<|D.done<|R.mp (fun _ hw=>hw.cW 1 _ O O)<|R.mp (fun _ hw=>hw.cW 0 _ O O) ?_
   have hz:eG r p=((⟨r.ao,r.Things,fT r.Held (⟨p.aC,i6 r.Held p.aC⟩:Place) Es.ak,r.Notes.take rj++r.Notes.drop (rj+1),r.af,r.ah⟩:aB),Es,i6 r.Held p.aC,0):=by (unfold eG;(rw [if_pos ‹_›,gS,Int.toNat_natCast,lU,decide_eq_true (by omega)];dsimp only;(repeat' split) <;> rfl))
   rw [hz]
   exact R.w4 (bU,bK,z1,z3) [6] [2,3,1,0] O Tryz.results63 (RV.cell 3 O O aj) (RV.cell 2 O O dG) (RV.tmp O) (RV.tmp O) O O O (IX O O O (iJ O))
  refine R.q (q.ey O O) O<|R.nil<|R.aD O O<|R.reg O<|R.q (q.aP O dv O) O<|R.q (q.ld 5 O O eC O) O<|R.s O (s.aT l9 [3] _ _ _ O O O ox O O (fun w own hw H=>fc bM r.Notes w own H (by omega)) O) fun z4=>?_
  refine R.u 2 O<|R.q (q.bA (r:=((rj+1:Nat):Int)) O O) O<|R.s O (s.aT dU [] _ _ _ O O O Jm O O (fun w own hw H=>ql z4 r.Notes rj (rj+1) w own H (by omega)) O) fun z5=>?_
  refine R.q (q.aP O dv O) O<|R.s O (s.fP 6 _ O O O (fun w hw=>Sl.cr (hw.row 0 O)) (.inr ⟨eC,rfl⟩) (fun w hw=>(ae (Sl.one (hw.row 0 O)) aO)) O O O) fun _=>?_
  refine R.nil<|R.fJ (fuel:=7) uv O O mixed O<|D.q (i:=0) O (aA uv bJ O) O (q.cT 4 O O aj) O<|D.q (i:=1) O (aA uv bJ O) O (q.cT 1 O O dG) O<|D.q (i:=2) O (aA uv bJ O) O (q.mv O) O<|D.one (i:=3) O<|Do.s (s.fP 4 _ O O O (fun _ _=>rfl) (.inl aj) (fun w hw=>(ae (Sl.one (hw.bO 0 O)) (ae (Sl.one (hw.bO 1 O)) (ae (Sl.one (hw.bO 2 O)) (ae (Sl.one (hw.row 0 O)) (ae O (ae O aO))))))) O O O) (fun _=>(aA uv bJ O)) O fun _=>?_
  refine D.one (i:=4) O<|Do.s (s.st 3 _ O O O O (.inl dG) O O O O) (fun _=>(aA uv bJ O)) O fun _=>?_
  refine D.q (i:=5) O (aA uv bJ O) O (q.as O) O<|D.q (i:=6) O (aA uv bJ O) O (q.as O) O<|D.done<|R.mp (fun _ hw=>hw.cW 0 _ O O) ?_
  have hz:eG r p=((⟨r.ao,r.Things,r.Held,r.Notes.take rj++r.Notes.drop (rj+1),r.af,r.ah⟩:aB),Es,-1,0):=by (unfold eG;(rw [if_pos ‹_›,gS,Int.toNat_natCast,lU,decide_eq_true (by omega)];dsimp only;(repeat' split) <;> first|rfl|(exfalso;omega)))
  rw [hz]
  exact R.w4 (bU,bK,bL,z5) [6] vN O Tryz.results63 (RV.cell 3 O O aj) (RV.cell 2 O O dG) (RV.tmp O) (RV.tmp O) O O O (IX O O O (iJ O))
 refine R.q (q.dX O O Tryz.underlying38) O<|R.nil<|R.az O O<|R.reg O<|R.q (q.build dY O O) O<|R.q (q.build F4 O O) O<|R.u 1 O<|R.s O (s.st 2 _ O O O O (.inl aj) O O O O) fun _=>?_
 refine R.s O (s.st 1 _ O O O O (.inl dG) O O O O) fun _=>?_
 refine R.u 2 O<|R.nil<|R.mp (fun _ hw=>hw.bg (α:=ak))<|R.mp (fun _ hw=>hw.bg (α:=aE))<|R.mp (fun _ hw=>hw.bg (α:=Held))<|R.mp (fun _ hw=>hw.bg (α:=Note)) ?_
 have hz:eG r p=((⟨[],[],[],[],0,0⟩:aB),(⟨0,⟨#[]⟩,0,0⟩:Note),0,(cz r p 2 1).2.2):=by (unfold eG;(rw [if_neg ‹_›];rfl))
 rw [hz]
 exact R.w4 ((nS),(nS),(nS),(nS)) [5] gk O Tryz.results63 (RV.cell 2 O O aj) (RV.cell 1 O O dG) (RV.tmp O) (RV.tmp O) O O O (IX O O O O)
end Go.Proofs.YtkbhcbipadkcaaaGreatDoor
