import Derived.Test.YtnmpibjlnninjaaGreatDoorKS23
namespace Go.Proofs.YtnmpibjlnninjaaGreatDoor
set_option linter.unusedVariables false
set_option linter.unusedSimpArgs false
set_option maxRecDepth 100000
set_option maxHeartbeats 90000000
open Go Go.RowKit
attribute [local irreducible] Run Rg Rq Qt Qa Stp Dg Do Dm cD
theorem LG (a8 aW aX aZ:Value)(r:av)(p:Place)(kind:Int)(w:World)(own:List Nat)(H:HN w own [] [aj.ls a8 r.ao,aj.ls aW r.Things,aj.ls aX r.Held,aj.ls aZ r.Notes])(hk:Ok r):RC Tryz.prog 97 #[.agg #[a8,aW,aX,aZ,iV r.ag,iV r.ah],.agg #[iV p.ay,iV p.Slot],iV kind] H (fun z:Value×Value×Value×Value => .tuple #[.agg #[z.1,z.2.1,z.2.2.1,z.2.2.2,iV (cE r p kind).1.ag,iV (cE r p kind).1.ah],cD (cE r p kind).2]) (fun _=>[]) (fun z=>[aj.ls z.1 (cE r p kind).1.ao,aj.ls z.2.1 (cE r p kind).1.Things,aj.ls z.2.2.1 (cE r p kind).1.Held,aj.ls z.2.2.2 (cE r p kind).1.Notes]):=by
 have cB:=H.bD 0 rfl
 have cd:=H.bD 1 rfl
 have df:=H.bD 2 rfl
 have cC:=H.bD 3 rfl
 have bw:=hk.wl;have bt:=hk.tl;have bh:=hk.hl;have bn:=hk.nl;have ya:=hk.w0;have yb:=hk.w1;have yc:=hk.t0;have yd:=hk.t1
 refine R.bE [(0,.agg #[a8,aW,aX,aZ,iV r.ag,iV r.ah]),(1,.agg #[iV p.ay,iV p.Slot]),(2,iV kind)] Tryz.func97 O O O O H<|U ?_
 refine R.s O (s.box O O O) fun b1=>?_
 refine R.s O (s.box O O O) fun b2=>?_
 refine R.s O (s.alloc cw O O) fun b3=>U ?_
 by_cases h1:kind=1
 .
  refine U ?_
  refine R.c (q.call DU O O (fun w hw=>(su _ _ _ _ r p w (hw.bz 0 O) (hw.bz 1 O) (hw.bz 2 O) (hw.bz 3 O) af))) O<|U ?_
  by_cases h2:eD r p=0
  .
   refine U ?_
   by_cases h3:r.Things.length=10
   .
    refine U ?_
    refine R.s O (s.st 0 _ O O O O (.inl ak) O O O O) fun _=>U ?_
    refine R.iY ap aA Held Note ?_
    have hz:cE r p kind=((⟨[],[],[],[],0,0⟩:av),9):=by (unfold cE;(repeat' split) <;> first|rfl|(exfalso;omega)|(simp_all;done))
    rw [hz]
    exact R.w2 ((nS),nS,nS,(nS)) [3] dh O Tryz.results97 (RV.cell 0 O O ak) (RV.tmp O) O O O (cq O (dU aD O))
   refine U ?_
   by_cases h4:999<r.ah
   .
    refine U ?_
    refine R.s O (s.st 0 _ O O O O (.inl ak) O O O O) fun _=>U ?_
    refine R.iY ap aA Held Note ?_
    have hz:cE r p kind=((⟨[],[],[],[],0,0⟩:av),9):=by (unfold cE;(repeat' split) <;> first|rfl|(exfalso;omega)|(simp_all;done))
    rw [hz]
    exact R.w2 ((nS),nS,nS,(nS)) [3] dh O Tryz.results97 (RV.cell 0 O O ak) (RV.tmp O) O O O (cq O (dU aD O))
   refine U ?_
   by_cases h5:999<r.ag
   .
    refine U ?_
    refine R.s O (s.st 0 _ O O O O (.inl ak) O O O O) fun _=>U ?_
    refine R.iY ap aA Held Note ?_
    have hz:cE r p kind=((⟨[],[],[],[],0,0⟩:av),9):=by (unfold cE;(repeat' split) <;> first|rfl|(exfalso;omega)|(simp_all;done))
    rw [hz]
    exact R.w2 ((nS),nS,nS,(nS)) [3] dh O Tryz.results97 (RV.cell 0 O O ak) (RV.tmp O) O O O (cq O (dU aD O))
   refine U ?_
   refine R.s O (s.aT bm [1] _ _ _ O O O zG O O (fun w own hw H=>jr aW r.Things w own H ae) O) fun z1=>U ?_
   refine R.s O (s.bs (l:=([(⟨r.ah,kind,⟨#[]⟩⟩:aA)]:List aA)) eZ fP O O O O O O O) fun b4=>?_
   refine R.s O (s.app 1 _ O O O (bH 0 O) lI az az (fun _=>rfl) O) fun v1=>U ?_
   refine R.s O (s.dE 4 _ O O O (fun w hw=>Sl.bF (hw.row 1 O)) (.inr ⟨gC,rfl⟩) (fun w hw=>(aJ (Sl.one (hw.row 1 O)) bq)) O O O) fun _=>U ?_
   refine R.q (q.aL (r:=r.ah+1) O O) O<|U ?_
   refine R.s O (s.st 4 _ O O O O (.inr ⟨bg,rfl⟩) O O O O) fun _=>U ?_
   refine R.s O (s.pre (fun _ hw=>hw.bu 1 _ O O) (s.aT da [1,0,3,4] _ _ _ O O O zJ O O (fun w own hw H=>rG a8 v1 aX aZ (⟨r.ao,r.Things++([(⟨r.ah,kind,⟨#[]⟩⟩:aA)]),r.Held,r.Notes,r.ag,r.ah+1⟩:av) (⟨r.ag,r.ah,7,0,0⟩:ap) p w own H aO) O)) ?_
   rintro ⟨z2,z3,z4,z5⟩
   dsimp only
   refine R.s O (s.dE 1 _ O O O (fun _ _=>rfl) (.inl ak) (fun w hw=>(dx (hw.bz 0 O) (hw.bz 1 O) (hw.bz 2 O) (hw.bz 3 O) O O)) O O O) fun _=>U ?_
   have hz:cE r p kind=((fB (⟨r.ao,r.Things++([(⟨r.ah,kind,⟨#[]⟩⟩:aA)]),r.Held,r.Notes,r.ag,r.ah+1⟩:av) (⟨r.ag,r.ah,7,0,0⟩:ap) p),0):=by (unfold cE;(repeat' split) <;> first|rfl|(exfalso;omega)|(simp_all;done))
   rw [hz]
   exact R.w2 (z2,z3,z4,z5) [4] bm O Tryz.results97 (RV.cell 1 O O ak) (RV.tmp O) O O O (cq O (iT O))
  refine U ?_
  refine R.s O (s.st 0 _ O O O O (.inl ak) O O O O) fun _=>U ?_
  refine R.iY ap aA Held Note ?_
  have hz:cE r p kind=((⟨[],[],[],[],0,0⟩:av),eD r p):=by (unfold cE;(repeat' split) <;> first|rfl|(exfalso;omega)|(simp_all;done))
  rw [hz]
  exact R.w2 ((nS),nS,nS,(nS)) [3] dh O Tryz.results97 (RV.cell 0 O O ak) (RV.tmp O) O O O (cq O O)
 refine U ?_
 by_cases h6:kind=2
 .
  refine U ?_
  refine R.c (q.call DU O O (fun w hw=>(su _ _ _ _ r p w (hw.bz 0 O) (hw.bz 1 O) (hw.bz 2 O) (hw.bz 3 O) af))) O<|U ?_
  by_cases h7:eD r p=0
  .
   refine U ?_
   by_cases h8:r.Things.length=10
   .
    refine U ?_
    refine R.s O (s.st 0 _ O O O O (.inl ak) O O O O) fun _=>U ?_
    refine R.iY ap aA Held Note ?_
    have hz:cE r p kind=((⟨[],[],[],[],0,0⟩:av),9):=by (unfold cE;(repeat' split) <;> first|rfl|(exfalso;omega)|(simp_all;done))
    rw [hz]
    exact R.w2 ((nS),nS,nS,(nS)) [3] dh O Tryz.results97 (RV.cell 0 O O ak) (RV.tmp O) O O O (cq O (dU aD O))
   refine U ?_
   by_cases h9:999<r.ah
   .
    refine U ?_
    refine R.s O (s.st 0 _ O O O O (.inl ak) O O O O) fun _=>U ?_
    refine R.iY ap aA Held Note ?_
    have hz:cE r p kind=((⟨[],[],[],[],0,0⟩:av),9):=by (unfold cE;(repeat' split) <;> first|rfl|(exfalso;omega)|(simp_all;done))
    rw [hz]
    exact R.w2 ((nS),nS,nS,(nS)) [3] dh O Tryz.results97 (RV.cell 0 O O ak) (RV.tmp O) O O O (cq O (dU aD O))
   refine U ?_
   by_cases h10:999<r.ag
   .
    refine U ?_
    refine R.s O (s.st 0 _ O O O O (.inl ak) O O O O) fun _=>U ?_
    refine R.iY ap aA Held Note ?_
    have hz:cE r p kind=((⟨[],[],[],[],0,0⟩:av),9):=by (unfold cE;(repeat' split) <;> first|rfl|(exfalso;omega)|(simp_all;done))
    rw [hz]
    exact R.w2 ((nS),nS,nS,(nS)) [3] dh O Tryz.results97 (RV.cell 0 O O ak) (RV.tmp O) O O O (cq O (dU aD O))
   refine U ?_
   refine R.s O (s.aT bm [1] _ _ _ O O O zG O O (fun w own hw H=>jr aW r.Things w own H ae) O) fun z6=>U ?_
   refine R.s O (s.bs (l:=([(⟨r.ah,kind,⟨#[]⟩⟩:aA)]:List aA)) eZ fP O O O O O O O) fun b5=>?_
   refine R.s O (s.app 1 _ O O O (bH 0 O) lI az az (fun _=>rfl) O) fun v2=>U ?_
   refine R.s O (s.dE 4 _ O O O (fun w hw=>Sl.bF (hw.row 1 O)) (.inr ⟨gC,rfl⟩) (fun w hw=>(aJ (Sl.one (hw.row 1 O)) bq)) O O O) fun _=>U ?_
   refine R.q (q.aL (r:=r.ah+1) O O) O<|U ?_
   refine R.s O (s.st 4 _ O O O O (.inr ⟨bg,rfl⟩) O O O O) fun _=>U ?_
   refine R.s O (s.pre (fun _ hw=>hw.bu 1 _ O O) (s.aT da [1,0,3,4] _ _ _ O O O zJ O O (fun w own hw H=>rG a8 v2 aX aZ (⟨r.ao,r.Things++([(⟨r.ah,kind,⟨#[]⟩⟩:aA)]),r.Held,r.Notes,r.ag,r.ah+1⟩:av) (⟨r.ag,r.ah,7,0,0⟩:ap) p w own H aO) O)) ?_
   rintro ⟨z7,z8,z9,l7⟩
   dsimp only
   refine R.s O (s.dE 1 _ O O O (fun _ _=>rfl) (.inl ak) (fun w hw=>(dx (hw.bz 0 O) (hw.bz 1 O) (hw.bz 2 O) (hw.bz 3 O) O O)) O O O) fun _=>U ?_
   have hz:cE r p kind=((fB (⟨r.ao,r.Things++([(⟨r.ah,kind,⟨#[]⟩⟩:aA)]),r.Held,r.Notes,r.ag,r.ah+1⟩:av) (⟨r.ag,r.ah,7,0,0⟩:ap) p),0):=by (unfold cE;(repeat' split) <;> first|rfl|(exfalso;omega)|(simp_all;done))
   rw [hz]
   exact R.w2 (z7,z8,z9,l7) [4] bm O Tryz.results97 (RV.cell 1 O O ak) (RV.tmp O) O O O (cq O (iT O))
  refine U ?_
  refine R.s O (s.st 0 _ O O O O (.inl ak) O O O O) fun _=>U ?_
  refine R.iY ap aA Held Note ?_
  have hz:cE r p kind=((⟨[],[],[],[],0,0⟩:av),eD r p):=by (unfold cE;(repeat' split) <;> first|rfl|(exfalso;omega)|(simp_all;done))
  rw [hz]
  exact R.w2 ((nS),nS,nS,(nS)) [3] dh O Tryz.results97 (RV.cell 0 O O ak) (RV.tmp O) O O O (cq O O)
 refine U ?_
 refine R.s O (s.st 0 _ O O O O (.inl ak) O O O O) fun _=>U ?_
 refine R.iY ap aA Held Note ?_
 have hz:cE r p kind=((⟨[],[],[],[],0,0⟩:av),8):=by (unfold cE;(repeat' split) <;> first|rfl|(exfalso;omega)|(simp_all;done))
 rw [hz]
 exact R.w2 ((nS),nS,nS,(nS)) [3] dh O Tryz.results97 (RV.cell 0 O O ak) (RV.tmp O) O O O (cq O (dU aD O))
theorem LH (a8 aW aX aZ:Value)(r:av)(p:Place)(t:Place)(rights:Int)(bU:Int)(w:World)(own:List Nat)(H:HN w own [] [aj.ls a8 r.ao,aj.ls aW r.Things,aj.ls aX r.Held,aj.ls aZ r.Notes])(hk:Ok r):RC Tryz.prog 98 #[.agg #[a8,aW,aX,aZ,iV r.ag,iV r.ah],.agg #[iV p.ay,iV p.Slot],.agg #[iV t.ay,iV t.Slot],iV rights,iV bU] H (fun z:Value×Value×Value×Value => .tuple #[.agg #[z.1,z.2.1,z.2.2.1,z.2.2.2,iV (dq r p t rights bU).1.ag,iV (dq r p t rights bU).1.ah],cD (dq r p t rights bU).2]) (fun _=>[]) (fun z=>[aj.ls z.1 (dq r p t rights bU).1.ao,aj.ls z.2.1 (dq r p t rights bU).1.Things,aj.ls z.2.2.1 (dq r p t rights bU).1.Held,aj.ls z.2.2.2 (dq r p t rights bU).1.Notes]):=by
 have cB:=H.bD 0 rfl
 have cd:=H.bD 1 rfl
 have df:=H.bD 2 rfl
 have cC:=H.bD 3 rfl
 have bw:=hk.wl;have bt:=hk.tl;have bh:=hk.hl;have bn:=hk.nl;have ya:=hk.w0;have yb:=hk.w1;have yc:=hk.t0;have yd:=hk.t1
 refine R.bE [(0,.agg #[a8,aW,aX,aZ,iV r.ag,iV r.ah]),(1,.agg #[iV p.ay,iV p.Slot]),(2,.agg #[iV t.ay,iV t.Slot]),(3,iV rights),(4,iV bU)] Tryz.func98 O O O O H<|U ?_
 refine R.s O (s.box O O O) fun b1=>?_
 refine R.s O (s.box O O O) fun b2=>?_
 refine R.s O (s.box O O O) fun b3=>?_
 refine R.s O (s.alloc cw O O) fun b4=>U ?_
 refine R.c (q.call vW O O (fun w hw=>(sr _ _ _ _ r p w (hw.bz 0 O) (hw.bz 1 O) (hw.bz 2 O) (hw.bz 3 O) af))) O<|U ?_
 refine R.s O (s.alloc br O O) fun b5=>?_
 refine R.s O (s.st 0 _ O O O O (.inl aH) O O O O) fun _=>U ?_
 by_cases h1:(aM r p).2=0
 .
  have gh1:=hk.get h1
  refine U ?_
  refine R.c (q.call DU O O (fun w hw=>(su _ _ _ _ r t w (hw.bz 0 O) (hw.bz 1 O) (hw.bz 2 O) (hw.bz 3 O) af))) O<|U ?_
  by_cases h2:eD r t=0
  .
   refine U ?_
   by_cases h3:p.ay=t.ay
   .
    refine U ?_
    by_cases h4:999<r.ag
    .
     refine U ?_
     refine R.s O (s.st 1 _ O O O O (.inl ak) O O O O) fun _=>U ?_
     refine R.iY ap aA Held Note ?_
     have hz:dq r p t rights bU=((⟨[],[],[],[],0,0⟩:av),9):=by (unfold dq;(repeat' split) <;> first|rfl|(exfalso;omega)|(simp_all;done))
     rw [hz]
     exact R.w2 ((nS),nS,nS,(nS)) [5] dh O Tryz.results98 (RV.cell 1 O O ak) (RV.tmp O) O O O (cq O (dU aD O))
    refine U ?_
    refine R.c (q.call zK O O (fun w hw=>(nn (aM r p).1 r.ag rights bU w ae))) O<|U ?_
    refine R.s O (s.alloc br O O) fun b6=>?_
    refine R.s O (s.st 0 _ O O O O (.inl aH) O O O O) fun _=>U ?_
    by_cases h5:(derived (aM r p).1 r.ag rights bU).2=0
    .
     refine U ?_
     refine R.s O (s.aT kj bm _ _ _ O O O zJ O O (fun w own hw H=>rG a8 aW aX aZ r (derived (aM r p).1 r.ag rights bU).1 t w own H ae) O) ?_
     rintro ⟨z1,z2,z3,z4⟩
     dsimp only
     refine R.s O (s.dE 2 _ O O O (fun _ _=>rfl) (.inl ak) (fun w hw=>(dx (hw.bz 0 O) (hw.bz 1 O) (hw.bz 2 O) (hw.bz 3 O) O O)) O O O) fun _=>U ?_
     have hz:dq r p t rights bU=((fB r (derived (aM r p).1 r.ag rights bU).1 t),0):=by (unfold dq;(repeat' split) <;> first|rfl|(exfalso;omega)|(simp_all;done))
     rw [hz]
     exact R.w2 (z1,z2,z3,z4) [6] bm O Tryz.results98 (RV.cell 2 O O ak) (RV.tmp O) O O O (cq O (iT O))
    refine U ?_
    refine R.s O (s.st 2 _ O O O O (.inl ak) O O O O) fun _=>U ?_
    refine R.iY ap aA Held Note ?_
    have hz:dq r p t rights bU=((⟨[],[],[],[],0,0⟩:av),(derived (aM r p).1 r.ag rights bU).2):=by (unfold dq;(repeat' split) <;> first|rfl|(exfalso;omega)|(simp_all;done))
    rw [hz]
    exact R.w2 ((nS),nS,nS,(nS)) [6] dh O Tryz.results98 (RV.cell 2 O O ak) (RV.tmp O) O O O (cq O O)
   refine U ?_
   rcases Bool.eq_false_or_eq_true (hZ (aM r p).1.Rights 4) with h6|h6
   .
    refine R.cg O (q.call rm O O (fun w hw=>(cv (congrArg Value.bool h6) (gO (aM r p).1.Rights 4 w ae ae)))) O<|U ?_
    by_cases h7:999<r.ag
    .
     refine U ?_
     refine R.s O (s.st 1 _ O O O O (.inl ak) O O O O) fun _=>U ?_
     refine R.iY ap aA Held Note ?_
     have hz:dq r p t rights bU=((⟨[],[],[],[],0,0⟩:av),9):=by (unfold dq;(repeat' split) <;> first|rfl|(exfalso;omega)|(simp_all;done))
     rw [hz]
     exact R.w2 ((nS),nS,nS,(nS)) [5] dh O Tryz.results98 (RV.cell 1 O O ak) (RV.tmp O) O O O (cq O (dU aD O))
    refine U ?_
    refine R.c (q.call zK O O (fun w hw=>(nn (aM r p).1 r.ag rights bU w ae))) O<|U ?_
    refine R.s O (s.alloc br O O) fun b7=>?_
    refine R.s O (s.st 0 _ O O O O (.inl aH) O O O O) fun _=>U ?_
    by_cases h8:(derived (aM r p).1 r.ag rights bU).2=0
    .
     refine U ?_
     refine R.s O (s.aT kj bm _ _ _ O O O zJ O O (fun w own hw H=>rG a8 aW aX aZ r (derived (aM r p).1 r.ag rights bU).1 t w own H ae) O) ?_
     rintro ⟨z5,z6,z7,z8⟩
     dsimp only
     refine R.s O (s.dE 2 _ O O O (fun _ _=>rfl) (.inl ak) (fun w hw=>(dx (hw.bz 0 O) (hw.bz 1 O) (hw.bz 2 O) (hw.bz 3 O) O O)) O O O) fun _=>U ?_
     have hz:dq r p t rights bU=((fB r (derived (aM r p).1 r.ag rights bU).1 t),0):=by (unfold dq;(repeat' split) <;> first|rfl|(exfalso;omega)|(simp_all;done))
     rw [hz]
     exact R.w2 (z5,z6,z7,z8) [6] bm O Tryz.results98 (RV.cell 2 O O ak) (RV.tmp O) O O O (cq O (iT O))
    refine U ?_
    refine R.s O (s.st 2 _ O O O O (.inl ak) O O O O) fun _=>U ?_
    refine R.iY ap aA Held Note ?_
    have hz:dq r p t rights bU=((⟨[],[],[],[],0,0⟩:av),(derived (aM r p).1 r.ag rights bU).2):=by (unfold dq;(repeat' split) <;> first|rfl|(exfalso;omega)|(simp_all;done))
    rw [hz]
    exact R.w2 ((nS),nS,nS,(nS)) [6] dh O Tryz.results98 (RV.cell 2 O O ak) (RV.tmp O) O O O (cq O O)
   refine R.cg O (q.call rm O O (fun w hw=>(cv (congrArg Value.bool h6) (gO (aM r p).1.Rights 4 w ae ae)))) O<|U ?_
   refine R.s O (s.st 1 _ O O O O (.inl ak) O O O O) fun _=>U ?_
   refine R.iY ap aA Held Note ?_
   have hz:dq r p t rights bU=((⟨[],[],[],[],0,0⟩:av),7):=by (unfold dq;(repeat' split) <;> first|rfl|(exfalso;omega)|(simp_all;done))
   rw [hz]
   exact R.w2 ((nS),nS,nS,(nS)) [5] dh O Tryz.results98 (RV.cell 1 O O ak) (RV.tmp O) O O O (cq O (dU aD O))
  refine U ?_
  refine R.s O (s.st 1 _ O O O O (.inl ak) O O O O) fun _=>U ?_
  refine R.iY ap aA Held Note ?_
  have hz:dq r p t rights bU=((⟨[],[],[],[],0,0⟩:av),eD r t):=by (unfold dq;(repeat' split) <;> rfl)
  rw [hz]
  exact R.w2 ((nS),nS,nS,(nS)) [5] dh O Tryz.results98 (RV.cell 1 O O ak) (RV.tmp O) O O O (cq O O)
 refine U ?_
 refine R.s O (s.st 1 _ O O O O (.inl ak) O O O O) fun _=>U ?_
 refine R.iY ap aA Held Note ?_
 have hz:dq r p t rights bU=((⟨[],[],[],[],0,0⟩:av),(aM r p).2):=by (unfold dq;(repeat' split) <;> first|rfl|(exfalso;omega)|(simp_all;done))
 rw [hz]
 exact R.w2 ((nS),nS,nS,(nS)) [5] dh O Tryz.results98 (RV.cell 1 O O ak) (RV.tmp O) O O O (cq O O)
theorem LJ (a8 aW aX aZ:Value)(r:av)(p:Place)(slot:Int)(w:World)(own:List Nat)(H:HN w own [] [aj.ls a8 r.ao,aj.ls aW r.Things,aj.ls aX r.Held,aj.ls aZ r.Notes])(hk:Ok r):RC Tryz.prog 99 #[.agg #[a8,aW,aX,aZ,iV r.ag,iV r.ah],.agg #[iV p.ay,iV p.Slot],iV slot] H (fun z:Value×Value×Value×Value => .tuple #[.agg #[z.1,z.2.1,z.2.2.1,z.2.2.2,iV (fu r p slot).1.ag,iV (fu r p slot).1.ah],cD (fu r p slot).2]) (fun _=>[]) (fun z=>[aj.ls z.1 (fu r p slot).1.ao,aj.ls z.2.1 (fu r p slot).1.Things,aj.ls z.2.2.1 (fu r p slot).1.Held,aj.ls z.2.2.2 (fu r p slot).1.Notes]):=by
 have cB:=H.bD 0 rfl
 have cd:=H.bD 1 rfl
 have df:=H.bD 2 rfl
 have cC:=H.bD 3 rfl
 have bw:=hk.wl;have bt:=hk.tl;have bh:=hk.hl;have bn:=hk.nl;have ya:=hk.w0;have yb:=hk.w1;have yc:=hk.t0;have yd:=hk.t1
 have bp:=mU r.Held p 0
 refine R.bE [(0,.agg #[a8,aW,aX,aZ,iV r.ag,iV r.ah]),(1,.agg #[iV p.ay,iV p.Slot]),(2,iV slot)] Tryz.func99 O O O O H<|U ?_
 refine R.s O (s.box O O O) fun b1=>?_
 refine R.s O (s.box O O O) fun b2=>?_
 refine R.s O (s.alloc cw O O) fun b3=>U ?_
 refine R.c (q.call vW O O (fun w hw=>(sr _ _ _ _ r p w (hw.bz 0 O) (hw.bz 1 O) (hw.bz 2 O) (hw.bz 3 O) af))) O<|U ?_
 refine R.s O (s.alloc br O O) fun b4=>?_
 refine R.s O (s.st 0 _ O O O O (.inl aH) O O O O) fun _=>U ?_
 by_cases h1:(aM r p).2=0
 .
  refine U ?_
  refine R.s O (s.alloc rj O O) fun b5=>?_
  refine R.s O (s.st 0 _ O O O O (.inl lG) O O O O) fun _=>U ?_
  refine R.c (q.call DU O O (fun w hw=>(su _ _ _ _ r (⟨p.ay,slot⟩:Place) w (hw.bz 0 O) (hw.bz 1 O) (hw.bz 2 O) (hw.bz 3 O) af))) O<|U ?_
  by_cases h2:eD r (⟨p.ay,slot⟩:Place)=0
  .
   refine U ?_
   refine R.eA (fuel:=10) wO O O mixed O<|D.l [0,2,4,5,6] wO bm O<|U ?_
   refine D.one (i:=1) O<|Do.s (s.c (Qt.a (q.ld 4 O O eG O)) O) (fun _=>(aN wO bm O)) O fun _=>?_
   refine D.one (i:=3) O<|Do.s (s.aT nE [2] _ _ _ O O O vX O O (fun w own hw H=>sf aX r.Held p 0 w own H ae) O) (fun _=>(aN tV bm O)) O fun z3=>?_
   refine D.one (i:=7) O<|Do.s (s.pre (fun _ hw=>hw.bu 0 _ O O) (s.aT nE [0] _ _ _ O O O vX O O (fun w own hw H=>sf z3 (eW r.Held p 0) (⟨p.ay,slot⟩:Place) (aM r p).1.ID w own H ae) O)) (fun _=>(aN tV [1,2,3,4] O)) O fun z4=>?_
   refine D.l [8] tV [1,2,3,4] O<|U ?_
   refine D.one (i:=9) O<|Do.s (s.dE 5 _ O O O (fun w hw=>Sl.bF (hw.row 0 O)) (.inr ⟨eG,rfl⟩) (fun w hw=>(aJ (Sl.one (hw.row 0 O)) bq)) O O O) (fun _=>(aN tV [1,2,3,4] O)) O fun _=>?_
   refine D.done<|U ?_
   refine R.s O (s.dE 3 _ O O O (fun _ _=>rfl) (.inl ak) (fun w hw=>(dx (hw.bz 1 O) (hw.bz 2 O) (hw.row 0 O) (hw.bz 4 O) O O)) O O O) fun _=>U ?_
   refine R.mp (fun _ hw=>hw.bu 0 _ O O) ?_
   have hz:fu r p slot=((⟨r.ao,r.Things,eW (eW r.Held p 0) (⟨p.ay,slot⟩:Place) (aM r p).1.ID,r.Notes,r.ag,r.ah⟩:av),0):=by (unfold fu;(repeat' split) <;> rfl)
   rw [hz]
   exact R.w2 (a8,aW,z4,aZ) [5] [2,3,0,5] O Tryz.results99 (RV.cell 2 O O ak) (RV.tmp O) O O O (cq O (iT O))
  refine U ?_
  refine R.s O (s.st 2 _ O O O O (.inl ak) O O O O) fun _=>U ?_
  refine R.iY ap aA Held Note ?_
  have hz:fu r p slot=((⟨[],[],[],[],0,0⟩:av),eD r (⟨p.ay,slot⟩:Place)):=by (unfold fu;(repeat' split) <;> rfl)
  rw [hz]
  exact R.w2 ((nS),nS,nS,(nS)) [5] dh O Tryz.results99 (RV.cell 2 O O ak) (RV.tmp O) O O O (cq O O)
 refine U ?_
 refine R.s O (s.st 1 _ O O O O (.inl ak) O O O O) fun _=>U ?_
 refine R.iY ap aA Held Note ?_
 have hz:fu r p slot=((⟨[],[],[],[],0,0⟩:av),(aM r p).2):=by (unfold fu;(repeat' split) <;> first|rfl|(exfalso;omega)|(simp_all;done))
 rw [hz]
 exact R.w2 ((nS),nS,nS,(nS)) [4] dh O Tryz.results99 (RV.cell 1 O O ak) (RV.tmp O) O O O (cq O O)
theorem LK (a8 aW aX aZ:Value)(r:av)(p:Place)(w:World)(own:List Nat)(H:HN w own [] [aj.ls a8 r.ao,aj.ls aW r.Things,aj.ls aX r.Held,aj.ls aZ r.Notes])(hk:Ok r):RC Tryz.prog 100 #[.agg #[a8,aW,aX,aZ,iV r.ag,iV r.ah],.agg #[iV p.ay,iV p.Slot]] H (fun z:Value×Value×Value×Value => .tuple #[.agg #[z.1,z.2.1,z.2.2.1,z.2.2.2,iV (fM r p).1.ag,iV (fM r p).1.ah],cD (fM r p).2]) (fun _=>[]) (fun z=>[aj.ls z.1 (fM r p).1.ao,aj.ls z.2.1 (fM r p).1.Things,aj.ls z.2.2.1 (fM r p).1.Held,aj.ls z.2.2.2 (fM r p).1.Notes]):=by
 have cB:=H.bD 0 rfl
 have cd:=H.bD 1 rfl
 have df:=H.bD 2 rfl
 have cC:=H.bD 3 rfl
 have bw:=hk.wl;have bt:=hk.tl;have bh:=hk.hl;have bn:=hk.nl;have ya:=hk.w0;have yb:=hk.w1;have yc:=hk.t0;have yd:=hk.t1
 have hkd:=hk.wo (aM r p).1.ID
 refine R.bE [(0,.agg #[a8,aW,aX,aZ,iV r.ag,iV r.ah]),(1,.agg #[iV p.ay,iV p.Slot])] Tryz.func100 O O O O H<|U ?_
 refine R.s O (s.box O O O) fun b1=>?_
 refine R.s O (s.box O O O) fun b2=>?_
 refine R.s O (s.alloc cw O O) fun b3=>U ?_
 refine R.c (q.call vW O O (fun w hw=>(sr _ _ _ _ r p w (hw.bz 0 O) (hw.bz 1 O) (hw.bz 2 O) (hw.bz 3 O) af))) O<|U ?_
 refine R.s O (s.alloc br O O) fun b4=>?_
 refine R.s O (s.st 0 _ O O O O (.inl aH) O O O O) fun _=>U ?_
 by_cases h1:(aM r p).2=0
 .
  refine U ?_
  refine R.s O (s.oL Ir O O (fun w hw=>rD _ r.ao (aM r p).1.ID w (hw.bz 0 O) ae) O) fun v1=>U ?_
  refine R.s O (s.dE 4 _ O O O (fun w hw=>Sl.bF (hw.row 0 O)) (.inr ⟨eF,rfl⟩) (fun w hw=>(aJ (Sl.one (hw.row 0 O)) bq)) O O O) fun _=>U ?_
  refine R.s O (s.pre (fun _ hw=>hw.bu 0 _ O O) (s.aT da yk _ _ _ O O O Iu O O (fun w own hw H=>tO v1 aW aX aZ (⟨without r.ao (aM r p).1.ID,r.Things,r.Held,r.Notes,r.ag,r.ah⟩:av) w own H af) O)) ?_
  rintro ⟨z1,z2,z3,z4⟩
  dsimp only
  refine R.s O (s.dE 1 _ O O O (fun _ _=>rfl) (.inl ak) (fun w hw=>(dx (hw.bz 0 O) (hw.bz 1 O) (hw.bz 2 O) (hw.bz 3 O) O O)) O O O) fun _=>U ?_
  have hz:fM r p=((dt (⟨without r.ao (aM r p).1.ID,r.Things,r.Held,r.Notes,r.ag,r.ah⟩:av)),0):=by (unfold fM;(repeat' split) <;> rfl)
  rw [hz]
  exact R.w2 (z1,z2,z3,z4) [4] bm O Tryz.results100 (RV.cell 1 O O ak) (RV.tmp O) O O O (cq O (iT O))
 refine U ?_
 refine R.s O (s.st 1 _ O O O O (.inl ak) O O O O) fun _=>U ?_
 refine R.iY ap aA Held Note ?_
 have hz:fM r p=((⟨[],[],[],[],0,0⟩:av),(aM r p).2):=by (unfold fM;(repeat' split) <;> first|rfl|(exfalso;omega)|(simp_all;done))
 rw [hz]
 exact R.w2 ((nS),nS,nS,(nS)) [4] dh O Tryz.results100 (RV.cell 1 O O ak) (RV.tmp O) O O O (cq O O)
theorem GJ (a8 aW aX aZ:Value)(r:av)(p:Place)(w:World)(own:List Nat)(H:HN w own [] [aj.ls a8 r.ao,aj.ls aW r.Things,aj.ls aX r.Held,aj.ls aZ r.Notes])(hk:Ok r):RC Tryz.prog 101 #[.agg #[a8,aW,aX,aZ,iV r.ag,iV r.ah],.agg #[iV p.ay,iV p.Slot]] H (fun z:Value×Value×Value×Value => .tuple #[.agg #[z.1,z.2.1,z.2.2.1,z.2.2.2,iV (dF r p).1.ag,iV (dF r p).1.ah],cD (dF r p).2]) (fun _=>[]) (fun z=>[aj.ls z.1 (dF r p).1.ao,aj.ls z.2.1 (dF r p).1.Things,aj.ls z.2.2.1 (dF r p).1.Held,aj.ls z.2.2.2 (dF r p).1.Notes]):=by
 have cB:=H.bD 0 rfl
 have cd:=H.bD 1 rfl
 have df:=H.bD 2 rfl
 have cC:=H.bD 3 rfl
 have bw:=hk.wl;have bt:=hk.tl;have bh:=hk.hl;have bn:=hk.nl;have ya:=hk.w0;have yb:=hk.w1;have yc:=hk.t0;have yd:=hk.t1
 have hkd:Ok (⟨r.ao.filter (fun x => !(fun (x:ap)=>decide (x.ID∈(jd (aM r p).1.ID r.ao))) x),r.Things,r.Held,r.Notes,r.ag,r.ah⟩:av):=hk.cut (aM r p).1.ID
 refine R.bE [(0,.agg #[a8,aW,aX,aZ,iV r.ag,iV r.ah]),(1,.agg #[iV p.ay,iV p.Slot])] Tryz.func101 O O O O H<|U ?_
 refine R.s O (s.box O O O) fun b1=>?_
 refine R.s O (s.box O O O) fun b2=>?_
 refine R.s O (s.alloc cw O O) fun b3=>U ?_
 refine R.c (q.call vW O O (fun w hw=>(sr _ _ _ _ r p w (hw.bz 0 O) (hw.bz 1 O) (hw.bz 2 O) (hw.bz 3 O) af))) O<|U ?_
 refine R.s O (s.alloc br O O) fun b4=>?_
 refine R.s O (s.st 0 _ O O O O (.inl aH) O O O O) fun _=>U ?_
 by_cases h1:(aM r p).2=0
 .
  refine U ?_
  refine R.s O (s.oL Ue O O (fun w hw=>Ei _ r.ao (aM r p).1.ID w (hw.bz 0 O) ae) O) fun v1=>?_
  refine R.s O (s.alloc Cl O O) fun b5=>?_
  refine R.s O (s.dE 0 _ O O O (fun w hw=>Sl.bF (hw.row 1 O)) (.inr ⟨rk,rfl⟩) (fun w hw=>(aJ (Sl.one (hw.row 1 O)) bq)) O O O) fun _=>U ?_
  refine R.s O (s.aT kj [0] _ _ _ O O O zF O O (fun w own hw H=>jM a8 r.ao w own H ae) O) fun z1=>?_
  refine R.q (q.PN (cap:=[.pointer (some ⟨b5,0,none⟩)]) O O) O<|R.s O (s.aT cu [] _ _ _ O O O Uf O O (fun w own hw H=>xE z1 r.ao (fun (x:ap)=>decide (x.ID∈(jd (aM r p).1.ID r.ao))) _ _ Ug w own H (fun W x hU=>Bi x _ (jd (aM r p).1.ID r.ao) _ W (hw.yv 1 0 O O aD hU) (Own.sl (hw.yv 2 0 O O aD hU)) ) ae) O) fun z2=>U ?_
  refine R.s O (s.dE 6 _ O O O (fun w hw=>Sl.bF (hw.row 0 O)) (.inr ⟨eF,rfl⟩) (fun w hw=>(aJ (Sl.one (hw.row 0 O)) bq)) O O O) fun _=>U ?_
  refine R.s O (s.pre (fun _ hw=>hw.bu 0 _ O O) (s.aT kj yk _ _ _ O O O Iu O O (fun w own hw H=>by have UH:=tO z2 aW aX aZ (⟨r.ao.filter (fun x => !(fun (x:ap)=>decide (x.ID∈(jd (aM r p).1.ID r.ao))) x),r.Things,r.Held,r.Notes,r.ag,r.ah⟩:av) w own H af;exact UH) O)) ?_
  rintro ⟨z3,z4,z5,z6⟩
  dsimp only
  refine R.s O (s.dE 3 _ O O O (fun _ _=>rfl) (.inl ak) (fun w hw=>(dx (hw.bz 0 O) (hw.bz 1 O) (hw.bz 2 O) (hw.bz 3 O) O O)) O O O) fun _=>U ?_
  have hz:dF r p=((dt (⟨r.ao.filter (fun x => !(fun (x:ap)=>decide (x.ID∈(jd (aM r p).1.ID r.ao))) x),r.Things,r.Held,r.Notes,r.ag,r.ah⟩:av)),0):=by (unfold dF;(repeat' split) <;> rfl)
  rw [hz]
  exact R.w2 (z3,z4,z5,z6) [6] bm O Tryz.results101 (RV.cell 3 O O ak) (RV.tmp O) O O O (cq O (iT O))
 refine U ?_
 refine R.s O (s.st 1 _ O O O O (.inl ak) O O O O) fun _=>U ?_
 refine R.iY ap aA Held Note ?_
 have hz:dF r p=((⟨[],[],[],[],0,0⟩:av),(aM r p).2):=by (unfold dF;(repeat' split) <;> first|rfl|(exfalso;omega)|(simp_all;done))
 rw [hz]
 exact R.w2 ((nS),nS,nS,(nS)) [4] dh O Tryz.results101 (RV.cell 1 O O ak) (RV.tmp O) O O O (cq O O)
theorem Ar (a8 aW aX aZ:Value)(r:av)(p:Place)(kind:Int)(rights:Int)(w:World)(qy:Sl w a8 r.ao)(nK:Sl w aW r.Things)(uZ:Sl w aX r.Held)(GI:Sl w aZ r.Notes)(hk:Ok r)(hr:0<=rights/\rights<=7):Calls Tryz.prog 166 #[.agg #[a8,aW,aX,aZ,iV r.ag,iV r.ah],.agg #[iV p.ay,iV p.Slot],iV kind,iV rights] w fun e w'=>e = .returned (.tuple #[ap.val (bQ r p kind rights).1,iV (bQ r p kind rights).2.1,cD (bQ r p kind rights).2.2])/\Ext w w':=by
 have bw:=hk.wl;have bt:=hk.tl;have bh:=hk.hl;have bn:=hk.nl;have ya:=hk.w0;have yb:=hk.w1;have yc:=hk.t0;have yd:=hk.t1
 refine R.enter [] [(0,.agg #[a8,aW,aX,aZ,iV r.ag,iV r.ah]),(1,.agg #[iV p.ay,iV p.Slot]),(2,iV kind),(3,iV rights)] Tryz.func166 O O O O<|U ?_
 refine R.s O (s.box O O O) fun b1=>?_
 refine R.s O (s.box O O O) fun b2=>?_
 refine R.s O (s.alloc br O O) fun b3=>U ?_
 refine R.c (q.call vW O O (fun w hw=>(sr _ _ _ _ r p w ((fun _=>Wd.old qy) w hw) ((fun _=>Wd.old nK) w hw) ((fun _=>Wd.old uZ) w hw) ((fun _=>Wd.old GI) w hw) af))) O<|U ?_
 refine R.s O (s.alloc br O O) fun b4=>?_
 refine R.s O (s.st 0 _ O O O O (.inl aH) O O O O) fun _=>U ?_
 by_cases h1:(aM r p).2=0
 .
  have gh1:=hk.get h1
  refine U ?_
  refine R.q (q.PN (cap:=[.pointer (some ⟨b4,0,none⟩)]) O O) O ?_
  rcases j9 (fun (t:aA)=>t.ID==(aM r p).1.aA) r.Things with ⟨fS,Eh⟩ | ⟨sJ,Ha,fS,kv,vj,D6,YA⟩
  .
   refine R.c (q.call DX O O (fun w hw=>(cv (congrArg (Value.int .i64) fS) (iA _ r.Things (fun (t:aA)=>t.ID==(aM r p).1.aA) _ _ N4 w ((fun _=>Wd.old nK) w hw) (fun W t hW=>Aq t (aM r p).1 _ W (uh (hw.b 0 O) hW) ) )))) O<|U ?_
   refine R.s O (s.st 1 _ O O O O (.inl aH) O O O O) fun _=>U ?_
   exact R.PO O Tryz.results166 (RV.cell 1 O O aH) (RV.tmp O) (RV.tmp O) (congrArg ap.val (show (⟨0,0,0,0,0⟩:ap)=(bQ r p kind rights).1 from by (rw [lj af Eh];rfl))) (rI (by (rw [lj af Eh];done))) (dU aD (by (rw [lj af Eh];done)))
  refine R.c (q.call DX O O (fun w hw=>(cv (congrArg (Value.int .i64) fS) (iA _ r.Things (fun (t:aA)=>t.ID==(aM r p).1.aA) _ _ N4 w ((fun _=>Wd.old nK) w hw) (fun W t hW=>Aq t (aM r p).1 _ W (uh (hw.b 0 O) hW) ) )))) O<|U ?_
  refine R.qg O (q.idx (i:=sJ) (fun _=>Wd.old nK) O O eZ O kv) O<|R.qg O (q.ew (j':=1) (fun _=>Wd.old nK) kv O tG O) O<|R.qg O (q.gh (fun _=>Wd.old nK) kv O bg O) O<|U ?_
  by_cases h2:Ha.Kind=kind
  .
   refine U ?_
   rcases Bool.eq_false_or_eq_true (hZ (aM r p).1.Rights rights) with h3|h3
   .
    refine R.c (q.call rm O O (fun w hw=>(cv (congrArg Value.bool h3) (gO (aM r p).1.Rights rights w ae ae)))) O<|U ?_
    refine R.s O (s.st 1 _ O O O O (.inl aH) O O O O) fun _=>U ?_
    exact R.PO O Tryz.results166 (RV.cell 1 O O aH) (RV.tmp O) (RV.tmp O) (congrArg ap.val (show (aM r p).1=(bQ r p kind rights).1 from by (rw [pC af kv vj D6 af af];done))) (rI (by (rw [pC af kv vj D6 af af];done))) (iT (by (rw [pC af kv vj D6 af af];done)))
   refine R.c (q.call rm O O (fun w hw=>(cv (congrArg Value.bool h3) (gO (aM r p).1.Rights rights w ae ae)))) O<|U ?_
   refine R.s O (s.st 1 _ O O O O (.inl aH) O O O O) fun _=>U ?_
   exact R.PO O Tryz.results166 (RV.cell 1 O O aH) (RV.tmp O) (RV.tmp O) (congrArg ap.val (show (⟨0,0,0,0,0⟩:ap)=(bQ r p kind rights).1 from by (rw [jU af kv vj D6 af af];rfl))) (rI (by (rw [jU af kv vj D6 af af];done))) (dU aD (by (rw [jU af kv vj D6 af af];done)))
  refine U ?_
  refine R.s O (s.st 1 _ O O O O (.inl aH) O O O O) fun _=>U ?_
  exact R.PO O Tryz.results166 (RV.cell 1 O O aH) (RV.tmp O) (RV.tmp O) (congrArg ap.val (show (⟨0,0,0,0,0⟩:ap)=(bQ r p kind rights).1 from by (rw [ln af kv vj D6 af];rfl))) (rI (by (rw [ln af kv vj D6 af];done))) (dU aD (by (rw [ln af kv vj D6 af];done)))
 refine U ?_
 refine R.s O (s.st 1 _ O O O O (.inl aH) O O O O) fun _=>U ?_
 exact R.PO O Tryz.results166 (RV.cell 1 O O aH) (RV.tmp O) (RV.tmp O) (congrArg ap.val (show (⟨0,0,0,0,0⟩:ap)=(bQ r p kind rights).1 from by (rw [mY af];rfl))) (rI (by (rw [mY af];done))) (rE (by (rw [mY af];done)))
theorem I3 (a8 aW aX aZ:Value)(r:av)(p:Place)(d:ByteArray)(w:World)(own:List Nat)(H:HN w own [] [aj.ls a8 r.ao,aj.ls aW r.Things,aj.ls aX r.Held,aj.ls aZ r.Notes])(hk:Ok r):RC Tryz.prog 102 #[.agg #[a8,aW,aX,aZ,iV r.ag,iV r.ah],.agg #[iV p.ay,iV p.Slot],.string d] H (fun z:Value×Value×Value×Value => .tuple #[.agg #[z.1,z.2.1,z.2.2.1,z.2.2.2,iV (dV r p d).1.ag,iV (dV r p d).1.ah],cD (dV r p d).2]) (fun _=>[]) (fun z=>[aj.ls z.1 (dV r p d).1.ao,aj.ls z.2.1 (dV r p d).1.Things,aj.ls z.2.2.1 (dV r p d).1.Held,aj.ls z.2.2.2 (dV r p d).1.Notes]):=by
 have cB:=H.bD 0 rfl
 have cd:=H.bD 1 rfl
 have df:=H.bD 2 rfl
 have cC:=H.bD 3 rfl
 have bw:=hk.wl;have bt:=hk.tl;have bh:=hk.hl;have bn:=hk.nl;have ya:=hk.w0;have yb:=hk.w1;have yc:=hk.t0;have yd:=hk.t1
 refine R.bE [(0,.agg #[a8,aW,aX,aZ,iV r.ag,iV r.ah]),(1,.agg #[iV p.ay,iV p.Slot]),(2,.string d)] Tryz.func102 O O O O H<|U ?_
 refine R.s O (s.box O O O) fun b1=>?_
 refine R.s O (s.box O O O) fun b2=>?_
 refine R.s O (s.alloc cw O O) fun b3=>U ?_
 refine R.c (q.call Iv O O (fun w hw=>(Ar _ _ _ _ r p 1 2 w (hw.bz 0 O) (hw.bz 1 O) (hw.bz 2 O) (hw.bz 3 O) af ae))) O<|U ?_
 refine R.s O (s.alloc br O O) fun b4=>?_
 refine R.s O (s.st 0 _ O O O O (.inl aH) O O O O) fun _=>U ?_
 by_cases h1:(bQ r p 1 2).2.2=0
 .
  obtain ⟨m1,m2,m3,i,ix,ik,ih,ii,id,ib⟩:=lp h1;have iB:=(List.getElem?_eq_some_iff.1 ih).1
  refine U ?_
  by_cases h2:8<d.size
  .
   refine U ?_
   refine R.s O (s.st 1 _ O O O O (.inl ak) O O O O) fun _=>U ?_
   refine R.iY ap aA Held Note ?_
   have hz:dV r p d=((⟨[],[],[],[],0,0⟩:av),2):=by (unfold dV gB;(repeat' split) <;> rfl)
   rw [hz]
   exact R.w2 ((nS),nS,nS,(nS)) [4] dh O Tryz.results102 (RV.cell 1 O O ak) (RV.tmp O) O O O (cq O (dU aD O))
  refine U ?_
  refine R.s O (s.aT da [1] _ _ _ O O O zG O O (fun w own hw H=>jr aW r.Things w own H ae) O) fun z1=>U ?_
  refine R.s O (s.dE 4 _ O O O (fun w hw=>Sl.bF (hw.row 0 O)) (.inr ⟨gC,rfl⟩) (fun w hw=>(aJ (Sl.one (hw.row 0 O)) bq)) O O O) fun _=>U ?_
  obtain ⟨x1,hx1⟩:=gE r.Things ((bQ r p 1 2).2.1.toNat)
  refine R.q (q.idx (i:=(bQ r p 1 2).2.1.toNat) (bH 0 O) O O eZ ae hx1) O<|R.q (q.ew (j':=2) (bH 0 O) hx1 O tH O) O<|R.s O (s.stP (o:=2) (z:=(⟨x1.ID,x1.Kind,d⟩:aA)) 0 _ O hx1 O O O O O (by simp [Value.oneCell']) (.inr ⟨dC,rfl⟩) O) fun _=>U ?_
  refine R.s O (s.dE 2 _ O O O (fun _ _=>rfl) (.inl ak) (fun w hw=>(dx (hw.bz 0 O) (hw.row 0 O) (hw.bz 2 O) (hw.bz 3 O) O O)) O O O) fun _=>U ?_
  refine R.mp (fun _ hw=>hw.bu 0 _ O O) ?_
  have hz:dV r p d=((⟨r.ao,r.Things.set (bQ r p 1 2).2.1.toNat (⟨x1.ID,x1.Kind,d⟩:aA),r.Held,r.Notes,r.ag,r.ah⟩:av),0):=by (unfold dV gB;(repeat' split) <;> first|rfl|(exfalso;omega)|(simp_all;done))
  rw [hz]
  exact R.w2 (a8,z1,aX,aZ) [4] [1,0,3,4] O Tryz.results102 (RV.cell 1 O O ak) (RV.tmp O) O O O (cq O (iT O))
 refine U ?_
 refine R.s O (s.st 1 _ O O O O (.inl ak) O O O O) fun _=>U ?_
 refine R.iY ap aA Held Note ?_
 have hz:dV r p d=((⟨[],[],[],[],0,0⟩:av),(bQ r p 1 2).2.2):=by (unfold dV gB;(repeat' split) <;> first|rfl|(exfalso;omega)|(simp_all;done))
 rw [hz]
 exact R.w2 ((nS),nS,nS,(nS)) [4] dh O Tryz.results102 (RV.cell 1 O O ak) (RV.tmp O) O O O (cq O O)
theorem LL (a8 aW aX aZ:Value)(r:av)(p:Place)(d:ByteArray)(slot:Int)(rights:Int)(w:World)(own:List Nat)(H:HN w own [] [aj.ls a8 r.ao,aj.ls aW r.Things,aj.ls aX r.Held,aj.ls aZ r.Notes])(hk:Ok r):RC Tryz.prog 103 #[.agg #[a8,aW,aX,aZ,iV r.ag,iV r.ah],.agg #[iV p.ay,iV p.Slot],.string d,iV slot,iV rights] H (fun z:Value×Value×Value×Value => .tuple #[.agg #[z.1,z.2.1,z.2.2.1,z.2.2.2,iV (cL r p d slot rights).1.ag,iV (cL r p d slot rights).1.ah],cD (cL r p d slot rights).2]) (fun _=>[]) (fun z=>[aj.ls z.1 (cL r p d slot rights).1.ao,aj.ls z.2.1 (cL r p d slot rights).1.Things,aj.ls z.2.2.1 (cL r p d slot rights).1.Held,aj.ls z.2.2.2 (cL r p d slot rights).1.Notes]):=by
 have cB:=H.bD 0 rfl
 have cd:=H.bD 1 rfl
 have df:=H.bD 2 rfl
 have cC:=H.bD 3 rfl
 have bw:=hk.wl;have bt:=hk.tl;have bh:=hk.hl;have bn:=hk.nl;have ya:=hk.w0;have yb:=hk.w1;have yc:=hk.t0;have yd:=hk.t1
 refine R.bE [(0,.agg #[a8,aW,aX,aZ,iV r.ag,iV r.ah]),(1,.agg #[iV p.ay,iV p.Slot]),(2,.string d),(3,iV slot),(4,iV rights)] Tryz.func103 O O O O H<|U ?_
 refine R.s O (s.box O O O) fun b1=>?_
 refine R.s O (s.box O O O) fun b2=>?_
 refine R.s O (s.alloc cw O O) fun b3=>U ?_
 refine R.c (q.call Iv O O (fun w hw=>(Ar _ _ _ _ r p 2 2 w (hw.bz 0 O) (hw.bz 1 O) (hw.bz 2 O) (hw.bz 3 O) af ae))) O<|U ?_
 refine R.s O (s.alloc br O O) fun b4=>?_
 refine R.s O (s.st 0 _ O O O O (.inl aH) O O O O) fun _=>U ?_
 by_cases h1:(bQ r p 2 2).2.2=0
 .
  have mz:=lp h1;have mr:=hk.get mz.1;rw [<- mz.2.1] at mr
  refine U ?_
  by_cases h2:8<d.size
  .
   refine U ?_
   refine R.s O (s.st 1 _ O O O O (.inl ak) O O O O) fun _=>U ?_
   refine R.iY ap aA Held Note ?_
   have hz:cL r p d slot rights=((⟨[],[],[],[],0,0⟩:av),2):=by (unfold cL;(repeat' split) <;> rfl)
   rw [hz]
   exact R.w2 ((nS),nS,nS,(nS)) [4] dh O Tryz.results103 (RV.cell 1 O O ak) (RV.tmp O) O O O (cq O (dU aD O))
  refine U ?_
  refine R.loop (fun g_:Nat×Nat=>[(2,.string d),(3,iV slot),(4,iV rights),(5,.pointer (some ⟨b1,0,none⟩)),(6,.pointer (some ⟨b2,0,none⟩)),(10,.pointer (some ⟨b3,0,none⟩)),(12,.pointer (some ⟨b4,0,none⟩)),(15,iV (g_.2:Int)),(39,aZ),(40,iV (r.Notes.length:Int)),(41,iV (g_.1:Int))]) (fun g_=>[aj.box b4 [iV (bQ r p 2 2).1.ID,iV (bQ r p 2 2).1.aA,iV (bQ r p 2 2).1.Rights,iV (bQ r p 2 2).1.aU,iV (bQ r p 2 2).1.From] 126,aj.box b3 t8 48,aj.box b2 (jO p) 32,aj.box b1 [a8,aW,aX,aZ,iV r.ag,iV r.ah] 48,aj.held w own]) (fun g_=>[aj.ls a8 r.ao,aj.ls aW r.Things,aj.ls aX r.Held,aj.ls aZ r.Notes]) (fun g_=>g_.1<=r.Notes.length/\g_.2=gu (r.Notes.take g_.1) (bQ r p 2 2).1.aA) (fun g_=>r.Notes.length-g_.1) (0,0) O (by exact ⟨ae,by simp [gu]⟩) (sF O) (eI da bm O) ?_
  rintro ⟨k,c⟩ ⟨hk1,HC⟩
  dsimp only at *
  have hc1:c<=k:=by rw [HC];exact Jr
  refine U ?_
  by_cases h3:k<r.Notes.length
  .
   refine U ?_
   obtain ⟨x1,hx1⟩:=gE r.Notes k
   refine R.q (q.idx (i:=k) (cb 3 O) O O dI O hx1) O<|R.q (q.dj (ds:=mP x1) (cb 3 O) hx1 O cj O) O<|R.s O (s.alloc dO O O) fun b5=>?_
   refine R.s O (s.st 0 _ O O O O (.inl cj) O O O O) fun _=>U ?_
   by_cases h4:x1.Port=(bQ r p 2 2).1.aA
   .
    refine U ?_
    refine R.q (q.aL (r:=((c+1:Nat):Int)) O O) O<|U ?_
    refine R.q (q.aL (r:=((k+1:Nat):Int)) O O) O<|U ?_
    refine R.back ((k+1),(c+1)) O (by (exact ⟨ae,by rw [E8 hx1 af,HC]⟩)) aO (sF O) (aN wN bm O)
   refine U ?_
   refine R.q (q.aL (r:=((k+1:Nat):Int)) O O) O<|U ?_
   refine R.back ((k+1),c) O (by (exact ⟨ae,by rw [BN hx1 af,HC]⟩)) aO (sF O) (aN wN bm O)
  refine U ?_
  by_cases h5:c=3
  .
   refine U ?_
   refine R.s O (s.st 1 _ O O O O (.inl ak) O O O O) fun _=>U ?_
   refine R.iY ap aA Held Note ?_
   have hz:cL r p d slot rights=((⟨[],[],[],[],0,0⟩:av),9):=by (rw [List.take_of_length_le ae] at HC;subst HC;unfold cL;(repeat' split) <;> rfl)
   rw [hz]
   exact R.w2 ((nS),nS,nS,(nS)) [4] dh O Tryz.results103 (RV.cell 1 O O ak) (RV.tmp O) O O O (cq O (dU aD O))
  refine U ?_
  refine R.s O (s.alloc dO O O) fun b6=>?_
  refine R.s O (s.st 0 _ O O O O (.inl cj) O O O O) fun _=>U ?_
  by_cases h6:slot<0
  .
   refine U ?_
   refine R.eA (fuel:=8) wO O O mixed O<|D.l [0,3] wO bm O<|U ?_
   refine D.two (i:=1) (j:=4) O O ?_ ?_
   .
    refine Do.s (s.c (Qt.a (q.ld 4 O O cQ O)) O) (fun _=>(aN wO bm O)) O fun _=>?_
    refine D.two (i:=2) (j:=4) O O ?_ ?_
    .
     refine Do.s (s.aT nE [3] _ _ _ O O O pV O O (fun w own hw H=>fF aZ r.Notes w own H ae) O) (fun _=>(aN tV bm O)) O fun z2=>?_
     refine D.one (i:=4) O<|Do.s (s.bs (l:=([(⟨((bQ r p 2 2).1).aA,d,(bQ r p 2 2).1.aU,0⟩:Note)]:List Note)) dI dO O O O O O O O) (fun _=>(aN qj bm O)) O fun b7=>?_
     refine D.one (i:=5) O<|Do.s (s.app 1 _ O O O (bH 0 O) ea az az (fun _=>rfl) O) (fun _=>(aN qj bm O)) O fun v1=>?_
     refine D.l [6] qj bm O<|U ?_
     refine D.one (i:=7) O<|Do.s (s.dE 6 _ O O O (fun w hw=>Sl.bF (hw.row 1 O)) (.inr ⟨cQ,rfl⟩) (fun w hw=>(aJ (Sl.one (hw.row 1 O)) bq)) O O O) (fun _=>(aN qj bm O)) O fun _=>?_
     refine D.done<|U ?_
     refine R.s O (s.dE 4 _ O O O (fun _ _=>rfl) (.inl ak) (fun w hw=>(dx (hw.bz 0 O) (hw.bz 1 O) (hw.bz 2 O) (hw.row 1 O) O O)) O O O) fun _=>U ?_
     refine R.mp (fun _ hw=>hw.bu 1 _ O O) ?_
     have hz:cL r p d slot rights=((⟨r.ao,r.Things,r.Held,r.Notes++([(⟨((bQ r p 2 2).1).aA,d,(bQ r p 2 2).1.aU,0⟩:Note)]),r.ag,r.ah⟩:av),0):=by (rw [List.take_of_length_le ae] at HC;subst HC;unfold cL;(repeat' split) <;> rfl)
     rw [hz]
     exact R.w2 (a8,aW,aX,v1) [6] yl O Tryz.results103 (RV.cell 3 O O ak) (RV.tmp O) O O O (cq O (iT O))
    refine Do.s (s.bs (l:=([(⟨((bQ r p 2 2).1).aA,d,(bQ r p 2 2).1.aU,0⟩:Note)]:List Note)) dI dO O O O O O O O) (fun _=>(aN tV bm O)) O fun b8=>?_
    refine D.one (i:=2) O<|Do.s (s.aT kj [3] _ _ _ O O O pV O O (fun w own hw H=>fF aZ r.Notes w own H ae) O) (fun _=>(aN qj bm O)) O fun z3=>?_
    refine D.one (i:=5) O<|Do.s (s.app 0 _ O O O (bH 1 O) ea az az (fun _=>rfl) O) (fun _=>(aN qj bm O)) O fun v2=>?_
    refine D.l [6] qj bm O<|U ?_
    refine D.one (i:=7) O<|Do.s (s.dE 6 _ O O O (fun w hw=>Sl.bF (hw.row 0 O)) (.inr ⟨cQ,rfl⟩) (fun w hw=>(aJ (Sl.one (hw.row 0 O)) bq)) O O O) (fun _=>(aN qj bm O)) O fun _=>?_
    refine D.done<|U ?_
    refine R.s O (s.dE 4 _ O O O (fun _ _=>rfl) (.inl ak) (fun w hw=>(dx (hw.bz 0 O) (hw.bz 1 O) (hw.bz 2 O) (hw.row 0 O) O O)) O O O) fun _=>U ?_
    refine R.mp (fun _ hw=>hw.bu 0 _ O O) ?_
    have hz:cL r p d slot rights=((⟨r.ao,r.Things,r.Held,r.Notes++([(⟨((bQ r p 2 2).1).aA,d,(bQ r p 2 2).1.aU,0⟩:Note)]),r.ag,r.ah⟩:av),0):=by (rw [List.take_of_length_le ae] at HC;subst HC;unfold cL;(repeat' split) <;> rfl)
    rw [hz]
    exact R.w2 (a8,aW,aX,v2) [6] yl O Tryz.results103 (RV.cell 3 O O ak) (RV.tmp O) O O O (cq O (iT O))
   refine Do.s (s.bs (l:=([(⟨((bQ r p 2 2).1).aA,d,(bQ r p 2 2).1.aU,0⟩:Note)]:List Note)) dI dO O O O O O O O) (fun _=>(aN tV bm O)) O fun b9=>?_
   refine D.one (i:=1) O<|Do.s (s.c (Qt.a (q.ld 5 O O cQ O)) O) (fun _=>(aN tV bm O)) O fun _=>?_
   refine D.one (i:=2) O<|Do.s (s.aT kj [3] _ _ _ O O O pV O O (fun w own hw H=>fF aZ r.Notes w own H ae) O) (fun _=>(aN qj bm O)) O fun z4=>?_
   refine D.one (i:=5) O<|Do.s (s.app 0 _ O O O (bH 1 O) ea az az (fun _=>rfl) O) (fun _=>(aN qj bm O)) O fun v3=>?_
   refine D.l [6] qj bm O<|U ?_
   refine D.one (i:=7) O<|Do.s (s.dE 6 _ O O O (fun w hw=>Sl.bF (hw.row 0 O)) (.inr ⟨cQ,rfl⟩) (fun w hw=>(aJ (Sl.one (hw.row 0 O)) bq)) O O O) (fun _=>(aN qj bm O)) O fun _=>?_
   refine D.done<|U ?_
   refine R.s O (s.dE 4 _ O O O (fun _ _=>rfl) (.inl ak) (fun w hw=>(dx (hw.bz 0 O) (hw.bz 1 O) (hw.bz 2 O) (hw.row 0 O) O O)) O O O) fun _=>U ?_
   refine R.mp (fun _ hw=>hw.bu 0 _ O O) ?_
   have hz:cL r p d slot rights=((⟨r.ao,r.Things,r.Held,r.Notes++([(⟨((bQ r p 2 2).1).aA,d,(bQ r p 2 2).1.aU,0⟩:Note)]),r.ag,r.ah⟩:av),0):=by (rw [List.take_of_length_le ae] at HC;subst HC;unfold cL;(repeat' split) <;> rfl)
   rw [hz]
   exact R.w2 (a8,aW,aX,v3) [6] yl O Tryz.results103 (RV.cell 3 O O ak) (RV.tmp O) O O O (cq O (iT O))
  refine U ?_
  rcases Bool.eq_false_or_eq_true (hZ (bQ r p 2 2).1.Rights 4) with h7|h7
  .
   refine R.c (q.call rm O O (fun w hw=>(cv (congrArg Value.bool h7) (gO (bQ r p 2 2).1.Rights 4 w ae ae)))) O<|U ?_
   refine R.c (q.call vW O O (fun w hw=>(sr _ _ _ _ r (⟨p.ay,slot⟩:Place) w (hw.bz 0 O) (hw.bz 1 O) (hw.bz 2 O) (hw.bz 3 O) af))) O<|U ?_
   refine R.s O (s.alloc br O O) fun b10=>?_
   refine R.s O (s.st 0 _ O O O O (.inl aH) O O O O) fun _=>U ?_
   by_cases h8:(aM r (⟨p.ay,slot⟩:Place)).2=0
   .
    have gh8:=hk.get h8
    have hn0:∀x,(fB r x ⟨0,0⟩).Notes.length<=2000:=fun x=>hk.nl
    have hnz:=hn0 (derived (aM r ⟨p.ay,slot⟩).1 r.ag rights 0).1
    refine U ?_
    by_cases h9:999<r.ag
    .
     refine U ?_
     refine R.s O (s.st 3 _ O O O O (.inl ak) O O O O) fun _=>U ?_
     refine R.iY ap aA Held Note ?_
     have hz:cL r p d slot rights=((⟨[],[],[],[],0,0⟩:av),9):=by (rw [List.take_of_length_le ae] at HC;subst HC;unfold cL;(repeat' split) <;> rfl)
     rw [hz]
     exact R.w2 ((nS),nS,nS,(nS)) [6] dh O Tryz.results103 (RV.cell 3 O O ak) (RV.tmp O) O O O (cq O (dU aD O))
    refine U ?_
    refine R.c (q.call zK O O (fun w hw=>(nn (aM r (⟨p.ay,slot⟩:Place)).1 r.ag rights 0 w ae))) O<|U ?_
    refine R.s O (s.alloc br O O) fun b11=>?_
    refine R.s O (s.st 0 _ O O O O (.inl aH) O O O O) fun _=>U ?_
    by_cases h10:(derived (aM r (⟨p.ay,slot⟩:Place)).1 r.ag rights 0).2=0
    .
     refine U ?_
     refine R.s O (s.aT cu bm _ _ _ O O O zJ O O (fun w own hw H=>rG a8 aW aX aZ r (derived (aM r (⟨p.ay,slot⟩:Place)).1 r.ag rights 0).1 (⟨0,0⟩:Place) w own H ae) O) ?_
     rintro ⟨z5,z6,z7,z8⟩
     dsimp only
     refine R.s O (s.dE 6 _ O O O (fun _ _=>rfl) (.inl ak) (fun w hw=>(dx (hw.bz 0 O) (hw.bz 1 O) (hw.bz 2 O) (hw.bz 3 O) O O)) O O O) fun _=>U ?_
     refine R.s O (s.st 2 _ O O O O (.inr ⟨bg,rfl⟩) O O O O) fun _=>U ?_
     refine R.eA (fuel:=8) [0,1,2,3,4,5,7] O O mixed O<|D.l [0,3] [0,1,2,3,4,5,7] cu O<|U ?_
     refine D.two (i:=1) (j:=4) O O ?_ ?_
     .
      refine Do.s (s.c (Qt.a (q.ld 6 O O cQ O)) O) (fun _=>(aN [0,1,2,3,4,5,7] cu O)) O fun _=>?_
      refine D.two (i:=2) (j:=4) O O ?_ ?_
      .
       refine Do.s (s.aT cu [3] _ _ _ O O O pV O O (fun w own hw H=>fF z8 (fB r (derived (aM r (⟨p.ay,slot⟩:Place)).1 r.ag rights 0).1 (⟨0,0⟩:Place)).Notes w own H ae) O) (fun _=>(aN [1,2,3,4,5,6,8] cu O)) O fun l7=>?_
       refine D.one (i:=4) O<|Do.s (s.bs (l:=([(⟨((bQ r p 2 2).1).aA,d,(bQ r p 2 2).1.aU,(derived (aM r (⟨p.ay,slot⟩:Place)).1 r.ag rights 0).1.ID⟩:Note)]:List Note)) dI dO O O O O O O O) (fun _=>(aN qk cu O)) O fun b12=>?_
       refine D.one (i:=5) O<|Do.s (s.app 1 _ O O O (bH 0 O) ea az az (fun _=>rfl) O) (fun _=>(aN qk cu O)) O fun v4=>?_
       refine D.l [6] qk cu O<|U ?_
       refine D.one (i:=7) O<|Do.s (s.dE 8 _ O O O (fun w hw=>Sl.bF (hw.row 1 O)) (.inr ⟨cQ,rfl⟩) (fun w hw=>(aJ (Sl.one (hw.row 1 O)) bq)) O O O) (fun _=>(aN qk cu O)) O fun _=>?_
       refine D.done<|U ?_
       refine R.s O (s.dE 6 _ O O O (fun _ _=>rfl) (.inl ak) (fun w hw=>(dx (hw.bz 0 O) (hw.bz 1 O) (hw.bz 2 O) (hw.row 1 O) O O)) O O O) fun _=>U ?_
       refine R.mp (fun _ hw=>hw.bu 1 _ O O) ?_
       have hz:cL r p d slot rights=((⟨(fB r (derived (aM r (⟨p.ay,slot⟩:Place)).1 r.ag rights 0).1 (⟨0,0⟩:Place)).ao,(fB r (derived (aM r (⟨p.ay,slot⟩:Place)).1 r.ag rights 0).1 (⟨0,0⟩:Place)).Things,(fB r (derived (aM r (⟨p.ay,slot⟩:Place)).1 r.ag rights 0).1 (⟨0,0⟩:Place)).Held,(fB r (derived (aM r (⟨p.ay,slot⟩:Place)).1 r.ag rights 0).1 (⟨0,0⟩:Place)).Notes++([(⟨((bQ r p 2 2).1).aA,d,(bQ r p 2 2).1.aU,(derived (aM r (⟨p.ay,slot⟩:Place)).1 r.ag rights 0).1.ID⟩:Note)]),(fB r (derived (aM r (⟨p.ay,slot⟩:Place)).1 r.ag rights 0).1 (⟨0,0⟩:Place)).ag,(fB r (derived (aM r (⟨p.ay,slot⟩:Place)).1 r.ag rights 0).1 (⟨0,0⟩:Place)).ah⟩:av),0):=by (rw [List.take_of_length_le ae] at HC;subst HC;unfold cL;(repeat' split) <;> rfl)
       rw [hz]
       exact R.w2 (z5,z6,z7,v4) [8] yl O Tryz.results103 (RV.cell 5 O O ak) (RV.tmp O) O O O (cq O (iT O))
      refine Do.s (s.bs (l:=([(⟨((bQ r p 2 2).1).aA,d,(bQ r p 2 2).1.aU,(derived (aM r (⟨p.ay,slot⟩:Place)).1 r.ag rights 0).1.ID⟩:Note)]:List Note)) dI dO O O O O O O O) (fun _=>(aN [1,2,3,4,5,6,8] cu O)) O fun b13=>?_
      refine D.one (i:=2) O<|Do.s (s.aT dQ [3] _ _ _ O O O pV O O (fun w own hw H=>fF z8 (fB r (derived (aM r (⟨p.ay,slot⟩:Place)).1 r.ag rights 0).1 (⟨0,0⟩:Place)).Notes w own H ae) O) (fun _=>(aN qk cu O)) O fun mh=>?_
      refine D.one (i:=5) O<|Do.s (s.app 0 _ O O O (bH 1 O) ea az az (fun _=>rfl) O) (fun _=>(aN qk cu O)) O fun v5=>?_
      refine D.l [6] qk cu O<|U ?_
      refine D.one (i:=7) O<|Do.s (s.dE 8 _ O O O (fun w hw=>Sl.bF (hw.row 0 O)) (.inr ⟨cQ,rfl⟩) (fun w hw=>(aJ (Sl.one (hw.row 0 O)) bq)) O O O) (fun _=>(aN qk cu O)) O fun _=>?_
      refine D.done<|U ?_
      refine R.s O (s.dE 6 _ O O O (fun _ _=>rfl) (.inl ak) (fun w hw=>(dx (hw.bz 0 O) (hw.bz 1 O) (hw.bz 2 O) (hw.row 0 O) O O)) O O O) fun _=>U ?_
      refine R.mp (fun _ hw=>hw.bu 0 _ O O) ?_
      have hz:cL r p d slot rights=((⟨(fB r (derived (aM r (⟨p.ay,slot⟩:Place)).1 r.ag rights 0).1 (⟨0,0⟩:Place)).ao,(fB r (derived (aM r (⟨p.ay,slot⟩:Place)).1 r.ag rights 0).1 (⟨0,0⟩:Place)).Things,(fB r (derived (aM r (⟨p.ay,slot⟩:Place)).1 r.ag rights 0).1 (⟨0,0⟩:Place)).Held,(fB r (derived (aM r (⟨p.ay,slot⟩:Place)).1 r.ag rights 0).1 (⟨0,0⟩:Place)).Notes++([(⟨((bQ r p 2 2).1).aA,d,(bQ r p 2 2).1.aU,(derived (aM r (⟨p.ay,slot⟩:Place)).1 r.ag rights 0).1.ID⟩:Note)]),(fB r (derived (aM r (⟨p.ay,slot⟩:Place)).1 r.ag rights 0).1 (⟨0,0⟩:Place)).ag,(fB r (derived (aM r (⟨p.ay,slot⟩:Place)).1 r.ag rights 0).1 (⟨0,0⟩:Place)).ah⟩:av),0):=by (rw [List.take_of_length_le ae] at HC;subst HC;unfold cL;(repeat' split) <;> rfl)
      rw [hz]
      exact R.w2 (z5,z6,z7,v5) [8] yl O Tryz.results103 (RV.cell 5 O O ak) (RV.tmp O) O O O (cq O (iT O))
     refine Do.s (s.bs (l:=([(⟨((bQ r p 2 2).1).aA,d,(bQ r p 2 2).1.aU,(derived (aM r (⟨p.ay,slot⟩:Place)).1 r.ag rights 0).1.ID⟩:Note)]:List Note)) dI dO O O O O O O O) (fun _=>(aN [1,2,3,4,5,6,8] cu O)) O fun b14=>?_
     refine D.one (i:=1) O<|Do.s (s.c (Qt.a (q.ld 7 O O cQ O)) O) (fun _=>(aN [1,2,3,4,5,6,8] cu O)) O fun _=>?_
     refine D.one (i:=2) O<|Do.s (s.aT dQ [3] _ _ _ O O O pV O O (fun w own hw H=>fF z8 (fB r (derived (aM r (⟨p.ay,slot⟩:Place)).1 r.ag rights 0).1 (⟨0,0⟩:Place)).Notes w own H ae) O) (fun _=>(aN qk cu O)) O fun z12=>?_
     refine D.one (i:=5) O<|Do.s (s.app 0 _ O O O (bH 1 O) ea az az (fun _=>rfl) O) (fun _=>(aN qk cu O)) O fun v6=>?_
     refine D.l [6] qk cu O<|U ?_
     refine D.one (i:=7) O<|Do.s (s.dE 8 _ O O O (fun w hw=>Sl.bF (hw.row 0 O)) (.inr ⟨cQ,rfl⟩) (fun w hw=>(aJ (Sl.one (hw.row 0 O)) bq)) O O O) (fun _=>(aN qk cu O)) O fun _=>?_
     refine D.done<|U ?_
     refine R.s O (s.dE 6 _ O O O (fun _ _=>rfl) (.inl ak) (fun w hw=>(dx (hw.bz 0 O) (hw.bz 1 O) (hw.bz 2 O) (hw.row 0 O) O O)) O O O) fun _=>U ?_
     refine R.mp (fun _ hw=>hw.bu 0 _ O O) ?_
     have hz:cL r p d slot rights=((⟨(fB r (derived (aM r (⟨p.ay,slot⟩:Place)).1 r.ag rights 0).1 (⟨0,0⟩:Place)).ao,(fB r (derived (aM r (⟨p.ay,slot⟩:Place)).1 r.ag rights 0).1 (⟨0,0⟩:Place)).Things,(fB r (derived (aM r (⟨p.ay,slot⟩:Place)).1 r.ag rights 0).1 (⟨0,0⟩:Place)).Held,(fB r (derived (aM r (⟨p.ay,slot⟩:Place)).1 r.ag rights 0).1 (⟨0,0⟩:Place)).Notes++([(⟨((bQ r p 2 2).1).aA,d,(bQ r p 2 2).1.aU,(derived (aM r (⟨p.ay,slot⟩:Place)).1 r.ag rights 0).1.ID⟩:Note)]),(fB r (derived (aM r (⟨p.ay,slot⟩:Place)).1 r.ag rights 0).1 (⟨0,0⟩:Place)).ag,(fB r (derived (aM r (⟨p.ay,slot⟩:Place)).1 r.ag rights 0).1 (⟨0,0⟩:Place)).ah⟩:av),0):=by (rw [List.take_of_length_le ae] at HC;subst HC;unfold cL;(repeat' split) <;> rfl)
     rw [hz]
     exact R.w2 (z5,z6,z7,v6) [8] yl O Tryz.results103 (RV.cell 5 O O ak) (RV.tmp O) O O O (cq O (iT O))
    refine U ?_
    refine R.s O (s.st 4 _ O O O O (.inl ak) O O O O) fun _=>U ?_
    refine R.iY ap aA Held Note ?_
    have hz:cL r p d slot rights=((⟨[],[],[],[],0,0⟩:av),(derived (aM r (⟨p.ay,slot⟩:Place)).1 r.ag rights 0).2):=by (rw [List.take_of_length_le ae] at HC;subst HC;unfold cL;(repeat' split) <;> rfl)
    rw [hz]
    exact R.w2 ((nS),nS,nS,(nS)) [7] dh O Tryz.results103 (RV.cell 4 O O ak) (RV.tmp O) O O O (cq O O)
   refine U ?_
   refine R.s O (s.st 3 _ O O O O (.inl ak) O O O O) fun _=>U ?_
   refine R.iY ap aA Held Note ?_
   have hz:cL r p d slot rights=((⟨[],[],[],[],0,0⟩:av),(aM r (⟨p.ay,slot⟩:Place)).2):=by (rw [List.take_of_length_le ae] at HC;subst HC;unfold cL;(repeat' split) <;> rfl)
   rw [hz]
   exact R.w2 ((nS),nS,nS,(nS)) [6] dh O Tryz.results103 (RV.cell 3 O O ak) (RV.tmp O) O O O (cq O O)
  refine R.c (q.call rm O O (fun w hw=>(cv (congrArg Value.bool h7) (gO (bQ r p 2 2).1.Rights 4 w ae ae)))) O<|U ?_
  refine R.s O (s.st 2 _ O O O O (.inl ak) O O O O) fun _=>U ?_
  refine R.iY ap aA Held Note ?_
  have hz:cL r p d slot rights=((⟨[],[],[],[],0,0⟩:av),7):=by (rw [List.take_of_length_le ae] at HC;subst HC;unfold cL;(repeat' split) <;> first|rfl|(exfalso;omega)|(simp_all;done))
  rw [hz]
  exact R.w2 ((nS),nS,nS,(nS)) [5] dh O Tryz.results103 (RV.cell 2 O O ak) (RV.tmp O) O O O (cq O (dU aD O))
 refine U ?_
 refine R.s O (s.st 1 _ O O O O (.inl ak) O O O O) fun _=>U ?_
 refine R.iY ap aA Held Note ?_
 have hz:cL r p d slot rights=((⟨[],[],[],[],0,0⟩:av),(bQ r p 2 2).2.2):=by (unfold cL;(repeat' split) <;> first|rfl|(exfalso;omega)|(simp_all;done))
 rw [hz]
 exact R.w2 ((nS),nS,nS,(nS)) [4] dh O Tryz.results103 (RV.cell 1 O O ak) (RV.tmp O) O O O (cq O O)
theorem LM (a8 aW aX aZ:Value)(r:av)(p:Place)(w:World)(own:List Nat)(H:HN w own [] [aj.ls a8 r.ao,aj.ls aW r.Things,aj.ls aX r.Held,aj.ls aZ r.Notes])(hk:Ok r):RC Tryz.prog 104 #[.agg #[a8,aW,aX,aZ,iV r.ag,iV r.ah],.agg #[iV p.ay,iV p.Slot]] H (fun z:Value×Value×Value×Value => .tuple #[.agg #[z.1,z.2.1,z.2.2.1,z.2.2.2,iV (cM r p).1.ag,iV (cM r p).1.ah],.agg #[iV (cM r p).2.1.Port,.string (cM r p).2.1.Data,iV (cM r p).2.1.aU,iV (cM r p).2.1.ap],iV (cM r p).2.2.1,cD (cM r p).2.2.2]) (fun _=>[]) (fun z=>[aj.ls z.1 (cM r p).1.ao,aj.ls z.2.1 (cM r p).1.Things,aj.ls z.2.2.1 (cM r p).1.Held,aj.ls z.2.2.2 (cM r p).1.Notes]):=by
 have cB:=H.bD 0 rfl
 have cd:=H.bD 1 rfl
 have df:=H.bD 2 rfl
 have cC:=H.bD 3 rfl
 have bw:=hk.wl;have bt:=hk.tl;have bh:=hk.hl;have bn:=hk.nl;have ya:=hk.w0;have yb:=hk.w1;have yc:=hk.t0;have yd:=hk.t1
 refine R.bE [(0,.agg #[a8,aW,aX,aZ,iV r.ag,iV r.ah]),(1,.agg #[iV p.ay,iV p.Slot])] Tryz.func104 O O O O H<|U ?_
 refine R.s O (s.box O O O) fun b1=>?_
 refine R.s O (s.box O O O) fun b2=>?_
 refine R.s O (s.alloc cw O O) fun b3=>?_
 refine R.s O (s.alloc dO O O) fun b4=>U ?_
 refine R.c (q.call Iv O O (fun w hw=>(Ar _ _ _ _ r p 2 1 w (hw.bz 0 O) (hw.bz 1 O) (hw.bz 2 O) (hw.bz 3 O) af ae))) O<|U ?_
 refine R.s O (s.alloc br O O) fun b5=>?_
 refine R.s O (s.st 0 _ O O O O (.inl aH) O O O O) fun _=>U ?_
 by_cases h1:(bQ r p 2 1).2.2=0
 .
  refine U ?_
  refine R.q (q.PN (cap:=[.pointer (some ⟨b5,0,none⟩)]) O O) O ?_
  rcases j9 (fun (t:Note)=>t.Port==(bQ r p 2 1).1.aA) r.Notes with ⟨fS,Eh⟩ | ⟨sJ,Ha,fS,kv,vj,D6,YA⟩
  .
   refine R.c (q.call NW O O (fun w hw=>(cv (congrArg (Value.int .i64) fS) (oz _ r.Notes (fun (t:Note)=>t.Port==(bQ r p 2 1).1.aA) _ _ NY w (hw.bz 3 O) (fun W t hW=>xq t (bQ r p 2 1).1 _ W (uh (hw.b 0 O) hW) ) )))) O<|U ?_
   refine R.s O (s.st 2 _ O O O O (.inl ak) O O O O) fun _=>?_
   refine R.s O (s.st 1 _ O O O O (.inl cj) O O O O) fun _=>U ?_
   refine R.iY ap aA Held Note ?_
   have hz:cM r p=((⟨[],[],[],[],0,0⟩:av),(⟨0,⟨#[]⟩,0,0⟩:Note),0,5):=by (unfold cM;(rw [if_pos af,fS,show decide ((0:Int) <= -1)=false from rfl];cases r.Notes[(-1:Int).toNat]? <;> rfl))
   rw [hz]
   exact R.w4 ((nS),nS,nS,(nS)) [5] dh O Tryz.results104 (RV.cell 2 O O ak) (RV.cell 1 O O cj) (RV.tmp O) (RV.tmp O) O O O (ug O O O (dU aD O))
  refine R.c (q.call NW O O (fun w hw=>(cv (congrArg (Value.int .i64) fS) (oz _ r.Notes (fun (t:Note)=>t.Port==(bQ r p 2 1).1.aA) _ _ NY w (hw.bz 3 O) (fun W t hW=>xq t (bQ r p 2 1).1 _ W (uh (hw.b 0 O) hW) ) )))) O<|U ?_
  refine R.q (q.idx (i:=sJ) (cb 3 O) O O dI O kv) O<|R.q (q.dj (ds:=mP Ha) (cb 3 O) kv O cj O) O<|R.s O (s.alloc dO O O) fun b6=>?_
  refine R.s O (s.st 0 _ O O O O (.inl cj) O O O O) fun _=>U ?_
  by_cases h2:0<Ha.ap
  .
   refine U ?_
   refine R.c (q.call Uh O O (fun w hw=>(Og _ r.Held p.ay w (hw.bz 2 O) ae))) O<|U ?_
   by_cases h3:gq r.Held p.ay<0
   .
    refine U ?_
    refine R.s O (s.st 3 _ O O O O (.inl ak) O O O O) fun _=>?_
    refine R.s O (s.st 2 _ O O O O (.inl cj) O O O O) fun _=>U ?_
    refine R.iY ap aA Held Note ?_
    have hz:cM r p=((⟨[],[],[],[],0,0⟩:av),(⟨0,⟨#[]⟩,0,0⟩:Note),0,9):=by (unfold cM;(rw [if_pos af,fS,Int.toNat_natCast,kv,decide_eq_true ae];dsimp only;(repeat' split) <;> rfl))
    rw [hz]
    exact R.w4 ((nS),nS,nS,(nS)) [6] dh O Tryz.results104 (RV.cell 3 O O ak) (RV.cell 2 O O cj) (RV.tmp O) (RV.tmp O) O O O (ug O O O (dU aD O))
   refine U ?_
   refine R.s O (s.aT kj [2] _ _ _ O O O vX O O (fun w own hw H=>sf aX r.Held (⟨p.ay,gq r.Held p.ay⟩:Place) Ha.ap w own H ae) O) fun z1=>U ?_
   refine R.s O (s.dE 6 _ O O O (fun w hw=>Sl.bF (hw.row 0 O)) (.inr ⟨eG,rfl⟩) (fun w hw=>(aJ (Sl.one (hw.row 0 O)) bq)) O O O) fun _=>U ?_
   refine R.s O (s.aT cu [3] _ _ _ O O O pV O O (fun w own hw H=>fF aZ r.Notes w own H ae) O) fun z2=>U ?_
   refine R.q (q.aL (r:=((sJ+1:Nat):Int)) O O) O<|R.s O (s.aT dQ [] _ _ _ O O O NZ O O (fun w own hw H=>rF z2 r.Notes sJ (sJ+1) w own H ae) O) fun z3=>U ?_
   refine R.s O (s.dE 7 _ O O O (fun w hw=>Sl.bF (hw.row 0 O)) (.inr ⟨cQ,rfl⟩) (fun w hw=>(aJ (Sl.one (hw.row 0 O)) bq)) O O O) fun _=>U ?_
   refine R.eA (fuel:=7) EA O O mixed O<|D.l [0,1,2] EA bm O<|U ?_
   refine D.one (i:=3) O<|Do.s (s.dE 5 _ O O O (fun _ _=>rfl) (.inl ak) (fun w hw=>(dx (hw.bz 0 O) (hw.bz 1 O) (hw.row 1 O) (hw.row 0 O) O O)) O O O) (fun _=>(aN EA bm O)) O fun _=>?_
   refine D.one (i:=4) O<|Do.s (s.st 4 _ O O O O (.inl cj) O O O O) (fun _=>(aN EA bm O)) O fun _=>?_
   refine D.l [5,6] EA bm O<|U ?_
   refine D.done<|R.mp (fun _ hw=>hw.bu 1 _ O O)<|R.mp (fun _ hw=>hw.bu 0 _ O O) ?_
   have hz:cM r p=((⟨r.ao,r.Things,eW r.Held (⟨p.ay,gq r.Held p.ay⟩:Place) Ha.ap,r.Notes.take sJ++r.Notes.drop (sJ+1),r.ag,r.ah⟩:av),Ha,gq r.Held p.ay,0):=by (unfold cM;(rw [if_pos af,fS,Int.toNat_natCast,kv,decide_eq_true ae];dsimp only;(repeat' split) <;> rfl))
   rw [hz]
   exact R.w4 (a8,aW,z1,z3) [6] [2,3,1,0] O Tryz.results104 (RV.cell 3 O O ak) (RV.cell 2 O O cj) (RV.tmp O) (RV.tmp O) O O O (ug O O O (iT O))
  refine U ?_
  refine R.s O (s.aT kj [3] _ _ _ O O O pV O O (fun w own hw H=>fF aZ r.Notes w own H ae) O) fun z4=>U ?_
  refine R.q (q.aL (r:=((sJ+1:Nat):Int)) O O) O<|R.s O (s.aT cu [] _ _ _ O O O NZ O O (fun w own hw H=>rF z4 r.Notes sJ (sJ+1) w own H ae) O) fun z5=>U ?_
  refine R.s O (s.dE 6 _ O O O (fun w hw=>Sl.bF (hw.row 0 O)) (.inr ⟨cQ,rfl⟩) (fun w hw=>(aJ (Sl.one (hw.row 0 O)) bq)) O O O) fun _=>U ?_
  refine R.eA (fuel:=7) EB O O mixed O<|D.l [0,1,2] EB bm O<|U ?_
  refine D.one (i:=3) O<|Do.s (s.dE 4 _ O O O (fun _ _=>rfl) (.inl ak) (fun w hw=>(dx (hw.bz 0 O) (hw.bz 1 O) (hw.bz 2 O) (hw.row 0 O) O O)) O O O) (fun _=>(aN EB bm O)) O fun _=>?_
  refine D.one (i:=4) O<|Do.s (s.st 3 _ O O O O (.inl cj) O O O O) (fun _=>(aN EB bm O)) O fun _=>?_
  refine D.l [5,6] EB bm O<|U ?_
  refine D.done<|R.mp (fun _ hw=>hw.bu 0 _ O O) ?_
  have hz:cM r p=((⟨r.ao,r.Things,r.Held,r.Notes.take sJ++r.Notes.drop (sJ+1),r.ag,r.ah⟩:av),Ha,-1,0):=by (unfold cM;(rw [if_pos af,fS,Int.toNat_natCast,kv,decide_eq_true ae];dsimp only;(repeat' split) <;> first|rfl|(exfalso;omega)))
  rw [hz]
  exact R.w4 (a8,aW,aX,z5) [6] yl O Tryz.results104 (RV.cell 3 O O ak) (RV.cell 2 O O cj) (RV.tmp O) (RV.tmp O) O O O (ug O O O (iT O))
 refine U ?_
 refine R.s O (s.st 2 _ O O O O (.inl ak) O O O O) fun _=>?_
 refine R.s O (s.st 1 _ O O O O (.inl cj) O O O O) fun _=>U ?_
 refine R.iY ap aA Held Note ?_
 have hz:cM r p=((⟨[],[],[],[],0,0⟩:av),(⟨0,⟨#[]⟩,0,0⟩:Note),0,(bQ r p 2 1).2.2):=by (unfold cM;(rw [if_neg af];rfl))
 rw [hz]
 exact R.w4 ((nS),nS,nS,(nS)) [5] dh O Tryz.results104 (RV.cell 2 O O ak) (RV.cell 1 O O cj) (RV.tmp O) (RV.tmp O) O O O (ug O O O O)
end Go.Proofs.YtnmpibjlnninjaaGreatDoor
