import Derived.Test.YtnmpibjlnninjaaGreatDoorKT22
namespace Go.Proofs.YtnmpibjlnninjaaGreatDoor
set_option linter.unusedVariables false
set_option linter.unusedSimpArgs false
set_option maxRecDepth 100000
set_option maxHeartbeats 90000000
open Go Go.RowKit
attribute [local irreducible] Run Rg Rq Qt Qa Stp Dg Do Dm bN
theorem JZ (aW aS aT aU:Value)(r:aA)(p:Place)(kind:Int)(w:World)(own:List Nat)(H:HN w own [] [ah.ls aW r.aj,ah.ls aS r.Things,ah.ls aT r.Held,ah.ls aU r.Notes])(hk:Ok r):RS Tryz.prog 97 #[.agg #[aW,aS,aT,aU,iV r.ag,iV r.ai],.agg #[iV p.aB,iV p.Slot],iV kind] H (cQ r p kind) (fun s (z:Value×Value×Value×Value) => .tuple #[.agg #[z.1,z.2.1,z.2.2.1,z.2.2.2,iV s.1.ag,iV s.1.ai],bN s.2]) (fun _ _=>[]) (fun s z=>[ah.ls z.1 s.1.aj,ah.ls z.2.1 s.1.Things,ah.ls z.2.2.1 s.1.Held,ah.ls z.2.2.2 s.1.Notes]):=by
 have bS:=H.aZ 0 rfl
 have bH:=H.aZ 1 rfl
 have cu:=H.aZ 2 rfl
 have bT:=H.aZ 3 rfl
 have bw:=hk.wl;have bt:=hk.tl;have bh:=hk.hl;have bn:=hk.nl;have wN:=hk.w0;have wO:=hk.w1;have wP:=hk.t0;have wQ:=hk.t1
 refine R.eN H ?_
 refine R.nb fun b1=>?_
 refine R.nb fun b2=>?_
 refine R.nb fun b3=>?_
 refine C (kind=1) ?_ ?_ <;> intro h1
 .
  refine R.kc O O (fun w hw=>rh _ _ _ _ r p w (hw.cq 0 O) (hw.cq 1 O) (hw.cq 2 O) (hw.cq 3 O) af)<|U ?_
  refine C (eG r p=0) ?_ ?_ <;> intro h2
  .
   refine C (r.Things.length=10) ?_ ?_ <;> intro h3
   .
    refine R.g9 ak av Held Note ?_
    rw [show cQ r p kind=_ from by unfold cQ;exact iE]
    exact R.x2 (nS,nS,nS,nS) [3] [3,2,1,0]
   refine C (999<r.ai) ?_ ?_ <;> intro h4
   .
    refine R.g9 ak av Held Note ?_
    rw [show cQ r p kind=_ from by unfold cQ;exact iE]
    exact R.x2 (nS,nS,nS,nS) [3] [3,2,1,0]
   refine C (999<r.ag) ?_ ?_ <;> intro h5
   .
    refine R.g9 ak av Held Note ?_
    rw [show cQ r p kind=_ from by unfold cQ;exact iE]
    exact R.x2 (nS,nS,nS,nS) [3] [3,2,1,0]
   refine R.s O (s.aJ aX [1] _ _ _ O O O yu O O (fun w own hw H=>iC aS r.Things w own H ae) O) fun z1=>U ?_
   refine R.s O (s.bs (l:=([(⟨r.ai,kind,⟨#[]⟩⟩:av)]:List av)) kv gT O O O O O O O) fun b4=>?_
   refine R.ap fun v1=>?_
   refine R.s O (s.pre (fun _ hw=>hw.aR 1 _ O O) (s.aJ ct [1,0,3,4] _ _ _ O O O yw O O (fun w own hw H=>qx aW v1 aT aU (⟨r.aj,r.Things++([(⟨r.ai,kind,⟨#[]⟩⟩:av)]),r.Held,r.Notes,r.ag,r.ai+1⟩:aA) (⟨r.ag,r.ai,7,0,0⟩:ak) p w own H aG) O)) ?_
   rintro ⟨z2,z3,z4,z5⟩
   dsimp only
   refine U ?_
   rw [show cQ r p kind=_ from by unfold cQ;exact iE]
   exact R.x2 (z2,z3,z4,z5) [4] [0,1,2,3]
  refine R.g9 ak av Held Note ?_
  rw [show cQ r p kind=_ from by unfold cQ;exact iE]
  exact R.x2 (nS,nS,nS,nS) [3] [3,2,1,0]
 refine C (kind=2) ?_ ?_ <;> intro h6
 .
  refine R.kc O O (fun w hw=>rh _ _ _ _ r p w (hw.cq 0 O) (hw.cq 1 O) (hw.cq 2 O) (hw.cq 3 O) af)<|U ?_
  refine C (eG r p=0) ?_ ?_ <;> intro h7
  .
   refine C (r.Things.length=10) ?_ ?_ <;> intro h8
   .
    refine R.g9 ak av Held Note ?_
    rw [show cQ r p kind=_ from by unfold cQ;exact iE]
    exact R.x2 (nS,nS,nS,nS) [3] [3,2,1,0]
   refine C (999<r.ai) ?_ ?_ <;> intro h9
   .
    refine R.g9 ak av Held Note ?_
    rw [show cQ r p kind=_ from by unfold cQ;exact iE]
    exact R.x2 (nS,nS,nS,nS) [3] [3,2,1,0]
   refine C (999<r.ag) ?_ ?_ <;> intro h10
   .
    refine R.g9 ak av Held Note ?_
    rw [show cQ r p kind=_ from by unfold cQ;exact iE]
    exact R.x2 (nS,nS,nS,nS) [3] [3,2,1,0]
   refine R.s O (s.aJ aX [1] _ _ _ O O O yu O O (fun w own hw H=>iC aS r.Things w own H ae) O) fun z6=>U ?_
   refine R.s O (s.bs (l:=([(⟨r.ai,kind,⟨#[]⟩⟩:av)]:List av)) kv gT O O O O O O O) fun b5=>?_
   refine R.ap fun v2=>?_
   refine R.s O (s.pre (fun _ hw=>hw.aR 1 _ O O) (s.aJ ct [1,0,3,4] _ _ _ O O O yw O O (fun w own hw H=>qx aW v2 aT aU (⟨r.aj,r.Things++([(⟨r.ai,kind,⟨#[]⟩⟩:av)]),r.Held,r.Notes,r.ag,r.ai+1⟩:aA) (⟨r.ag,r.ai,7,0,0⟩:ak) p w own H aG) O)) ?_
   rintro ⟨z7,z8,z9,lu⟩
   dsimp only
   refine U ?_
   rw [show cQ r p kind=_ from by unfold cQ;exact iE]
   exact R.x2 (z7,z8,z9,lu) [4] [0,1,2,3]
  refine R.g9 ak av Held Note ?_
  rw [show cQ r p kind=_ from by unfold cQ;exact iE]
  exact R.x2 (nS,nS,nS,nS) [3] [3,2,1,0]
 refine R.g9 ak av Held Note ?_
 rw [show cQ r p kind=_ from by unfold cQ;exact iE]
 exact R.x2 (nS,nS,nS,nS) [3] [3,2,1,0]
theorem J0 (aW aS aT aU:Value)(r:aA)(p:Place)(t:Place)(rights:Int)(cB:Int)(w:World)(own:List Nat)(H:HN w own [] [ah.ls aW r.aj,ah.ls aS r.Things,ah.ls aT r.Held,ah.ls aU r.Notes])(hk:Ok r):RS Tryz.prog 98 #[.agg #[aW,aS,aT,aU,iV r.ag,iV r.ai],.agg #[iV p.aB,iV p.Slot],.agg #[iV t.aB,iV t.Slot],iV rights,iV cB] H (dA r p t rights cB) (fun s (z:Value×Value×Value×Value) => .tuple #[.agg #[z.1,z.2.1,z.2.2.1,z.2.2.2,iV s.1.ag,iV s.1.ai],bN s.2]) (fun _ _=>[]) (fun s z=>[ah.ls z.1 s.1.aj,ah.ls z.2.1 s.1.Things,ah.ls z.2.2.1 s.1.Held,ah.ls z.2.2.2 s.1.Notes]):=by
 have bS:=H.aZ 0 rfl
 have bH:=H.aZ 1 rfl
 have cu:=H.aZ 2 rfl
 have bT:=H.aZ 3 rfl
 have bw:=hk.wl;have bt:=hk.tl;have bh:=hk.hl;have bn:=hk.nl;have wN:=hk.w0;have wO:=hk.w1;have wP:=hk.t0;have wQ:=hk.t1
 refine R.eN H ?_
 refine R.nb fun b1=>?_
 refine R.nb fun b2=>?_
 refine R.nb fun b3=>?_
 refine R.nb fun b4=>?_
 refine R.kc O O (fun w hw=>ra _ _ _ _ r p w (hw.cq 0 O) (hw.cq 1 O) (hw.cq 2 O) (hw.cq 3 O) af)<|U ?_
 refine R.nb fun b5=>?_
 refine C ((aL r p).2=0) ?_ ?_ <;> intro h1
 .
  have Yj:=hk.get h1
  refine U ?_
  refine R.kc O O (fun w hw=>rh _ _ _ _ r t w (hw.cq 0 O) (hw.cq 1 O) (hw.cq 2 O) (hw.cq 3 O) af)<|U ?_
  refine C (eG r t=0) ?_ ?_ <;> intro h2
  .
   refine C (p.aB=t.aB) ?_ ?_ <;> intro h3
   .
    refine C (999<r.ag) ?_ ?_ <;> intro h4
    .
     refine R.g9 ak av Held Note ?_
     rw [show dA r p t rights cB=_ from by unfold dA;exact iE]
     exact R.x2 (nS,nS,nS,nS) [5] [3,2,1,0]
    refine R.kc O O (fun w hw=>mo (aL r p).1 r.ag rights cB w ae)<|U ?_
    refine R.nb fun b6=>?_
    refine C ((derived (aL r p).1 r.ag rights cB).2=0) ?_ ?_ <;> intro h5
    .
     refine R.s O (s.aJ jF aX _ _ _ O O O yw O O (fun w own hw H=>qx aW aS aT aU r (derived (aL r p).1 r.ag rights cB).1 t w own H ae) O) ?_
     rintro ⟨z1,z2,z3,z4⟩
     dsimp only
     refine U ?_
     rw [show dA r p t rights cB=_ from by unfold dA;exact iE]
     exact R.x2 (z1,z2,z3,z4) [6] [0,1,2,3]
    refine R.g9 ak av Held Note ?_
    rw [show dA r p t rights cB=_ from by unfold dA;exact iE]
    exact R.x2 (nS,nS,nS,nS) [6] [3,2,1,0]
   rcases Bool.eq_false_or_eq_true (gj (aL r p).1.Rights 4) with h6|h6
   .
    refine R.kc O O (fun w hw=>cv (congrArg Value.bool h6) (fP (aL r p).1.Rights 4 w ae ae))<|U ?_
    refine C (999<r.ag) ?_ ?_ <;> intro h7
    .
     refine R.g9 ak av Held Note ?_
     rw [show dA r p t rights cB=_ from by unfold dA;exact iE]
     exact R.x2 (nS,nS,nS,nS) [5] [3,2,1,0]
    refine R.kc O O (fun w hw=>mo (aL r p).1 r.ag rights cB w ae)<|U ?_
    refine R.nb fun b7=>?_
    refine C ((derived (aL r p).1 r.ag rights cB).2=0) ?_ ?_ <;> intro h8
    .
     refine R.s O (s.aJ jF aX _ _ _ O O O yw O O (fun w own hw H=>qx aW aS aT aU r (derived (aL r p).1 r.ag rights cB).1 t w own H ae) O) ?_
     rintro ⟨z5,z6,z7,z8⟩
     dsimp only
     refine U ?_
     rw [show dA r p t rights cB=_ from by unfold dA;exact iE]
     exact R.x2 (z5,z6,z7,z8) [6] [0,1,2,3]
    refine R.g9 ak av Held Note ?_
    rw [show dA r p t rights cB=_ from by unfold dA;exact iE]
    exact R.x2 (nS,nS,nS,nS) [6] [3,2,1,0]
   refine R.kc O O (fun w hw=>cv (congrArg Value.bool h6) (fP (aL r p).1.Rights 4 w ae ae))<|U ?_
   refine R.g9 ak av Held Note ?_
   have hz:dA r p t rights cB=((⟨[],[],[],[],0,0⟩:aA),7):=by (unfold dA;(repeat' split) <;> first|rfl|(exfalso;omega)|(simp_all;done))
   rw [hz]
   exact R.x2 (nS,nS,nS,nS) [5] [3,2,1,0]
  refine R.g9 ak av Held Note ?_
  rw [show dA r p t rights cB=_ from by unfold dA;exact iE]
  exact R.x2 (nS,nS,nS,nS) [5] [3,2,1,0]
 refine R.g9 ak av Held Note ?_
 rw [show dA r p t rights cB=_ from by unfold dA;exact iE]
 exact R.x2 (nS,nS,nS,nS) [5] [3,2,1,0]
theorem J1 (aW aS aT aU:Value)(r:aA)(p:Place)(slot:Int)(w:World)(own:List Nat)(H:HN w own [] [ah.ls aW r.aj,ah.ls aS r.Things,ah.ls aT r.Held,ah.ls aU r.Notes])(hk:Ok r):RS Tryz.prog 99 #[.agg #[aW,aS,aT,aU,iV r.ag,iV r.ai],.agg #[iV p.aB,iV p.Slot],iV slot] H (iK r p slot) (fun s (z:Value×Value×Value×Value) => .tuple #[.agg #[z.1,z.2.1,z.2.2.1,z.2.2.2,iV s.1.ag,iV s.1.ai],bN s.2]) (fun _ _=>[]) (fun s z=>[ah.ls z.1 s.1.aj,ah.ls z.2.1 s.1.Things,ah.ls z.2.2.1 s.1.Held,ah.ls z.2.2.2 s.1.Notes]):=by
 have bS:=H.aZ 0 rfl
 have bH:=H.aZ 1 rfl
 have cu:=H.aZ 2 rfl
 have bT:=H.aZ 3 rfl
 have bw:=hk.wl;have bt:=hk.tl;have bh:=hk.hl;have bn:=hk.nl;have wN:=hk.w0;have wO:=hk.w1;have wP:=hk.t0;have wQ:=hk.t1
 have bp:=lZ r.Held p 0
 refine R.eN H ?_
 refine R.nb fun b1=>?_
 refine R.nb fun b2=>?_
 refine R.nb fun b3=>?_
 refine R.kc O O (fun w hw=>ra _ _ _ _ r p w (hw.cq 0 O) (hw.cq 1 O) (hw.cq 2 O) (hw.cq 3 O) af)<|U ?_
 refine R.nb fun b4=>?_
 refine C ((aL r p).2=0) ?_ ?_ <;> intro h1
 .
  refine R.nb fun b5=>?_
  refine R.kc O O (fun w hw=>rh _ _ _ _ r (⟨p.aB,slot⟩:Place) w (hw.cq 0 O) (hw.cq 1 O) (hw.cq 2 O) (hw.cq 3 O) af)<|U ?_
  refine C (eG r (⟨p.aB,slot⟩:Place)=0) ?_ ?_ <;> intro h2
  .
   refine R.dC (fuel:=10) rD O O mixed O<|D.l [0,2,4,5,6] rD aX O<|U ?_
   refine D.k 1 O rD aX (q.ld 4 O O hX O) ?_
   refine D.p 3 O sK aX (s.aJ mH [2] _ _ _ O O O uK O O (fun w own hw H=>qU aT r.Held p 0 w own H ae) O) fun z3=>?_
   refine D.p 7 O sK [1,2,3,4] (s.pre (fun _ hw=>hw.aR 0 _ O O) (s.aJ mH [0] _ _ _ O O O uK O O (fun w own hw H=>qU z3 (eY r.Held p 0) (⟨p.aB,slot⟩:Place) (aL r p).1.ID w own H ae) O)) fun z4=>?_
   refine D.l [8] sK [1,2,3,4] O<|U ?_
   refine D.p 9 O sK [1,2,3,4] (s.lr 5 _ O O O (fun w hw=>Sl.cL (hw.row 0 O)) (.inr ⟨hX,rfl⟩) (fun w hw=>br (Sl.one (hw.row 0 O)) bV) O O O) fun _=>?_
   refine D.done<|U ?_
   refine R.mp (fun _ hw=>hw.aR 0 _ O O) ?_
   rw [show iK r p slot=_ from by unfold iK;exact iE]
   exact R.x2 (aW,aS,z4,aU) [5] [2,3,0,5]
  refine R.g9 ak av Held Note ?_
  rw [show iK r p slot=_ from by unfold iK;exact iE]
  exact R.x2 (nS,nS,nS,nS) [5] [3,2,1,0]
 refine R.g9 ak av Held Note ?_
 rw [show iK r p slot=_ from by unfold iK;exact iE]
 exact R.x2 (nS,nS,nS,nS) [4] [3,2,1,0]
theorem J2 (aW aS aT aU:Value)(r:aA)(p:Place)(w:World)(own:List Nat)(H:HN w own [] [ah.ls aW r.aj,ah.ls aS r.Things,ah.ls aT r.Held,ah.ls aU r.Notes])(hk:Ok r):RS Tryz.prog 100 #[.agg #[aW,aS,aT,aU,iV r.ag,iV r.ai],.agg #[iV p.aB,iV p.Slot]] H (j5 r p) (fun s (z:Value×Value×Value×Value) => .tuple #[.agg #[z.1,z.2.1,z.2.2.1,z.2.2.2,iV s.1.ag,iV s.1.ai],bN s.2]) (fun _ _=>[]) (fun s z=>[ah.ls z.1 s.1.aj,ah.ls z.2.1 s.1.Things,ah.ls z.2.2.1 s.1.Held,ah.ls z.2.2.2 s.1.Notes]):=by
 have bS:=H.aZ 0 rfl
 have bH:=H.aZ 1 rfl
 have cu:=H.aZ 2 rfl
 have bT:=H.aZ 3 rfl
 have bw:=hk.wl;have bt:=hk.tl;have bh:=hk.hl;have bn:=hk.nl;have wN:=hk.w0;have wO:=hk.w1;have wP:=hk.t0;have wQ:=hk.t1
 have hkd:=hk.wo (aL r p).1.ID
 refine R.eN H ?_
 refine R.nb fun b1=>?_
 refine R.nb fun b2=>?_
 refine R.nb fun b3=>?_
 refine R.kc O O (fun w hw=>ra _ _ _ _ r p w (hw.cq 0 O) (hw.cq 1 O) (hw.cq 2 O) (hw.cq 3 O) af)<|U ?_
 refine R.nb fun b4=>?_
 refine C ((aL r p).2=0) ?_ ?_ <;> intro h1
 .
  refine R.s O (s.nE Gp O O (fun w hw=>qv _ r.aj (aL r p).1.ID w (hw.cq 0 O) ae) O) fun v1=>U ?_
  refine R.s O (s.pre (fun _ hw=>hw.aR 0 _ O O) (s.aJ ct [0,2,3,4] _ _ _ O O O Gq O O (fun w own hw H=>sD v1 aS aT aU (⟨without r.aj (aL r p).1.ID,r.Things,r.Held,r.Notes,r.ag,r.ai⟩:aA) w own H af) O)) ?_
  rintro ⟨z1,z2,z3,z4⟩
  dsimp only
  refine U ?_
  rw [show j5 r p=_ from by unfold j5;exact iE]
  exact R.x2 (z1,z2,z3,z4) [4] [0,1,2,3]
 refine R.g9 ak av Held Note ?_
 rw [show j5 r p=_ from by unfold j5;exact iE]
 exact R.x2 (nS,nS,nS,nS) [4] [3,2,1,0]
theorem Fh (aW aS aT aU:Value)(r:aA)(p:Place)(w:World)(own:List Nat)(H:HN w own [] [ah.ls aW r.aj,ah.ls aS r.Things,ah.ls aT r.Held,ah.ls aU r.Notes])(hk:Ok r):RS Tryz.prog 101 #[.agg #[aW,aS,aT,aU,iV r.ag,iV r.ai],.agg #[iV p.aB,iV p.Slot]] H (fA r p) (fun s (z:Value×Value×Value×Value) => .tuple #[.agg #[z.1,z.2.1,z.2.2.1,z.2.2.2,iV s.1.ag,iV s.1.ai],bN s.2]) (fun _ _=>[]) (fun s z=>[ah.ls z.1 s.1.aj,ah.ls z.2.1 s.1.Things,ah.ls z.2.2.1 s.1.Held,ah.ls z.2.2.2 s.1.Notes]):=by
 have bS:=H.aZ 0 rfl
 have bH:=H.aZ 1 rfl
 have cu:=H.aZ 2 rfl
 have bT:=H.aZ 3 rfl
 have bw:=hk.wl;have bt:=hk.tl;have bh:=hk.hl;have bn:=hk.nl;have wN:=hk.w0;have wO:=hk.w1;have wP:=hk.t0;have wQ:=hk.t1
 have hkd:Ok (⟨r.aj.filter (fun x => !(fun (x:ak)=>decide (x.ID∈(im (aL r p).1.ID r.aj))) x),r.Things,r.Held,r.Notes,r.ag,r.ai⟩:aA):=hk.cut (aL r p).1.ID
 refine R.eN H ?_
 refine R.nb fun b1=>?_
 refine R.nb fun b2=>?_
 refine R.nb fun b3=>?_
 refine R.kc O O (fun w hw=>ra _ _ _ _ r p w (hw.cq 0 O) (hw.cq 1 O) (hw.cq 2 O) (hw.cq 3 O) af)<|U ?_
 refine R.nb fun b4=>?_
 refine C ((aL r p).2=0) ?_ ?_ <;> intro h1
 .
  refine R.s O (s.nE R1 O O (fun w hw=>CL _ r.aj (aL r p).1.ID w (hw.cq 0 O) ae) O) fun v1=>?_
  refine R.nb fun b5=>?_
  refine R.s O (s.aJ jF [0] _ _ _ O O O yt O O (fun w own hw H=>iZ aW r.aj w own H ae) O) fun z1=>?_
  refine R.q (q.NA (cap:=[pV b5]) O O) O<|R.s O (s.aJ bL [] _ _ _ O O O R2 O O (fun w own hw H=>wk z1 r.aj (fun (x:ak)=>decide (x.ID∈(im (aL r p).1.ID r.aj))) _ _ R3 w own H (fun W x hU=>zU x _ (im (aL r p).1.ID r.aj) _ W (hw.xe 1 0 O O aD hU) (Own.sl (hw.xe 2 0 O O aD hU))) ae) O) fun z2=>U ?_
  refine R.s O (s.pre (fun _ hw=>hw.aR 0 _ O O) (s.aJ jF [0,2,3,4] _ _ _ O O O Gq O O (fun w own hw H=>by have Sp:=sD z2 aS aT aU (⟨r.aj.filter (fun x => !(fun (x:ak)=>decide (x.ID∈(im (aL r p).1.ID r.aj))) x),r.Things,r.Held,r.Notes,r.ag,r.ai⟩:aA) w own H af;exact Sp) O)) ?_
  rintro ⟨z3,z4,z5,z6⟩
  dsimp only
  refine U ?_
  rw [show fA r p=_ from by unfold fA;exact iE]
  exact R.x2 (z3,z4,z5,z6) [6] [0,1,2,3]
 refine R.g9 ak av Held Note ?_
 rw [show fA r p=_ from by unfold fA;exact iE]
 exact R.x2 (nS,nS,nS,nS) [4] [3,2,1,0]
theorem zf (aW aS aT aU:Value)(r:aA)(p:Place)(kind:Int)(rights:Int)(w:World)(pG:Sl w aW r.aj)(zR:Sl w aS r.Things)(tY:Sl w aT r.Held)(Fg:Sl w aU r.Notes)(hk:Ok r)(hr:0<=rights/\rights<=7):Calls Tryz.prog 166 #[.agg #[aW,aS,aT,aU,iV r.ag,iV r.ai],.agg #[iV p.aB,iV p.Slot],iV kind,iV rights] w fun e w'=>e = .returned (.tuple #[ak.val (bJ r p kind rights).1,iV (bJ r p kind rights).2.1,bN (bJ r p kind rights).2.2])/\Ext w w':=by
 have bw:=hk.wl;have bt:=hk.tl;have bh:=hk.hl;have bn:=hk.nl;have wN:=hk.w0;have wO:=hk.w1;have wP:=hk.t0;have wQ:=hk.t1
 refine R.eV ?_
 refine R.nb fun b1=>?_
 refine R.nb fun b2=>?_
 refine R.nb fun b3=>?_
 refine R.kc O O (fun w hw=>ra _ _ _ _ r p w ((fun _=>Wd.old pG) w hw) ((fun _=>Wd.old zR) w hw) ((fun _=>Wd.old tY) w hw) ((fun _=>Wd.old Fg) w hw) af)<|U ?_
 refine R.nb fun b4=>?_
 refine C ((aL r p).2=0) ?_ ?_ <;> intro h1
 .
  have Yj:=hk.get h1
  refine U ?_
  refine R.q (q.NA (cap:=[pV b4]) O O) O ?_
  rcases jz (fun (t:av)=>t.ID==(aL r p).1.av) r.Things with ⟨eW,CK⟩ | ⟨vQ,Gu,eW,lz,ub,Cx,Wn⟩
  .
   refine R.kc O O (fun w hw=>cv (congrArg (Value.int .i64) eW) (gD _ r.Things (fun (t:av)=>t.ID==(aL r p).1.av) _ _ Mp w ((fun _=>Wd.old zR) w hw) (fun W t hW=>zd t (aL r p).1 _ W (sW (hw.b 0 O) hW))))<|U ?_
   exact R.NC O Tryz.results166 (RV.cell 1 O O bM) (RV.tmp O) (RV.tmp O) (congrArg ak.val (show (⟨0,0,0,0,0⟩:ak)=(bJ r p kind rights).1 from by (rw [kg af CK];rfl))) (rI (by rw [kg af CK];done)) (pD aD (by rw [kg af CK];done))
  refine R.kc O O (fun w hw=>cv (congrArg (Value.int .i64) eW) (gD _ r.Things (fun (t:av)=>t.ID==(aL r p).1.av) _ _ Mp w ((fun _=>Wd.old zR) w hw) (fun W t hW=>zd t (aL r p).1 _ W (sW (hw.b 0 O) hW))))<|U ?_
  refine C (Gu.Kind=kind) ?_ ?_ <;> intro h2
  .
   rcases Bool.eq_false_or_eq_true (gj (aL r p).1.Rights rights) with h3|h3
   .
    refine R.kc O O (fun w hw=>cv (congrArg Value.bool h3) (fP (aL r p).1.Rights rights w ae ae))<|U ?_
    exact R.NC O Tryz.results166 (RV.cell 1 O O bM) (RV.tmp O) (RV.tmp O) (congrArg ak.val (show (aL r p).1=(bJ r p kind rights).1 from by (rw [oB af lz ub Cx af af];done))) (rI (by rw [oB af lz ub Cx af af];done)) (uh (by rw [oB af lz ub Cx af af];done))
   refine R.kc O O (fun w hw=>cv (congrArg Value.bool h3) (fP (aL r p).1.Rights rights w ae ae))<|U ?_
   exact R.NC O Tryz.results166 (RV.cell 1 O O bM) (RV.tmp O) (RV.tmp O) (congrArg ak.val (show (⟨0,0,0,0,0⟩:ak)=(bJ r p kind rights).1 from by (rw [jj af lz ub Cx af af];rfl))) (rI (by rw [jj af lz ub Cx af af];done)) (pD aD (by rw [jj af lz ub Cx af af];done))
  exact R.NC O Tryz.results166 (RV.cell 1 O O bM) (RV.tmp O) (RV.tmp O) (congrArg ak.val (show (⟨0,0,0,0,0⟩:ak)=(bJ r p kind rights).1 from by (rw [ki af lz ub Cx af];rfl))) (rI (by rw [ki af lz ub Cx af];done)) (pD aD (by rw [ki af lz ub Cx af];done))
 exact R.NC O Tryz.results166 (RV.cell 1 O O bM) (RV.tmp O) (RV.tmp O) (congrArg ak.val (show (⟨0,0,0,0,0⟩:ak)=(bJ r p kind rights).1 from by (rw [l7 af];rfl))) (rI (by rw [l7 af];done)) (rE (by rw [l7 af];done))
theorem GX (aW aS aT aU:Value)(r:aA)(p:Place)(d:ByteArray)(w:World)(own:List Nat)(H:HN w own [] [ah.ls aW r.aj,ah.ls aS r.Things,ah.ls aT r.Held,ah.ls aU r.Notes])(hk:Ok r):RS Tryz.prog 102 #[.agg #[aW,aS,aT,aU,iV r.ag,iV r.ai],.agg #[iV p.aB,iV p.Slot],.string d] H (fD r p d) (fun s (z:Value×Value×Value×Value) => .tuple #[.agg #[z.1,z.2.1,z.2.2.1,z.2.2.2,iV s.1.ag,iV s.1.ai],bN s.2]) (fun _ _=>[]) (fun s z=>[ah.ls z.1 s.1.aj,ah.ls z.2.1 s.1.Things,ah.ls z.2.2.1 s.1.Held,ah.ls z.2.2.2 s.1.Notes]):=by
 have bS:=H.aZ 0 rfl
 have bH:=H.aZ 1 rfl
 have cu:=H.aZ 2 rfl
 have bT:=H.aZ 3 rfl
 have bw:=hk.wl;have bt:=hk.tl;have bh:=hk.hl;have bn:=hk.nl;have wN:=hk.w0;have wO:=hk.w1;have wP:=hk.t0;have wQ:=hk.t1
 refine R.eN H ?_
 refine R.nb fun b1=>?_
 refine R.nb fun b2=>?_
 refine R.nb fun b3=>?_
 refine R.kc O O (fun w hw=>zf _ _ _ _ r p 1 2 w (hw.cq 0 O) (hw.cq 1 O) (hw.cq 2 O) (hw.cq 3 O) af ae)<|U ?_
 refine R.nb fun b4=>?_
 refine C ((bJ r p 1 2).2.2=0) ?_ ?_ <;> intro h1
 .
  obtain ⟨m1,m2,m3,i,ix,ik,ih,ii,id,ib⟩:=kj h1;have iB:=(List.getElem?_eq_some_iff.1 ih).1
  refine U ?_
  refine C (8<d.size) ?_ ?_ <;> intro h2
  .
   refine R.g9 ak av Held Note ?_
   rw [show fD r p d=_ from by unfold fD fB;exact iE]
   exact R.x2 (nS,nS,nS,nS) [4] [3,2,1,0]
  refine R.s O (s.aJ ct [1] _ _ _ O O O yu O O (fun w own hw H=>iC aS r.Things w own H ae) O) fun z1=>U ?_
  obtain ⟨x1,hx1⟩:=gE r.Things ((bJ r p 1 2).2.1.toNat)
  refine R.q (q.idx (i:=(bJ r p 1 2).2.1.toNat) (cm 0 O) O O kv ae hx1) O<|U ?_
  refine R.s O (s.stP (o:=2) (z:=(⟨x1.ID,x1.Kind,d⟩:av)) 0 _ O hx1 O O O O O (by simp [Value.oneCell']) (.inr ⟨Ck,rfl⟩) O) fun _=>U ?_
  refine R.mp (fun _ hw=>hw.aR 0 _ O O) ?_
  have hz:fD r p d=((⟨r.aj,r.Things.set (bJ r p 1 2).2.1.toNat (⟨x1.ID,x1.Kind,d⟩:av),r.Held,r.Notes,r.ag,r.ai⟩:aA),0):=by (unfold fD fB;(repeat' split) <;> first|rfl|(exfalso;omega)|(simp_all;done))
  rw [hz]
  exact R.x2 (aW,z1,aT,aU) [4] [1,0,3,4]
 refine R.g9 ak av Held Note ?_
 rw [show fD r p d=_ from by unfold fD fB;exact iE]
 exact R.x2 (nS,nS,nS,nS) [4] [3,2,1,0]
theorem J3 (aW aS aT aU:Value)(r:aA)(p:Place)(d:ByteArray)(slot:Int)(rights:Int)(w:World)(own:List Nat)(H:HN w own [] [ah.ls aW r.aj,ah.ls aS r.Things,ah.ls aT r.Held,ah.ls aU r.Notes])(hk:Ok r):RS Tryz.prog 103 #[.agg #[aW,aS,aT,aU,iV r.ag,iV r.ai],.agg #[iV p.aB,iV p.Slot],.string d,iV slot,iV rights] H (cW r p d slot rights) (fun s (z:Value×Value×Value×Value) => .tuple #[.agg #[z.1,z.2.1,z.2.2.1,z.2.2.2,iV s.1.ag,iV s.1.ai],bN s.2]) (fun _ _=>[]) (fun s z=>[ah.ls z.1 s.1.aj,ah.ls z.2.1 s.1.Things,ah.ls z.2.2.1 s.1.Held,ah.ls z.2.2.2 s.1.Notes]):=by
 have bS:=H.aZ 0 rfl
 have bH:=H.aZ 1 rfl
 have cu:=H.aZ 2 rfl
 have bT:=H.aZ 3 rfl
 have bw:=hk.wl;have bt:=hk.tl;have bh:=hk.hl;have bn:=hk.nl;have wN:=hk.w0;have wO:=hk.w1;have wP:=hk.t0;have wQ:=hk.t1
 refine R.eN H ?_
 refine R.nb fun b1=>?_
 refine R.nb fun b2=>?_
 refine R.nb fun b3=>?_
 refine R.kc O O (fun w hw=>zf _ _ _ _ r p 2 2 w (hw.cq 0 O) (hw.cq 1 O) (hw.cq 2 O) (hw.cq 3 O) af ae)<|U ?_
 refine R.nb fun b4=>?_
 refine C ((bJ r p 2 2).2.2=0) ?_ ?_ <;> intro h1
 .
  have mz:=kj h1;have mr:=hk.get mz.1;rw [<- mz.2.1] at mr
  refine U ?_
  refine C (8<d.size) ?_ ?_ <;> intro h2
  .
   refine R.g9 ak av Held Note ?_
   rw [show cW r p d slot rights=_ from by unfold cW;exact iE]
   exact R.x2 (nS,nS,nS,nS) [4] [3,2,1,0]
  refine R.loop (fun g_:Nat×Nat=>[(2,.string d),(3,iV slot),(4,iV rights),(5,pV b1),(6,pV b2),(10,pV b3),(12,pV b4),(15,iV (g_.2:Int)),(39,aU),(40,iV (r.Notes.length:Int)),(41,iV (g_.1:Int))]) (fun g_=>[ah.box b4 [iV (bJ r p 2 2).1.ID,iV (bJ r p 2 2).1.av,iV (bJ r p 2 2).1.Rights,iV (bJ r p 2 2).1.aO,iV (bJ r p 2 2).1.From] 126,ah.box b3 sR 48,ah.box b2 (mN p) 32,ah.box b1 [aW,aS,aT,aU,iV r.ag,iV r.ai] 48,ah.held w own]) (fun g_=>[ah.ls aW r.aj,ah.ls aS r.Things,ah.ls aT r.Held,ah.ls aU r.Notes]) (fun g_=>g_.1<=r.Notes.length/\g_.2=fk (r.Notes.take g_.1) (bJ r p 2 2).1.av) (fun g_=>r.Notes.length-g_.1) (0,0) O (by exact ⟨ae,by simp [fk]⟩) (sF O) (dE ct aX O) ?_
  rintro ⟨k,c⟩ ⟨hk1,HC⟩
  dsimp only at *
  have hc1:c<=k:=by rw [HC];exact Hw
  refine U ?_
  refine C (k<r.Notes.length) ?_ ?_ <;> intro h3
  .
   obtain ⟨x1,hx1⟩:=gE r.Notes k
   refine U ?_
   refine R.nb fun b5=>?_
   refine C (x1.Port=(bJ r p 2 2).1.av) ?_ ?_ <;> intro h4
   .refine R.back ((k+1),(c+1)) O (by exact ⟨ae,by rw [DY hx1 af,HC]⟩) aG (sF O) (ck vk aX O)
   refine R.back ((k+1),c) O (by exact ⟨ae,by rw [Ah hx1 af,HC]⟩) aG (sF O) (ck vk aX O)
  refine C (c=3) ?_ ?_ <;> intro h5
  .
   refine R.g9 ak av Held Note ?_
   rw [show cW r p d slot rights=_ from by rewrite [List.take_of_length_le ae] at HC;subst HC;unfold cW;exact iE]
   exact R.x2 (nS,nS,nS,nS) [4] [3,2,1,0]
  refine R.nb fun b6=>?_
  refine C (slot<0) ?_ ?_ <;> intro h6
  .
   refine R.dC (fuel:=8) rD O O mixed O<|D.l [0,3] rD aX O<|U ?_
   refine D.two (i:=1) (j:=4) O O ?_ ?_
   .
    refine Do.k rD aX (q.ld 4 O O dh O) ?_
    refine D.two (i:=2) (j:=4) O O ?_ ?_
    .
     refine Do.p sK aX (s.aJ mH [3] _ _ _ O O O oT O O (fun w own hw H=>eJ aU r.Notes w own H ae) O) fun z2=>?_
     refine D.p 4 O po aX (s.bs (l:=([(⟨((bJ r p 2 2).1).av,d,(bJ r p 2 2).1.aO,0⟩:Note)]:List Note)) eO fy O O O O O O O) fun b7=>?_
     refine D.p 5 O po aX (s.app 1 _ O O O (cm 0 O) dO aE aE (fun _=>rfl) O) fun v1=>?_
     refine D.l [6] po aX O<|U ?_
     refine D.p 7 O po aX (s.lr 6 _ O O O (fun w hw=>Sl.cL (hw.row 1 O)) (.inr ⟨dh,rfl⟩) (fun w hw=>br (Sl.one (hw.row 1 O)) bV) O O O) fun _=>?_
     refine D.done<|U ?_
     refine R.mp (fun _ hw=>hw.aR 1 _ O O) ?_
     rw [show cW r p d slot rights=_ from by rewrite [List.take_of_length_le ae] at HC;subst HC;unfold cW;exact iE]
     exact R.x2 (aW,aS,aT,v1) [6] [1,2,3,0]
    refine Do.p sK aX (s.bs (l:=([(⟨((bJ r p 2 2).1).av,d,(bJ r p 2 2).1.aO,0⟩:Note)]:List Note)) eO fy O O O O O O O) fun b8=>?_
    refine D.p 2 O po aX (s.aJ jF [3] _ _ _ O O O oT O O (fun w own hw H=>eJ aU r.Notes w own H ae) O) fun z3=>?_
    refine D.p 5 O po aX (s.app 0 _ O O O (cm 1 O) dO aE aE (fun _=>rfl) O) fun v2=>?_
    refine D.l [6] po aX O<|U ?_
    refine D.p 7 O po aX (s.lr 6 _ O O O (fun w hw=>Sl.cL (hw.row 0 O)) (.inr ⟨dh,rfl⟩) (fun w hw=>br (Sl.one (hw.row 0 O)) bV) O O O) fun _=>?_
    refine D.done<|U ?_
    refine R.mp (fun _ hw=>hw.aR 0 _ O O) ?_
    rw [show cW r p d slot rights=_ from by rewrite [List.take_of_length_le ae] at HC;subst HC;unfold cW;exact iE]
    exact R.x2 (aW,aS,aT,v2) [6] [1,2,3,0]
   refine Do.p sK aX (s.bs (l:=([(⟨((bJ r p 2 2).1).av,d,(bJ r p 2 2).1.aO,0⟩:Note)]:List Note)) eO fy O O O O O O O) fun b9=>?_
   refine D.k 1 O sK aX (q.ld 5 O O dh O) ?_
   refine D.p 2 O po aX (s.aJ jF [3] _ _ _ O O O oT O O (fun w own hw H=>eJ aU r.Notes w own H ae) O) fun z4=>?_
   refine D.p 5 O po aX (s.app 0 _ O O O (cm 1 O) dO aE aE (fun _=>rfl) O) fun v3=>?_
   refine D.l [6] po aX O<|U ?_
   refine D.p 7 O po aX (s.lr 6 _ O O O (fun w hw=>Sl.cL (hw.row 0 O)) (.inr ⟨dh,rfl⟩) (fun w hw=>br (Sl.one (hw.row 0 O)) bV) O O O) fun _=>?_
   refine D.done<|U ?_
   refine R.mp (fun _ hw=>hw.aR 0 _ O O) ?_
   rw [show cW r p d slot rights=_ from by rewrite [List.take_of_length_le ae] at HC;subst HC;unfold cW;exact iE]
   exact R.x2 (aW,aS,aT,v3) [6] [1,2,3,0]
  rcases Bool.eq_false_or_eq_true (gj (bJ r p 2 2).1.Rights 4) with h7|h7
  .
   refine R.kc O O (fun w hw=>cv (congrArg Value.bool h7) (fP (bJ r p 2 2).1.Rights 4 w ae ae))<|U ?_
   refine R.kc O O (fun w hw=>ra _ _ _ _ r (⟨p.aB,slot⟩:Place) w (hw.cq 0 O) (hw.cq 1 O) (hw.cq 2 O) (hw.cq 3 O) af)<|U ?_
   refine R.nb fun b10=>?_
   refine C ((aL r (⟨p.aB,slot⟩:Place)).2=0) ?_ ?_ <;> intro h8
   .
    have ZY:=hk.get h8
    have hn0:∀x,(jH r x ⟨0,0⟩).Notes.length<=2000:=fun x=>hk.nl
    have hnz:=hn0 (derived (aL r ⟨p.aB,slot⟩).1 r.ag rights 0).1
    refine U ?_
    refine C (999<r.ag) ?_ ?_ <;> intro h9
    .
     refine R.g9 ak av Held Note ?_
     rw [show cW r p d slot rights=_ from by rewrite [List.take_of_length_le ae] at HC;subst HC;unfold cW;exact iE]
     exact R.x2 (nS,nS,nS,nS) [6] [3,2,1,0]
    refine R.kc O O (fun w hw=>mo (aL r (⟨p.aB,slot⟩:Place)).1 r.ag rights 0 w ae)<|U ?_
    refine R.nb fun b11=>?_
    refine C ((derived (aL r (⟨p.aB,slot⟩:Place)).1 r.ag rights 0).2=0) ?_ ?_ <;> intro h10
    .
     refine R.s O (s.aJ bL aX _ _ _ O O O yw O O (fun w own hw H=>qx aW aS aT aU r (derived (aL r (⟨p.aB,slot⟩:Place)).1 r.ag rights 0).1 (⟨0,0⟩:Place) w own H ae) O) ?_
     rintro ⟨z5,z6,z7,z8⟩
     dsimp only
     refine U ?_
     refine R.dC (fuel:=8) [0,1,2,3,4,5,7] O O mixed O<|D.l [0,3] [0,1,2,3,4,5,7] bL O<|U ?_
     refine D.two (i:=1) (j:=4) O O ?_ ?_
     .
      refine Do.k [0,1,2,3,4,5,7] bL (q.ld 6 O O dh O) ?_
      refine D.two (i:=2) (j:=4) O O ?_ ?_
      .
       refine Do.p [1,2,3,4,5,6,8] bL (s.aJ bL [3] _ _ _ O O O oT O O (fun w own hw H=>eJ z8 (jH r (derived (aL r (⟨p.aB,slot⟩:Place)).1 r.ag rights 0).1 (⟨0,0⟩:Place)).Notes w own H ae) O) fun lu=>?_
       refine D.p 4 O pq bL (s.bs (l:=([(⟨((bJ r p 2 2).1).av,d,(bJ r p 2 2).1.aO,(derived (aL r (⟨p.aB,slot⟩:Place)).1 r.ag rights 0).1.ID⟩:Note)]:List Note)) eO fy O O O O O O O) fun b12=>?_
       refine D.p 5 O pq bL (s.app 1 _ O O O (cm 0 O) dO aE aE (fun _=>rfl) O) fun v4=>?_
       refine D.l [6] pq bL O<|U ?_
       refine D.p 7 O pq bL (s.lr 8 _ O O O (fun w hw=>Sl.cL (hw.row 1 O)) (.inr ⟨dh,rfl⟩) (fun w hw=>br (Sl.one (hw.row 1 O)) bV) O O O) fun _=>?_
       refine D.done<|U ?_
       refine R.mp (fun _ hw=>hw.aR 1 _ O O) ?_
       rw [show cW r p d slot rights=_ from by rewrite [List.take_of_length_le ae] at HC;subst HC;unfold cW;exact iE]
       exact R.x2 (z5,z6,z7,v4) [8] [1,2,3,0]
      refine Do.p [1,2,3,4,5,6,8] bL (s.bs (l:=([(⟨((bJ r p 2 2).1).av,d,(bJ r p 2 2).1.aO,(derived (aL r (⟨p.aB,slot⟩:Place)).1 r.ag rights 0).1.ID⟩:Note)]:List Note)) eO fy O O O O O O O) fun b13=>?_
      refine D.p 2 O pq bL (s.aJ cy [3] _ _ _ O O O oT O O (fun w own hw H=>eJ z8 (jH r (derived (aL r (⟨p.aB,slot⟩:Place)).1 r.ag rights 0).1 (⟨0,0⟩:Place)).Notes w own H ae) O) fun mG=>?_
      refine D.p 5 O pq bL (s.app 0 _ O O O (cm 1 O) dO aE aE (fun _=>rfl) O) fun v5=>?_
      refine D.l [6] pq bL O<|U ?_
      refine D.p 7 O pq bL (s.lr 8 _ O O O (fun w hw=>Sl.cL (hw.row 0 O)) (.inr ⟨dh,rfl⟩) (fun w hw=>br (Sl.one (hw.row 0 O)) bV) O O O) fun _=>?_
      refine D.done<|U ?_
      refine R.mp (fun _ hw=>hw.aR 0 _ O O) ?_
      rw [show cW r p d slot rights=_ from by rewrite [List.take_of_length_le ae] at HC;subst HC;unfold cW;exact iE]
      exact R.x2 (z5,z6,z7,v5) [8] [1,2,3,0]
     refine Do.p [1,2,3,4,5,6,8] bL (s.bs (l:=([(⟨((bJ r p 2 2).1).av,d,(bJ r p 2 2).1.aO,(derived (aL r (⟨p.aB,slot⟩:Place)).1 r.ag rights 0).1.ID⟩:Note)]:List Note)) eO fy O O O O O O O) fun b14=>?_
     refine D.k 1 O [1,2,3,4,5,6,8] bL (q.ld 7 O O dh O) ?_
     refine D.p 2 O pq bL (s.aJ cy [3] _ _ _ O O O oT O O (fun w own hw H=>eJ z8 (jH r (derived (aL r (⟨p.aB,slot⟩:Place)).1 r.ag rights 0).1 (⟨0,0⟩:Place)).Notes w own H ae) O) fun z12=>?_
     refine D.p 5 O pq bL (s.app 0 _ O O O (cm 1 O) dO aE aE (fun _=>rfl) O) fun v6=>?_
     refine D.l [6] pq bL O<|U ?_
     refine D.p 7 O pq bL (s.lr 8 _ O O O (fun w hw=>Sl.cL (hw.row 0 O)) (.inr ⟨dh,rfl⟩) (fun w hw=>br (Sl.one (hw.row 0 O)) bV) O O O) fun _=>?_
     refine D.done<|U ?_
     refine R.mp (fun _ hw=>hw.aR 0 _ O O) ?_
     rw [show cW r p d slot rights=_ from by rewrite [List.take_of_length_le ae] at HC;subst HC;unfold cW;exact iE]
     exact R.x2 (z5,z6,z7,v6) [8] [1,2,3,0]
    refine R.g9 ak av Held Note ?_
    rw [show cW r p d slot rights=_ from by rewrite [List.take_of_length_le ae] at HC;subst HC;unfold cW;exact iE]
    exact R.x2 (nS,nS,nS,nS) [7] [3,2,1,0]
   refine R.g9 ak av Held Note ?_
   rw [show cW r p d slot rights=_ from by rewrite [List.take_of_length_le ae] at HC;subst HC;unfold cW;exact iE]
   exact R.x2 (nS,nS,nS,nS) [6] [3,2,1,0]
  refine R.kc O O (fun w hw=>cv (congrArg Value.bool h7) (fP (bJ r p 2 2).1.Rights 4 w ae ae))<|U ?_
  refine R.g9 ak av Held Note ?_
  have hz:cW r p d slot rights=((⟨[],[],[],[],0,0⟩:aA),7):=by (rw [List.take_of_length_le ae] at HC;subst HC;unfold cW;(repeat' split) <;> first|rfl|(exfalso;omega)|(simp_all;done))
  rw [hz]
  exact R.x2 (nS,nS,nS,nS) [5] [3,2,1,0]
 refine R.g9 ak av Held Note ?_
 rw [show cW r p d slot rights=_ from by unfold cW;exact iE]
 exact R.x2 (nS,nS,nS,nS) [4] [3,2,1,0]
theorem J4 (aW aS aT aU:Value)(r:aA)(p:Place)(w:World)(own:List Nat)(H:HN w own [] [ah.ls aW r.aj,ah.ls aS r.Things,ah.ls aT r.Held,ah.ls aU r.Notes])(hk:Ok r):RS Tryz.prog 104 #[.agg #[aW,aS,aT,aU,iV r.ag,iV r.ai],.agg #[iV p.aB,iV p.Slot]] H (dD r p) (fun s (z:Value×Value×Value×Value) => .tuple #[.agg #[z.1,z.2.1,z.2.2.1,z.2.2.2,iV s.1.ag,iV s.1.ai],.agg #[iV s.2.1.Port,.string s.2.1.Data,iV s.2.1.aO,iV s.2.1.ak],iV s.2.2.1,bN s.2.2.2]) (fun _ _=>[]) (fun s z=>[ah.ls z.1 s.1.aj,ah.ls z.2.1 s.1.Things,ah.ls z.2.2.1 s.1.Held,ah.ls z.2.2.2 s.1.Notes]):=by
 have bS:=H.aZ 0 rfl
 have bH:=H.aZ 1 rfl
 have cu:=H.aZ 2 rfl
 have bT:=H.aZ 3 rfl
 have bw:=hk.wl;have bt:=hk.tl;have bh:=hk.hl;have bn:=hk.nl;have wN:=hk.w0;have wO:=hk.w1;have wP:=hk.t0;have wQ:=hk.t1
 refine R.eN H ?_
 refine R.nb fun b1=>?_
 refine R.nb fun b2=>?_
 refine R.nb fun b3=>?_
 refine R.nb fun b4=>?_
 refine R.kc O O (fun w hw=>zf _ _ _ _ r p 2 1 w (hw.cq 0 O) (hw.cq 1 O) (hw.cq 2 O) (hw.cq 3 O) af ae)<|U ?_
 refine R.nb fun b5=>?_
 refine C ((bJ r p 2 1).2.2=0) ?_ ?_ <;> intro h1
 .
  refine R.q (q.NA (cap:=[pV b5]) O O) O ?_
  rcases jz (fun (t:Note)=>t.Port==(bJ r p 2 1).1.av) r.Notes with ⟨eW,CK⟩ | ⟨vQ,Gu,eW,lz,ub,Cx,Wn⟩
  .
   refine R.kc O O (fun w hw=>cv (congrArg (Value.int .i64) eW) (nh _ r.Notes (fun (t:Note)=>t.Port==(bJ r p 2 1).1.av) _ _ Mj w (hw.cq 3 O) (fun W t hW=>vS t (bJ r p 2 1).1 _ W (sW (hw.b 0 O) hW))))<|U ?_
   refine R.g9 ak av Held Note ?_
   rw [show dD r p=_ from by (unfold dD;(rewrite [if_pos af,eW,show decide ((0:Int) <= -1)=false from rfl];cases r.Notes[(-1:Int).toNat]? <;> rfl)) <;> rfl]
   exact R.x4 (nS,nS,nS,nS) [5] [3,2,1,0]
  refine R.kc O O (fun w hw=>cv (congrArg (Value.int .i64) eW) (nh _ r.Notes (fun (t:Note)=>t.Port==(bJ r p 2 1).1.av) _ _ Mj w (hw.cq 3 O) (fun W t hW=>vS t (bJ r p 2 1).1 _ W (sW (hw.b 0 O) hW))))<|U ?_
  refine R.nb fun b6=>?_
  refine C (0<Gu.ak) ?_ ?_ <;> intro h2
  .
   refine R.kc O O (fun w hw=>Mv _ r.Held p.aB w (hw.cq 2 O) ae)<|U ?_
   refine C (fj r.Held p.aB<0) ?_ ?_ <;> intro h3
   .
    refine R.g9 ak av Held Note ?_
    have hz:dD r p=((⟨[],[],[],[],0,0⟩:aA),(⟨0,⟨#[]⟩,0,0⟩:Note),0,9):=by (unfold dD;(rw [if_pos af,eW,Int.toNat_natCast,lz,decide_eq_true ae];dsimp only;(repeat' split) <;> rfl))
    rw [hz]
    exact R.x4 (nS,nS,nS,nS) [6] [3,2,1,0]
   refine R.s O (s.aJ jF [2] _ _ _ O O O uK O O (fun w own hw H=>qU aT r.Held (⟨p.aB,fj r.Held p.aB⟩:Place) Gu.ak w own H ae) O) fun z1=>U ?_
   refine R.s O (s.aJ bL [3] _ _ _ O O O oT O O (fun w own hw H=>eJ aU r.Notes w own H ae) O) fun z2=>U ?_
   refine R.s O (s.aJ cy [] _ _ _ O O O Mk O O (fun w own hw H=>qw z2 r.Notes vQ (vQ+1) w own H ae) O) fun z3=>U ?_
   refine R.dC (fuel:=7) Dd O O mixed O<|D.l [0,1,2] Dd aX O<|U ?_
   refine D.p 3 O Dd aX (s.lr 5 _ O O O (fun _ _=>rfl) (.inl jc) (fun w hw=>xg (hw.cq 0 O) (hw.cq 1 O) (hw.row 1 O) (hw.row 0 O) O O) O O O) fun _=>?_
   refine D.p 4 O Dd aX (s.st 4 _ O O O O (.inl m5) O O O O) fun _=>?_
   refine D.l [5,6] Dd aX O<|U ?_
   refine D.done<|R.mp (fun _ hw=>hw.aR 1 _ O O)<|R.mp (fun _ hw=>hw.aR 0 _ O O) ?_
   have hz:dD r p=((⟨r.aj,r.Things,eY r.Held (⟨p.aB,fj r.Held p.aB⟩:Place) Gu.ak,r.Notes.take vQ++r.Notes.drop (vQ+1),r.ag,r.ai⟩:aA),Gu,fj r.Held p.aB,0):=by (unfold dD;(rw [if_pos af,eW,Int.toNat_natCast,lz,decide_eq_true ae];dsimp only;(repeat' split) <;> rfl))
   rw [hz]
   exact R.x4 (aW,aS,z1,z3) [6] [2,3,1,0]
  refine R.s O (s.aJ jF [3] _ _ _ O O O oT O O (fun w own hw H=>eJ aU r.Notes w own H ae) O) fun z4=>U ?_
  refine R.s O (s.aJ bL [] _ _ _ O O O Mk O O (fun w own hw H=>qw z4 r.Notes vQ (vQ+1) w own H ae) O) fun z5=>U ?_
  refine R.dC (fuel:=7) De O O mixed O<|D.l [0,1,2] De aX O<|U ?_
  refine D.p 3 O De aX (s.lr 4 _ O O O (fun _ _=>rfl) (.inl jc) (fun w hw=>xg (hw.cq 0 O) (hw.cq 1 O) (hw.cq 2 O) (hw.row 0 O) O O) O O O) fun _=>?_
  refine D.p 4 O De aX (s.st 3 _ O O O O (.inl m5) O O O O) fun _=>?_
  refine D.l [5,6] De aX O<|U ?_
  refine D.done<|R.mp (fun _ hw=>hw.aR 0 _ O O) ?_
  have hz:dD r p=((⟨r.aj,r.Things,r.Held,r.Notes.take vQ++r.Notes.drop (vQ+1),r.ag,r.ai⟩:aA),Gu,-1,0):=by (unfold dD;(rw [if_pos af,eW,Int.toNat_natCast,lz,decide_eq_true ae];dsimp only;(repeat' split) <;> first|rfl|(exfalso;omega)))
  rw [hz]
  exact R.x4 (aW,aS,aT,z5) [6] [1,2,3,0]
 refine R.g9 ak av Held Note ?_
 rw [show dD r p=_ from by (unfold dD;(rewrite [if_neg af])) <;> rfl]
 exact R.x4 (nS,nS,nS,nS) [5] [3,2,1,0]
end Go.Proofs.YtnmpibjlnninjaaGreatDoor
