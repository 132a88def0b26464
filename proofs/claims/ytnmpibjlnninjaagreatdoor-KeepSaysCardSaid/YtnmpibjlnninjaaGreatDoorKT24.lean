import Derived.Test.YtnmpibjlnninjaaGreatDoorKT23
import Derived.Lib.AppendIntMem
import Derived.Lib.AtoiBound
import Derived.Lib.ItoaLen
namespace Go.Proofs.YtnmpibjlnninjaaGreatDoor
set_option linter.unusedVariables false
set_option linter.unusedSimpArgs false
set_option maxRecDepth 100000
set_option maxHeartbeats 90000000
section
open Go Go.RowKit
set_option linter.unusedSectionVars false
theorem Nc:KF Tryz.prog 103 av.val:=by
 have hS:Tryz.prog.underlying 103=some (.struct (Tryz.prog.fieldsOf 103)):=ao
 have hp:Tryz.prog.stoodInHeld 103=false:=ao
 refine uL (cs:=av.cs) ao fun x y w=>?_
 have u3:=Tryz.underlying9;have a3:=Tryz.isAgg9;have z3:=Tryz.sizeOf9;have u4:=Tryz.underlying3;have a4:=Tryz.isAgg3;have z4:=Tryz.sizeOf3
 obtain ⟨x1,x2,x3⟩:=x;obtain ⟨y1,y2,y3⟩:=y
 rw [Op.equal,Op.maxDepth,show (10000:Nat)=9999+1 from rfl,run_equalIn_agg w 9999 103 _ _ hS hp]
 simp only [Program.fieldsOf,Tryz.underlying103]
 go_simp
 have tl:∀a b:ByteArray,a.toList=b.toList↔a=b:=fun a b=>by have:=kN a b;rw [Bool.eq_iff_iff] at this;simpa using this
 by_cases h1:x1=y1 <;> by_cases h2:x2=y2 <;> by_cases h3:x3=y3 <;> simp [h1,h2,h3,tl]
theorem QT:KF Tryz.prog 91 Note.val:=by
 have hS:Tryz.prog.underlying 91=some (.struct (Tryz.prog.fieldsOf 91)):=ao
 have hp:Tryz.prog.stoodInHeld 91=false:=ao
 refine uL (cs:=Note.cs) ao fun x y w=>?_
 have u3:=Tryz.underlying9;have a3:=Tryz.isAgg9;have z3:=Tryz.sizeOf9;have u4:=Tryz.underlying3;have a4:=Tryz.isAgg3;have z4:=Tryz.sizeOf3
 obtain ⟨x1,x2,x3,x4⟩:=x;obtain ⟨y1,y2,y3,y4⟩:=y
 rw [Op.equal,Op.maxDepth,show (10000:Nat)=9999+1 from rfl,run_equalIn_agg w 9999 91 _ _ hS hp]
 simp only [Program.fieldsOf,Tryz.underlying91]
 go_simp
 have tl:∀a b:ByteArray,a.toList=b.toList↔a=b:=fun a b=>by have:=kN a b;rw [Bool.eq_iff_iff] at this;simpa using this
 by_cases h1:x1=y1 <;> by_cases h2:x2=y2 <;> by_cases h3:x3=y3 <;> by_cases h4:x4=y4 <;> simp [h1,h2,h3,h4,tl]
end
section
open Go Go.RowKit
attribute [local irreducible] Run Rg Rq Qt Qa Stp Dg Do Dm bN
theorem Nf (err:Int)(f:Int)(w:World)(h0:0<=err):Calls Tryz.prog 14 #[bN err,iV f] w fun e w'=>e = .returned (.bool (decide (err=f)))/\Ext w w':=by
 refine R.eV ?_
 refine C (err=0) ?_ ?_ <;> intro h1
 .
  refine C (f=0) ?_ ?_ <;> intro h2
  .
   refine R.rt ?_
   (exact (decide_eq_true ae).symm)
  refine R.rt ?_
  (exact (decide_eq_false ae).symm)
 refine R.q (q.Wy O ae Tryz.underlying95) O<|U ?_
 refine C (0<f) ?_ ?_ <;> intro h3
 .
  refine C (err=f) ?_ ?_ <;> intro h4
  .
   refine R.rt ?_
   (exact (decide_eq_true ae).symm)
  refine R.rt ?_
  (exact (decide_eq_false ae).symm)
 refine R.rt ?_
 (exact (decide_eq_false ae).symm)
end
section
open Go Go.RowKit
attribute [local irreducible] Run Rg Rq Qt Qa Stp Dg Do Dm bN
theorem zg (bA:Value)(l:List Change)(most:Int)(w:World)(fC:Sl w bA l):Calls Tryz.prog 22 #[bA,iV most] w fun e w'=>e = .returned (.bool (r8 l most))/\Ext w w':=by
 have uO:=fC.dY
 refine R.enter [] [(0,bA),(1,iV most)] Tryz.func22 O O O O<|R.pQ fC<|U ?_
 refine C (most<(l.length:Int)) ?_ ?_ <;> intro h1
 .
  refine R.rt ?_
  (unfold r8;(rw [decide_eq_false ae];rfl))
 refine R.loop (fun k:Nat=>[(0,bA),(5,iV (k:Int))]) (fun k:Nat=>[]) (fun k:Nat=>[ah.ls bA l]) (fun k:Nat=>k<=l.length/\(l.take k).all oC=true) (fun k:Nat=>l.length-k) 0 O (by exact ⟨ae,rfl⟩) (sF O) (dE [] [0] O) ?_
 rintro k ⟨hk,HA⟩
 refine U ?_
 refine C (k<l.length) ?_ ?_ <;> intro h2
 .
  obtain ⟨x1,hx1⟩:=gE l k
  refine U ?_
  refine C (20<x1.Key.size) ?_ ?_ <;> intro h3
  .
   refine R.rt ?_
   (unfold r8;(rw [wv hx1 (show oC _=false from by unfold oC;simp;omega)];simp))
  refine C (40<x1.Val.size) ?_ ?_ <;> intro h4
  .
   refine R.rt ?_
   (unfold r8;(rw [wv hx1 (show oC _=false from by unfold oC;simp;omega)];simp))
  refine R.back (k+1) O (by exact ⟨ae,DZ hx1 HA (by unfold oC;simp_all)⟩) ae (sF O) (ck [] [0] O)
 refine R.rt ?_
 (unfold r8;(rw [decide_eq_true ae,K9 ae HA];rfl))
theorem zh (bA:Value)(l:List eU)(most:Int)(w:World)(fC:Sl w bA l)(Jz:∀x∈l,Sl w x.cv x.Changes):Calls Tryz.prog 6 #[bA,iV most] w fun e w'=>e = .returned (.bool (p8 l most))/\Ext w w':=by
 have uO:=fC.dY
 refine R.enter [] [(0,bA),(1,iV most)] Tryz.func6 O O O O<|R.pQ fC<|R.nH (r:=ah.acts l) Jz (Hl Jz)<|U ?_
 refine C (most<(l.length:Int)) ?_ ?_ <;> intro h1
 .
  refine R.rt ?_
  (unfold p8;(rw [decide_eq_false ae];rfl))
 refine R.loop (fun k:Nat=>[(0,bA),(5,iV (k:Int))]) (fun k:Nat=>[]) (fun k:Nat=>[ah.acts l,ah.ls bA l]) (fun k:Nat=>k<=l.length/\(l.take k).all oD=true) (fun k:Nat=>l.length-k) 0 O (by exact ⟨ae,rfl⟩) (sF O) (dE [] [0,1] O) ?_
 rintro k ⟨hk,HA⟩
 refine U ?_
 refine C (k<l.length) ?_ ?_ <;> intro h2
 .
  obtain ⟨x1,hx1⟩:=gE l k
  refine U ?_
  refine C (100<x1.S.size) ?_ ?_ <;> intro h3
  .
   refine R.rt ?_
   (unfold p8;(rw [wv hx1 (show oD _=false from by unfold oD;simp;omega)];simp))
  rcases Bool.eq_false_or_eq_true (r8 x1.Changes 70) with h4|h4
  .
   refine R.kc O O (fun w hw=>cv (congrArg Value.bool h4) (zg _ x1.Changes 70 w ((fun _=>Wd.Ua (l:=l) 0 O (List.mem_of_getElem? hx1)) w hw)))<|U ?_
   refine R.back (k+1) O (by exact ⟨ae,DZ hx1 HA (by unfold oD;simp_all)⟩) ae (sF O) (ck [] [0,1] O)
  refine R.kc O O (fun w hw=>cv (congrArg Value.bool h4) (zg _ x1.Changes 70 w ((fun _=>Wd.Ua (l:=l) 0 O (List.mem_of_getElem? hx1)) w hw)))<|U ?_
  refine R.rt ?_
  (unfold p8;(rw [wv hx1 (show oD _=false from by unfold oD;simp_all)];simp))
 refine R.rt ?_
 (unfold p8;(rw [decide_eq_true ae,K9 ae HA];rfl))
theorem Pb (aW aS aT aU:Value)(r:aA)(a:eU)(w:World)(own:List Nat)(H:HN w own [] [ah.ls aW r.aj,ah.ls aS r.Things,ah.ls aT r.Held,ah.ls aU r.Notes])(hk:Ok r):RS Tryz.prog 44 #[.agg #[aW,aS,aT,aU,iV r.ag,iV r.ai],.agg #[.string a.Kind,.string a.S,iV a.P.aB,iV a.P.Slot,iV a.Q.aB,iV a.Q.Slot,iV a.A,iV a.B,iV a.N,.int .u64 a.K,a.cv]] H (cJ r a) (fun s (z:Value×Value×Value×Value) => .tuple #[.agg #[z.1,z.2.1,z.2.2.1,z.2.2.2,iV s.1.ag,iV s.1.ai],bN s.2]) (fun _ _=>[]) (fun s z=>[ah.ls z.1 s.1.aj,ah.ls z.2.1 s.1.Things,ah.ls z.2.2.1 s.1.Held,ah.ls z.2.2.2 s.1.Notes]):=by
 have bS:=H.aZ 0 rfl
 have bH:=H.aZ 1 rfl
 have cu:=H.aZ 2 rfl
 have bT:=H.aZ 3 rfl
 refine R.eN H ?_
 refine R.nb fun b1=>?_
 refine R.nb fun b2=>?_
 refine R.nb fun b3=>?_
 refine C (a.Kind=⟨#[109,97,107,101]⟩) ?_ ?_ <;> intro h1
 .
  refine R.q (q.iQ O O h1) O<|U ?_
  refine R.s O (s.aJ aX aX _ _ _ O O O U9 O O (fun w own hw H=>JZ aW aS aT aU r a.P a.A w own H af) O) ?_
  rintro ⟨z1,z2,z3,z4⟩
  dsimp only
  refine U ?_
  rw [show cJ r a=_ from by unfold cJ;exact iE]
  exact R.x2 (z1,z2,z3,z4) [3] [0,1,2,3]
 refine R.q (q.iR O O h1) O<|U ?_
 refine C (a.Kind=⟨#[103,105,118,101]⟩) ?_ ?_ <;> intro h2
 .
  refine R.q (q.iQ O O h2) O<|U ?_
  refine R.s O (s.aJ aX aX _ _ _ O O O Va O O (fun w own hw H=>J0 aW aS aT aU r a.P a.Q a.A a.B w own H af) O) ?_
  rintro ⟨z5,z6,z7,z8⟩
  dsimp only
  refine U ?_
  rw [show cJ r a=_ from by unfold cJ;exact iE]
  exact R.x2 (z5,z6,z7,z8) [3] [0,1,2,3]
 refine R.q (q.iR O O h2) O<|U ?_
 refine C (a.Kind=⟨#[109,111,118,101]⟩) ?_ ?_ <;> intro h3
 .
  refine R.q (q.iQ O O h3) O<|U ?_
  refine R.s O (s.aJ aX aX _ _ _ O O O Vb O O (fun w own hw H=>J1 aW aS aT aU r a.P a.A w own H af) O) ?_
  rintro ⟨z9,lu,mG,z12⟩
  dsimp only
  refine U ?_
  rw [show cJ r a=_ from by unfold cJ;exact iE]
  exact R.x2 (z9,lu,mG,z12) [3] [0,1,2,3]
 refine R.q (q.iR O O h3) O<|U ?_
 refine C (a.Kind=⟨#[100,114,111,112]⟩) ?_ ?_ <;> intro h4
 .
  refine R.q (q.iQ O O h4) O<|U ?_
  refine R.s O (s.aJ aX aX _ _ _ O O O RH O O (fun w own hw H=>J2 aW aS aT aU r a.P w own H af) O) ?_
  rintro ⟨nX,zA,FM,Ba⟩
  dsimp only
  refine U ?_
  rw [show cJ r a=_ from by unfold cJ;exact iE]
  exact R.x2 (nX,zA,FM,Ba) [3] [0,1,2,3]
 refine R.q (q.iR O O h4) O<|U ?_
 refine C (a.Kind=⟨#[114,101,118,111,107,101]⟩) ?_ ?_ <;> intro h5
 .
  refine R.q (q.iQ O O h5) O<|U ?_
  refine R.s O (s.aJ aX aX _ _ _ O O O RI O O (fun w own hw H=>Fh aW aS aT aU r a.P w own H af) O) ?_
  rintro ⟨z17,vK,zN,z20⟩
  dsimp only
  refine U ?_
  rw [show cJ r a=_ from by unfold cJ;exact iE]
  exact R.x2 (z17,vK,zN,z20) [3] [0,1,2,3]
 refine R.q (q.iR O O h5) O<|U ?_
 refine C (a.Kind=⟨#[119,114,105,116,101]⟩) ?_ ?_ <;> intro h6
 .
  refine R.q (q.iQ O O h6) O<|U ?_
  refine R.s O (s.aJ aX aX _ _ _ O O O RJ O O (fun w own hw H=>GX aW aS aT aU r a.P a.S w own H af) O) ?_
  rintro ⟨z21,z22,z23,z24⟩
  dsimp only
  refine U ?_
  rw [show cJ r a=_ from by unfold cJ;exact iE]
  exact R.x2 (z21,z22,z23,z24) [3] [0,1,2,3]
 refine R.q (q.iR O O h6) O<|U ?_
 refine C (a.Kind=⟨#[115,101,110,100]⟩) ?_ ?_ <;> intro h7
 .
  refine R.q (q.iQ O O h7) O<|U ?_
  refine R.s O (s.aJ aX aX _ _ _ O O O RL O O (fun w own hw H=>J3 aW aS aT aU r a.P a.S a.A a.B w own H af) O) ?_
  rintro ⟨z25,z26,z27,z28⟩
  dsimp only
  refine U ?_
  rw [show cJ r a=_ from by unfold cJ;exact iE]
  exact R.x2 (z25,z26,z27,z28) [3] [0,1,2,3]
 refine R.q (q.iR O O h7) O<|U ?_
 refine C (a.Kind=⟨#[116,97,107,101]⟩) ?_ ?_ <;> intro h8
 .
  refine R.q (q.iQ O O h8) O<|U ?_
  refine R.s O (s.aJ aX aX _ _ _ O O O RN O O (fun w own hw H=>J4 aW aS aT aU r a.P w own H af) O) ?_
  rintro ⟨z29,z30,z31,z32⟩
  dsimp only
  refine U ?_
  refine R.nb fun b4=>?_
  refine R.nb fun b5=>?_
  rw [show cJ r a=_ from by unfold cJ;exact iE]
  exact R.x2 (z29,z30,z31,z32) [5] [0,1,2,3]
 refine R.q (q.iR O O h8) O<|U ?_
 rw [show cJ r a=_ from by unfold cJ;exact iE]
 exact R.x2 (aW,aS,aT,aU) [3] [0,1,2,3]
theorem nu (Pd Pe Pf Pg:Value)(a:aA)(Ph Pj Pk Pm:Value)(b:aA)(w:World)(VU:Sl w Pd a.aj)(Xo:Sl w Pe a.Things)(Pn:Sl w Pf a.Held)(Xp:Sl w Pg a.Notes)(VW:Sl w Ph b.aj)(Xq:Sl w Pj b.Things)(Po:Sl w Pk b.Held)(Xr:Sl w Pm b.Notes):Calls Tryz.prog 16 #[.agg #[Pd,Pe,Pf,Pg,iV a.ag,iV a.ai],.agg #[Ph,Pj,Pk,Pm,iV b.ag,iV b.ai]] w fun e w'=>e = .returned (.bool (decide (a=b)))/\Ext w w':=by
 have ba:=Xo.dY;have bb:=Xq.dY;have bc:=Xp.dY;have bd:=Xr.dY
 refine R.eV ?_
 refine R.nb fun b1=>?_
 refine R.nb fun b2=>?_
 rcases Bool.eq_false_or_eq_true (decide (a.aj=b.aj)) with h1|h1
 .
  refine R.kc O O (fun w hw=>cv (congrArg Value.bool h1) (rM _ a.aj _ b.aj w ((fun _=>Wd.old VU) w hw) ((fun _=>Wd.old VW) w hw)))<|U ?_
  rcases Bool.eq_false_or_eq_true (decide (a.Held=b.Held)) with h2|h2
  .
   refine R.kc O O (fun w hw=>cv (congrArg Value.bool h2) (lG _ a.Held _ b.Held w ((fun _=>Wd.old Pn) w hw) ((fun _=>Wd.old Po) w hw)))<|U ?_
   refine C (a.ag=b.ag) ?_ ?_ <;> intro h3
   .
    refine C (a.ai=b.ai) ?_ ?_ <;> intro h4
    .
     refine C (a.Things.length=b.Things.length) ?_ ?_ <;> intro h5
     .
      refine C (a.Notes.length=b.Notes.length) ?_ ?_ <;> intro h6
      .
       refine R.loop (fun k:Nat=>[(2,pV b1),(3,pV b2),(7,iV (k:Int))]) (fun k:Nat=>[ah.box b2 [Ph,Pj,Pk,Pm,iV b.ag,iV b.ai] 48,ah.box b1 [Pd,Pe,Pf,Pg,iV a.ag,iV a.ai] 48]) (fun k:Nat=>[]) (fun k:Nat=>k<=a.Things.length /\ ∀j,j<k->a.Things[j]? = b.Things[j]?) (fun k:Nat=>a.Things.length-k) 0 O (by exact ⟨ae,fun j hj=>absurd hj (Nat.not_lt_zero _)⟩) (sF O) (dE [0,1] [] O) ?_
       rintro k ⟨hk,HA⟩
       refine U ?_
       refine C (k<a.Things.length) ?_ ?_ <;> intro h7
       .
        obtain ⟨x1,hx1⟩:=gE a.Things k
        obtain ⟨x2,hx2⟩:=gE b.Things k
        refine C (x1=x2) ?_ ?_ <;> intro h8
        .
         refine R.cG O mixed ao<|U ?_
         refine Q.q (q.j3 (x:=x1) (y:=x2) Nc O O h8) O<|U ?_
         refine R.back (k+1) O (by exact ⟨ae,nW HA hx1 hx2 af⟩) ae (sF O) (dE [0,1] [] O)
        refine R.cG O mixed ao<|U ?_
        refine Q.q (q.j4 (x:=x1) (y:=x2) Nc O O h8) O<|U ?_
        refine R.rt ?_
        (exact (decide_eq_false (fun e=>by subst e;have hq:=hx1.symm.trans hx2;injection hq;contradiction)).symm)
       refine R.loop (fun k:Nat=>[(2,pV b1),(3,pV b2),(8,iV (k:Int))]) (fun k:Nat=>[ah.box b2 [Ph,Pj,Pk,Pm,iV b.ag,iV b.ai] 48,ah.box b1 [Pd,Pe,Pf,Pg,iV a.ag,iV a.ai] 48]) (fun k:Nat=>[]) (fun k:Nat=>k<=a.Notes.length /\ ∀j,j<k->a.Notes[j]? = b.Notes[j]?) (fun k:Nat=>a.Notes.length-k) 0 O (by exact ⟨ae,fun j hj=>absurd hj (Nat.not_lt_zero _)⟩) (sF O) (dE [0,1] [] O) ?_
       rintro k ⟨hk2,HA2⟩
       refine U ?_
       refine C (k<a.Notes.length) ?_ ?_ <;> intro h9
       .
        obtain ⟨x3,hx3⟩:=gE a.Notes k
        obtain ⟨x4,hx4⟩:=gE b.Notes k
        refine C (x3=x4) ?_ ?_ <;> intro h10
        .
         refine R.cG O mixed ao<|U ?_
         refine Q.q (q.j3 (x:=x3) (y:=x4) QT O O h10) O<|U ?_
         refine R.back (k+1) O (by exact ⟨ae,nW HA2 hx3 hx4 af⟩) ae (sF O) (dE [0,1] [] O)
        refine R.cG O mixed ao<|U ?_
        refine Q.q (q.j4 (x:=x3) (y:=x4) QT O O h10) O<|U ?_
        refine R.rt ?_
        (exact (decide_eq_false (fun e=>by subst e;have hq:=hx3.symm.trans hx4;injection hq;contradiction)).symm)
       refine R.rt ?_
       (refine (decide_eq_true ?_).symm;have eT:=qm (a:=a.Things) (b:=b.Things) ae af HA;have eN:=qm (a:=a.Notes) (b:=b.Notes) ae af HA2;cases a;cases b;simp_all)
      refine R.rt ?_
      (exact (decide_eq_false (fun e=>by subst e;omega)).symm)
     refine R.rt ?_
     (exact (decide_eq_false (fun e=>by subst e;omega)).symm)
    refine R.rt ?_
    (exact (decide_eq_false (fun e=>by subst e;omega)).symm)
   refine R.rt ?_
   (exact (decide_eq_false (fun e=>by subst e;omega)).symm)
  refine R.kc O O (fun w hw=>cv (congrArg Value.bool h2) (lG _ a.Held _ b.Held w ((fun _=>Wd.old Pn) w hw) ((fun _=>Wd.old Po) w hw)))<|U ?_
  refine R.rt ?_
  (exact (decide_eq_false (fun e=>by subst e;(simp_all;done))).symm)
 refine R.kc O O (fun w hw=>cv (congrArg Value.bool h1) (rM _ a.aj _ b.aj w ((fun _=>Wd.old VU) w hw) ((fun _=>Wd.old VW) w hw)))<|U ?_
 rcases Bool.eq_false_or_eq_true (decide (a.Held=b.Held)) with h11|h11
 .
  refine R.kc O O (fun w hw=>cv (congrArg Value.bool h11) (lG _ a.Held _ b.Held w ((fun _=>Wd.old Pn) w hw) ((fun _=>Wd.old Po) w hw)))<|U ?_
  refine R.rt ?_
  (exact (decide_eq_false (fun e=>by subst e;(simp_all;done))).symm)
 refine R.kc O O (fun w hw=>cv (congrArg Value.bool h11) (lG _ a.Held _ b.Held w ((fun _=>Wd.old Pn) w hw) ((fun _=>Wd.old Po) w hw)))<|U ?_
 refine R.rt ?_
 (exact (decide_eq_false (fun e=>by subst e;(simp_all;done))).symm)
theorem SZ:cQ (⟨[],[],[],[],1,1⟩:aA) (⟨1,0⟩:Place) 1=(⟨[⟨1,1,7,0,0⟩],[⟨1,1,⟨#[]⟩⟩],[⟨⟨1,0⟩,1⟩],[],2,2⟩,0):=by
 have e:eY [] ⟨1,0⟩ 1=[⟨⟨1,0⟩,1⟩]:=by rw [put_eq List.Pairwise.nil];decide
 have a:lY [] ⟨1,0⟩=0:=by rw [at_eq List.Pairwise.nil];decide
 unfold cQ eG jH
 rw [if_pos (.inl rfl),if_pos (by rw [a];rfl),if_neg aD]
 simp [e]
section
attribute [local irreducible] cQ aL
end
end
end Go.Proofs.YtnmpibjlnninjaaGreatDoor
section
set_option maxRecDepth 100000
namespace Go.Proofs
open Go.Shelf
def Tryz.lays172_ren:Go.Shelf.Ren:=⟨fun|172=>197|244=>237|245=>238|247=>268|279=>269|280=>270|281=>271|282=>272|287=>300|316=>301|171=>124|205=>302|321=>313|322=>314|243=>191|246=>230|283=>261|284=>262|285=>263|286=>264|129=>249|317=>295|318=>296|319=>297|320=>298|337=>311|338=>312|n=>n,fun|9=>9|3=>3|75=>38|76=>190|4=>4|5=>5|167=>297|37=>137|0=>0|85=>298|2=>2|168=>300|53=>33|175=>322|46=>183|210=>325|127=>244|145=>342|143=>340|21=>21|171=>292|173=>294|212=>318|51=>236|20=>20|213=>319|232=>344|233=>345|80=>139|n=>n,fun|15=>2|16=>3|17=>1|18=>6|19=>7|n=>n⟩
theorem Tryz.lays172:Go.Proofs.Lays.n172 Tryz.prog Tryz.lays172_ren:={
 mixed:=by kernel_rfl
 f129:=Tryz.func249.trans (congrArg some (by kernel_rfl))
 f171:=Tryz.func124.trans (congrArg some (by kernel_rfl))
 f172:=Tryz.func197.trans (congrArg some (by kernel_rfl))
 f205:=Tryz.func302.trans (congrArg some (by kernel_rfl))
 f243:=Tryz.func191.trans (congrArg some (by kernel_rfl))
 f244:=Tryz.func237.trans (congrArg some (by kernel_rfl))
 f245:=Tryz.func238.trans (congrArg some (by kernel_rfl))
 f246:=Tryz.func230.trans (congrArg some (by kernel_rfl))
 f247:=Tryz.func268.trans (congrArg some (by kernel_rfl))
 f279:=Tryz.func269.trans (congrArg some (by kernel_rfl))
 f280:=Tryz.func270.trans (congrArg some (by kernel_rfl))
 f281:=Tryz.func271.trans (congrArg some (by kernel_rfl))
 f282:=Tryz.func272.trans (congrArg some (by kernel_rfl))
 f283:=Tryz.func261.trans (congrArg some (by kernel_rfl))
 f284:=Tryz.func262.trans (congrArg some (by kernel_rfl))
 f285:=Tryz.func263.trans (congrArg some (by kernel_rfl))
 f286:=Tryz.func264.trans (congrArg some (by kernel_rfl))
 f287:=Tryz.func300.trans (congrArg some (by kernel_rfl))
 f316:=Tryz.func301.trans (congrArg some (by kernel_rfl))
 f317:=Tryz.func295.trans (congrArg some (by kernel_rfl))
 f318:=Tryz.func296.trans (congrArg some (by kernel_rfl))
 f319:=Tryz.func297.trans (congrArg some (by kernel_rfl))
 f320:=Tryz.func298.trans (congrArg some (by kernel_rfl))
 f321:=Tryz.func313.trans (congrArg some (by kernel_rfl))
 f322:=Tryz.func314.trans (congrArg some (by kernel_rfl))
 f337:=Tryz.func311.trans (congrArg some (by kernel_rfl))
 f338:=Tryz.func312.trans (congrArg some (by kernel_rfl))
 t0:=Tryz.underlying0
 a0:=Tryz.isAgg0
 z0:=Tryz.sizeOf0
 v0:=Tryz.zeroValue0
 t2:=Tryz.underlying2
 a2:=Tryz.isAgg2
 z2:=Tryz.sizeOf2
 v2:=Tryz.zeroValue2
 t3:=Tryz.underlying3
 a3:=Tryz.isAgg3
 z3:=Tryz.sizeOf3
 v3:=Tryz.zeroValue3
 t4:=Tryz.underlying4
 a4:=Tryz.isAgg4
 z4:=Tryz.sizeOf4
 v4:=Tryz.zeroValue4
 t5:=Tryz.underlying5
 a5:=Tryz.isAgg5
 z5:=Tryz.sizeOf5
 v5:=Tryz.zeroValue5
 t9:=Tryz.underlying9
 a9:=Tryz.isAgg9
 z9:=Tryz.sizeOf9
 v9:=Tryz.zeroValue9
 t20:=Tryz.underlying20
 a20:=Tryz.isAgg20
 z20:=Tryz.sizeOf20
 v20:=Tryz.zeroValue20
 t21:=Tryz.underlying21
 a21:=Tryz.isAgg21
 z21:=Tryz.sizeOf21
 v21:=Tryz.zeroValue21
 t37:=Tryz.underlying137
 a37:=Tryz.isAgg137
 z37:=Tryz.sizeOf137
 v37:=Tryz.zeroValue137
 t46:=Tryz.underlying183
 a46:=Tryz.isAgg183
 z46:=Tryz.sizeOf183
 v46:=Tryz.zeroValue183
 t51:=Tryz.underlying236
 a51:=Tryz.isAgg236
 z51:=Tryz.sizeOf236
 v51:=Tryz.zeroValue236
 t53:=Tryz.underlying33
 a53:=Tryz.isAgg33
 z53:=Tryz.sizeOf33
 v53:=Tryz.zeroValue33
 t75:=Tryz.underlying38
 a75:=Tryz.isAgg38
 z75:=Tryz.sizeOf38
 v75:=Tryz.zeroValue38
 t76:=Tryz.underlying190
 a76:=Tryz.isAgg190
 z76:=Tryz.sizeOf190
 v76:=Tryz.zeroValue190
 t85:=Tryz.underlying298
 a85:=Tryz.isAgg298
 z85:=Tryz.sizeOf298
 v85:=Tryz.zeroValue298
 t127:=Tryz.underlying244
 a127:=Tryz.isAgg244
 z127:=Tryz.sizeOf244
 v127:=Tryz.zeroValue244
 t143:=Tryz.underlying340
 a143:=Tryz.isAgg340
 z143:=Tryz.sizeOf340
 v143:=Tryz.zeroValue340
 t145:=Tryz.underlying342
 a145:=Tryz.isAgg342
 z145:=Tryz.sizeOf342
 v145:=Tryz.zeroValue342
 t167:=Tryz.underlying297
 a167:=Tryz.isAgg297
 z167:=Tryz.sizeOf297
 v167:=Tryz.zeroValue297
 t168:=Tryz.underlying300
 a168:=Tryz.isAgg300
 z168:=Tryz.sizeOf300
 v168:=Tryz.zeroValue300
 t171:=Tryz.underlying292
 a171:=Tryz.isAgg292
 z171:=Tryz.sizeOf292
 v171:=Tryz.zeroValue292
 t173:=Tryz.underlying294
 a173:=Tryz.isAgg294
 z173:=Tryz.sizeOf294
 v173:=Tryz.zeroValue294
 t175:=Tryz.underlying322
 a175:=Tryz.isAgg322
 z175:=Tryz.sizeOf322
 v175:=Tryz.zeroValue322
 t210:=Tryz.underlying325
 a210:=Tryz.isAgg325
 z210:=Tryz.sizeOf325
 v210:=Tryz.zeroValue325
 t212:=Tryz.underlying318
 a212:=Tryz.isAgg318
 z212:=Tryz.sizeOf318
 v212:=Tryz.zeroValue318
 t213:=Tryz.underlying319
 a213:=Tryz.isAgg319
 z213:=Tryz.sizeOf319
 t232:=Tryz.underlying344
 a232:=Tryz.isAgg344
 z232:=Tryz.sizeOf344
 v232:=Tryz.zeroValue344
 t233:=Tryz.underlying345
 a233:=Tryz.isAgg345
 z233:=Tryz.sizeOf345
 v233:=Tryz.zeroValue345
 g15:=by kernel_rfl
 g16:=by kernel_rfl
 g17:=by kernel_rfl
 g18:=by kernel_rfl
 g19:=by kernel_rfl}
def Tryz.laysM171_ren:Go.Shelf.Ren:=⟨fun|171=>124|243=>191|246=>230|283=>261|284=>262|285=>263|286=>264|129=>249|317=>295|318=>296|319=>297|320=>298|337=>311|338=>312|n=>n,fun|3=>3|9=>9|2=>2|4=>4|171=>292|0=>0|53=>33|37=>137|5=>5|173=>294|212=>318|51=>236|20=>20|213=>319|46=>183|232=>344|233=>345|n=>n,fun|17=>1|18=>6|19=>7|n=>n⟩
theorem Tryz.laysM171:Go.Proofs.LaysM.n171 Tryz.prog Tryz.laysM171_ren:={
 mixed:=by kernel_rfl
 f129:=Tryz.func249.trans (congrArg some (by kernel_rfl))
 f171:=Tryz.func124.trans (congrArg some (by kernel_rfl))
 f243:=Tryz.func191.trans (congrArg some (by kernel_rfl))
 f246:=Tryz.func230.trans (congrArg some (by kernel_rfl))
 f283:=Tryz.func261.trans (congrArg some (by kernel_rfl))
 f284:=Tryz.func262.trans (congrArg some (by kernel_rfl))
 f285:=Tryz.func263.trans (congrArg some (by kernel_rfl))
 f286:=Tryz.func264.trans (congrArg some (by kernel_rfl))
 f317:=Tryz.func295.trans (congrArg some (by kernel_rfl))
 f318:=Tryz.func296.trans (congrArg some (by kernel_rfl))
 f319:=Tryz.func297.trans (congrArg some (by kernel_rfl))
 f320:=Tryz.func298.trans (congrArg some (by kernel_rfl))
 f337:=Tryz.func311.trans (congrArg some (by kernel_rfl))
 f338:=Tryz.func312.trans (congrArg some (by kernel_rfl))
 t0:=Tryz.underlying0
 a0:=Tryz.isAgg0
 z0:=Tryz.sizeOf0
 v0:=Tryz.zeroValue0
 t2:=Tryz.underlying2
 a2:=Tryz.isAgg2
 z2:=Tryz.sizeOf2
 v2:=Tryz.zeroValue2
 t3:=Tryz.underlying3
 a3:=Tryz.isAgg3
 z3:=Tryz.sizeOf3
 v3:=Tryz.zeroValue3
 t4:=Tryz.underlying4
 a4:=Tryz.isAgg4
 z4:=Tryz.sizeOf4
 v4:=Tryz.zeroValue4
 t5:=Tryz.underlying5
 a5:=Tryz.isAgg5
 z5:=Tryz.sizeOf5
 v5:=Tryz.zeroValue5
 t9:=Tryz.underlying9
 a9:=Tryz.isAgg9
 z9:=Tryz.sizeOf9
 v9:=Tryz.zeroValue9
 t20:=Tryz.underlying20
 a20:=Tryz.isAgg20
 z20:=Tryz.sizeOf20
 v20:=Tryz.zeroValue20
 t37:=Tryz.underlying137
 a37:=Tryz.isAgg137
 z37:=Tryz.sizeOf137
 v37:=Tryz.zeroValue137
 t46:=Tryz.underlying183
 a46:=Tryz.isAgg183
 z46:=Tryz.sizeOf183
 v46:=Tryz.zeroValue183
 t51:=Tryz.underlying236
 a51:=Tryz.isAgg236
 z51:=Tryz.sizeOf236
 v51:=Tryz.zeroValue236
 t53:=Tryz.underlying33
 a53:=Tryz.isAgg33
 z53:=Tryz.sizeOf33
 v53:=Tryz.zeroValue33
 t171:=Tryz.underlying292
 a171:=Tryz.isAgg292
 z171:=Tryz.sizeOf292
 v171:=Tryz.zeroValue292
 t173:=Tryz.underlying294
 a173:=Tryz.isAgg294
 z173:=Tryz.sizeOf294
 v173:=Tryz.zeroValue294
 t212:=Tryz.underlying318
 a212:=Tryz.isAgg318
 z212:=Tryz.sizeOf318
 v212:=Tryz.zeroValue318
 t213:=Tryz.underlying319
 a213:=Tryz.isAgg319
 z213:=Tryz.sizeOf319
 t232:=Tryz.underlying344
 a232:=Tryz.isAgg344
 z232:=Tryz.sizeOf344
 v232:=Tryz.zeroValue344
 t233:=Tryz.underlying345
 a233:=Tryz.isAgg345
 z233:=Tryz.sizeOf345
 v233:=Tryz.zeroValue345
 g17:=by kernel_rfl
 g18:=by kernel_rfl
 g19:=by kernel_rfl
 i0:=by kernel_rfl
 i2:=by kernel_rfl
 i3:=by kernel_rfl
 i4:=by kernel_rfl
 i5:=by kernel_rfl
 i9:=by kernel_rfl
 i20:=by kernel_rfl
 i37:=by kernel_rfl
 i46:=by kernel_rfl
 i51:=by kernel_rfl
 i53:=by kernel_rfl
 i171:=by kernel_rfl
 i173:=by kernel_rfl
 i212:=by kernel_rfl
 i232:=by kernel_rfl
 i233:=by kernel_rfl
 m17:=by kernel_rfl
 m18:=by kernel_rfl
 m19:=by kernel_rfl}
def Tryz.laysC172_ren:Go.Shelf.Ren:=⟨fun|172=>197|244=>237|245=>238|247=>268|279=>269|280=>270|281=>271|282=>272|287=>300|316=>301|171=>124|205=>302|321=>313|322=>314|243=>191|246=>230|283=>261|284=>262|285=>263|286=>264|129=>249|317=>295|318=>296|319=>297|320=>298|337=>311|338=>312|n=>n,fun|9=>9|3=>3|75=>38|76=>190|4=>4|5=>5|167=>297|37=>137|0=>0|85=>298|2=>2|168=>300|53=>33|175=>322|46=>183|210=>325|127=>244|145=>342|143=>340|21=>21|171=>292|173=>294|212=>318|51=>236|20=>20|213=>319|232=>344|233=>345|80=>139|n=>n,fun|15=>2|16=>3|17=>1|18=>6|19=>7|n=>n⟩
theorem Tryz.laysC172:Go.Proofs.LaysC.n172 Tryz.prog Tryz.laysC172_ren:={
 mixed:=by kernel_rfl
 f129:=Tryz.func249.trans (congrArg some (by kernel_rfl))
 f171:=Tryz.func124.trans (congrArg some (by kernel_rfl))
 f172:=Tryz.func197.trans (congrArg some (by kernel_rfl))
 f205:=Tryz.func302.trans (congrArg some (by kernel_rfl))
 f243:=Tryz.func191.trans (congrArg some (by kernel_rfl))
 f244:=Tryz.func237.trans (congrArg some (by kernel_rfl))
 f245:=Tryz.func238.trans (congrArg some (by kernel_rfl))
 f246:=Tryz.func230.trans (congrArg some (by kernel_rfl))
 f247:=Tryz.func268.trans (congrArg some (by kernel_rfl))
 f279:=Tryz.func269.trans (congrArg some (by kernel_rfl))
 f280:=Tryz.func270.trans (congrArg some (by kernel_rfl))
 f281:=Tryz.func271.trans (congrArg some (by kernel_rfl))
 f282:=Tryz.func272.trans (congrArg some (by kernel_rfl))
 f283:=Tryz.func261.trans (congrArg some (by kernel_rfl))
 f284:=Tryz.func262.trans (congrArg some (by kernel_rfl))
 f285:=Tryz.func263.trans (congrArg some (by kernel_rfl))
 f286:=Tryz.func264.trans (congrArg some (by kernel_rfl))
 f287:=Tryz.func300.trans (congrArg some (by kernel_rfl))
 f316:=Tryz.func301.trans (congrArg some (by kernel_rfl))
 f317:=Tryz.func295.trans (congrArg some (by kernel_rfl))
 f318:=Tryz.func296.trans (congrArg some (by kernel_rfl))
 f319:=Tryz.func297.trans (congrArg some (by kernel_rfl))
 f320:=Tryz.func298.trans (congrArg some (by kernel_rfl))
 f321:=Tryz.func313.trans (congrArg some (by kernel_rfl))
 f322:=Tryz.func314.trans (congrArg some (by kernel_rfl))
 f337:=Tryz.func311.trans (congrArg some (by kernel_rfl))
 f338:=Tryz.func312.trans (congrArg some (by kernel_rfl))
 t0:=Tryz.underlying0
 a0:=Tryz.isAgg0
 z0:=Tryz.sizeOf0
 v0:=Tryz.zeroValue0
 t2:=Tryz.underlying2
 a2:=Tryz.isAgg2
 z2:=Tryz.sizeOf2
 v2:=Tryz.zeroValue2
 t3:=Tryz.underlying3
 a3:=Tryz.isAgg3
 z3:=Tryz.sizeOf3
 v3:=Tryz.zeroValue3
 t4:=Tryz.underlying4
 a4:=Tryz.isAgg4
 z4:=Tryz.sizeOf4
 v4:=Tryz.zeroValue4
 t5:=Tryz.underlying5
 a5:=Tryz.isAgg5
 z5:=Tryz.sizeOf5
 v5:=Tryz.zeroValue5
 t9:=Tryz.underlying9
 a9:=Tryz.isAgg9
 z9:=Tryz.sizeOf9
 v9:=Tryz.zeroValue9
 t20:=Tryz.underlying20
 a20:=Tryz.isAgg20
 z20:=Tryz.sizeOf20
 v20:=Tryz.zeroValue20
 t21:=Tryz.underlying21
 a21:=Tryz.isAgg21
 z21:=Tryz.sizeOf21
 v21:=Tryz.zeroValue21
 t37:=Tryz.underlying137
 a37:=Tryz.isAgg137
 z37:=Tryz.sizeOf137
 v37:=Tryz.zeroValue137
 t46:=Tryz.underlying183
 a46:=Tryz.isAgg183
 z46:=Tryz.sizeOf183
 v46:=Tryz.zeroValue183
 t51:=Tryz.underlying236
 a51:=Tryz.isAgg236
 z51:=Tryz.sizeOf236
 v51:=Tryz.zeroValue236
 t53:=Tryz.underlying33
 a53:=Tryz.isAgg33
 z53:=Tryz.sizeOf33
 v53:=Tryz.zeroValue33
 t75:=Tryz.underlying38
 a75:=Tryz.isAgg38
 z75:=Tryz.sizeOf38
 v75:=Tryz.zeroValue38
 t76:=Tryz.underlying190
 a76:=Tryz.isAgg190
 z76:=Tryz.sizeOf190
 v76:=Tryz.zeroValue190
 t85:=Tryz.underlying298
 a85:=Tryz.isAgg298
 z85:=Tryz.sizeOf298
 v85:=Tryz.zeroValue298
 t127:=Tryz.underlying244
 a127:=Tryz.isAgg244
 z127:=Tryz.sizeOf244
 v127:=Tryz.zeroValue244
 t143:=Tryz.underlying340
 a143:=Tryz.isAgg340
 z143:=Tryz.sizeOf340
 v143:=Tryz.zeroValue340
 t145:=Tryz.underlying342
 a145:=Tryz.isAgg342
 z145:=Tryz.sizeOf342
 v145:=Tryz.zeroValue342
 t167:=Tryz.underlying297
 a167:=Tryz.isAgg297
 z167:=Tryz.sizeOf297
 v167:=Tryz.zeroValue297
 t168:=Tryz.underlying300
 a168:=Tryz.isAgg300
 z168:=Tryz.sizeOf300
 v168:=Tryz.zeroValue300
 t171:=Tryz.underlying292
 a171:=Tryz.isAgg292
 z171:=Tryz.sizeOf292
 v171:=Tryz.zeroValue292
 t173:=Tryz.underlying294
 a173:=Tryz.isAgg294
 z173:=Tryz.sizeOf294
 v173:=Tryz.zeroValue294
 t175:=Tryz.underlying322
 a175:=Tryz.isAgg322
 z175:=Tryz.sizeOf322
 v175:=Tryz.zeroValue322
 t210:=Tryz.underlying325
 a210:=Tryz.isAgg325
 z210:=Tryz.sizeOf325
 v210:=Tryz.zeroValue325
 t212:=Tryz.underlying318
 a212:=Tryz.isAgg318
 z212:=Tryz.sizeOf318
 v212:=Tryz.zeroValue318
 t213:=Tryz.underlying319
 a213:=Tryz.isAgg319
 z213:=Tryz.sizeOf319
 t232:=Tryz.underlying344
 a232:=Tryz.isAgg344
 z232:=Tryz.sizeOf344
 v232:=Tryz.zeroValue344
 t233:=Tryz.underlying345
 a233:=Tryz.isAgg345
 z233:=Tryz.sizeOf345
 v233:=Tryz.zeroValue345
 g15:=by kernel_rfl
 g16:=by kernel_rfl
 g17:=by kernel_rfl
 g18:=by kernel_rfl
 g19:=by kernel_rfl
 t80:=Tryz.underlying139
 a80:=Tryz.isAgg139
 z80:=Tryz.sizeOf139
 v80:=Tryz.zeroValue139
 i0:=by kernel_rfl
 i2:=by kernel_rfl
 i3:=by kernel_rfl
 i4:=by kernel_rfl
 i5:=by kernel_rfl
 i9:=by kernel_rfl
 i20:=by kernel_rfl
 i21:=by kernel_rfl
 i37:=by kernel_rfl
 i46:=by kernel_rfl
 i51:=by kernel_rfl
 i53:=by kernel_rfl
 i75:=by kernel_rfl
 i76:=by kernel_rfl
 i80:=by kernel_rfl
 i85:=by kernel_rfl
 i127:=by kernel_rfl
 i143:=by kernel_rfl
 i145:=by kernel_rfl
 i167:=by kernel_rfl
 i168:=by kernel_rfl
 i171:=by kernel_rfl
 i173:=by kernel_rfl
 i175:=by kernel_rfl
 i210:=by kernel_rfl
 i212:=by kernel_rfl
 i232:=by kernel_rfl
 i233:=by kernel_rfl
 m15:=by kernel_rfl
 m16:=by kernel_rfl
 m17:=by kernel_rfl
 m18:=by kernel_rfl
 m19:=by kernel_rfl
 c0:=by kernel_rfl
 c2:=by kernel_rfl
 c3:=by kernel_rfl
 c4:=by kernel_rfl
 c5:=by kernel_rfl
 c9:=by kernel_rfl
 c20:=by kernel_rfl
 c21:=by kernel_rfl
 c37:=by kernel_rfl
 c46:=by kernel_rfl
 c51:=by kernel_rfl
 c53:=by kernel_rfl
 c75:=by kernel_rfl
 c76:=by kernel_rfl
 c80:=by kernel_rfl
 c85:=by kernel_rfl
 c127:=by kernel_rfl
 c143:=by kernel_rfl
 c145:=by kernel_rfl
 c167:=by kernel_rfl
 c168:=by kernel_rfl
 c171:=by kernel_rfl
 c173:=by kernel_rfl
 c175:=by kernel_rfl
 c210:=by kernel_rfl
 c212:=by kernel_rfl
 c213:=by kernel_rfl
 c232:=by kernel_rfl
 c233:=by kernel_rfl}
def Tryz.lays99_ren:Go.Shelf.Ren:=⟨fun|99=>231|206=>265|n=>n,fun|9=>9|4=>4|3=>3|n=>n,fun|n=>n⟩
theorem Tryz.lays99:Go.Proofs.Lays.n99 Tryz.prog Tryz.lays99_ren:={
 mixed:=by kernel_rfl
 f99:=Tryz.func231.trans (congrArg some (by kernel_rfl))
 f206:=Tryz.func265.trans (congrArg some (by kernel_rfl))
 t3:=Tryz.underlying3
 a3:=Tryz.isAgg3
 z3:=Tryz.sizeOf3
 v3:=Tryz.zeroValue3
 t4:=Tryz.underlying4
 a4:=Tryz.isAgg4
 z4:=Tryz.sizeOf4
 v4:=Tryz.zeroValue4
 t9:=Tryz.underlying9
 a9:=Tryz.isAgg9
 z9:=Tryz.sizeOf9
 v9:=Tryz.zeroValue9}
open Go.RowKit in
theorem Tryz.strconv_Atoi (s:ByteArray)(n:Int)(hl:s.size<=18)(h:Lib.atoi s.data.toList=some n)(w:World) :
    Calls Tryz.prog 197 #[.string s] w fun e w'=>e = .returned (.tuple #[.int .i64 n,.nilIface]) /\ ∃t,w'=Lib.bytesWorld w 5 t:=Any.strconv_Atoi Tryz.lays172 s n hl h w
open Go.RowKit Go.Sort Go.Lib in
theorem Tryz.strconv_Itoa (n:Int)(h0 : -9223372036854775808≤n)(h1:n≤9223372036854775807)(w:World)(htab:Lib.TabIs Tryz.prog w "internal/strconv.uint64pow10" .u64 Lib.pow10Tab) :
    Calls Tryz.prog 124 #[.int .i64 n] w fun e w'=>e = .returned (.string ⟨(Lib.itoa n).toArray⟩) /\ ∃k os,w'=grow (w.drewN k) os:=Any.strconv_Itoa Tryz.laysM171 n h0 h1 w htab
open Go.RowKit in
theorem Tryz.strconv_Atoi_err_var (s:ByteArray)(hl:s.size≤18)(h:Lib.atoi s.data.toList=none)(tp:TypeId)(p:Value)(w:World)(hvar:w.var? Tryz.prog "strconv.ErrSyntax" = some #[.iface tp p]) :
    Calls Tryz.prog 197 #[.string s] w fun e w' => ∃N,e = .returned (.tuple #[.int .i64 0,.iface 300 (.pointer (some ⟨N,0,none⟩))])/\w.heap.size<=N/\w'.heap[N]? = some (.cells #[.string ⟨#[65,116,111,105]⟩,.string s,.iface tp p] 325 (0,0))/\Below w.heap.size w w':=Any.strconv_Atoi_err_var Tryz.laysC172 s hl h tp p w hvar
open Go.RowKit Go.Lib in
theorem Tryz.strings_HasPrefix (s p:ByteArray)(w:World) :
    Calls Tryz.prog 231 #[.string s,.string p] w fun e w'=>e = .returned (.bool (Lib.hasPrefix s.data.toList p.data.toList))/\w'=w:=Any.strings_HasPrefix Tryz.lays99 s p w
end Go.Proofs
end
namespace Go.Proofs.YtnmpibjlnninjaaGreatDoor
set_option linter.unusedVariables false
set_option linter.unusedSimpArgs false
set_option maxRecDepth 100000
set_option maxHeartbeats 90000000
section
open Go Go.RowKit
theorem Xs (w:World):Calls Tryz.prog 192 #[.string ⟨#[48]⟩,.int .i64 0] w fun e w'=>e = .returned (.string ⟨#[]⟩)/\w'=w:=by
 go_enter Tryz.func192,Tryz.ntmps192
 go_wp2
 go_ret
 simp
theorem Xt (w:World):Calls Tryz.prog 192 #[.string ⟨#[48]⟩,.int .i64 1] w fun e w'=>e = .returned (.string ⟨#[48]⟩)/\w'=w:=by
 go_enter Tryz.func192,Tryz.ntmps192
 go_wp2
 go_ret
 simp
theorem Xu (w:World):Calls Tryz.prog 192 #[.string ⟨#[48]⟩,.int .i64 2] w fun e w'=>e = .returned (.string ⟨#[48,48]⟩)/\w'=w:=by
 have hm:=fun w=>Tryz.bits_Mul 1 2 aD aD w
 have hp:∀ (a b:ByteArray) w,Calls Tryz.prog 231 #[.string a,.string b] w fun e w'=>e = .returned (.bool (Lib.hasPrefix a.data.toList b.data.toList))/\w'=w:=fun a b w=>Tryz.strings_HasPrefix a b w
 go_enter Tryz.func192,Tryz.ntmps192
 go_wp2_with (first
  | (go_at_call 119;refine (hm _).mono ?_;rintro e w' ⟨rfl,rfl⟩)
  | (go_at_call 231;refine (hp _ _ _).mono ?_;rintro e w' ⟨rfl,rfl⟩))
 all_goals first|(go_ret;exact ⟨rfl,rfl⟩)|(exfalso;repeat (rename_i h;first|exact absurd h aD|clear h))
theorem Xv (w:World):Calls Tryz.prog 192 #[.string ⟨#[48]⟩,.int .i64 3] w fun e w'=>e = .returned (.string ⟨#[48,48,48]⟩)/\w'=w:=by
 have hm:=fun w=>Tryz.bits_Mul 1 3 aD aD w
 have hp:∀ (a b:ByteArray) w,Calls Tryz.prog 231 #[.string a,.string b] w fun e w'=>e = .returned (.bool (Lib.hasPrefix a.data.toList b.data.toList))/\w'=w:=fun a b w=>Tryz.strings_HasPrefix a b w
 go_enter Tryz.func192,Tryz.ntmps192
 go_wp2_with (first
  | (go_at_call 119;refine (hm _).mono ?_;rintro e w' ⟨rfl,rfl⟩)
  | (go_at_call 231;refine (hp _ _ _).mono ?_;rintro e w' ⟨rfl,rfl⟩))
 all_goals first|(go_ret;exact ⟨rfl,rfl⟩)|(exfalso;repeat (rename_i h;first|exact absurd h aD|clear h))
theorem GY (sx:ByteArray)(c:Int)(w:World)(hs:sx=⟨#[48]⟩)(h:0<=c/\c<=3):Calls Tryz.prog 192 #[.string sx,.int .i64 c] w fun e w'=>e = .returned (.string ⟨(Lib.repeatL [48] c.toNat).toArray⟩)/\Ext w w':=by
 subst hs
 have e0:c=0∨c=1∨c=2∨c=3:=ae
 rcases e0 with rfl|rfl|rfl|rfl
 .exact (Xs w).mono fun e w' ⟨h1,h2⟩=>⟨h1,h2▸Ext.refl _⟩
 .exact (Xt w).mono fun e w' ⟨h1,h2⟩=>⟨h1,h2▸Ext.refl _⟩
 .exact (Xu w).mono fun e w' ⟨h1,h2⟩=>⟨h1,h2▸Ext.refl _⟩
 exact (Xv w).mono fun e w' ⟨h1,h2⟩=>⟨h1,h2▸Ext.refl _⟩
end
section
open Go Go.RowKit
theorem S0:Tryz.prog.globalNamed "internal/strconv.uint64pow10" = some 1:=eF
theorem S1:Tryz.prog.globalNamed "strconv.ErrSyntax" = some 2:=eF
theorem S2:Tryz.prog.globalNamed "strconv.ErrRange" = some 3:=eF
structure Fi (w:World):Prop where
  pow:Lib.TabIs Tryz.prog w "internal/strconv.uint64pow10" .u64 Lib.pow10Tab
  err:∃tp p,w.var? Tryz.prog "strconv.ErrSyntax" = some #[.iface tp p]
  rng:∃tp p,w.var? Tryz.prog "strconv.ErrRange" = some #[.iface tp p]
theorem GZ {w w':World}{s:String}{g:Nat}(hg:Tryz.prog.globalNamed s=some g)(h:w'.heap[g]? = w.heap[g]?):w'.var? Tryz.prog s=w.var? Tryz.prog s:=by
 grind [World.var?]
theorem G0 {w:World}{s:String}{g:Nat}{cs:Array Value}(hg:Tryz.prog.globalNamed s=some g)(h:w.var? Tryz.prog s=some cs):g<w.heap.size:=by
 grind [World.var?,Array.getElem?_eq_some_iff]
def eh:ah:=⟨[1,2,3],Fi,fun w w' h ⟨h1,h2,h3⟩=>⟨by grind [Lib.TabIs,GZ,S0],by grind [GZ,S1],by grind [GZ,S2]⟩⟩
theorem CP {w:World}(h:Fi w):∀k∈eh.blk,k<w.heap.size:=fun k hk=>by
 rcases List.mem_cons.1 hk with rfl|hk
 .exact G0 S0 h.pow
 rcases List.mem_cons.1 hk with rfl|hk
 .exact G0 S1 h.err.choose_spec.choose_spec
 rw [List.mem_singleton.1 hk];exact G0 S2 h.rng.choose_spec.choose_spec
theorem zj (n:Int)(w:World)(ht:Fi w)(hn : -9223372036854775808<=n/\n<=9223372036854775807):Calls Tryz.prog 124 #[.int .i64 n] w fun e w'=>e = .returned (.string (dx n))/\Ext w w' :=
 (Tryz.strconv_Itoa n hn.1 hn.2 w ht.pow).mono fun e w' ⟨h1,k,os,h2⟩=>⟨h1,Ext.mk (h2▸Lib.below_grow _ w (Nat.le_refl _) k os)⟩
def aV (s:ByteArray):Int:=(Lib.atoi s.data.toList).getD 0
theorem Ng (s:ByteArray)(w:World)(h:(Lib.atoi s.data.toList).isSome=true)(hs:s.size<=18):Calls Tryz.prog 197 #[.string s] w fun e w'=>e = .returned (.tuple #[.int .i64 (aV s),.nilIface])/\Ext w w':=by
 obtain ⟨n,hn⟩:=Option.isSome_iff_exists.1 h
 refine (Tryz.strconv_Atoi s n hs hn w).mono fun e w' ⟨h1,t,h2⟩=>⟨?_,Ext.mk (h2▸Joins.below_bytesWorld _ w _ t (Nat.le_refl _))⟩
 grind [aV]
theorem Nh (s:ByteArray)(w:World)(own:List Nat)(H:Wd w (blks []++own) ([]++[ah.held w own]) [eh] w)(h:¬ (Lib.atoi s.data.toList).isSome=true)(hs:s.size<=18) :
 Calls Tryz.prog 197 #[.string s] w fun e w' => ∃z:Value,e = .returned (.tuple #[.int .i64 0,.iface 300 (z)])/\Wd w (blks []++own) ([]++[ah.held w own]) [] w':=by
 have ht:Fi w:=H.okF eh (List.Mem.head _)
 obtain ⟨tp,p,he⟩:=ht.err
 have hn:Lib.atoi s.data.toList=none:=sH
 refine (Tryz.strconv_Atoi_err_var s hs hn tp p w he).mono fun e w' ⟨N,h1,h2,h3,h4⟩=>⟨_,h1,?_⟩
 have hw:=H.grow (Ext.mk h4).upd
 exact ⟨hw.upd,hw.okB,(fun r hr=>by grind),hw.sep,hw.own,(fun k hk=>by cases hk)⟩
theorem Ni {s:ByteArray}(hs:s.size<=18) : -9223372036854775808<=aV s/\aV s<=9223372036854775807:=by
 unfold aV
 cases h:Lib.atoi s.data.toList with
 | none=>grind
 | some n =>
  have:=Lib.atoi_bound h sH
  grind
theorem tZ {n:Int}(h : -9223372036854775808<=n/\n<=9223372036854775807):(dx n).size<=21:=by
 show (⟨(Lib.itoa n).toArray⟩:ByteArray).size<=21
 grind [size_mk,Lib.itoa_length_le]
theorem Nj (n:Int):0<(dx n).size:=by
 show 0<(⟨(Lib.itoa n).toArray⟩:ByteArray).size
 grind [Lib.itoa,size_mk,Lib.decDigits_length,Lib.nDigits_pos]
theorem IC (k:Nat):(⟨(Lib.repeatL [48] k).toArray⟩:ByteArray).size=k:=by grind [size_mk,Lib.repeatL_length]
theorem Nk {n:Int}(h : -9223372036854775808<=n/\n<=9223372036854775807):(bm n).size<=25:=by
 grind [bm,ByteArray.size_append,IC,tZ]
end
section
open Go Go.RowKit
attribute [local irreducible] Run Rg Rq Qt Qa Stp Dg Do Dm bN
theorem G1 (aW aS aT aU:Value)(r:aA)(w:World)(own:List Nat)(H:HN w own [] [ah.ls aW r.aj,ah.ls aS r.Things,ah.ls aT r.Held,ah.ls aU r.Notes])(hk:Ok r):RS Tryz.prog 123 #[.agg #[aW,aS,aT,aU,iV r.ag,iV r.ai]] H (aK r) (fun s (z:Value×Value×Value×Value) => .agg #[z.1,z.2.1,z.2.2.1,z.2.2.2,iV s.ag,iV s.ai]) (fun _ _=>[]) (fun s z=>[ah.ls z.1 s.aj,ah.ls z.2.1 s.Things,ah.ls z.2.2.1 s.Held,ah.ls z.2.2.2 s.Notes]):=by
 have bS:=H.aZ 0 rfl
 have bH:=H.aZ 1 rfl
 have cu:=H.aZ 2 rfl
 have bT:=H.aZ 3 rfl
 have bw:=hk.wl;have bt:=hk.tl;have bh:=hk.hl;have bn:=hk.nl;have wN:=hk.w0;have wO:=hk.w1;have wP:=hk.t0;have wQ:=hk.t1
 refine R.eN H ?_
 refine R.nb fun b1=>?_
 refine R.nb fun b2=>?_
 refine R.loop (fun g_:Nat×Value×(List ak)=>[(1,pV b1),(2,pV b2),(6,aU),(7,iV (r.Notes.length:Int)),(8,iV (g_.1:Int))]) (fun g_=>[ah.box b2 sR 48,ah.box b1 [g_.2.1,aS,aT,aU,iV r.ag,iV r.ai] 48,ah.held w own]) (fun g_=>[ah.ls g_.2.1 g_.2.2,ah.ls aW r.aj,ah.ls aS r.Things,ah.ls aT r.Held,ah.ls aU r.Notes]) (fun g_=>g_.1<=r.Notes.length/\g_.2.2=fE (r.Notes.take g_.1) r.aj) (fun g_=>r.Notes.length-g_.1) (0,aW,r.aj) O (by exact ⟨ae,rfl⟩) (sF O) (dE [0,1,2] [0,0,1,2,3] O) ?_
 rintro ⟨j,vw,ws⟩ ⟨hj1,HW⟩
 dsimp only at *
 have hws:ws.length<=2000:=by rw [HW];exact Nat.le_trans (r6 _ _) hk.wl
 have hwr:∀w∈ws,0<=w.Rights/\w.Rights<=7:=by rw [HW];exact uA _ _ hk.ri
 have hok:Ok (⟨ws,r.Things,r.Held,[],r.ag,r.ai⟩:aA):=⟨hws,hk.tl,hk.hl,Nat.zero_le _,hwr,hk.w0,hk.w1,hk.t0,hk.t1⟩
 refine U ?_
 refine C (j<r.Notes.length) ?_ ?_ <;> intro h1
 .
  obtain ⟨x1,hx1⟩:=gE r.Notes j
  refine U ?_
  refine R.nb fun b3=>?_
  refine C (0<x1.ak) ?_ ?_ <;> intro h2
  .
   refine R.s O (s.nE Gp O O (fun w hw=>qv _ ws x1.ak w (hw.cq 0 O) ae) O) fun v1=>U ?_
   refine R.mp (fun _ hw=>hw.aR 0 _ O O)<|R.back (j+1,v1,(without ws x1.ak)) O (by exact ⟨ae,by rw [l8 hx1,if_pos ae,HW]⟩) aG (sF O) (ck [1,2,3] zX O)
  refine R.back (j+1,vw,ws) O (by exact ⟨ae,by rw [l8 hx1,if_neg ae,HW]⟩) aG (sF O) (ck [1,2,3] ct O)
 refine R.s O (s.pre (fun _ hw=>hw.FR (α:=Note)) (s.aJ [0,1,2] [1,3,4,0] _ _ _ O O O Gq O O (fun w own hw H=>sD vw aS aT nS (⟨ws,r.Things,r.Held,[],r.ag,r.ai⟩:aA) w own H af) O)) ?_
 rintro ⟨z1,z2,z3,z4⟩
 dsimp only
 refine U ?_
 have hz:aK r=(dF (⟨ws,r.Things,r.Held,[],r.ag,r.ai⟩:aA)):=by (unfold aK;rw [HW,List.take_of_length_le ae])
 rw [hz]
 exact R.x1 (z1,z2,z3,z4) [2] [0,1,2,3]
theorem Bg (aW aS aT aU:Value)(r:aA)(w:World)(own:List Nat)(H:HN w own [] [ah.ls aW r.aj,ah.ls aS r.Things,ah.ls aT r.Held,ah.ls aU r.Notes])(hk:Ok r):RC Tryz.prog 47 #[.agg #[aW,aS,aT,aU,iV r.ag,iV r.ai]] H (fun z:Value×Value×Value×Value => .agg #[z.1,z.2.1,z.2.2.1,z.2.2.2,iV r.ag,iV r.ai]) (fun _=>[]) (fun z=>[ah.ls z.1 r.aj,ah.ls z.2.1 r.Things,ah.ls z.2.2.1 r.Held,ah.ls z.2.2.2 r.Notes]):=by
 have bS:=H.aZ 0 rfl
 have bH:=H.aZ 1 rfl
 have cu:=H.aZ 2 rfl
 have bT:=H.aZ 3 rfl
 have bw:=hk.wl;have bt:=hk.tl;have bh:=hk.hl;have bn:=hk.nl;have wN:=hk.w0;have wO:=hk.w1;have wP:=hk.t0;have wQ:=hk.t1
 refine R.eN H ?_
 refine R.nb fun b1=>?_
 refine R.nb fun b2=>?_
 refine R.WK (fuel:=20) [0,1,2] [13,15,17,19] O O mixed O<|K.p (i:=0) O (.inr (ck [0,1,2] aX O)) O (fun w=>q.vp O AG O) O<|K.q (i:=1) O (ck [0,1,2] aX O) O (Qt.raw (q.ld 1 O O fZ O)) O<|K.p (i:=3) O (.inr (ck [0,1,2] aX O)) O (fun w=>q.vp O AH O) O<|K.q (i:=4) O (ck [0,1,2] aX O) O (Qt.raw (q.ld 1 O O kG O)) O<|K.p (i:=6) O (.inr (ck [0,1,2] aX O)) O (fun w=>q.vp O AJ O) O<|K.q (i:=7) O (ck [0,1,2] aX O) O (Qt.raw (q.ld 1 O O hX O)) O<|K.p (i:=9) O (.inr (ck [0,1,2] aX O)) O (fun w=>q.vp O AK O) O<|K.q (i:=10) O (ck [0,1,2] aX O) O (Qt.raw (q.ld 1 O O dh O)) O<|K.one (i:=2) O<|Ko.s (s.aJ [0,1,2] [0] _ _ _ O O O yt O O (fun w own hw H=>iZ aW r.aj w own H ae) O) (.inr fun _=>(ck [1,2,3] aX O)) (fun h=>by cases h) O fun z5=>?_
 refine K.p (i:=12) O (.inr (ck [1,2,3] aX O)) O (fun w=>q.vp O AG O) O<|K.one (i:=5) O<|Ko.s (s.aJ aX [1] _ _ _ O O O yu O O (fun w own hw H=>iC aS r.Things w own H ae) O) (.inr fun _=>(ck [2,3,4] aX O)) (fun h=>by cases h) O fun z6=>?_
 refine K.one (i:=8) O<|Ko.s (s.aJ ct [2] _ _ _ O O O Gn O O (fun w own hw H=>nq aT r.Held w own H ae) O) (.inr fun _=>(ck [3,4,5] aX O)) (fun h=>by cases h) O fun z7=>?_
 refine K.one (i:=11) O<|Ko.s (s.aJ mH [3] _ _ _ O O O oT O O (fun w own hw H=>eJ aU r.Notes w own H ae) O) (.inr fun _=>(ck [4,5,6] aX O)) (fun h=>by cases h) O fun z8=>?_
 refine K.one (i:=13) O<|Ko.s (s.lr 5 _ O O O (fun w hw=>Sl.cL (hw.row 3 O)) (.inr ⟨fZ,rfl⟩) (fun w hw=>br (Sl.one (hw.row 3 O)) bV) O O O) (.inl O) (fun _=>by kernel_rfl) O fun _=>?_
 refine K.p (i:=14) O (.inl ao) O (fun w=>q.vp O AH O) O<|K.one (i:=15) O<|Ko.s (s.lr 5 _ O O O (fun w hw=>Sl.cL (hw.row 2 O)) (.inr ⟨kG,rfl⟩) (fun w hw=>br (Sl.one (hw.row 2 O)) bV) O O O) (.inl O) (fun _=>by kernel_rfl) O fun _=>?_
 refine K.p (i:=16) O (.inl ao) O (fun w=>q.vp O AJ O) O<|K.one (i:=17) O<|Ko.s (s.lr 5 _ O O O (fun w hw=>Sl.cL (hw.row 1 O)) (.inr ⟨hX,rfl⟩) (fun w hw=>br (Sl.one (hw.row 1 O)) bV) O O O) (.inl O) (fun _=>by kernel_rfl) O fun _=>?_
 refine K.p (i:=18) O (.inl ao) O (fun w=>q.vp O AK O) O<|K.one (i:=19) O<|Ko.s (s.lr 5 _ O O O (fun w hw=>Sl.cL (hw.row 0 O)) (.inr ⟨dh,rfl⟩) (fun w hw=>br (Sl.one (hw.row 0 O)) bV) O O O) (.inl O) (fun _=>by kernel_rfl) O fun _=>?_
 refine K.done<|U ?_
 exact R.mp (fun _ hw=>hw.aR 3 _ O O)<|R.mp (fun _ hw=>hw.aR 2 _ O O)<|R.mp (fun _ hw=>hw.aR 1 _ O O)<|R.mp (fun _ hw=>hw.aR 0 _ O O)<|R.x1 (z5,z6,z7,z8) [2] [3,2,1,0]
end
end Go.Proofs.YtnmpibjlnninjaaGreatDoor
