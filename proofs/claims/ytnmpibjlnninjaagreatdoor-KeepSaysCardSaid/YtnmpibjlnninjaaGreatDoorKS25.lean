import Derived.Test.YtnmpibjlnninjaaGreatDoorKS24
import Derived.Lib.AppendIntMem
import Derived.Lib.AtoiBound
import Derived.Lib.ItoaLen
namespace Go.Proofs.YtnmpibjlnninjaaGreatDoor
set_option linter.unusedVariables false
set_option linter.unusedSimpArgs false
set_option maxRecDepth 100000
set_option maxHeartbeats 90000000
section
open Go Go.RowKit
set_option linter.unusedSectionVars false
theorem O5:Ml Tryz.prog 103 aA.val:=by
 have hS:Tryz.prog.underlying 103=some (.struct (Tryz.prog.fieldsOf 103)):=ai
 have hp:Tryz.prog.stoodInHeld 103=false:=ai
 refine vZ (cs:=aA.cs) ai fun x y w=>?_
 have u3:=Tryz.underlying9;have a3:=Tryz.isAgg9;have z3:=Tryz.sizeOf9;have u4:=Tryz.underlying3;have a4:=Tryz.isAgg3;have z4:=Tryz.sizeOf3
 obtain ⟨x1,x2,x3⟩:=x;obtain ⟨y1,y2,y3⟩:=y
 rw [Op.equal,Op.maxDepth,show (10000:Nat)=9999+1 from rfl,run_equalIn_agg w 9999 103 _ _ hS hp]
 simp only [Program.fieldsOf,Tryz.underlying103]
 go_simp
 have tl:∀a b:ByteArray,a.toList=b.toList↔a=b:=fun a b=>by have:=lN a b;rw [Bool.eq_iff_iff] at this;simpa using this
 by_cases h1:x1=y1 <;> by_cases h2:x2=y2 <;> by_cases h3:x3=y3 <;> simp [h1,h2,h3,tl]
theorem S4:Ml Tryz.prog 91 Note.val:=by
 have hS:Tryz.prog.underlying 91=some (.struct (Tryz.prog.fieldsOf 91)):=ai
 have hp:Tryz.prog.stoodInHeld 91=false:=ai
 refine vZ (cs:=Note.cs) ai fun x y w=>?_
 have u3:=Tryz.underlying9;have a3:=Tryz.isAgg9;have z3:=Tryz.sizeOf9;have u4:=Tryz.underlying3;have a4:=Tryz.isAgg3;have z4:=Tryz.sizeOf3
 obtain ⟨x1,x2,x3,x4⟩:=x;obtain ⟨y1,y2,y3,y4⟩:=y
 rw [Op.equal,Op.maxDepth,show (10000:Nat)=9999+1 from rfl,run_equalIn_agg w 9999 91 _ _ hS hp]
 simp only [Program.fieldsOf,Tryz.underlying91]
 go_simp
 have tl:∀a b:ByteArray,a.toList=b.toList↔a=b:=fun a b=>by have:=lN a b;rw [Bool.eq_iff_iff] at this;simpa using this
 by_cases h1:x1=y1 <;> by_cases h2:x2=y2 <;> by_cases h3:x3=y3 <;> by_cases h4:x4=y4 <;> simp [h1,h2,h3,h4,tl]
end
section
open Go Go.RowKit
attribute [local irreducible] Run Rg Rq Qt Qa Stp Dg Do Dm cD
theorem O6 (err:Int)(f:Int)(w:World)(h0:0<=err):Calls Tryz.prog 14 #[cD err,iV f] w fun e w'=>e = .returned (.bool (decide (err=f)))/\Ext w w':=by
 refine R.enter [] [(0,cD err),(1,iV f)] Tryz.func14 O O O O<|U ?_
 by_cases h1:err=0
 .
  refine U ?_
  by_cases h2:f=0
  .
   refine U ?_
   exact R.rv O Tryz.results14 O (rB (by (exact (decide_eq_true ae).symm)))
  refine U ?_
  exact R.rv O Tryz.results14 O (rB (by (exact (decide_eq_false ae).symm)))
 refine U ?_
 refine R.q (q.YI O ae Tryz.underlying95) O<|U ?_
 by_cases h3:0<f
 .
  refine U ?_
  by_cases h4:err=f
  .
   refine U ?_
   exact R.rv O Tryz.results14 O (rB (by (exact (decide_eq_true ae).symm)))
  refine U ?_
  exact R.rv O Tryz.results14 O (rB (by (exact (decide_eq_false ae).symm)))
 refine U ?_
 exact R.rv O Tryz.results14 O (rB (by (exact (decide_eq_false ae).symm)))
end
section
open Go Go.RowKit
attribute [local irreducible] Run Rg Rq Qt Qa Stp Dg Do Dm cD
theorem Au (bL:Value)(l:List Change)(most:Int)(w:World)(dK:Sl w bL l):Calls Tryz.prog 22 #[bL,iV most] w fun e w'=>e = .returned (.bool (tr l most))/\Ext w w':=by
 have wk:=dK.eV
 refine R.enter [] [(0,bL),(1,iV most)] Tryz.func22 O O O O<|R.qH dK<|U ?_
 by_cases h1:most<(l.length:Int)
 .
  refine U ?_
  exact R.rv O Tryz.results22 O (rB (by (unfold tr;(rw [decide_eq_false ae];rfl))))
 refine U ?_
 refine R.loop (fun k:Nat=>[(0,bL),(5,iV (k:Int))]) (fun k:Nat=>[]) (fun k:Nat=>[aj.ls bL l]) (fun k:Nat=>k<=l.length/\(l.take k).all pD=true) (fun k:Nat=>l.length-k) 0 O (by exact ⟨ae,rfl⟩) (sF O) (eI [] [0] O) ?_
 rintro k ⟨hk,HA⟩
 refine U ?_
 by_cases h2:k<l.length
 .
  refine U ?_
  obtain ⟨x1,hx1⟩:=gE l k
  refine R.q (q.idx (i:=k) (cb 0 O) O O bj O hx1) O<|R.q (q.ew (j':=0) (cb 0 O) hx1 O bZ O) O<|R.q (q.gh (cb 0 O) hx1 O dC O) O<|U ?_
  by_cases h3:20<x1.Key.size
  .
   refine U ?_
   exact R.rv O Tryz.results22 O (rB (by (unfold tr;(rw [xK hx1 (show pD _=false from by unfold pD;simp;omega)];simp))))
  refine U ?_
  refine R.qg O (q.idx (i:=k) (cb 0 O) O O bj O hx1) O<|R.qg O (q.ew (j':=1) (cb 0 O) hx1 O zA O) O<|R.qg O (q.gh (cb 0 O) hx1 O dC O) O<|U ?_
  by_cases h4:40<x1.Val.size
  .
   refine U ?_
   exact R.rv O Tryz.results22 O (rB (by (unfold tr;(rw [xK hx1 (show pD _=false from by unfold pD;simp;omega)];simp))))
  refine U ?_
  refine R.q (q.aL (r:=((k+1:Nat):Int)) O O) O<|U ?_
  refine R.back (k+1) O (by (exact ⟨ae,E9 hx1 HA (by unfold pD;simp_all)⟩)) ae (sF O) (aN [] [0] O)
 refine U ?_
 exact R.rv O Tryz.results22 O (rB (by (unfold tr;(rw [decide_eq_true ae,ML ae HA];rfl))))
theorem Av (bL:Value)(l:List fL)(most:Int)(w:World)(dK:Sl w bL l)(Li:∀x∈l,Sl w x.cv x.Changes):Calls Tryz.prog 6 #[bL,iV most] w fun e w'=>e = .returned (.bool (qT l most))/\Ext w w':=by
 have wk:=dK.eV
 refine R.enter [] [(0,bL),(1,iV most)] Tryz.func6 O O O O<|R.qH dK<|R.oN (r:=aj.acts l) Li (Jk Li)<|U ?_
 by_cases h1:most<(l.length:Int)
 .
  refine U ?_
  exact R.rv O Tryz.results6 O (rB (by (unfold qT;(rw [decide_eq_false ae];rfl))))
 refine U ?_
 refine R.loop (fun k:Nat=>[(0,bL),(5,iV (k:Int))]) (fun k:Nat=>[]) (fun k:Nat=>[aj.acts l,aj.ls bL l]) (fun k:Nat=>k<=l.length/\(l.take k).all pE=true) (fun k:Nat=>l.length-k) 0 O (by exact ⟨ae,rfl⟩) (sF O) (eI [] [0,1] O) ?_
 rintro k ⟨hk,HA⟩
 refine U ?_
 by_cases h2:k<l.length
 .
  refine U ?_
  obtain ⟨x1,hx1⟩:=gE l k
  refine R.q (q.idx (i:=k) (cb 1 O) O O H4 O hx1) O<|R.q (q.ew (j':=1) (cb 1 O) hx1 O Cj O) O<|R.q (q.gh (cb 1 O) hx1 O dC O) O<|U ?_
  by_cases h3:100<x1.S.size
  .
   refine U ?_
   exact R.rv O Tryz.results6 O (rB (by (unfold qT;(rw [xK hx1 (show pE _=false from by unfold pE;simp;omega)];simp))))
  refine U ?_
  refine R.qg O (q.idx (i:=k) (cb 1 O) O O H4 O hx1) O<|R.qg O (q.ew (j':=10) (cb 1 O) hx1 O Lb O) O<|R.qg O (q.gh (cb 1 O) hx1 O jv O) O ?_
  rcases Bool.eq_false_or_eq_true (tr x1.Changes 70) with h4|h4
  .
   refine R.cg O (q.call Sn O O (fun w hw=>(cv (congrArg Value.bool h4) (Au _ x1.Changes 70 w ((fun _=>Wd.Tj (l:=l) 0 O (List.mem_of_getElem? hx1)) w hw) )))) O<|U ?_
   refine R.q (q.aL (r:=((k+1:Nat):Int)) O O) O<|U ?_
   refine R.back (k+1) O (by (exact ⟨ae,E9 hx1 HA (by unfold pE;simp_all)⟩)) ae (sF O) (aN [] [0,1] O)
  refine R.cg O (q.call Sn O O (fun w hw=>(cv (congrArg Value.bool h4) (Au _ x1.Changes 70 w ((fun _=>Wd.Tj (l:=l) 0 O (List.mem_of_getElem? hx1)) w hw) )))) O<|U ?_
  exact R.rv O Tryz.results6 O (rB (by (unfold qT;(rw [xK hx1 (show pE _=false from by unfold pE;simp_all)];simp))))
 refine U ?_
 exact R.rv O Tryz.results6 O (rB (by (unfold qT;(rw [decide_eq_true ae,ML ae HA];rfl))))
theorem Rh (a8 aW aX aZ:Value)(r:av)(a:fL)(w:World)(own:List Nat)(H:HN w own [] [aj.ls a8 r.ao,aj.ls aW r.Things,aj.ls aX r.Held,aj.ls aZ r.Notes])(hk:Ok r):RC Tryz.prog 44 #[.agg #[a8,aW,aX,aZ,iV r.ag,iV r.ah],.agg #[.string a.Kind,.string a.S,iV a.P.ay,iV a.P.Slot,iV a.Q.ay,iV a.Q.Slot,iV a.A,iV a.B,iV a.N,.int .u64 a.K,a.cv]] H (fun z:Value×Value×Value×Value => .tuple #[.agg #[z.1,z.2.1,z.2.2.1,z.2.2.2,iV (cp r a).1.ag,iV (cp r a).1.ah],cD (cp r a).2]) (fun _=>[]) (fun z=>[aj.ls z.1 (cp r a).1.ao,aj.ls z.2.1 (cp r a).1.Things,aj.ls z.2.2.1 (cp r a).1.Held,aj.ls z.2.2.2 (cp r a).1.Notes]):=by
 have cB:=H.bD 0 rfl
 have cd:=H.bD 1 rfl
 have df:=H.bD 2 rfl
 have cC:=H.bD 3 rfl
 refine R.bE [(0,.agg #[a8,aW,aX,aZ,iV r.ag,iV r.ah]),(1,.agg #[.string a.Kind,.string a.S,iV a.P.ay,iV a.P.Slot,iV a.Q.ay,iV a.Q.Slot,iV a.A,iV a.B,iV a.N,.int .u64 a.K,a.cv])] Tryz.func44 O O O O H<|U ?_
 refine R.s O (s.box O O O) fun b1=>?_
 refine R.s O (s.box O O O) fun b2=>?_
 refine R.s O (s.alloc cw O O) fun b3=>U ?_
 by_cases h1:a.Kind=⟨#[109,97,107,101]⟩
 .
  refine R.q (q.jG O O h1) O<|U ?_
  refine R.s O (s.aT bm bm _ _ _ O O O Xn O O (fun w own hw H=>LG a8 aW aX aZ r a.P a.A w own H af) O) ?_
  rintro ⟨z1,z2,z3,z4⟩
  dsimp only
  refine U ?_
  refine R.s O (s.dE 0 _ O O O (fun _ _=>rfl) (.inl ak) (fun w hw=>(dx (hw.bz 0 O) (hw.bz 1 O) (hw.bz 2 O) (hw.bz 3 O) O O)) O O O) fun _=>U ?_
  have hz:cp r a=(((cE r a.P a.A).1),(cE r a.P a.A).2):=by (unfold cp;(repeat' split) <;> rfl)
  rw [hz]
  exact R.w2 (z1,z2,z3,z4) [3] bm O Tryz.results44 (RV.cell 0 O O ak) (RV.tmp O) O O O (cq O O)
 refine R.q (q.jH O O h1) O<|U ?_
 by_cases h2:a.Kind=⟨#[103,105,118,101]⟩
 .
  refine R.q (q.jG O O h2) O<|U ?_
  refine R.s O (s.aT bm bm _ _ _ O O O Xo O O (fun w own hw H=>LH a8 aW aX aZ r a.P a.Q a.A a.B w own H af) O) ?_
  rintro ⟨z5,z6,z7,z8⟩
  dsimp only
  refine U ?_
  refine R.s O (s.dE 0 _ O O O (fun _ _=>rfl) (.inl ak) (fun w hw=>(dx (hw.bz 0 O) (hw.bz 1 O) (hw.bz 2 O) (hw.bz 3 O) O O)) O O O) fun _=>U ?_
  have hz:cp r a=(((dq r a.P a.Q a.A a.B).1),(dq r a.P a.Q a.A a.B).2):=by (unfold cp;(repeat' split) <;> first|rfl|(exfalso;simp_all;done)|(simp_all;done))
  rw [hz]
  exact R.w2 (z5,z6,z7,z8) [3] bm O Tryz.results44 (RV.cell 0 O O ak) (RV.tmp O) O O O (cq O O)
 refine R.q (q.jH O O h2) O<|U ?_
 by_cases h3:a.Kind=⟨#[109,111,118,101]⟩
 .
  refine R.q (q.jG O O h3) O<|U ?_
  refine R.s O (s.aT bm bm _ _ _ O O O Xp O O (fun w own hw H=>LJ a8 aW aX aZ r a.P a.A w own H af) O) ?_
  rintro ⟨z9,l7,mh,z12⟩
  dsimp only
  refine U ?_
  refine R.s O (s.dE 0 _ O O O (fun _ _=>rfl) (.inl ak) (fun w hw=>(dx (hw.bz 0 O) (hw.bz 1 O) (hw.bz 2 O) (hw.bz 3 O) O O)) O O O) fun _=>U ?_
  have hz:cp r a=(((fu r a.P a.A).1),(fu r a.P a.A).2):=by (unfold cp;(repeat' split) <;> first|rfl|(exfalso;simp_all;done)|(simp_all;done))
  rw [hz]
  exact R.w2 (z9,l7,mh,z12) [3] bm O Tryz.results44 (RV.cell 0 O O ak) (RV.tmp O) O O O (cq O O)
 refine R.q (q.jH O O h3) O<|U ?_
 by_cases h4:a.Kind=⟨#[100,114,111,112]⟩
 .
  refine R.q (q.jG O O h4) O<|U ?_
  refine R.s O (s.aT bm bm _ _ _ O O O TV O O (fun w own hw H=>LK a8 aW aX aZ r a.P w own H af) O) ?_
  rintro ⟨o6,xX,Hb,CG⟩
  dsimp only
  refine U ?_
  refine R.s O (s.dE 0 _ O O O (fun _ _=>rfl) (.inl ak) (fun w hw=>(dx (hw.bz 0 O) (hw.bz 1 O) (hw.bz 2 O) (hw.bz 3 O) O O)) O O O) fun _=>U ?_
  have hz:cp r a=(((fM r a.P).1),(fM r a.P).2):=by (unfold cp;(repeat' split) <;> first|rfl|(exfalso;simp_all;done)|(simp_all;done))
  rw [hz]
  exact R.w2 (o6,xX,Hb,CG) [3] bm O Tryz.results44 (RV.cell 0 O O ak) (RV.tmp O) O O O (cq O O)
 refine R.q (q.jH O O h4) O<|U ?_
 by_cases h5:a.Kind=⟨#[114,101,118,111,107,101]⟩
 .
  refine R.q (q.jG O O h5) O<|U ?_
  refine R.s O (s.aT bm bm _ _ _ O O O TW O O (fun w own hw H=>GJ a8 aW aX aZ r a.P w own H af) O) ?_
  rintro ⟨z17,xk,Bb,z20⟩
  dsimp only
  refine U ?_
  refine R.s O (s.dE 0 _ O O O (fun _ _=>rfl) (.inl ak) (fun w hw=>(dx (hw.bz 0 O) (hw.bz 1 O) (hw.bz 2 O) (hw.bz 3 O) O O)) O O O) fun _=>U ?_
  have hz:cp r a=(((dF r a.P).1),(dF r a.P).2):=by (unfold cp;(repeat' split) <;> first|rfl|(exfalso;simp_all;done)|(simp_all;done))
  rw [hz]
  exact R.w2 (z17,xk,Bb,z20) [3] bm O Tryz.results44 (RV.cell 0 O O ak) (RV.tmp O) O O O (cq O O)
 refine R.q (q.jH O O h5) O<|U ?_
 by_cases h6:a.Kind=⟨#[119,114,105,116,101]⟩
 .
  refine R.q (q.jG O O h6) O<|U ?_
  refine R.s O (s.aT bm bm _ _ _ O O O TX O O (fun w own hw H=>I3 a8 aW aX aZ r a.P a.S w own H af) O) ?_
  rintro ⟨z21,z22,z23,z24⟩
  dsimp only
  refine U ?_
  refine R.s O (s.dE 0 _ O O O (fun _ _=>rfl) (.inl ak) (fun w hw=>(dx (hw.bz 0 O) (hw.bz 1 O) (hw.bz 2 O) (hw.bz 3 O) O O)) O O O) fun _=>U ?_
  have hz:cp r a=(((dV r a.P a.S).1),(dV r a.P a.S).2):=by (unfold cp;(repeat' split) <;> first|rfl|(exfalso;simp_all;done)|(simp_all;done))
  rw [hz]
  exact R.w2 (z21,z22,z23,z24) [3] bm O Tryz.results44 (RV.cell 0 O O ak) (RV.tmp O) O O O (cq O O)
 refine R.q (q.jH O O h6) O<|U ?_
 by_cases h7:a.Kind=⟨#[115,101,110,100]⟩
 .
  refine R.q (q.jG O O h7) O<|U ?_
  refine R.s O (s.aT bm bm _ _ _ O O O TY O O (fun w own hw H=>LL a8 aW aX aZ r a.P a.S a.A a.B w own H af) O) ?_
  rintro ⟨z25,z26,z27,z28⟩
  dsimp only
  refine U ?_
  refine R.s O (s.dE 0 _ O O O (fun _ _=>rfl) (.inl ak) (fun w hw=>(dx (hw.bz 0 O) (hw.bz 1 O) (hw.bz 2 O) (hw.bz 3 O) O O)) O O O) fun _=>U ?_
  have hz:cp r a=(((cL r a.P a.S a.A a.B).1),(cL r a.P a.S a.A a.B).2):=by (unfold cp;(repeat' split) <;> first|rfl|(exfalso;simp_all;done)|(simp_all;done))
  rw [hz]
  exact R.w2 (z25,z26,z27,z28) [3] bm O Tryz.results44 (RV.cell 0 O O ak) (RV.tmp O) O O O (cq O O)
 refine R.q (q.jH O O h7) O<|U ?_
 by_cases h8:a.Kind=⟨#[116,97,107,101]⟩
 .
  refine R.q (q.jG O O h8) O<|U ?_
  refine R.s O (s.aT bm bm _ _ _ O O O T0 O O (fun w own hw H=>LM a8 aW aX aZ r a.P w own H af) O) ?_
  rintro ⟨z29,z30,z31,z32⟩
  dsimp only
  refine U ?_
  refine R.s O (s.alloc cw O O) fun b4=>?_
  refine R.s O (s.alloc dO O O) fun b5=>?_
  refine R.s O (s.dE 1 _ O O O (fun _ _=>rfl) (.inl ak) (fun w hw=>(dx (hw.bz 0 O) (hw.bz 1 O) (hw.bz 2 O) (hw.bz 3 O) O O)) O O O) fun _=>?_
  refine R.s O (s.st 0 _ O O O O (.inl cj) O O O O) fun _=>U ?_
  refine R.s O (s.dE 2 _ O O O (fun _ _=>rfl) (.inl ak) (fun w hw=>(dx (hw.bz 0 O) (hw.bz 1 O) (hw.bz 2 O) (hw.bz 3 O) O O)) O O O) fun _=>U ?_
  have hz:cp r a=(((cM r a.P).1),(cM r a.P).2.2.2):=by (unfold cp;(repeat' split) <;> first|rfl|(exfalso;simp_all;done)|(simp_all;done))
  rw [hz]
  exact R.w2 (z29,z30,z31,z32) [5] bm O Tryz.results44 (RV.cell 2 O O ak) (RV.tmp O) O O O (cq O O)
 refine R.q (q.jH O O h8) O<|U ?_
 refine R.s O (s.dE 0 _ O O O (fun _ _=>rfl) (.inl ak) (fun w hw=>(dx (hw.bz 0 O) (hw.bz 1 O) (hw.bz 2 O) (hw.bz 3 O) O O)) O O O) fun _=>U ?_
 have hz:cp r a=(r,0):=by (unfold cp;(repeat' split) <;> first|rfl|(exfalso;simp_all;done)|(simp_all;done))
 rw [hz]
 exact R.w2 (a8,aW,aX,aZ) [3] bm O Tryz.results44 (RV.cell 0 O O ak) (RV.tmp O) O O O (cq O (iT O))
theorem oG (O7 O8 O9 Pb:Value)(a:av)(Pd Pe Pf Pg:Value)(b:av)(w:World)(X4:Sl w O7 a.ao)(Ph:Sl w O8 a.Things)(Ri:Sl w O9 a.Held)(Pj:Sl w Pb a.Notes)(X5:Sl w Pd b.ao)(Pk:Sl w Pe b.Things)(Rj:Sl w Pf b.Held)(Pm:Sl w Pg b.Notes):Calls Tryz.prog 16 #[.agg #[O7,O8,O9,Pb,iV a.ag,iV a.ah],.agg #[Pd,Pe,Pf,Pg,iV b.ag,iV b.ah]] w fun e w'=>e = .returned (.bool (decide (a=b)))/\Ext w w':=by
 have ba:=Ph.eV;have bb:=Pk.eV;have bc:=Pj.eV;have bd:=Pm.eV
 refine R.enter [] [(0,.agg #[O7,O8,O9,Pb,iV a.ag,iV a.ah]),(1,.agg #[Pd,Pe,Pf,Pg,iV b.ag,iV b.ah])] Tryz.func16 O O O O<|U ?_
 refine R.s O (s.box O O O) fun b1=>?_
 refine R.s O (s.box O O O) fun b2=>U ?_
 rcases Bool.eq_false_or_eq_true (decide (a.ao=b.ao)) with h1|h1
 .
  refine R.c (q.call Sv O O (fun w hw=>(cv (congrArg Value.bool h1) (sR _ a.ao _ b.ao w ((fun _=>Wd.old X4) w hw) ((fun _=>Wd.old X5) w hw) )))) O<|U ?_
  rcases Bool.eq_false_or_eq_true (decide (a.Held=b.Held)) with h2|h2
  .
   refine R.c (q.call J2 O O (fun w hw=>(cv (congrArg Value.bool h2) (mC _ a.Held _ b.Held w ((fun _=>Wd.old Ri) w hw) ((fun _=>Wd.old Rj) w hw) )))) O<|U ?_
   by_cases h3:a.ag=b.ag
   .
    refine U ?_
    by_cases h4:a.ah=b.ah
    .
     refine U ?_
     by_cases h5:a.Things.length=b.Things.length
     .
      refine U ?_
      by_cases h6:a.Notes.length=b.Notes.length
      .
       refine U ?_
       refine R.loop (fun k:Nat=>[(2,.pointer (some ⟨b1,0,none⟩)),(3,.pointer (some ⟨b2,0,none⟩)),(7,iV (k:Int))]) (fun k:Nat=>[aj.box b2 [Pd,Pe,Pf,Pg,iV b.ag,iV b.ah] 48,aj.box b1 [O7,O8,O9,Pb,iV a.ag,iV a.ah] 48]) (fun k:Nat=>[]) (fun k:Nat=>k<=a.Things.length /\ ∀j,j<k->a.Things[j]? = b.Things[j]?) (fun k:Nat=>a.Things.length-k) 0 O (by exact ⟨ae,fun j hj=>absurd hj (Nat.not_lt_zero _)⟩) (sF O) (eI [0,1] [] O) ?_
       rintro k ⟨hk,HA⟩
       refine U ?_
       by_cases h7:k<a.Things.length
       .
        refine U ?_
        obtain ⟨x1,hx1⟩:=gE a.Things k
        obtain ⟨x2,hx2⟩:=gE b.Things k
        by_cases h8:x1=x2
        .
         refine R.dA O mixed ai<|U ?_
         refine Q.q (q.idx (i:=k) (fun _=>Wd.old Ph) O O eZ O hx1) O<|Q.q (q.dj (ds:=lB x1) (fun _=>Wd.old Ph) hx1 O fU O) O<|U ?_
         refine Q.q (q.idx (i:=k) (fun _=>Wd.old Pk) O O eZ O hx2) O<|Q.q (q.dj (ds:=lB x2) (fun _=>Wd.old Pk) hx2 O fU O) O<|Q.q (q.kQ (x:=x1) (y:=x2) O5 O O h8) O<|U ?_
         refine R.q (q.aL (r:=((k+1:Nat):Int)) O O) O<|U ?_
         refine R.back (k+1) O (by (exact ⟨ae,o5 HA hx1 hx2 af⟩)) ae (sF O) (eI [0,1] [] O)
        refine R.dA O mixed ai<|U ?_
        refine Q.q (q.idx (i:=k) (fun _=>Wd.old Ph) O O eZ O hx1) O<|Q.q (q.dj (ds:=lB x1) (fun _=>Wd.old Ph) hx1 O fU O) O<|U ?_
        refine Q.q (q.idx (i:=k) (fun _=>Wd.old Pk) O O eZ O hx2) O<|Q.q (q.dj (ds:=lB x2) (fun _=>Wd.old Pk) hx2 O fU O) O<|Q.q (q.kR (x:=x1) (y:=x2) O5 O O h8) O<|U ?_
        exact R.rv O Tryz.results16 O (rB (by (exact (decide_eq_false (fun e=>by subst e;have hq:=hx1.symm.trans hx2;injection hq;contradiction)).symm)))
       refine U ?_
       refine R.loop (fun k:Nat=>[(2,.pointer (some ⟨b1,0,none⟩)),(3,.pointer (some ⟨b2,0,none⟩)),(8,iV (k:Int))]) (fun k:Nat=>[aj.box b2 [Pd,Pe,Pf,Pg,iV b.ag,iV b.ah] 48,aj.box b1 [O7,O8,O9,Pb,iV a.ag,iV a.ah] 48]) (fun k:Nat=>[]) (fun k:Nat=>k<=a.Notes.length /\ ∀j,j<k->a.Notes[j]? = b.Notes[j]?) (fun k:Nat=>a.Notes.length-k) 0 O (by exact ⟨ae,fun j hj=>absurd hj (Nat.not_lt_zero _)⟩) (sF O) (eI [0,1] [] O) ?_
       rintro k ⟨hk2,HA2⟩
       refine U ?_
       by_cases h9:k<a.Notes.length
       .
        refine U ?_
        obtain ⟨x3,hx3⟩:=gE a.Notes k
        obtain ⟨x4,hx4⟩:=gE b.Notes k
        by_cases h10:x3=x4
        .
         refine R.dA O mixed ai<|U ?_
         refine Q.q (q.idx (i:=k) (fun _=>Wd.old Pj) O O dI O hx3) O<|Q.q (q.dj (ds:=mP x3) (fun _=>Wd.old Pj) hx3 O cj O) O<|U ?_
         refine Q.q (q.idx (i:=k) (fun _=>Wd.old Pm) O O dI O hx4) O<|Q.q (q.dj (ds:=mP x4) (fun _=>Wd.old Pm) hx4 O cj O) O<|Q.q (q.kQ (x:=x3) (y:=x4) S4 O O h10) O<|U ?_
         refine R.q (q.aL (r:=((k+1:Nat):Int)) O O) O<|U ?_
         refine R.back (k+1) O (by (exact ⟨ae,o5 HA2 hx3 hx4 af⟩)) ae (sF O) (eI [0,1] [] O)
        refine R.dA O mixed ai<|U ?_
        refine Q.q (q.idx (i:=k) (fun _=>Wd.old Pj) O O dI O hx3) O<|Q.q (q.dj (ds:=mP x3) (fun _=>Wd.old Pj) hx3 O cj O) O<|U ?_
        refine Q.q (q.idx (i:=k) (fun _=>Wd.old Pm) O O dI O hx4) O<|Q.q (q.dj (ds:=mP x4) (fun _=>Wd.old Pm) hx4 O cj O) O<|Q.q (q.kR (x:=x3) (y:=x4) S4 O O h10) O<|U ?_
        exact R.rv O Tryz.results16 O (rB (by (exact (decide_eq_false (fun e=>by subst e;have hq:=hx3.symm.trans hx4;injection hq;contradiction)).symm)))
       refine U ?_
       exact R.rv O Tryz.results16 O (rB (by (refine (decide_eq_true ?_).symm;have eT:=ru (a:=a.Things) (b:=b.Things) ae af HA;have eN:=ru (a:=a.Notes) (b:=b.Notes) ae af HA2;cases a;cases b;simp_all)))
      refine U ?_
      exact R.rv O Tryz.results16 O (rB (by (exact (decide_eq_false (fun e=>by subst e;omega)).symm)))
     refine U ?_
     exact R.rv O Tryz.results16 O (rB (by (exact (decide_eq_false (fun e=>by subst e;omega)).symm)))
    refine U ?_
    exact R.rv O Tryz.results16 O (rB (by (exact (decide_eq_false (fun e=>by subst e;omega)).symm)))
   refine U ?_
   exact R.rv O Tryz.results16 O (rB (by (exact (decide_eq_false (fun e=>by subst e;omega)).symm)))
  refine R.c (q.call J2 O O (fun w hw=>(cv (congrArg Value.bool h2) (mC _ a.Held _ b.Held w ((fun _=>Wd.old Ri) w hw) ((fun _=>Wd.old Rj) w hw) )))) O<|U ?_
  exact R.rv O Tryz.results16 O (rB (by (exact (decide_eq_false (fun e=>by subst e;(simp_all;done))).symm)))
 refine R.c (q.call Sv O O (fun w hw=>(cv (congrArg Value.bool h1) (sR _ a.ao _ b.ao w ((fun _=>Wd.old X4) w hw) ((fun _=>Wd.old X5) w hw) )))) O<|U ?_
 rcases Bool.eq_false_or_eq_true (decide (a.Held=b.Held)) with h11|h11
 .
  refine R.c (q.call J2 O O (fun w hw=>(cv (congrArg Value.bool h11) (mC _ a.Held _ b.Held w ((fun _=>Wd.old Ri) w hw) ((fun _=>Wd.old Rj) w hw) )))) O<|U ?_
  exact R.rv O Tryz.results16 O (rB (by (exact (decide_eq_false (fun e=>by subst e;(simp_all;done))).symm)))
 refine R.c (q.call J2 O O (fun w hw=>(cv (congrArg Value.bool h11) (mC _ a.Held _ b.Held w ((fun _=>Wd.old Ri) w hw) ((fun _=>Wd.old Rj) w hw) )))) O<|U ?_
 exact R.rv O Tryz.results16 O (rB (by (exact (decide_eq_false (fun e=>by subst e;(simp_all;done))).symm)))
theorem U8:cE (⟨[],[],[],[],1,1⟩:av) (⟨1,0⟩:Place) 1=(⟨[⟨1,1,7,0,0⟩],[⟨1,1,⟨#[]⟩⟩],[⟨⟨1,0⟩,1⟩],[],2,2⟩,0):=by
 have e:eW [] ⟨1,0⟩ 1=[⟨⟨1,0⟩,1⟩]:=by rw [put_eq List.Pairwise.nil];decide
 have a:mG [] ⟨1,0⟩=0:=by rw [at_eq List.Pairwise.nil];decide
 unfold cE eD fB
 rw [if_pos (.inl rfl),if_pos (by rw [a];rfl),if_neg aD]
 simp [e]
section
attribute [local irreducible] cE aM
end
end
end Go.Proofs.YtnmpibjlnninjaaGreatDoor
section
set_option maxRecDepth 100000
namespace Go.Proofs
open Go.Shelf
def Tryz.lays172_ren:Go.Shelf.Ren:=⟨fun|172=>197|244=>237|245=>238|247=>268|279=>269|280=>270|281=>271|282=>272|287=>300|316=>301|171=>124|205=>302|321=>313|322=>314|243=>191|246=>230|283=>261|284=>262|285=>263|286=>264|129=>249|317=>295|318=>296|319=>297|320=>298|337=>311|338=>312|n=>n,fun|9=>9|3=>3|75=>38|76=>190|4=>4|5=>5|167=>297|37=>137|0=>0|85=>298|2=>2|168=>300|53=>33|175=>322|46=>183|210=>325|127=>244|145=>342|143=>340|21=>21|171=>292|173=>294|212=>318|51=>236|20=>20|213=>319|232=>344|233=>345|80=>139|n=>n,fun|15=>2|16=>3|17=>1|18=>6|19=>7|n=>n⟩
theorem Tryz.lays172:Go.Proofs.Lays.n172 Tryz.prog Tryz.lays172_ren:={
 mixed:=by kernel_rfl
 f129:=Tryz.func249.trans (congrArg some (by kernel_rfl))
 f171:=Tryz.func124.trans (congrArg some (by kernel_rfl))
 f172:=Tryz.func197.trans (congrArg some (by kernel_rfl))
 f205:=Tryz.func302.trans (congrArg some (by kernel_rfl))
 f243:=Tryz.func191.trans (congrArg some (by kernel_rfl))
 f244:=Tryz.func237.trans (congrArg some (by kernel_rfl))
 f245:=Tryz.func238.trans (congrArg some (by kernel_rfl))
 f246:=Tryz.func230.trans (congrArg some (by kernel_rfl))
 f247:=Tryz.func268.trans (congrArg some (by kernel_rfl))
 f279:=Tryz.func269.trans (congrArg some (by kernel_rfl))
 f280:=Tryz.func270.trans (congrArg some (by kernel_rfl))
 f281:=Tryz.func271.trans (congrArg some (by kernel_rfl))
 f282:=Tryz.func272.trans (congrArg some (by kernel_rfl))
 f283:=Tryz.func261.trans (congrArg some (by kernel_rfl))
 f284:=Tryz.func262.trans (congrArg some (by kernel_rfl))
 f285:=Tryz.func263.trans (congrArg some (by kernel_rfl))
 f286:=Tryz.func264.trans (congrArg some (by kernel_rfl))
 f287:=Tryz.func300.trans (congrArg some (by kernel_rfl))
 f316:=Tryz.func301.trans (congrArg some (by kernel_rfl))
 f317:=Tryz.func295.trans (congrArg some (by kernel_rfl))
 f318:=Tryz.func296.trans (congrArg some (by kernel_rfl))
 f319:=Tryz.func297.trans (congrArg some (by kernel_rfl))
 f320:=Tryz.func298.trans (congrArg some (by kernel_rfl))
 f321:=Tryz.func313.trans (congrArg some (by kernel_rfl))
 f322:=Tryz.func314.trans (congrArg some (by kernel_rfl))
 f337:=Tryz.func311.trans (congrArg some (by kernel_rfl))
 f338:=Tryz.func312.trans (congrArg some (by kernel_rfl))
 t0:=Tryz.underlying0
 a0:=Tryz.isAgg0
 z0:=Tryz.sizeOf0
 v0:=Tryz.zeroValue0
 t2:=Tryz.underlying2
 a2:=Tryz.isAgg2
 z2:=Tryz.sizeOf2
 v2:=Tryz.zeroValue2
 t3:=Tryz.underlying3
 a3:=Tryz.isAgg3
 z3:=Tryz.sizeOf3
 v3:=Tryz.zeroValue3
 t4:=Tryz.underlying4
 a4:=Tryz.isAgg4
 z4:=Tryz.sizeOf4
 v4:=Tryz.zeroValue4
 t5:=Tryz.underlying5
 a5:=Tryz.isAgg5
 z5:=Tryz.sizeOf5
 v5:=Tryz.zeroValue5
 t9:=Tryz.underlying9
 a9:=Tryz.isAgg9
 z9:=Tryz.sizeOf9
 v9:=Tryz.zeroValue9
 t20:=Tryz.underlying20
 a20:=Tryz.isAgg20
 z20:=Tryz.sizeOf20
 v20:=Tryz.zeroValue20
 t21:=Tryz.underlying21
 a21:=Tryz.isAgg21
 z21:=Tryz.sizeOf21
 v21:=Tryz.zeroValue21
 t37:=Tryz.underlying137
 a37:=Tryz.isAgg137
 z37:=Tryz.sizeOf137
 v37:=Tryz.zeroValue137
 t46:=Tryz.underlying183
 a46:=Tryz.isAgg183
 z46:=Tryz.sizeOf183
 v46:=Tryz.zeroValue183
 t51:=Tryz.underlying236
 a51:=Tryz.isAgg236
 z51:=Tryz.sizeOf236
 v51:=Tryz.zeroValue236
 t53:=Tryz.underlying33
 a53:=Tryz.isAgg33
 z53:=Tryz.sizeOf33
 v53:=Tryz.zeroValue33
 t75:=Tryz.underlying38
 a75:=Tryz.isAgg38
 z75:=Tryz.sizeOf38
 v75:=Tryz.zeroValue38
 t76:=Tryz.underlying190
 a76:=Tryz.isAgg190
 z76:=Tryz.sizeOf190
 v76:=Tryz.zeroValue190
 t85:=Tryz.underlying298
 a85:=Tryz.isAgg298
 z85:=Tryz.sizeOf298
 v85:=Tryz.zeroValue298
 t127:=Tryz.underlying244
 a127:=Tryz.isAgg244
 z127:=Tryz.sizeOf244
 v127:=Tryz.zeroValue244
 t143:=Tryz.underlying340
 a143:=Tryz.isAgg340
 z143:=Tryz.sizeOf340
 v143:=Tryz.zeroValue340
 t145:=Tryz.underlying342
 a145:=Tryz.isAgg342
 z145:=Tryz.sizeOf342
 v145:=Tryz.zeroValue342
 t167:=Tryz.underlying297
 a167:=Tryz.isAgg297
 z167:=Tryz.sizeOf297
 v167:=Tryz.zeroValue297
 t168:=Tryz.underlying300
 a168:=Tryz.isAgg300
 z168:=Tryz.sizeOf300
 v168:=Tryz.zeroValue300
 t171:=Tryz.underlying292
 a171:=Tryz.isAgg292
 z171:=Tryz.sizeOf292
 v171:=Tryz.zeroValue292
 t173:=Tryz.underlying294
 a173:=Tryz.isAgg294
 z173:=Tryz.sizeOf294
 v173:=Tryz.zeroValue294
 t175:=Tryz.underlying322
 a175:=Tryz.isAgg322
 z175:=Tryz.sizeOf322
 v175:=Tryz.zeroValue322
 t210:=Tryz.underlying325
 a210:=Tryz.isAgg325
 z210:=Tryz.sizeOf325
 v210:=Tryz.zeroValue325
 t212:=Tryz.underlying318
 a212:=Tryz.isAgg318
 z212:=Tryz.sizeOf318
 v212:=Tryz.zeroValue318
 t213:=Tryz.underlying319
 a213:=Tryz.isAgg319
 z213:=Tryz.sizeOf319
 t232:=Tryz.underlying344
 a232:=Tryz.isAgg344
 z232:=Tryz.sizeOf344
 v232:=Tryz.zeroValue344
 t233:=Tryz.underlying345
 a233:=Tryz.isAgg345
 z233:=Tryz.sizeOf345
 v233:=Tryz.zeroValue345
 g15:=by kernel_rfl
 g16:=by kernel_rfl
 g17:=by kernel_rfl
 g18:=by kernel_rfl
 g19:=by kernel_rfl }
def Tryz.laysM171_ren:Go.Shelf.Ren:=⟨fun|171=>124|243=>191|246=>230|283=>261|284=>262|285=>263|286=>264|129=>249|317=>295|318=>296|319=>297|320=>298|337=>311|338=>312|n=>n,fun|3=>3|9=>9|2=>2|4=>4|171=>292|0=>0|53=>33|37=>137|5=>5|173=>294|212=>318|51=>236|20=>20|213=>319|46=>183|232=>344|233=>345|n=>n,fun|17=>1|18=>6|19=>7|n=>n⟩
theorem Tryz.laysM171:Go.Proofs.LaysM.n171 Tryz.prog Tryz.laysM171_ren:={
 mixed:=by kernel_rfl
 f129:=Tryz.func249.trans (congrArg some (by kernel_rfl))
 f171:=Tryz.func124.trans (congrArg some (by kernel_rfl))
 f243:=Tryz.func191.trans (congrArg some (by kernel_rfl))
 f246:=Tryz.func230.trans (congrArg some (by kernel_rfl))
 f283:=Tryz.func261.trans (congrArg some (by kernel_rfl))
 f284:=Tryz.func262.trans (congrArg some (by kernel_rfl))
 f285:=Tryz.func263.trans (congrArg some (by kernel_rfl))
 f286:=Tryz.func264.trans (congrArg some (by kernel_rfl))
 f317:=Tryz.func295.trans (congrArg some (by kernel_rfl))
 f318:=Tryz.func296.trans (congrArg some (by kernel_rfl))
 f319:=Tryz.func297.trans (congrArg some (by kernel_rfl))
 f320:=Tryz.func298.trans (congrArg some (by kernel_rfl))
 f337:=Tryz.func311.trans (congrArg some (by kernel_rfl))
 f338:=Tryz.func312.trans (congrArg some (by kernel_rfl))
 t0:=Tryz.underlying0
 a0:=Tryz.isAgg0
 z0:=Tryz.sizeOf0
 v0:=Tryz.zeroValue0
 t2:=Tryz.underlying2
 a2:=Tryz.isAgg2
 z2:=Tryz.sizeOf2
 v2:=Tryz.zeroValue2
 t3:=Tryz.underlying3
 a3:=Tryz.isAgg3
 z3:=Tryz.sizeOf3
 v3:=Tryz.zeroValue3
 t4:=Tryz.underlying4
 a4:=Tryz.isAgg4
 z4:=Tryz.sizeOf4
 v4:=Tryz.zeroValue4
 t5:=Tryz.underlying5
 a5:=Tryz.isAgg5
 z5:=Tryz.sizeOf5
 v5:=Tryz.zeroValue5
 t9:=Tryz.underlying9
 a9:=Tryz.isAgg9
 z9:=Tryz.sizeOf9
 v9:=Tryz.zeroValue9
 t20:=Tryz.underlying20
 a20:=Tryz.isAgg20
 z20:=Tryz.sizeOf20
 v20:=Tryz.zeroValue20
 t37:=Tryz.underlying137
 a37:=Tryz.isAgg137
 z37:=Tryz.sizeOf137
 v37:=Tryz.zeroValue137
 t46:=Tryz.underlying183
 a46:=Tryz.isAgg183
 z46:=Tryz.sizeOf183
 v46:=Tryz.zeroValue183
 t51:=Tryz.underlying236
 a51:=Tryz.isAgg236
 z51:=Tryz.sizeOf236
 v51:=Tryz.zeroValue236
 t53:=Tryz.underlying33
 a53:=Tryz.isAgg33
 z53:=Tryz.sizeOf33
 v53:=Tryz.zeroValue33
 t171:=Tryz.underlying292
 a171:=Tryz.isAgg292
 z171:=Tryz.sizeOf292
 v171:=Tryz.zeroValue292
 t173:=Tryz.underlying294
 a173:=Tryz.isAgg294
 z173:=Tryz.sizeOf294
 v173:=Tryz.zeroValue294
 t212:=Tryz.underlying318
 a212:=Tryz.isAgg318
 z212:=Tryz.sizeOf318
 v212:=Tryz.zeroValue318
 t213:=Tryz.underlying319
 a213:=Tryz.isAgg319
 z213:=Tryz.sizeOf319
 t232:=Tryz.underlying344
 a232:=Tryz.isAgg344
 z232:=Tryz.sizeOf344
 v232:=Tryz.zeroValue344
 t233:=Tryz.underlying345
 a233:=Tryz.isAgg345
 z233:=Tryz.sizeOf345
 v233:=Tryz.zeroValue345
 g17:=by kernel_rfl
 g18:=by kernel_rfl
 g19:=by kernel_rfl
 i0:=by kernel_rfl
 i2:=by kernel_rfl
 i3:=by kernel_rfl
 i4:=by kernel_rfl
 i5:=by kernel_rfl
 i9:=by kernel_rfl
 i20:=by kernel_rfl
 i37:=by kernel_rfl
 i46:=by kernel_rfl
 i51:=by kernel_rfl
 i53:=by kernel_rfl
 i171:=by kernel_rfl
 i173:=by kernel_rfl
 i212:=by kernel_rfl
 i232:=by kernel_rfl
 i233:=by kernel_rfl
 m17:=by kernel_rfl
 m18:=by kernel_rfl
 m19:=by kernel_rfl }
def Tryz.laysC172_ren:Go.Shelf.Ren:=⟨fun|172=>197|244=>237|245=>238|247=>268|279=>269|280=>270|281=>271|282=>272|287=>300|316=>301|171=>124|205=>302|321=>313|322=>314|243=>191|246=>230|283=>261|284=>262|285=>263|286=>264|129=>249|317=>295|318=>296|319=>297|320=>298|337=>311|338=>312|n=>n,fun|9=>9|3=>3|75=>38|76=>190|4=>4|5=>5|167=>297|37=>137|0=>0|85=>298|2=>2|168=>300|53=>33|175=>322|46=>183|210=>325|127=>244|145=>342|143=>340|21=>21|171=>292|173=>294|212=>318|51=>236|20=>20|213=>319|232=>344|233=>345|80=>139|n=>n,fun|15=>2|16=>3|17=>1|18=>6|19=>7|n=>n⟩
theorem Tryz.laysC172:Go.Proofs.LaysC.n172 Tryz.prog Tryz.laysC172_ren:={
 mixed:=by kernel_rfl
 f129:=Tryz.func249.trans (congrArg some (by kernel_rfl))
 f171:=Tryz.func124.trans (congrArg some (by kernel_rfl))
 f172:=Tryz.func197.trans (congrArg some (by kernel_rfl))
 f205:=Tryz.func302.trans (congrArg some (by kernel_rfl))
 f243:=Tryz.func191.trans (congrArg some (by kernel_rfl))
 f244:=Tryz.func237.trans (congrArg some (by kernel_rfl))
 f245:=Tryz.func238.trans (congrArg some (by kernel_rfl))
 f246:=Tryz.func230.trans (congrArg some (by kernel_rfl))
 f247:=Tryz.func268.trans (congrArg some (by kernel_rfl))
 f279:=Tryz.func269.trans (congrArg some (by kernel_rfl))
 f280:=Tryz.func270.trans (congrArg some (by kernel_rfl))
 f281:=Tryz.func271.trans (congrArg some (by kernel_rfl))
 f282:=Tryz.func272.trans (congrArg some (by kernel_rfl))
 f283:=Tryz.func261.trans (congrArg some (by kernel_rfl))
 f284:=Tryz.func262.trans (congrArg some (by kernel_rfl))
 f285:=Tryz.func263.trans (congrArg some (by kernel_rfl))
 f286:=Tryz.func264.trans (congrArg some (by kernel_rfl))
 f287:=Tryz.func300.trans (congrArg some (by kernel_rfl))
 f316:=Tryz.func301.trans (congrArg some (by kernel_rfl))
 f317:=Tryz.func295.trans (congrArg some (by kernel_rfl))
 f318:=Tryz.func296.trans (congrArg some (by kernel_rfl))
 f319:=Tryz.func297.trans (congrArg some (by kernel_rfl))
 f320:=Tryz.func298.trans (congrArg some (by kernel_rfl))
 f321:=Tryz.func313.trans (congrArg some (by kernel_rfl))
 f322:=Tryz.func314.trans (congrArg some (by kernel_rfl))
 f337:=Tryz.func311.trans (congrArg some (by kernel_rfl))
 f338:=Tryz.func312.trans (congrArg some (by kernel_rfl))
 t0:=Tryz.underlying0
 a0:=Tryz.isAgg0
 z0:=Tryz.sizeOf0
 v0:=Tryz.zeroValue0
 t2:=Tryz.underlying2
 a2:=Tryz.isAgg2
 z2:=Tryz.sizeOf2
 v2:=Tryz.zeroValue2
 t3:=Tryz.underlying3
 a3:=Tryz.isAgg3
 z3:=Tryz.sizeOf3
 v3:=Tryz.zeroValue3
 t4:=Tryz.underlying4
 a4:=Tryz.isAgg4
 z4:=Tryz.sizeOf4
 v4:=Tryz.zeroValue4
 t5:=Tryz.underlying5
 a5:=Tryz.isAgg5
 z5:=Tryz.sizeOf5
 v5:=Tryz.zeroValue5
 t9:=Tryz.underlying9
 a9:=Tryz.isAgg9
 z9:=Tryz.sizeOf9
 v9:=Tryz.zeroValue9
 t20:=Tryz.underlying20
 a20:=Tryz.isAgg20
 z20:=Tryz.sizeOf20
 v20:=Tryz.zeroValue20
 t21:=Tryz.underlying21
 a21:=Tryz.isAgg21
 z21:=Tryz.sizeOf21
 v21:=Tryz.zeroValue21
 t37:=Tryz.underlying137
 a37:=Tryz.isAgg137
 z37:=Tryz.sizeOf137
 v37:=Tryz.zeroValue137
 t46:=Tryz.underlying183
 a46:=Tryz.isAgg183
 z46:=Tryz.sizeOf183
 v46:=Tryz.zeroValue183
 t51:=Tryz.underlying236
 a51:=Tryz.isAgg236
 z51:=Tryz.sizeOf236
 v51:=Tryz.zeroValue236
 t53:=Tryz.underlying33
 a53:=Tryz.isAgg33
 z53:=Tryz.sizeOf33
 v53:=Tryz.zeroValue33
 t75:=Tryz.underlying38
 a75:=Tryz.isAgg38
 z75:=Tryz.sizeOf38
 v75:=Tryz.zeroValue38
 t76:=Tryz.underlying190
 a76:=Tryz.isAgg190
 z76:=Tryz.sizeOf190
 v76:=Tryz.zeroValue190
 t85:=Tryz.underlying298
 a85:=Tryz.isAgg298
 z85:=Tryz.sizeOf298
 v85:=Tryz.zeroValue298
 t127:=Tryz.underlying244
 a127:=Tryz.isAgg244
 z127:=Tryz.sizeOf244
 v127:=Tryz.zeroValue244
 t143:=Tryz.underlying340
 a143:=Tryz.isAgg340
 z143:=Tryz.sizeOf340
 v143:=Tryz.zeroValue340
 t145:=Tryz.underlying342
 a145:=Tryz.isAgg342
 z145:=Tryz.sizeOf342
 v145:=Tryz.zeroValue342
 t167:=Tryz.underlying297
 a167:=Tryz.isAgg297
 z167:=Tryz.sizeOf297
 v167:=Tryz.zeroValue297
 t168:=Tryz.underlying300
 a168:=Tryz.isAgg300
 z168:=Tryz.sizeOf300
 v168:=Tryz.zeroValue300
 t171:=Tryz.underlying292
 a171:=Tryz.isAgg292
 z171:=Tryz.sizeOf292
 v171:=Tryz.zeroValue292
 t173:=Tryz.underlying294
 a173:=Tryz.isAgg294
 z173:=Tryz.sizeOf294
 v173:=Tryz.zeroValue294
 t175:=Tryz.underlying322
 a175:=Tryz.isAgg322
 z175:=Tryz.sizeOf322
 v175:=Tryz.zeroValue322
 t210:=Tryz.underlying325
 a210:=Tryz.isAgg325
 z210:=Tryz.sizeOf325
 v210:=Tryz.zeroValue325
 t212:=Tryz.underlying318
 a212:=Tryz.isAgg318
 z212:=Tryz.sizeOf318
 v212:=Tryz.zeroValue318
 t213:=Tryz.underlying319
 a213:=Tryz.isAgg319
 z213:=Tryz.sizeOf319
 t232:=Tryz.underlying344
 a232:=Tryz.isAgg344
 z232:=Tryz.sizeOf344
 v232:=Tryz.zeroValue344
 t233:=Tryz.underlying345
 a233:=Tryz.isAgg345
 z233:=Tryz.sizeOf345
 v233:=Tryz.zeroValue345
 g15:=by kernel_rfl
 g16:=by kernel_rfl
 g17:=by kernel_rfl
 g18:=by kernel_rfl
 g19:=by kernel_rfl
 t80:=Tryz.underlying139
 a80:=Tryz.isAgg139
 z80:=Tryz.sizeOf139
 v80:=Tryz.zeroValue139
 i0:=by kernel_rfl
 i2:=by kernel_rfl
 i3:=by kernel_rfl
 i4:=by kernel_rfl
 i5:=by kernel_rfl
 i9:=by kernel_rfl
 i20:=by kernel_rfl
 i21:=by kernel_rfl
 i37:=by kernel_rfl
 i46:=by kernel_rfl
 i51:=by kernel_rfl
 i53:=by kernel_rfl
 i75:=by kernel_rfl
 i76:=by kernel_rfl
 i80:=by kernel_rfl
 i85:=by kernel_rfl
 i127:=by kernel_rfl
 i143:=by kernel_rfl
 i145:=by kernel_rfl
 i167:=by kernel_rfl
 i168:=by kernel_rfl
 i171:=by kernel_rfl
 i173:=by kernel_rfl
 i175:=by kernel_rfl
 i210:=by kernel_rfl
 i212:=by kernel_rfl
 i232:=by kernel_rfl
 i233:=by kernel_rfl
 m15:=by kernel_rfl
 m16:=by kernel_rfl
 m17:=by kernel_rfl
 m18:=by kernel_rfl
 m19:=by kernel_rfl
 c0:=by kernel_rfl
 c2:=by kernel_rfl
 c3:=by kernel_rfl
 c4:=by kernel_rfl
 c5:=by kernel_rfl
 c9:=by kernel_rfl
 c20:=by kernel_rfl
 c21:=by kernel_rfl
 c37:=by kernel_rfl
 c46:=by kernel_rfl
 c51:=by kernel_rfl
 c53:=by kernel_rfl
 c75:=by kernel_rfl
 c76:=by kernel_rfl
 c80:=by kernel_rfl
 c85:=by kernel_rfl
 c127:=by kernel_rfl
 c143:=by kernel_rfl
 c145:=by kernel_rfl
 c167:=by kernel_rfl
 c168:=by kernel_rfl
 c171:=by kernel_rfl
 c173:=by kernel_rfl
 c175:=by kernel_rfl
 c210:=by kernel_rfl
 c212:=by kernel_rfl
 c213:=by kernel_rfl
 c232:=by kernel_rfl
 c233:=by kernel_rfl }
def Tryz.lays99_ren:Go.Shelf.Ren:=⟨fun|99=>231|206=>265|n=>n,fun|9=>9|4=>4|3=>3|n=>n,fun|n=>n⟩
theorem Tryz.lays99:Go.Proofs.Lays.n99 Tryz.prog Tryz.lays99_ren:={
 mixed:=by kernel_rfl
 f99:=Tryz.func231.trans (congrArg some (by kernel_rfl))
 f206:=Tryz.func265.trans (congrArg some (by kernel_rfl))
 t3:=Tryz.underlying3
 a3:=Tryz.isAgg3
 z3:=Tryz.sizeOf3
 v3:=Tryz.zeroValue3
 t4:=Tryz.underlying4
 a4:=Tryz.isAgg4
 z4:=Tryz.sizeOf4
 v4:=Tryz.zeroValue4
 t9:=Tryz.underlying9
 a9:=Tryz.isAgg9
 z9:=Tryz.sizeOf9
 v9:=Tryz.zeroValue9 }
open Go.RowKit in
theorem Tryz.strconv_Atoi (s:ByteArray)(n:Int)(hl:s.size<=18)(h:Lib.atoi s.data.toList=some n)(w:World) :
    Calls Tryz.prog 197 #[.string s] w fun e w'=>e = .returned (.tuple #[.int .i64 n,.nilIface]) /\ ∃t,w'=Lib.bytesWorld w 5 t:=Any.strconv_Atoi Tryz.lays172 s n hl h w
open Go.RowKit Go.Sort Go.Lib in
theorem Tryz.strconv_Itoa (n:Int)(h0 : -9223372036854775808≤n)(h1:n≤9223372036854775807)(w:World)(htab:Lib.TabIs Tryz.prog w "internal/strconv.uint64pow10" .u64 Lib.pow10Tab) :
    Calls Tryz.prog 124 #[.int .i64 n] w fun e w'=>e = .returned (.string ⟨(Lib.itoa n).toArray⟩) /\ ∃k os,w'=grow (w.drewN k) os:=Any.strconv_Itoa Tryz.laysM171 n h0 h1 w htab
open Go.RowKit in
theorem Tryz.strconv_Atoi_err_var (s:ByteArray)(hl:s.size≤18)(h:Lib.atoi s.data.toList=none)(tp:TypeId)(p:Value)(w:World)(hvar:w.var? Tryz.prog "strconv.ErrSyntax" = some #[.iface tp p]) :
    Calls Tryz.prog 197 #[.string s] w fun e w' => ∃N,e = .returned (.tuple #[.int .i64 0,.iface 300 (.pointer (some ⟨N,0,none⟩))])/\w.heap.size<=N/\w'.heap[N]? = some (.cells #[.string ⟨#[65,116,111,105]⟩,.string s,.iface tp p] 325 (0,0))/\Below w.heap.size w w':=Any.strconv_Atoi_err_var Tryz.laysC172 s hl h tp p w hvar
open Go.RowKit Go.Lib in
theorem Tryz.strings_HasPrefix (s p:ByteArray)(w:World) :
    Calls Tryz.prog 231 #[.string s,.string p] w fun e w'=>e = .returned (.bool (Lib.hasPrefix s.data.toList p.data.toList))/\w'=w:=Any.strings_HasPrefix Tryz.lays99 s p w
end Go.Proofs
end
namespace Go.Proofs.YtnmpibjlnninjaaGreatDoor
set_option linter.unusedVariables false
set_option linter.unusedSimpArgs false
set_option maxRecDepth 100000
set_option maxHeartbeats 90000000
section
open Go Go.RowKit
theorem Zu (w:World):Calls Tryz.prog 192 #[.string ⟨#[48]⟩,.int .i64 0] w fun e w'=>e = .returned (.string ⟨#[]⟩)/\w'=w:=by
 go_enter Tryz.func192,Tryz.ntmps192
 go_wp2
 go_ret
 simp
theorem Zv (w:World):Calls Tryz.prog 192 #[.string ⟨#[48]⟩,.int .i64 1] w fun e w'=>e = .returned (.string ⟨#[48]⟩)/\w'=w:=by
 go_enter Tryz.func192,Tryz.ntmps192
 go_wp2
 go_ret
 simp
theorem Zw (w:World):Calls Tryz.prog 192 #[.string ⟨#[48]⟩,.int .i64 2] w fun e w'=>e = .returned (.string ⟨#[48,48]⟩)/\w'=w:=by
 have hm:=fun w=>Tryz.bits_Mul 1 2 aD aD w
 have hp:∀ (a b:ByteArray) w,Calls Tryz.prog 231 #[.string a,.string b] w fun e w'=>e = .returned (.bool (Lib.hasPrefix a.data.toList b.data.toList))/\w'=w:=fun a b w=>Tryz.strings_HasPrefix a b w
 go_enter Tryz.func192,Tryz.ntmps192
 go_wp2_with (first
  | (go_at_call 119;refine (hm _).mono ?_;rintro e w' ⟨rfl,rfl⟩)
  | (go_at_call 231;refine (hp _ _ _).mono ?_;rintro e w' ⟨rfl,rfl⟩))
 all_goals first|(go_ret;exact ⟨rfl,rfl⟩)|(exfalso;repeat (rename_i h;first|exact absurd h aD|clear h))
theorem Zx (w:World):Calls Tryz.prog 192 #[.string ⟨#[48]⟩,.int .i64 3] w fun e w'=>e = .returned (.string ⟨#[48,48,48]⟩)/\w'=w:=by
 have hm:=fun w=>Tryz.bits_Mul 1 3 aD aD w
 have hp:∀ (a b:ByteArray) w,Calls Tryz.prog 231 #[.string a,.string b] w fun e w'=>e = .returned (.bool (Lib.hasPrefix a.data.toList b.data.toList))/\w'=w:=fun a b w=>Tryz.strings_HasPrefix a b w
 go_enter Tryz.func192,Tryz.ntmps192
 go_wp2_with (first
  | (go_at_call 119;refine (hm _).mono ?_;rintro e w' ⟨rfl,rfl⟩)
  | (go_at_call 231;refine (hp _ _ _).mono ?_;rintro e w' ⟨rfl,rfl⟩))
 all_goals first|(go_ret;exact ⟨rfl,rfl⟩)|(exfalso;repeat (rename_i h;first|exact absurd h aD|clear h))
theorem I4 (sx:ByteArray)(c:Int)(w:World)(hs:sx=⟨#[48]⟩)(h:0<=c/\c<=3):Calls Tryz.prog 192 #[.string sx,.int .i64 c] w fun e w'=>e = .returned (.string ⟨(Lib.repeatL [48] c.toNat).toArray⟩)/\Ext w w':=by
 subst hs
 have e0:c=0∨c=1∨c=2∨c=3:=ae
 rcases e0 with rfl|rfl|rfl|rfl
 .exact (Zu w).mono fun e w' ⟨h1,h2⟩=>⟨h1,h2▸Ext.refl _⟩
 .exact (Zv w).mono fun e w' ⟨h1,h2⟩=>⟨h1,h2▸Ext.refl _⟩
 .exact (Zw w).mono fun e w' ⟨h1,h2⟩=>⟨h1,h2▸Ext.refl _⟩
 exact (Zx w).mono fun e w' ⟨h1,h2⟩=>⟨h1,h2▸Ext.refl _⟩
end
section
open Go Go.RowKit
theorem U9:Tryz.prog.globalNamed "internal/strconv.uint64pow10" = some 1:=ck
theorem Va:Tryz.prog.globalNamed "strconv.ErrSyntax" = some 2:=ck
structure GK (w:World):Prop where
  pow:Lib.TabIs Tryz.prog w "internal/strconv.uint64pow10" .u64 Lib.pow10Tab
  err:∃tp p,w.var? Tryz.prog "strconv.ErrSyntax" = some #[.iface tp p]
theorem Pn {w w':World}{s:String}{g:Nat}(hg:Tryz.prog.globalNamed s=some g)(h:w'.heap[g]? = w.heap[g]?):w'.var? Tryz.prog s=w.var? Tryz.prog s:=by
 grind [World.var?]
theorem Po {w:World}{s:String}{g:Nat}{cs:Array Value}(hg:Tryz.prog.globalNamed s=some g)(h:w.var? Tryz.prog s=some cs):g<w.heap.size:=by
 grind [World.var?,Array.getElem?_eq_some_iff]
def e9:aj:=⟨[1,2],GK,fun w w' h ⟨h1,h2⟩=>⟨by grind [Lib.TabIs,Pn,U9],by grind [Pn,Va]⟩⟩
theorem Ek {w:World}(h:GK w):∀k∈e9.blk,k<w.heap.size:=fun k hk=>by
 rcases List.mem_cons.1 hk with rfl|hk
 .exact Po U9 h.pow
 obtain ⟨tp,p,h2⟩:=h.err
 rw [List.mem_singleton.1 hk];exact Po Va h2
theorem Aw (n:Int)(w:World)(ht:GK w)(hn : -9223372036854775808<=n/\n<=9223372036854775807):Calls Tryz.prog 124 #[.int .i64 n] w fun e w'=>e = .returned (.string (eo n))/\Ext w w' :=
 (Tryz.strconv_Itoa n hn.1 hn.2 w ht.pow).mono fun e w' ⟨h1,k,os,h2⟩=>⟨h1,Ext.mk (h2▸Lib.below_grow _ w (Nat.le_refl _) k os)⟩
def aV (s:ByteArray):Int:=(Lib.atoi s.data.toList).getD 0
theorem Pp (s:ByteArray)(w:World)(h:(Lib.atoi s.data.toList).isSome=true)(hs:s.size<=18):Calls Tryz.prog 197 #[.string s] w fun e w'=>e = .returned (.tuple #[.int .i64 (aV s),.nilIface])/\Ext w w':=by
 obtain ⟨n,hn⟩:=Option.isSome_iff_exists.1 h
 refine (Tryz.strconv_Atoi s n hs hn w).mono fun e w' ⟨h1,t,h2⟩=>⟨?_,Ext.mk (h2▸Joins.below_bytesWorld _ w _ t (Nat.le_refl _))⟩
 grind [aV]
theorem Pq (s:ByteArray)(w:World)(own:List Nat)(H:Wd w (blks []++own) ([]++[aj.held w own]) [e9] w)(h:¬ (Lib.atoi s.data.toList).isSome=true)(hs:s.size<=18) :
 Calls Tryz.prog 197 #[.string s] w fun e w' => ∃z:Value,e = .returned (.tuple #[.int .i64 0,.iface 300 (z)])/\Wd w (blks []++own) ([]++[aj.held w own]) [] w':=by
 have ht:GK w:=H.okF e9 (List.Mem.head _)
 obtain ⟨tp,p,he⟩:=ht.err
 have hn:Lib.atoi s.data.toList=none:=tT
 refine (Tryz.strconv_Atoi_err_var s hs hn tp p w he).mono fun e w' ⟨N,h1,h2,h3,h4⟩=>⟨_,h1,?_⟩
 have hw:=H.grow (Ext.mk h4).upd
 exact ⟨hw.upd,hw.okB,(fun r hr=>by grind),hw.sep,hw.own,(fun k hk=>by cases hk)⟩
theorem Pr {s:ByteArray}(hs:s.size<=18) : -9223372036854775808<=aV s/\aV s<=9223372036854775807:=by
 unfold aV
 cases h:Lib.atoi s.data.toList with
 | none=>grind
 | some n =>
  have:=Lib.atoi_bound h tT
  grind
theorem u6 {n:Int}(h : -9223372036854775808<=n/\n<=9223372036854775807):(eo n).size<=21:=by
 show (⟨(Lib.itoa n).toArray⟩:ByteArray).size<=21
 grind [size_mk,Lib.itoa_length_le]
theorem Ps (n:Int):0<(eo n).size:=by
 show 0<(⟨(Lib.itoa n).toArray⟩:ByteArray).size
 grind [Lib.itoa,size_mk,Lib.decDigits_length,Lib.nDigits_pos]
theorem Ki (k:Nat):(⟨(Lib.repeatL [48] k).toArray⟩:ByteArray).size=k:=by grind [size_mk,Lib.repeatL_length]
theorem Pt {n:Int}(h : -9223372036854775808<=n/\n<=9223372036854775807):(bN n).size<=25:=by
 grind [bN,ByteArray.size_append,Ki,u6]
end
section
open Go Go.RowKit
attribute [local irreducible] Run Rg Rq Qt Qa Stp Dg Do Dm cD
theorem I5 (a8 aW aX aZ:Value)(r:av)(w:World)(own:List Nat)(H:HN w own [] [aj.ls a8 r.ao,aj.ls aW r.Things,aj.ls aX r.Held,aj.ls aZ r.Notes])(hk:Ok r):RC Tryz.prog 123 #[.agg #[a8,aW,aX,aZ,iV r.ag,iV r.ah]] H (fun z:Value×Value×Value×Value => .agg #[z.1,z.2.1,z.2.2.1,z.2.2.2,iV (aP r).ag,iV (aP r).ah]) (fun _=>[]) (fun z=>[aj.ls z.1 (aP r).ao,aj.ls z.2.1 (aP r).Things,aj.ls z.2.2.1 (aP r).Held,aj.ls z.2.2.2 (aP r).Notes]):=by
 have cB:=H.bD 0 rfl
 have cd:=H.bD 1 rfl
 have df:=H.bD 2 rfl
 have cC:=H.bD 3 rfl
 have bw:=hk.wl;have bt:=hk.tl;have bh:=hk.hl;have bn:=hk.nl;have ya:=hk.w0;have yb:=hk.w1;have yc:=hk.t0;have yd:=hk.t1
 refine R.bE [(0,.agg #[a8,aW,aX,aZ,iV r.ag,iV r.ah])] Tryz.func123 O O O O H<|U ?_
 refine R.s O (s.box O O O) fun b1=>?_
 refine R.s O (s.alloc cw O O) fun b2=>U ?_
 refine R.loop (fun g_:Nat×Value×(List ap)=>[(1,.pointer (some ⟨b1,0,none⟩)),(2,.pointer (some ⟨b2,0,none⟩)),(6,aZ),(7,iV (r.Notes.length:Int)),(8,iV (g_.1:Int))]) (fun g_=>[aj.box b2 t8 48,aj.box b1 [g_.2.1,aW,aX,aZ,iV r.ag,iV r.ah] 48,aj.held w own]) (fun g_=>[aj.ls g_.2.1 g_.2.2,aj.ls a8 r.ao,aj.ls aW r.Things,aj.ls aX r.Held,aj.ls aZ r.Notes]) (fun g_=>g_.1<=r.Notes.length/\g_.2.2=gG (r.Notes.take g_.1) r.ao) (fun g_=>r.Notes.length-g_.1) (0,a8,r.ao) O (by exact ⟨ae,rfl⟩) (sF O) (eI [0,1,2] [0,0,1,2,3] O) ?_
 rintro ⟨j,vw,ws⟩ ⟨hj1,HW⟩
 dsimp only at *
 have hws:ws.length<=2000:=by rw [HW];exact Nat.le_trans (tq _ _) hk.wl
 have hwr:∀w∈ws,0<=w.Rights/\w.Rights<=7:=by rw [HW];exact vD _ _ hk.ri
 have hok:Ok (⟨ws,r.Things,r.Held,[],r.ag,r.ah⟩:av):=⟨hws,hk.tl,hk.hl,Nat.zero_le _,hwr,hk.w0,hk.w1,hk.t0,hk.t1⟩
 refine U ?_
 by_cases h1:j<r.Notes.length
 .
  refine U ?_
  obtain ⟨x1,hx1⟩:=gE r.Notes j
  refine R.q (q.idx (i:=j) (cb 4 O) O O dI O hx1) O<|R.q (q.dj (ds:=mP x1) (cb 4 O) hx1 O cj O) O<|R.s O (s.alloc dO O O) fun b3=>?_
  refine R.s O (s.st 0 _ O O O O (.inl cj) O O O O) fun _=>U ?_
  by_cases h2:0<x1.ap
  .
   refine U ?_
   refine R.s O (s.oL Ir O O (fun w hw=>rD _ ws x1.ap w (hw.bz 0 O) ae) O) fun v1=>U ?_
   refine R.s O (s.dE 3 _ O O O (fun w hw=>Sl.bF (hw.row 0 O)) (.inr ⟨eF,rfl⟩) (fun w hw=>(aJ (Sl.one (hw.row 0 O)) bq)) O O O) fun _=>U ?_
   refine R.q (q.aL (r:=((j+1:Nat):Int)) O O) O<|U ?_
   refine R.mp (fun _ hw=>hw.bu 0 _ O O)<|R.back (j+1,v1,(without ws x1.ap)) O (by (exact ⟨ae,by rw [mZ hx1,if_pos ae,HW]⟩)) aO (sF O) (aN [1,2,3] [0,2,3,4,5] O)
  refine U ?_
  refine R.q (q.aL (r:=((j+1:Nat):Int)) O O) O<|U ?_
  refine R.back (j+1,vw,ws) O (by (exact ⟨ae,by rw [mZ hx1,if_neg ae,HW]⟩)) aO (sF O) (aN [1,2,3] da O)
 refine U ?_
 refine R.s O (s.st 1 _ O O O O (.inr ⟨cQ,rfl⟩) O O O O) fun _=>U ?_
 refine R.s O (s.pre (fun _ hw=>hw.Hl (α:=Note)) (s.aT [0,1,2] [1,3,4,0] _ _ _ O O O Iu O O (fun w own hw H=>tO vw aW aX (nS) (⟨ws,r.Things,r.Held,[],r.ag,r.ah⟩:av) w own H af) O)) ?_
 rintro ⟨z1,z2,z3,z4⟩
 dsimp only
 refine R.s O (s.dE 0 _ O O O (fun _ _=>rfl) (.inl ak) (fun w hw=>(dx (hw.bz 0 O) (hw.bz 1 O) (hw.bz 2 O) (hw.bz 3 O) O O)) O O O) fun _=>U ?_
 have hz:aP r=(dt (⟨ws,r.Things,r.Held,[],r.ag,r.ah⟩:av)):=by (unfold aP;rw [HW,List.take_of_length_le ae])
 rw [hz]
 exact R.w1 (z1,z2,z3,z4) [2] bm O Tryz.results123 (RV.cell 0 O O ak) O O O O
theorem CN (a8 aW aX aZ:Value)(r:av)(w:World)(own:List Nat)(H:HN w own [] [aj.ls a8 r.ao,aj.ls aW r.Things,aj.ls aX r.Held,aj.ls aZ r.Notes])(hk:Ok r):RC Tryz.prog 47 #[.agg #[a8,aW,aX,aZ,iV r.ag,iV r.ah]] H (fun z:Value×Value×Value×Value => .agg #[z.1,z.2.1,z.2.2.1,z.2.2.2,iV r.ag,iV r.ah]) (fun _=>[]) (fun z=>[aj.ls z.1 r.ao,aj.ls z.2.1 r.Things,aj.ls z.2.2.1 r.Held,aj.ls z.2.2.2 r.Notes]):=by
 have cB:=H.bD 0 rfl
 have cd:=H.bD 1 rfl
 have df:=H.bD 2 rfl
 have cC:=H.bD 3 rfl
 have bw:=hk.wl;have bt:=hk.tl;have bh:=hk.hl;have bn:=hk.nl;have ya:=hk.w0;have yb:=hk.w1;have yc:=hk.t0;have yd:=hk.t1
 refine R.bE [(0,.agg #[a8,aW,aX,aZ,iV r.ag,iV r.ah])] Tryz.func47 O O O O H<|U ?_
 refine R.s O (s.box O O O) fun b1=>?_
 refine R.s O (s.alloc cw O O) fun b2=>U ?_
 refine R.Y2 (fuel:=20) [0,1,2] [13,15,17,19] O O mixed O<|K.p (i:=0) O (.inr (aN [0,1,2] bm O)) O (fun w=>q.jA O vP O) O<|K.q (i:=1) O (aN [0,1,2] bm O) O (Qt.raw (q.ld 1 O O eF O)) O<|K.p (i:=3) O (.inr (aN [0,1,2] bm O)) O (fun w=>q.jA O vQ O) O<|K.q (i:=4) O (aN [0,1,2] bm O) O (Qt.raw (q.ld 1 O O gC O)) O<|K.p (i:=6) O (.inr (aN [0,1,2] bm O)) O (fun w=>q.jA O vR O) O<|K.q (i:=7) O (aN [0,1,2] bm O) O (Qt.raw (q.ld 1 O O eG O)) O<|K.p (i:=9) O (.inr (aN [0,1,2] bm O)) O (fun w=>q.jA O vS O) O<|K.q (i:=10) O (aN [0,1,2] bm O) O (Qt.raw (q.ld 1 O O cQ O)) O<|K.one (i:=2) O<|Ko.s (s.aT [0,1,2] [0] _ _ _ O O O zF O O (fun w own hw H=>jM a8 r.ao w own H ae) O) (.inr fun _=>(aN [1,2,3] bm O)) (fun h=>by cases h) O fun z5=>?_
 refine K.p (i:=12) O (.inr (aN [1,2,3] bm O)) O (fun w=>q.jA O vP O) O<|K.one (i:=5) O<|Ko.s (s.aT bm [1] _ _ _ O O O zG O O (fun w own hw H=>jr aW r.Things w own H ae) O) (.inr fun _=>(aN [2,3,4] bm O)) (fun h=>by cases h) O fun z6=>?_
 refine K.one (i:=8) O<|Ko.s (s.aT da [2] _ _ _ O O O Io O O (fun w own hw H=>oF aX r.Held w own H ae) O) (.inr fun _=>(aN [3,4,5] bm O)) (fun h=>by cases h) O fun z7=>?_
 refine K.one (i:=11) O<|Ko.s (s.aT nE [3] _ _ _ O O O pV O O (fun w own hw H=>fF aZ r.Notes w own H ae) O) (.inr fun _=>(aN [4,5,6] bm O)) (fun h=>by cases h) O fun z8=>?_
 refine K.one (i:=13) O<|Ko.s (s.dE 5 _ O O O (fun w hw=>Sl.bF (hw.row 3 O)) (.inr ⟨eF,rfl⟩) (fun w hw=>(aJ (Sl.one (hw.row 3 O)) bq)) O O O) (.inl O) (fun _=>by kernel_rfl) O fun _=>?_
 refine K.p (i:=14) O (.inl ai) O (fun w=>q.jA O vQ O) O<|K.one (i:=15) O<|Ko.s (s.dE 5 _ O O O (fun w hw=>Sl.bF (hw.row 2 O)) (.inr ⟨gC,rfl⟩) (fun w hw=>(aJ (Sl.one (hw.row 2 O)) bq)) O O O) (.inl O) (fun _=>by kernel_rfl) O fun _=>?_
 refine K.p (i:=16) O (.inl ai) O (fun w=>q.jA O vR O) O<|K.one (i:=17) O<|Ko.s (s.dE 5 _ O O O (fun w hw=>Sl.bF (hw.row 1 O)) (.inr ⟨eG,rfl⟩) (fun w hw=>(aJ (Sl.one (hw.row 1 O)) bq)) O O O) (.inl O) (fun _=>by kernel_rfl) O fun _=>?_
 refine K.p (i:=18) O (.inl ai) O (fun w=>q.jA O vS O) O<|K.one (i:=19) O<|Ko.s (s.dE 5 _ O O O (fun w hw=>Sl.bF (hw.row 0 O)) (.inr ⟨cQ,rfl⟩) (fun w hw=>(aJ (Sl.one (hw.row 0 O)) bq)) O O O) (.inl O) (fun _=>by kernel_rfl) O fun _=>?_
 refine K.done<|U ?_
 refine R.s O (s.dE 4 _ O O O (fun _ _=>rfl) (.inl ak) (fun w hw=>(dx (hw.row 3 O) (hw.row 2 O) (hw.row 1 O) (hw.row 0 O) O O)) O O O) fun _=>U ?_
 exact R.mp (fun _ hw=>hw.bu 3 _ O O)<|R.mp (fun _ hw=>hw.bu 2 _ O O)<|R.mp (fun _ hw=>hw.bu 1 _ O O)<|R.mp (fun _ hw=>hw.bu 0 _ O O)<|R.w1 (z5,z6,z7,z8) [2] dh O Tryz.results47 (RV.cell 0 O O ak) O O O O
end
end Go.Proofs.YtnmpibjlnninjaaGreatDoor
