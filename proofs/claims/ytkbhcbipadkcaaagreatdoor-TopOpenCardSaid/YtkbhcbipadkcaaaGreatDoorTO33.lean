import Derived.Test.YtkbhcbipadkcaaaGreatDoorTO32
namespace Go.Proofs.YtkbhcbipadkcaaaGreatDoor
set_option linter.unusedVariables false
set_option linter.unusedSimpArgs false
open Go Go.RowKit
set_option maxRecDepth 100000
set_option maxHeartbeats 1000000
theorem xV (bJ:Value)(l:List Change)(most:Int)(w:World)(ey:Sl w bJ l):Calls Tryz.prog 29 #[bJ,iV most] w fun e w'=>e = .returned (.bool (rY l most))/\Ext w w':=by
 have zw:=ey.fC
 refine R.enter [] [(0,bJ),(1,iV most)] Tryz.func29 O O O O<|R.pN ey<|R.reg O<|R.u 1 O<|R.nil<|R.reg O<|R.u 1 O<|R.q (q.len' (dr 0 O) O Tryz.underlying34) O<|R.u 1 O<|?_
 by_cases h1:most<(l.length:Int)
 .
  exact R.q (q.eL O O) O<|R.nil<|R.ay O O<|R.reg O<|R.u 1 O<|R.nil<|R.rv O Tryz.results29 O (rB (by (unfold rY;(rw [decide_eq_false (by omega)];rfl))))
 refine R.q (q.eu O O) O<|R.nil<|R.aB O O<|R.reg O<|R.u 1 O<|R.nil<|R.loop (fun k:Nat=>[(0,bJ),(5,iV (k:Int))]) (fun k:Nat=>[]) (fun k:Nat=>[af.ls bJ l]) (fun k:Nat=>k<=l.length/\(l.take k).all oI=true) (fun k:Nat=>l.length-k) 0 O (by exact ⟨by omega,rfl⟩) (sF O) (fun _=>Wd.pick [] [0] O O O) ?_
 rintro k ⟨hk,HA⟩
 refine R.reg O<|R.u 2 O<|R.q (q.len' (dr 0 O) O Tryz.underlying34) O<|?_
 by_cases h2:k<l.length
 .
  refine R.q (q.dy O O) O<|R.nil<|R.ay O O<|R.reg O<|R.u 2 O<|?_
  obtain ⟨x1,hx1⟩:∃z,l[k]? = some z:=⟨_,List.getElem?_eq_getElem (by omega)⟩
  refine R.q (q.idx (i:=k) (dr 0 O) O O cp O hx1) O<|R.q (q.nF (j':=0) (dr 0 O) hx1 O bM O) O<|R.q (q.lr (dr 0 O) hx1 O bK O) O<|R.q (q.iy O Tryz.underlying9) O<|?_
  by_cases h3:20<x1.Key.size
  .
   exact R.q (q.eL O O) O<|R.u 9 O<|R.nil<|R.ay O O<|R.reg O<|R.u 1 O<|R.nil<|R.rv O Tryz.results29 O (rB (by (unfold rY;(rw [vy hx1 (show oI _=false from by unfold oI;simp;omega)];simp))))
  refine R.q (q.eu O O) O<|R.u 3 O<|R.qg O (q.idx (i:=k) (dr 0 O) O O cp O hx1) O<|R.qg O (q.nF (j':=1) (dr 0 O) hx1 O cY O) O<|R.qg O (q.lr (dr 0 O) hx1 O bK O) O<|R.qg O (q.iy O Tryz.underlying9) O<|?_
  by_cases h4:40<x1.Val.size
  .
   exact R.qg O (q.eL O O) O<|R.u 1 O<|R.nil<|R.ay O O<|R.reg O<|R.u 1 O<|R.nil<|R.rv O Tryz.results29 O (rB (by (unfold rY;(rw [vy hx1 (show oI _=false from by unfold oI;simp;omega)];simp))))
  refine R.qg O (q.eu O O) O<|R.u 1 O<|R.nil<|R.aB O O<|R.reg O<|R.u 1 O<|R.q (q.bA (r:=((k+1:Nat):Int)) O O) O<|R.u 1 O<|R.nil<|R.back (k+1) O (by (exact ⟨by omega,CS hx1 HA (by unfold oI;simp_all)⟩)) (by omega) (sF O) (aC [] [0] O O O)
 exact R.q (q.cW O O) O<|R.nil<|R.aB O O<|R.reg O<|R.u 1 O<|R.nil<|R.rv O Tryz.results29 O (rB (by (unfold rY;(rw [decide_eq_true (by omega),JV (by omega) HA];rfl))))
theorem oU (bJ:Value)(l:List ej)(most:Int)(w:World)(ey:Sl w bJ l)(Hm:∀x∈l,Sl w x.cv x.Changes):Calls Tryz.prog 9 #[bJ,iV most] w fun e w'=>e = .returned (.bool (lK l most))/\Ext w w':=by
 have zw:=ey.fC
 refine R.enter [] [(0,bJ),(1,iV most)] Tryz.func9 O O O O<|R.pN ey<|R.nH (r:=af.acts l) Hm (FW Hm)<|R.reg O<|R.u 1 O<|R.nil<|R.reg O<|R.u 1 O<|R.q (q.len' (dr 1 O) O Tryz.underlying22) O<|R.u 1 O<|?_
 by_cases h1:most<(l.length:Int)
 .
  exact R.q (q.eL O O) O<|R.nil<|R.ay O O<|R.reg O<|R.u 1 O<|R.nil<|R.rv O Tryz.results9 O (rB (by (unfold lK;(rw [decide_eq_false (by omega)];rfl))))
 refine R.q (q.eu O O) O<|R.nil<|R.aB O O<|R.reg O<|R.u 1 O<|R.nil<|R.loop (fun k:Nat=>[(0,bJ),(5,iV (k:Int))]) (fun k:Nat=>[]) (fun k:Nat=>[af.acts l,af.ls bJ l]) (fun k:Nat=>k<=l.length/\(l.take k).all oJ=true) (fun k:Nat=>l.length-k) 0 O (by exact ⟨by omega,rfl⟩) (sF O) (fun _=>Wd.pick [] [0,1] O O O) ?_
 rintro k ⟨hk,HA⟩
 refine R.reg O<|R.u 2 O<|R.q (q.len' (dr 1 O) O Tryz.underlying22) O<|?_
 by_cases h2:k<l.length
 .
  refine R.q (q.dy O O) O<|R.nil<|R.ay O O<|R.reg O<|R.u 2 O<|?_
  obtain ⟨x1,hx1⟩:∃z,l[k]? = some z:=⟨_,List.getElem?_eq_getElem (by omega)⟩
  refine R.q (q.idx (i:=k) (dr 1 O) O O AB O hx1) O<|R.q (q.nF (j':=1) (dr 1 O) hx1 O tK O) O<|R.q (q.lr (dr 1 O) hx1 O bK O) O<|R.q (q.iy O Tryz.underlying9) O<|?_
  by_cases h3:100<x1.S.size
  .
   exact R.q (q.eL O O) O<|R.u 9 O<|R.nil<|R.ay O O<|R.reg O<|R.u 1 O<|R.nil<|R.rv O Tryz.results9 O (rB (by (unfold lK;(rw [vy hx1 (show oJ _=false from by unfold oJ;simp;omega)];simp))))
  refine R.q (q.eu O O) O<|R.u 3 O<|R.qg O (q.idx (i:=k) (dr 1 O) O O AB O hx1) O<|R.qg O (q.nF (j':=10) (dr 1 O) hx1 O Hb O) O<|R.qg O (q.lr (dr 1 O) hx1 O gx O) O<|?_
  rcases Bool.eq_false_or_eq_true (rY x1.Changes 70) with h4|h4
  .
   refine R.cg O (q.call NT O O (fun w hw=>(cv (congrArg Value.bool h4) (xV _ x1.Changes 70 w ((fun _=>Wd.RD (l:=l) 0 O (List.mem_of_getElem? hx1)) w hw) )))) O<|R.u 2 O<|R.nil<|R.aB O O<|R.reg O<|R.u 1 O<|R.q (q.bA (r:=((k+1:Nat):Int)) O O) O<|R.u 1 O<|R.nil<|R.back (k+1) O (by (exact ⟨by omega,CS hx1 HA (by unfold oJ;simp_all)⟩)) (by omega) (sF O) (aC [] [0,1] O O O)
  exact R.cg O (q.call NT O O (fun w hw=>(cv (congrArg Value.bool h4) (xV _ x1.Changes 70 w ((fun _=>Wd.RD (l:=l) 0 O (List.mem_of_getElem? hx1)) w hw) )))) O<|R.u 2 O<|R.nil<|R.ay O O<|R.reg O<|R.u 1 O<|R.nil<|R.rv O Tryz.results9 O (rB (by (unfold lK;(rw [vy hx1 (show oJ _=false from by unfold oJ;simp_all)];simp))))
 exact R.q (q.cW O O) O<|R.nil<|R.aB O O<|R.reg O<|R.u 1 O<|R.nil<|R.rv O Tryz.results9 O (rB (by (unfold lK;(rw [decide_eq_true (by omega),JV (by omega) HA];rfl))))
set_option maxRecDepth 100000 in
set_option maxHeartbeats 2000000 in
theorem MX (bH bB bC bD:Value)(r:aD)(a:ej)(w:World)(own:List Nat)(H:HN w own [] [af.ls bH r.aj,af.ls bB r.Things,af.ls bC r.Held,af.ls bD r.Notes])(hk:Ok r):RC Tryz.prog 24 #[.agg #[bH,bB,bC,bD,iV r.ae,iV r.ah],.agg #[.string a.Kind,.string a.S,iV a.P.az,iV a.P.Slot,iV a.Q.az,iV a.Q.Slot,iV a.A,iV a.B,iV a.N,.int .u64 a.K,a.cv]] H (fun z:Value×Value×Value×Value => .tuple #[.agg #[z.1,z.2.1,z.2.2.1,z.2.2.2,iV (cR r a).1.ae,iV (cR r a).1.ah],dh (cR r a).2]) (fun _=>[]) (fun z=>[af.ls z.1 (cR r a).1.aj,af.ls z.2.1 (cR r a).1.Things,af.ls z.2.2.1 (cR r a).1.Held,af.ls z.2.2.2 (cR r a).1.Notes]):=by
 have eJ:=H.cx 0 rfl
 have dM:=H.cx 1 rfl
 have fI:=H.cx 2 rfl
 have eK:=H.cx 3 rfl
 refine R.bF [(0,.agg #[bH,bB,bC,bD,iV r.ae,iV r.ah]),(1,.agg #[.string a.Kind,.string a.S,iV a.P.az,iV a.P.Slot,iV a.Q.az,iV a.Q.Slot,iV a.A,iV a.B,iV a.N,.int .u64 a.K,a.cv])] Tryz.func24 O O O O H<|R.reg O<|R.s O (s.box O O O) fun b1=>R.s O (s.box O O O) fun b2=>R.s O (s.alloc dQ O O) fun b3=>R.u 1 O<|R.nil<|R.reg O<|R.q (q.aO O zi O) O<|R.q (q.ld 1 O O bK O) O<|R.nil<|R.reg O<|?_
 by_cases h1:a.Kind=⟨#[109,97,107,101]⟩
 .
  refine R.q (q.pH O O h1) O<|R.u 1 O<|R.nil<|R.ay O O<|R.reg O<|R.q (q.dv 2 O O ar) O<|R.q (q.aO O j0 O) O<|R.q (q.G3 (ds:=fw a.P) 1 O O bP O) O<|R.q (q.aO O qz O) O<|R.q (q.ld 1 O O av O) O<|R.s O (s.aW bS bS _ _ _ O O O RU O O (fun w own hw H=>H4 bH bB bC bD r a.P a.A w own H ‹_›) O) ?_
  rintro ⟨z1,z2,z3,z4⟩
  dsimp only
  refine R.u 2 O<|R.s O (s.fZ 0 _ O O O (fun _ _=>rfl) (.inl ar) (fun w hw=>(ag (Sl.one (hw.bT 0 O)) (ag (Sl.one (hw.bT 1 O)) (ag (Sl.one (hw.bT 2 O)) (ag (Sl.one (hw.bT 3 O)) (ag O (ag O aP))))))) O O O) fun _=>R.u 1 O<|R.nil ?_
  have hz:cR r a=(((dV r a.P a.A).1),(dV r a.P a.A).2):=by (unfold cR;(repeat' split) <;> rfl)
  rw [hz]
  exact R.w2 (z1,z2,z3,z4) [3] bS O Tryz.results24 (RV.cell 0 O O ar) (RV.tmp O) O O O (dz O O)
 refine R.q (q.pI O O h1) O<|R.u 1 O<|R.nil<|R.aB O O<|R.reg O<|?_
 by_cases h2:a.Kind=⟨#[103,105,118,101]⟩
 .
  refine R.q (q.pH O O h2) O<|R.u 1 O<|R.nil<|R.ay O O<|R.reg O<|R.q (q.dv 2 O O ar) O<|R.q (q.aO O j0 O) O<|R.q (q.G3 (ds:=fw a.P) 1 O O bP O) O<|R.q (q.aO O Ha O) O<|R.q (q.G3 (ds:=fw a.Q) 1 O O bP O) O<|R.q (q.aO O qz O) O<|R.q (q.ld 1 O O av O) O<|R.q (q.aO O zj O) O<|R.q (q.ld 1 O O av O) O<|R.s O (s.aW bS bS _ _ _ O O O RX O O (fun w own hw H=>H5 bH bB bC bD r a.P a.Q a.A a.B w own H ‹_›) O) ?_
  rintro ⟨z5,z6,z7,z8⟩
  dsimp only
  refine R.u 2 O<|R.s O (s.fZ 0 _ O O O (fun _ _=>rfl) (.inl ar) (fun w hw=>(ag (Sl.one (hw.bT 0 O)) (ag (Sl.one (hw.bT 1 O)) (ag (Sl.one (hw.bT 2 O)) (ag (Sl.one (hw.bT 3 O)) (ag O (ag O aP))))))) O O O) fun _=>R.u 1 O<|R.nil ?_
  have hz:cR r a=(((fq r a.P a.Q a.A a.B).1),(fq r a.P a.Q a.A a.B).2):=by (unfold cR;(repeat' split) <;> first|rfl|(exfalso;simp_all;done)|(simp_all;done))
  rw [hz]
  exact R.w2 (z5,z6,z7,z8) [3] bS O Tryz.results24 (RV.cell 0 O O ar) (RV.tmp O) O O O (dz O O)
 refine R.q (q.pI O O h2) O<|R.u 1 O<|R.nil<|R.aB O O<|R.reg O<|?_
 by_cases h3:a.Kind=⟨#[109,111,118,101]⟩
 .
  refine R.q (q.pH O O h3) O<|R.u 1 O<|R.nil<|R.ay O O<|R.reg O<|R.q (q.dv 2 O O ar) O<|R.q (q.aO O j0 O) O<|R.q (q.G3 (ds:=fw a.P) 1 O O bP O) O<|R.q (q.aO O qz O) O<|R.q (q.ld 1 O O av O) O<|R.s O (s.aW bS bS _ _ _ O O O RY O O (fun w own hw H=>H6 bH bB bC bD r a.P a.A w own H ‹_›) O) ?_
  rintro ⟨z9,lF,mb,z12⟩
  dsimp only
  refine R.u 2 O<|R.s O (s.fZ 0 _ O O O (fun _ _=>rfl) (.inl ar) (fun w hw=>(ag (Sl.one (hw.bT 0 O)) (ag (Sl.one (hw.bT 1 O)) (ag (Sl.one (hw.bT 2 O)) (ag (Sl.one (hw.bT 3 O)) (ag O (ag O aP))))))) O O O) fun _=>R.u 1 O<|R.nil ?_
  have hz:cR r a=(((jk r a.P a.A).1),(jk r a.P a.A).2):=by (unfold cR;(repeat' split) <;> first|rfl|(exfalso;simp_all;done)|(simp_all;done))
  rw [hz]
  exact R.w2 (z9,lF,mb,z12) [3] bS O Tryz.results24 (RV.cell 0 O O ar) (RV.tmp O) O O O (dz O O)
 refine R.q (q.pI O O h3) O<|R.u 1 O<|R.nil<|R.aB O O<|R.reg O<|?_
 by_cases h4:a.Kind=⟨#[100,114,111,112]⟩
 .
  refine R.q (q.pH O O h4) O<|R.u 1 O<|R.nil<|R.ay O O<|R.reg O<|R.q (q.dv 2 O O ar) O<|R.q (q.aO O j0 O) O<|R.q (q.G3 (ds:=fw a.P) 1 O O bP O) O<|R.s O (s.aW bS bS _ _ _ O O O RZ O O (fun w own hw H=>H7 bH bB bC bD r a.P w own H ‹_›) O) ?_
  rintro ⟨qc,yH,HI,Ch⟩
  dsimp only
  refine R.u 2 O<|R.s O (s.fZ 0 _ O O O (fun _ _=>rfl) (.inl ar) (fun w hw=>(ag (Sl.one (hw.bT 0 O)) (ag (Sl.one (hw.bT 1 O)) (ag (Sl.one (hw.bT 2 O)) (ag (Sl.one (hw.bT 3 O)) (ag O (ag O aP))))))) O O O) fun _=>R.u 1 O<|R.nil ?_
  have hz:cR r a=(((jK r a.P).1),(jK r a.P).2):=by (unfold cR;(repeat' split) <;> first|rfl|(exfalso;simp_all;done)|(simp_all;done))
  rw [hz]
  exact R.w2 (qc,yH,HI,Ch) [3] bS O Tryz.results24 (RV.cell 0 O O ar) (RV.tmp O) O O O (dz O O)
 refine R.q (q.pI O O h4) O<|R.u 1 O<|R.nil<|R.aB O O<|R.reg O<|?_
 by_cases h5:a.Kind=⟨#[114,101,118,111,107,101]⟩
 .
  refine R.q (q.pH O O h5) O<|R.u 1 O<|R.nil<|R.ay O O<|R.reg O<|R.q (q.dv 2 O O ar) O<|R.q (q.aO O j0 O) O<|R.q (q.G3 (ds:=fw a.P) 1 O O bP O) O<|R.s O (s.aW bS bS _ _ _ O O O R0 O O (fun w own hw H=>Ds bH bB bC bD r a.P w own H ‹_›) O) ?_
  rintro ⟨z17,yO,BA,z20⟩
  dsimp only
  refine R.u 2 O<|R.s O (s.fZ 0 _ O O O (fun _ _=>rfl) (.inl ar) (fun w hw=>(ag (Sl.one (hw.bT 0 O)) (ag (Sl.one (hw.bT 1 O)) (ag (Sl.one (hw.bT 2 O)) (ag (Sl.one (hw.bT 3 O)) (ag O (ag O aP))))))) O O O) fun _=>R.u 1 O<|R.nil ?_
  have hz:cR r a=(((ff r a.P).1),(ff r a.P).2):=by (unfold cR;(repeat' split) <;> first|rfl|(exfalso;simp_all;done)|(simp_all;done))
  rw [hz]
  exact R.w2 (z17,yO,BA,z20) [3] bS O Tryz.results24 (RV.cell 0 O O ar) (RV.tmp O) O O O (dz O O)
 refine R.q (q.pI O O h5) O<|R.u 1 O<|R.nil<|R.aB O O<|R.reg O<|?_
 by_cases h6:a.Kind=⟨#[119,114,105,116,101]⟩
 .
  refine R.q (q.pH O O h6) O<|R.u 1 O<|R.nil<|R.ay O O<|R.reg O<|R.q (q.dv 2 O O ar) O<|R.q (q.aO O j0 O) O<|R.q (q.G3 (ds:=fw a.P) 1 O O bP O) O<|R.q (q.aO O tK O) O<|R.q (q.ld 1 O O bK O) O<|R.s O (s.aW bS bS _ _ _ O O O R1 O O (fun w own hw H=>Fc bH bB bC bD r a.P a.S w own H ‹_›) O) ?_
  rintro ⟨z21,z22,z23,z24⟩
  dsimp only
  refine R.u 2 O<|R.s O (s.fZ 0 _ O O O (fun _ _=>rfl) (.inl ar) (fun w hw=>(ag (Sl.one (hw.bT 0 O)) (ag (Sl.one (hw.bT 1 O)) (ag (Sl.one (hw.bT 2 O)) (ag (Sl.one (hw.bT 3 O)) (ag O (ag O aP))))))) O O O) fun _=>R.u 1 O<|R.nil ?_
  have hz:cR r a=(((fX r a.P a.S).1),(fX r a.P a.S).2):=by (unfold cR;(repeat' split) <;> first|rfl|(exfalso;simp_all;done)|(simp_all;done))
  rw [hz]
  exact R.w2 (z21,z22,z23,z24) [3] bS O Tryz.results24 (RV.cell 0 O O ar) (RV.tmp O) O O O (dz O O)
 refine R.q (q.pI O O h6) O<|R.u 1 O<|R.nil<|R.aB O O<|R.reg O<|?_
 by_cases h7:a.Kind=⟨#[115,101,110,100]⟩
 .
  refine R.q (q.pH O O h7) O<|R.u 1 O<|R.nil<|R.ay O O<|R.reg O<|R.q (q.dv 2 O O ar) O<|R.q (q.aO O j0 O) O<|R.q (q.G3 (ds:=fw a.P) 1 O O bP O) O<|R.q (q.aO O tK O) O<|R.q (q.ld 1 O O bK O) O<|R.q (q.aO O qz O) O<|R.q (q.ld 1 O O av O) O<|R.q (q.aO O zj O) O<|R.q (q.ld 1 O O av O) O<|R.s O (s.aW bS bS _ _ _ O O O R2 O O (fun w own hw H=>H8 bH bB bC bD r a.P a.S a.A a.B w own H ‹_›) O) ?_
  rintro ⟨z25,z26,z27,z28⟩
  dsimp only
  refine R.u 2 O<|R.s O (s.fZ 0 _ O O O (fun _ _=>rfl) (.inl ar) (fun w hw=>(ag (Sl.one (hw.bT 0 O)) (ag (Sl.one (hw.bT 1 O)) (ag (Sl.one (hw.bT 2 O)) (ag (Sl.one (hw.bT 3 O)) (ag O (ag O aP))))))) O O O) fun _=>R.u 1 O<|R.nil ?_
  have hz:cR r a=(((dO r a.P a.S a.A a.B).1),(dO r a.P a.S a.A a.B).2):=by (unfold cR;(repeat' split) <;> first|rfl|(exfalso;simp_all;done)|(simp_all;done))
  rw [hz]
  exact R.w2 (z25,z26,z27,z28) [3] bS O Tryz.results24 (RV.cell 0 O O ar) (RV.tmp O) O O O (dz O O)
 refine R.q (q.pI O O h7) O<|R.u 1 O<|R.nil<|R.aB O O<|R.reg O<|?_
 by_cases h8:a.Kind=⟨#[116,97,107,101]⟩
 .
  refine R.q (q.pH O O h8) O<|R.u 1 O<|R.nil<|R.ay O O<|R.reg O<|R.q (q.dv 2 O O ar) O<|R.q (q.aO O j0 O) O<|R.q (q.G3 (ds:=fw a.P) 1 O O bP O) O<|R.s O (s.aW bS bS _ _ _ O O O R3 O O (fun w own hw H=>H9 bH bB bC bD r a.P w own H ‹_›) O) ?_
  rintro ⟨z29,z30,z31,z32⟩
  dsimp only
  refine R.u 5 O<|R.s O (s.alloc dQ O O) fun b4=>R.s O (s.alloc eW O O) fun b5=>R.s O (s.fZ 1 _ O O O (fun _ _=>rfl) (.inl ar) (fun w hw=>(ag (Sl.one (hw.bT 0 O)) (ag (Sl.one (hw.bT 1 O)) (ag (Sl.one (hw.bT 2 O)) (ag (Sl.one (hw.bT 3 O)) (ag O (ag O aP))))))) O O O) fun _=>R.s O (s.st 0 _ O O O O (.inl di) O O O O) fun _=>R.u 2 O<|R.nil<|R.reg O<|R.q (q.dv 1 O O ar) O<|R.u 1 O<|R.s O (s.fZ 2 _ O O O (fun _ _=>rfl) (.inl ar) (fun w hw=>(ag (Sl.one (hw.bT 0 O)) (ag (Sl.one (hw.bT 1 O)) (ag (Sl.one (hw.bT 2 O)) (ag (Sl.one (hw.bT 3 O)) (ag O (ag O aP))))))) O O O) fun _=>R.u 1 O<|R.nil ?_
  have hz:cR r a=(((eC r a.P).1),(eC r a.P).2.2.2):=by (unfold cR;(repeat' split) <;> first|rfl|(exfalso;simp_all;done)|(simp_all;done))
  rw [hz]
  exact R.w2 (z29,z30,z31,z32) [5] bS O Tryz.results24 (RV.cell 2 O O ar) (RV.tmp O) O O O (dz O O)
 refine R.q (q.pI O O h8) O<|R.u 1 O<|R.nil<|R.aB O O<|R.reg O<|R.q (q.dv 2 O O ar) O<|R.s O (s.fZ 0 _ O O O (fun _ _=>rfl) (.inl ar) (fun w hw=>(ag (Sl.one (hw.bT 0 O)) (ag (Sl.one (hw.bT 1 O)) (ag (Sl.one (hw.bT 2 O)) (ag (Sl.one (hw.bT 3 O)) (ag O (ag O aP))))))) O O O) fun _=>R.u 1 O<|R.nil ?_
 have hz:cR r a=(r,0):=by (unfold cR;(repeat' split) <;> first|rfl|(exfalso;simp_all;done)|(simp_all;done))
 rw [hz]
 exact R.w2 (bH,bB,bC,bD) [3] bS O Tryz.results24 (RV.cell 0 O O ar) (RV.tmp O) O O O (dz O (iI O))
set_option maxRecDepth 100000 in
theorem yX (KZ K0 K1 K2:Value)(a:aD)(K3 K4 K5 K6:Value)(b:aD)(w:World)(S0:Sl w KZ a.aj)(Fe:Sl w K0 a.Things)(MY:Sl w K1 a.Held)(Ff:Sl w K2 a.Notes)(S1:Sl w K3 b.aj)(Ic:Sl w K4 b.Things)(MZ:Sl w K5 b.Held)(Ie:Sl w K6 b.Notes):Calls Tryz.prog 19 #[.agg #[KZ,K0,K1,K2,iV a.ae,iV a.ah],.agg #[K3,K4,K5,K6,iV b.ae,iV b.ah]] w fun e w'=>e = .returned (.bool (decide (a=b)))/\Ext w w':=by
 have ba:=Fe.fC;have bb:=Ic.fC;have bc:=Ff.fC;have bd:=Ie.fC
 refine R.enter [] [(0,.agg #[KZ,K0,K1,K2,iV a.ae,iV a.ah]),(1,.agg #[K3,K4,K5,K6,iV b.ae,iV b.ah])] Tryz.func19 O O O O<|R.reg O<|R.s O (s.box O O O) fun b1=>R.s O (s.box O O O) fun b2=>R.u 1 O<|R.nil<|R.reg O<|R.q (q.aO O bg O) O<|R.q (q.ld 1 O O bV O) O<|R.q (q.aO O bg O) O<|R.q (q.ld 0 O O bV O) O<|?_
 rcases Bool.eq_false_or_eq_true (decide (a.aj=b.aj)) with h1|h1
 .
  refine R.c (q.call NW O O (fun w hw=>(cv (congrArg Value.bool h1) (rF _ a.aj _ b.aj w ((fun _=>Wd.old S0) w hw) ((fun _=>Wd.old S1) w hw) )))) O<|R.u 1 O<|R.nil<|R.reg O<|R.q (q.aO O cG O) O<|R.q (q.ld 1 O O dE O) O<|R.q (q.aO O cG O) O<|R.q (q.ld 0 O O dE O) O<|?_
  rcases Bool.eq_false_or_eq_true (decide (a.Held=b.Held)) with h2|h2
  .
   refine R.c (q.call F5 O O (fun w hw=>(cv (congrArg Value.bool h2) (lX _ a.Held _ b.Held w ((fun _=>Wd.old MY) w hw) ((fun _=>Wd.old MZ) w hw) )))) O<|R.u 1 O<|R.nil<|R.reg O<|R.u 7 O<|R.qg O (q.aO O cM O) O<|R.qg O (q.ld 1 O O av O) O<|R.qg O (q.aO O cM O) O<|R.qg O (q.ld 0 O O av O) O<|?_
   by_cases h3:a.ae=b.ae
   .
    refine R.qg O (q.lH O O) O<|R.u 2 O<|R.qg O (q.aO O dP O) O<|R.qg O (q.ld 1 O O av O) O<|R.qg O (q.aO O dP O) O<|R.qg O (q.ld 0 O O av O) O<|?_
    by_cases h4:a.ah=b.ah
    .
     refine R.qg O (q.lH O O) O<|R.u 2 O<|R.qg O (q.aO O cF O) O<|R.qg O (q.ld 1 O O dD O) O<|R.qg O (q.len' (fun _=>Wd.old Fe) O Tryz.underlying44) O<|R.qg O (q.aO O cF O) O<|R.qg O (q.ld 0 O O dD O) O<|R.qg O (q.len' (fun _=>Wd.old Ic) O Tryz.underlying44) O<|?_
     by_cases h5:a.Things.length=b.Things.length
     .
      refine R.qg O (q.lH O O) O<|R.u 2 O<|R.qg O (q.aO O cI O) O<|R.qg O (q.ld 1 O O dw O) O<|R.qg O (q.len' (fun _=>Wd.old Ff) O Tryz.underlying46) O<|R.qg O (q.aO O cI O) O<|R.qg O (q.ld 0 O O dw O) O<|R.qg O (q.len' (fun _=>Wd.old Ie) O Tryz.underlying46) O<|?_
      by_cases h6:a.Notes.length=b.Notes.length
      .
       refine R.qg O (q.lH O O) O<|R.u 1 O<|R.nil<|R.aB O O<|R.reg O<|R.u 1 O<|R.nil<|R.loop (fun k:Nat=>[(2,.pointer (some ⟨b1,0,none⟩)),(3,.pointer (some ⟨b2,0,none⟩)),(7,iV (k:Int))]) (fun k:Nat=>[af.box b2 [K3,K4,K5,K6,iV b.ae,iV b.ah] 48,af.box b1 [KZ,K0,K1,K2,iV a.ae,iV a.ah] 48]) (fun k:Nat=>[]) (fun k:Nat=>k<=a.Things.length /\ ∀j,j<k->a.Things[j]? = b.Things[j]?) (fun k:Nat=>a.Things.length-k) 0 O (by exact ⟨by omega,fun j hj=>absurd hj (Nat.not_lt_zero _)⟩) (sF O) (fun _=>Wd.pick [0,1] [] O O O) ?_
       rintro k ⟨hk,HA⟩
       refine R.reg O<|R.u 1 O<|R.q (q.aO O cF O) O<|R.q (q.ld 1 O O dD O) O<|R.q (q.len' (fun _=>Wd.old Fe) O Tryz.underlying44) O<|?_
       by_cases h7:k<a.Things.length
       .
        refine R.q (q.dy O O) O<|R.nil<|R.ay O O ?_
        obtain ⟨x1,hx1⟩:∃z,a.Things[k]? = some z:=⟨_,List.getElem?_eq_getElem (by omega)⟩
        obtain ⟨x2,hx2⟩:∃z,b.Things[k]? = some z:=⟨_,List.getElem?_eq_getElem (by omega)⟩
        by_cases h8:x1=x2
        .
         refine R.ew O mixed (by kernel_rfl)<|Q.q (q.aO O cF O) O<|Q.q (q.ld 1 O O dD O) O<|Q.u 1 O<|Q.q (q.idx (i:=k) (fun _=>Wd.old Fe) O O iK O hx1) O<|Q.q (q.eV (ds:=lT x1) (fun _=>Wd.old Fe) hx1 O gy O) O<|Q.q (q.aO O cF O) O<|Q.q (q.ld 0 O O dD O) O<|Q.u 1 O<|Q.q (q.idx (i:=k) (fun _=>Wd.old Ic) O O iK O hx2) O<|Q.q (q.eV (ds:=lT x2) (fun _=>Wd.old Ic) hx2 O gy O) O<|Q.q (q.vV (x:=x1) (y:=x2) KV O O h8) O<|Q.nil<|R.aB O O<|R.reg O<|R.u 1 O<|R.q (q.bA (r:=((k+1:Nat):Int)) O O) O<|R.u 1 O<|R.nil<|R.back (k+1) O (by (exact ⟨by omega,nO HA hx1 hx2 ‹_›⟩)) (by omega) (sF O) (fun _=>Wd.pick [0,1] [] O O O)
        exact R.ew O mixed (by kernel_rfl)<|Q.q (q.aO O cF O) O<|Q.q (q.ld 1 O O dD O) O<|Q.u 1 O<|Q.q (q.idx (i:=k) (fun _=>Wd.old Fe) O O iK O hx1) O<|Q.q (q.eV (ds:=lT x1) (fun _=>Wd.old Fe) hx1 O gy O) O<|Q.q (q.aO O cF O) O<|Q.q (q.ld 0 O O dD O) O<|Q.u 1 O<|Q.q (q.idx (i:=k) (fun _=>Wd.old Ic) O O iK O hx2) O<|Q.q (q.eV (ds:=lT x2) (fun _=>Wd.old Ic) hx2 O gy O) O<|Q.q (q.vW (x:=x1) (y:=x2) KV O O h8) O<|Q.nil<|R.ay O O<|R.reg O<|R.u 1 O<|R.nil<|R.rv O Tryz.results19 O (rB (by (exact (decide_eq_false (fun e=>by subst e;have hq:=hx1.symm.trans hx2;injection hq;contradiction)).symm)))
       refine R.q (q.cW O O) O<|R.nil<|R.aB O O<|R.reg O<|R.u 1 O<|R.nil<|R.loop (fun k:Nat=>[(2,.pointer (some ⟨b1,0,none⟩)),(3,.pointer (some ⟨b2,0,none⟩)),(8,iV (k:Int))]) (fun k:Nat=>[af.box b2 [K3,K4,K5,K6,iV b.ae,iV b.ah] 48,af.box b1 [KZ,K0,K1,K2,iV a.ae,iV a.ah] 48]) (fun k:Nat=>[]) (fun k:Nat=>k<=a.Notes.length /\ ∀j,j<k->a.Notes[j]? = b.Notes[j]?) (fun k:Nat=>a.Notes.length-k) 0 O (by exact ⟨by omega,fun j hj=>absurd hj (Nat.not_lt_zero _)⟩) (sF O) (fun _=>Wd.pick [0,1] [] O O O) ?_
       rintro k ⟨hk2,HA2⟩
       refine R.reg O<|R.u 1 O<|R.q (q.aO O cI O) O<|R.q (q.ld 1 O O dw O) O<|R.q (q.len' (fun _=>Wd.old Ff) O Tryz.underlying46) O<|?_
       by_cases h9:k<a.Notes.length
       .
        refine R.q (q.dy O O) O<|R.nil<|R.ay O O ?_
        obtain ⟨x3,hx3⟩:∃z,a.Notes[k]? = some z:=⟨_,List.getElem?_eq_getElem (by omega)⟩
        obtain ⟨x4,hx4⟩:∃z,b.Notes[k]? = some z:=⟨_,List.getElem?_eq_getElem (by omega)⟩
        by_cases h10:x3=x4
        .
         refine R.ew O mixed (by kernel_rfl)<|Q.q (q.aO O cI O) O<|Q.q (q.ld 1 O O dw O) O<|Q.u 1 O<|Q.q (q.idx (i:=k) (fun _=>Wd.old Ff) O O fA O hx3) O<|Q.q (q.eV (ds:=mq x3) (fun _=>Wd.old Ff) hx3 O di O) O<|Q.q (q.aO O cI O) O<|Q.q (q.ld 0 O O dw O) O<|Q.u 1 O<|Q.q (q.idx (i:=k) (fun _=>Wd.old Ie) O O fA O hx4) O<|Q.q (q.eV (ds:=mq x4) (fun _=>Wd.old Ie) hx4 O di O) O<|Q.q (q.vV (x:=x3) (y:=x4) Ot O O h10) O<|Q.nil<|R.aB O O<|R.reg O<|R.u 1 O<|R.q (q.bA (r:=((k+1:Nat):Int)) O O) O<|R.u 1 O<|R.nil<|R.back (k+1) O (by (exact ⟨by omega,nO HA2 hx3 hx4 ‹_›⟩)) (by omega) (sF O) (fun _=>Wd.pick [0,1] [] O O O)
        exact R.ew O mixed (by kernel_rfl)<|Q.q (q.aO O cI O) O<|Q.q (q.ld 1 O O dw O) O<|Q.u 1 O<|Q.q (q.idx (i:=k) (fun _=>Wd.old Ff) O O fA O hx3) O<|Q.q (q.eV (ds:=mq x3) (fun _=>Wd.old Ff) hx3 O di O) O<|Q.q (q.aO O cI O) O<|Q.q (q.ld 0 O O dw O) O<|Q.u 1 O<|Q.q (q.idx (i:=k) (fun _=>Wd.old Ie) O O fA O hx4) O<|Q.q (q.eV (ds:=mq x4) (fun _=>Wd.old Ie) hx4 O di O) O<|Q.q (q.vW (x:=x3) (y:=x4) Ot O O h10) O<|Q.nil<|R.ay O O<|R.reg O<|R.u 1 O<|R.nil<|R.rv O Tryz.results19 O (rB (by (exact (decide_eq_false (fun e=>by subst e;have hq:=hx3.symm.trans hx4;injection hq;contradiction)).symm)))
       exact R.q (q.cW O O) O<|R.nil<|R.aB O O<|R.reg O<|R.u 1 O<|R.nil<|R.rv O Tryz.results19 O (rB (by (refine (decide_eq_true ?_).symm;have eT:=pR (a:=a.Things) (b:=b.Things) (by omega) ‹_› HA;have eN:=pR (a:=a.Notes) (b:=b.Notes) (by omega) ‹_› HA2;cases a;cases b;simp_all)))
      exact R.qg O (q.lG O O) O<|R.u 1 O<|R.nil<|R.ay O O<|R.reg O<|R.u 1 O<|R.nil<|R.rv O Tryz.results19 O (rB (by (exact (decide_eq_false (fun e=>by subst e;omega)).symm)))
     exact R.qg O (q.lG O O) O<|R.u 10 O<|R.nil<|R.ay O O<|R.reg O<|R.u 1 O<|R.nil<|R.rv O Tryz.results19 O (rB (by (exact (decide_eq_false (fun e=>by subst e;omega)).symm)))
    exact R.qg O (q.lG O O) O<|R.u 19 O<|R.nil<|R.ay O O<|R.reg O<|R.u 1 O<|R.nil<|R.rv O Tryz.results19 O (rB (by (exact (decide_eq_false (fun e=>by subst e;omega)).symm)))
   exact R.qg O (q.lG O O) O<|R.u 26 O<|R.nil<|R.ay O O<|R.reg O<|R.u 1 O<|R.nil<|R.rv O Tryz.results19 O (rB (by (exact (decide_eq_false (fun e=>by subst e;omega)).symm)))
  exact R.c (q.call F5 O O (fun w hw=>(cv (congrArg Value.bool h2) (lX _ a.Held _ b.Held w ((fun _=>Wd.old MY) w hw) ((fun _=>Wd.old MZ) w hw) )))) O<|R.u 1 O<|R.nil<|R.reg O<|R.u 38 O<|R.nil<|R.ay O O<|R.reg O<|R.u 1 O<|R.nil<|R.rv O Tryz.results19 O (rB (by (exact (decide_eq_false (fun e=>by subst e;(simp_all;done))).symm)))
 refine R.c (q.call NW O O (fun w hw=>(cv (congrArg Value.bool h1) (rF _ a.aj _ b.aj w ((fun _=>Wd.old S0) w hw) ((fun _=>Wd.old S1) w hw) )))) O<|R.u 1 O<|R.nil<|R.reg O<|R.q (q.aO O cG O) O<|R.q (q.ld 1 O O dE O) O<|R.q (q.aO O cG O) O<|R.q (q.ld 0 O O dE O) O<|?_
 rcases Bool.eq_false_or_eq_true (decide (a.Held=b.Held)) with h11|h11
 .
  exact R.c (q.call F5 O O (fun w hw=>(cv (congrArg Value.bool h11) (lX _ a.Held _ b.Held w ((fun _=>Wd.old MY) w hw) ((fun _=>Wd.old MZ) w hw) )))) O<|R.u 1 O<|R.nil<|R.reg O<|R.u 38 O<|R.nil<|R.ay O O<|R.reg O<|R.u 1 O<|R.nil<|R.rv O Tryz.results19 O (rB (by (exact (decide_eq_false (fun e=>by subst e;(simp_all;done))).symm)))
 exact R.c (q.call F5 O O (fun w hw=>(cv (congrArg Value.bool h11) (lX _ a.Held _ b.Held w ((fun _=>Wd.old MY) w hw) ((fun _=>Wd.old MZ) w hw) )))) O<|R.u 1 O<|R.nil<|R.reg O<|R.u 38 O<|R.nil<|R.ay O O<|R.reg O<|R.u 1 O<|R.nil<|R.rv O Tryz.results19 O (rB (by (exact (decide_eq_false (fun e=>by subst e;(simp_all;done))).symm)))
theorem Qp:dV (⟨[],[],[],[],1,1⟩:aD) (⟨1,0⟩:Place) 1=(⟨[⟨1,1,7,0,0⟩],[⟨1,1,⟨#[]⟩⟩],[⟨⟨1,0⟩,1⟩],[],2,2⟩,0):=by
 have e:fL [] ⟨1,0⟩ 1=[⟨⟨1,0⟩,1⟩]:=by rw [put_eq List.Pairwise.nil];decide
 have a:mT [] ⟨1,0⟩=0:=by rw [at_eq List.Pairwise.nil];decide
 unfold dV gM e8
 rw [if_pos (.inl rfl),if_pos (by rw [a];rfl),if_neg (by decide)]
 simp [e]
section
attribute [local irreducible] dV aQ
end
end Go.Proofs.YtkbhcbipadkcaaaGreatDoor
