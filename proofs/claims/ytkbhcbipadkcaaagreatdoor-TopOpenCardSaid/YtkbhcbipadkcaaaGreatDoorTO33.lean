import Derived.Test.YtkbhcbipadkcaaaGreatDoorTO32
namespace Go.Proofs.YtkbhcbipadkcaaaGreatDoor
set_option linter.unusedVariables false
set_option linter.unusedSimpArgs false
open Go Go.RowKit
set_option maxRecDepth 100000
set_option maxHeartbeats 90000000
theorem xQ (bN:Value)(l:List Change)(most:Int)(w:World)(ew:Sl w bN l):Calls Tryz.prog 29 #[bN,iV most] w fun e w'=>e = .returned (.bool (rW l most))/\Ext w w':=by
 have zq:=ew.fA
 refine R.enter [] [(0,bN),(1,iV most)] Tryz.func29 O O O O<|R.pO ew<|R.reg O<|R.u 1 O<|R.nil<|R.reg O<|R.u 1 O<|R.q (q.len' (dw 0 O) O Tryz.underlying34) O<|R.u 1 O<|?_
 by_cases h1:most<(l.length:Int)
 .
  exact R.q (q.eL O O) O<|R.nil<|R.av O O<|R.reg O<|R.u 1 O<|R.nil<|R.rv O Tryz.results29 O (rB (by (unfold rW;(rw [decide_eq_false (by omega)];rfl))))
 refine R.q (q.eo O O) O<|R.nil<|R.aA O O<|R.reg O<|R.u 1 O<|R.nil<|R.loop (fun k:Nat=>[(0,bN),(5,iV (k:Int))]) (fun k:Nat=>[]) (fun k:Nat=>[ag.ls bN l]) (fun k:Nat=>k<=l.length/\(l.take k).all oK=true) (fun k:Nat=>l.length-k) 0 O (by exact ⟨by omega,rfl⟩) (sF O) (ic [] [0] O) ?_
 rintro k ⟨hk,HA⟩
 refine R.reg O<|R.u 2 O<|R.q (q.len' (dw 0 O) O Tryz.underlying34) O<|?_
 by_cases h2:k<l.length
 .
  refine R.q (q.dx O O) O<|R.nil<|R.av O O<|R.reg O<|R.u 2 O<|?_
  obtain ⟨x1,hx1⟩:∃z,l[k]? = some z:=⟨_,List.getElem?_eq_getElem (by omega)⟩
  refine R.q (q.idx (i:=k) (dw 0 O) O O cd O hx1) O<|R.q (q.nG (j':=0) (dw 0 O) hx1 O bG O) O<|R.q (q.lv (dw 0 O) hx1 O bE O) O<|R.q (q.iA O Tryz.underlying9) O<|?_
  by_cases h3:20<x1.Key.size
  .
   exact R.q (q.eL O O) O<|R.u 9 O<|R.nil<|R.av O O<|R.reg O<|R.u 1 O<|R.nil<|R.rv O Tryz.results29 O (rB (by (unfold rW;(rw [vy hx1 (show oK _=false from by unfold oK;simp;omega)];simp))))
  refine R.q (q.eo O O) O<|R.u 3 O<|R.qg O (q.idx (i:=k) (dw 0 O) O O cd O hx1) O<|R.qg O (q.nG (j':=1) (dw 0 O) hx1 O cX O) O<|R.qg O (q.lv (dw 0 O) hx1 O bE O) O<|R.qg O (q.iA O Tryz.underlying9) O<|?_
  by_cases h4:40<x1.Val.size
  .
   exact R.qg O (q.eL O O) O<|R.u 1 O<|R.nil<|R.av O O<|R.reg O<|R.u 1 O<|R.nil<|R.rv O Tryz.results29 O (rB (by (unfold rW;(rw [vy hx1 (show oK _=false from by unfold oK;simp;omega)];simp))))
  refine R.qg O (q.eo O O) O<|R.u 1 O<|R.nil<|R.aA O O<|R.reg O<|R.u 1 O<|R.q (q.bA (r:=((k+1:Nat):Int)) O O) O<|R.u 1 O<|R.nil<|R.back (k+1) O (by (exact ⟨by omega,CO hx1 HA (by unfold oK;simp_all)⟩)) (by omega) (sF O) (aD [] [0] O)
 exact R.q (q.cU O O) O<|R.nil<|R.aA O O<|R.reg O<|R.u 1 O<|R.nil<|R.rv O Tryz.results29 O (rB (by (unfold rW;(rw [decide_eq_true (by omega),JQ (by omega) HA];rfl))))
theorem oW (bN:Value)(l:List eh)(most:Int)(w:World)(ew:Sl w bN l)(Hj:∀x∈l,Sl w x.cv x.Changes):Calls Tryz.prog 9 #[bN,iV most] w fun e w'=>e = .returned (.bool (lN l most))/\Ext w w':=by
 have zq:=ew.fA
 refine R.enter [] [(0,bN),(1,iV most)] Tryz.func9 O O O O<|R.pO ew<|R.nI (r:=ag.acts l) Hj (FR Hj)<|R.reg O<|R.u 1 O<|R.nil<|R.reg O<|R.u 1 O<|R.q (q.len' (dw 1 O) O Tryz.underlying22) O<|R.u 1 O<|?_
 by_cases h1:most<(l.length:Int)
 .
  exact R.q (q.eL O O) O<|R.nil<|R.av O O<|R.reg O<|R.u 1 O<|R.nil<|R.rv O Tryz.results9 O (rB (by (unfold lN;(rw [decide_eq_false (by omega)];rfl))))
 refine R.q (q.eo O O) O<|R.nil<|R.aA O O<|R.reg O<|R.u 1 O<|R.nil<|R.loop (fun k:Nat=>[(0,bN),(5,iV (k:Int))]) (fun k:Nat=>[]) (fun k:Nat=>[ag.acts l,ag.ls bN l]) (fun k:Nat=>k<=l.length/\(l.take k).all oL=true) (fun k:Nat=>l.length-k) 0 O (by exact ⟨by omega,rfl⟩) (sF O) (ic [] [0,1] O) ?_
 rintro k ⟨hk,HA⟩
 refine R.reg O<|R.u 2 O<|R.q (q.len' (dw 1 O) O Tryz.underlying22) O<|?_
 by_cases h2:k<l.length
 .
  refine R.q (q.dx O O) O<|R.nil<|R.av O O<|R.reg O<|R.u 2 O<|?_
  obtain ⟨x1,hx1⟩:∃z,l[k]? = some z:=⟨_,List.getElem?_eq_getElem (by omega)⟩
  refine R.q (q.idx (i:=k) (dw 1 O) O O Av O hx1) O<|R.q (q.nG (j':=1) (dw 1 O) hx1 O tI O) O<|R.q (q.lv (dw 1 O) hx1 O bE O) O<|R.q (q.iA O Tryz.underlying9) O<|?_
  by_cases h3:100<x1.S.size
  .
   exact R.q (q.eL O O) O<|R.u 9 O<|R.nil<|R.av O O<|R.reg O<|R.u 1 O<|R.nil<|R.rv O Tryz.results9 O (rB (by (unfold lN;(rw [vy hx1 (show oL _=false from by unfold oL;simp;omega)];simp))))
  refine R.q (q.eo O O) O<|R.u 3 O<|R.qg O (q.idx (i:=k) (dw 1 O) O O Av O hx1) O<|R.qg O (q.nG (j':=10) (dw 1 O) hx1 O G9 O) O<|R.qg O (q.lv (dw 1 O) hx1 O gw O) O<|?_
  rcases Bool.eq_false_or_eq_true (rW x1.Changes 70) with h4|h4
  .
   refine R.cg O (q.call NR O O (fun w hw=>(cv (congrArg Value.bool h4) (xQ _ x1.Changes 70 w ((fun _=>Wd.RA (l:=l) 0 O (List.mem_of_getElem? hx1)) w hw) )))) O<|R.u 2 O<|R.nil<|R.aA O O<|R.reg O<|R.u 1 O<|R.q (q.bA (r:=((k+1:Nat):Int)) O O) O<|R.u 1 O<|R.nil<|R.back (k+1) O (by (exact ⟨by omega,CO hx1 HA (by unfold oL;simp_all)⟩)) (by omega) (sF O) (aD [] [0,1] O)
  exact R.cg O (q.call NR O O (fun w hw=>(cv (congrArg Value.bool h4) (xQ _ x1.Changes 70 w ((fun _=>Wd.RA (l:=l) 0 O (List.mem_of_getElem? hx1)) w hw) )))) O<|R.u 2 O<|R.nil<|R.av O O<|R.reg O<|R.u 1 O<|R.nil<|R.rv O Tryz.results9 O (rB (by (unfold lN;(rw [vy hx1 (show oL _=false from by unfold oL;simp_all)];simp))))
 exact R.q (q.cU O O) O<|R.nil<|R.aA O O<|R.reg O<|R.u 1 O<|R.nil<|R.rv O Tryz.results9 O (rB (by (unfold lN;(rw [decide_eq_true (by omega),JQ (by omega) HA];rfl))))
set_option maxRecDepth 100000 in
set_option maxHeartbeats 90000000 in
theorem MW (bR bH bI bJ:Value)(r:aC)(a:eh)(w:World)(own:List Nat)(H:HN w own [] [ag.ls bR r.ak,ag.ls bH r.Things,ag.ls bI r.Held,ag.ls bJ r.Notes])(hk:Ok r):RC Tryz.prog 24 #[.agg #[bR,bH,bI,bJ,iV r.ae,iV r.ah],.agg #[.string a.Kind,.string a.S,iV a.P.aB,iV a.P.Slot,iV a.Q.aB,iV a.Q.Slot,iV a.A,iV a.B,iV a.N,.int .u64 a.K,a.cv]] H (fun z:Value×Value×Value×Value => .tuple #[.agg #[z.1,z.2.1,z.2.2.1,z.2.2.2,iV (cQ r a).1.ae,iV (cQ r a).1.ah],df (cQ r a).2]) (fun _=>[]) (fun z=>[ag.ls z.1 (cQ r a).1.ak,ag.ls z.2.1 (cQ r a).1.Things,ag.ls z.2.2.1 (cQ r a).1.Held,ag.ls z.2.2.2 (cQ r a).1.Notes]):=by
 have eJ:=H.cq 0 rfl
 have dM:=H.cq 1 rfl
 have fG:=H.cq 2 rfl
 have eK:=H.cq 3 rfl
 refine R.bC [(0,.agg #[bR,bH,bI,bJ,iV r.ae,iV r.ah]),(1,.agg #[.string a.Kind,.string a.S,iV a.P.aB,iV a.P.Slot,iV a.Q.aB,iV a.Q.Slot,iV a.A,iV a.B,iV a.N,.int .u64 a.K,a.cv])] Tryz.func24 O O O O H<|R.reg O<|R.s O (s.box O O O) fun b1=>?_
 refine R.s O (s.box O O O) fun b2=>?_
 refine R.s O (s.alloc dP O O) fun b3=>?_
 refine R.u 1 O<|R.nil<|R.reg O<|R.q (q.aO O ze O) O<|R.q (q.ld 1 O O bE O) O<|R.nil<|R.reg O<|?_
 by_cases h1:a.Kind=⟨#[109,97,107,101]⟩
 .
  refine R.q (q.pI O O h1) O<|R.u 1 O<|R.nil<|R.av O O<|R.reg O<|R.q (q.dt 2 O O ao) O<|R.q (q.aO O j2 O) O<|R.q (q.G1 (ds:=jO a.P) 1 O O bM O) O<|R.q (q.aO O qz O) O<|R.q (q.ld 1 O O au O) O<|R.s O (s.aW bL bL _ _ _ O O O RS O O (fun w own hw H=>H0 bR bH bI bJ r a.P a.A w own H ‹_›) O) ?_
  rintro ⟨z1,z2,z3,z4⟩
  dsimp only
  refine R.u 2 O<|R.s O (s.fX 0 _ O O O (fun _ _=>rfl) (.inl ao) (fun w hw=>(af (Sl.one (hw.bP 0 O)) (af (Sl.one (hw.bP 1 O)) (af (Sl.one (hw.bP 2 O)) (af (Sl.one (hw.bP 3 O)) (af O (af O aP))))))) O O O) fun _=>?_
  refine R.u 1 O<|R.nil ?_
  have hz:cQ r a=(((dU r a.P a.A).1),(dU r a.P a.A).2):=by (unfold cQ;(repeat' split) <;> rfl)
  rw [hz]
  exact R.w2 (z1,z2,z3,z4) [3] bL O Tryz.results24 (RV.cell 0 O O ao) (RV.tmp O) O O O (dy O O)
 refine R.q (q.pJ O O h1) O<|R.u 1 O<|R.nil<|R.aA O O<|R.reg O<|?_
 by_cases h2:a.Kind=⟨#[103,105,118,101]⟩
 .
  refine R.q (q.pI O O h2) O<|R.u 1 O<|R.nil<|R.av O O<|R.reg O<|R.q (q.dt 2 O O ao) O<|R.q (q.aO O j2 O) O<|R.q (q.G1 (ds:=jO a.P) 1 O O bM O) O<|R.q (q.aO O G8 O) O<|R.q (q.G1 (ds:=jO a.Q) 1 O O bM O) O<|R.q (q.aO O qz O) O<|R.q (q.ld 1 O O au O) O<|R.q (q.aO O zf O) O<|R.q (q.ld 1 O O au O) O<|R.s O (s.aW bL bL _ _ _ O O O RU O O (fun w own hw H=>H2 bR bH bI bJ r a.P a.Q a.A a.B w own H ‹_›) O) ?_
  rintro ⟨z5,z6,z7,z8⟩
  dsimp only
  refine R.u 2 O<|R.s O (s.fX 0 _ O O O (fun _ _=>rfl) (.inl ao) (fun w hw=>(af (Sl.one (hw.bP 0 O)) (af (Sl.one (hw.bP 1 O)) (af (Sl.one (hw.bP 2 O)) (af (Sl.one (hw.bP 3 O)) (af O (af O aP))))))) O O O) fun _=>?_
  refine R.u 1 O<|R.nil ?_
  have hz:cQ r a=(((fk r a.P a.Q a.A a.B).1),(fk r a.P a.Q a.A a.B).2):=by (unfold cQ;(repeat' split) <;> first|rfl|(exfalso;simp_all;done)|(simp_all;done))
  rw [hz]
  exact R.w2 (z5,z6,z7,z8) [3] bL O Tryz.results24 (RV.cell 0 O O ao) (RV.tmp O) O O O (dy O O)
 refine R.q (q.pJ O O h2) O<|R.u 1 O<|R.nil<|R.aA O O<|R.reg O<|?_
 by_cases h3:a.Kind=⟨#[109,111,118,101]⟩
 .
  refine R.q (q.pI O O h3) O<|R.u 1 O<|R.nil<|R.av O O<|R.reg O<|R.q (q.dt 2 O O ao) O<|R.q (q.aO O j2 O) O<|R.q (q.G1 (ds:=jO a.P) 1 O O bM O) O<|R.q (q.aO O qz O) O<|R.q (q.ld 1 O O au O) O<|R.s O (s.aW bL bL _ _ _ O O O RX O O (fun w own hw H=>H3 bR bH bI bJ r a.P a.A w own H ‹_›) O) ?_
  rintro ⟨z9,lH,l9,z12⟩
  dsimp only
  refine R.u 2 O<|R.s O (s.fX 0 _ O O O (fun _ _=>rfl) (.inl ao) (fun w hw=>(af (Sl.one (hw.bP 0 O)) (af (Sl.one (hw.bP 1 O)) (af (Sl.one (hw.bP 2 O)) (af (Sl.one (hw.bP 3 O)) (af O (af O aP))))))) O O O) fun _=>?_
  refine R.u 1 O<|R.nil ?_
  have hz:cQ r a=(((jl r a.P a.A).1),(jl r a.P a.A).2):=by (unfold cQ;(repeat' split) <;> first|rfl|(exfalso;simp_all;done)|(simp_all;done))
  rw [hz]
  exact R.w2 (z9,lH,l9,z12) [3] bL O Tryz.results24 (RV.cell 0 O O ao) (RV.tmp O) O O O (dy O O)
 refine R.q (q.pJ O O h3) O<|R.u 1 O<|R.nil<|R.aA O O<|R.reg O<|?_
 by_cases h4:a.Kind=⟨#[100,114,111,112]⟩
 .
  refine R.q (q.pI O O h4) O<|R.u 1 O<|R.nil<|R.av O O<|R.reg O<|R.q (q.dt 2 O O ao) O<|R.q (q.aO O j2 O) O<|R.q (q.G1 (ds:=jO a.P) 1 O O bM O) O<|R.s O (s.aW bL bL _ _ _ O O O RY O O (fun w own hw H=>H4 bR bH bI bJ r a.P w own H ‹_›) O) ?_
  rintro ⟨qc,yD,HD,Cb⟩
  dsimp only
  refine R.u 2 O<|R.s O (s.fX 0 _ O O O (fun _ _=>rfl) (.inl ao) (fun w hw=>(af (Sl.one (hw.bP 0 O)) (af (Sl.one (hw.bP 1 O)) (af (Sl.one (hw.bP 2 O)) (af (Sl.one (hw.bP 3 O)) (af O (af O aP))))))) O O O) fun _=>?_
  refine R.u 1 O<|R.nil ?_
  have hz:cQ r a=(((jL r a.P).1),(jL r a.P).2):=by (unfold cQ;(repeat' split) <;> first|rfl|(exfalso;simp_all;done)|(simp_all;done))
  rw [hz]
  exact R.w2 (qc,yD,HD,Cb) [3] bL O Tryz.results24 (RV.cell 0 O O ao) (RV.tmp O) O O O (dy O O)
 refine R.q (q.pJ O O h4) O<|R.u 1 O<|R.nil<|R.aA O O<|R.reg O<|?_
 by_cases h5:a.Kind=⟨#[114,101,118,111,107,101]⟩
 .
  refine R.q (q.pI O O h5) O<|R.u 1 O<|R.nil<|R.av O O<|R.reg O<|R.q (q.dt 2 O O ao) O<|R.q (q.aO O j2 O) O<|R.q (q.G1 (ds:=jO a.P) 1 O O bM O) O<|R.s O (s.aW bL bL _ _ _ O O O RZ O O (fun w own hw H=>Dm bR bH bI bJ r a.P w own H ‹_›) O) ?_
  rintro ⟨z17,yK,Bs,z20⟩
  dsimp only
  refine R.u 2 O<|R.s O (s.fX 0 _ O O O (fun _ _=>rfl) (.inl ao) (fun w hw=>(af (Sl.one (hw.bP 0 O)) (af (Sl.one (hw.bP 1 O)) (af (Sl.one (hw.bP 2 O)) (af (Sl.one (hw.bP 3 O)) (af O (af O aP))))))) O O O) fun _=>?_
  refine R.u 1 O<|R.nil ?_
  have hz:cQ r a=(((fc r a.P).1),(fc r a.P).2):=by (unfold cQ;(repeat' split) <;> first|rfl|(exfalso;simp_all;done)|(simp_all;done))
  rw [hz]
  exact R.w2 (z17,yK,Bs,z20) [3] bL O Tryz.results24 (RV.cell 0 O O ao) (RV.tmp O) O O O (dy O O)
 refine R.q (q.pJ O O h5) O<|R.u 1 O<|R.nil<|R.aA O O<|R.reg O<|?_
 by_cases h6:a.Kind=⟨#[119,114,105,116,101]⟩
 .
  refine R.q (q.pI O O h6) O<|R.u 1 O<|R.nil<|R.av O O<|R.reg O<|R.q (q.dt 2 O O ao) O<|R.q (q.aO O j2 O) O<|R.q (q.G1 (ds:=jO a.P) 1 O O bM O) O<|R.q (q.aO O tI O) O<|R.q (q.ld 1 O O bE O) O<|R.s O (s.aW bL bL _ _ _ O O O R0 O O (fun w own hw H=>E9 bR bH bI bJ r a.P a.S w own H ‹_›) O) ?_
  rintro ⟨z21,z22,z23,z24⟩
  dsimp only
  refine R.u 2 O<|R.s O (s.fX 0 _ O O O (fun _ _=>rfl) (.inl ao) (fun w hw=>(af (Sl.one (hw.bP 0 O)) (af (Sl.one (hw.bP 1 O)) (af (Sl.one (hw.bP 2 O)) (af (Sl.one (hw.bP 3 O)) (af O (af O aP))))))) O O O) fun _=>?_
  refine R.u 1 O<|R.nil ?_
  have hz:cQ r a=(((fV r a.P a.S).1),(fV r a.P a.S).2):=by (unfold cQ;(repeat' split) <;> first|rfl|(exfalso;simp_all;done)|(simp_all;done))
  rw [hz]
  exact R.w2 (z21,z22,z23,z24) [3] bL O Tryz.results24 (RV.cell 0 O O ao) (RV.tmp O) O O O (dy O O)
 refine R.q (q.pJ O O h6) O<|R.u 1 O<|R.nil<|R.aA O O<|R.reg O<|?_
 by_cases h7:a.Kind=⟨#[115,101,110,100]⟩
 .
  refine R.q (q.pI O O h7) O<|R.u 1 O<|R.nil<|R.av O O<|R.reg O<|R.q (q.dt 2 O O ao) O<|R.q (q.aO O j2 O) O<|R.q (q.G1 (ds:=jO a.P) 1 O O bM O) O<|R.q (q.aO O tI O) O<|R.q (q.ld 1 O O bE O) O<|R.q (q.aO O qz O) O<|R.q (q.ld 1 O O au O) O<|R.q (q.aO O zf O) O<|R.q (q.ld 1 O O au O) O<|R.s O (s.aW bL bL _ _ _ O O O R1 O O (fun w own hw H=>H5 bR bH bI bJ r a.P a.S a.A a.B w own H ‹_›) O) ?_
  rintro ⟨z25,z26,z27,z28⟩
  dsimp only
  refine R.u 2 O<|R.s O (s.fX 0 _ O O O (fun _ _=>rfl) (.inl ao) (fun w hw=>(af (Sl.one (hw.bP 0 O)) (af (Sl.one (hw.bP 1 O)) (af (Sl.one (hw.bP 2 O)) (af (Sl.one (hw.bP 3 O)) (af O (af O aP))))))) O O O) fun _=>?_
  refine R.u 1 O<|R.nil ?_
  have hz:cQ r a=(((dN r a.P a.S a.A a.B).1),(dN r a.P a.S a.A a.B).2):=by (unfold cQ;(repeat' split) <;> first|rfl|(exfalso;simp_all;done)|(simp_all;done))
  rw [hz]
  exact R.w2 (z25,z26,z27,z28) [3] bL O Tryz.results24 (RV.cell 0 O O ao) (RV.tmp O) O O O (dy O O)
 refine R.q (q.pJ O O h7) O<|R.u 1 O<|R.nil<|R.aA O O<|R.reg O<|?_
 by_cases h8:a.Kind=⟨#[116,97,107,101]⟩
 .
  refine R.q (q.pI O O h8) O<|R.u 1 O<|R.nil<|R.av O O<|R.reg O<|R.q (q.dt 2 O O ao) O<|R.q (q.aO O j2 O) O<|R.q (q.G1 (ds:=jO a.P) 1 O O bM O) O<|R.s O (s.aW bL bL _ _ _ O O O R2 O O (fun w own hw H=>H6 bR bH bI bJ r a.P w own H ‹_›) O) ?_
  rintro ⟨z29,z30,z31,z32⟩
  dsimp only
  refine R.u 5 O<|R.s O (s.alloc dP O O) fun b4=>?_
  refine R.s O (s.alloc eU O O) fun b5=>?_
  refine R.s O (s.fX 1 _ O O O (fun _ _=>rfl) (.inl ao) (fun w hw=>(af (Sl.one (hw.bP 0 O)) (af (Sl.one (hw.bP 1 O)) (af (Sl.one (hw.bP 2 O)) (af (Sl.one (hw.bP 3 O)) (af O (af O aP))))))) O O O) fun _=>?_
  refine R.s O (s.st 0 _ O O O O (.inl dh) O O O O) fun _=>?_
  refine R.u 2 O<|R.nil<|R.reg O<|R.q (q.dt 1 O O ao) O<|R.u 1 O<|R.s O (s.fX 2 _ O O O (fun _ _=>rfl) (.inl ao) (fun w hw=>(af (Sl.one (hw.bP 0 O)) (af (Sl.one (hw.bP 1 O)) (af (Sl.one (hw.bP 2 O)) (af (Sl.one (hw.bP 3 O)) (af O (af O aP))))))) O O O) fun _=>?_
  refine R.u 1 O<|R.nil ?_
  have hz:cQ r a=(((eB r a.P).1),(eB r a.P).2.2.2):=by (unfold cQ;(repeat' split) <;> first|rfl|(exfalso;simp_all;done)|(simp_all;done))
  rw [hz]
  exact R.w2 (z29,z30,z31,z32) [5] bL O Tryz.results24 (RV.cell 2 O O ao) (RV.tmp O) O O O (dy O O)
 refine R.q (q.pJ O O h8) O<|R.u 1 O<|R.nil<|R.aA O O<|R.reg O<|R.q (q.dt 2 O O ao) O<|R.s O (s.fX 0 _ O O O (fun _ _=>rfl) (.inl ao) (fun w hw=>(af (Sl.one (hw.bP 0 O)) (af (Sl.one (hw.bP 1 O)) (af (Sl.one (hw.bP 2 O)) (af (Sl.one (hw.bP 3 O)) (af O (af O aP))))))) O O O) fun _=>?_
 refine R.u 1 O<|R.nil ?_
 have hz:cQ r a=(r,0):=by (unfold cQ;(repeat' split) <;> first|rfl|(exfalso;simp_all;done)|(simp_all;done))
 rw [hz]
 exact R.w2 (bR,bH,bI,bJ) [3] bL O Tryz.results24 (RV.cell 0 O O ao) (RV.tmp O) O O O (dy O (iK O))
set_option maxRecDepth 100000 in
theorem yS (KX KY KZ K0:Value)(a:aC)(K1 K2 K3 K4:Value)(b:aC)(w:World)(SZ:Sl w KX a.ak)(Fa:Sl w KY a.Things)(MX:Sl w KZ a.Held)(Fb:Sl w K0 a.Notes)(S0:Sl w K1 b.ak)(H9:Sl w K2 b.Things)(MY:Sl w K3 b.Held)(Ia:Sl w K4 b.Notes):Calls Tryz.prog 19 #[.agg #[KX,KY,KZ,K0,iV a.ae,iV a.ah],.agg #[K1,K2,K3,K4,iV b.ae,iV b.ah]] w fun e w'=>e = .returned (.bool (decide (a=b)))/\Ext w w':=by
 have ba:=Fa.fA;have bb:=H9.fA;have bc:=Fb.fA;have bd:=Ia.fA
 refine R.enter [] [(0,.agg #[KX,KY,KZ,K0,iV a.ae,iV a.ah]),(1,.agg #[K1,K2,K3,K4,iV b.ae,iV b.ah])] Tryz.func19 O O O O<|R.reg O<|R.s O (s.box O O O) fun b1=>?_
 refine R.s O (s.box O O O) fun b2=>?_
 refine R.u 1 O<|R.nil<|R.reg O<|R.q (q.aO O bg O) O<|R.q (q.ld 1 O O bS O) O<|R.q (q.aO O bg O) O<|R.q (q.ld 0 O O bS O) O<|?_
 rcases Bool.eq_false_or_eq_true (decide (a.ak=b.ak)) with h1|h1
 .
  refine R.c (q.call NU O O (fun w hw=>(cv (congrArg Value.bool h1) (rF _ a.ak _ b.ak w ((fun _=>Wd.old SZ) w hw) ((fun _=>Wd.old S0) w hw) )))) O<|R.u 1 O<|R.nil ?_
  refine R.reg O<|R.q (q.aO O cz O) O<|R.q (q.ld 1 O O dD O) O<|R.q (q.aO O cz O) O<|R.q (q.ld 0 O O dD O) O<|?_
  rcases Bool.eq_false_or_eq_true (decide (a.Held=b.Held)) with h2|h2
  .
   refine R.c (q.call FY O O (fun w hw=>(cv (congrArg Value.bool h2) (lV _ a.Held _ b.Held w ((fun _=>Wd.old MX) w hw) ((fun _=>Wd.old MY) w hw) )))) O<|R.u 1 O<|R.nil ?_
   refine R.reg O<|R.u 7 O<|R.qg O (q.aO O cJ O) O<|R.qg O (q.ld 1 O O au O) O<|R.qg O (q.aO O cJ O) O<|R.qg O (q.ld 0 O O au O) O<|?_
   by_cases h3:a.ae=b.ae
   .
    refine R.qg O (q.lK O O) O<|R.u 2 O<|R.qg O (q.aO O dO O) O<|R.qg O (q.ld 1 O O au O) O<|R.qg O (q.aO O dO O) O<|R.qg O (q.ld 0 O O au O) O<|?_
    by_cases h4:a.ah=b.ah
    .
     refine R.qg O (q.lK O O) O<|R.u 2 O<|R.qg O (q.aO O cy O) O<|R.qg O (q.ld 1 O O dC O) O<|R.qg O (q.len' (fun _=>Wd.old Fa) O Tryz.underlying44) O<|R.qg O (q.aO O cy O) O<|R.qg O (q.ld 0 O O dC O) O<|R.qg O (q.len' (fun _=>Wd.old H9) O Tryz.underlying44) O<|?_
     by_cases h5:a.Things.length=b.Things.length
     .
      refine R.qg O (q.lK O O) O<|R.u 2 O<|R.qg O (q.aO O cB O) O<|R.qg O (q.ld 1 O O du O) O<|R.qg O (q.len' (fun _=>Wd.old Fb) O Tryz.underlying46) O<|R.qg O (q.aO O cB O) O<|R.qg O (q.ld 0 O O du O) O<|R.qg O (q.len' (fun _=>Wd.old Ia) O Tryz.underlying46) O<|?_
      by_cases h6:a.Notes.length=b.Notes.length
      .
       refine R.qg O (q.lK O O) O<|R.u 1 O<|R.nil<|R.aA O O<|R.reg O<|R.u 1 O<|R.nil<|R.loop (fun k:Nat=>[(2,.pointer (some ⟨b1,0,none⟩)),(3,.pointer (some ⟨b2,0,none⟩)),(7,iV (k:Int))]) (fun k:Nat=>[ag.box b2 [K1,K2,K3,K4,iV b.ae,iV b.ah] 48,ag.box b1 [KX,KY,KZ,K0,iV a.ae,iV a.ah] 48]) (fun k:Nat=>[]) (fun k:Nat=>k<=a.Things.length /\ ∀j,j<k->a.Things[j]? = b.Things[j]?) (fun k:Nat=>a.Things.length-k) 0 O (by exact ⟨by omega,fun j hj=>absurd hj (Nat.not_lt_zero _)⟩) (sF O) (ic [0,1] [] O) ?_
       rintro k ⟨hk,HA⟩
       refine R.reg O<|R.u 1 O<|R.q (q.aO O cy O) O<|R.q (q.ld 1 O O dC O) O<|R.q (q.len' (fun _=>Wd.old Fa) O Tryz.underlying44) O<|?_
       by_cases h7:k<a.Things.length
       .
        refine R.q (q.dx O O) O<|R.nil<|R.av O O ?_
        obtain ⟨x1,hx1⟩:∃z,a.Things[k]? = some z:=⟨_,List.getElem?_eq_getElem (by omega)⟩
        obtain ⟨x2,hx2⟩:∃z,b.Things[k]? = some z:=⟨_,List.getElem?_eq_getElem (by omega)⟩
        by_cases h8:x1=x2
        .
         refine R.eu O mixed (by kernel_rfl)<|Q.q (q.aO O cy O) O<|Q.q (q.ld 1 O O dC O) O<|Q.u 1 O<|Q.q (q.idx (i:=k) (fun _=>Wd.old Fa) O O iM O hx1) O<|Q.q (q.eS (ds:=mT x1) (fun _=>Wd.old Fa) hx1 O gx O) O<|Q.q (q.aO O cy O) O<|Q.q (q.ld 0 O O dC O) O<|Q.u 1 O<|Q.q (q.idx (i:=k) (fun _=>Wd.old H9) O O iM O hx2) O<|Q.q (q.eS (ds:=mT x2) (fun _=>Wd.old H9) hx2 O gx O) O<|Q.q (q.vT (x:=x1) (y:=x2) KT O O h8) O<|Q.nil<|R.aA O O<|R.reg O<|R.u 1 O<|R.q (q.bA (r:=((k+1:Nat):Int)) O O) O<|R.u 1 O<|R.nil<|R.back (k+1) O (by (exact ⟨by omega,nP HA hx1 hx2 ‹_›⟩)) (by omega) (sF O) (ic [0,1] [] O)
        exact R.eu O mixed (by kernel_rfl)<|Q.q (q.aO O cy O) O<|Q.q (q.ld 1 O O dC O) O<|Q.u 1 O<|Q.q (q.idx (i:=k) (fun _=>Wd.old Fa) O O iM O hx1) O<|Q.q (q.eS (ds:=mT x1) (fun _=>Wd.old Fa) hx1 O gx O) O<|Q.q (q.aO O cy O) O<|Q.q (q.ld 0 O O dC O) O<|Q.u 1 O<|Q.q (q.idx (i:=k) (fun _=>Wd.old H9) O O iM O hx2) O<|Q.q (q.eS (ds:=mT x2) (fun _=>Wd.old H9) hx2 O gx O) O<|Q.q (q.vU (x:=x1) (y:=x2) KT O O h8) O<|Q.nil<|R.av O O<|R.reg O<|R.u 1 O<|R.nil<|R.rv O Tryz.results19 O (rB (by (exact (decide_eq_false (fun e=>by subst e;have hq:=hx1.symm.trans hx2;injection hq;contradiction)).symm)))
       refine R.q (q.cU O O) O<|R.nil<|R.aA O O<|R.reg O<|R.u 1 O<|R.nil<|R.loop (fun k:Nat=>[(2,.pointer (some ⟨b1,0,none⟩)),(3,.pointer (some ⟨b2,0,none⟩)),(8,iV (k:Int))]) (fun k:Nat=>[ag.box b2 [K1,K2,K3,K4,iV b.ae,iV b.ah] 48,ag.box b1 [KX,KY,KZ,K0,iV a.ae,iV a.ah] 48]) (fun k:Nat=>[]) (fun k:Nat=>k<=a.Notes.length /\ ∀j,j<k->a.Notes[j]? = b.Notes[j]?) (fun k:Nat=>a.Notes.length-k) 0 O (by exact ⟨by omega,fun j hj=>absurd hj (Nat.not_lt_zero _)⟩) (sF O) (ic [0,1] [] O) ?_
       rintro k ⟨hk2,HA2⟩
       refine R.reg O<|R.u 1 O<|R.q (q.aO O cB O) O<|R.q (q.ld 1 O O du O) O<|R.q (q.len' (fun _=>Wd.old Fb) O Tryz.underlying46) O<|?_
       by_cases h9:k<a.Notes.length
       .
        refine R.q (q.dx O O) O<|R.nil<|R.av O O ?_
        obtain ⟨x3,hx3⟩:∃z,a.Notes[k]? = some z:=⟨_,List.getElem?_eq_getElem (by omega)⟩
        obtain ⟨x4,hx4⟩:∃z,b.Notes[k]? = some z:=⟨_,List.getElem?_eq_getElem (by omega)⟩
        by_cases h10:x3=x4
        .
         refine R.eu O mixed (by kernel_rfl)<|Q.q (q.aO O cB O) O<|Q.q (q.ld 1 O O du O) O<|Q.u 1 O<|Q.q (q.idx (i:=k) (fun _=>Wd.old Fb) O O fu O hx3) O<|Q.q (q.eS (ds:=ou x3) (fun _=>Wd.old Fb) hx3 O dh O) O<|Q.q (q.aO O cB O) O<|Q.q (q.ld 0 O O du O) O<|Q.u 1 O<|Q.q (q.idx (i:=k) (fun _=>Wd.old Ia) O O fu O hx4) O<|Q.q (q.eS (ds:=ou x4) (fun _=>Wd.old Ia) hx4 O dh O) O<|Q.q (q.vT (x:=x3) (y:=x4) Oo O O h10) O<|Q.nil<|R.aA O O<|R.reg O<|R.u 1 O<|R.q (q.bA (r:=((k+1:Nat):Int)) O O) O<|R.u 1 O<|R.nil<|R.back (k+1) O (by (exact ⟨by omega,nP HA2 hx3 hx4 ‹_›⟩)) (by omega) (sF O) (ic [0,1] [] O)
        exact R.eu O mixed (by kernel_rfl)<|Q.q (q.aO O cB O) O<|Q.q (q.ld 1 O O du O) O<|Q.u 1 O<|Q.q (q.idx (i:=k) (fun _=>Wd.old Fb) O O fu O hx3) O<|Q.q (q.eS (ds:=ou x3) (fun _=>Wd.old Fb) hx3 O dh O) O<|Q.q (q.aO O cB O) O<|Q.q (q.ld 0 O O du O) O<|Q.u 1 O<|Q.q (q.idx (i:=k) (fun _=>Wd.old Ia) O O fu O hx4) O<|Q.q (q.eS (ds:=ou x4) (fun _=>Wd.old Ia) hx4 O dh O) O<|Q.q (q.vU (x:=x3) (y:=x4) Oo O O h10) O<|Q.nil<|R.av O O<|R.reg O<|R.u 1 O<|R.nil<|R.rv O Tryz.results19 O (rB (by (exact (decide_eq_false (fun e=>by subst e;have hq:=hx3.symm.trans hx4;injection hq;contradiction)).symm)))
       exact R.q (q.cU O O) O<|R.nil<|R.aA O O<|R.reg O<|R.u 1 O<|R.nil<|R.rv O Tryz.results19 O (rB (by (refine (decide_eq_true ?_).symm;have eT:=pS (a:=a.Things) (b:=b.Things) (by omega) ‹_› HA;have eN:=pS (a:=a.Notes) (b:=b.Notes) (by omega) ‹_› HA2;cases a;cases b;simp_all)))
      exact R.qg O (q.lJ O O) O<|R.u 1 O<|R.nil<|R.av O O<|R.reg O<|R.u 1 O<|R.nil<|R.rv O Tryz.results19 O (rB (by (exact (decide_eq_false (fun e=>by subst e;omega)).symm)))
     exact R.qg O (q.lJ O O) O<|R.u 10 O<|R.nil<|R.av O O<|R.reg O<|R.u 1 O<|R.nil<|R.rv O Tryz.results19 O (rB (by (exact (decide_eq_false (fun e=>by subst e;omega)).symm)))
    exact R.qg O (q.lJ O O) O<|R.u 19 O<|R.nil<|R.av O O<|R.reg O<|R.u 1 O<|R.nil<|R.rv O Tryz.results19 O (rB (by (exact (decide_eq_false (fun e=>by subst e;omega)).symm)))
   exact R.qg O (q.lJ O O) O<|R.u 26 O<|R.nil<|R.av O O<|R.reg O<|R.u 1 O<|R.nil<|R.rv O Tryz.results19 O (rB (by (exact (decide_eq_false (fun e=>by subst e;omega)).symm)))
  refine R.c (q.call FY O O (fun w hw=>(cv (congrArg Value.bool h2) (lV _ a.Held _ b.Held w ((fun _=>Wd.old MX) w hw) ((fun _=>Wd.old MY) w hw) )))) O<|R.u 1 O<|R.nil ?_
  exact R.reg O<|R.u 38 O<|R.nil<|R.av O O<|R.reg O<|R.u 1 O<|R.nil<|R.rv O Tryz.results19 O (rB (by (exact (decide_eq_false (fun e=>by subst e;(simp_all;done))).symm)))
 refine R.c (q.call NU O O (fun w hw=>(cv (congrArg Value.bool h1) (rF _ a.ak _ b.ak w ((fun _=>Wd.old SZ) w hw) ((fun _=>Wd.old S0) w hw) )))) O<|R.u 1 O<|R.nil ?_
 refine R.reg O<|R.q (q.aO O cz O) O<|R.q (q.ld 1 O O dD O) O<|R.q (q.aO O cz O) O<|R.q (q.ld 0 O O dD O) O<|?_
 rcases Bool.eq_false_or_eq_true (decide (a.Held=b.Held)) with h11|h11
 .
  refine R.c (q.call FY O O (fun w hw=>(cv (congrArg Value.bool h11) (lV _ a.Held _ b.Held w ((fun _=>Wd.old MX) w hw) ((fun _=>Wd.old MY) w hw) )))) O<|R.u 1 O<|R.nil ?_
  exact R.reg O<|R.u 38 O<|R.nil<|R.av O O<|R.reg O<|R.u 1 O<|R.nil<|R.rv O Tryz.results19 O (rB (by (exact (decide_eq_false (fun e=>by subst e;(simp_all;done))).symm)))
 refine R.c (q.call FY O O (fun w hw=>(cv (congrArg Value.bool h11) (lV _ a.Held _ b.Held w ((fun _=>Wd.old MX) w hw) ((fun _=>Wd.old MY) w hw) )))) O<|R.u 1 O<|R.nil ?_
 exact R.reg O<|R.u 38 O<|R.nil<|R.av O O<|R.reg O<|R.u 1 O<|R.nil<|R.rv O Tryz.results19 O (rB (by (exact (decide_eq_false (fun e=>by subst e;(simp_all;done))).symm)))
theorem Qo:dU (⟨[],[],[],[],1,1⟩:aC) (⟨1,0⟩:Place) 1=(⟨[⟨1,1,7,0,0⟩],[⟨1,1,⟨#[]⟩⟩],[⟨⟨1,0⟩,1⟩],[],2,2⟩,0):=by
 have e:fP [] ⟨1,0⟩ 1=[⟨⟨1,0⟩,1⟩]:=by rw [put_eq List.Pairwise.nil];decide
 have a:mU [] ⟨1,0⟩=0:=by rw [at_eq List.Pairwise.nil];decide
 unfold dU gL fx
 rw [if_pos (.inl rfl),if_pos (by rw [a];rfl),if_neg (by decide)]
 simp [e]
section
attribute [local irreducible] dU aS
end
end Go.Proofs.YtkbhcbipadkcaaaGreatDoor
