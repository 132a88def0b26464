import Derived.Test.YtkbhcbipadkcaaaGreatDoorTO32
namespace Go.Proofs.YtkbhcbipadkcaaaGreatDoor
set_option linter.unusedVariables false
set_option linter.unusedSimpArgs false
open Go Go.RowKit
set_option maxRecDepth 100000
set_option maxHeartbeats 90000000
theorem xW (bO:Value)(l:List Change)(most:Int)(w:World)(ey:Sl w bO l):Calls Tryz.prog 29 #[bO,iV most] w fun e w'=>e = .returned (.bool (r5 l most))/\Ext w w':=by
 have zx:=ey.fA
 refine R.enter [] [(0,bO),(1,iV most)] Tryz.func29 O O O O<|R.pR ey<|R.reg O<|R.u 1 O<|R.nil<|R.reg O<|R.u 1 O<|R.q (q.len' (dq 0 O) O Tryz.underlying34) O<|R.u 1 O<|?_
 by_cases h1:most<(l.length:Int)
 .
  exact R.q (q.eM O O) O<|R.nil<|R.av O O<|R.reg O<|R.u 1 O<|R.nil<|R.rv O Tryz.results29 O (rB (by (unfold r5;(rw [decide_eq_false (by omega)];rfl))))
 refine R.q (q.eu O O) O<|R.nil<|R.aA O O<|R.reg O<|R.u 1 O<|R.nil<|R.loop (fun k:Nat=>[(0,bO),(5,iV (k:Int))]) (fun k:Nat=>[]) (fun k:Nat=>[ag.ls bO l]) (fun k:Nat=>k<=l.length/\(l.take k).all oL=true) (fun k:Nat=>l.length-k) 0 O (by exact ⟨by omega,rfl⟩) (sF O) (ic [] [0] O) ?_
 rintro k ⟨hk,HA⟩
 refine R.reg O<|R.u 2 O<|R.q (q.len' (dq 0 O) O Tryz.underlying34) O<|?_
 by_cases h2:k<l.length
 .
  refine R.q (q.dx O O) O<|R.nil<|R.av O O<|R.reg O<|R.u 2 O<|?_
  obtain ⟨x1,hx1⟩:∃z,l[k]? = some z:=⟨_,List.getElem?_eq_getElem (by omega)⟩
  refine R.q (q.idx (i:=k) (dq 0 O) O O cd O hx1) O<|R.q (q.nH (j':=0) (dq 0 O) hx1 O bI O) O<|R.q (q.lu (dq 0 O) hx1 O bG O) O<|R.q (q.iA O Tryz.underlying9) O<|?_
  by_cases h3:20<x1.Key.size
  .
   exact R.q (q.eM O O) O<|R.u 9 O<|R.nil<|R.av O O<|R.reg O<|R.u 1 O<|R.nil<|R.rv O Tryz.results29 O (rB (by (unfold r5;(rw [vD hx1 (show oL _=false from by unfold oL;simp;omega)];simp))))
  refine R.q (q.eu O O) O<|R.u 3 O<|R.qg O (q.idx (i:=k) (dq 0 O) O O cd O hx1) O<|R.qg O (q.nH (j':=1) (dq 0 O) hx1 O cX O) O<|R.qg O (q.lu (dq 0 O) hx1 O bG O) O<|R.qg O (q.iA O Tryz.underlying9) O<|?_
  by_cases h4:40<x1.Val.size
  .
   exact R.qg O (q.eM O O) O<|R.u 1 O<|R.nil<|R.av O O<|R.reg O<|R.u 1 O<|R.nil<|R.rv O Tryz.results29 O (rB (by (unfold r5;(rw [vD hx1 (show oL _=false from by unfold oL;simp;omega)];simp))))
  refine R.qg O (q.eu O O) O<|R.u 1 O<|R.nil<|R.aA O O<|R.reg O<|R.u 1 O<|R.q (q.bA (r:=((k+1:Nat):Int)) O O) O<|R.u 1 O<|R.nil<|R.back (k+1) O (by (exact ⟨by omega,CS hx1 HA (by unfold oL;simp_all)⟩)) (by omega) (sF O) (aD [] [0] O)
 exact R.q (q.cU O O) O<|R.nil<|R.aA O O<|R.reg O<|R.u 1 O<|R.nil<|R.rv O Tryz.results29 O (rB (by (unfold r5;(rw [decide_eq_true (by omega),JY (by omega) HA];rfl))))
theorem oX (bO:Value)(l:List ej)(most:Int)(w:World)(ey:Sl w bO l)(Hq:∀x∈l,Sl w x.cv x.Changes):Calls Tryz.prog 9 #[bO,iV most] w fun e w'=>e = .returned (.bool (lM l most))/\Ext w w':=by
 have zx:=ey.fA
 refine R.enter [] [(0,bO),(1,iV most)] Tryz.func9 O O O O<|R.pR ey<|R.nJ (r:=ag.acts l) Hq (FX Hq)<|R.reg O<|R.u 1 O<|R.nil<|R.reg O<|R.u 1 O<|R.q (q.len' (dq 1 O) O Tryz.underlying22) O<|R.u 1 O<|?_
 by_cases h1:most<(l.length:Int)
 .
  exact R.q (q.eM O O) O<|R.nil<|R.av O O<|R.reg O<|R.u 1 O<|R.nil<|R.rv O Tryz.results9 O (rB (by (unfold lM;(rw [decide_eq_false (by omega)];rfl))))
 refine R.q (q.eu O O) O<|R.nil<|R.aA O O<|R.reg O<|R.u 1 O<|R.nil<|R.loop (fun k:Nat=>[(0,bO),(5,iV (k:Int))]) (fun k:Nat=>[]) (fun k:Nat=>[ag.acts l,ag.ls bO l]) (fun k:Nat=>k<=l.length/\(l.take k).all oM=true) (fun k:Nat=>l.length-k) 0 O (by exact ⟨by omega,rfl⟩) (sF O) (ic [] [0,1] O) ?_
 rintro k ⟨hk,HA⟩
 refine R.reg O<|R.u 2 O<|R.q (q.len' (dq 1 O) O Tryz.underlying22) O<|?_
 by_cases h2:k<l.length
 .
  refine R.q (q.dx O O) O<|R.nil<|R.av O O<|R.reg O<|R.u 2 O<|?_
  obtain ⟨x1,hx1⟩:∃z,l[k]? = some z:=⟨_,List.getElem?_eq_getElem (by omega)⟩
  refine R.q (q.idx (i:=k) (dq 1 O) O O AA O hx1) O<|R.q (q.nH (j':=1) (dq 1 O) hx1 O tM O) O<|R.q (q.lu (dq 1 O) hx1 O bG O) O<|R.q (q.iA O Tryz.underlying9) O<|?_
  by_cases h3:100<x1.S.size
  .
   exact R.q (q.eM O O) O<|R.u 9 O<|R.nil<|R.av O O<|R.reg O<|R.u 1 O<|R.nil<|R.rv O Tryz.results9 O (rB (by (unfold lM;(rw [vD hx1 (show oM _=false from by unfold oM;simp;omega)];simp))))
  refine R.q (q.eu O O) O<|R.u 3 O<|R.qg O (q.idx (i:=k) (dq 1 O) O O AA O hx1) O<|R.qg O (q.nH (j':=10) (dq 1 O) hx1 O Hf O) O<|R.qg O (q.lu (dq 1 O) hx1 O gw O) O<|?_
  rcases Bool.eq_false_or_eq_true (r5 x1.Changes 70) with h4|h4
  .
   refine R.cg O (q.call NZ O O (fun w hw=>(cv (congrArg Value.bool h4) (xW _ x1.Changes 70 w ((fun _=>Wd.RL (l:=l) 0 O (List.mem_of_getElem? hx1)) w hw) )))) O<|R.u 2 O<|R.nil<|R.aA O O<|R.reg O<|R.u 1 O<|R.q (q.bA (r:=((k+1:Nat):Int)) O O) O<|R.u 1 O<|R.nil<|R.back (k+1) O (by (exact ⟨by omega,CS hx1 HA (by unfold oM;simp_all)⟩)) (by omega) (sF O) (aD [] [0,1] O)
  exact R.cg O (q.call NZ O O (fun w hw=>(cv (congrArg Value.bool h4) (xW _ x1.Changes 70 w ((fun _=>Wd.RL (l:=l) 0 O (List.mem_of_getElem? hx1)) w hw) )))) O<|R.u 2 O<|R.nil<|R.av O O<|R.reg O<|R.u 1 O<|R.nil<|R.rv O Tryz.results9 O (rB (by (unfold lM;(rw [vD hx1 (show oM _=false from by unfold oM;simp_all)];simp))))
 exact R.q (q.cU O O) O<|R.nil<|R.aA O O<|R.reg O<|R.u 1 O<|R.nil<|R.rv O Tryz.results9 O (rB (by (unfold lM;(rw [decide_eq_true (by omega),JY (by omega) HA];rfl))))
set_option maxRecDepth 100000 in
set_option maxHeartbeats 90000000 in
theorem M3 (bS bJ bK bL:Value)(r:aC)(a:ej)(w:World)(own:List Nat)(H:HN w own [] [ag.ls bS r.ak,ag.ls bJ r.Things,ag.ls bK r.Held,ag.ls bL r.Notes])(hk:Ok r):RC Tryz.prog 24 #[.agg #[bS,bJ,bK,bL,iV r.ae,iV r.ah],.agg #[.string a.Kind,.string a.S,iV a.P.aB,iV a.P.Slot,iV a.Q.aB,iV a.Q.Slot,iV a.A,iV a.B,iV a.N,.int .u64 a.K,a.cv]] H (fun z:Value×Value×Value×Value => .tuple #[.agg #[z.1,z.2.1,z.2.2.1,z.2.2.2,iV (cQ r a).1.ae,iV (cQ r a).1.ah],df (cQ r a).2]) (fun _=>[]) (fun z=>[ag.ls z.1 (cQ r a).1.ak,ag.ls z.2.1 (cQ r a).1.Things,ag.ls z.2.2.1 (cQ r a).1.Held,ag.ls z.2.2.2 (cQ r a).1.Notes]):=by
 have eK:=H.cq 0 rfl
 have dN:=H.cq 1 rfl
 have fG:=H.cq 2 rfl
 have eL:=H.cq 3 rfl
 refine R.bD [(0,.agg #[bS,bJ,bK,bL,iV r.ae,iV r.ah]),(1,.agg #[.string a.Kind,.string a.S,iV a.P.aB,iV a.P.Slot,iV a.Q.aB,iV a.Q.Slot,iV a.A,iV a.B,iV a.N,.int .u64 a.K,a.cv])] Tryz.func24 O O O O H<|R.reg O<|R.s O (s.box O O O) fun b1=>?_
 refine R.s O (s.box O O O) fun b2=>?_
 refine R.s O (s.alloc dQ O O) fun b3=>?_
 refine R.u 1 O<|R.nil<|R.reg O<|R.q (q.aO O zj O) O<|R.q (q.ld 1 O O bG O) O<|R.nil<|R.reg O<|?_
 by_cases h1:a.Kind=⟨#[109,97,107,101]⟩
 .
  refine R.q (q.pL O O h1) O<|R.u 1 O<|R.nil<|R.av O O<|R.reg O<|R.q (q.du 2 O O ao) O<|R.q (q.aO O j2 O) O<|R.q (q.G6 (ds:=jO a.P) 1 O O bN O) O<|R.q (q.aO O qD O) O<|R.q (q.ld 1 O O au O) O<|R.s O (s.aW bC bC _ _ _ O O O R2 O O (fun w own hw H=>H6 bS bJ bK bL r a.P a.A w own H ‹_›) O) ?_
  rintro ⟨z1,z2,z3,z4⟩
  dsimp only
  refine R.u 2 O<|R.s O (s.fX 0 _ O O O (fun _ _=>rfl) (.inl ao) (fun w hw=>(af (Sl.one (hw.bQ 0 O)) (af (Sl.one (hw.bQ 1 O)) (af (Sl.one (hw.bQ 2 O)) (af (Sl.one (hw.bQ 3 O)) (af O (af O aP))))))) O O O) fun _=>?_
  refine R.u 1 O<|R.nil ?_
  have hz:cQ r a=(((dV r a.P a.A).1),(dV r a.P a.A).2):=by (unfold cQ;(repeat' split) <;> rfl)
  rw [hz]
  exact R.w2 (z1,z2,z3,z4) [3] bC O Tryz.results24 (RV.cell 0 O O ao) (RV.tmp O) O O O (dy O O)
 refine R.q (q.pN O O h1) O<|R.u 1 O<|R.nil<|R.aA O O<|R.reg O<|?_
 by_cases h2:a.Kind=⟨#[103,105,118,101]⟩
 .
  refine R.q (q.pL O O h2) O<|R.u 1 O<|R.nil<|R.av O O<|R.reg O<|R.q (q.du 2 O O ao) O<|R.q (q.aO O j2 O) O<|R.q (q.G6 (ds:=jO a.P) 1 O O bN O) O<|R.q (q.aO O He O) O<|R.q (q.G6 (ds:=jO a.Q) 1 O O bN O) O<|R.q (q.aO O qD O) O<|R.q (q.ld 1 O O au O) O<|R.q (q.aO O zk O) O<|R.q (q.ld 1 O O au O) O<|R.s O (s.aW bC bC _ _ _ O O O R3 O O (fun w own hw H=>H7 bS bJ bK bL r a.P a.Q a.A a.B w own H ‹_›) O) ?_
  rintro ⟨z5,z6,z7,z8⟩
  dsimp only
  refine R.u 2 O<|R.s O (s.fX 0 _ O O O (fun _ _=>rfl) (.inl ao) (fun w hw=>(af (Sl.one (hw.bQ 0 O)) (af (Sl.one (hw.bQ 1 O)) (af (Sl.one (hw.bQ 2 O)) (af (Sl.one (hw.bQ 3 O)) (af O (af O aP))))))) O O O) fun _=>?_
  refine R.u 1 O<|R.nil ?_
  have hz:cQ r a=(((fq r a.P a.Q a.A a.B).1),(fq r a.P a.Q a.A a.B).2):=by (unfold cQ;(repeat' split) <;> first|rfl|(exfalso;simp_all;done)|(simp_all;done))
  rw [hz]
  exact R.w2 (z5,z6,z7,z8) [3] bC O Tryz.results24 (RV.cell 0 O O ao) (RV.tmp O) O O O (dy O O)
 refine R.q (q.pN O O h2) O<|R.u 1 O<|R.nil<|R.aA O O<|R.reg O<|?_
 by_cases h3:a.Kind=⟨#[109,111,118,101]⟩
 .
  refine R.q (q.pL O O h3) O<|R.u 1 O<|R.nil<|R.av O O<|R.reg O<|R.q (q.du 2 O O ao) O<|R.q (q.aO O j2 O) O<|R.q (q.G6 (ds:=jO a.P) 1 O O bN O) O<|R.q (q.aO O qD O) O<|R.q (q.ld 1 O O au O) O<|R.s O (s.aW bC bC _ _ _ O O O R4 O O (fun w own hw H=>H8 bS bJ bK bL r a.P a.A w own H ‹_›) O) ?_
  rintro ⟨z9,lG,l9,z12⟩
  dsimp only
  refine R.u 2 O<|R.s O (s.fX 0 _ O O O (fun _ _=>rfl) (.inl ao) (fun w hw=>(af (Sl.one (hw.bQ 0 O)) (af (Sl.one (hw.bQ 1 O)) (af (Sl.one (hw.bQ 2 O)) (af (Sl.one (hw.bQ 3 O)) (af O (af O aP))))))) O O O) fun _=>?_
  refine R.u 1 O<|R.nil ?_
  have hz:cQ r a=(((jl r a.P a.A).1),(jl r a.P a.A).2):=by (unfold cQ;(repeat' split) <;> first|rfl|(exfalso;simp_all;done)|(simp_all;done))
  rw [hz]
  exact R.w2 (z9,lG,l9,z12) [3] bC O Tryz.results24 (RV.cell 0 O O ao) (RV.tmp O) O O O (dy O O)
 refine R.q (q.pN O O h3) O<|R.u 1 O<|R.nil<|R.aA O O<|R.reg O<|?_
 by_cases h4:a.Kind=⟨#[100,114,111,112]⟩
 .
  refine R.q (q.pL O O h4) O<|R.u 1 O<|R.nil<|R.av O O<|R.reg O<|R.q (q.du 2 O O ao) O<|R.q (q.aO O j2 O) O<|R.q (q.G6 (ds:=jO a.P) 1 O O bN O) O<|R.s O (s.aW bC bC _ _ _ O O O R5 O O (fun w own hw H=>H9 bS bJ bK bL r a.P w own H ‹_›) O) ?_
  rintro ⟨qh,yI,HM,Ch⟩
  dsimp only
  refine R.u 2 O<|R.s O (s.fX 0 _ O O O (fun _ _=>rfl) (.inl ao) (fun w hw=>(af (Sl.one (hw.bQ 0 O)) (af (Sl.one (hw.bQ 1 O)) (af (Sl.one (hw.bQ 2 O)) (af (Sl.one (hw.bQ 3 O)) (af O (af O aP))))))) O O O) fun _=>?_
  refine R.u 1 O<|R.nil ?_
  have hz:cQ r a=(((jL r a.P).1),(jL r a.P).2):=by (unfold cQ;(repeat' split) <;> first|rfl|(exfalso;simp_all;done)|(simp_all;done))
  rw [hz]
  exact R.w2 (qh,yI,HM,Ch) [3] bC O Tryz.results24 (RV.cell 0 O O ao) (RV.tmp O) O O O (dy O O)
 refine R.q (q.pN O O h4) O<|R.u 1 O<|R.nil<|R.aA O O<|R.reg O<|?_
 by_cases h5:a.Kind=⟨#[114,101,118,111,107,101]⟩
 .
  refine R.q (q.pL O O h5) O<|R.u 1 O<|R.nil<|R.av O O<|R.reg O<|R.q (q.du 2 O O ao) O<|R.q (q.aO O j2 O) O<|R.q (q.G6 (ds:=jO a.P) 1 O O bN O) O<|R.s O (s.aW bC bC _ _ _ O O O R6 O O (fun w own hw H=>Dr bS bJ bK bL r a.P w own H ‹_›) O) ?_
  rintro ⟨z17,yP,BA,z20⟩
  dsimp only
  refine R.u 2 O<|R.s O (s.fX 0 _ O O O (fun _ _=>rfl) (.inl ao) (fun w hw=>(af (Sl.one (hw.bQ 0 O)) (af (Sl.one (hw.bQ 1 O)) (af (Sl.one (hw.bQ 2 O)) (af (Sl.one (hw.bQ 3 O)) (af O (af O aP))))))) O O O) fun _=>?_
  refine R.u 1 O<|R.nil ?_
  have hz:cQ r a=(((fe r a.P).1),(fe r a.P).2):=by (unfold cQ;(repeat' split) <;> first|rfl|(exfalso;simp_all;done)|(simp_all;done))
  rw [hz]
  exact R.w2 (z17,yP,BA,z20) [3] bC O Tryz.results24 (RV.cell 0 O O ao) (RV.tmp O) O O O (dy O O)
 refine R.q (q.pN O O h5) O<|R.u 1 O<|R.nil<|R.aA O O<|R.reg O<|?_
 by_cases h6:a.Kind=⟨#[119,114,105,116,101]⟩
 .
  refine R.q (q.pL O O h6) O<|R.u 1 O<|R.nil<|R.av O O<|R.reg O<|R.q (q.du 2 O O ao) O<|R.q (q.aO O j2 O) O<|R.q (q.G6 (ds:=jO a.P) 1 O O bN O) O<|R.q (q.aO O tM O) O<|R.q (q.ld 1 O O bG O) O<|R.s O (s.aW bC bC _ _ _ O O O R7 O O (fun w own hw H=>Fe bS bJ bK bL r a.P a.S w own H ‹_›) O) ?_
  rintro ⟨z21,z22,z23,z24⟩
  dsimp only
  refine R.u 2 O<|R.s O (s.fX 0 _ O O O (fun _ _=>rfl) (.inl ao) (fun w hw=>(af (Sl.one (hw.bQ 0 O)) (af (Sl.one (hw.bQ 1 O)) (af (Sl.one (hw.bQ 2 O)) (af (Sl.one (hw.bQ 3 O)) (af O (af O aP))))))) O O O) fun _=>?_
  refine R.u 1 O<|R.nil ?_
  have hz:cQ r a=(((fV r a.P a.S).1),(fV r a.P a.S).2):=by (unfold cQ;(repeat' split) <;> first|rfl|(exfalso;simp_all;done)|(simp_all;done))
  rw [hz]
  exact R.w2 (z21,z22,z23,z24) [3] bC O Tryz.results24 (RV.cell 0 O O ao) (RV.tmp O) O O O (dy O O)
 refine R.q (q.pN O O h6) O<|R.u 1 O<|R.nil<|R.aA O O<|R.reg O<|?_
 by_cases h7:a.Kind=⟨#[115,101,110,100]⟩
 .
  refine R.q (q.pL O O h7) O<|R.u 1 O<|R.nil<|R.av O O<|R.reg O<|R.q (q.du 2 O O ao) O<|R.q (q.aO O j2 O) O<|R.q (q.G6 (ds:=jO a.P) 1 O O bN O) O<|R.q (q.aO O tM O) O<|R.q (q.ld 1 O O bG O) O<|R.q (q.aO O qD O) O<|R.q (q.ld 1 O O au O) O<|R.q (q.aO O zk O) O<|R.q (q.ld 1 O O au O) O<|R.s O (s.aW bC bC _ _ _ O O O R8 O O (fun w own hw H=>Ia bS bJ bK bL r a.P a.S a.A a.B w own H ‹_›) O) ?_
  rintro ⟨z25,z26,z27,z28⟩
  dsimp only
  refine R.u 2 O<|R.s O (s.fX 0 _ O O O (fun _ _=>rfl) (.inl ao) (fun w hw=>(af (Sl.one (hw.bQ 0 O)) (af (Sl.one (hw.bQ 1 O)) (af (Sl.one (hw.bQ 2 O)) (af (Sl.one (hw.bQ 3 O)) (af O (af O aP))))))) O O O) fun _=>?_
  refine R.u 1 O<|R.nil ?_
  have hz:cQ r a=(((dO r a.P a.S a.A a.B).1),(dO r a.P a.S a.A a.B).2):=by (unfold cQ;(repeat' split) <;> first|rfl|(exfalso;simp_all;done)|(simp_all;done))
  rw [hz]
  exact R.w2 (z25,z26,z27,z28) [3] bC O Tryz.results24 (RV.cell 0 O O ao) (RV.tmp O) O O O (dy O O)
 refine R.q (q.pN O O h7) O<|R.u 1 O<|R.nil<|R.aA O O<|R.reg O<|?_
 by_cases h8:a.Kind=⟨#[116,97,107,101]⟩
 .
  refine R.q (q.pL O O h8) O<|R.u 1 O<|R.nil<|R.av O O<|R.reg O<|R.q (q.du 2 O O ao) O<|R.q (q.aO O j2 O) O<|R.q (q.G6 (ds:=jO a.P) 1 O O bN O) O<|R.s O (s.aW bC bC _ _ _ O O O R9 O O (fun w own hw H=>Ib bS bJ bK bL r a.P w own H ‹_›) O) ?_
  rintro ⟨z29,z30,z31,z32⟩
  dsimp only
  refine R.u 5 O<|R.s O (s.alloc dQ O O) fun b4=>?_
  refine R.s O (s.alloc eV O O) fun b5=>?_
  refine R.s O (s.fX 1 _ O O O (fun _ _=>rfl) (.inl ao) (fun w hw=>(af (Sl.one (hw.bQ 0 O)) (af (Sl.one (hw.bQ 1 O)) (af (Sl.one (hw.bQ 2 O)) (af (Sl.one (hw.bQ 3 O)) (af O (af O aP))))))) O O O) fun _=>?_
  refine R.s O (s.st 0 _ O O O O (.inl dh) O O O O) fun _=>?_
  refine R.u 2 O<|R.nil<|R.reg O<|R.q (q.du 1 O O ao) O<|R.u 1 O<|R.s O (s.fX 2 _ O O O (fun _ _=>rfl) (.inl ao) (fun w hw=>(af (Sl.one (hw.bQ 0 O)) (af (Sl.one (hw.bQ 1 O)) (af (Sl.one (hw.bQ 2 O)) (af (Sl.one (hw.bQ 3 O)) (af O (af O aP))))))) O O O) fun _=>?_
  refine R.u 1 O<|R.nil ?_
  have hz:cQ r a=(((eC r a.P).1),(eC r a.P).2.2.2):=by (unfold cQ;(repeat' split) <;> first|rfl|(exfalso;simp_all;done)|(simp_all;done))
  rw [hz]
  exact R.w2 (z29,z30,z31,z32) [5] bC O Tryz.results24 (RV.cell 2 O O ao) (RV.tmp O) O O O (dy O O)
 refine R.q (q.pN O O h8) O<|R.u 1 O<|R.nil<|R.aA O O<|R.reg O<|R.q (q.du 2 O O ao) O<|R.s O (s.fX 0 _ O O O (fun _ _=>rfl) (.inl ao) (fun w hw=>(af (Sl.one (hw.bQ 0 O)) (af (Sl.one (hw.bQ 1 O)) (af (Sl.one (hw.bQ 2 O)) (af (Sl.one (hw.bQ 3 O)) (af O (af O aP))))))) O O O) fun _=>?_
 refine R.u 1 O<|R.nil ?_
 have hz:cQ r a=(r,0):=by (unfold cQ;(repeat' split) <;> first|rfl|(exfalso;simp_all;done)|(simp_all;done))
 rw [hz]
 exact R.w2 (bS,bJ,bK,bL) [3] bC O Tryz.results24 (RV.cell 0 O O ao) (RV.tmp O) O O O (dy O (iK O))
set_option maxRecDepth 100000 in
theorem yY (K3 K4 K5 K6:Value)(a:aC)(K7 K8 K9 La:Value)(b:aC)(w:World)(S6:Sl w K3 a.ak)(Ff:Sl w K4 a.Things)(M4:Sl w K5 a.Held)(Fg:Sl w K6 a.Notes)(S7:Sl w K7 b.ak)(Ig:Sl w K8 b.Things)(M5:Sl w K9 b.Held)(Ih:Sl w La b.Notes):Calls Tryz.prog 19 #[.agg #[K3,K4,K5,K6,iV a.ae,iV a.ah],.agg #[K7,K8,K9,La,iV b.ae,iV b.ah]] w fun e w'=>e = .returned (.bool (decide (a=b)))/\Ext w w':=by
 have ba:=Ff.fA;have bb:=Ig.fA;have bc:=Fg.fA;have bd:=Ih.fA
 refine R.enter [] [(0,.agg #[K3,K4,K5,K6,iV a.ae,iV a.ah]),(1,.agg #[K7,K8,K9,La,iV b.ae,iV b.ah])] Tryz.func19 O O O O<|R.reg O<|R.s O (s.box O O O) fun b1=>?_
 refine R.s O (s.box O O O) fun b2=>?_
 refine R.u 1 O<|R.nil<|R.reg O<|R.q (q.aO O bg O) O<|R.q (q.ld 1 O O bT O) O<|R.q (q.aO O bg O) O<|R.q (q.ld 0 O O bT O) O<|?_
 rcases Bool.eq_false_or_eq_true (decide (a.ak=b.ak)) with h1|h1
 .
  refine R.c (q.call N2 O O (fun w hw=>(cv (congrArg Value.bool h1) (rK _ a.ak _ b.ak w ((fun _=>Wd.old S6) w hw) ((fun _=>Wd.old S7) w hw) )))) O<|R.u 1 O<|R.nil ?_
  refine R.reg O<|R.q (q.aO O cz O) O<|R.q (q.ld 1 O O dE O) O<|R.q (q.aO O cz O) O<|R.q (q.ld 0 O O dE O) O<|?_
  rcases Bool.eq_false_or_eq_true (decide (a.Held=b.Held)) with h2|h2
  .
   refine R.c (q.call F6 O O (fun w hw=>(cv (congrArg Value.bool h2) (lV _ a.Held _ b.Held w ((fun _=>Wd.old M4) w hw) ((fun _=>Wd.old M5) w hw) )))) O<|R.u 1 O<|R.nil ?_
   refine R.reg O<|R.u 7 O<|R.qg O (q.aO O cJ O) O<|R.qg O (q.ld 1 O O au O) O<|R.qg O (q.aO O cJ O) O<|R.qg O (q.ld 0 O O au O) O<|?_
   by_cases h3:a.ae=b.ae
   .
    refine R.qg O (q.lJ O O) O<|R.u 2 O<|R.qg O (q.aO O dP O) O<|R.qg O (q.ld 1 O O au O) O<|R.qg O (q.aO O dP O) O<|R.qg O (q.ld 0 O O au O) O<|?_
    by_cases h4:a.ah=b.ah
    .
     refine R.qg O (q.lJ O O) O<|R.u 2 O<|R.qg O (q.aO O cy O) O<|R.qg O (q.ld 1 O O dD O) O<|R.qg O (q.len' (fun _=>Wd.old Ff) O Tryz.underlying44) O<|R.qg O (q.aO O cy O) O<|R.qg O (q.ld 0 O O dD O) O<|R.qg O (q.len' (fun _=>Wd.old Ig) O Tryz.underlying44) O<|?_
     by_cases h5:a.Things.length=b.Things.length
     .
      refine R.qg O (q.lJ O O) O<|R.u 2 O<|R.qg O (q.aO O cB O) O<|R.qg O (q.ld 1 O O dv O) O<|R.qg O (q.len' (fun _=>Wd.old Fg) O Tryz.underlying46) O<|R.qg O (q.aO O cB O) O<|R.qg O (q.ld 0 O O dv O) O<|R.qg O (q.len' (fun _=>Wd.old Ih) O Tryz.underlying46) O<|?_
      by_cases h6:a.Notes.length=b.Notes.length
      .
       refine R.qg O (q.lJ O O) O<|R.u 1 O<|R.nil<|R.aA O O<|R.reg O<|R.u 1 O<|R.nil<|R.loop (fun k:Nat=>[(2,.pointer (some ⟨b1,0,none⟩)),(3,.pointer (some ⟨b2,0,none⟩)),(7,iV (k:Int))]) (fun k:Nat=>[ag.box b2 [K7,K8,K9,La,iV b.ae,iV b.ah] 48,ag.box b1 [K3,K4,K5,K6,iV a.ae,iV a.ah] 48]) (fun k:Nat=>[]) (fun k:Nat=>k<=a.Things.length /\ ∀j,j<k->a.Things[j]? = b.Things[j]?) (fun k:Nat=>a.Things.length-k) 0 O (by exact ⟨by omega,fun j hj=>absurd hj (Nat.not_lt_zero _)⟩) (sF O) (ic [0,1] [] O) ?_
       rintro k ⟨hk,HA⟩
       refine R.reg O<|R.u 1 O<|R.q (q.aO O cy O) O<|R.q (q.ld 1 O O dD O) O<|R.q (q.len' (fun _=>Wd.old Ff) O Tryz.underlying44) O<|?_
       by_cases h7:k<a.Things.length
       .
        refine R.q (q.dx O O) O<|R.nil<|R.av O O ?_
        obtain ⟨x1,hx1⟩:∃z,a.Things[k]? = some z:=⟨_,List.getElem?_eq_getElem (by omega)⟩
        obtain ⟨x2,hx2⟩:∃z,b.Things[k]? = some z:=⟨_,List.getElem?_eq_getElem (by omega)⟩
        by_cases h8:x1=x2
        .
         refine R.ew O mixed (by kernel_rfl)<|Q.q (q.aO O cy O) O<|Q.q (q.ld 1 O O dD O) O<|Q.u 1 O<|Q.q (q.idx (i:=k) (fun _=>Wd.old Ff) O O iM O hx1) O<|Q.q (q.eU (ds:=mU x1) (fun _=>Wd.old Ff) hx1 O gx O) O<|Q.q (q.aO O cy O) O<|Q.q (q.ld 0 O O dD O) O<|Q.u 1 O<|Q.q (q.idx (i:=k) (fun _=>Wd.old Ig) O O iM O hx2) O<|Q.q (q.eU (ds:=mU x2) (fun _=>Wd.old Ig) hx2 O gx O) O<|Q.q (q.vY (x:=x1) (y:=x2) KZ O O h8) O<|Q.nil<|R.aA O O<|R.reg O<|R.u 1 O<|R.q (q.bA (r:=((k+1:Nat):Int)) O O) O<|R.u 1 O<|R.nil<|R.back (k+1) O (by (exact ⟨by omega,nQ HA hx1 hx2 ‹_›⟩)) (by omega) (sF O) (ic [0,1] [] O)
        exact R.ew O mixed (by kernel_rfl)<|Q.q (q.aO O cy O) O<|Q.q (q.ld 1 O O dD O) O<|Q.u 1 O<|Q.q (q.idx (i:=k) (fun _=>Wd.old Ff) O O iM O hx1) O<|Q.q (q.eU (ds:=mU x1) (fun _=>Wd.old Ff) hx1 O gx O) O<|Q.q (q.aO O cy O) O<|Q.q (q.ld 0 O O dD O) O<|Q.u 1 O<|Q.q (q.idx (i:=k) (fun _=>Wd.old Ig) O O iM O hx2) O<|Q.q (q.eU (ds:=mU x2) (fun _=>Wd.old Ig) hx2 O gx O) O<|Q.q (q.vZ (x:=x1) (y:=x2) KZ O O h8) O<|Q.nil<|R.av O O<|R.reg O<|R.u 1 O<|R.nil<|R.rv O Tryz.results19 O (rB (by (exact (decide_eq_false (fun e=>by subst e;have hq:=hx1.symm.trans hx2;injection hq;contradiction)).symm)))
       refine R.q (q.cU O O) O<|R.nil<|R.aA O O<|R.reg O<|R.u 1 O<|R.nil<|R.loop (fun k:Nat=>[(2,.pointer (some ⟨b1,0,none⟩)),(3,.pointer (some ⟨b2,0,none⟩)),(8,iV (k:Int))]) (fun k:Nat=>[ag.box b2 [K7,K8,K9,La,iV b.ae,iV b.ah] 48,ag.box b1 [K3,K4,K5,K6,iV a.ae,iV a.ah] 48]) (fun k:Nat=>[]) (fun k:Nat=>k<=a.Notes.length /\ ∀j,j<k->a.Notes[j]? = b.Notes[j]?) (fun k:Nat=>a.Notes.length-k) 0 O (by exact ⟨by omega,fun j hj=>absurd hj (Nat.not_lt_zero _)⟩) (sF O) (ic [0,1] [] O) ?_
       rintro k ⟨hk2,HA2⟩
       refine R.reg O<|R.u 1 O<|R.q (q.aO O cB O) O<|R.q (q.ld 1 O O dv O) O<|R.q (q.len' (fun _=>Wd.old Fg) O Tryz.underlying46) O<|?_
       by_cases h9:k<a.Notes.length
       .
        refine R.q (q.dx O O) O<|R.nil<|R.av O O ?_
        obtain ⟨x3,hx3⟩:∃z,a.Notes[k]? = some z:=⟨_,List.getElem?_eq_getElem (by omega)⟩
        obtain ⟨x4,hx4⟩:∃z,b.Notes[k]? = some z:=⟨_,List.getElem?_eq_getElem (by omega)⟩
        by_cases h10:x3=x4
        .
         refine R.ew O mixed (by kernel_rfl)<|Q.q (q.aO O cB O) O<|Q.q (q.ld 1 O O dv O) O<|Q.u 1 O<|Q.q (q.idx (i:=k) (fun _=>Wd.old Fg) O O fw O hx3) O<|Q.q (q.eU (ds:=ov x3) (fun _=>Wd.old Fg) hx3 O dh O) O<|Q.q (q.aO O cB O) O<|Q.q (q.ld 0 O O dv O) O<|Q.u 1 O<|Q.q (q.idx (i:=k) (fun _=>Wd.old Ih) O O fw O hx4) O<|Q.q (q.eU (ds:=ov x4) (fun _=>Wd.old Ih) hx4 O dh O) O<|Q.q (q.vY (x:=x3) (y:=x4) Oy O O h10) O<|Q.nil<|R.aA O O<|R.reg O<|R.u 1 O<|R.q (q.bA (r:=((k+1:Nat):Int)) O O) O<|R.u 1 O<|R.nil<|R.back (k+1) O (by (exact ⟨by omega,nQ HA2 hx3 hx4 ‹_›⟩)) (by omega) (sF O) (ic [0,1] [] O)
        exact R.ew O mixed (by kernel_rfl)<|Q.q (q.aO O cB O) O<|Q.q (q.ld 1 O O dv O) O<|Q.u 1 O<|Q.q (q.idx (i:=k) (fun _=>Wd.old Fg) O O fw O hx3) O<|Q.q (q.eU (ds:=ov x3) (fun _=>Wd.old Fg) hx3 O dh O) O<|Q.q (q.aO O cB O) O<|Q.q (q.ld 0 O O dv O) O<|Q.u 1 O<|Q.q (q.idx (i:=k) (fun _=>Wd.old Ih) O O fw O hx4) O<|Q.q (q.eU (ds:=ov x4) (fun _=>Wd.old Ih) hx4 O dh O) O<|Q.q (q.vZ (x:=x3) (y:=x4) Oy O O h10) O<|Q.nil<|R.av O O<|R.reg O<|R.u 1 O<|R.nil<|R.rv O Tryz.results19 O (rB (by (exact (decide_eq_false (fun e=>by subst e;have hq:=hx3.symm.trans hx4;injection hq;contradiction)).symm)))
       exact R.q (q.cU O O) O<|R.nil<|R.aA O O<|R.reg O<|R.u 1 O<|R.nil<|R.rv O Tryz.results19 O (rB (by (refine (decide_eq_true ?_).symm;have eT:=pW (a:=a.Things) (b:=b.Things) (by omega) ‹_› HA;have eN:=pW (a:=a.Notes) (b:=b.Notes) (by omega) ‹_› HA2;cases a;cases b;simp_all)))
      exact R.qg O (q.lI O O) O<|R.u 1 O<|R.nil<|R.av O O<|R.reg O<|R.u 1 O<|R.nil<|R.rv O Tryz.results19 O (rB (by (exact (decide_eq_false (fun e=>by subst e;omega)).symm)))
     exact R.qg O (q.lI O O) O<|R.u 10 O<|R.nil<|R.av O O<|R.reg O<|R.u 1 O<|R.nil<|R.rv O Tryz.results19 O (rB (by (exact (decide_eq_false (fun e=>by subst e;omega)).symm)))
    exact R.qg O (q.lI O O) O<|R.u 19 O<|R.nil<|R.av O O<|R.reg O<|R.u 1 O<|R.nil<|R.rv O Tryz.results19 O (rB (by (exact (decide_eq_false (fun e=>by subst e;omega)).symm)))
   exact R.qg O (q.lI O O) O<|R.u 26 O<|R.nil<|R.av O O<|R.reg O<|R.u 1 O<|R.nil<|R.rv O Tryz.results19 O (rB (by (exact (decide_eq_false (fun e=>by subst e;omega)).symm)))
  refine R.c (q.call F6 O O (fun w hw=>(cv (congrArg Value.bool h2) (lV _ a.Held _ b.Held w ((fun _=>Wd.old M4) w hw) ((fun _=>Wd.old M5) w hw) )))) O<|R.u 1 O<|R.nil ?_
  exact R.reg O<|R.u 38 O<|R.nil<|R.av O O<|R.reg O<|R.u 1 O<|R.nil<|R.rv O Tryz.results19 O (rB (by (exact (decide_eq_false (fun e=>by subst e;(simp_all;done))).symm)))
 refine R.c (q.call N2 O O (fun w hw=>(cv (congrArg Value.bool h1) (rK _ a.ak _ b.ak w ((fun _=>Wd.old S6) w hw) ((fun _=>Wd.old S7) w hw) )))) O<|R.u 1 O<|R.nil ?_
 refine R.reg O<|R.q (q.aO O cz O) O<|R.q (q.ld 1 O O dE O) O<|R.q (q.aO O cz O) O<|R.q (q.ld 0 O O dE O) O<|?_
 rcases Bool.eq_false_or_eq_true (decide (a.Held=b.Held)) with h11|h11
 .
  refine R.c (q.call F6 O O (fun w hw=>(cv (congrArg Value.bool h11) (lV _ a.Held _ b.Held w ((fun _=>Wd.old M4) w hw) ((fun _=>Wd.old M5) w hw) )))) O<|R.u 1 O<|R.nil ?_
  exact R.reg O<|R.u 38 O<|R.nil<|R.av O O<|R.reg O<|R.u 1 O<|R.nil<|R.rv O Tryz.results19 O (rB (by (exact (decide_eq_false (fun e=>by subst e;(simp_all;done))).symm)))
 refine R.c (q.call F6 O O (fun w hw=>(cv (congrArg Value.bool h11) (lV _ a.Held _ b.Held w ((fun _=>Wd.old M4) w hw) ((fun _=>Wd.old M5) w hw) )))) O<|R.u 1 O<|R.nil ?_
 exact R.reg O<|R.u 38 O<|R.nil<|R.av O O<|R.reg O<|R.u 1 O<|R.nil<|R.rv O Tryz.results19 O (rB (by (exact (decide_eq_false (fun e=>by subst e;(simp_all;done))).symm)))
theorem Qw:dV (⟨[],[],[],[],1,1⟩:aC) (⟨1,0⟩:Place) 1=(⟨[⟨1,1,7,0,0⟩],[⟨1,1,⟨#[]⟩⟩],[⟨⟨1,0⟩,1⟩],[],2,2⟩,0):=by
 have e:fP [] ⟨1,0⟩ 1=[⟨⟨1,0⟩,1⟩]:=by rw [put_eq List.Pairwise.nil];decide
 have a:mV [] ⟨1,0⟩=0:=by rw [at_eq List.Pairwise.nil];decide
 unfold dV gL fy
 rw [if_pos (.inl rfl),if_pos (by rw [a];rfl),if_neg (by decide)]
 simp [e]
section
attribute [local irreducible] dV aS
end
end Go.Proofs.YtkbhcbipadkcaaaGreatDoor
