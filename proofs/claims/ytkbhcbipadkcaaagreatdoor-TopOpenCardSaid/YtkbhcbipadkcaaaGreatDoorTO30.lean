import Derived.Test.YtkbhcbipadkcaaaGreatDoorTO29
namespace Go.Proofs.YtkbhcbipadkcaaaGreatDoor
set_option linter.unusedVariables false
set_option linter.unusedSimpArgs false
open Go Go.RowKit
set_option maxRecDepth 100000
set_option maxHeartbeats 90000000
set_option maxHeartbeats 90000000 in
theorem sg (bR bH bI bJ:Value)(r:aC)(w:World)(own:List Nat)(H:HN w own [] [ag.ls bR r.ak,ag.ls bH r.Things,ag.ls bI r.Held,ag.ls bJ r.Notes])(hk:Ok r):RC Tryz.prog 55 #[.agg #[bR,bH,bI,bJ,iV r.ae,iV r.ah]] H (fun z:Value×Value×Value×Value => .agg #[z.1,z.2.1,z.2.2.1,z.2.2.2,iV (dR r).ae,iV (dR r).ah]) (fun _=>[]) (fun z=>[ag.ls z.1 (dR r).ak,ag.ls z.2.1 (dR r).Things,ag.ls z.2.2.1 (dR r).Held,ag.ls z.2.2.2 (dR r).Notes]):=by
 have eJ:=H.cq 0 rfl
 have dM:=H.cq 1 rfl
 have fG:=H.cq 2 rfl
 have eK:=H.cq 3 rfl
 refine R.bC [(0,.agg #[bR,bH,bI,bJ,iV r.ae,iV r.ah])] Tryz.func55 O O O O H<|R.reg O<|R.s O (s.box O O O) fun b1=>?_
 refine R.s O (s.alloc dP O O) fun b2=>?_
 refine R.nil<|R.loop (fun g_:aC×Value×Value×Value×Value=>[(1,.pointer (some ⟨b1,0,none⟩)),(2,.pointer (some ⟨b2,0,none⟩))]) (fun g_=>[ag.box b2 GX 48,ag.box b1 [g_.2.1,g_.2.2.1,g_.2.2.2.1,g_.2.2.2.2,iV g_.1.ae,iV g_.1.ah] 48,ag.held w own]) (fun g_=>[ag.ls g_.2.1 g_.1.ak,ag.ls g_.2.2.1 g_.1.Things,ag.ls g_.2.2.2.1 g_.1.Held,ag.ls g_.2.2.2.2 g_.1.Notes,ag.ls bR r.ak,ag.ls bH r.Things,ag.ls bI r.Held,ag.ls bJ r.Notes]) (fun g_=>Ok g_.1/\dR g_.1=dR r) (fun g_=>g_.1.Notes.length) (r,bR,bH,bI,bJ) O (by exact ⟨hk,rfl⟩) (sF O) (ic [0,1,2] [0,1,2,3,0,1,2,3] O) ?_
 rintro ⟨m,SX,Uh,TF,TG⟩ ⟨hok,HS⟩
 dsimp only at *
 have o1:=hok.wl;have o2:=hok.tl;have o3:=hok.hl;have o4:=hok.nl
 refine R.reg O<|R.q (q.aO O bg O) O<|R.q (q.ld 1 O O bS O) O<|R.s O (s.vQ Jh O O (fun w hw=>uM _ m.ak w (hw.bP 0 O) (by omega)) O) fun v1=>?_
 refine R.s O (s.alloc zh O O) fun b3=>?_
 refine R.s O (s.fX 0 _ O O O (fun w hw=>Sl.cm (hw.row 1 O)) (.inr ⟨nL,rfl⟩) (fun w hw=>(af (Sl.one (hw.row 1 O)) aP)) O O O) fun _=>?_
 refine R.nil<|R.reg O<|R.q (q.aO O cy O) O<|R.q (q.ld 3 O O dC O) O<|R.s O (s.aW gX [1] _ _ _ O O O wt O O (fun w own hw H=>jm Uh m.Things w own H (by omega)) O) fun z1=>?_
 refine R.q (q.LR (cap:=[.pointer (some ⟨b3,0,none⟩)]) O O) O<|R.s O (s.aW rm [] _ _ _ O O O O0 O O (fun w own hw H=>uc z1 m.Things (fun (t:aE) => !decide (t.ID∈(bT m.ak))) _ _ O1 w own H (fun W t hU=>yO t _ (bT m.ak) _ W (hw.vZ 1 0 O O (by decide) hU) (Own.sl (hw.vZ 2 0 O O (by decide) hU)) ) (by omega)) O) fun z2=>?_
 refine R.q (q.aO O cy O) O<|R.s O (s.fX 4 _ O O O (fun w hw=>Sl.cm (hw.row 0 O)) (.inr ⟨dC,rfl⟩) (fun w hw=>(af (Sl.one (hw.row 0 O)) aP)) O O O) fun _=>?_
 refine R.nil<|R.reg O<|R.u 1 O<|R.nil<|R.reg O<|R.u 1 O<|R.nil<|R.reg O<|R.q (q.aO O cB O) O<|R.q (q.ld 4 O O du O) O<|R.q (q.len' (dw 3 O) O Tryz.underlying46) O<|R.u 1 O<|R.nil<|R.row0 (α:=Int) 3<|R.row0 (α:=Note) 89<|R.loop (fun g_:Nat×Value×(List Note)×Value×(List Int)=>[(1,.pointer (some ⟨b1,0,none⟩)),(2,.pointer (some ⟨b2,0,none⟩)),(3,.pointer (some ⟨b3,0,none⟩)),(4,g_.2.2.2.1),(5,g_.2.1),(20,TG),(21,iV (m.Notes.length:Int)),(22,iV (g_.1:Int))]) (fun g_=>[ag.row 89 g_.2.1 g_.2.2.1,ag.row 3 g_.2.2.2.1 g_.2.2.2.2,ag.row 100 z2 (m.Things.filter (fun x => !(fun (t:aE) => !decide (t.ID∈(bT m.ak))) x)),ag.box b3 [v1] 159,ag.row 3 v1 (bT m.ak),ag.box b2 GX 48,ag.box b1 [SX,z2,TF,TG,iV m.ae,iV m.ah] 48,ag.held w own]) (fun g_=>[ag.ls SX m.ak,ag.ls Uh m.Things,ag.ls TF m.Held,ag.ls TG m.Notes,ag.ls bR r.ak,ag.ls bH r.Things,ag.ls bI r.Held,ag.ls bJ r.Notes]) (fun g_=>g_.1<=m.Notes.length/\g_.2.2.1=ig m.ak (bT m.ak) (m.Notes.take g_.1)/\g_.2.2.2.2=kJ m.ak (bT m.ak) (m.Notes.take g_.1)) (fun g_=>m.Notes.length-g_.1) (0,(nS),[],(nS),[]) O (by exact ⟨by omega,by simp [ig],by simp [kJ]⟩) (sF O) (ic ff ff O) ?_
 rintro ⟨k,vn,ns,vl,ls⟩ ⟨hk1,HN,HL⟩
 dsimp only at *
 have hkl:=qR m.ak (bT m.ak) (m.Notes.take k);rw [<- HN,<- HL,List.length_take] at hkl
 refine R.reg O<|?_
 by_cases h1:k<m.Notes.length
 .
  refine R.q (q.dx O O) O<|R.nil<|R.av O O<|R.reg O<|?_
  obtain ⟨x1,hx1⟩:∃z,m.Notes[k]? = some z:=⟨_,List.getElem?_eq_getElem (by omega)⟩
  refine R.q (q.idx (i:=k) (dw 3 O) O O fu O hx1) O<|R.q (q.eS (ds:=ou x1) (dw 3 O) hx1 O dh O) O<|R.s O (s.alloc eU O O) fun b4=>?_
  refine R.s O (s.st 0 _ O O O O (.inl dh) O O O O) fun _=>?_
  refine R.nil<|R.reg O<|R.q (q.aO O bg O) O<|R.q (q.ld 7 O O bS O) O<|R.q (q.aO O iG O) O<|R.q (q.ld 0 O O au O) O<|?_
  rcases fj m.ak x1.aj with ⟨gU,Eo⟩ | ⟨Df,lW,gU,ve,SL⟩
  .
   refine R.c (q.call lL O O (fun w hw=>(cv (congrArg (Value.int .i64) gU) (iD _ m.ak x1.aj w (hw.bP 0 O) )))) O<|R.q (q.lss (b:=true) O O (by decide)) O<|R.nil ?_
   refine R.av O O<|R.reg O<|R.q (q.aO O iG O) O<|R.s O (s.st 0 _ O O O O (.inr ⟨au,rfl⟩) O O O O) fun _=>?_
   refine R.nil<|R.reg O<|R.q (q.ld 4 O O nL O) O<|R.q (q.aO O qB O) O<|R.q (q.ld 0 O O au O) O<|?_
   rcases Bool.eq_false_or_eq_true (decide (x1.Port∈(bT m.ak))) with h2|h2
   .
    refine R.c (q.call pQ O O (fun w hw=>(cv (congrArg Value.bool h2) (fM _ (bT m.ak) x1.Port w (hw.row 5 O) )))) O<|R.nil ?_
    refine R.av O O<|R.reg O<|R.u 1 O<|R.q (q.dt 0 O O dh) O<|R.s O (s.bs (l:=([(⟨x1.Port,x1.Data,x1.aQ,0⟩:Note)]:List Note)) fu eU O O O O O O O) fun b5=>?_
    refine R.s O (s.app 2 _ O O O (bB 0 O) kj (by (simp;omega)) (by (simp;omega)) (fun _=>rfl) O) fun v2=>?_
    refine R.u 1 O<|R.nil<|R.reg O<|R.q (q.bA (r:=((k+1:Nat):Int)) O O) O<|R.u 1 O<|R.nil<|R.back (k+1,v2,(ns++([(⟨x1.Port,x1.Data,x1.aQ,0⟩:Note)])),vl,ls) O (by (have e0:=hx1;(have e1:=Gu (ws:=m.ak) gU;have e2:=zL e0 (by rw [e1];exact of_decide_eq_true ‹_›);rw [e1] at e2;exact ⟨by omega,by rw [e2.1,HN],by rw [e2.2,HL]⟩))) (by dsimp only;omega) (sF O) (aD FG ff O)
   refine R.c (q.call pQ O O (fun w hw=>(cv (congrArg Value.bool h2) (fM _ (bT m.ak) x1.Port w (hw.row 5 O) )))) O<|R.nil ?_
   refine R.aA O O<|R.reg O<|R.q (q.aO O iG O) O<|R.q (q.ld 0 O O au O) O<|R.q (q.gtr (b:=false) O O (by decide)) O<|R.nil<|R.aA O O<|R.reg O<|R.q (q.bA (r:=((k+1:Nat):Int)) O O) O<|R.u 1 O<|R.nil<|R.back (k+1,vn,ns,vl,ls) O (by (have e0:=hx1;(have e1:=Gu (ws:=m.ak) gU;have e2:=zM e0 (by rw [e1];exact of_decide_eq_false ‹_›) (by rw [e1];simp);exact ⟨by omega,by rw [e2.1,HN],by rw [e2.2,HL]⟩))) (by dsimp only;omega) (sF O) (aD yX ff O)
  refine R.c (q.call lL O O (fun w hw=>(cv (congrArg (Value.int .i64) gU) (iD _ m.ak x1.aj w (hw.bP 0 O) )))) O<|R.q (q.cU O O) O<|R.nil ?_
  refine R.aA O O<|R.reg O<|R.q (q.ld 4 O O nL O) O<|R.q (q.aO O qB O) O<|R.q (q.ld 0 O O au O) O<|?_
  rcases Bool.eq_false_or_eq_true (decide (x1.Port∈(bT m.ak))) with h3|h3
  .
   refine R.c (q.call pQ O O (fun w hw=>(cv (congrArg Value.bool h3) (fM _ (bT m.ak) x1.Port w (hw.row 5 O) )))) O<|R.nil ?_
   refine R.av O O<|R.reg O<|R.u 1 O<|R.q (q.dt 0 O O dh) O<|R.s O (s.bs (l:=([x1]:List Note)) fu eU O O O O O O O) fun b6=>?_
   refine R.s O (s.app 2 _ O O O (bB 0 O) kj (by (simp;omega)) (by (simp;omega)) (fun _=>rfl) O) fun v3=>?_
   refine R.u 1 O<|R.nil<|R.reg O<|R.q (q.bA (r:=((k+1:Nat):Int)) O O) O<|R.u 1 O<|R.nil<|R.back (k+1,v3,(ns++([x1])),vl,ls) O (by (have e0:=hx1;(have e1:=xI (ws:=m.ak) gU;have e2:=zL e0 (by rw [e1];exact of_decide_eq_true ‹_›);rw [e1] at e2;exact ⟨by omega,by rw [e2.1,HN],by rw [e2.2,HL]⟩))) (by dsimp only;omega) (sF O) (aD FG ff O)
  refine R.c (q.call pQ O O (fun w hw=>(cv (congrArg Value.bool h3) (fM _ (bT m.ak) x1.Port w (hw.row 5 O) )))) O<|R.nil ?_
  refine R.aA O O<|R.reg O<|R.q (q.aO O iG O) O<|R.q (q.ld 0 O O au O) O<|?_
  by_cases h4:0<x1.aj
  .
   refine R.q (q.eL O O) O<|R.nil<|R.av O O<|R.reg O<|R.u 1 O<|R.q (q.aO O iG O) O<|R.q (q.ld 0 O O au O) O<|R.s O (s.bs (l:=([x1.aj]:List Int)) da lU O O O O O O O) fun b7=>?_
   refine R.s O (s.app 3 _ O O O (bB 0 O) nO (by (simp;omega)) (by (simp;omega)) (fun _=>rfl) O) fun v4=>?_
   refine R.u 1 O<|R.nil<|R.reg O<|R.q (q.bA (r:=((k+1:Nat):Int)) O O) O<|R.u 1 O<|R.nil<|R.back (k+1,vn,ns,v4,(ls++([x1.aj]))) O (by (have e0:=hx1;(have e1:=xI (ws:=m.ak) gU;have e2:=HY e0 (by rw [e1];exact of_decide_eq_false ‹_›) (by rw [e1];assumption);rw [e1] at e2;exact ⟨by omega,by rw [e2.1,HN],by rw [e2.2,HL]⟩))) (by dsimp only;omega) (sF O) (aD FG ff O)
  refine R.q (q.eo O O) O<|R.nil<|R.aA O O<|R.reg O<|R.q (q.bA (r:=((k+1:Nat):Int)) O O) O<|R.u 1 O<|R.nil<|R.back (k+1,vn,ns,vl,ls) O (by (have e0:=hx1;(have e1:=xI (ws:=m.ak) gU;have e2:=zM e0 (by rw [e1];exact of_decide_eq_false ‹_›) (by rw [e1];assumption);exact ⟨by omega,by rw [e2.1,HN],by rw [e2.2,HL]⟩))) (by dsimp only;omega) (sF O) (aD yX ff O)
 refine R.q (q.cU O O) O<|R.nil<|R.aA O O<|R.reg O<|R.u 1 O<|R.q (q.aO O cB O) O<|R.s O (s.fX 6 _ O O O (fun w hw=>Sl.cm (hw.row 0 O)) (.inr ⟨du,rfl⟩) (fun w hw=>(af (Sl.one (hw.row 0 O)) aP)) O O O) fun _=>?_
 refine R.nil<|R.reg O<|R.q (q.aO O cz O) O<|R.q (q.ld 6 O O dD O) O<|R.s O (s.aW ff [2] _ _ _ O O O Ex O O (fun w own hw H=>nu TF m.Held w own H (by omega)) O) fun z3=>?_
 refine R.q (q.LR (cap:=[.pointer (some ⟨b1,0,none⟩)]) O O) O<|R.s O (s.aW bZ [] _ _ _ O O O O2 O O (fun w own hw H=>vm z3 m.Held (fun (h:Held)=>decide (cG (⟨m.ak,m.Things.filter (fun x => !(fun (t:aE) => !decide (t.ID∈(bT m.ak))) x),m.Held,ns,m.ae,m.ah⟩:aC).ak h.aj<0)) _ _ O3 w own H (fun W h hU=>yP h _ _ _ _ (⟨m.ak,m.Things.filter (fun x => !(fun (t:aE) => !decide (t.ID∈(bT m.ak))) x),m.Held,ns,m.ae,m.ah⟩:aC) _ W (hw.vZ 7 0 O O (by decide) hU) (hw.NL 0 0 O O hU) (Own.sl (hw.vZ 3 0 O O (by decide) hU)) (hw.NL 2 0 O O hU) (Own.sl (hw.vZ 1 0 O O (by decide) hU)) ) (by omega)) O) fun z4=>?_
 refine R.q (q.aO O cz O) O<|R.s O (s.fX 7 _ O O O (fun w hw=>Sl.cm (hw.row 0 O)) (.inr ⟨dD,rfl⟩) (fun w hw=>(af (Sl.one (hw.row 0 O)) aP)) O O O) fun _=>?_
 refine R.nil<|R.reg O<|R.u 1 O<|R.q (q.len' (bB 2 O) O Tryz.underlying159) O<|?_
 by_cases h5:ls.length=0
 .
  refine R.q (q.fN O O) O<|R.nil<|R.av O O<|R.reg O<|R.q (q.dt 7 O O ao) O<|R.s O (s.fX 6 _ O O O (fun _ _=>rfl) (.inl ao) (fun w hw=>(af (Sl.one (hw.bP 0 O)) (af (Sl.one (hw.row 3 O)) (af (Sl.one (hw.row 0 O)) (af (Sl.one (hw.row 1 O)) (af O (af O aP))))))) O O O) fun _=>?_
  refine R.nil<|R.mp (fun _ hw=>hw.cW 3 _ O O)<|R.mp (fun _ hw=>hw.cW 0 _ O O)<|R.mp (fun _ hw=>hw.cW 0 _ O O) ?_
  have hz:dR r=(⟨m.ak,m.Things.filter (fun x => !(fun (t:aE) => !decide (t.ID∈(bT m.ak))) x),m.Held.filter (fun x => !(fun (h:Held)=>decide (cG m.ak h.aj<0)) x),ns,m.ae,m.ah⟩:aC):=by (rw [List.take_of_length_le (by omega)] at HN HL;rw [<- HS,ql (by show (kJ _ _ _).length=0;rw [<- HL];assumption)];unfold fJ;rw [<- HN])
  rw [hz]
  exact R.w1 (SX,z2,z4,vn) [5] gj O Tryz.results55 (RV.cell 3 O O ao) O O O O
 refine R.q (q.e8 O O) O<|R.nil<|R.aA O O<|R.reg O<|R.u 1 O<|R.q (q.len' (bB 2 O) O Tryz.underlying159) O<|R.u 1 O<|R.nil<|R.loop (fun g_:Nat×Value×(List aj)=>[(1,.pointer (some ⟨b1,0,none⟩)),(2,.pointer (some ⟨b2,0,none⟩)),(62,vl),(63,iV (ls.length:Int)),(64,iV (g_.1:Int))]) (fun g_=>[ag.row 124 z4 (m.Held.filter (fun x => !(fun (h:Held)=>decide (cG m.ak h.aj<0)) x)),ag.row 89 vn ns,ag.row 3 vl ls,ag.row 100 z2 (m.Things.filter (fun x => !(fun (t:aE) => !decide (t.ID∈(bT m.ak))) x)),ag.box b3 [v1] 159,ag.row 3 v1 (bT m.ak),ag.box b2 GX 48,ag.box b1 [g_.2.1,z2,z4,vn,iV m.ae,iV m.ah] 48,ag.held w own]) (fun g_=>[ag.ls g_.2.1 g_.2.2,ag.ls SX m.ak,ag.ls Uh m.Things,ag.ls TF m.Held,ag.ls TG m.Notes,ag.ls bR r.ak,ag.ls bH r.Things,ag.ls bI r.Held,ag.ls bJ r.Notes]) (fun g_=>g_.1<=ls.length/\g_.2.2=(ls.take g_.1).foldl without m.ak) (fun g_=>ls.length-g_.1) (0,SX,m.ak) O (by exact ⟨by omega,rfl⟩) (sF O) (ic bZ [0,0,1,2,3,4,5,6,7] O) ?_
 rintro ⟨j,vw,ws⟩ ⟨hj1,HW⟩
 dsimp only at *
 have hws:ws.length<=2000:=by rw [HW];exact Nat.le_trans (ta _ _) hok.wl
 refine R.reg O<|?_
 by_cases h6:j<ls.length
 .
  refine R.q (q.dx O O) O<|R.nil<|R.av O O<|R.reg O<|?_
  obtain ⟨x2,hx2⟩:∃z,ls[j]? = some z:=⟨_,List.getElem?_eq_getElem (by omega)⟩
  refine R.q (q.idx (i:=j) (bB 2 O) O O da O hx2) O<|R.q (q.lv (bB 2 O) hx2 O au O) O<|R.u 1 O<|R.nil<|R.reg O<|R.q (q.aO O bg O) O<|R.q (q.ld 7 O O bS O) O<|R.u 1 O<|R.s O (s.vQ Jb O O (fun w hw=>qj _ ws x2 w (hw.bP 0 O) (by omega)) O) fun v5=>?_
  refine R.q (q.aO O bg O) O<|R.s O (s.fX 8 _ O O O (fun w hw=>Sl.cm (hw.row 0 O)) (.inr ⟨bS,rfl⟩) (fun w hw=>(af (Sl.one (hw.row 0 O)) aP)) O O O) fun _=>?_
  refine R.nil<|R.reg O<|R.q (q.bA (r:=((j+1:Nat):Int)) O O) O<|R.u 1 O<|R.nil<|R.mp (fun _ hw=>hw.cW 0 _ O O)<|R.back (j+1,v5,(without ws x2)) O (by (exact ⟨by omega,by rw [List.take_add_one,hx2,HW];simp⟩)) (by dsimp only;omega) (sF O) (aD bZ [0,2,3,4,5,6,7,8,9] O)
 refine R.q (q.cU O O) O<|R.nil<|R.aA O O<|R.mp (fun _ hw=>hw.cW 3 _ O O)<|R.mp (fun _ hw=>hw.cW 0 _ O O)<|R.mp (fun _ hw=>hw.cW 0 _ O O)<|R.back ((⟨ws,m.Things.filter (fun x => !(fun (t:aE) => !decide (t.ID∈(bT m.ak))) x),m.Held.filter (fun x => !(fun (h:Held)=>decide (cG m.ak h.aj<0)) x),ns,m.ae,m.ah⟩:aC),vw,z2,z4,vn) O (by (rw [List.take_of_length_le (by omega)] at HN HL;rw [List.take_of_length_le (by omega)] at HW;have hl:po m=ls:=HL.symm;have e:nA m=(⟨ws,m.Things.filter (fun t => !!decide (t.ID∈bT m.ak)),m.Held.filter (fun h => !decide (cG m.ak h.aj<0)),ns,m.ae,m.ah⟩:aC):=(by unfold nA;rw [hl,<- HW];unfold fJ;rw [<- HN]);exact Eq.mp (congrArg (fun q:aC=>Ok q/\dR q=dR r) e) ⟨hok.nA,(Dl (by rw [hl];assumption)).symm.trans HS⟩)) (by dsimp only;omega) (sF O) (aD [3,4,5] [3,2,1,0,8,9,10,11] O)
end Go.Proofs.YtkbhcbipadkcaaaGreatDoor
