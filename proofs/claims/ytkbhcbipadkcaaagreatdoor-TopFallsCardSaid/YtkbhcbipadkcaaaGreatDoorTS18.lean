import Derived.Test.YtkbhcbipadkcaaaGreatDoorTS17
namespace Go.Proofs.YtkbhcbipadkcaaaGreatDoor
set_option linter.unusedVariables false
set_option linter.unusedSimpArgs false
set_option maxRecDepth 100000
set_option maxHeartbeats 90000000
section
open Go Go.RowKit
theorem yG (bT:Value)(l:List ak)(w:World)(eA:Sl w bT l):Calls Tryz.prog 152 #[bT] w fun e w'=>e = .returned (df (ef l))/\Ext w w':=by
 have zm:=eA.gW
 refine R.enter [] [(0,bT)] Tryz.func152 O O O O<|R.reg O<|R.u 1 O<|R.nil<|R.reg O<|R.u 1 O<|R.q (q.len' (fun _=>Wd.old eA) O Tryz.underlying43) O<|R.u 1 O<|R.nil<|R.loop (fun k:Nat=>[(0,bT),(8,bT),(9,iV (l.length:Int)),(10,iV (k:Int))]) (fun k:Nat=>[]) (fun k:Nat=>[]) (fun k:Nat=>k<=l.length /\ ∀j,j<k->hX l j=0) (fun k:Nat=>l.length-k) 0 O (by exact ⟨by omega,fun j hj=>absurd hj (Nat.not_lt_zero _)⟩) (sF O) (iz [] [] O) ?_
 rintro k ⟨hk,HA⟩
 refine R.reg O<|?_
 by_cases h1:k<l.length
 .
  refine R.q (q.dC O O) O<|R.nil<|R.az O O<|R.reg O<|R.u 1 O<|?_
  obtain ⟨x1,hx1⟩:∃z,l[k]? = some z:=⟨_,List.getElem?_eq_getElem (by omega)⟩
  have US:=kz x1
  refine R.q (q.idx (i:=k) (fun _=>Wd.old eA) O O eu O hx1) O<|R.q (q.gh (ds:=jP x1) (fun _=>Wd.old eA) hx1 O aN O) O<|R.s O (s.alloc bQ O O) fun b1=>?_
  refine R.u 1 O<|R.s O (s.st 0 _ O O O O (.inl aN) O O O O) fun _=>?_
  refine R.nil<|R.reg O<|R.q (q.cT 0 O O aN) O<|R.c (q.call Pu O O (fun w hw=>(yF x1 w ))) O<|R.u 1 O<|R.nil ?_
  refine R.reg O<|R.u 1 O<|?_
  by_cases h2:cu x1=0
  .
   refine R.q (q.dx O O Tryz.underlying38) O<|R.nil<|R.aD O O<|R.cut 2 (fun _u:Unit=>[(0,bT),(3,iV (k:Int)),(4,.pointer (some ⟨b1,0,none⟩)),(8,bT),(9,iV (l.length:Int)),(10,iV (k:Int))]) (fun _u:Unit=>[ag.box b1 (jP x1) 127]) (fun _u:Unit=>[]) (fun _u:Unit=>Hid (¬ 0<k ∨ ∃y,l[k-1]? = some y/\y.ID<x1.ID)) O O O ?_ ?_
   .
    by_cases h3:0<k
    .
     obtain ⟨x2,hx2⟩:∃z,l[(k-1)]? = some z:=⟨_,List.getElem?_eq_getElem (by omega)⟩
     have V2:=kz x2
     by_cases h4:x2.ID<x1.ID
     .
      exact R.eZ O mixed (by kernel_rfl)<|Q.u 1 O<|Q.q (q.eM O O) O<|Q.u 1 O<|Q.qg O (q.aP O bX O) O<|Q.qg O (q.ld 0 O O ap O) O<|Q.u 2 O<|Q.qg O (q.lS (r:=((k-1:Nat):Int)) O O) O<|Q.qg O (q.idx (i:=(k-1)) (fun _=>Wd.old eA) O O eu O hx2) O<|Q.qg O (q.m9 (j':=0) (fun _=>Wd.old eA) hx2 O bX O) O<|Q.qg O (q.ln (fun _=>Wd.old eA) hx2 O ap O) O<|Q.qg O (q.T0 O O) O<|Q.u 1 O<|Q.nil<|R.aD O O<|R.meet () O (by (exact .inr ⟨_,hx2,by assumption⟩)) (sF O) (iz [0] [] O)
     exact R.eZ O mixed (by kernel_rfl)<|Q.u 1 O<|Q.q (q.eM O O) O<|Q.u 1 O<|Q.qg O (q.aP O bX O) O<|Q.qg O (q.ld 0 O O ap O) O<|Q.u 2 O<|Q.qg O (q.lS (r:=((k-1:Nat):Int)) O O) O<|Q.qg O (q.idx (i:=(k-1)) (fun _=>Wd.old eA) O O eu O hx2) O<|Q.qg O (q.m9 (j':=0) (fun _=>Wd.old eA) hx2 O bX O) O<|Q.qg O (q.ln (fun _=>Wd.old eA) hx2 O ap O) O<|Q.qg O (q.TY O O) O<|Q.u 1 O<|Q.nil<|R.az O O<|R.reg O<|R.q (q.iface O br) O<|R.u 1 O<|R.nil<|R.rv O Tryz.results152 O (dj (by decide) (by (exact (gO (by omega) (mW hx1 (by omega) ‹_› hx2 ‹_›) (by decide) HA))))
    exact R.eZ O mixed (by kernel_rfl)<|Q.u 1 O<|Q.q (q.ey O O) O<|Q.u 11 O<|Q.nil<|R.aD O O<|R.meet () O (by (exact .inl ‹_›)) (sF O) (iz [0] [] O)
   rintro _u hS
   refine R.reg O<|R.q (q.aP O eW O) O<|R.q (q.ld 0 O O ap O) O<|?_
   by_cases h5:x1.From=0
   .
    refine R.q (q.fI O O) O<|R.nil<|R.az O O<|R.reg O<|R.q (q.bA (r:=((k+1:Nat):Int)) O O) O<|R.u 1 O<|R.nil<|R.back (k+1) O (by (exact ⟨by omega,rY HA (xu hx1 (by omega) hS.out ‹_›)⟩)) (by omega) (sF O) (iz [] [] O)
   refine R.q (q.eU O O) O<|R.nil<|R.aD O O ?_
   rcases fk (l.take k) x1.From with ⟨gS,Eu⟩ | ⟨Dp,lU,gS,ve,SS⟩
   .
    exact R.eZ O mixed (by kernel_rfl)<|Q.u 2 O<|Q.q (q.kG (i:=k) (fun _=>Wd.old eA) O O Tryz.underlying43 Av O (by omega)) O<|Q.q (q.aP O eW O) O<|Q.q (q.ld 0 O O ap O) O<|Q.c (q.call lJ O O (fun w hw=>(cv (congrArg (Value.int .i64) gS) (iC _ (l.take k) x1.From w ((fun w hw=>Sl.to ((fun _=>Wd.old eA) w hw) (by omega)) w hw) )))) O<|Q.u 1 O<|Q.nil<|R.reg O<|R.u 1 O<|R.q (q.lss (b:=true) O O (by decide)) O<|R.nil<|R.az O O<|R.reg O<|R.q (q.iface O br) O<|R.u 1 O<|R.nil<|R.rv O Tryz.results152 O (dj (by decide) (by (exact (gO (by omega) (xw hx1 (by omega) hS.out ‹_› gS) (by decide) HA))))
   refine R.eZ O mixed (by kernel_rfl)<|Q.u 2 O<|Q.q (q.kG (i:=k) (fun _=>Wd.old eA) O O Tryz.underlying43 Av O (by omega)) O<|Q.q (q.aP O eW O) O<|Q.q (q.ld 0 O O ap O) O<|Q.c (q.call lJ O O (fun w hw=>(cv (congrArg (Value.int .i64) gS) (iC _ (l.take k) x1.From w ((fun w hw=>Sl.to ((fun _=>Wd.old eA) w hw) (by omega)) w hw) )))) O<|Q.u 1 O<|Q.nil<|R.reg O<|R.u 1 O<|R.q (q.cS O O) O<|R.nil<|R.aD O O ?_
   have rj:Dp<k:=by simp at lU;omega
   obtain ⟨x3,hx3⟩:∃z,l[Dp]? = some z:=⟨_,List.getElem?_eq_getElem (by omega)⟩
   have wx:=sV hx3 (HA Dp rj)
   have US:=wx.Ky;have V2:=wx.Kz
   have wd:=rC x3 x1.ID x1.Rights x1.aQ
   refine R.fJ (fuel:=17) [0] O O mixed O<|D.q (i:=0) O (aA [0] [] O) O (q.mv O) O<|D.q (i:=1) O (aA [0] [] O) O (q.mv O) O<|D.q (i:=2) O (aA [0] [] O) O (q.idx (i:=Dp) (fun _=>Wd.old eA) O O eu O hx3) O<|D.q (i:=3) O (aA [0] [] O) O (q.gh (ds:=jP x3) (fun _=>Wd.old eA) hx3 O aN O) O<|D.q (i:=4) O (aA [0] [] O) O (q.aP O bX O) O<|D.q (i:=5) O (aA [0] [] O) O (q.ld 0 O O ap O) O<|D.q (i:=6) O (aA [0] [] O) O (q.aP O jT O) O<|D.q (i:=7) O (aA [0] [] O) O (q.ld 0 O O ap O) O<|D.q (i:=8) O (aA [0] [] O) O (q.aP O iU O) O<|D.q (i:=9) O (aA [0] [] O) O (q.ld 0 O O ap O) O<|D.two (i:=10) (j:=14) O O ?_ ?_
   .
    refine Do.s (s.c (q.call wv O O (fun w hw=>(mA x3 x1.ID x1.Rights x1.aQ w (by omega)))) O) (fun _=>(aA [0] [] O)) O fun _=>?_
    refine D.q (i:=11) O (aA [0] [] O) O (q.mv O) O<|D.q (i:=12) O (aA [0] [] O) O (q.ext O O) O<|D.q (i:=13) O (aA [0] [] O) O (q.ext O O) O<|D.one (i:=14) O<|Do.s (s.alloc bQ O O) (fun _=>(aA [1] [] O)) O fun b2=>?_
    refine D.one (i:=15) O<|Do.s (s.st 0 _ O O O O (.inl aN) O O O O) (fun _=>(aA [1] [] O)) O fun _=>?_
    refine D.q (i:=16) O (aA [1] [] O) O (q.as O) O<|D.done<|R.reg O<|R.u 1 O<|?_
    by_cases h6:(derived x3 x1.ID x1.Rights x1.aQ).2=0
    .
     refine R.q (q.dx O O Tryz.underlying38) O<|R.nil<|R.aD O O<|R.reg O<|R.q (q.cT 0 O O aN) O<|R.q (q.cT 1 O O aN) O<|?_
     by_cases h7:(derived x3 x1.ID x1.Rights x1.aQ).1=x1
     .
      refine R.q (q.FT (x:=(derived x3 x1.ID x1.Rights x1.aQ).1) (y:=x1) AF O O h7) O<|R.nil<|R.aD O O<|R.reg O<|R.q (q.bA (r:=((k+1:Nat):Int)) O O) O<|R.u 1 O<|R.nil<|R.back (k+1) O (by (exact ⟨by omega,rY HA ((jg hx1 (by omega) hS.out ‹_› gS rj hx3).trans ((if_neg (by omega)).trans (if_neg (fun h=>h ‹_›))))⟩)) (by omega) (sF O) (iz [] [] O)
     exact R.q (q.FU (x:=(derived x3 x1.ID x1.Rights x1.aQ).1) (y:=x1) AF O O h7) O<|R.nil<|R.az O O<|R.reg O<|R.q (q.iface O br) O<|R.u 1 O<|R.nil<|R.rv O Tryz.results152 O (dj (by decide) (by (exact (gO (by omega) ((jg hx1 (by omega) hS.out ‹_› gS rj hx3).trans ((if_neg (by omega)).trans (if_pos ‹_›))) (by decide) HA))))
    exact R.q (q.dX O O Tryz.underlying38) O<|R.nil<|R.az O O<|R.reg O<|R.u 2 O<|R.nil<|R.rv O Tryz.results152 O (rE (by (exact (gO (by omega) ((jg hx1 (by omega) hS.out ‹_› gS rj hx3).trans (if_pos (by omega))) (by omega) HA).symm)))
   refine Do.s (s.alloc bQ O O) (fun _=>(aA [1] [] O)) O fun b3=>?_
   refine D.one (i:=10) O<|Do.s (s.c (q.call wv O O (fun w hw=>(mA x3 x1.ID x1.Rights x1.aQ w (by omega)))) O) (fun _=>(aA [1] [] O)) O fun _=>?_
   refine D.q (i:=11) O (aA [1] [] O) O (q.mv O) O<|D.q (i:=12) O (aA [1] [] O) O (q.ext O O) O<|D.q (i:=13) O (aA [1] [] O) O (q.ext O O) O<|D.one (i:=15) O<|Do.s (s.st 0 _ O O O O (.inl aN) O O O O) (fun _=>(aA [1] [] O)) O fun _=>?_
   refine D.q (i:=16) O (aA [1] [] O) O (q.as O) O<|D.done<|R.reg O<|R.u 1 O<|?_
   by_cases h8:(derived x3 x1.ID x1.Rights x1.aQ).2=0
   .
    refine R.q (q.dx O O Tryz.underlying38) O<|R.nil<|R.aD O O<|R.reg O<|R.q (q.cT 0 O O aN) O<|R.q (q.cT 1 O O aN) O<|?_
    by_cases h9:(derived x3 x1.ID x1.Rights x1.aQ).1=x1
    .
     refine R.q (q.FT (x:=(derived x3 x1.ID x1.Rights x1.aQ).1) (y:=x1) AF O O h9) O<|R.nil<|R.aD O O<|R.reg O<|R.q (q.bA (r:=((k+1:Nat):Int)) O O) O<|R.u 1 O<|R.nil<|R.back (k+1) O (by (exact ⟨by omega,rY HA ((jg hx1 (by omega) hS.out ‹_› gS rj hx3).trans ((if_neg (by omega)).trans (if_neg (fun h=>h ‹_›))))⟩)) (by omega) (sF O) (iz [] [] O)
    exact R.q (q.FU (x:=(derived x3 x1.ID x1.Rights x1.aQ).1) (y:=x1) AF O O h9) O<|R.nil<|R.az O O<|R.reg O<|R.q (q.iface O br) O<|R.u 1 O<|R.nil<|R.rv O Tryz.results152 O (dj (by decide) (by (exact (gO (by omega) ((jg hx1 (by omega) hS.out ‹_› gS rj hx3).trans ((if_neg (by omega)).trans (if_pos ‹_›))) (by decide) HA))))
   exact R.q (q.dX O O Tryz.underlying38) O<|R.nil<|R.az O O<|R.reg O<|R.u 2 O<|R.nil<|R.rv O Tryz.results152 O (rE (by (exact (gO (by omega) ((jg hx1 (by omega) hS.out ‹_› gS rj hx3).trans (if_pos (by omega))) (by omega) HA).symm)))
  exact R.q (q.dX O O Tryz.underlying38) O<|R.nil<|R.az O O<|R.reg O<|R.u 2 O<|R.nil<|R.rv O Tryz.results152 O (rE (by (have e:cu x1=1:=(by omega);rw [e];exact (gO (by omega) (jf hx1 (by omega)) (by decide) HA).symm)))
 exact R.q (q.cS O O) O<|R.nil<|R.aD O O<|R.reg O<|R.u 1 O<|R.nil<|R.rv O Tryz.results152 O (iJ (by (exact (qc (fun j hj=>HA j (by omega))))))
theorem qe (bT:Value)(l:List ak)(id:Int)(w:World)(eA:Sl w bT l)(hl:l.length<=1000000):Calls Tryz.prog 54 #[bT,iV id] w fun e w' => ∃u,e = .returned u/\Own w.heap.size 127 w' u (without l id)/\Ext w w':=by
 have zm:=eA.gW
 refine R.enter [] [(0,bT),(1,iV id)] Tryz.func54 O O O O<|R.reg O<|R.u 1 O<|R.nil<|R.reg O<|R.u 1 O<|R.nil<|R.reg O<|R.u 1 O<|R.nil<|R.reg O<|R.u 2 O<|?_
 rcases fk l id with ⟨gS,Eu⟩ | ⟨Dp,lU,gS,ve,SS⟩
 .
  refine R.c (q.call lJ O O (fun w hw=>(cv (congrArg (Value.int .i64) gS) (iC _ l id w ((fun _=>Wd.old eA) w hw) )))) O<|R.u 1 O<|R.nil ?_
  refine R.reg O<|R.u 1 O<|R.q (q.geq (b:=false) O O (by decide)) O<|R.nil<|R.aD O O<|R.reg O<|R.u 1 O<|R.q (q.len' (fun _=>Wd.old eA) O Tryz.underlying43) O<|R.u 1 O<|R.nil<|R.row0 (α:=ak) 127<|R.loop (fun g_:Nat×Value×(List ak)=>[(1,iV id),(5,g_.2.1),(6,iV 0),(20,bT),(21,iV (l.length:Int)),(22,iV (g_.1:Int))]) (fun g_=>[ag.row 127 g_.2.1 g_.2.2]) (fun g_=>[]) (fun g_=>g_.1<=l.length/\g_.2.2=E8 id 0 (l.take g_.1)) (fun g_=>l.length-g_.1) (0,(nS),[]) O (by exact ⟨by simp,by simp [E8,SR]⟩) (sF O) (iz [0] [] O) ?_
  rintro ⟨k,v,acc⟩ ⟨hk,HA⟩
  dsimp only at *
  have hal:acc.length<=k:=by rw [HA];exact Nat.le_trans (Bu _ _ _) (List.length_take_le _ _)
  refine R.reg O<|?_
  by_cases h1:k<l.length
  .
   refine R.q (q.dC O O) O<|R.nil<|R.az O O<|R.reg O<|?_
   obtain ⟨x1,hx1⟩:∃z,l[k]? = some z:=⟨_,List.getElem?_eq_getElem (by omega)⟩
   refine R.q (q.idx (i:=k) (fun _=>Wd.old eA) O O eu O hx1) O<|R.q (q.gh (ds:=jP x1) (fun _=>Wd.old eA) hx1 O aN O) O<|R.s O (s.alloc bQ O O) fun b1=>?_
   refine R.s O (s.st 0 _ O O O O (.inl aN) O O O O) fun _=>?_
   refine R.nil<|R.reg O<|R.q (q.aP O bX O) O<|R.q (q.ld 0 O O ap O) O<|R.u 1 O<|?_
   by_cases h2:x1.ID=id
   .
    refine R.q (q.fI O O) O<|R.nil<|R.az O O<|R.reg O<|R.q (q.bA (r:=((k+1:Nat):Int)) O O) O<|R.u 1 O<|R.nil<|R.back (k+1,v,acc) O (by (exact ⟨by omega,by rw [HA,Gw hx1 ‹_›]⟩)) (by dsimp only;omega) (sF O) (iz [1] [] O)
   refine R.q (q.eU O O) O<|R.nil<|R.aD O O<|R.reg O<|R.q (q.aP O eW O) O<|R.q (q.ld 0 O O ap O) O<|R.u 1 O<|?_
   by_cases h3:x1.From=id
   .
    refine R.q (q.fI O O) O<|R.nil<|R.az O O<|R.reg O<|R.u 1 O<|R.q (q.aP O eW O) O<|R.s O (s.st 0 _ O O O O (.inr ⟨ap,rfl⟩) O O O O) fun _=>?_
    refine R.nil<|R.reg O<|R.u 1 O<|R.q (q.cT 0 O O aN) O<|R.s O (s.bs (l:=([(⟨x1.ID,x1.aE,x1.Rights,x1.aQ,0⟩:ak)]:List ak)) eu bQ O O O O O O O) fun b2=>?_
    refine R.s O (s.app 2 _ O O O (bD 0 O) lq (by simp;omega) (by simp;omega) (fun _=>rfl) O) fun v1=>?_
    refine R.u 1 O<|R.nil<|R.reg O<|R.q (q.bA (r:=((k+1:Nat):Int)) O O) O<|R.u 1 O<|R.nil<|R.back (k+1,v1,(acc++([(⟨x1.ID,x1.aE,x1.Rights,x1.aQ,0⟩:ak)]))) O (by (exact ⟨by omega,by rw [HA,sW hx1 ‹_›,Dn ‹_›]⟩)) (by dsimp only;omega) (sF O) (iz [2] [] O)
   refine R.q (q.eU O O) O<|R.nil<|R.aD O O<|R.reg O<|R.u 1 O<|R.q (q.cT 0 O O aN) O<|R.s O (s.bs (l:=([x1]:List ak)) eu bQ O O O O O O O) fun b3=>?_
   refine R.s O (s.app 2 _ O O O (bD 0 O) lq (by simp;omega) (by simp;omega) (fun _=>rfl) O) fun v2=>?_
   refine R.u 1 O<|R.nil<|R.reg O<|R.q (q.bA (r:=((k+1:Nat):Int)) O O) O<|R.u 1 O<|R.nil<|R.back (k+1,v2,(acc++([x1]))) O (by (exact ⟨by omega,by rw [HA,sW hx1 ‹_›,zC ‹_›]⟩)) (by dsimp only;omega) (sF O) (iz [2] [] O)
  exact R.q (q.cS O O) O<|R.nil<|R.aD O O<|R.reg O<|R.u 2 O<|R.nil<|R.ro 0 O Tryz.results54 O O (by (rw [HA,List.take_of_length_le (by omega)];unfold without;rw [uH gS]))
 refine R.c (q.call lJ O O (fun w hw=>(cv (congrArg (Value.int .i64) gS) (iC _ l id w ((fun _=>Wd.old eA) w hw) )))) O<|R.u 1 O<|R.nil ?_
 refine R.reg O<|R.u 1 O<|R.q (q.G3 O O) O<|R.nil<|R.az O O<|R.reg O<|R.u 2 O<|R.q (q.idx (i:=Dp) (fun _=>Wd.old eA) O O eu O (List.getElem?_eq_getElem lU)) O<|R.q (q.m9 (j':=4) (fun _=>Wd.old eA) (List.getElem?_eq_getElem lU) O eW O) O<|R.q (q.ln (fun _=>Wd.old eA) (List.getElem?_eq_getElem lU) O ap O) O<|R.u 1 O<|R.nil ?_
 refine R.reg O<|R.u 1 O<|R.q (q.len' (fun _=>Wd.old eA) O Tryz.underlying43) O<|R.u 1 O<|R.nil<|R.row0 (α:=ak) 127<|R.loop (fun g_:Nat×Value×(List ak)=>[(1,iV id),(5,g_.2.1),(6,iV (l[Dp]).From),(20,bT),(21,iV (l.length:Int)),(22,iV (g_.1:Int))]) (fun g_=>[ag.row 127 g_.2.1 g_.2.2]) (fun g_=>[]) (fun g_=>g_.1<=l.length/\g_.2.2=E8 id (l[Dp]).From (l.take g_.1)) (fun g_=>l.length-g_.1) (0,(nS),[]) O (by exact ⟨by simp,by simp [E8,SR]⟩) (sF O) (iz [0] [] O) ?_
 rintro ⟨k,v,acc⟩ ⟨hk,HA⟩
 dsimp only at *
 have hal:acc.length<=k:=by rw [HA];exact Nat.le_trans (Bu _ _ _) (List.length_take_le _ _)
 refine R.reg O<|?_
 by_cases h4:k<l.length
 .
  refine R.q (q.dC O O) O<|R.nil<|R.az O O<|R.reg O<|?_
  obtain ⟨x2,hx2⟩:∃z,l[k]? = some z:=⟨_,List.getElem?_eq_getElem (by omega)⟩
  refine R.q (q.idx (i:=k) (fun _=>Wd.old eA) O O eu O hx2) O<|R.q (q.gh (ds:=jP x2) (fun _=>Wd.old eA) hx2 O aN O) O<|R.s O (s.alloc bQ O O) fun b4=>?_
  refine R.s O (s.st 0 _ O O O O (.inl aN) O O O O) fun _=>?_
  refine R.nil<|R.reg O<|R.q (q.aP O bX O) O<|R.q (q.ld 0 O O ap O) O<|R.u 1 O<|?_
  by_cases h5:x2.ID=id
  .
   refine R.q (q.fI O O) O<|R.nil<|R.az O O<|R.reg O<|R.q (q.bA (r:=((k+1:Nat):Int)) O O) O<|R.u 1 O<|R.nil<|R.back (k+1,v,acc) O (by (exact ⟨by omega,by rw [HA,Gw hx2 ‹_›]⟩)) (by dsimp only;omega) (sF O) (iz [1] [] O)
  refine R.q (q.eU O O) O<|R.nil<|R.aD O O<|R.reg O<|R.q (q.aP O eW O) O<|R.q (q.ld 0 O O ap O) O<|R.u 1 O<|?_
  by_cases h6:x2.From=id
  .
   refine R.q (q.fI O O) O<|R.nil<|R.az O O<|R.reg O<|R.u 1 O<|R.q (q.aP O eW O) O<|R.s O (s.st 0 _ O O O O (.inr ⟨ap,rfl⟩) O O O O) fun _=>?_
   refine R.nil<|R.reg O<|R.u 1 O<|R.q (q.cT 0 O O aN) O<|R.s O (s.bs (l:=([(⟨x2.ID,x2.aE,x2.Rights,x2.aQ,(l[Dp]).From⟩:ak)]:List ak)) eu bQ O O O O O O O) fun b5=>?_
   refine R.s O (s.app 2 _ O O O (bD 0 O) lq (by simp;omega) (by simp;omega) (fun _=>rfl) O) fun v3=>?_
   refine R.u 1 O<|R.nil<|R.reg O<|R.q (q.bA (r:=((k+1:Nat):Int)) O O) O<|R.u 1 O<|R.nil<|R.back (k+1,v3,(acc++([(⟨x2.ID,x2.aE,x2.Rights,x2.aQ,(l[Dp]).From⟩:ak)]))) O (by (exact ⟨by omega,by rw [HA,sW hx2 ‹_›,Dn ‹_›]⟩)) (by dsimp only;omega) (sF O) (iz [2] [] O)
  refine R.q (q.eU O O) O<|R.nil<|R.aD O O<|R.reg O<|R.u 1 O<|R.q (q.cT 0 O O aN) O<|R.s O (s.bs (l:=([x2]:List ak)) eu bQ O O O O O O O) fun b6=>?_
  refine R.s O (s.app 2 _ O O O (bD 0 O) lq (by simp;omega) (by simp;omega) (fun _=>rfl) O) fun v4=>?_
  refine R.u 1 O<|R.nil<|R.reg O<|R.q (q.bA (r:=((k+1:Nat):Int)) O O) O<|R.u 1 O<|R.nil<|R.back (k+1,v4,(acc++([x2]))) O (by (exact ⟨by omega,by rw [HA,sW hx2 ‹_›,zC ‹_›]⟩)) (by dsimp only;omega) (sF O) (iz [2] [] O)
 exact R.q (q.cS O O) O<|R.nil<|R.aD O O<|R.reg O<|R.u 2 O<|R.nil<|R.ro 0 O Tryz.results54 O O (by (rw [HA,List.take_of_length_le (by omega)];unfold without;rw [uG gS (List.getElem?_eq_getElem lU)]))
end
section
open Go.RowKit
theorem xx {l:List ak}{k:Nat}{x y:ak}(hx:l[k]? = some x)(h:hX l k=0)(hk:0<k)(hy:l[k-1]? = some y):y.ID<x.ID:=by
 have hw:=sV hx h
 have h0:cu x=0:=by rcases kz x with h1|h1;exact h1;rw [jf hx (by omega)] at h;omega
 rcases Int.lt_or_le y.ID x.ID with h1|h1
 .exact h1
 .rw [mW hx h0 hk hy (by omega)] at h;omega
theorem cL.rise {l:List ak}(h:cL l):∀ (j i:Nat) {x y:ak},i<j->l[j]? = some x->l[i]? = some y->y.ID<x.ID
 | 0,i,x,y,hij,hx,hy=>by omega
 | j+1,i,x,y,hij,hx,hy=>by
  have hlt:j+1<l.length:=(List.getElem?_eq_some_iff.1 hx).1
  have hz:l[j]? = some l[j]:=List.getElem?_eq_getElem (by omega)
  have h1:=xx hx (h.steps _ hlt) (by omega) hz
  by_cases hj:i=j
  .subst hj;rw [hz] at hy;injection hy with hy;subst hy;exact h1
  .have:=h.rise j i (by omega) hz hy;omega
theorem cL.inj {l:List ak}(h:cL l){x y:ak}(hx:x∈l)(hy:y∈l)(he:x.ID=y.ID):x=y:=by
 obtain ⟨i,hi⟩:=List.mem_iff_getElem?.1 hx
 obtain ⟨j,hj⟩:=List.mem_iff_getElem?.1 hy
 rcases Nat.lt_trichotomy i j with h1|h1|h1
 .have:=h.rise j i h1 hj hi;omega
 .subst h1;rw [hi] at hj;injection hj
 .have:=h.rise i j h1 hi hj;omega
theorem xy {l:List ak}{k:Nat}{x:ak}(hx:l[k]? = some x)(h:hX l k=0)(h0:x.From≠0) :
 ∃j y,j<k/\l[j]? = some y/\y.ID=x.From/\(derived y x.ID x.Rights x.aQ).2=0/\(derived y x.ID x.Rights x.aQ).1=x:=by
 have hw:cu x=0:=by rcases kz x with h1|h1;exact h1;rw [jf hx (by omega)] at h;omega
 have hsh:¬ 0<k ∨ ∃y,l[k-1]? = some y/\y.ID<x.ID:=by
  by_cases hk:0<k
  .
   have hlt:k<l.length:=(List.getElem?_eq_some_iff.1 hx).1
   exact .inr ⟨_,List.getElem?_eq_getElem (by omega),xx hx h hk (List.getElem?_eq_getElem (by omega))⟩
  .exact .inl hk
 rcases fk (l.take k) x.From with ⟨h1,h2⟩ | ⟨j,hj,h1,h2,h3⟩
 .rw [xw hx hw hsh h0 h1] at h;omega
 .
  have hjk:j<k:=by rw [List.length_take] at hj;omega
  have hlt:k<l.length:=(List.getElem?_eq_some_iff.1 hx).1
  have hy:l[j]? = some l[j]:=List.getElem?_eq_getElem (by omega)
  rw [jg hx hw hsh h0 h1 hjk hy] at h
  have hid:(l[j]'(by omega)).ID=x.From:=by simpa [List.getElem_take] using h2
  by_cases hd:(derived l[j] x.ID x.Rights x.aQ).2≠0
  .rw [if_pos hd] at h;exact absurd h hd
  .
   rw [if_neg hd] at h
   by_cases he:(derived l[j] x.ID x.Rights x.aQ).1≠x
   .rw [if_pos he] at h;omega
   .exact ⟨j,_,hjk,hy,hid,by simpa using hd,by simpa using he⟩
theorem l7 {l:List ak}{x:ak}(hx:x∈l):0<=cD l x.ID:=by
 rcases fk l x.ID with ⟨h1,h2⟩ | ⟨k,hk,h1,h2,_⟩
 .exact absurd rfl (h2 x hx)
 .omega
theorem nV {l:List ak}{f:Int}(h:0<=cD l f):∃y,l[(cD l f).toNat]? = some y/\y.ID=f/\y∈l/\eO l f=y.From:=by
 obtain ⟨y,h1,h2,h3⟩:=Dm l f h
 exact ⟨y,h1,h2,h3,uG (j:=(cD l f).toNat) (by omega) h1⟩
theorem xA {l:List ak}{f:Int}(h:cD l f<0):eO l f=0:=by
 rcases fk l f with ⟨h1,_⟩ | ⟨k,hk,h1,_⟩
 .exact uH h1
 .omega
theorem cL.uI {l:List ak}(h:cL l){f:Int}(hf:0<=cD l f):0<f/\f<=999/\0<=eO l f/\eO l f<f:=by
 obtain ⟨y,h1,h2,h3,h4⟩:=nV hf
 have w:=h.mem h3
 have:=w.id1;have:=w.QX;have:=w.Qg;have:=w.Og
 omega
def chain (l:List ak)(f:Int):List Int :=
  if h:0<=cD l f/\0<f/\eO l f<f then f::chain l (eO l f) else []
termination_by f.toNat
decreasing_by omega
def above (l:List ak)(id:Int):List Int:=chain l (eO l id)
theorem rZ {l:List ak}(h:cL l){f:Int}(hf:0<=cD l f):chain l f=f::chain l (eO l f):=by
 have:=h.uI hf
 rw [chain,dif_pos ⟨hf,by omega,by omega⟩]
theorem E9 {l:List ak}{f:Int}(hf:cD l f<0):chain l f=[]:=by
 rw [chain,dif_neg (by omega)]
def Fa (id:Int)(acc:List Int)(x:ak):List Int:=if (x.From=id∨x.From∈acc)/\0<x.From then acc++[x.ID] else acc
def kA (id:Int)(l:List ak):List Int:=l.foldl (Fa id) []
theorem Dq {id:Int}{l:List ak}{k:Nat}{x:ak}{S:List Int}(hx:l[k]? = some x)(hS:∀z,z∈S↔z=id∨z∈kA id (l.take k))(h:x.From∈S)(h0:0<x.From):kA id (l.take (k+1))=kA id (l.take k)++[x.ID]:=by
 unfold kA at *
 rw [List.take_add_one,hx,List.foldl_append]
 simp only [Option.toList,List.foldl_cons,List.foldl_nil]
 unfold Fa at *
 rw [if_pos ⟨(hS _).1 h,h0⟩]
theorem tY {id:Int}{l:List ak}{k:Nat}{x:ak}{S:List Int}(hx:l[k]? = some x)(hS:∀z,z∈S↔z=id∨z∈kA id (l.take k))(h:¬ (x.From∈S/\0<x.From)):kA id (l.take (k+1))=kA id (l.take k):=by
 unfold kA at *
 rw [List.take_add_one,hx,List.foldl_append]
 simp only [Option.toList,List.foldl_cons,List.foldl_nil]
 unfold Fa at *
 rw [if_neg (fun hc=>h ⟨(hS _).2 hc.1,hc.2⟩)]
theorem KA (id:Int)(l:List ak):(kA id l).length<=l.length:=by
 have:∀ (l:List ak) (acc:List Int),(l.foldl (Fa id) acc).length<=acc.length+l.length:=by
  intro l
  induction l with
  | nil=>intro acc;simp
  | cons x l ih =>
   intro acc
   have:=ih (Fa id acc x)
   have h2:(Fa id acc x).length<=acc.length+1:=by unfold Fa;split <;> simp
   simp only [List.foldl_cons,List.length_cons];omega
 simpa [kA] using this l []
def up (l:List ak)(id f:Int):Int :=
  if h:0<f/\f≠id/\0<=cD l f/\eO l f<f then up l id (eO l f) else f
termination_by f.toNat
decreasing_by omega
theorem Gx {l:List ak}(h:cL l){id f:Int}(h1:f≠id)(h2:0<=cD l f):up l id f=up l id (eO l f):=by
 have:=h.uI h2
 rw [up,dif_pos ⟨by omega,h1,h2,by omega⟩]
theorem Bv {l:List ak}{id f:Int}(h:¬ 0<f∨f=id∨cD l f<0):up l id f=f:=by
 rw [up,dif_neg (by omega)]
def QY (l:List ak)(id:Int)(x:ak):Bool:=decide (up l id x.From=id)&&decide (0<id)
def vm (l:List ak)(id:Int)(m:List ak):List Int:=(m.filter (QY l id)).map ak.ID
theorem KB {l0:List ak}{id:Int}{l:List ak}{k:Nat}{x:ak}(hx:l[k]? = some x)(h:up l0 id x.From=id)(h0:0<id):vm l0 id (l.take (k+1))=vm l0 id (l.take k)++[x.ID]:=by
 unfold vm
 rw [List.take_add_one,hx,List.filter_append];simp [QY,h,h0]
theorem H5 {l0:List ak}{id:Int}{l:List ak}{k:Nat}{x:ak}(hx:l[k]? = some x)(h:¬ (up l0 id x.From=id/\0<id)):vm l0 id (l.take (k+1))=vm l0 id (l.take k):=by
 unfold vm
 rw [List.take_add_one,hx,List.filter_append]
 have:QY l0 id x=false:=by unfold QY;rw [Bool.and_eq_false_iff];by_cases h1:up l0 id x.From=id;right;simpa using (fun h2=>h ⟨h1,h2⟩);left;simpa using h1
 simp [this]
def beneath (l:List ak)(id:Int):List Int:=vm l id l
theorem KC {l:List ak}(h:cL l)(id:Int):∀k,k<=l.length->kA id (l.take k)=vm l id (l.take k)
 | 0,_=>by simp [kA,vm]
 | k+1,hk=>by
  have ih:=KC h id k (by omega)
  have hx:l[k]? = some l[k]:=List.getElem?_eq_getElem (by omega)
  have hS:∀z,z∈id::kA id (l.take k)↔z=id∨z∈kA id (l.take k):=fun z=>by simp
  have w:=sV hx (h.steps k (by omega))
  have key:((l[k]).From∈id::kA id (l.take k)/\0<(l[k]).From)↔(up l id (l[k]).From=id/\0<id):=by
   by_cases h0:(l[k]).From=0
   .
    rw [h0,Bv (.inl (by omega))]
    constructor
    .intro h;omega
    .intro h;omega
   .
    have hpos:0<(l[k]).From:=by have:=w.QX;omega
    by_cases he:(l[k]).From=id
    .
     rw [Bv (.inr (.inl he))]
     constructor
     .intro _;exact ⟨he,by omega⟩
     .intro _;exact ⟨by rw [he];simp,hpos⟩
    .
     obtain ⟨j,y,hj,hy,hid,_,_⟩:=xy hx (h.steps k (by omega)) h0
     have hym:y∈l:=List.mem_of_getElem? hy
     have hfi:0<=cD l (l[k]).From:=by rw [<- hid];exact l7 hym
     rw [Gx h he hfi]
     obtain ⟨y',_,hy2,hy3,hy4⟩:=nV hfi
     have:y'=y:=h.inj hy3 hym (by rw [hy2,hid])
     subst this
     rw [hy4,ih]
     have hmem:(l[k]).From∈vm l id (l.take k)↔(up l id y'.From=id/\0<id):=by
      unfold vm
      simp only [List.mem_map,List.mem_filter,QY,Bool.and_eq_true,decide_eq_true_eq]
      constructor
      .
       rintro ⟨z,⟨hz,hz2⟩,hz3⟩
       have:z=y':=h.inj (List.mem_of_mem_take hz) hy3 (by rw [hz3,hid])
       subst this;exact hz2
      .
       intro hh
       exact ⟨y',⟨List.mem_of_getElem? (i:=j) (by rw [List.getElem?_take,if_pos hj];exact hy),hh⟩,hid⟩
     constructor
     .
      rintro ⟨h1,_⟩
      rcases List.mem_cons.1 h1 with h1|h1
      .exact absurd h1 he
      .exact hmem.1 h1
     .intro h1;exact ⟨List.mem_cons.2 (.inr (hmem.2 h1)),hpos⟩
  by_cases hc:up l id (l[k]).From=id/\0<id
  .
   have:=key.2 hc
   rw [Dq hx hS this.1 this.2,KB hx hc.1 hc.2,ih]
  .rw [tY hx hS (fun hh=>hc (key.1 hh)),H5 hx hc,ih]
theorem MB {l:List ak}(h:cL l)(id:Int):kA id l=beneath l id:=by
 have:=KC h id l.length (Nat.le_refl _)
 simpa [beneath,List.take_length] using this
theorem Dr {l:List ak}(h:cL l){a:Int}(ha:0<=cD l a)(f:Int)(hf0:0<=f):up l a f=a↔a∈chain l f:=by
 have ha0:=h.uI ha
 by_cases he:f=a
 .subst he;rw [Bv (.inr (.inl rfl)),rZ h ha];simp
 .
  rcases Int.lt_or_le (cD l f) 0 with h1|h1
  .rw [Bv (.inr (.inr h1)),E9 h1];simp [he]
  .
   have hf:=h.uI h1
   rw [Gx h he h1,rZ h h1,Dr h ha (eO l f) hf.2.2.1]
   simp [Ne.symm he]
termination_by f.toNat
decreasing_by omega
end
section
open Go Go.RowKit
theorem Bw (bT:Value)(l:List ak)(id:Int)(w:World)(eA:Sl w bT l)(hl:l.length<=1000000):Calls Tryz.prog 122 #[bT,iV id] w fun e w' => ∃u,e = .returned u/\Own w.heap.size 3 w' u (kA id l)/\Ext w w':=by
 have zm:=eA.gW
 refine R.enter [] [(0,bT),(1,iV id)] Tryz.func122 O O O O<|R.reg O<|R.u 1 O<|R.nil<|R.reg O<|R.s O (s.mk O) fun b1=>?_
 refine R.u 1 O<|R.s O (s.T3 0 _ O O O O sK O) fun _=>?_
 refine R.u 2 O<|R.nil<|R.reg O<|R.u 1 O<|R.nil<|R.reg O<|R.u 1 O<|R.q (q.len' (fun _=>Wd.old eA) O Tryz.underlying43) O<|R.u 1 O<|R.nil<|R.row0 (α:=Int) 3<|R.loop (fun g_:Nat×Value×(List Int)×(List Int)=>[(5,.map (some b1)),(6,g_.2.1),(12,bT),(13,iV (l.length:Int)),(14,iV (g_.1:Int))]) (fun g_=>[ag.row 3 g_.2.1 g_.2.2.1,ag.om b1 g_.2.2.2]) (fun g_=>[]) (fun g_=>g_.1<=l.length/\g_.2.2.1=kA id (l.take g_.1) /\ ∀z,z∈g_.2.2.2↔z=id∨z∈g_.2.2.1) (fun g_=>l.length-g_.1) (0,(nS),[],[id]) O (by exact ⟨by simp,by simp [kA],by simp⟩) (sF O) (iz [0,1] [] O) ?_
 rintro ⟨k,v,acc,S⟩ ⟨hk,HA,HS⟩
 dsimp only at *
 have hal:acc.length<=k:=by rw [HA];exact Nat.le_trans (KA _ _) (List.length_take_le _ _)
 refine R.reg O<|?_
 by_cases h1:k<l.length
 .
  refine R.q (q.dC O O) O<|R.nil<|R.az O O<|R.reg O<|?_
  obtain ⟨x1,hx1⟩:∃z,l[k]? = some z:=⟨_,List.getElem?_eq_getElem (by omega)⟩
  refine R.q (q.idx (i:=k) (fun _=>Wd.old eA) O O eu O hx1) O<|R.q (q.gh (ds:=jP x1) (fun _=>Wd.old eA) hx1 O aN O) O<|R.s O (s.alloc bQ O O) fun b2=>?_
  refine R.s O (s.st 0 _ O O O O (.inl aN) O O O O) fun _=>?_
  refine R.nil<|R.reg O<|R.u 1 O<|R.q (q.aP O eW O) O<|R.q (q.ld 0 O O ap O) O<|?_
  by_cases h2:x1.From∈S
  .
   refine R.q (q.NJ 2 O O O sK (decide_eq_true h2)) O<|R.u 1 O<|R.qg O (q.aP O eW O) O<|R.qg O (q.ld 0 O O ap O) O<|?_
   by_cases h3:0<x1.From
   .
    refine R.qg O (q.eM O O) O<|R.u 1 O<|R.nil<|R.az O O<|R.reg O<|R.u 1 O<|R.q (q.aP O bX O) O<|R.q (q.ld 0 O O ap O) O<|R.s O (s.Vq 2 _ O O O O sK O) fun _=>?_
    refine R.nil<|R.reg O<|R.u 1 O<|R.q (q.aP O bX O) O<|R.q (q.ld 0 O O ap O) O<|R.s O (s.bs (l:=([x1.ID]:List Int)) da lT O O O O O O O) fun b3=>?_
    refine R.s O (s.app 2 _ O O O (bD 0 O) nH (by simp;omega) (by simp;omega) (fun _=>rfl) O) fun v1=>?_
    refine R.u 1 O<|R.nil<|R.reg O<|R.q (q.bA (r:=((k+1:Nat):Int)) O O) O<|R.u 1 O<|R.nil<|R.back (k+1,v1,(acc++([x1.ID])),(x1.ID::S)) O (by (exact ⟨by omega,by rw [HA,Dq hx1 (HA▸HS) ‹_› ‹_›],by intro z;rw [List.mem_cons,HS,List.mem_append,List.mem_singleton];constructor <;> (intro h;rcases h with h|h|h <;> simp [h])⟩)) (by dsimp only;omega) (sF O) (iz [2,3] [] O)
   refine R.qg O (q.ey O O) O<|R.u 1 O<|R.nil<|R.aD O O<|R.reg O<|R.q (q.bA (r:=((k+1:Nat):Int)) O O) O<|R.u 1 O<|R.nil<|R.back (k+1,v,acc,S) O (by (exact ⟨by omega,by rw [HA,tY hx1 (HA▸HS) (by (intro hh;exact absurd hh.2 ‹_›))],HS⟩)) (by dsimp only;omega) (sF O) (iz [1,2] [] O)
  refine R.q (q.NJ 2 O O O sK (decide_eq_false h2)) O<|R.u 5 O<|R.nil<|R.aD O O<|R.reg O<|R.q (q.bA (r:=((k+1:Nat):Int)) O O) O<|R.u 1 O<|R.nil<|R.back (k+1,v,acc,S) O (by (exact ⟨by omega,by rw [HA,tY hx1 (HA▸HS) (by (intro hh;exact absurd hh.1 ‹_›))],HS⟩)) (by dsimp only;omega) (sF O) (iz [1,2] [] O)
 exact R.q (q.cS O O) O<|R.nil<|R.aD O O<|R.reg O<|R.u 2 O<|R.nil<|R.ro 0 O Tryz.results122 O O (by (rw [HA,List.take_of_length_le (by omega)]))
end
section
open Go.RowKit
structure Made (y x:ak):Prop where
  thing:y.aE=x.aE
  has:je y.Rights x.Rights=true
  dI:y.aQ=0∨x.aQ=y.aQ
  gq:y.ID=x.From
theorem MC {y x:ak}(h1:(derived y x.ID x.Rights x.aQ).2=0)(h2:(derived y x.ID x.Rights x.aQ).1=x):Made y x:=by
 unfold derived at h1 h2
 split at h1;· simp at h1
 split at h1;· simp at h1
 split at h1;· simp at h1
 split at h1;· simp at h1
 split at h1;· simp at h1
 rename_i a b c d e
 rw [if_neg a,if_neg b,if_neg c,if_neg d,if_neg e] at h2
 have ht:=congrArg ak.aE h2
 have hb:=congrArg ak.aQ h2
 have hf:=congrArg ak.From h2
 simp only [] at ht hb hf
 refine ⟨ht,by simpa using d,?_,hf⟩
 by_cases h0:x.aQ=0
 .rw [if_pos h0] at hb;exact .inl (by omega)
 .
  by_cases hy:y.aQ=0
  .exact .inl hy
  .
   right
   by_cases he:x.aQ=y.aQ
   .exact he
   .exact absurd ⟨h0,hy,he⟩ e
theorem Fb {y x:ak}(w:QW x)(h:Made y x):derived y x.ID x.Rights x.aQ=(x,0):=by
 have:=w.Ky;have:=w.Kz;have:=w.Qe;have:=w.Qf
 unfold derived
 rw [if_neg (by rw [gN w.Ky w.Kz];omega),if_neg (by omega),if_neg (by omega),if_neg (by rw [h.has];simp),if_neg (by rintro ⟨h1,h2,h3⟩;rcases h.dI with h4|h4 <;> omega)]
 have hb:(if x.aQ=0 then y.aQ else x.aQ)=x.aQ:=by
  split
  .rcases h.dI with h4|h4 <;> omega
  .rfl
 rw [hb,h.thing,h.gq]
theorem KD:∀a b c:Fin 8,je ((a:Nat):Int) ((b:Nat):Int)=true->je ((b:Nat):Int) ((c:Nat):Int)=true->je ((a:Nat):Int) ((c:Nat):Int)=true:=by decide
theorem Un {a b c:Int}(a0:0<=a)(a7:a<=7)(b0:0<=b)(b7:b<=7)(c0:0<=c)(c7:c<=7)(h:je a b=true)(k:je b c=true):je a c=true:=by
 obtain ⟨x,rfl⟩:=E7 a0 a7;obtain ⟨y,rfl⟩:=E7 b0 b7;obtain ⟨z,rfl⟩:=E7 c0 c7;exact KD x y z h k
structure tZ (l:List ak):Prop where
  ok:∀x∈l,cu x=0
  rise:l.Pairwise (fun x y=>x.ID<y.ID)
  made:∀x∈l,x.From≠0 -> ∃y∈l,Made y x
theorem cL.fault {l:List ak}(h:cL l){x:ak}(hx:x∈l):cu x=0:=by
 obtain ⟨j,hj⟩:=List.mem_iff_getElem?.1 hx
 rcases kz x with h1|h1
 .exact h1
 .have:=jf hj (by omega);rw [h.steps j (List.getElem?_eq_some_iff.1 hj).1] at this;omega
theorem cL.is {l:List ak}(h:cL l):tZ l:=by
 refine ⟨fun x hx=>h.fault hx,?_,fun x hx h0=>?_⟩
 .
  rw [List.pairwise_iff_getElem]
  intro i j hi hj hij
  exact h.rise j i hij (List.getElem?_eq_getElem hj) (List.getElem?_eq_getElem hi)
 .
  obtain ⟨k,hk⟩:=List.mem_iff_getElem?.1 hx
  obtain ⟨j,y,hj,hy,_,h1,h2⟩:=xy hk (h.steps k (List.getElem?_eq_some_iff.1 hk).1) h0
  exact ⟨y,List.mem_of_getElem? hy,MC h1 h2⟩
theorem qf {l:List ak}(h:l.Pairwise (fun x y=>x.ID<y.ID)){i j:Nat}{x y:ak}(hi:l[i]? = some x)(hj:l[j]? = some y)(hij:i<j):x.ID<y.ID:=by
 rw [List.pairwise_iff_getElem] at h
 obtain ⟨h1,rfl⟩:=List.getElem?_eq_some_iff.1 hi
 obtain ⟨h2,rfl⟩:=List.getElem?_eq_some_iff.1 hj
 exact h i j h1 h2 hij
theorem tZ.ok' {l:List ak}(h:tZ l):cL l:=by
 refine qc fun k hk=>?_
 have hx:l[k]? = some l[k]:=List.getElem?_eq_getElem hk
 have hm:l[k]∈l:=List.getElem_mem hk
 have h0:=h.ok _ hm
 have w:=Bt h0
 have hsh:¬ 0<k ∨ ∃y,l[k-1]? = some y/\y.ID<(l[k]).ID:=by
  by_cases h1:0<k
  .
   have hy:l[k-1]? = some (l[k-1]'(by omega)):=List.getElem?_eq_getElem (by omega)
   exact .inr ⟨_,hy,qf h.rise hy hx (by omega)⟩
  .exact .inl h1
 by_cases hf:(l[k]).From=0
 .exact xu hx h0 hsh hf
 .
  obtain ⟨y,hy,hmd⟩:=h.made _ hm hf
  obtain ⟨j,hj⟩:=List.mem_iff_getElem?.1 hy
  have hjl:j<l.length:=(List.getElem?_eq_some_iff.1 hj).1
  have hjk:j<k:=by
   rcases Nat.lt_trichotomy j k with h1|h1|h1
   .exact h1
   .
    subst h1;rw [hj] at hx;injection hx with hx
    have:=hmd.gq;have:=w.Qg;rw [hx] at *;omega
   .have:=qf h.rise hx hj h1;have:=hmd.gq;have:=w.Qg;omega
  have hfw:cD (l.take k) (l[k]).From=(j:Int):=by
   have hl:j<(l.take k).length:=by rw [List.length_take];omega
   have hge:(l.take k)[j]=y:=by
    rw [List.getElem_take];exact (List.getElem?_eq_some_iff.1 hj).2
   refine Kx hl (by rw [hge];exact hmd.gq) (fun i z hi hz=>?_)
   have hz':l[i]? = some z:=by rw [List.getElem?_take,if_pos (by omega)] at hz;exact hz
   have:=qf h.rise hz' hj hi
   have:=hmd.gq;omega
  rw [jg hx h0 hsh hf hfw hjk hj]
  have:=Fb w hmd
  rw [this];simp
theorem zD {l:List ak}(h:cL l){a b:Int}(ha:0<=cD l a)(hb:0<=cD l b):b∈kA a l↔a∈above l b:=by
 rw [MB h]
 have ha0:=h.uI ha
 have hb0:=h.uI hb
 unfold beneath vm above
 rw [<- Dr h ha _ hb0.2.2.1]
 simp only [List.mem_map,List.mem_filter,QY,Bool.and_eq_true,decide_eq_true_eq]
 obtain ⟨y,_,hy2,hy3,hy4⟩:=nV hb
 constructor
 .
  rintro ⟨x,⟨hx,hu,_⟩,hid⟩
  have:x=y:=h.inj hx hy3 (by omega)
  subst this;rw [hy4];exact hu
 .
  intro hu
  exact ⟨y,⟨hy3,by rw [<- hy4];exact hu,ha0.1⟩,hy2⟩
theorem gH {l:List ak}{id:Int}{x:ak}:x∈without l id ↔ ∃y∈l,y.ID≠id/\x=mJ id (eO l id) y:=by
 unfold without E8
 simp only [List.mem_map,List.mem_filter,decide_eq_true_eq]
 constructor
 .rintro ⟨y,⟨h1,h2⟩,rfl⟩;exact ⟨y,h1,h2,rfl⟩
 .rintro ⟨y,h1,h2,rfl⟩;exact ⟨y,⟨h1,h2⟩,rfl⟩
theorem kB {id f:Int}(x:ak):(mJ id f x).ID=x.ID/\(mJ id f x).aE=x.aE/\(mJ id f x).Rights=x.Rights/\(mJ id f x).aQ=x.aQ:=by unfold mJ;split <;> exact ⟨rfl,rfl,rfl,rfl⟩
theorem t6 {id f:Int}(x:ak):(mJ id f x).From=if x.From=id then f else x.From:=by unfold mJ;split <;> rfl
theorem MD {x:ak}(h:cu x=0){f:Int}(h0:0<=f)(h1:f<x.ID):cu { x with From:=f }=0:=by
 have w:=Bt h
 rcases gu { x with From:=f } with ⟨h2,h3⟩ | ⟨h2,_⟩
 .
  have:=w.id1;have:=w.Og;have:=w.Qc;have:=w.Qd;have:=w.Qe;have:=w.Qf;have:=w.Ky;have:=w.Kz
  simp only [] at h3;omega
 .exact h2
theorem ME {id f:Int}{y x:ak}(h:Made y x)(hf:x.From≠id):Made (mJ id f y) (mJ id f x):=by
 have hy:=kB (id:=id) (f:=f) y
 have hx:=kB (id:=id) (f:=f) x
 refine ⟨by rw [hy.2.1,hx.2.1];exact h.thing,by rw [hy.2.2.1,hx.2.2.1];exact h.has,by rw [hy.2.2.2,hx.2.2.2];exact h.dI,?_⟩
 rw [hy.1,t6,if_neg hf];exact h.gq
theorem cL.wo {l:List ak}(h:cL l)(id:Int):cL (without l id):=by
 have hi:=h.is
 refine tZ.ok' ⟨fun x hx=>?_,?_,fun x hx h0=>?_⟩
 .
  obtain ⟨y,hy,hne,rfl⟩:=gH.1 hx
  have Uo:=hi.ok y hy
  unfold mJ
  split
  .
   rename_i he
   have w:=Bt Uo
   have:=w.QX;have:=w.Qg
   have hid:0<=eO l id/\(0<eO l id->eO l id<id):=by
    rcases Int.lt_or_le (cD l id) 0 with h1|h1
    .rw [xA h1];omega
    .have:=h.uI h1;omega
   exact MD Uo hid.1 (by omega)
  .exact Uo
 .
  unfold without E8
  rw [List.pairwise_map]
  refine (hi.rise.filter _).imp ?_
  intro a b hab
  rw [(kB a).1,(kB b).1];exact hab
 .
  obtain ⟨y,hy,hne,rfl⟩:=gH.1 hx
  rw [t6] at h0
  by_cases he:y.From=id
  .
   rw [if_pos he] at h0
   have hid:0<=cD l id:=by
    rcases Int.lt_or_le (cD l id) 0 with h1|h1
    .rw [xA h1] at h0;exact absurd rfl h0
    .exact h1
   obtain ⟨p,_,hp2,hp3,Up⟩:=nV hid
   have V4:=h.uI hid
   obtain ⟨z,hz,SU⟩:=hi.made p hp3 (by rw [<- Up];exact h0)
   have hy0:y.From≠0:=by rw [he];omega
   obtain ⟨p',hp',hpy⟩:=hi.made y hy hy0
   have:p'=p:=h.inj hp' hp3 (by rw [hpy.gq,he,hp2])
   subst this
   have Uq:z.ID≠id:=by have:=SU.gq;rw [<- Up] at this;omega
   refine ⟨mJ id (eO l id) z,gH.2 ⟨z,hz,Uq,rfl⟩,?_⟩
   have wz:=h.mem hz;have wp:=h.mem hp3;have wy:=h.mem hy
   have hz':=kB (id:=id) (f:=eO l id) z
   have hy':=kB (id:=id) (f:=eO l id) y
   refine ⟨by rw [hz'.2.1,hy'.2.1,SU.thing,hpy.thing],by rw [hz'.2.2.1,hy'.2.2.1];exact Un wz.Ky wz.Kz wp.Ky wp.Kz wy.Ky wy.Kz SU.has hpy.has,?_,?_⟩
   .
    rw [hz'.2.2.2,hy'.2.2.2]
    rcases SU.dI with h1|h1
    .exact .inl h1
    .
     rcases hpy.dI with h2|h2
     .exact .inl (by omega)
     .exact .inr (by omega)
   .rw [hz'.1,t6,if_pos he,SU.gq,Up]
  .
   rw [if_neg he] at h0
   obtain ⟨p,hp,hpy⟩:=hi.made y hy h0
   exact ⟨mJ id (eO l id) p,gH.2 ⟨p,hp,by rw [hpy.gq];exact he,rfl⟩,ME hpy he⟩
end
end Go.Proofs.YtkbhcbipadkcaaaGreatDoor
