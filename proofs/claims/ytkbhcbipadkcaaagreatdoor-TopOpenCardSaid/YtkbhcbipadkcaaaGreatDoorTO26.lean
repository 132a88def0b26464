import Derived.Test.YtkbhcbipadkcaaaGreatDoorTO25
namespace Go.Proofs.YtkbhcbipadkcaaaGreatDoor
set_option linter.unusedVariables false
set_option linter.unusedSimpArgs false
section
open Go Go.RowKit
set_option maxRecDepth 100000
set_option maxHeartbeats 90000000
set_option maxHeartbeats 90000000 in
theorem yM (bN:Value)(l:List aj)(w:World)(ew:Sl w bN l):Calls Tryz.prog 152 #[bN] w fun e w'=>e = .returned (df (d9 l))/\Ext w w':=by
 have zq:=ew.fA
 refine R.enter [] [(0,bN)] Tryz.func152 O O O O<|R.reg O<|R.u 1 O<|R.nil<|R.reg O<|R.u 1 O<|R.q (q.len' (fun _=>Wd.old ew) O Tryz.underlying43) O<|R.u 1 O<|R.nil<|R.loop (fun k:Nat=>[(0,bN),(8,bN),(9,iV (l.length:Int)),(10,iV (k:Int))]) (fun k:Nat=>[]) (fun k:Nat=>[]) (fun k:Nat=>k<=l.length /\ ∀j,j<k->hY l j=0) (fun k:Nat=>l.length-k) 0 O (by exact ⟨by omega,fun j hj=>absurd hj (Nat.not_lt_zero _)⟩) (sF O) (ic [] [] O) ?_
 rintro k ⟨hk,HA⟩
 refine R.reg O<|?_
 by_cases h1:k<l.length
 .
  refine R.q (q.dx O O) O<|R.nil<|R.av O O<|R.reg O<|R.u 1 O<|?_
  obtain ⟨x1,hx1⟩:∃z,l[k]? = some z:=⟨_,List.getElem?_eq_getElem (by omega)⟩
  have VN:=kA x1
  refine R.q (q.idx (i:=k) (fun _=>Wd.old ew) O O dJ O hx1) O<|R.q (q.eS (ds:=im x1) (fun _=>Wd.old ew) hx1 O aM O) O<|R.s O (s.alloc bO O O) fun b1=>?_
  refine R.u 1 O<|R.s O (s.st 0 _ O O O O (.inl aM) O O O O) fun _=>?_
  refine R.nil<|R.reg O<|R.q (q.dt 0 O O aM) O<|R.c (q.call Px O O (fun w hw=>(yL x1 w ))) O<|R.u 1 O<|R.nil ?_
  refine R.reg O<|R.u 1 O<|?_
  by_cases h2:cr x1=0
  .
   refine R.q (q.dB O O Tryz.underlying38) O<|R.nil<|R.aA O O<|R.cut 2 (fun _u:Unit=>[(0,bN),(3,iV (k:Int)),(4,.pointer (some ⟨b1,0,none⟩)),(8,bN),(9,iV (l.length:Int)),(10,iV (k:Int))]) (fun _u:Unit=>[ag.box b1 (im x1) 127]) (fun _u:Unit=>[]) (fun _u:Unit=>Hid (¬ 0<k ∨ ∃y,l[k-1]? = some y/\y.ID<x1.ID)) O O O ?_ ?_
   .
    by_cases h3:0<k
    .
     obtain ⟨x2,hx2⟩:∃z,l[(k-1)]? = some z:=⟨_,List.getElem?_eq_getElem (by omega)⟩
     have VO:=kA x2
     by_cases h4:x2.ID<x1.ID
     .
      exact R.eu O mixed (by kernel_rfl)<|Q.u 1 O<|Q.q (q.eL O O) O<|Q.u 1 O<|Q.qg O (q.aO O bU O) O<|Q.qg O (q.ld 0 O O au O) O<|Q.u 2 O<|Q.qg O (q.lT (r:=((k-1:Nat):Int)) O O) O<|Q.qg O (q.idx (i:=(k-1)) (fun _=>Wd.old ew) O O dJ O hx2) O<|Q.qg O (q.nG (j':=0) (fun _=>Wd.old ew) hx2 O bU O) O<|Q.qg O (q.lv (fun _=>Wd.old ew) hx2 O au O) O<|Q.qg O (q.TP O O) O<|Q.u 1 O<|Q.nil<|R.aA O O<|R.meet () O (by (exact .inr ⟨_,hx2,by assumption⟩)) (sF O) (ic [0] [] O)
     exact R.eu O mixed (by kernel_rfl)<|Q.u 1 O<|Q.q (q.eL O O) O<|Q.u 1 O<|Q.qg O (q.aO O bU O) O<|Q.qg O (q.ld 0 O O au O) O<|Q.u 2 O<|Q.qg O (q.lT (r:=((k-1:Nat):Int)) O O) O<|Q.qg O (q.idx (i:=(k-1)) (fun _=>Wd.old ew) O O dJ O hx2) O<|Q.qg O (q.nG (j':=0) (fun _=>Wd.old ew) hx2 O bU O) O<|Q.qg O (q.lv (fun _=>Wd.old ew) hx2 O au O) O<|Q.qg O (q.TN O O) O<|Q.u 1 O<|Q.nil<|R.av O O<|R.reg O<|R.q (q.iface O bj) O<|R.u 1 O<|R.nil<|R.rv O Tryz.results152 O (dj (by decide) (by (exact (gR (by omega) (m8 hx1 (by omega) ‹_› hx2 ‹_›) (by decide) HA))))
    exact R.eu O mixed (by kernel_rfl)<|Q.u 1 O<|Q.q (q.eo O O) O<|Q.u 11 O<|Q.nil<|R.aA O O<|R.meet () O (by (exact .inl ‹_›)) (sF O) (ic [0] [] O)
   rintro _u hS
   refine R.reg O<|R.q (q.aO O eX O) O<|R.q (q.ld 0 O O au O) O<|?_
   by_cases h5:x1.From=0
   .
    refine R.q (q.fN O O) O<|R.nil<|R.av O O<|R.reg O<|R.q (q.bA (r:=((k+1:Nat):Int)) O O) O<|R.u 1 O<|R.nil<|R.back (k+1) O (by (exact ⟨by omega,r9 HA (xA hx1 (by omega) hS.out ‹_›)⟩)) (by omega) (sF O) (ic [] [] O)
   refine R.q (q.e8 O O) O<|R.nil<|R.aA O O ?_
   rcases fj (l.take k) x1.From with ⟨gU,Eo⟩ | ⟨Df,lW,gU,ve,SL⟩
   .
    exact R.eu O mixed (by kernel_rfl)<|Q.u 2 O<|Q.q (q.kI (i:=k) (fun _=>Wd.old ew) O O Tryz.underlying43 Ay O (by omega)) O<|Q.q (q.aO O eX O) O<|Q.q (q.ld 0 O O au O) O<|Q.c (q.call lL O O (fun w hw=>(cv (congrArg (Value.int .i64) gU) (iD _ (l.take k) x1.From w ((fun w hw=>Sl.to ((fun _=>Wd.old ew) w hw) (by omega)) w hw) )))) O<|Q.u 1 O<|Q.nil<|R.reg O<|R.u 1 O<|R.q (q.lss (b:=true) O O (by decide)) O<|R.nil<|R.av O O<|R.reg O<|R.q (q.iface O bj) O<|R.u 1 O<|R.nil<|R.rv O Tryz.results152 O (dj (by decide) (by (exact (gR (by omega) (xB hx1 (by omega) hS.out ‹_› gU) (by decide) HA))))
   refine R.eu O mixed (by kernel_rfl)<|Q.u 2 O<|Q.q (q.kI (i:=k) (fun _=>Wd.old ew) O O Tryz.underlying43 Ay O (by omega)) O<|Q.q (q.aO O eX O) O<|Q.q (q.ld 0 O O au O) O<|Q.c (q.call lL O O (fun w hw=>(cv (congrArg (Value.int .i64) gU) (iD _ (l.take k) x1.From w ((fun w hw=>Sl.to ((fun _=>Wd.old ew) w hw) (by omega)) w hw) )))) O<|Q.u 1 O<|Q.nil<|R.reg O<|R.u 1 O<|R.q (q.cU O O) O<|R.nil<|R.aA O O ?_
   have rz:Df<k:=by simp at lW;omega
   obtain ⟨x3,hx3⟩:∃z,l[Df]? = some z:=⟨_,List.getElem?_eq_getElem (by omega)⟩
   have wx:=sZ hx3 (HA Df rz)
   have VN:=wx.Kx;have VO:=wx.Ky
   have wd:=rK x3 x1.ID x1.Rights x1.aQ
   refine R.fY (fuel:=17) [0] O O mixed O<|D.q (i:=0) O (aD [0] [] O) O (q.mv O) O<|D.q (i:=1) O (aD [0] [] O) O (q.mv O) O<|D.q (i:=2) O (aD [0] [] O) O (q.idx (i:=Df) (fun _=>Wd.old ew) O O dJ O hx3) O<|D.q (i:=3) O (aD [0] [] O) O (q.eS (ds:=im x3) (fun _=>Wd.old ew) hx3 O aM O) O<|D.q (i:=4) O (aD [0] [] O) O (q.aO O bU O) O<|D.q (i:=5) O (aD [0] [] O) O (q.ld 0 O O au O) O<|D.q (i:=6) O (aD [0] [] O) O (q.aO O jT O) O<|D.q (i:=7) O (aD [0] [] O) O (q.ld 0 O O au O) O<|D.q (i:=8) O (aD [0] [] O) O (q.aO O iZ O) O<|D.q (i:=9) O (aD [0] [] O) O (q.ld 0 O O au O) O<|D.two (i:=10) (j:=14) O O ?_ ?_
   .
    refine Do.s (s.c (q.call wv O O (fun w hw=>(mF x3 x1.ID x1.Rights x1.aQ w (by omega)))) O) (fun _=>(aD [0] [] O)) O fun _=>?_
    refine D.q (i:=11) O (aD [0] [] O) O (q.mv O) O<|D.q (i:=12) O (aD [0] [] O) O (q.ext O O) O<|D.q (i:=13) O (aD [0] [] O) O (q.ext O O) O<|D.one (i:=14) O<|Do.s (s.alloc bO O O) (fun _=>(aD [1] [] O)) O fun b2=>?_
    refine D.one (i:=15) O<|Do.s (s.st 0 _ O O O O (.inl aM) O O O O) (fun _=>(aD [1] [] O)) O fun _=>?_
    refine D.q (i:=16) O (aD [1] [] O) O (q.as O) O<|D.done<|R.reg O<|R.u 1 O<|?_
    by_cases h6:(derived x3 x1.ID x1.Rights x1.aQ).2=0
    .
     refine R.q (q.dB O O Tryz.underlying38) O<|R.nil<|R.aA O O<|R.reg O<|R.q (q.dt 0 O O aM) O<|R.q (q.dt 1 O O aM) O<|?_
     by_cases h7:(derived x3 x1.ID x1.Rights x1.aQ).1=x1
     .
      refine R.q (q.vT (x:=(derived x3 x1.ID x1.Rights x1.aQ).1) (y:=x1) tM O O h7) O<|R.nil<|R.aA O O<|R.reg O<|R.q (q.bA (r:=((k+1:Nat):Int)) O O) O<|R.u 1 O<|R.nil<|R.back (k+1) O (by (exact ⟨by omega,r9 HA ((jk hx1 (by omega) hS.out ‹_› gU rz hx3).trans ((if_neg (by omega)).trans (if_neg (fun h=>h ‹_›))))⟩)) (by omega) (sF O) (ic [] [] O)
     exact R.q (q.vU (x:=(derived x3 x1.ID x1.Rights x1.aQ).1) (y:=x1) tM O O h7) O<|R.nil<|R.av O O<|R.reg O<|R.q (q.iface O bj) O<|R.u 1 O<|R.nil<|R.rv O Tryz.results152 O (dj (by decide) (by (exact (gR (by omega) ((jk hx1 (by omega) hS.out ‹_› gU rz hx3).trans ((if_neg (by omega)).trans (if_pos ‹_›))) (by decide) HA))))
    exact R.q (q.ej O O Tryz.underlying38) O<|R.nil<|R.av O O<|R.reg O<|R.u 2 O<|R.nil<|R.rv O Tryz.results152 O (rE (by (exact (gR (by omega) ((jk hx1 (by omega) hS.out ‹_› gU rz hx3).trans (if_pos (by omega))) (by omega) HA).symm)))
   refine Do.s (s.alloc bO O O) (fun _=>(aD [1] [] O)) O fun b3=>?_
   refine D.one (i:=10) O<|Do.s (s.c (q.call wv O O (fun w hw=>(mF x3 x1.ID x1.Rights x1.aQ w (by omega)))) O) (fun _=>(aD [1] [] O)) O fun _=>?_
   refine D.q (i:=11) O (aD [1] [] O) O (q.mv O) O<|D.q (i:=12) O (aD [1] [] O) O (q.ext O O) O<|D.q (i:=13) O (aD [1] [] O) O (q.ext O O) O<|D.one (i:=15) O<|Do.s (s.st 0 _ O O O O (.inl aM) O O O O) (fun _=>(aD [1] [] O)) O fun _=>?_
   refine D.q (i:=16) O (aD [1] [] O) O (q.as O) O<|D.done<|R.reg O<|R.u 1 O<|?_
   by_cases h8:(derived x3 x1.ID x1.Rights x1.aQ).2=0
   .
    refine R.q (q.dB O O Tryz.underlying38) O<|R.nil<|R.aA O O<|R.reg O<|R.q (q.dt 0 O O aM) O<|R.q (q.dt 1 O O aM) O<|?_
    by_cases h9:(derived x3 x1.ID x1.Rights x1.aQ).1=x1
    .
     refine R.q (q.vT (x:=(derived x3 x1.ID x1.Rights x1.aQ).1) (y:=x1) tM O O h9) O<|R.nil<|R.aA O O<|R.reg O<|R.q (q.bA (r:=((k+1:Nat):Int)) O O) O<|R.u 1 O<|R.nil<|R.back (k+1) O (by (exact ⟨by omega,r9 HA ((jk hx1 (by omega) hS.out ‹_› gU rz hx3).trans ((if_neg (by omega)).trans (if_neg (fun h=>h ‹_›))))⟩)) (by omega) (sF O) (ic [] [] O)
    exact R.q (q.vU (x:=(derived x3 x1.ID x1.Rights x1.aQ).1) (y:=x1) tM O O h9) O<|R.nil<|R.av O O<|R.reg O<|R.q (q.iface O bj) O<|R.u 1 O<|R.nil<|R.rv O Tryz.results152 O (dj (by decide) (by (exact (gR (by omega) ((jk hx1 (by omega) hS.out ‹_› gU rz hx3).trans ((if_neg (by omega)).trans (if_pos ‹_›))) (by decide) HA))))
   exact R.q (q.ej O O Tryz.underlying38) O<|R.nil<|R.av O O<|R.reg O<|R.u 2 O<|R.nil<|R.rv O Tryz.results152 O (rE (by (exact (gR (by omega) ((jk hx1 (by omega) hS.out ‹_› gU rz hx3).trans (if_pos (by omega))) (by omega) HA).symm)))
  exact R.q (q.ej O O Tryz.underlying38) O<|R.nil<|R.av O O<|R.reg O<|R.u 2 O<|R.nil<|R.rv O Tryz.results152 O (rE (by (have e:cr x1=1:=(by omega);rw [e];exact (gR (by omega) (jj hx1 (by omega)) (by decide) HA).symm)))
 exact R.q (q.cU O O) O<|R.nil<|R.aA O O<|R.reg O<|R.u 1 O<|R.nil<|R.rv O Tryz.results152 O (iK (by (exact (qi (fun j hj=>HA j (by omega))))))
theorem qj (bN:Value)(l:List aj)(id:Int)(w:World)(ew:Sl w bN l)(hl:l.length<=1000000):Calls Tryz.prog 54 #[bN,iV id] w fun e w' => ∃u,e = .returned u/\Own w.heap.size 127 w' u (without l id)/\Ext w w':=by
 have zq:=ew.fA
 refine R.enter [] [(0,bN),(1,iV id)] Tryz.func54 O O O O<|R.reg O<|R.u 1 O<|R.nil<|R.reg O<|R.u 1 O<|R.nil<|R.reg O<|R.u 1 O<|R.nil<|R.reg O<|R.u 2 O<|?_
 rcases fj l id with ⟨gU,Eo⟩ | ⟨Df,lW,gU,ve,SL⟩
 .
  refine R.c (q.call lL O O (fun w hw=>(cv (congrArg (Value.int .i64) gU) (iD _ l id w ((fun _=>Wd.old ew) w hw) )))) O<|R.u 1 O<|R.nil ?_
  refine R.reg O<|R.u 1 O<|R.q (q.geq (b:=false) O O (by decide)) O<|R.nil<|R.aA O O<|R.reg O<|R.u 1 O<|R.q (q.len' (fun _=>Wd.old ew) O Tryz.underlying43) O<|R.u 1 O<|R.nil<|R.row0 (α:=aj) 127<|R.loop (fun g_:Nat×Value×(List aj)=>[(1,iV id),(5,g_.2.1),(6,iV 0),(20,bN),(21,iV (l.length:Int)),(22,iV (g_.1:Int))]) (fun g_=>[ag.row 127 g_.2.1 g_.2.2]) (fun g_=>[]) (fun g_=>g_.1<=l.length/\g_.2.2=E1 id 0 (l.take g_.1)) (fun g_=>l.length-g_.1) (0,(nS),[]) O (by exact ⟨by simp,by simp [E1,SK]⟩) (sF O) (ic [0] [] O) ?_
  rintro ⟨k,v,acc⟩ ⟨hk,HA⟩
  dsimp only at *
  have hal:acc.length<=k:=by rw [HA];exact Nat.le_trans (Bu _ _ _) (List.length_take_le _ _)
  refine R.reg O<|?_
  by_cases h1:k<l.length
  .
   refine R.q (q.dx O O) O<|R.nil<|R.av O O<|R.reg O<|?_
   obtain ⟨x1,hx1⟩:∃z,l[k]? = some z:=⟨_,List.getElem?_eq_getElem (by omega)⟩
   refine R.q (q.idx (i:=k) (fun _=>Wd.old ew) O O dJ O hx1) O<|R.q (q.eS (ds:=im x1) (fun _=>Wd.old ew) hx1 O aM O) O<|R.s O (s.alloc bO O O) fun b1=>?_
   refine R.s O (s.st 0 _ O O O O (.inl aM) O O O O) fun _=>?_
   refine R.nil<|R.reg O<|R.q (q.aO O bU O) O<|R.q (q.ld 0 O O au O) O<|R.u 1 O<|?_
   by_cases h2:x1.ID=id
   .
    refine R.q (q.fN O O) O<|R.nil<|R.av O O<|R.reg O<|R.q (q.bA (r:=((k+1:Nat):Int)) O O) O<|R.u 1 O<|R.nil<|R.back (k+1,v,acc) O (by (exact ⟨by omega,by rw [HA,Gr hx1 ‹_›]⟩)) (by dsimp only;omega) (sF O) (ic [1] [] O)
   refine R.q (q.e8 O O) O<|R.nil<|R.aA O O<|R.reg O<|R.q (q.aO O eX O) O<|R.q (q.ld 0 O O au O) O<|R.u 1 O<|?_
   by_cases h3:x1.From=id
   .
    refine R.q (q.fN O O) O<|R.nil<|R.av O O<|R.reg O<|R.u 1 O<|R.q (q.aO O eX O) O<|R.s O (s.st 0 _ O O O O (.inr ⟨au,rfl⟩) O O O O) fun _=>?_
    refine R.nil<|R.reg O<|R.u 1 O<|R.q (q.dt 0 O O aM) O<|R.s O (s.bs (l:=([(⟨x1.ID,x1.aE,x1.Rights,x1.aQ,0⟩:aj)]:List aj)) dJ bO O O O O O O O) fun b2=>?_
    refine R.s O (s.app 2 _ O O O (bB 0 O) lj (by simp;omega) (by simp;omega) (fun _=>rfl) O) fun v1=>?_
    refine R.u 1 O<|R.nil<|R.reg O<|R.q (q.bA (r:=((k+1:Nat):Int)) O O) O<|R.u 1 O<|R.nil<|R.back (k+1,v1,(acc++([(⟨x1.ID,x1.aE,x1.Rights,x1.aQ,0⟩:aj)]))) O (by (exact ⟨by omega,by rw [HA,s7 hx1 ‹_›,De ‹_›]⟩)) (by dsimp only;omega) (sF O) (ic [2] [] O)
   refine R.q (q.e8 O O) O<|R.nil<|R.aA O O<|R.reg O<|R.u 1 O<|R.q (q.dt 0 O O aM) O<|R.s O (s.bs (l:=([x1]:List aj)) dJ bO O O O O O O O) fun b3=>?_
   refine R.s O (s.app 2 _ O O O (bB 0 O) lj (by simp;omega) (by simp;omega) (fun _=>rfl) O) fun v2=>?_
   refine R.u 1 O<|R.nil<|R.reg O<|R.q (q.bA (r:=((k+1:Nat):Int)) O O) O<|R.u 1 O<|R.nil<|R.back (k+1,v2,(acc++([x1]))) O (by (exact ⟨by omega,by rw [HA,s7 hx1 ‹_›,zG ‹_›]⟩)) (by dsimp only;omega) (sF O) (ic [2] [] O)
  exact R.q (q.cU O O) O<|R.nil<|R.aA O O<|R.reg O<|R.u 2 O<|R.nil<|R.ro 0 O Tryz.results54 O O (by (rw [HA,List.take_of_length_le (by omega)];unfold without;rw [uJ gU]))
 refine R.c (q.call lL O O (fun w hw=>(cv (congrArg (Value.int .i64) gU) (iD _ l id w ((fun _=>Wd.old ew) w hw) )))) O<|R.u 1 O<|R.nil ?_
 refine R.reg O<|R.u 1 O<|R.q (q.G0 O O) O<|R.nil<|R.av O O<|R.reg O<|R.u 2 O<|R.q (q.idx (i:=Df) (fun _=>Wd.old ew) O O dJ O (List.getElem?_eq_getElem lW)) O<|R.q (q.nG (j':=4) (fun _=>Wd.old ew) (List.getElem?_eq_getElem lW) O eX O) O<|R.q (q.lv (fun _=>Wd.old ew) (List.getElem?_eq_getElem lW) O au O) O<|R.u 1 O<|R.nil ?_
 refine R.reg O<|R.u 1 O<|R.q (q.len' (fun _=>Wd.old ew) O Tryz.underlying43) O<|R.u 1 O<|R.nil<|R.row0 (α:=aj) 127<|R.loop (fun g_:Nat×Value×(List aj)=>[(1,iV id),(5,g_.2.1),(6,iV (l[Df]).From),(20,bN),(21,iV (l.length:Int)),(22,iV (g_.1:Int))]) (fun g_=>[ag.row 127 g_.2.1 g_.2.2]) (fun g_=>[]) (fun g_=>g_.1<=l.length/\g_.2.2=E1 id (l[Df]).From (l.take g_.1)) (fun g_=>l.length-g_.1) (0,(nS),[]) O (by exact ⟨by simp,by simp [E1,SK]⟩) (sF O) (ic [0] [] O) ?_
 rintro ⟨k,v,acc⟩ ⟨hk,HA⟩
 dsimp only at *
 have hal:acc.length<=k:=by rw [HA];exact Nat.le_trans (Bu _ _ _) (List.length_take_le _ _)
 refine R.reg O<|?_
 by_cases h4:k<l.length
 .
  refine R.q (q.dx O O) O<|R.nil<|R.av O O<|R.reg O<|?_
  obtain ⟨x2,hx2⟩:∃z,l[k]? = some z:=⟨_,List.getElem?_eq_getElem (by omega)⟩
  refine R.q (q.idx (i:=k) (fun _=>Wd.old ew) O O dJ O hx2) O<|R.q (q.eS (ds:=im x2) (fun _=>Wd.old ew) hx2 O aM O) O<|R.s O (s.alloc bO O O) fun b4=>?_
  refine R.s O (s.st 0 _ O O O O (.inl aM) O O O O) fun _=>?_
  refine R.nil<|R.reg O<|R.q (q.aO O bU O) O<|R.q (q.ld 0 O O au O) O<|R.u 1 O<|?_
  by_cases h5:x2.ID=id
  .
   refine R.q (q.fN O O) O<|R.nil<|R.av O O<|R.reg O<|R.q (q.bA (r:=((k+1:Nat):Int)) O O) O<|R.u 1 O<|R.nil<|R.back (k+1,v,acc) O (by (exact ⟨by omega,by rw [HA,Gr hx2 ‹_›]⟩)) (by dsimp only;omega) (sF O) (ic [1] [] O)
  refine R.q (q.e8 O O) O<|R.nil<|R.aA O O<|R.reg O<|R.q (q.aO O eX O) O<|R.q (q.ld 0 O O au O) O<|R.u 1 O<|?_
  by_cases h6:x2.From=id
  .
   refine R.q (q.fN O O) O<|R.nil<|R.av O O<|R.reg O<|R.u 1 O<|R.q (q.aO O eX O) O<|R.s O (s.st 0 _ O O O O (.inr ⟨au,rfl⟩) O O O O) fun _=>?_
   refine R.nil<|R.reg O<|R.u 1 O<|R.q (q.dt 0 O O aM) O<|R.s O (s.bs (l:=([(⟨x2.ID,x2.aE,x2.Rights,x2.aQ,(l[Df]).From⟩:aj)]:List aj)) dJ bO O O O O O O O) fun b5=>?_
   refine R.s O (s.app 2 _ O O O (bB 0 O) lj (by simp;omega) (by simp;omega) (fun _=>rfl) O) fun v3=>?_
   refine R.u 1 O<|R.nil<|R.reg O<|R.q (q.bA (r:=((k+1:Nat):Int)) O O) O<|R.u 1 O<|R.nil<|R.back (k+1,v3,(acc++([(⟨x2.ID,x2.aE,x2.Rights,x2.aQ,(l[Df]).From⟩:aj)]))) O (by (exact ⟨by omega,by rw [HA,s7 hx2 ‹_›,De ‹_›]⟩)) (by dsimp only;omega) (sF O) (ic [2] [] O)
  refine R.q (q.e8 O O) O<|R.nil<|R.aA O O<|R.reg O<|R.u 1 O<|R.q (q.dt 0 O O aM) O<|R.s O (s.bs (l:=([x2]:List aj)) dJ bO O O O O O O O) fun b6=>?_
  refine R.s O (s.app 2 _ O O O (bB 0 O) lj (by simp;omega) (by simp;omega) (fun _=>rfl) O) fun v4=>?_
  refine R.u 1 O<|R.nil<|R.reg O<|R.q (q.bA (r:=((k+1:Nat):Int)) O O) O<|R.u 1 O<|R.nil<|R.back (k+1,v4,(acc++([x2]))) O (by (exact ⟨by omega,by rw [HA,s7 hx2 ‹_›,zG ‹_›]⟩)) (by dsimp only;omega) (sF O) (ic [2] [] O)
 exact R.q (q.cU O O) O<|R.nil<|R.aA O O<|R.reg O<|R.u 2 O<|R.nil<|R.ro 0 O Tryz.results54 O O (by (rw [HA,List.take_of_length_le (by omega)];unfold without;rw [uI gU (List.getElem?_eq_getElem lW)]))
end
section
open Go.RowKit
theorem xC {l:List aj}{k:Nat}{x y:aj}(hx:l[k]? = some x)(h:hY l k=0)(hk:0<k)(hy:l[k-1]? = some y):y.ID<x.ID:=by
 have hw:=sZ hx h
 have h0:cr x=0:=by rcases kA x with h1|h1;exact h1;rw [jj hx (by omega)] at h;omega
 rcases Int.lt_or_le y.ID x.ID with h1|h1
 .exact h1
 .rw [m8 hx h0 hk hy (by omega)] at h;omega
theorem cR.rise {l:List aj}(h:cR l):∀ (j i:Nat) {x y:aj},i<j->l[j]? = some x->l[i]? = some y->y.ID<x.ID
 | 0,i,x,y,hij,hx,hy=>by omega
 | j+1,i,x,y,hij,hx,hy=>by
  have hlt:j+1<l.length:=(List.getElem?_eq_some_iff.1 hx).1
  have hz:l[j]? = some l[j]:=List.getElem?_eq_getElem (by omega)
  have h1:=xC hx (h.steps _ hlt) (by omega) hz
  by_cases hj:i=j
  .subst hj;rw [hz] at hy;injection hy with hy;subst hy;exact h1
  .have:=h.rise j i (by omega) hz hy;omega
theorem cR.inj {l:List aj}(h:cR l){x y:aj}(hx:x∈l)(hy:y∈l)(he:x.ID=y.ID):x=y:=by
 obtain ⟨i,hi⟩:=List.mem_iff_getElem?.1 hx
 obtain ⟨j,hj⟩:=List.mem_iff_getElem?.1 hy
 rcases Nat.lt_trichotomy i j with h1|h1|h1
 .have:=h.rise j i h1 hj hi;omega
 .subst h1;rw [hi] at hj;injection hj
 .have:=h.rise i j h1 hi hj;omega
theorem xD {l:List aj}{k:Nat}{x:aj}(hx:l[k]? = some x)(h:hY l k=0)(h0:x.From≠0) :
 ∃j y,j<k/\l[j]? = some y/\y.ID=x.From/\(derived y x.ID x.Rights x.aQ).2=0/\(derived y x.ID x.Rights x.aQ).1=x:=by
 have hw:cr x=0:=by rcases kA x with h1|h1;exact h1;rw [jj hx (by omega)] at h;omega
 have hsh:¬ 0<k ∨ ∃y,l[k-1]? = some y/\y.ID<x.ID:=by
  by_cases hk:0<k
  .
   have hlt:k<l.length:=(List.getElem?_eq_some_iff.1 hx).1
   exact .inr ⟨_,List.getElem?_eq_getElem (by omega),xC hx h hk (List.getElem?_eq_getElem (by omega))⟩
  .exact .inl hk
 rcases fj (l.take k) x.From with ⟨h1,h2⟩ | ⟨j,hj,h1,h2,h3⟩
 .rw [xB hx hw hsh h0 h1] at h;omega
 .
  have hjk:j<k:=by rw [List.length_take] at hj;omega
  have hlt:k<l.length:=(List.getElem?_eq_some_iff.1 hx).1
  have hy:l[j]? = some l[j]:=List.getElem?_eq_getElem (by omega)
  rw [jk hx hw hsh h0 h1 hjk hy] at h
  have hid:(l[j]'(by omega)).ID=x.From:=by simpa [List.getElem_take] using h2
  by_cases hd:(derived l[j] x.ID x.Rights x.aQ).2≠0
  .rw [if_pos hd] at h;exact absurd h hd
  .
   rw [if_neg hd] at h
   by_cases he:(derived l[j] x.ID x.Rights x.aQ).1≠x
   .rw [if_pos he] at h;omega
   .exact ⟨j,_,hjk,hy,hid,by simpa using hd,by simpa using he⟩
theorem mb {l:List aj}{x:aj}(hx:x∈l):0<=cG l x.ID:=by
 rcases fj l x.ID with ⟨h1,h2⟩ | ⟨k,hk,h1,h2,_⟩
 .exact absurd rfl (h2 x hx)
 .omega
theorem oc {l:List aj}{f:Int}(h:0<=cG l f):∃y,l[(cG l f).toNat]? = some y/\y.ID=f/\y∈l/\eO l f=y.From:=by
 obtain ⟨y,h1,h2,h3⟩:=Dd l f h
 exact ⟨y,h1,h2,h3,uI (j:=(cG l f).toNat) (by omega) h1⟩
theorem xE {l:List aj}{f:Int}(h:cG l f<0):eO l f=0:=by
 rcases fj l f with ⟨h1,_⟩ | ⟨k,hk,h1,_⟩
 .exact uJ h1
 .omega
theorem cR.uK {l:List aj}(h:cR l){f:Int}(hf:0<=cG l f):0<f/\f<=999/\0<=eO l f/\eO l f<f:=by
 obtain ⟨y,h1,h2,h3,h4⟩:=oc hf
 have w:=h.mem h3
 have:=w.id1;have:=w.Q6;have:=w.Qj;have:=w.Ol
 omega
def chain (l:List aj)(f:Int):List Int :=
  if h:0<=cG l f/\0<f/\eO l f<f then f::chain l (eO l f) else []
termination_by f.toNat
decreasing_by omega
def above (l:List aj)(id:Int):List Int:=chain l (eO l id)
theorem sf {l:List aj}(h:cR l){f:Int}(hf:0<=cG l f):chain l f=f::chain l (eO l f):=by
 have:=h.uK hf
 rw [chain,dif_pos ⟨hf,by omega,by omega⟩]
theorem E2 {l:List aj}{f:Int}(hf:cG l f<0):chain l f=[]:=by
 rw [chain,dif_neg (by omega)]
def E3 (id:Int)(acc:List Int)(x:aj):List Int:=if (x.From=id∨x.From∈acc)/\0<x.From then acc++[x.ID] else acc
def kB (id:Int)(l:List aj):List Int:=l.foldl (E3 id) []
theorem Dh {id:Int}{l:List aj}{k:Nat}{x:aj}{S:List Int}(hx:l[k]? = some x)(hS:∀z,z∈S↔z=id∨z∈kB id (l.take k))(h:x.From∈S)(h0:0<x.From):kB id (l.take (k+1))=kB id (l.take k)++[x.ID]:=by
 unfold kB at *
 rw [List.take_add_one,hx,List.foldl_append]
 simp only [Option.toList,List.foldl_cons,List.foldl_nil]
 unfold E3 at *
 rw [if_pos ⟨(hS _).1 h,h0⟩]
theorem t6 {id:Int}{l:List aj}{k:Nat}{x:aj}{S:List Int}(hx:l[k]? = some x)(hS:∀z,z∈S↔z=id∨z∈kB id (l.take k))(h:¬ (x.From∈S/\0<x.From)):kB id (l.take (k+1))=kB id (l.take k):=by
 unfold kB at *
 rw [List.take_add_one,hx,List.foldl_append]
 simp only [Option.toList,List.foldl_cons,List.foldl_nil]
 unfold E3 at *
 rw [if_neg (fun hc=>h ⟨(hS _).2 hc.1,hc.2⟩)]
theorem Kz (id:Int)(l:List aj):(kB id l).length<=l.length:=by
 have:∀ (l:List aj) (acc:List Int),(l.foldl (E3 id) acc).length<=acc.length+l.length:=by
  intro l
  induction l with
  | nil=>intro acc;simp
  | cons x l ih =>
   intro acc
   have:=ih (E3 id acc x)
   have h2:(E3 id acc x).length<=acc.length+1:=by unfold E3;split <;> simp
   simp only [List.foldl_cons,List.length_cons];omega
 simpa [kB] using this l []
def up (l:List aj)(id f:Int):Int :=
  if h:0<f/\f≠id/\0<=cG l f/\eO l f<f then up l id (eO l f) else f
termination_by f.toNat
decreasing_by omega
theorem Gs {l:List aj}(h:cR l){id f:Int}(h1:f≠id)(h2:0<=cG l f):up l id f=up l id (eO l f):=by
 have:=h.uK h2
 rw [up,dif_pos ⟨by omega,h1,h2,by omega⟩]
theorem Bv {l:List aj}{id f:Int}(h:¬ 0<f∨f=id∨cG l f<0):up l id f=f:=by
 rw [up,dif_neg (by omega)]
def Q7 (l:List aj)(id:Int)(x:aj):Bool:=decide (up l id x.From=id)&&decide (0<id)
def vk (l:List aj)(id:Int)(m:List aj):List Int:=(m.filter (Q7 l id)).map aj.ID
theorem KA {l0:List aj}{id:Int}{l:List aj}{k:Nat}{x:aj}(hx:l[k]? = some x)(h:up l0 id x.From=id)(h0:0<id):vk l0 id (l.take (k+1))=vk l0 id (l.take k)++[x.ID]:=by
 unfold vk
 rw [List.take_add_one,hx,List.filter_append];simp [Q7,h,h0]
theorem HX {l0:List aj}{id:Int}{l:List aj}{k:Nat}{x:aj}(hx:l[k]? = some x)(h:¬ (up l0 id x.From=id/\0<id)):vk l0 id (l.take (k+1))=vk l0 id (l.take k):=by
 unfold vk
 rw [List.take_add_one,hx,List.filter_append]
 have:Q7 l0 id x=false:=by unfold Q7;rw [Bool.and_eq_false_iff];by_cases h1:up l0 id x.From=id;right;simpa using (fun h2=>h ⟨h1,h2⟩);left;simpa using h1
 simp [this]
def beneath (l:List aj)(id:Int):List Int:=vk l id l
theorem KB {l:List aj}(h:cR l)(id:Int):∀k,k<=l.length->kB id (l.take k)=vk l id (l.take k)
 | 0,_=>by simp [kB,vk]
 | k+1,hk=>by
  have ih:=KB h id k (by omega)
  have hx:l[k]? = some l[k]:=List.getElem?_eq_getElem (by omega)
  have hS:∀z,z∈id::kB id (l.take k)↔z=id∨z∈kB id (l.take k):=fun z=>by simp
  have w:=sZ hx (h.steps k (by omega))
  have key:((l[k]).From∈id::kB id (l.take k)/\0<(l[k]).From)↔(up l id (l[k]).From=id/\0<id):=by
   by_cases h0:(l[k]).From=0
   .
    rw [h0,Bv (.inl (by omega))]
    constructor
    .intro h;omega
    .intro h;omega
   .
    have hpos:0<(l[k]).From:=by have:=w.Q6;omega
    by_cases he:(l[k]).From=id
    .
     rw [Bv (.inr (.inl he))]
     constructor
     .intro _;exact ⟨he,by omega⟩
     .intro _;exact ⟨by rw [he];simp,hpos⟩
    .
     obtain ⟨j,y,hj,hy,hid,_,_⟩:=xD hx (h.steps k (by omega)) h0
     have hym:y∈l:=List.mem_of_getElem? hy
     have hfi:0<=cG l (l[k]).From:=by rw [<- hid];exact mb hym
     rw [Gs h he hfi]
     obtain ⟨y',_,hy2,hy3,hy4⟩:=oc hfi
     have:y'=y:=h.inj hy3 hym (by rw [hy2,hid])
     subst this
     rw [hy4,ih]
     have hmem:(l[k]).From∈vk l id (l.take k)↔(up l id y'.From=id/\0<id):=by
      unfold vk
      simp only [List.mem_map,List.mem_filter,Q7,Bool.and_eq_true,decide_eq_true_eq]
      constructor
      .
       rintro ⟨z,⟨hz,hz2⟩,hz3⟩
       have:z=y':=h.inj (List.mem_of_mem_take hz) hy3 (by rw [hz3,hid])
       subst this;exact hz2
      .
       intro hh
       exact ⟨y',⟨List.mem_of_getElem? (i:=j) (by rw [List.getElem?_take,if_pos hj];exact hy),hh⟩,hid⟩
     constructor
     .
      rintro ⟨h1,_⟩
      rcases List.mem_cons.1 h1 with h1|h1
      .exact absurd h1 he
      .exact hmem.1 h1
     .intro h1;exact ⟨List.mem_cons.2 (.inr (hmem.2 h1)),hpos⟩
  by_cases hc:up l id (l[k]).From=id/\0<id
  .
   have:=key.2 hc
   rw [Dh hx hS this.1 this.2,KA hx hc.1 hc.2,ih]
  .rw [t6 hx hS (fun hh=>hc (key.1 hh)),HX hx hc,ih]
theorem MF {l:List aj}(h:cR l)(id:Int):kB id l=beneath l id:=by
 have:=KB h id l.length (Nat.le_refl _)
 simpa [beneath,List.take_length] using this
theorem Di {l:List aj}(h:cR l){a:Int}(ha:0<=cG l a)(f:Int)(hf0:0<=f):up l a f=a↔a∈chain l f:=by
 have ha0:=h.uK ha
 by_cases he:f=a
 .subst he;rw [Bv (.inr (.inl rfl)),sf h ha];simp
 .
  rcases Int.lt_or_le (cG l f) 0 with h1|h1
  .rw [Bv (.inr (.inr h1)),E2 h1];simp [he]
  .
   have hf:=h.uK h1
   rw [Gs h he h1,sf h h1,Di h ha (eO l f) hf.2.2.1]
   simp [Ne.symm he]
termination_by f.toNat
decreasing_by omega
end
section
open Go Go.RowKit
set_option maxRecDepth 100000
set_option maxHeartbeats 90000000
theorem Bw (bN:Value)(l:List aj)(id:Int)(w:World)(ew:Sl w bN l)(hl:l.length<=1000000):Calls Tryz.prog 122 #[bN,iV id] w fun e w' => ∃u,e = .returned u/\Own w.heap.size 3 w' u (kB id l)/\Ext w w':=by
 have zq:=ew.fA
 refine R.enter [] [(0,bN),(1,iV id)] Tryz.func122 O O O O<|R.reg O<|R.u 1 O<|R.nil<|R.reg O<|R.s O (s.mk O) fun b1=>?_
 refine R.u 1 O<|R.s O (s.TS 0 _ O O O O sO O) fun _=>?_
 refine R.u 2 O<|R.nil<|R.reg O<|R.u 1 O<|R.nil<|R.reg O<|R.u 1 O<|R.q (q.len' (fun _=>Wd.old ew) O Tryz.underlying43) O<|R.u 1 O<|R.nil<|R.row0 (α:=Int) 3<|R.loop (fun g_:Nat×Value×(List Int)×(List Int)=>[(5,.map (some b1)),(6,g_.2.1),(12,bN),(13,iV (l.length:Int)),(14,iV (g_.1:Int))]) (fun g_=>[ag.row 3 g_.2.1 g_.2.2.1,ag.ox b1 g_.2.2.2]) (fun g_=>[]) (fun g_=>g_.1<=l.length/\g_.2.2.1=kB id (l.take g_.1) /\ ∀z,z∈g_.2.2.2↔z=id∨z∈g_.2.2.1) (fun g_=>l.length-g_.1) (0,(nS),[],[id]) O (by exact ⟨by simp,by simp [kB],by simp⟩) (sF O) (ic [0,1] [] O) ?_
 rintro ⟨k,v,acc,S⟩ ⟨hk,HA,HS⟩
 dsimp only at *
 have hal:acc.length<=k:=by rw [HA];exact Nat.le_trans (Kz _ _) (List.length_take_le _ _)
 refine R.reg O<|?_
 by_cases h1:k<l.length
 .
  refine R.q (q.dx O O) O<|R.nil<|R.av O O<|R.reg O<|?_
  obtain ⟨x1,hx1⟩:∃z,l[k]? = some z:=⟨_,List.getElem?_eq_getElem (by omega)⟩
  refine R.q (q.idx (i:=k) (fun _=>Wd.old ew) O O dJ O hx1) O<|R.q (q.eS (ds:=im x1) (fun _=>Wd.old ew) hx1 O aM O) O<|R.s O (s.alloc bO O O) fun b2=>?_
  refine R.s O (s.st 0 _ O O O O (.inl aM) O O O O) fun _=>?_
  refine R.nil<|R.reg O<|R.u 1 O<|R.q (q.aO O eX O) O<|R.q (q.ld 0 O O au O) O<|?_
  by_cases h2:x1.From∈S
  .
   refine R.q (q.NJ 2 O O O sO (decide_eq_true h2)) O<|R.u 1 O<|R.qg O (q.aO O eX O) O<|R.qg O (q.ld 0 O O au O) O<|?_
   by_cases h3:0<x1.From
   .
    refine R.qg O (q.eL O O) O<|R.u 1 O<|R.nil<|R.av O O<|R.reg O<|R.u 1 O<|R.q (q.aO O bU O) O<|R.q (q.ld 0 O O au O) O<|R.s O (s.Ve 2 _ O O O O sO O) fun _=>?_
    refine R.nil<|R.reg O<|R.u 1 O<|R.q (q.aO O bU O) O<|R.q (q.ld 0 O O au O) O<|R.s O (s.bs (l:=([x1.ID]:List Int)) da lU O O O O O O O) fun b3=>?_
    refine R.s O (s.app 2 _ O O O (bB 0 O) nO (by simp;omega) (by simp;omega) (fun _=>rfl) O) fun v1=>?_
    refine R.u 1 O<|R.nil<|R.reg O<|R.q (q.bA (r:=((k+1:Nat):Int)) O O) O<|R.u 1 O<|R.nil<|R.back (k+1,v1,(acc++([x1.ID])),(x1.ID::S)) O (by (exact ⟨by omega,by rw [HA,Dh hx1 (HA▸HS) ‹_› ‹_›],by intro z;rw [List.mem_cons,HS,List.mem_append,List.mem_singleton];constructor <;> (intro h;rcases h with h|h|h <;> simp [h])⟩)) (by dsimp only;omega) (sF O) (ic [2,3] [] O)
   refine R.qg O (q.eo O O) O<|R.u 1 O<|R.nil<|R.aA O O<|R.reg O<|R.q (q.bA (r:=((k+1:Nat):Int)) O O) O<|R.u 1 O<|R.nil<|R.back (k+1,v,acc,S) O (by (exact ⟨by omega,by rw [HA,t6 hx1 (HA▸HS) (by (intro hh;exact absurd hh.2 ‹_›))],HS⟩)) (by dsimp only;omega) (sF O) (ic [1,2] [] O)
  refine R.q (q.NJ 2 O O O sO (decide_eq_false h2)) O<|R.u 5 O<|R.nil<|R.aA O O<|R.reg O<|R.q (q.bA (r:=((k+1:Nat):Int)) O O) O<|R.u 1 O<|R.nil<|R.back (k+1,v,acc,S) O (by (exact ⟨by omega,by rw [HA,t6 hx1 (HA▸HS) (by (intro hh;exact absurd hh.1 ‹_›))],HS⟩)) (by dsimp only;omega) (sF O) (ic [1,2] [] O)
 exact R.q (q.cU O O) O<|R.nil<|R.aA O O<|R.reg O<|R.u 2 O<|R.nil<|R.ro 0 O Tryz.results122 O O (by (rw [HA,List.take_of_length_le (by omega)]))
end
section
open Go.RowKit
structure Made (y x:aj):Prop where
  thing:y.aE=x.aE
  has:ji y.Rights x.Rights=true
  dL:y.aQ=0∨x.aQ=y.aQ
  gp:y.ID=x.From
theorem MG {y x:aj}(h1:(derived y x.ID x.Rights x.aQ).2=0)(h2:(derived y x.ID x.Rights x.aQ).1=x):Made y x:=by
 unfold derived at h1 h2
 split at h1;· simp at h1
 split at h1;· simp at h1
 split at h1;· simp at h1
 split at h1;· simp at h1
 split at h1;· simp at h1
 rename_i a b c d e
 rw [if_neg a,if_neg b,if_neg c,if_neg d,if_neg e] at h2
 have ht:=congrArg aj.aE h2
 have hb:=congrArg aj.aQ h2
 have hf:=congrArg aj.From h2
 simp only [] at ht hb hf
 refine ⟨ht,by simpa using d,?_,hf⟩
 by_cases h0:x.aQ=0
 .rw [if_pos h0] at hb;exact .inl (by omega)
 .
  by_cases hy:y.aQ=0
  .exact .inl hy
  .
   right
   by_cases he:x.aQ=y.aQ
   .exact he
   .exact absurd ⟨h0,hy,he⟩ e
theorem E4 {y x:aj}(w:Q5 x)(h:Made y x):derived y x.ID x.Rights x.aQ=(x,0):=by
 have:=w.Kx;have:=w.Ky;have:=w.Qh;have:=w.Qi
 unfold derived
 rw [if_neg (by rw [gQ w.Kx w.Ky];omega),if_neg (by omega),if_neg (by omega),if_neg (by rw [h.has];simp),if_neg (by rintro ⟨h1,h2,h3⟩;rcases h.dL with h4|h4 <;> omega)]
 have hb:(if x.aQ=0 then y.aQ else x.aQ)=x.aQ:=by
  split
  .rcases h.dL with h4|h4 <;> omega
  .rfl
 rw [hb,h.thing,h.gp]
theorem KC:∀a b c:Fin 8,ji ((a:Nat):Int) ((b:Nat):Int)=true->ji ((b:Nat):Int) ((c:Nat):Int)=true->ji ((a:Nat):Int) ((c:Nat):Int)=true:=by decide
theorem Ub {a b c:Int}(a0:0<=a)(a7:a<=7)(b0:0<=b)(b7:b<=7)(c0:0<=c)(c7:c<=7)(h:ji a b=true)(k:ji b c=true):ji a c=true:=by
 obtain ⟨x,rfl⟩:=E0 a0 a7;obtain ⟨y,rfl⟩:=E0 b0 b7;obtain ⟨z,rfl⟩:=E0 c0 c7;exact KC x y z h k
structure t7 (l:List aj):Prop where
  ok:∀x∈l,cr x=0
  rise:l.Pairwise (fun x y=>x.ID<y.ID)
  made:∀x∈l,x.From≠0 -> ∃y∈l,Made y x
theorem cR.fault {l:List aj}(h:cR l){x:aj}(hx:x∈l):cr x=0:=by
 obtain ⟨j,hj⟩:=List.mem_iff_getElem?.1 hx
 rcases kA x with h1|h1
 .exact h1
 .have:=jj hj (by omega);rw [h.steps j (List.getElem?_eq_some_iff.1 hj).1] at this;omega
theorem cR.is {l:List aj}(h:cR l):t7 l:=by
 refine ⟨fun x hx=>h.fault hx,?_,fun x hx h0=>?_⟩
 .
  rw [List.pairwise_iff_getElem]
  intro i j hi hj hij
  exact h.rise j i hij (List.getElem?_eq_getElem hj) (List.getElem?_eq_getElem hi)
 .
  obtain ⟨k,hk⟩:=List.mem_iff_getElem?.1 hx
  obtain ⟨j,y,hj,hy,_,h1,h2⟩:=xD hk (h.steps k (List.getElem?_eq_some_iff.1 hk).1) h0
  exact ⟨y,List.mem_of_getElem? hy,MG h1 h2⟩
theorem qk {l:List aj}(h:l.Pairwise (fun x y=>x.ID<y.ID)){i j:Nat}{x y:aj}(hi:l[i]? = some x)(hj:l[j]? = some y)(hij:i<j):x.ID<y.ID:=by
 rw [List.pairwise_iff_getElem] at h
 obtain ⟨h1,rfl⟩:=List.getElem?_eq_some_iff.1 hi
 obtain ⟨h2,rfl⟩:=List.getElem?_eq_some_iff.1 hj
 exact h i j h1 h2 hij
theorem t7.ok' {l:List aj}(h:t7 l):cR l:=by
 refine qi fun k hk=>?_
 have hx:l[k]? = some l[k]:=List.getElem?_eq_getElem hk
 have hm:l[k]∈l:=List.getElem_mem hk
 have h0:=h.ok _ hm
 have w:=Bt h0
 have hsh:¬ 0<k ∨ ∃y,l[k-1]? = some y/\y.ID<(l[k]).ID:=by
  by_cases h1:0<k
  .
   have hy:l[k-1]? = some (l[k-1]'(by omega)):=List.getElem?_eq_getElem (by omega)
   exact .inr ⟨_,hy,qk h.rise hy hx (by omega)⟩
  .exact .inl h1
 by_cases hf:(l[k]).From=0
 .exact xA hx h0 hsh hf
 .
  obtain ⟨y,hy,hmd⟩:=h.made _ hm hf
  obtain ⟨j,hj⟩:=List.mem_iff_getElem?.1 hy
  have hjl:j<l.length:=(List.getElem?_eq_some_iff.1 hj).1
  have hjk:j<k:=by
   rcases Nat.lt_trichotomy j k with h1|h1|h1
   .exact h1
   .
    subst h1;rw [hj] at hx;injection hx with hx
    have:=hmd.gp;have:=w.Qj;rw [hx] at *;omega
   .have:=qk h.rise hx hj h1;have:=hmd.gp;have:=w.Qj;omega
  have hfw:cG (l.take k) (l[k]).From=(j:Int):=by
   have hl:j<(l.take k).length:=by rw [List.length_take];omega
   have hge:(l.take k)[j]=y:=by
    rw [List.getElem_take];exact (List.getElem?_eq_some_iff.1 hj).2
   refine Kw hl (by rw [hge];exact hmd.gp) (fun i z hi hz=>?_)
   have hz':l[i]? = some z:=by rw [List.getElem?_take,if_pos (by omega)] at hz;exact hz
   have:=qk h.rise hz' hj hi
   have:=hmd.gp;omega
  rw [jk hx h0 hsh hf hfw hjk hj]
  have:=E4 w hmd
  rw [this];simp
theorem zH {l:List aj}(h:cR l){a b:Int}(ha:0<=cG l a)(hb:0<=cG l b):b∈kB a l↔a∈above l b:=by
 rw [MF h]
 have ha0:=h.uK ha
 have hb0:=h.uK hb
 unfold beneath vk above
 rw [<- Di h ha _ hb0.2.2.1]
 simp only [List.mem_map,List.mem_filter,Q7,Bool.and_eq_true,decide_eq_true_eq]
 obtain ⟨y,_,hy2,hy3,hy4⟩:=oc hb
 constructor
 .
  rintro ⟨x,⟨hx,hu,_⟩,hid⟩
  have:x=y:=h.inj hx hy3 (by omega)
  subst this;rw [hy4];exact hu
 .
  intro hu
  exact ⟨y,⟨hy3,by rw [<- hy4];exact hu,ha0.1⟩,hy2⟩
theorem gK {l:List aj}{id:Int}{x:aj}:x∈without l id ↔ ∃y∈l,y.ID≠id/\x=mM id (eO l id) y:=by
 unfold without E1
 simp only [List.mem_map,List.mem_filter,decide_eq_true_eq]
 constructor
 .rintro ⟨y,⟨h1,h2⟩,rfl⟩;exact ⟨y,h1,h2,rfl⟩
 .rintro ⟨y,h1,h2,rfl⟩;exact ⟨y,⟨h1,h2⟩,rfl⟩
theorem kC {id f:Int}(x:aj):(mM id f x).ID=x.ID/\(mM id f x).aE=x.aE/\(mM id f x).Rights=x.Rights/\(mM id f x).aQ=x.aQ:=by unfold mM;split <;> exact ⟨rfl,rfl,rfl,rfl⟩
theorem t8 {id f:Int}(x:aj):(mM id f x).From=if x.From=id then f else x.From:=by unfold mM;split <;> rfl
theorem MH {x:aj}(h:cr x=0){f:Int}(h0:0<=f)(h1:f<x.ID):cr { x with From:=f }=0:=by
 have w:=Bt h
 rcases gq { x with From:=f } with ⟨h2,h3⟩ | ⟨h2,_⟩
 .
  have:=w.id1;have:=w.Ol;have:=w.Qf;have:=w.Qg;have:=w.Qh;have:=w.Qi;have:=w.Kx;have:=w.Ky
  simp only [] at h3;omega
 .exact h2
theorem MI {id f:Int}{y x:aj}(h:Made y x)(hf:x.From≠id):Made (mM id f y) (mM id f x):=by
 have hy:=kC (id:=id) (f:=f) y
 have hx:=kC (id:=id) (f:=f) x
 refine ⟨by rw [hy.2.1,hx.2.1];exact h.thing,by rw [hy.2.2.1,hx.2.2.1];exact h.has,by rw [hy.2.2.2,hx.2.2.2];exact h.dL,?_⟩
 rw [hy.1,t8,if_neg hf];exact h.gp
theorem cR.wo {l:List aj}(h:cR l)(id:Int):cR (without l id):=by
 have hi:=h.is
 refine t7.ok' ⟨fun x hx=>?_,?_,fun x hx h0=>?_⟩
 .
  obtain ⟨y,hy,hne,rfl⟩:=gK.1 hx
  have Uc:=hi.ok y hy
  unfold mM
  split
  .
   rename_i he
   have w:=Bt Uc
   have:=w.Q6;have:=w.Qj
   have hid:0<=eO l id/\(0<eO l id->eO l id<id):=by
    rcases Int.lt_or_le (cG l id) 0 with h1|h1
    .rw [xE h1];omega
    .have:=h.uK h1;omega
   exact MH Uc hid.1 (by omega)
  .exact Uc
 .
  unfold without E1
  rw [List.pairwise_map]
  refine (hi.rise.filter _).imp ?_
  intro a b hab
  rw [(kC a).1,(kC b).1];exact hab
 .
  obtain ⟨y,hy,hne,rfl⟩:=gK.1 hx
  rw [t8] at h0
  by_cases he:y.From=id
  .
   rw [if_pos he] at h0
   have hid:0<=cG l id:=by
    rcases Int.lt_or_le (cG l id) 0 with h1|h1
    .rw [xE h1] at h0;exact absurd rfl h0
    .exact h1
   obtain ⟨p,_,hp2,hp3,Ud⟩:=oc hid
   have VP:=h.uK hid
   obtain ⟨z,hz,SQ⟩:=hi.made p hp3 (by rw [<- Ud];exact h0)
   have hy0:y.From≠0:=by rw [he];omega
   obtain ⟨p',hp',hpy⟩:=hi.made y hy hy0
   have:p'=p:=h.inj hp' hp3 (by rw [hpy.gp,he,hp2])
   subst this
   have Ue:z.ID≠id:=by have:=SQ.gp;rw [<- Ud] at this;omega
   refine ⟨mM id (eO l id) z,gK.2 ⟨z,hz,Ue,rfl⟩,?_⟩
   have wz:=h.mem hz;have wp:=h.mem hp3;have wy:=h.mem hy
   have hz':=kC (id:=id) (f:=eO l id) z
   have hy':=kC (id:=id) (f:=eO l id) y
   refine ⟨by rw [hz'.2.1,hy'.2.1,SQ.thing,hpy.thing],by rw [hz'.2.2.1,hy'.2.2.1];exact Ub wz.Kx wz.Ky wp.Kx wp.Ky wy.Kx wy.Ky SQ.has hpy.has,?_,?_⟩
   .
    rw [hz'.2.2.2,hy'.2.2.2]
    rcases SQ.dL with h1|h1
    .exact .inl h1
    .
     rcases hpy.dL with h2|h2
     .exact .inl (by omega)
     .exact .inr (by omega)
   .rw [hz'.1,t8,if_pos he,SQ.gp,Ud]
  .
   rw [if_neg he] at h0
   obtain ⟨p,hp,hpy⟩:=hi.made y hy h0
   exact ⟨mM id (eO l id) p,gK.2 ⟨p,hp,by rw [hpy.gp];exact he,rfl⟩,MI hpy he⟩
end
end Go.Proofs.YtkbhcbipadkcaaaGreatDoor
