import Derived.Test.YtkbhcbipadkcaaaGreatDoorTF17
namespace Go.Proofs.YtkbhcbipadkcaaaGreatDoor
set_option linter.unusedVariables false
set_option linter.unusedSimpArgs false
set_option maxRecDepth 100000
set_option maxHeartbeats 90000000
section
open Go Go.RowKit
theorem yI (bP:Value)(l:List ak)(w:World)(ez:Sl w bP l):Calls Tryz.prog 152 #[bP] w fun e w'=>e = .returned (dh (ef l))/\Ext w w':=by
 have zq:=ez.gV
 refine R.enter [] [(0,bP)] Tryz.func152 O O O O<|R.reg O<|R.u 1 O<|R.nil<|R.reg O<|R.u 1 O<|R.q (q.len' (fun _=>Wd.old ez) O Tryz.underlying43) O<|R.u 1 O<|R.nil<|R.loop (fun k:Nat=>[(0,bP),(8,bP),(9,iV (l.length:Int)),(10,iV (k:Int))]) (fun k:Nat=>[]) (fun k:Nat=>[]) (fun k:Nat=>k<=l.length /\ ∀j,j<k->hG l j=0) (fun k:Nat=>l.length-k) 0 O (by exact ⟨by omega,fun j hj=>absurd hj (Nat.not_lt_zero _)⟩) (sF O) (iz [] [] O) ?_
 rintro k ⟨hk,HA⟩
 refine R.reg O<|?_
 by_cases h1:k<l.length
 .
  refine R.q (q.dD O O) O<|R.nil<|R.az O O<|R.reg O<|R.u 1 O<|?_
  obtain ⟨x1,hx1⟩:∃z,l[k]? = some z:=⟨_,List.getElem?_eq_getElem (by omega)⟩
  have UU:=kz x1
  refine R.q (q.idx (i:=k) (fun _=>Wd.old ez) O O eu O hx1) O<|R.q (q.gk (ds:=jN x1) (fun _=>Wd.old ez) hx1 O aN O) O<|R.s O (s.alloc bR O O) fun b1=>?_
  refine R.u 1 O<|R.s O (s.st 0 _ O O O O (.inl aN) O O O O) fun _=>?_
  refine R.nil<|R.reg O<|R.q (q.cW 0 O O aN) O<|R.c (q.call PE O O (fun w hw=>(yH x1 w ))) O<|R.u 1 O<|R.nil ?_
  refine R.reg O<|R.u 1 O<|?_
  by_cases h2:cw x1=0
  .
   refine R.q (q.dq O O Tryz.underlying38) O<|R.nil<|R.aC O O<|R.cut 2 (fun _u:Unit=>[(0,bP),(3,iV (k:Int)),(4,.pointer (some ⟨b1,0,none⟩)),(8,bP),(9,iV (l.length:Int)),(10,iV (k:Int))]) (fun _u:Unit=>[ag.box b1 (jN x1) 127]) (fun _u:Unit=>[]) (fun _u:Unit=>Hid (¬ 0<k ∨ ∃y,l[k-1]? = some y/\y.ID<x1.ID)) O O O ?_ ?_
   .
    by_cases h3:0<k
    .
     obtain ⟨x2,hx2⟩:∃z,l[(k-1)]? = some z:=⟨_,List.getElem?_eq_getElem (by omega)⟩
     have V5:=kz x2
     by_cases h4:x2.ID<x1.ID
     .
      exact R.fa O mixed (by kernel_rfl)<|Q.u 1 O<|Q.q (q.eM O O) O<|Q.u 1 O<|Q.qg O (q.aP O bX O) O<|Q.qg O (q.ld 0 O O au O) O<|Q.u 2 O<|Q.qg O (q.lU (r:=((k-1:Nat):Int)) O O) O<|Q.qg O (q.idx (i:=(k-1)) (fun _=>Wd.old ez) O O eu O hx2) O<|Q.qg O (q.nD (j':=0) (fun _=>Wd.old ez) hx2 O bX O) O<|Q.qg O (q.lw (fun _=>Wd.old ez) hx2 O au O) O<|Q.qg O (q.T3 O O) O<|Q.u 1 O<|Q.nil<|R.aC O O<|R.meet () O (by (exact .inr ⟨_,hx2,by assumption⟩)) (sF O) (iz [0] [] O)
     exact R.fa O mixed (by kernel_rfl)<|Q.u 1 O<|Q.q (q.eM O O) O<|Q.u 1 O<|Q.qg O (q.aP O bX O) O<|Q.qg O (q.ld 0 O O au O) O<|Q.u 2 O<|Q.qg O (q.lU (r:=((k-1:Nat):Int)) O O) O<|Q.qg O (q.idx (i:=(k-1)) (fun _=>Wd.old ez) O O eu O hx2) O<|Q.qg O (q.nD (j':=0) (fun _=>Wd.old ez) hx2 O bX O) O<|Q.qg O (q.lw (fun _=>Wd.old ez) hx2 O au O) O<|Q.qg O (q.T2 O O) O<|Q.u 1 O<|Q.nil<|R.az O O<|R.reg O<|R.q (q.iface O br) O<|R.u 1 O<|R.nil<|R.rv O Tryz.results152 O (dj (by decide) (by (exact (gP (by omega) (m4 hx1 (by omega) ‹_› hx2 ‹_›) (by decide) HA))))
    exact R.fa O mixed (by kernel_rfl)<|Q.u 1 O<|Q.q (q.ey O O) O<|Q.u 11 O<|Q.nil<|R.aC O O<|R.meet () O (by (exact .inl ‹_›)) (sF O) (iz [0] [] O)
   rintro _u hS
   refine R.reg O<|R.q (q.aP O eZ O) O<|R.q (q.ld 0 O O au O) O<|?_
   by_cases h5:x1.From=0
   .
    refine R.q (q.fJ O O) O<|R.nil<|R.az O O<|R.reg O<|R.q (q.bC (r:=((k+1:Nat):Int)) O O) O<|R.u 1 O<|R.nil<|R.back (k+1) O (by (exact ⟨by omega,r8 HA (xy hx1 (by omega) hS.out ‹_›)⟩)) (by omega) (sF O) (iz [] [] O)
   refine R.q (q.eX O O) O<|R.nil<|R.aC O O ?_
   rcases ft (l.take k) x1.From with ⟨gS,Ey⟩ | ⟨Dq,lW,gS,vh,S4⟩
   .
    exact R.fa O mixed (by kernel_rfl)<|Q.u 2 O<|Q.q (q.kG (i:=k) (fun _=>Wd.old ez) O O Tryz.underlying43 Ay O (by omega)) O<|Q.q (q.aP O eZ O) O<|Q.q (q.ld 0 O O au O) O<|Q.c (q.call lJ O O (fun w hw=>(cv (congrArg (Value.int .i64) gS) (iC _ (l.take k) x1.From w ((fun w hw=>Sl.to ((fun _=>Wd.old ez) w hw) (by omega)) w hw) )))) O<|Q.u 1 O<|Q.nil<|R.reg O<|R.u 1 O<|R.q (q.lss (b:=true) O O (by decide)) O<|R.nil<|R.az O O<|R.reg O<|R.q (q.iface O br) O<|R.u 1 O<|R.nil<|R.rv O Tryz.results152 O (dj (by decide) (by (exact (gP (by omega) (xA hx1 (by omega) hS.out ‹_› gS) (by decide) HA))))
   refine R.fa O mixed (by kernel_rfl)<|Q.u 2 O<|Q.q (q.kG (i:=k) (fun _=>Wd.old ez) O O Tryz.underlying43 Ay O (by omega)) O<|Q.q (q.aP O eZ O) O<|Q.q (q.ld 0 O O au O) O<|Q.c (q.call lJ O O (fun w hw=>(cv (congrArg (Value.int .i64) gS) (iC _ (l.take k) x1.From w ((fun w hw=>Sl.to ((fun _=>Wd.old ez) w hw) (by omega)) w hw) )))) O<|Q.u 1 O<|Q.nil<|R.reg O<|R.u 1 O<|R.q (q.cU O O) O<|R.nil<|R.aC O O ?_
   have rx:Dq<k:=by simp at lW;omega
   obtain ⟨x3,hx3⟩:∃z,l[Dq]? = some z:=⟨_,List.getElem?_eq_getElem (by omega)⟩
   have wx:=s8 hx3 (HA Dq rx)
   have UU:=wx.KG;have V5:=wx.KH
   have wd:=rH x3 x1.ID x1.Rights x1.aQ
   refine R.fP (fuel:=17) [0] O O mixed O<|D.q (i:=0) O (aD [0] [] O) O (q.mv O) O<|D.q (i:=1) O (aD [0] [] O) O (q.mv O) O<|D.q (i:=2) O (aD [0] [] O) O (q.idx (i:=Dq) (fun _=>Wd.old ez) O O eu O hx3) O<|D.q (i:=3) O (aD [0] [] O) O (q.gk (ds:=jN x3) (fun _=>Wd.old ez) hx3 O aN O) O<|D.q (i:=4) O (aD [0] [] O) O (q.aP O bX O) O<|D.q (i:=5) O (aD [0] [] O) O (q.ld 0 O O au O) O<|D.q (i:=6) O (aD [0] [] O) O (q.aP O jR O) O<|D.q (i:=7) O (aD [0] [] O) O (q.ld 0 O O au O) O<|D.q (i:=8) O (aD [0] [] O) O (q.aP O iU O) O<|D.q (i:=9) O (aD [0] [] O) O (q.ld 0 O O au O) O<|D.two (i:=10) (j:=14) O O ?_ ?_
   .
    refine Do.s (s.c (q.call wB O O (fun w hw=>(mB x3 x1.ID x1.Rights x1.aQ w (by omega)))) O) (fun _=>(aD [0] [] O)) O fun _=>?_
    refine D.q (i:=11) O (aD [0] [] O) O (q.mv O) O<|D.q (i:=12) O (aD [0] [] O) O (q.ext O O) O<|D.q (i:=13) O (aD [0] [] O) O (q.ext O O) O<|D.one (i:=14) O<|Do.s (s.alloc bR O O) (fun _=>(aD [1] [] O)) O fun b2=>?_
    refine D.one (i:=15) O<|Do.s (s.st 0 _ O O O O (.inl aN) O O O O) (fun _=>(aD [1] [] O)) O fun _=>?_
    refine D.q (i:=16) O (aD [1] [] O) O (q.as O) O<|D.done<|R.reg O<|R.u 1 O<|?_
    by_cases h6:(derived x3 x1.ID x1.Rights x1.aQ).2=0
    .
     refine R.q (q.dq O O Tryz.underlying38) O<|R.nil<|R.aC O O<|R.reg O<|R.q (q.cW 0 O O aN) O<|R.q (q.cW 1 O O aN) O<|?_
     by_cases h7:(derived x3 x1.ID x1.Rights x1.aQ).1=x1
     .
      refine R.q (q.FZ (x:=(derived x3 x1.ID x1.Rights x1.aQ).1) (y:=x1) AJ O O h7) O<|R.nil<|R.aC O O<|R.reg O<|R.q (q.bC (r:=((k+1:Nat):Int)) O O) O<|R.u 1 O<|R.nil<|R.back (k+1) O (by (exact ⟨by omega,r8 HA ((jg hx1 (by omega) hS.out ‹_› gS rx hx3).trans ((if_neg (by omega)).trans (if_neg (fun h=>h ‹_›))))⟩)) (by omega) (sF O) (iz [] [] O)
     exact R.q (q.F3 (x:=(derived x3 x1.ID x1.Rights x1.aQ).1) (y:=x1) AJ O O h7) O<|R.nil<|R.az O O<|R.reg O<|R.q (q.iface O br) O<|R.u 1 O<|R.nil<|R.rv O Tryz.results152 O (dj (by decide) (by (exact (gP (by omega) ((jg hx1 (by omega) hS.out ‹_› gS rx hx3).trans ((if_neg (by omega)).trans (if_pos ‹_›))) (by decide) HA))))
    exact R.q (q.dW O O Tryz.underlying38) O<|R.nil<|R.az O O<|R.reg O<|R.u 2 O<|R.nil<|R.rv O Tryz.results152 O (rE (by (exact (gP (by omega) ((jg hx1 (by omega) hS.out ‹_› gS rx hx3).trans (if_pos (by omega))) (by omega) HA).symm)))
   refine Do.s (s.alloc bR O O) (fun _=>(aD [1] [] O)) O fun b3=>?_
   refine D.one (i:=10) O<|Do.s (s.c (q.call wB O O (fun w hw=>(mB x3 x1.ID x1.Rights x1.aQ w (by omega)))) O) (fun _=>(aD [1] [] O)) O fun _=>?_
   refine D.q (i:=11) O (aD [1] [] O) O (q.mv O) O<|D.q (i:=12) O (aD [1] [] O) O (q.ext O O) O<|D.q (i:=13) O (aD [1] [] O) O (q.ext O O) O<|D.one (i:=15) O<|Do.s (s.st 0 _ O O O O (.inl aN) O O O O) (fun _=>(aD [1] [] O)) O fun _=>?_
   refine D.q (i:=16) O (aD [1] [] O) O (q.as O) O<|D.done<|R.reg O<|R.u 1 O<|?_
   by_cases h8:(derived x3 x1.ID x1.Rights x1.aQ).2=0
   .
    refine R.q (q.dq O O Tryz.underlying38) O<|R.nil<|R.aC O O<|R.reg O<|R.q (q.cW 0 O O aN) O<|R.q (q.cW 1 O O aN) O<|?_
    by_cases h9:(derived x3 x1.ID x1.Rights x1.aQ).1=x1
    .
     refine R.q (q.FZ (x:=(derived x3 x1.ID x1.Rights x1.aQ).1) (y:=x1) AJ O O h9) O<|R.nil<|R.aC O O<|R.reg O<|R.q (q.bC (r:=((k+1:Nat):Int)) O O) O<|R.u 1 O<|R.nil<|R.back (k+1) O (by (exact ⟨by omega,r8 HA ((jg hx1 (by omega) hS.out ‹_› gS rx hx3).trans ((if_neg (by omega)).trans (if_neg (fun h=>h ‹_›))))⟩)) (by omega) (sF O) (iz [] [] O)
    exact R.q (q.F3 (x:=(derived x3 x1.ID x1.Rights x1.aQ).1) (y:=x1) AJ O O h9) O<|R.nil<|R.az O O<|R.reg O<|R.q (q.iface O br) O<|R.u 1 O<|R.nil<|R.rv O Tryz.results152 O (dj (by decide) (by (exact (gP (by omega) ((jg hx1 (by omega) hS.out ‹_› gS rx hx3).trans ((if_neg (by omega)).trans (if_pos ‹_›))) (by decide) HA))))
   exact R.q (q.dW O O Tryz.underlying38) O<|R.nil<|R.az O O<|R.reg O<|R.u 2 O<|R.nil<|R.rv O Tryz.results152 O (rE (by (exact (gP (by omega) ((jg hx1 (by omega) hS.out ‹_› gS rx hx3).trans (if_pos (by omega))) (by omega) HA).symm)))
  exact R.q (q.dW O O Tryz.underlying38) O<|R.nil<|R.az O O<|R.reg O<|R.u 2 O<|R.nil<|R.rv O Tryz.results152 O (rE (by (have e:cw x1=1:=(by omega);rw [e];exact (gP (by omega) (jf hx1 (by omega)) (by decide) HA).symm)))
 exact R.q (q.cU O O) O<|R.nil<|R.aC O O<|R.reg O<|R.u 1 O<|R.nil<|R.rv O Tryz.results152 O (iJ (by (exact (qe (fun j hj=>HA j (by omega))))))
theorem qf (bP:Value)(l:List ak)(id:Int)(w:World)(ez:Sl w bP l)(hl:l.length<=1000000):Calls Tryz.prog 54 #[bP,iV id] w fun e w' => ∃u,e = .returned u/\Own w.heap.size 127 w' u (without l id)/\Ext w w':=by
 have zq:=ez.gV
 refine R.enter [] [(0,bP),(1,iV id)] Tryz.func54 O O O O<|R.reg O<|R.u 1 O<|R.nil<|R.reg O<|R.u 1 O<|R.nil<|R.reg O<|R.u 1 O<|R.nil<|R.reg O<|R.u 2 O<|?_
 rcases ft l id with ⟨gS,Ey⟩ | ⟨Dq,lW,gS,vh,S4⟩
 .
  refine R.c (q.call lJ O O (fun w hw=>(cv (congrArg (Value.int .i64) gS) (iC _ l id w ((fun _=>Wd.old ez) w hw) )))) O<|R.u 1 O<|R.nil ?_
  refine R.reg O<|R.u 1 O<|R.q (q.geq (b:=false) O O (by decide)) O<|R.nil<|R.aC O O<|R.reg O<|R.u 1 O<|R.q (q.len' (fun _=>Wd.old ez) O Tryz.underlying43) O<|R.u 1 O<|R.nil<|R.row0 (α:=ak) 127<|R.loop (fun g_:Nat×Value×(List ak)=>[(1,iV id),(5,g_.2.1),(6,iV 0),(20,bP),(21,iV (l.length:Int)),(22,iV (g_.1:Int))]) (fun g_=>[ag.row 127 g_.2.1 g_.2.2]) (fun g_=>[]) (fun g_=>g_.1<=l.length/\g_.2.2=Fe id 0 (l.take g_.1)) (fun g_=>l.length-g_.1) (0,(nS),[]) O (by exact ⟨by simp,by simp [Fe,S3]⟩) (sF O) (iz [0] [] O) ?_
  rintro ⟨k,v,acc⟩ ⟨hk,HA⟩
  dsimp only at *
  have hal:acc.length<=k:=by rw [HA];exact Nat.le_trans (Bw _ _ _) (List.length_take_le _ _)
  refine R.reg O<|?_
  by_cases h1:k<l.length
  .
   refine R.q (q.dD O O) O<|R.nil<|R.az O O<|R.reg O<|?_
   obtain ⟨x1,hx1⟩:∃z,l[k]? = some z:=⟨_,List.getElem?_eq_getElem (by omega)⟩
   refine R.q (q.idx (i:=k) (fun _=>Wd.old ez) O O eu O hx1) O<|R.q (q.gk (ds:=jN x1) (fun _=>Wd.old ez) hx1 O aN O) O<|R.s O (s.alloc bR O O) fun b1=>?_
   refine R.s O (s.st 0 _ O O O O (.inl aN) O O O O) fun _=>?_
   refine R.nil<|R.reg O<|R.q (q.aP O bX O) O<|R.q (q.ld 0 O O au O) O<|R.u 1 O<|?_
   by_cases h2:x1.ID=id
   .
    refine R.q (q.fJ O O) O<|R.nil<|R.az O O<|R.reg O<|R.q (q.bC (r:=((k+1:Nat):Int)) O O) O<|R.u 1 O<|R.nil<|R.back (k+1,v,acc) O (by (exact ⟨by omega,by rw [HA,GF hx1 ‹_›]⟩)) (by dsimp only;omega) (sF O) (iz [1] [] O)
   refine R.q (q.eX O O) O<|R.nil<|R.aC O O<|R.reg O<|R.q (q.aP O eZ O) O<|R.q (q.ld 0 O O au O) O<|R.u 1 O<|?_
   by_cases h3:x1.From=id
   .
    refine R.q (q.fJ O O) O<|R.nil<|R.az O O<|R.reg O<|R.u 1 O<|R.q (q.aP O eZ O) O<|R.s O (s.st 0 _ O O O O (.inr ⟨au,rfl⟩) O O O O) fun _=>?_
    refine R.nil<|R.reg O<|R.u 1 O<|R.q (q.cW 0 O O aN) O<|R.s O (s.bs (l:=([(⟨x1.ID,x1.aF,x1.Rights,x1.aQ,0⟩:ak)]:List ak)) eu bR O O O O O O O) fun b2=>?_
    refine R.s O (s.app 2 _ O O O (bE 0 O) ln (by simp;omega) (by simp;omega) (fun _=>rfl) O) fun v1=>?_
    refine R.u 1 O<|R.nil<|R.reg O<|R.q (q.bC (r:=((k+1:Nat):Int)) O O) O<|R.u 1 O<|R.nil<|R.back (k+1,v1,(acc++([(⟨x1.ID,x1.aF,x1.Rights,x1.aQ,0⟩:ak)]))) O (by (exact ⟨by omega,by rw [HA,s9 hx1 ‹_›,Dp ‹_›]⟩)) (by dsimp only;omega) (sF O) (iz [2] [] O)
   refine R.q (q.eX O O) O<|R.nil<|R.aC O O<|R.reg O<|R.u 1 O<|R.q (q.cW 0 O O aN) O<|R.s O (s.bs (l:=([x1]:List ak)) eu bR O O O O O O O) fun b3=>?_
   refine R.s O (s.app 2 _ O O O (bE 0 O) ln (by simp;omega) (by simp;omega) (fun _=>rfl) O) fun v2=>?_
   refine R.u 1 O<|R.nil<|R.reg O<|R.q (q.bC (r:=((k+1:Nat):Int)) O O) O<|R.u 1 O<|R.nil<|R.back (k+1,v2,(acc++([x1]))) O (by (exact ⟨by omega,by rw [HA,s9 hx1 ‹_›,zG ‹_›]⟩)) (by dsimp only;omega) (sF O) (iz [2] [] O)
  exact R.q (q.cU O O) O<|R.nil<|R.aC O O<|R.reg O<|R.u 2 O<|R.nil<|R.ro 0 O Tryz.results54 O O (by (rw [HA,List.take_of_length_le (by omega)];unfold without;rw [uM gS]))
 refine R.c (q.call lJ O O (fun w hw=>(cv (congrArg (Value.int .i64) gS) (iC _ l id w ((fun _=>Wd.old ez) w hw) )))) O<|R.u 1 O<|R.nil ?_
 refine R.reg O<|R.u 1 O<|R.q (q.He O O) O<|R.nil<|R.az O O<|R.reg O<|R.u 2 O<|R.q (q.idx (i:=Dq) (fun _=>Wd.old ez) O O eu O (List.getElem?_eq_getElem lW)) O<|R.q (q.nD (j':=4) (fun _=>Wd.old ez) (List.getElem?_eq_getElem lW) O eZ O) O<|R.q (q.lw (fun _=>Wd.old ez) (List.getElem?_eq_getElem lW) O au O) O<|R.u 1 O<|R.nil ?_
 refine R.reg O<|R.u 1 O<|R.q (q.len' (fun _=>Wd.old ez) O Tryz.underlying43) O<|R.u 1 O<|R.nil<|R.row0 (α:=ak) 127<|R.loop (fun g_:Nat×Value×(List ak)=>[(1,iV id),(5,g_.2.1),(6,iV (l[Dq]).From),(20,bP),(21,iV (l.length:Int)),(22,iV (g_.1:Int))]) (fun g_=>[ag.row 127 g_.2.1 g_.2.2]) (fun g_=>[]) (fun g_=>g_.1<=l.length/\g_.2.2=Fe id (l[Dq]).From (l.take g_.1)) (fun g_=>l.length-g_.1) (0,(nS),[]) O (by exact ⟨by simp,by simp [Fe,S3]⟩) (sF O) (iz [0] [] O) ?_
 rintro ⟨k,v,acc⟩ ⟨hk,HA⟩
 dsimp only at *
 have hal:acc.length<=k:=by rw [HA];exact Nat.le_trans (Bw _ _ _) (List.length_take_le _ _)
 refine R.reg O<|?_
 by_cases h4:k<l.length
 .
  refine R.q (q.dD O O) O<|R.nil<|R.az O O<|R.reg O<|?_
  obtain ⟨x2,hx2⟩:∃z,l[k]? = some z:=⟨_,List.getElem?_eq_getElem (by omega)⟩
  refine R.q (q.idx (i:=k) (fun _=>Wd.old ez) O O eu O hx2) O<|R.q (q.gk (ds:=jN x2) (fun _=>Wd.old ez) hx2 O aN O) O<|R.s O (s.alloc bR O O) fun b4=>?_
  refine R.s O (s.st 0 _ O O O O (.inl aN) O O O O) fun _=>?_
  refine R.nil<|R.reg O<|R.q (q.aP O bX O) O<|R.q (q.ld 0 O O au O) O<|R.u 1 O<|?_
  by_cases h5:x2.ID=id
  .
   refine R.q (q.fJ O O) O<|R.nil<|R.az O O<|R.reg O<|R.q (q.bC (r:=((k+1:Nat):Int)) O O) O<|R.u 1 O<|R.nil<|R.back (k+1,v,acc) O (by (exact ⟨by omega,by rw [HA,GF hx2 ‹_›]⟩)) (by dsimp only;omega) (sF O) (iz [1] [] O)
  refine R.q (q.eX O O) O<|R.nil<|R.aC O O<|R.reg O<|R.q (q.aP O eZ O) O<|R.q (q.ld 0 O O au O) O<|R.u 1 O<|?_
  by_cases h6:x2.From=id
  .
   refine R.q (q.fJ O O) O<|R.nil<|R.az O O<|R.reg O<|R.u 1 O<|R.q (q.aP O eZ O) O<|R.s O (s.st 0 _ O O O O (.inr ⟨au,rfl⟩) O O O O) fun _=>?_
   refine R.nil<|R.reg O<|R.u 1 O<|R.q (q.cW 0 O O aN) O<|R.s O (s.bs (l:=([(⟨x2.ID,x2.aF,x2.Rights,x2.aQ,(l[Dq]).From⟩:ak)]:List ak)) eu bR O O O O O O O) fun b5=>?_
   refine R.s O (s.app 2 _ O O O (bE 0 O) ln (by simp;omega) (by simp;omega) (fun _=>rfl) O) fun v3=>?_
   refine R.u 1 O<|R.nil<|R.reg O<|R.q (q.bC (r:=((k+1:Nat):Int)) O O) O<|R.u 1 O<|R.nil<|R.back (k+1,v3,(acc++([(⟨x2.ID,x2.aF,x2.Rights,x2.aQ,(l[Dq]).From⟩:ak)]))) O (by (exact ⟨by omega,by rw [HA,s9 hx2 ‹_›,Dp ‹_›]⟩)) (by dsimp only;omega) (sF O) (iz [2] [] O)
  refine R.q (q.eX O O) O<|R.nil<|R.aC O O<|R.reg O<|R.u 1 O<|R.q (q.cW 0 O O aN) O<|R.s O (s.bs (l:=([x2]:List ak)) eu bR O O O O O O O) fun b6=>?_
  refine R.s O (s.app 2 _ O O O (bE 0 O) ln (by simp;omega) (by simp;omega) (fun _=>rfl) O) fun v4=>?_
  refine R.u 1 O<|R.nil<|R.reg O<|R.q (q.bC (r:=((k+1:Nat):Int)) O O) O<|R.u 1 O<|R.nil<|R.back (k+1,v4,(acc++([x2]))) O (by (exact ⟨by omega,by rw [HA,s9 hx2 ‹_›,zG ‹_›]⟩)) (by dsimp only;omega) (sF O) (iz [2] [] O)
 exact R.q (q.cU O O) O<|R.nil<|R.aC O O<|R.reg O<|R.u 2 O<|R.nil<|R.ro 0 O Tryz.results54 O O (by (rw [HA,List.take_of_length_le (by omega)];unfold without;rw [uL gS (List.getElem?_eq_getElem lW)]))
end
section
open Go.RowKit
theorem xB {l:List ak}{k:Nat}{x y:ak}(hx:l[k]? = some x)(h:hG l k=0)(hk:0<k)(hy:l[k-1]? = some y):y.ID<x.ID:=by
 have hw:=s8 hx h
 have h0:cw x=0:=by rcases kz x with h1|h1;exact h1;rw [jf hx (by omega)] at h;omega
 rcases Int.lt_or_le y.ID x.ID with h1|h1
 .exact h1
 .rw [m4 hx h0 hk hy (by omega)] at h;omega
theorem cO.rise {l:List ak}(h:cO l):∀ (j i:Nat) {x y:ak},i<j->l[j]? = some x->l[i]? = some y->y.ID<x.ID
 | 0,i,x,y,hij,hx,hy=>by omega
 | j+1,i,x,y,hij,hx,hy=>by
  have hlt:j+1<l.length:=(List.getElem?_eq_some_iff.1 hx).1
  have hz:l[j]? = some l[j]:=List.getElem?_eq_getElem (by omega)
  have h1:=xB hx (h.steps _ hlt) (by omega) hz
  by_cases hj:i=j
  .subst hj;rw [hz] at hy;injection hy with hy;subst hy;exact h1
  .have:=h.rise j i (by omega) hz hy;omega
theorem cO.inj {l:List ak}(h:cO l){x y:ak}(hx:x∈l)(hy:y∈l)(he:x.ID=y.ID):x=y:=by
 obtain ⟨i,hi⟩:=List.mem_iff_getElem?.1 hx
 obtain ⟨j,hj⟩:=List.mem_iff_getElem?.1 hy
 rcases Nat.lt_trichotomy i j with h1|h1|h1
 .have:=h.rise j i h1 hj hi;omega
 .subst h1;rw [hi] at hj;injection hj
 .have:=h.rise i j h1 hi hj;omega
theorem xC {l:List ak}{k:Nat}{x:ak}(hx:l[k]? = some x)(h:hG l k=0)(h0:x.From≠0) :
 ∃j y,j<k/\l[j]? = some y/\y.ID=x.From/\(derived y x.ID x.Rights x.aQ).2=0/\(derived y x.ID x.Rights x.aQ).1=x:=by
 have hw:cw x=0:=by rcases kz x with h1|h1;exact h1;rw [jf hx (by omega)] at h;omega
 have hsh:¬ 0<k ∨ ∃y,l[k-1]? = some y/\y.ID<x.ID:=by
  by_cases hk:0<k
  .
   have hlt:k<l.length:=(List.getElem?_eq_some_iff.1 hx).1
   exact .inr ⟨_,List.getElem?_eq_getElem (by omega),xB hx h hk (List.getElem?_eq_getElem (by omega))⟩
  .exact .inl hk
 rcases ft (l.take k) x.From with ⟨h1,h2⟩ | ⟨j,hj,h1,h2,h3⟩
 .rw [xA hx hw hsh h0 h1] at h;omega
 .
  have hjk:j<k:=by rw [List.length_take] at hj;omega
  have hlt:k<l.length:=(List.getElem?_eq_some_iff.1 hx).1
  have hy:l[j]? = some l[j]:=List.getElem?_eq_getElem (by omega)
  rw [jg hx hw hsh h0 h1 hjk hy] at h
  have hid:(l[j]'(by omega)).ID=x.From:=by simpa [List.getElem_take] using h2
  by_cases hd:(derived l[j] x.ID x.Rights x.aQ).2≠0
  .rw [if_pos hd] at h;exact absurd h hd
  .
   rw [if_neg hd] at h
   by_cases he:(derived l[j] x.ID x.Rights x.aQ).1≠x
   .rw [if_pos he] at h;omega
   .exact ⟨j,_,hjk,hy,hid,by simpa using hd,by simpa using he⟩
theorem l9 {l:List ak}{x:ak}(hx:x∈l):0<=cI l x.ID:=by
 rcases ft l x.ID with ⟨h1,h2⟩ | ⟨k,hk,h1,h2,_⟩
 .exact absurd rfl (h2 x hx)
 .omega
theorem nZ {l:List ak}{f:Int}(h:0<=cI l f):∃y,l[(cI l f).toNat]? = some y/\y.ID=f/\y∈l/\eP l f=y.From:=by
 obtain ⟨y,h1,h2,h3⟩:=Dn l f h
 exact ⟨y,h1,h2,h3,uL (j:=(cI l f).toNat) (by omega) h1⟩
theorem xD {l:List ak}{f:Int}(h:cI l f<0):eP l f=0:=by
 rcases ft l f with ⟨h1,_⟩ | ⟨k,hk,h1,_⟩
 .exact uM h1
 .omega
theorem cO.uN {l:List ak}(h:cO l){f:Int}(hf:0<=cI l f):0<f/\f<=999/\0<=eP l f/\eP l f<f:=by
 obtain ⟨y,h1,h2,h3,h4⟩:=nZ hf
 have w:=h.mem h3
 have:=w.id1;have:=w.Rc;have:=w.Qn;have:=w.Ov
 omega
def chain (l:List ak)(f:Int):List Int :=
  if h:0<=cI l f/\0<f/\eP l f<f then f::chain l (eP l f) else []
termination_by f.toNat
decreasing_by omega
def above (l:List ak)(id:Int):List Int:=chain l (eP l id)
theorem r9 {l:List ak}(h:cO l){f:Int}(hf:0<=cI l f):chain l f=f::chain l (eP l f):=by
 have:=h.uN hf
 rw [chain,dif_pos ⟨hf,by omega,by omega⟩]
theorem Ff {l:List ak}{f:Int}(hf:cI l f<0):chain l f=[]:=by
 rw [chain,dif_neg (by omega)]
def Fg (id:Int)(acc:List Int)(x:ak):List Int:=if (x.From=id∨x.From∈acc)/\0<x.From then acc++[x.ID] else acc
def kA (id:Int)(l:List ak):List Int:=l.foldl (Fg id) []
theorem Dr {id:Int}{l:List ak}{k:Nat}{x:ak}{S:List Int}(hx:l[k]? = some x)(hS:∀z,z∈S↔z=id∨z∈kA id (l.take k))(h:x.From∈S)(h0:0<x.From):kA id (l.take (k+1))=kA id (l.take k)++[x.ID]:=by
 unfold kA at *
 rw [List.take_add_one,hx,List.foldl_append]
 simp only [Option.toList,List.foldl_cons,List.foldl_nil]
 unfold Fg at *
 rw [if_pos ⟨(hS _).1 h,h0⟩]
theorem ua {id:Int}{l:List ak}{k:Nat}{x:ak}{S:List Int}(hx:l[k]? = some x)(hS:∀z,z∈S↔z=id∨z∈kA id (l.take k))(h:¬ (x.From∈S/\0<x.From)):kA id (l.take (k+1))=kA id (l.take k):=by
 unfold kA at *
 rw [List.take_add_one,hx,List.foldl_append]
 simp only [Option.toList,List.foldl_cons,List.foldl_nil]
 unfold Fg at *
 rw [if_neg (fun hc=>h ⟨(hS _).2 hc.1,hc.2⟩)]
theorem KJ (id:Int)(l:List ak):(kA id l).length<=l.length:=by
 have:∀ (l:List ak) (acc:List Int),(l.foldl (Fg id) acc).length<=acc.length+l.length:=by
  intro l
  induction l with
  | nil=>intro acc;simp
  | cons x l ih =>
   intro acc
   have:=ih (Fg id acc x)
   have h2:(Fg id acc x).length<=acc.length+1:=by unfold Fg;split <;> simp
   simp only [List.foldl_cons,List.length_cons];omega
 simpa [kA] using this l []
def up (l:List ak)(id f:Int):Int :=
  if h:0<f/\f≠id/\0<=cI l f/\eP l f<f then up l id (eP l f) else f
termination_by f.toNat
decreasing_by omega
theorem GG {l:List ak}(h:cO l){id f:Int}(h1:f≠id)(h2:0<=cI l f):up l id f=up l id (eP l f):=by
 have:=h.uN h2
 rw [up,dif_pos ⟨by omega,h1,h2,by omega⟩]
theorem BA {l:List ak}{id f:Int}(h:¬ 0<f∨f=id∨cI l f<0):up l id f=f:=by
 rw [up,dif_neg (by omega)]
def Rf (l:List ak)(id:Int)(x:ak):Bool:=decide (up l id x.From=id)&&decide (0<id)
def vp (l:List ak)(id:Int)(m:List ak):List Int:=(m.filter (Rf l id)).map ak.ID
theorem KL {l0:List ak}{id:Int}{l:List ak}{k:Nat}{x:ak}(hx:l[k]? = some x)(h:up l0 id x.From=id)(h0:0<id):vp l0 id (l.take (k+1))=vp l0 id (l.take k)++[x.ID]:=by
 unfold vp
 rw [List.take_add_one,hx,List.filter_append];simp [Rf,h,h0]
theorem Ia {l0:List ak}{id:Int}{l:List ak}{k:Nat}{x:ak}(hx:l[k]? = some x)(h:¬ (up l0 id x.From=id/\0<id)):vp l0 id (l.take (k+1))=vp l0 id (l.take k):=by
 unfold vp
 rw [List.take_add_one,hx,List.filter_append]
 have:Rf l0 id x=false:=by unfold Rf;rw [Bool.and_eq_false_iff];by_cases h1:up l0 id x.From=id;right;simpa using (fun h2=>h ⟨h1,h2⟩);left;simpa using h1
 simp [this]
def beneath (l:List ak)(id:Int):List Int:=vp l id l
theorem KM {l:List ak}(h:cO l)(id:Int):∀k,k<=l.length->kA id (l.take k)=vp l id (l.take k)
 | 0,_=>by simp [kA,vp]
 | k+1,hk=>by
  have ih:=KM h id k (by omega)
  have hx:l[k]? = some l[k]:=List.getElem?_eq_getElem (by omega)
  have hS:∀z,z∈id::kA id (l.take k)↔z=id∨z∈kA id (l.take k):=fun z=>by simp
  have w:=s8 hx (h.steps k (by omega))
  have key:((l[k]).From∈id::kA id (l.take k)/\0<(l[k]).From)↔(up l id (l[k]).From=id/\0<id):=by
   by_cases h0:(l[k]).From=0
   .
    rw [h0,BA (.inl (by omega))]
    constructor
    .intro h;omega
    .intro h;omega
   .
    have hpos:0<(l[k]).From:=by have:=w.Rc;omega
    by_cases he:(l[k]).From=id
    .
     rw [BA (.inr (.inl he))]
     constructor
     .intro _;exact ⟨he,by omega⟩
     .intro _;exact ⟨by rw [he];simp,hpos⟩
    .
     obtain ⟨j,y,hj,hy,hid,_,_⟩:=xC hx (h.steps k (by omega)) h0
     have hym:y∈l:=List.mem_of_getElem? hy
     have hfi:0<=cI l (l[k]).From:=by rw [<- hid];exact l9 hym
     rw [GG h he hfi]
     obtain ⟨y',_,hy2,hy3,hy4⟩:=nZ hfi
     have:y'=y:=h.inj hy3 hym (by rw [hy2,hid])
     subst this
     rw [hy4,ih]
     have hmem:(l[k]).From∈vp l id (l.take k)↔(up l id y'.From=id/\0<id):=by
      unfold vp
      simp only [List.mem_map,List.mem_filter,Rf,Bool.and_eq_true,decide_eq_true_eq]
      constructor
      .
       rintro ⟨z,⟨hz,hz2⟩,hz3⟩
       have:z=y':=h.inj (List.mem_of_mem_take hz) hy3 (by rw [hz3,hid])
       subst this;exact hz2
      .
       intro hh
       exact ⟨y',⟨List.mem_of_getElem? (i:=j) (by rw [List.getElem?_take,if_pos hj];exact hy),hh⟩,hid⟩
     constructor
     .
      rintro ⟨h1,_⟩
      rcases List.mem_cons.1 h1 with h1|h1
      .exact absurd h1 he
      .exact hmem.1 h1
     .intro h1;exact ⟨List.mem_cons.2 (.inr (hmem.2 h1)),hpos⟩
  by_cases hc:up l id (l[k]).From=id/\0<id
  .
   have:=key.2 hc
   rw [Dr hx hS this.1 this.2,KL hx hc.1 hc.2,ih]
  .rw [ua hx hS (fun hh=>hc (key.1 hh)),Ia hx hc,ih]
theorem MJ {l:List ak}(h:cO l)(id:Int):kA id l=beneath l id:=by
 have:=KM h id l.length (Nat.le_refl _)
 simpa [beneath,List.take_length] using this
theorem Ds {l:List ak}(h:cO l){a:Int}(ha:0<=cI l a)(f:Int)(hf0:0<=f):up l a f=a↔a∈chain l f:=by
 have ha0:=h.uN ha
 by_cases he:f=a
 .subst he;rw [BA (.inr (.inl rfl)),r9 h ha];simp
 .
  rcases Int.lt_or_le (cI l f) 0 with h1|h1
  .rw [BA (.inr (.inr h1)),Ff h1];simp [he]
  .
   have hf:=h.uN h1
   rw [GG h he h1,r9 h h1,Ds h ha (eP l f) hf.2.2.1]
   simp [Ne.symm he]
termination_by f.toNat
decreasing_by omega
end
section
open Go Go.RowKit
theorem BD (bP:Value)(l:List ak)(id:Int)(w:World)(ez:Sl w bP l)(hl:l.length<=1000000):Calls Tryz.prog 122 #[bP,iV id] w fun e w' => ∃u,e = .returned u/\Own w.heap.size 3 w' u (kA id l)/\Ext w w':=by
 have zq:=ez.gV
 refine R.enter [] [(0,bP),(1,iV id)] Tryz.func122 O O O O<|R.reg O<|R.u 1 O<|R.nil<|R.reg O<|R.s O (s.mk O) fun b1=>?_
 refine R.u 1 O<|R.s O (s.T6 0 _ O O O O sQ O) fun _=>?_
 refine R.u 2 O<|R.nil<|R.reg O<|R.u 1 O<|R.nil<|R.reg O<|R.u 1 O<|R.q (q.len' (fun _=>Wd.old ez) O Tryz.underlying43) O<|R.u 1 O<|R.nil<|R.row0 (α:=Int) 3<|R.loop (fun g_:Nat×Value×(List Int)×(List Int)=>[(5,.map (some b1)),(6,g_.2.1),(12,bP),(13,iV (l.length:Int)),(14,iV (g_.1:Int))]) (fun g_=>[ag.row 3 g_.2.1 g_.2.2.1,ag.ot b1 g_.2.2.2]) (fun g_=>[]) (fun g_=>g_.1<=l.length/\g_.2.2.1=kA id (l.take g_.1) /\ ∀z,z∈g_.2.2.2↔z=id∨z∈g_.2.2.1) (fun g_=>l.length-g_.1) (0,(nS),[],[id]) O (by exact ⟨by simp,by simp [kA],by simp⟩) (sF O) (iz [0,1] [] O) ?_
 rintro ⟨k,v,acc,S⟩ ⟨hk,HA,HS⟩
 dsimp only at *
 have hal:acc.length<=k:=by rw [HA];exact Nat.le_trans (KJ _ _) (List.length_take_le _ _)
 refine R.reg O<|?_
 by_cases h1:k<l.length
 .
  refine R.q (q.dD O O) O<|R.nil<|R.az O O<|R.reg O<|?_
  obtain ⟨x1,hx1⟩:∃z,l[k]? = some z:=⟨_,List.getElem?_eq_getElem (by omega)⟩
  refine R.q (q.idx (i:=k) (fun _=>Wd.old ez) O O eu O hx1) O<|R.q (q.gk (ds:=jN x1) (fun _=>Wd.old ez) hx1 O aN O) O<|R.s O (s.alloc bR O O) fun b2=>?_
  refine R.s O (s.st 0 _ O O O O (.inl aN) O O O O) fun _=>?_
  refine R.nil<|R.reg O<|R.u 1 O<|R.q (q.aP O eZ O) O<|R.q (q.ld 0 O O au O) O<|?_
  by_cases h2:x1.From∈S
  .
   refine R.q (q.NS 2 O O O sQ (decide_eq_true h2)) O<|R.u 1 O<|R.qg O (q.aP O eZ O) O<|R.qg O (q.ld 0 O O au O) O<|?_
   by_cases h3:0<x1.From
   .
    refine R.qg O (q.eM O O) O<|R.u 1 O<|R.nil<|R.az O O<|R.reg O<|R.u 1 O<|R.q (q.aP O bX O) O<|R.q (q.ld 0 O O au O) O<|R.s O (s.Vs 2 _ O O O O sQ O) fun _=>?_
    refine R.nil<|R.reg O<|R.u 1 O<|R.q (q.aP O bX O) O<|R.q (q.ld 0 O O au O) O<|R.s O (s.bs (l:=([x1.ID]:List Int)) dc lV O O O O O O O) fun b3=>?_
    refine R.s O (s.app 2 _ O O O (bE 0 O) nL (by simp;omega) (by simp;omega) (fun _=>rfl) O) fun v1=>?_
    refine R.u 1 O<|R.nil<|R.reg O<|R.q (q.bC (r:=((k+1:Nat):Int)) O O) O<|R.u 1 O<|R.nil<|R.back (k+1,v1,(acc++([x1.ID])),(x1.ID::S)) O (by (exact ⟨by omega,by rw [HA,Dr hx1 (HA▸HS) ‹_› ‹_›],by intro z;rw [List.mem_cons,HS,List.mem_append,List.mem_singleton];constructor <;> (intro h;rcases h with h|h|h <;> simp [h])⟩)) (by dsimp only;omega) (sF O) (iz [2,3] [] O)
   refine R.qg O (q.ey O O) O<|R.u 1 O<|R.nil<|R.aC O O<|R.reg O<|R.q (q.bC (r:=((k+1:Nat):Int)) O O) O<|R.u 1 O<|R.nil<|R.back (k+1,v,acc,S) O (by (exact ⟨by omega,by rw [HA,ua hx1 (HA▸HS) (by (intro hh;exact absurd hh.2 ‹_›))],HS⟩)) (by dsimp only;omega) (sF O) (iz [1,2] [] O)
  refine R.q (q.NS 2 O O O sQ (decide_eq_false h2)) O<|R.u 5 O<|R.nil<|R.aC O O<|R.reg O<|R.q (q.bC (r:=((k+1:Nat):Int)) O O) O<|R.u 1 O<|R.nil<|R.back (k+1,v,acc,S) O (by (exact ⟨by omega,by rw [HA,ua hx1 (HA▸HS) (by (intro hh;exact absurd hh.1 ‹_›))],HS⟩)) (by dsimp only;omega) (sF O) (iz [1,2] [] O)
 exact R.q (q.cU O O) O<|R.nil<|R.aC O O<|R.reg O<|R.u 2 O<|R.nil<|R.ro 0 O Tryz.results122 O O (by (rw [HA,List.take_of_length_le (by omega)]))
end
section
open Go.RowKit
structure Made (y x:ak):Prop where
  thing:y.aF=x.aF
  has:je y.Rights x.Rights=true
  dJ:y.aQ=0∨x.aQ=y.aQ
  gq:y.ID=x.From
theorem MK {y x:ak}(h1:(derived y x.ID x.Rights x.aQ).2=0)(h2:(derived y x.ID x.Rights x.aQ).1=x):Made y x:=by
 unfold derived at h1 h2
 split at h1;· simp at h1
 split at h1;· simp at h1
 split at h1;· simp at h1
 split at h1;· simp at h1
 split at h1;· simp at h1
 rename_i a b c d e
 rw [if_neg a,if_neg b,if_neg c,if_neg d,if_neg e] at h2
 have ht:=congrArg ak.aF h2
 have hb:=congrArg ak.aQ h2
 have hf:=congrArg ak.From h2
 simp only [] at ht hb hf
 refine ⟨ht,by simpa using d,?_,hf⟩
 by_cases h0:x.aQ=0
 .rw [if_pos h0] at hb;exact .inl (by omega)
 .
  by_cases hy:y.aQ=0
  .exact .inl hy
  .
   right
   by_cases he:x.aQ=y.aQ
   .exact he
   .exact absurd ⟨h0,hy,he⟩ e
theorem Fh {y x:ak}(w:Rb x)(h:Made y x):derived y x.ID x.Rights x.aQ=(x,0):=by
 have:=w.KG;have:=w.KH;have:=w.Ql;have:=w.Qm
 unfold derived
 rw [if_neg (by rw [gO w.KG w.KH];omega),if_neg (by omega),if_neg (by omega),if_neg (by rw [h.has];simp),if_neg (by rintro ⟨h1,h2,h3⟩;rcases h.dJ with h4|h4 <;> omega)]
 have hb:(if x.aQ=0 then y.aQ else x.aQ)=x.aQ:=by
  split
  .rcases h.dJ with h4|h4 <;> omega
  .rfl
 rw [hb,h.thing,h.gq]
theorem KN:∀a b c:Fin 8,je ((a:Nat):Int) ((b:Nat):Int)=true->je ((b:Nat):Int) ((c:Nat):Int)=true->je ((a:Nat):Int) ((c:Nat):Int)=true:=by decide
theorem Ur {a b c:Int}(a0:0<=a)(a7:a<=7)(b0:0<=b)(b7:b<=7)(c0:0<=c)(c7:c<=7)(h:je a b=true)(k:je b c=true):je a c=true:=by
 obtain ⟨x,rfl⟩:=Fc a0 a7;obtain ⟨y,rfl⟩:=Fc b0 b7;obtain ⟨z,rfl⟩:=Fc c0 c7;exact KN x y z h k
structure ub (l:List ak):Prop where
  ok:∀x∈l,cw x=0
  rise:l.Pairwise (fun x y=>x.ID<y.ID)
  made:∀x∈l,x.From≠0 -> ∃y∈l,Made y x
theorem cO.fault {l:List ak}(h:cO l){x:ak}(hx:x∈l):cw x=0:=by
 obtain ⟨j,hj⟩:=List.mem_iff_getElem?.1 hx
 rcases kz x with h1|h1
 .exact h1
 .have:=jf hj (by omega);rw [h.steps j (List.getElem?_eq_some_iff.1 hj).1] at this;omega
theorem cO.is {l:List ak}(h:cO l):ub l:=by
 refine ⟨fun x hx=>h.fault hx,?_,fun x hx h0=>?_⟩
 .
  rw [List.pairwise_iff_getElem]
  intro i j hi hj hij
  exact h.rise j i hij (List.getElem?_eq_getElem hj) (List.getElem?_eq_getElem hi)
 .
  obtain ⟨k,hk⟩:=List.mem_iff_getElem?.1 hx
  obtain ⟨j,y,hj,hy,_,h1,h2⟩:=xC hk (h.steps k (List.getElem?_eq_some_iff.1 hk).1) h0
  exact ⟨y,List.mem_of_getElem? hy,MK h1 h2⟩
theorem qh {l:List ak}(h:l.Pairwise (fun x y=>x.ID<y.ID)){i j:Nat}{x y:ak}(hi:l[i]? = some x)(hj:l[j]? = some y)(hij:i<j):x.ID<y.ID:=by
 rw [List.pairwise_iff_getElem] at h
 obtain ⟨h1,rfl⟩:=List.getElem?_eq_some_iff.1 hi
 obtain ⟨h2,rfl⟩:=List.getElem?_eq_some_iff.1 hj
 exact h i j h1 h2 hij
theorem ub.ok' {l:List ak}(h:ub l):cO l:=by
 refine qe fun k hk=>?_
 have hx:l[k]? = some l[k]:=List.getElem?_eq_getElem hk
 have hm:l[k]∈l:=List.getElem_mem hk
 have h0:=h.ok _ hm
 have w:=Bv h0
 have hsh:¬ 0<k ∨ ∃y,l[k-1]? = some y/\y.ID<(l[k]).ID:=by
  by_cases h1:0<k
  .
   have hy:l[k-1]? = some (l[k-1]'(by omega)):=List.getElem?_eq_getElem (by omega)
   exact .inr ⟨_,hy,qh h.rise hy hx (by omega)⟩
  .exact .inl h1
 by_cases hf:(l[k]).From=0
 .exact xy hx h0 hsh hf
 .
  obtain ⟨y,hy,hmd⟩:=h.made _ hm hf
  obtain ⟨j,hj⟩:=List.mem_iff_getElem?.1 hy
  have hjl:j<l.length:=(List.getElem?_eq_some_iff.1 hj).1
  have hjk:j<k:=by
   rcases Nat.lt_trichotomy j k with h1|h1|h1
   .exact h1
   .
    subst h1;rw [hj] at hx;injection hx with hx
    have:=hmd.gq;have:=w.Qn;rw [hx] at *;omega
   .have:=qh h.rise hx hj h1;have:=hmd.gq;have:=w.Qn;omega
  have hfw:cI (l.take k) (l[k]).From=(j:Int):=by
   have hl:j<(l.take k).length:=by rw [List.length_take];omega
   have hge:(l.take k)[j]=y:=by
    rw [List.getElem_take];exact (List.getElem?_eq_some_iff.1 hj).2
   refine KF hl (by rw [hge];exact hmd.gq) (fun i z hi hz=>?_)
   have hz':l[i]? = some z:=by rw [List.getElem?_take,if_pos (by omega)] at hz;exact hz
   have:=qh h.rise hz' hj hi
   have:=hmd.gq;omega
  rw [jg hx h0 hsh hf hfw hjk hj]
  have:=Fh w hmd
  rw [this];simp
theorem zH {l:List ak}(h:cO l){a b:Int}(ha:0<=cI l a)(hb:0<=cI l b):b∈kA a l↔a∈above l b:=by
 rw [MJ h]
 have ha0:=h.uN ha
 have hb0:=h.uN hb
 unfold beneath vp above
 rw [<- Ds h ha _ hb0.2.2.1]
 simp only [List.mem_map,List.mem_filter,Rf,Bool.and_eq_true,decide_eq_true_eq]
 obtain ⟨y,_,hy2,hy3,hy4⟩:=nZ hb
 constructor
 .
  rintro ⟨x,⟨hx,hu,_⟩,hid⟩
  have:x=y:=h.inj hx hy3 (by omega)
  subst this;rw [hy4];exact hu
 .
  intro hu
  exact ⟨y,⟨hy3,by rw [<- hy4];exact hu,ha0.1⟩,hy2⟩
theorem gH {l:List ak}{id:Int}{x:ak}:x∈without l id ↔ ∃y∈l,y.ID≠id/\x=mJ id (eP l id) y:=by
 unfold without Fe
 simp only [List.mem_map,List.mem_filter,decide_eq_true_eq]
 constructor
 .rintro ⟨y,⟨h1,h2⟩,rfl⟩;exact ⟨y,h1,h2,rfl⟩
 .rintro ⟨y,h1,h2,rfl⟩;exact ⟨y,⟨h1,h2⟩,rfl⟩
theorem kB {id f:Int}(x:ak):(mJ id f x).ID=x.ID/\(mJ id f x).aF=x.aF/\(mJ id f x).Rights=x.Rights/\(mJ id f x).aQ=x.aQ:=by unfold mJ;split <;> exact ⟨rfl,rfl,rfl,rfl⟩
theorem uc {id f:Int}(x:ak):(mJ id f x).From=if x.From=id then f else x.From:=by unfold mJ;split <;> rfl
theorem ML {x:ak}(h:cw x=0){f:Int}(h0:0<=f)(h1:f<x.ID):cw { x with From:=f }=0:=by
 have w:=Bv h
 rcases gu { x with From:=f } with ⟨h2,h3⟩ | ⟨h2,_⟩
 .
  have:=w.id1;have:=w.Ov;have:=w.Qj;have:=w.Qk;have:=w.Ql;have:=w.Qm;have:=w.KG;have:=w.KH
  simp only [] at h3;omega
 .exact h2
theorem MN {id f:Int}{y x:ak}(h:Made y x)(hf:x.From≠id):Made (mJ id f y) (mJ id f x):=by
 have hy:=kB (id:=id) (f:=f) y
 have hx:=kB (id:=id) (f:=f) x
 refine ⟨by rw [hy.2.1,hx.2.1];exact h.thing,by rw [hy.2.2.1,hx.2.2.1];exact h.has,by rw [hy.2.2.2,hx.2.2.2];exact h.dJ,?_⟩
 rw [hy.1,uc,if_neg hf];exact h.gq
theorem cO.wo {l:List ak}(h:cO l)(id:Int):cO (without l id):=by
 have hi:=h.is
 refine ub.ok' ⟨fun x hx=>?_,?_,fun x hx h0=>?_⟩
 .
  obtain ⟨y,hy,hne,rfl⟩:=gH.1 hx
  have Us:=hi.ok y hy
  unfold mJ
  split
  .
   rename_i he
   have w:=Bv Us
   have:=w.Rc;have:=w.Qn
   have hid:0<=eP l id/\(0<eP l id->eP l id<id):=by
    rcases Int.lt_or_le (cI l id) 0 with h1|h1
    .rw [xD h1];omega
    .have:=h.uN h1;omega
   exact ML Us hid.1 (by omega)
  .exact Us
 .
  unfold without Fe
  rw [List.pairwise_map]
  refine (hi.rise.filter _).imp ?_
  intro a b hab
  rw [(kB a).1,(kB b).1];exact hab
 .
  obtain ⟨y,hy,hne,rfl⟩:=gH.1 hx
  rw [uc] at h0
  by_cases he:y.From=id
  .
   rw [if_pos he] at h0
   have hid:0<=cI l id:=by
    rcases Int.lt_or_le (cI l id) 0 with h1|h1
    .rw [xD h1] at h0;exact absurd rfl h0
    .exact h1
   obtain ⟨p,_,hp2,hp3,Ut⟩:=nZ hid
   have V6:=h.uN hid
   obtain ⟨z,hz,S5⟩:=hi.made p hp3 (by rw [<- Ut];exact h0)
   have hy0:y.From≠0:=by rw [he];omega
   obtain ⟨p',hp',hpy⟩:=hi.made y hy hy0
   have:p'=p:=h.inj hp' hp3 (by rw [hpy.gq,he,hp2])
   subst this
   have Uu:z.ID≠id:=by have:=S5.gq;rw [<- Ut] at this;omega
   refine ⟨mJ id (eP l id) z,gH.2 ⟨z,hz,Uu,rfl⟩,?_⟩
   have wz:=h.mem hz;have wp:=h.mem hp3;have wy:=h.mem hy
   have hz':=kB (id:=id) (f:=eP l id) z
   have hy':=kB (id:=id) (f:=eP l id) y
   refine ⟨by rw [hz'.2.1,hy'.2.1,S5.thing,hpy.thing],by rw [hz'.2.2.1,hy'.2.2.1];exact Ur wz.KG wz.KH wp.KG wp.KH wy.KG wy.KH S5.has hpy.has,?_,?_⟩
   .
    rw [hz'.2.2.2,hy'.2.2.2]
    rcases S5.dJ with h1|h1
    .exact .inl h1
    .
     rcases hpy.dJ with h2|h2
     .exact .inl (by omega)
     .exact .inr (by omega)
   .rw [hz'.1,uc,if_pos he,S5.gq,Ut]
  .
   rw [if_neg he] at h0
   obtain ⟨p,hp,hpy⟩:=hi.made y hy h0
   exact ⟨mJ id (eP l id) p,gH.2 ⟨p,hp,by rw [hpy.gq];exact he,rfl⟩,MN hpy he⟩
end
end Go.Proofs.YtkbhcbipadkcaaaGreatDoor
