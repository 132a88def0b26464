import Derived.Test.YtkbhcbipadkcaaaGreatDoorTW16
namespace Go.Proofs.YtkbhcbipadkcaaaGreatDoor
set_option linter.unusedVariables false
set_option linter.unusedSimpArgs false
set_option maxRecDepth 100000
set_option maxHeartbeats 90000000
section
open Go Go.RowKit
theorem yR (bP:Value)(l:List ak)(w:World)(ew:Sl w bP l):Calls Tryz.prog 152 #[bP] w fun e w'=>e = .returned (da (ec l))/\Ext w w':=by
 have zx:=ew.fB
 refine R.enter [] [(0,bP)] Tryz.func152 O O O O<|R.reg O<|R.u 1 O<|R.nil<|R.reg O<|R.u 1 O<|R.q (q.len' (fun _=>Wd.old ew) O Tryz.underlying43) O<|R.u 1 O<|R.nil<|R.loop (fun k:Nat=>[(0,bP),(8,bP),(9,iV (l.length:Int)),(10,iV (k:Int))]) (fun k:Nat=>[]) (fun k:Nat=>[]) (fun k:Nat=>k<=l.length /\ ∀j,j<k->hY l j=0) (fun k:Nat=>l.length-k) 0 O (by exact ⟨by omega,fun j hj=>absurd hj (Nat.not_lt_zero _)⟩) (sF O) (ic [] [] O) ?_
 rintro k ⟨hk,HA⟩
 refine R.reg O<|?_
 by_cases h1:k<l.length
 .
  refine R.q (q.dz O O) O<|R.nil<|R.av O O<|R.reg O<|R.u 1 O<|?_
  obtain ⟨x1,hx1⟩:∃z,l[k]? = some z:=⟨_,List.getElem?_eq_getElem (by omega)⟩
  have V0:=kz x1
  refine R.q (q.idx (i:=k) (fun _=>Wd.old ew) O O dK O hx1) O<|R.q (q.eS (ds:=im x1) (fun _=>Wd.old ew) hx1 O aM O) O<|R.s O (s.alloc bQ O O) fun b1=>?_
  refine R.u 1 O<|R.s O (s.st 0 _ O O O O (.inl aM) O O O O) fun _=>?_
  refine R.nil<|R.reg O<|R.q (q.dh 0 O O aM) O<|R.c (q.call PN O O (fun w hw=>(yQ x1 w ))) O<|R.u 1 O<|R.nil ?_
  refine R.reg O<|R.u 1 O<|?_
  by_cases h2:ct x1=0
  .
   refine R.q (q.dx O O Tryz.underlying38) O<|R.nil<|R.aB O O<|R.cut 2 (fun _u:Unit=>[(0,bP),(3,iV (k:Int)),(4,.pointer (some ⟨b1,0,none⟩)),(8,bP),(9,iV (l.length:Int)),(10,iV (k:Int))]) (fun _u:Unit=>[ag.box b1 (im x1) 127]) (fun _u:Unit=>[]) (fun _u:Unit=>Hid (¬ 0<k ∨ ∃y,l[k-1]? = some y/\y.ID<x1.ID)) O O O ?_ ?_
   .
    by_cases h3:0<k
    .
     obtain ⟨x2,hx2⟩:∃z,l[(k-1)]? = some z:=⟨_,List.getElem?_eq_getElem (by omega)⟩
     have V1:=kz x2
     by_cases h4:x2.ID<x1.ID
     .
      exact R.eu O mixed (by kernel_rfl)<|Q.u 1 O<|Q.q (q.eL O O) O<|Q.u 1 O<|Q.qg O (q.aO O bV O) O<|Q.qg O (q.ld 0 O O au O) O<|Q.u 2 O<|Q.qg O (q.lV (r:=((k-1:Nat):Int)) O O) O<|Q.qg O (q.idx (i:=(k-1)) (fun _=>Wd.old ew) O O dK O hx2) O<|Q.qg O (q.nI (j':=0) (fun _=>Wd.old ew) hx2 O bV O) O<|Q.qg O (q.lw (fun _=>Wd.old ew) hx2 O au O) O<|Q.qg O (q.TY O O) O<|Q.u 1 O<|Q.nil<|R.aB O O<|R.meet () O (by (exact .inr ⟨_,hx2,by assumption⟩)) (sF O) (ic [0] [] O)
     exact R.eu O mixed (by kernel_rfl)<|Q.u 1 O<|Q.q (q.eL O O) O<|Q.u 1 O<|Q.qg O (q.aO O bV O) O<|Q.qg O (q.ld 0 O O au O) O<|Q.u 2 O<|Q.qg O (q.lV (r:=((k-1:Nat):Int)) O O) O<|Q.qg O (q.idx (i:=(k-1)) (fun _=>Wd.old ew) O O dK O hx2) O<|Q.qg O (q.nI (j':=0) (fun _=>Wd.old ew) hx2 O bV O) O<|Q.qg O (q.lw (fun _=>Wd.old ew) hx2 O au O) O<|Q.qg O (q.TX O O) O<|Q.u 1 O<|Q.nil<|R.av O O<|R.reg O<|R.q (q.iface O bm) O<|R.u 1 O<|R.nil<|R.rv O Tryz.results152 O (dr (by decide) (by (exact (gR (by omega) (m9 hx1 (by omega) ‹_› hx2 ‹_›) (by decide) HA))))
    exact R.eu O mixed (by kernel_rfl)<|Q.u 1 O<|Q.q (q.eo O O) O<|Q.u 11 O<|Q.nil<|R.aB O O<|R.meet () O (by (exact .inl ‹_›)) (sF O) (ic [0] [] O)
   rintro _u hS
   refine R.reg O<|R.q (q.aO O eX O) O<|R.q (q.ld 0 O O au O) O<|?_
   by_cases h5:x1.From=0
   .
    refine R.q (q.fI O O) O<|R.nil<|R.av O O<|R.reg O<|R.q (q.bB (r:=((k+1:Nat):Int)) O O) O<|R.u 1 O<|R.nil<|R.back (k+1) O (by (exact ⟨by omega,sj HA (xG hx1 (by omega) hS.out ‹_›)⟩)) (by omega) (sF O) (ic [] [] O)
   refine R.q (q.e9 O O) O<|R.nil<|R.aB O O ?_
   rcases fk (l.take k) x1.From with ⟨gU,Eu⟩ | ⟨Dn,lY,gU,vo,S1⟩
   .
    exact R.eu O mixed (by kernel_rfl)<|Q.u 2 O<|Q.q (q.kI (i:=k) (fun _=>Wd.old ew) O O Tryz.underlying43 AG O (by omega)) O<|Q.q (q.aO O eX O) O<|Q.q (q.ld 0 O O au O) O<|Q.c (q.call lM O O (fun w hw=>(cv (congrArg (Value.int .i64) gU) (iD _ (l.take k) x1.From w ((fun w hw=>Sl.to ((fun _=>Wd.old ew) w hw) (by omega)) w hw) )))) O<|Q.u 1 O<|Q.nil<|R.reg O<|R.u 1 O<|R.q (q.lss (b:=true) O O (by decide)) O<|R.nil<|R.av O O<|R.reg O<|R.q (q.iface O bm) O<|R.u 1 O<|R.nil<|R.rv O Tryz.results152 O (dr (by decide) (by (exact (gR (by omega) (xH hx1 (by omega) hS.out ‹_› gU) (by decide) HA))))
   refine R.eu O mixed (by kernel_rfl)<|Q.u 2 O<|Q.q (q.kI (i:=k) (fun _=>Wd.old ew) O O Tryz.underlying43 AG O (by omega)) O<|Q.q (q.aO O eX O) O<|Q.q (q.ld 0 O O au O) O<|Q.c (q.call lM O O (fun w hw=>(cv (congrArg (Value.int .i64) gU) (iD _ (l.take k) x1.From w ((fun w hw=>Sl.to ((fun _=>Wd.old ew) w hw) (by omega)) w hw) )))) O<|Q.u 1 O<|Q.nil<|R.reg O<|R.u 1 O<|R.q (q.cW O O) O<|R.nil<|R.aB O O ?_
   have rF:Dn<k:=by simp at lY;omega
   obtain ⟨x3,hx3⟩:∃z,l[Dn]? = some z:=⟨_,List.getElem?_eq_getElem (by omega)⟩
   have wx:=tg hx3 (HA Dn rF)
   have V0:=wx.KG;have V1:=wx.KH
   have wd:=rO x3 x1.ID x1.Rights x1.aQ
   refine R.fP (fuel:=17) [0] O O mixed O<|D.q (i:=0) O (aD [0] [] O) O (q.mv O) O<|D.q (i:=1) O (aD [0] [] O) O (q.mv O) O<|D.q (i:=2) O (aD [0] [] O) O (q.idx (i:=Dn) (fun _=>Wd.old ew) O O dK O hx3) O<|D.q (i:=3) O (aD [0] [] O) O (q.eS (ds:=im x3) (fun _=>Wd.old ew) hx3 O aM O) O<|D.q (i:=4) O (aD [0] [] O) O (q.aO O bV O) O<|D.q (i:=5) O (aD [0] [] O) O (q.ld 0 O O au O) O<|D.q (i:=6) O (aD [0] [] O) O (q.aO O jT O) O<|D.q (i:=7) O (aD [0] [] O) O (q.ld 0 O O au O) O<|D.q (i:=8) O (aD [0] [] O) O (q.aO O iZ O) O<|D.q (i:=9) O (aD [0] [] O) O (q.ld 0 O O au O) O<|D.two (i:=10) (j:=14) O O ?_ ?_
   .
    refine Do.s (s.c (q.call wG O O (fun w hw=>(mF x3 x1.ID x1.Rights x1.aQ w (by omega)))) O) (fun _=>(aD [0] [] O)) O fun _=>?_
    refine D.q (i:=11) O (aD [0] [] O) O (q.mv O) O<|D.q (i:=12) O (aD [0] [] O) O (q.ext O O) O<|D.q (i:=13) O (aD [0] [] O) O (q.ext O O) O<|D.one (i:=14) O<|Do.s (s.alloc bQ O O) (fun _=>(aD [1] [] O)) O fun b2=>?_
    refine D.one (i:=15) O<|Do.s (s.st 0 _ O O O O (.inl aM) O O O O) (fun _=>(aD [1] [] O)) O fun _=>?_
    refine D.q (i:=16) O (aD [1] [] O) O (q.as O) O<|D.done<|R.reg O<|R.u 1 O<|?_
    by_cases h6:(derived x3 x1.ID x1.Rights x1.aQ).2=0
    .
     refine R.q (q.dx O O Tryz.underlying38) O<|R.nil<|R.aB O O<|R.reg O<|R.q (q.dh 0 O O aM) O<|R.q (q.dh 1 O O aM) O<|?_
     by_cases h7:(derived x3 x1.ID x1.Rights x1.aQ).1=x1
     .
      refine R.q (q.vZ (x:=(derived x3 x1.ID x1.Rights x1.aQ).1) (y:=x1) tV O O h7) O<|R.nil<|R.aB O O<|R.reg O<|R.q (q.bB (r:=((k+1:Nat):Int)) O O) O<|R.u 1 O<|R.nil<|R.back (k+1) O (by (exact ⟨by omega,sj HA ((jk hx1 (by omega) hS.out ‹_› gU rF hx3).trans ((if_neg (by omega)).trans (if_neg (fun h=>h ‹_›))))⟩)) (by omega) (sF O) (ic [] [] O)
     exact R.q (q.wh (x:=(derived x3 x1.ID x1.Rights x1.aQ).1) (y:=x1) tV O O h7) O<|R.nil<|R.av O O<|R.reg O<|R.q (q.iface O bm) O<|R.u 1 O<|R.nil<|R.rv O Tryz.results152 O (dr (by decide) (by (exact (gR (by omega) ((jk hx1 (by omega) hS.out ‹_› gU rF hx3).trans ((if_neg (by omega)).trans (if_pos ‹_›))) (by decide) HA))))
    exact R.q (q.d9 O O Tryz.underlying38) O<|R.nil<|R.av O O<|R.reg O<|R.u 2 O<|R.nil<|R.rv O Tryz.results152 O (rE (by (exact (gR (by omega) ((jk hx1 (by omega) hS.out ‹_› gU rF hx3).trans (if_pos (by omega))) (by omega) HA).symm)))
   refine Do.s (s.alloc bQ O O) (fun _=>(aD [1] [] O)) O fun b3=>?_
   refine D.one (i:=10) O<|Do.s (s.c (q.call wG O O (fun w hw=>(mF x3 x1.ID x1.Rights x1.aQ w (by omega)))) O) (fun _=>(aD [1] [] O)) O fun _=>?_
   refine D.q (i:=11) O (aD [1] [] O) O (q.mv O) O<|D.q (i:=12) O (aD [1] [] O) O (q.ext O O) O<|D.q (i:=13) O (aD [1] [] O) O (q.ext O O) O<|D.one (i:=15) O<|Do.s (s.st 0 _ O O O O (.inl aM) O O O O) (fun _=>(aD [1] [] O)) O fun _=>?_
   refine D.q (i:=16) O (aD [1] [] O) O (q.as O) O<|D.done<|R.reg O<|R.u 1 O<|?_
   by_cases h8:(derived x3 x1.ID x1.Rights x1.aQ).2=0
   .
    refine R.q (q.dx O O Tryz.underlying38) O<|R.nil<|R.aB O O<|R.reg O<|R.q (q.dh 0 O O aM) O<|R.q (q.dh 1 O O aM) O<|?_
    by_cases h9:(derived x3 x1.ID x1.Rights x1.aQ).1=x1
    .
     refine R.q (q.vZ (x:=(derived x3 x1.ID x1.Rights x1.aQ).1) (y:=x1) tV O O h9) O<|R.nil<|R.aB O O<|R.reg O<|R.q (q.bB (r:=((k+1:Nat):Int)) O O) O<|R.u 1 O<|R.nil<|R.back (k+1) O (by (exact ⟨by omega,sj HA ((jk hx1 (by omega) hS.out ‹_› gU rF hx3).trans ((if_neg (by omega)).trans (if_neg (fun h=>h ‹_›))))⟩)) (by omega) (sF O) (ic [] [] O)
    exact R.q (q.wh (x:=(derived x3 x1.ID x1.Rights x1.aQ).1) (y:=x1) tV O O h9) O<|R.nil<|R.av O O<|R.reg O<|R.q (q.iface O bm) O<|R.u 1 O<|R.nil<|R.rv O Tryz.results152 O (dr (by decide) (by (exact (gR (by omega) ((jk hx1 (by omega) hS.out ‹_› gU rF hx3).trans ((if_neg (by omega)).trans (if_pos ‹_›))) (by decide) HA))))
   exact R.q (q.d9 O O Tryz.underlying38) O<|R.nil<|R.av O O<|R.reg O<|R.u 2 O<|R.nil<|R.rv O Tryz.results152 O (rE (by (exact (gR (by omega) ((jk hx1 (by omega) hS.out ‹_› gU rF hx3).trans (if_pos (by omega))) (by omega) HA).symm)))
  exact R.q (q.d9 O O Tryz.underlying38) O<|R.nil<|R.av O O<|R.reg O<|R.u 2 O<|R.nil<|R.rv O Tryz.results152 O (rE (by (have e:ct x1=1:=(by omega);rw [e];exact (gR (by omega) (jj hx1 (by omega)) (by decide) HA).symm)))
 exact R.q (q.cW O O) O<|R.nil<|R.aB O O<|R.reg O<|R.u 1 O<|R.nil<|R.rv O Tryz.results152 O (iK (by (exact (qn (fun j hj=>HA j (by omega))))))
theorem qp (bP:Value)(l:List ak)(id:Int)(w:World)(ew:Sl w bP l)(hl:l.length<=1000000):Calls Tryz.prog 54 #[bP,iV id] w fun e w' => ∃u,e = .returned u/\Own w.heap.size 127 w' u (without l id)/\Ext w w':=by
 have zx:=ew.fB
 refine R.enter [] [(0,bP),(1,iV id)] Tryz.func54 O O O O<|R.reg O<|R.u 1 O<|R.nil<|R.reg O<|R.u 1 O<|R.nil<|R.reg O<|R.u 1 O<|R.nil<|R.reg O<|R.u 2 O<|?_
 rcases fk l id with ⟨gU,Eu⟩ | ⟨Dn,lY,gU,vo,S1⟩
 .
  refine R.c (q.call lM O O (fun w hw=>(cv (congrArg (Value.int .i64) gU) (iD _ l id w ((fun _=>Wd.old ew) w hw) )))) O<|R.u 1 O<|R.nil ?_
  refine R.reg O<|R.u 1 O<|R.q (q.geq (b:=false) O O (by decide)) O<|R.nil<|R.aB O O<|R.reg O<|R.u 1 O<|R.q (q.len' (fun _=>Wd.old ew) O Tryz.underlying43) O<|R.u 1 O<|R.nil<|R.row0 (α:=ak) 127<|R.loop (fun g_:Nat×Value×(List ak)=>[(1,iV id),(5,g_.2.1),(6,iV 0),(20,bP),(21,iV (l.length:Int)),(22,iV (g_.1:Int))]) (fun g_=>[ag.row 127 g_.2.1 g_.2.2]) (fun g_=>[]) (fun g_=>g_.1<=l.length/\g_.2.2=E6 id 0 (l.take g_.1)) (fun g_=>l.length-g_.1) (0,(nS),[]) O (by exact ⟨by simp,by simp [E6,S0]⟩) (sF O) (ic [0] [] O) ?_
  rintro ⟨k,v,acc⟩ ⟨hk,HA⟩
  dsimp only at *
  have hal:acc.length<=k:=by rw [HA];exact Nat.le_trans (BG _ _ _) (List.length_take_le _ _)
  refine R.reg O<|?_
  by_cases h1:k<l.length
  .
   refine R.q (q.dz O O) O<|R.nil<|R.av O O<|R.reg O<|?_
   obtain ⟨x1,hx1⟩:∃z,l[k]? = some z:=⟨_,List.getElem?_eq_getElem (by omega)⟩
   refine R.q (q.idx (i:=k) (fun _=>Wd.old ew) O O dK O hx1) O<|R.q (q.eS (ds:=im x1) (fun _=>Wd.old ew) hx1 O aM O) O<|R.s O (s.alloc bQ O O) fun b1=>?_
   refine R.s O (s.st 0 _ O O O O (.inl aM) O O O O) fun _=>?_
   refine R.nil<|R.reg O<|R.q (q.aO O bV O) O<|R.q (q.ld 0 O O au O) O<|R.u 1 O<|?_
   by_cases h2:x1.ID=id
   .
    refine R.q (q.fI O O) O<|R.nil<|R.av O O<|R.reg O<|R.q (q.bB (r:=((k+1:Nat):Int)) O O) O<|R.u 1 O<|R.nil<|R.back (k+1,v,acc) O (by (exact ⟨by omega,by rw [HA,GB hx1 ‹_›]⟩)) (by dsimp only;omega) (sF O) (ic [1] [] O)
   refine R.q (q.e9 O O) O<|R.nil<|R.aB O O<|R.reg O<|R.q (q.aO O eX O) O<|R.q (q.ld 0 O O au O) O<|R.u 1 O<|?_
   by_cases h3:x1.From=id
   .
    refine R.q (q.fI O O) O<|R.nil<|R.av O O<|R.reg O<|R.u 1 O<|R.q (q.aO O eX O) O<|R.s O (s.st 0 _ O O O O (.inr ⟨au,rfl⟩) O O O O) fun _=>?_
    refine R.nil<|R.reg O<|R.u 1 O<|R.q (q.dh 0 O O aM) O<|R.s O (s.bs (l:=([(⟨x1.ID,x1.aE,x1.Rights,x1.aQ,0⟩:ak)]:List ak)) dK bQ O O O O O O O) fun b2=>?_
    refine R.s O (s.app 2 _ O O O (bC 0 O) ln (by simp;omega) (by simp;omega) (fun _=>rfl) O) fun v1=>?_
    refine R.u 1 O<|R.nil<|R.reg O<|R.q (q.bB (r:=((k+1:Nat):Int)) O O) O<|R.u 1 O<|R.nil<|R.back (k+1,v1,(acc++([(⟨x1.ID,x1.aE,x1.Rights,x1.aQ,0⟩:ak)]))) O (by (exact ⟨by omega,by rw [HA,tj hx1 ‹_›,Dm ‹_›]⟩)) (by dsimp only;omega) (sF O) (ic [2] [] O)
   refine R.q (q.e9 O O) O<|R.nil<|R.aB O O<|R.reg O<|R.u 1 O<|R.q (q.dh 0 O O aM) O<|R.s O (s.bs (l:=([x1]:List ak)) dK bQ O O O O O O O) fun b3=>?_
   refine R.s O (s.app 2 _ O O O (bC 0 O) ln (by simp;omega) (by simp;omega) (fun _=>rfl) O) fun v2=>?_
   refine R.u 1 O<|R.nil<|R.reg O<|R.q (q.bB (r:=((k+1:Nat):Int)) O O) O<|R.u 1 O<|R.nil<|R.back (k+1,v2,(acc++([x1]))) O (by (exact ⟨by omega,by rw [HA,tj hx1 ‹_›,zL ‹_›]⟩)) (by dsimp only;omega) (sF O) (ic [2] [] O)
  exact R.q (q.cW O O) O<|R.nil<|R.aB O O<|R.reg O<|R.u 2 O<|R.nil<|R.ro 0 O Tryz.results54 O O (by (rw [HA,List.take_of_length_le (by omega)];unfold without;rw [uP gU]))
 refine R.c (q.call lM O O (fun w hw=>(cv (congrArg (Value.int .i64) gU) (iD _ l id w ((fun _=>Wd.old ew) w hw) )))) O<|R.u 1 O<|R.nil ?_
 refine R.reg O<|R.u 1 O<|R.q (q.Hb O O) O<|R.nil<|R.av O O<|R.reg O<|R.u 2 O<|R.q (q.idx (i:=Dn) (fun _=>Wd.old ew) O O dK O (List.getElem?_eq_getElem lY)) O<|R.q (q.nI (j':=4) (fun _=>Wd.old ew) (List.getElem?_eq_getElem lY) O eX O) O<|R.q (q.lw (fun _=>Wd.old ew) (List.getElem?_eq_getElem lY) O au O) O<|R.u 1 O<|R.nil ?_
 refine R.reg O<|R.u 1 O<|R.q (q.len' (fun _=>Wd.old ew) O Tryz.underlying43) O<|R.u 1 O<|R.nil<|R.row0 (α:=ak) 127<|R.loop (fun g_:Nat×Value×(List ak)=>[(1,iV id),(5,g_.2.1),(6,iV (l[Dn]).From),(20,bP),(21,iV (l.length:Int)),(22,iV (g_.1:Int))]) (fun g_=>[ag.row 127 g_.2.1 g_.2.2]) (fun g_=>[]) (fun g_=>g_.1<=l.length/\g_.2.2=E6 id (l[Dn]).From (l.take g_.1)) (fun g_=>l.length-g_.1) (0,(nS),[]) O (by exact ⟨by simp,by simp [E6,S0]⟩) (sF O) (ic [0] [] O) ?_
 rintro ⟨k,v,acc⟩ ⟨hk,HA⟩
 dsimp only at *
 have hal:acc.length<=k:=by rw [HA];exact Nat.le_trans (BG _ _ _) (List.length_take_le _ _)
 refine R.reg O<|?_
 by_cases h4:k<l.length
 .
  refine R.q (q.dz O O) O<|R.nil<|R.av O O<|R.reg O<|?_
  obtain ⟨x2,hx2⟩:∃z,l[k]? = some z:=⟨_,List.getElem?_eq_getElem (by omega)⟩
  refine R.q (q.idx (i:=k) (fun _=>Wd.old ew) O O dK O hx2) O<|R.q (q.eS (ds:=im x2) (fun _=>Wd.old ew) hx2 O aM O) O<|R.s O (s.alloc bQ O O) fun b4=>?_
  refine R.s O (s.st 0 _ O O O O (.inl aM) O O O O) fun _=>?_
  refine R.nil<|R.reg O<|R.q (q.aO O bV O) O<|R.q (q.ld 0 O O au O) O<|R.u 1 O<|?_
  by_cases h5:x2.ID=id
  .
   refine R.q (q.fI O O) O<|R.nil<|R.av O O<|R.reg O<|R.q (q.bB (r:=((k+1:Nat):Int)) O O) O<|R.u 1 O<|R.nil<|R.back (k+1,v,acc) O (by (exact ⟨by omega,by rw [HA,GB hx2 ‹_›]⟩)) (by dsimp only;omega) (sF O) (ic [1] [] O)
  refine R.q (q.e9 O O) O<|R.nil<|R.aB O O<|R.reg O<|R.q (q.aO O eX O) O<|R.q (q.ld 0 O O au O) O<|R.u 1 O<|?_
  by_cases h6:x2.From=id
  .
   refine R.q (q.fI O O) O<|R.nil<|R.av O O<|R.reg O<|R.u 1 O<|R.q (q.aO O eX O) O<|R.s O (s.st 0 _ O O O O (.inr ⟨au,rfl⟩) O O O O) fun _=>?_
   refine R.nil<|R.reg O<|R.u 1 O<|R.q (q.dh 0 O O aM) O<|R.s O (s.bs (l:=([(⟨x2.ID,x2.aE,x2.Rights,x2.aQ,(l[Dn]).From⟩:ak)]:List ak)) dK bQ O O O O O O O) fun b5=>?_
   refine R.s O (s.app 2 _ O O O (bC 0 O) ln (by simp;omega) (by simp;omega) (fun _=>rfl) O) fun v3=>?_
   refine R.u 1 O<|R.nil<|R.reg O<|R.q (q.bB (r:=((k+1:Nat):Int)) O O) O<|R.u 1 O<|R.nil<|R.back (k+1,v3,(acc++([(⟨x2.ID,x2.aE,x2.Rights,x2.aQ,(l[Dn]).From⟩:ak)]))) O (by (exact ⟨by omega,by rw [HA,tj hx2 ‹_›,Dm ‹_›]⟩)) (by dsimp only;omega) (sF O) (ic [2] [] O)
  refine R.q (q.e9 O O) O<|R.nil<|R.aB O O<|R.reg O<|R.u 1 O<|R.q (q.dh 0 O O aM) O<|R.s O (s.bs (l:=([x2]:List ak)) dK bQ O O O O O O O) fun b6=>?_
  refine R.s O (s.app 2 _ O O O (bC 0 O) ln (by simp;omega) (by simp;omega) (fun _=>rfl) O) fun v4=>?_
  refine R.u 1 O<|R.nil<|R.reg O<|R.q (q.bB (r:=((k+1:Nat):Int)) O O) O<|R.u 1 O<|R.nil<|R.back (k+1,v4,(acc++([x2]))) O (by (exact ⟨by omega,by rw [HA,tj hx2 ‹_›,zL ‹_›]⟩)) (by dsimp only;omega) (sF O) (ic [2] [] O)
 exact R.q (q.cW O O) O<|R.nil<|R.aB O O<|R.reg O<|R.u 2 O<|R.nil<|R.ro 0 O Tryz.results54 O O (by (rw [HA,List.take_of_length_le (by omega)];unfold without;rw [uO gU (List.getElem?_eq_getElem lY)]))
end
section
open Go.RowKit
theorem xI {l:List ak}{k:Nat}{x y:ak}(hx:l[k]? = some x)(h:hY l k=0)(hk:0<k)(hy:l[k-1]? = some y):y.ID<x.ID:=by
 have hw:=tg hx h
 have h0:ct x=0:=by rcases kz x with h1|h1;exact h1;rw [jj hx (by omega)] at h;omega
 rcases Int.lt_or_le y.ID x.ID with h1|h1
 .exact h1
 .rw [m9 hx h0 hk hy (by omega)] at h;omega
theorem cS.rise {l:List ak}(h:cS l):∀ (j i:Nat) {x y:ak},i<j->l[j]? = some x->l[i]? = some y->y.ID<x.ID
 | 0,i,x,y,hij,hx,hy=>by omega
 | j+1,i,x,y,hij,hx,hy=>by
  have hlt:j+1<l.length:=(List.getElem?_eq_some_iff.1 hx).1
  have hz:l[j]? = some l[j]:=List.getElem?_eq_getElem (by omega)
  have h1:=xI hx (h.steps _ hlt) (by omega) hz
  by_cases hj:i=j
  .subst hj;rw [hz] at hy;injection hy with hy;subst hy;exact h1
  .have:=h.rise j i (by omega) hz hy;omega
theorem cS.inj {l:List ak}(h:cS l){x y:ak}(hx:x∈l)(hy:y∈l)(he:x.ID=y.ID):x=y:=by
 obtain ⟨i,hi⟩:=List.mem_iff_getElem?.1 hx
 obtain ⟨j,hj⟩:=List.mem_iff_getElem?.1 hy
 rcases Nat.lt_trichotomy i j with h1|h1|h1
 .have:=h.rise j i h1 hj hi;omega
 .subst h1;rw [hi] at hj;injection hj
 .have:=h.rise i j h1 hi hj;omega
theorem xJ {l:List ak}{k:Nat}{x:ak}(hx:l[k]? = some x)(h:hY l k=0)(h0:x.From≠0) :
 ∃j y,j<k/\l[j]? = some y/\y.ID=x.From/\(derived y x.ID x.Rights x.aQ).2=0/\(derived y x.ID x.Rights x.aQ).1=x:=by
 have hw:ct x=0:=by rcases kz x with h1|h1;exact h1;rw [jj hx (by omega)] at h;omega
 have hsh:¬ 0<k ∨ ∃y,l[k-1]? = some y/\y.ID<x.ID:=by
  by_cases hk:0<k
  .
   have hlt:k<l.length:=(List.getElem?_eq_some_iff.1 hx).1
   exact .inr ⟨_,List.getElem?_eq_getElem (by omega),xI hx h hk (List.getElem?_eq_getElem (by omega))⟩
  .exact .inl hk
 rcases fk (l.take k) x.From with ⟨h1,h2⟩ | ⟨j,hj,h1,h2,h3⟩
 .rw [xH hx hw hsh h0 h1] at h;omega
 .
  have hjk:j<k:=by rw [List.length_take] at hj;omega
  have hlt:k<l.length:=(List.getElem?_eq_some_iff.1 hx).1
  have hy:l[j]? = some l[j]:=List.getElem?_eq_getElem (by omega)
  rw [jk hx hw hsh h0 h1 hjk hy] at h
  have hid:(l[j]'(by omega)).ID=x.From:=by simpa [List.getElem_take] using h2
  by_cases hd:(derived l[j] x.ID x.Rights x.aQ).2≠0
  .rw [if_pos hd] at h;exact absurd h hd
  .
   rw [if_neg hd] at h
   by_cases he:(derived l[j] x.ID x.Rights x.aQ).1≠x
   .rw [if_pos he] at h;omega
   .exact ⟨j,_,hjk,hy,hid,by simpa using hd,by simpa using he⟩
theorem mg {l:List ak}{x:ak}(hx:x∈l):0<=cJ l x.ID:=by
 rcases fk l x.ID with ⟨h1,h2⟩ | ⟨k,hk,h1,h2,_⟩
 .exact absurd rfl (h2 x hx)
 .omega
theorem og {l:List ak}{f:Int}(h:0<=cJ l f):∃y,l[(cJ l f).toNat]? = some y/\y.ID=f/\y∈l/\eO l f=y.From:=by
 obtain ⟨y,h1,h2,h3⟩:=Dl l f h
 exact ⟨y,h1,h2,h3,uO (j:=(cJ l f).toNat) (by omega) h1⟩
theorem xK {l:List ak}{f:Int}(h:cJ l f<0):eO l f=0:=by
 rcases fk l f with ⟨h1,_⟩ | ⟨k,hk,h1,_⟩
 .exact uP h1
 .omega
theorem cS.uQ {l:List ak}(h:cS l){f:Int}(hf:0<=cJ l f):0<f/\f<=999/\0<=eO l f/\eO l f<f:=by
 obtain ⟨y,h1,h2,h3,h4⟩:=og hf
 have w:=h.mem h3
 have:=w.id1;have:=w.Rj;have:=w.Qu;have:=w.OB
 omega
def chain (l:List ak)(f:Int):List Int :=
  if h:0<=cJ l f/\0<f/\eO l f<f then f::chain l (eO l f) else []
termination_by f.toNat
decreasing_by omega
def above (l:List ak)(id:Int):List Int:=chain l (eO l id)
theorem sk {l:List ak}(h:cS l){f:Int}(hf:0<=cJ l f):chain l f=f::chain l (eO l f):=by
 have:=h.uQ hf
 rw [chain,dif_pos ⟨hf,by omega,by omega⟩]
theorem E7 {l:List ak}{f:Int}(hf:cJ l f<0):chain l f=[]:=by
 rw [chain,dif_neg (by omega)]
def E8 (id:Int)(acc:List Int)(x:ak):List Int:=if (x.From=id∨x.From∈acc)/\0<x.From then acc++[x.ID] else acc
def kA (id:Int)(l:List ak):List Int:=l.foldl (E8 id) []
theorem Dp {id:Int}{l:List ak}{k:Nat}{x:ak}{S:List Int}(hx:l[k]? = some x)(hS:∀z,z∈S↔z=id∨z∈kA id (l.take k))(h:x.From∈S)(h0:0<x.From):kA id (l.take (k+1))=kA id (l.take k)++[x.ID]:=by
 unfold kA at *
 rw [List.take_add_one,hx,List.foldl_append]
 simp only [Option.toList,List.foldl_cons,List.foldl_nil]
 unfold E8 at *
 rw [if_pos ⟨(hS _).1 h,h0⟩]
theorem uf {id:Int}{l:List ak}{k:Nat}{x:ak}{S:List Int}(hx:l[k]? = some x)(hS:∀z,z∈S↔z=id∨z∈kA id (l.take k))(h:¬ (x.From∈S/\0<x.From)):kA id (l.take (k+1))=kA id (l.take k):=by
 unfold kA at *
 rw [List.take_add_one,hx,List.foldl_append]
 simp only [Option.toList,List.foldl_cons,List.foldl_nil]
 unfold E8 at *
 rw [if_neg (fun hc=>h ⟨(hS _).2 hc.1,hc.2⟩)]
theorem KJ (id:Int)(l:List ak):(kA id l).length<=l.length:=by
 have:∀ (l:List ak) (acc:List Int),(l.foldl (E8 id) acc).length<=acc.length+l.length:=by
  intro l
  induction l with
  | nil=>intro acc;simp
  | cons x l ih =>
   intro acc
   have:=ih (E8 id acc x)
   have h2:(E8 id acc x).length<=acc.length+1:=by unfold E8;split <;> simp
   simp only [List.foldl_cons,List.length_cons];omega
 simpa [kA] using this l []
def up (l:List ak)(id f:Int):Int :=
  if h:0<f/\f≠id/\0<=cJ l f/\eO l f<f then up l id (eO l f) else f
termination_by f.toNat
decreasing_by omega
theorem GD {l:List ak}(h:cS l){id f:Int}(h1:f≠id)(h2:0<=cJ l f):up l id f=up l id (eO l f):=by
 have:=h.uQ h2
 rw [up,dif_pos ⟨by omega,h1,h2,by omega⟩]
theorem BH {l:List ak}{id f:Int}(h:¬ 0<f∨f=id∨cJ l f<0):up l id f=f:=by
 rw [up,dif_neg (by omega)]
def Rk (l:List ak)(id:Int)(x:ak):Bool:=decide (up l id x.From=id)&&decide (0<id)
def vv (l:List ak)(id:Int)(m:List ak):List Int:=(m.filter (Rk l id)).map ak.ID
theorem KL {l0:List ak}{id:Int}{l:List ak}{k:Nat}{x:ak}(hx:l[k]? = some x)(h:up l0 id x.From=id)(h0:0<id):vv l0 id (l.take (k+1))=vv l0 id (l.take k)++[x.ID]:=by
 unfold vv
 rw [List.take_add_one,hx,List.filter_append];simp [Rk,h,h0]
theorem H7 {l0:List ak}{id:Int}{l:List ak}{k:Nat}{x:ak}(hx:l[k]? = some x)(h:¬ (up l0 id x.From=id/\0<id)):vv l0 id (l.take (k+1))=vv l0 id (l.take k):=by
 unfold vv
 rw [List.take_add_one,hx,List.filter_append]
 have:Rk l0 id x=false:=by unfold Rk;rw [Bool.and_eq_false_iff];by_cases h1:up l0 id x.From=id;right;simpa using (fun h2=>h ⟨h1,h2⟩);left;simpa using h1
 simp [this]
def beneath (l:List ak)(id:Int):List Int:=vv l id l
theorem KM {l:List ak}(h:cS l)(id:Int):∀k,k<=l.length->kA id (l.take k)=vv l id (l.take k)
 | 0,_=>by simp [kA,vv]
 | k+1,hk=>by
  have ih:=KM h id k (by omega)
  have hx:l[k]? = some l[k]:=List.getElem?_eq_getElem (by omega)
  have hS:∀z,z∈id::kA id (l.take k)↔z=id∨z∈kA id (l.take k):=fun z=>by simp
  have w:=tg hx (h.steps k (by omega))
  have key:((l[k]).From∈id::kA id (l.take k)/\0<(l[k]).From)↔(up l id (l[k]).From=id/\0<id):=by
   by_cases h0:(l[k]).From=0
   .
    rw [h0,BH (.inl (by omega))]
    constructor
    .intro h;omega
    .intro h;omega
   .
    have hpos:0<(l[k]).From:=by have:=w.Rj;omega
    by_cases he:(l[k]).From=id
    .
     rw [BH (.inr (.inl he))]
     constructor
     .intro _;exact ⟨he,by omega⟩
     .intro _;exact ⟨by rw [he];simp,hpos⟩
    .
     obtain ⟨j,y,hj,hy,hid,_,_⟩:=xJ hx (h.steps k (by omega)) h0
     have hym:y∈l:=List.mem_of_getElem? hy
     have hfi:0<=cJ l (l[k]).From:=by rw [<- hid];exact mg hym
     rw [GD h he hfi]
     obtain ⟨y',_,hy2,hy3,hy4⟩:=og hfi
     have:y'=y:=h.inj hy3 hym (by rw [hy2,hid])
     subst this
     rw [hy4,ih]
     have hmem:(l[k]).From∈vv l id (l.take k)↔(up l id y'.From=id/\0<id):=by
      unfold vv
      simp only [List.mem_map,List.mem_filter,Rk,Bool.and_eq_true,decide_eq_true_eq]
      constructor
      .
       rintro ⟨z,⟨hz,hz2⟩,hz3⟩
       have:z=y':=h.inj (List.mem_of_mem_take hz) hy3 (by rw [hz3,hid])
       subst this;exact hz2
      .
       intro hh
       exact ⟨y',⟨List.mem_of_getElem? (i:=j) (by rw [List.getElem?_take,if_pos hj];exact hy),hh⟩,hid⟩
     constructor
     .
      rintro ⟨h1,_⟩
      rcases List.mem_cons.1 h1 with h1|h1
      .exact absurd h1 he
      .exact hmem.1 h1
     .intro h1;exact ⟨List.mem_cons.2 (.inr (hmem.2 h1)),hpos⟩
  by_cases hc:up l id (l[k]).From=id/\0<id
  .
   have:=key.2 hc
   rw [Dp hx hS this.1 this.2,KL hx hc.1 hc.2,ih]
  .rw [uf hx hS (fun hh=>hc (key.1 hh)),H7 hx hc,ih]
theorem MS {l:List ak}(h:cS l)(id:Int):kA id l=beneath l id:=by
 have:=KM h id l.length (Nat.le_refl _)
 simpa [beneath,List.take_length] using this
theorem Dq {l:List ak}(h:cS l){a:Int}(ha:0<=cJ l a)(f:Int)(hf0:0<=f):up l a f=a↔a∈chain l f:=by
 have ha0:=h.uQ ha
 by_cases he:f=a
 .subst he;rw [BH (.inr (.inl rfl)),sk h ha];simp
 .
  rcases Int.lt_or_le (cJ l f) 0 with h1|h1
  .rw [BH (.inr (.inr h1)),E7 h1];simp [he]
  .
   have hf:=h.uQ h1
   rw [GD h he h1,sk h h1,Dq h ha (eO l f) hf.2.2.1]
   simp [Ne.symm he]
termination_by f.toNat
decreasing_by omega
end
section
open Go Go.RowKit
theorem BJ (bP:Value)(l:List ak)(id:Int)(w:World)(ew:Sl w bP l)(hl:l.length<=1000000):Calls Tryz.prog 122 #[bP,iV id] w fun e w' => ∃u,e = .returned u/\Own w.heap.size 3 w' u (kA id l)/\Ext w w':=by
 have zx:=ew.fB
 refine R.enter [] [(0,bP),(1,iV id)] Tryz.func122 O O O O<|R.reg O<|R.u 1 O<|R.nil<|R.reg O<|R.s O (s.mk O) fun b1=>?_
 refine R.u 1 O<|R.s O (s.T2 0 _ O O O O sV O) fun _=>?_
 refine R.u 2 O<|R.nil<|R.reg O<|R.u 1 O<|R.nil<|R.reg O<|R.u 1 O<|R.q (q.len' (fun _=>Wd.old ew) O Tryz.underlying43) O<|R.u 1 O<|R.nil<|R.row0 (α:=Int) 3<|R.loop (fun g_:Nat×Value×(List Int)×(List Int)=>[(5,.map (some b1)),(6,g_.2.1),(12,bP),(13,iV (l.length:Int)),(14,iV (g_.1:Int))]) (fun g_=>[ag.row 3 g_.2.1 g_.2.2.1,ag.oA b1 g_.2.2.2]) (fun g_=>[]) (fun g_=>g_.1<=l.length/\g_.2.2.1=kA id (l.take g_.1) /\ ∀z,z∈g_.2.2.2↔z=id∨z∈g_.2.2.1) (fun g_=>l.length-g_.1) (0,(nS),[],[id]) O (by exact ⟨by simp,by simp [kA],by simp⟩) (sF O) (ic [0,1] [] O) ?_
 rintro ⟨k,v,acc,S⟩ ⟨hk,HA,HS⟩
 dsimp only at *
 have hal:acc.length<=k:=by rw [HA];exact Nat.le_trans (KJ _ _) (List.length_take_le _ _)
 refine R.reg O<|?_
 by_cases h1:k<l.length
 .
  refine R.q (q.dz O O) O<|R.nil<|R.av O O<|R.reg O<|?_
  obtain ⟨x1,hx1⟩:∃z,l[k]? = some z:=⟨_,List.getElem?_eq_getElem (by omega)⟩
  refine R.q (q.idx (i:=k) (fun _=>Wd.old ew) O O dK O hx1) O<|R.q (q.eS (ds:=im x1) (fun _=>Wd.old ew) hx1 O aM O) O<|R.s O (s.alloc bQ O O) fun b2=>?_
  refine R.s O (s.st 0 _ O O O O (.inl aM) O O O O) fun _=>?_
  refine R.nil<|R.reg O<|R.u 1 O<|R.q (q.aO O eX O) O<|R.q (q.ld 0 O O au O) O<|?_
  by_cases h2:x1.From∈S
  .
   refine R.q (q.NU 2 O O O sV (decide_eq_true h2)) O<|R.u 1 O<|R.qg O (q.aO O eX O) O<|R.qg O (q.ld 0 O O au O) O<|?_
   by_cases h3:0<x1.From
   .
    refine R.qg O (q.eL O O) O<|R.u 1 O<|R.nil<|R.av O O<|R.reg O<|R.u 1 O<|R.q (q.aO O bV O) O<|R.q (q.ld 0 O O au O) O<|R.s O (s.Vp 2 _ O O O O sV O) fun _=>?_
    refine R.nil<|R.reg O<|R.u 1 O<|R.q (q.aO O bV O) O<|R.q (q.ld 0 O O au O) O<|R.s O (s.bs (l:=([x1.ID]:List Int)) df lW O O O O O O O) fun b3=>?_
    refine R.s O (s.app 2 _ O O O (bC 0 O) nQ (by simp;omega) (by simp;omega) (fun _=>rfl) O) fun v1=>?_
    refine R.u 1 O<|R.nil<|R.reg O<|R.q (q.bB (r:=((k+1:Nat):Int)) O O) O<|R.u 1 O<|R.nil<|R.back (k+1,v1,(acc++([x1.ID])),(x1.ID::S)) O (by (exact ⟨by omega,by rw [HA,Dp hx1 (HA▸HS) ‹_› ‹_›],by intro z;rw [List.mem_cons,HS,List.mem_append,List.mem_singleton];constructor <;> (intro h;rcases h with h|h|h <;> simp [h])⟩)) (by dsimp only;omega) (sF O) (ic [2,3] [] O)
   refine R.qg O (q.eo O O) O<|R.u 1 O<|R.nil<|R.aB O O<|R.reg O<|R.q (q.bB (r:=((k+1:Nat):Int)) O O) O<|R.u 1 O<|R.nil<|R.back (k+1,v,acc,S) O (by (exact ⟨by omega,by rw [HA,uf hx1 (HA▸HS) (by (intro hh;exact absurd hh.2 ‹_›))],HS⟩)) (by dsimp only;omega) (sF O) (ic [1,2] [] O)
  refine R.q (q.NU 2 O O O sV (decide_eq_false h2)) O<|R.u 5 O<|R.nil<|R.aB O O<|R.reg O<|R.q (q.bB (r:=((k+1:Nat):Int)) O O) O<|R.u 1 O<|R.nil<|R.back (k+1,v,acc,S) O (by (exact ⟨by omega,by rw [HA,uf hx1 (HA▸HS) (by (intro hh;exact absurd hh.1 ‹_›))],HS⟩)) (by dsimp only;omega) (sF O) (ic [1,2] [] O)
 exact R.q (q.cW O O) O<|R.nil<|R.aB O O<|R.reg O<|R.u 2 O<|R.nil<|R.ro 0 O Tryz.results122 O O (by (rw [HA,List.take_of_length_le (by omega)]))
end
section
open Go.RowKit
structure Made (y x:ak):Prop where
  thing:y.aE=x.aE
  has:ji y.Rights x.Rights=true
  dM:y.aQ=0∨x.aQ=y.aQ
  gp:y.ID=x.From
theorem MU {y x:ak}(h1:(derived y x.ID x.Rights x.aQ).2=0)(h2:(derived y x.ID x.Rights x.aQ).1=x):Made y x:=by
 unfold derived at h1 h2
 split at h1;· simp at h1
 split at h1;· simp at h1
 split at h1;· simp at h1
 split at h1;· simp at h1
 split at h1;· simp at h1
 rename_i a b c d e
 rw [if_neg a,if_neg b,if_neg c,if_neg d,if_neg e] at h2
 have ht:=congrArg ak.aE h2
 have hb:=congrArg ak.aQ h2
 have hf:=congrArg ak.From h2
 simp only [] at ht hb hf
 refine ⟨ht,by simpa using d,?_,hf⟩
 by_cases h0:x.aQ=0
 .rw [if_pos h0] at hb;exact .inl (by omega)
 .
  by_cases hy:y.aQ=0
  .exact .inl hy
  .
   right
   by_cases he:x.aQ=y.aQ
   .exact he
   .exact absurd ⟨h0,hy,he⟩ e
theorem E9 {y x:ak}(w:Ri x)(h:Made y x):derived y x.ID x.Rights x.aQ=(x,0):=by
 have:=w.KG;have:=w.KH;have:=w.Qr;have:=w.Qs
 unfold derived
 rw [if_neg (by rw [gQ w.KG w.KH];omega),if_neg (by omega),if_neg (by omega),if_neg (by rw [h.has];simp),if_neg (by rintro ⟨h1,h2,h3⟩;rcases h.dM with h4|h4 <;> omega)]
 have hb:(if x.aQ=0 then y.aQ else x.aQ)=x.aQ:=by
  split
  .rcases h.dM with h4|h4 <;> omega
  .rfl
 rw [hb,h.thing,h.gp]
theorem KN:∀a b c:Fin 8,ji ((a:Nat):Int) ((b:Nat):Int)=true->ji ((b:Nat):Int) ((c:Nat):Int)=true->ji ((a:Nat):Int) ((c:Nat):Int)=true:=by decide
theorem Ul {a b c:Int}(a0:0<=a)(a7:a<=7)(b0:0<=b)(b7:b<=7)(c0:0<=c)(c7:c<=7)(h:ji a b=true)(k:ji b c=true):ji a c=true:=by
 obtain ⟨x,rfl⟩:=E5 a0 a7;obtain ⟨y,rfl⟩:=E5 b0 b7;obtain ⟨z,rfl⟩:=E5 c0 c7;exact KN x y z h k
structure ug (l:List ak):Prop where
  ok:∀x∈l,ct x=0
  rise:l.Pairwise (fun x y=>x.ID<y.ID)
  made:∀x∈l,x.From≠0 -> ∃y∈l,Made y x
theorem cS.fault {l:List ak}(h:cS l){x:ak}(hx:x∈l):ct x=0:=by
 obtain ⟨j,hj⟩:=List.mem_iff_getElem?.1 hx
 rcases kz x with h1|h1
 .exact h1
 .have:=jj hj (by omega);rw [h.steps j (List.getElem?_eq_some_iff.1 hj).1] at this;omega
theorem cS.is {l:List ak}(h:cS l):ug l:=by
 refine ⟨fun x hx=>h.fault hx,?_,fun x hx h0=>?_⟩
 .
  rw [List.pairwise_iff_getElem]
  intro i j hi hj hij
  exact h.rise j i hij (List.getElem?_eq_getElem hj) (List.getElem?_eq_getElem hi)
 .
  obtain ⟨k,hk⟩:=List.mem_iff_getElem?.1 hx
  obtain ⟨j,y,hj,hy,_,h1,h2⟩:=xJ hk (h.steps k (List.getElem?_eq_some_iff.1 hk).1) h0
  exact ⟨y,List.mem_of_getElem? hy,MU h1 h2⟩
theorem qq {l:List ak}(h:l.Pairwise (fun x y=>x.ID<y.ID)){i j:Nat}{x y:ak}(hi:l[i]? = some x)(hj:l[j]? = some y)(hij:i<j):x.ID<y.ID:=by
 rw [List.pairwise_iff_getElem] at h
 obtain ⟨h1,rfl⟩:=List.getElem?_eq_some_iff.1 hi
 obtain ⟨h2,rfl⟩:=List.getElem?_eq_some_iff.1 hj
 exact h i j h1 h2 hij
theorem ug.ok' {l:List ak}(h:ug l):cS l:=by
 refine qn fun k hk=>?_
 have hx:l[k]? = some l[k]:=List.getElem?_eq_getElem hk
 have hm:l[k]∈l:=List.getElem_mem hk
 have h0:=h.ok _ hm
 have w:=BF h0
 have hsh:¬ 0<k ∨ ∃y,l[k-1]? = some y/\y.ID<(l[k]).ID:=by
  by_cases h1:0<k
  .
   have hy:l[k-1]? = some (l[k-1]'(by omega)):=List.getElem?_eq_getElem (by omega)
   exact .inr ⟨_,hy,qq h.rise hy hx (by omega)⟩
  .exact .inl h1
 by_cases hf:(l[k]).From=0
 .exact xG hx h0 hsh hf
 .
  obtain ⟨y,hy,hmd⟩:=h.made _ hm hf
  obtain ⟨j,hj⟩:=List.mem_iff_getElem?.1 hy
  have hjl:j<l.length:=(List.getElem?_eq_some_iff.1 hj).1
  have hjk:j<k:=by
   rcases Nat.lt_trichotomy j k with h1|h1|h1
   .exact h1
   .
    subst h1;rw [hj] at hx;injection hx with hx
    have:=hmd.gp;have:=w.Qu;rw [hx] at *;omega
   .have:=qq h.rise hx hj h1;have:=hmd.gp;have:=w.Qu;omega
  have hfw:cJ (l.take k) (l[k]).From=(j:Int):=by
   have hl:j<(l.take k).length:=by rw [List.length_take];omega
   have hge:(l.take k)[j]=y:=by
    rw [List.getElem_take];exact (List.getElem?_eq_some_iff.1 hj).2
   refine KF hl (by rw [hge];exact hmd.gp) (fun i z hi hz=>?_)
   have hz':l[i]? = some z:=by rw [List.getElem?_take,if_pos (by omega)] at hz;exact hz
   have:=qq h.rise hz' hj hi
   have:=hmd.gp;omega
  rw [jk hx h0 hsh hf hfw hjk hj]
  have:=E9 w hmd
  rw [this];simp
theorem zM {l:List ak}(h:cS l){a b:Int}(ha:0<=cJ l a)(hb:0<=cJ l b):b∈kA a l↔a∈above l b:=by
 rw [MS h]
 have ha0:=h.uQ ha
 have hb0:=h.uQ hb
 unfold beneath vv above
 rw [<- Dq h ha _ hb0.2.2.1]
 simp only [List.mem_map,List.mem_filter,Rk,Bool.and_eq_true,decide_eq_true_eq]
 obtain ⟨y,_,hy2,hy3,hy4⟩:=og hb
 constructor
 .
  rintro ⟨x,⟨hx,hu,_⟩,hid⟩
  have:x=y:=h.inj hx hy3 (by omega)
  subst this;rw [hy4];exact hu
 .
  intro hu
  exact ⟨y,⟨hy3,by rw [<- hy4];exact hu,ha0.1⟩,hy2⟩
theorem gK {l:List ak}{id:Int}{x:ak}:x∈without l id ↔ ∃y∈l,y.ID≠id/\x=mN id (eO l id) y:=by
 unfold without E6
 simp only [List.mem_map,List.mem_filter,decide_eq_true_eq]
 constructor
 .rintro ⟨y,⟨h1,h2⟩,rfl⟩;exact ⟨y,h1,h2,rfl⟩
 .rintro ⟨y,h1,h2,rfl⟩;exact ⟨y,⟨h1,h2⟩,rfl⟩
theorem kB {id f:Int}(x:ak):(mN id f x).ID=x.ID/\(mN id f x).aE=x.aE/\(mN id f x).Rights=x.Rights/\(mN id f x).aQ=x.aQ:=by unfold mN;split <;> exact ⟨rfl,rfl,rfl,rfl⟩
theorem uh {id f:Int}(x:ak):(mN id f x).From=if x.From=id then f else x.From:=by unfold mN;split <;> rfl
theorem MV {x:ak}(h:ct x=0){f:Int}(h0:0<=f)(h1:f<x.ID):ct { x with From:=f }=0:=by
 have w:=BF h
 rcases gq { x with From:=f } with ⟨h2,h3⟩ | ⟨h2,_⟩
 .
  have:=w.id1;have:=w.OB;have:=w.Qp;have:=w.Qq;have:=w.Qr;have:=w.Qs;have:=w.KG;have:=w.KH
  simp only [] at h3;omega
 .exact h2
theorem MW {id f:Int}{y x:ak}(h:Made y x)(hf:x.From≠id):Made (mN id f y) (mN id f x):=by
 have hy:=kB (id:=id) (f:=f) y
 have hx:=kB (id:=id) (f:=f) x
 refine ⟨by rw [hy.2.1,hx.2.1];exact h.thing,by rw [hy.2.2.1,hx.2.2.1];exact h.has,by rw [hy.2.2.2,hx.2.2.2];exact h.dM,?_⟩
 rw [hy.1,uh,if_neg hf];exact h.gp
theorem cS.wo {l:List ak}(h:cS l)(id:Int):cS (without l id):=by
 have hi:=h.is
 refine ug.ok' ⟨fun x hx=>?_,?_,fun x hx h0=>?_⟩
 .
  obtain ⟨y,hy,hne,rfl⟩:=gK.1 hx
  have Um:=hi.ok y hy
  unfold mN
  split
  .
   rename_i he
   have w:=BF Um
   have:=w.Rj;have:=w.Qu
   have hid:0<=eO l id/\(0<eO l id->eO l id<id):=by
    rcases Int.lt_or_le (cJ l id) 0 with h1|h1
    .rw [xK h1];omega
    .have:=h.uQ h1;omega
   exact MV Um hid.1 (by omega)
  .exact Um
 .
  unfold without E6
  rw [List.pairwise_map]
  refine (hi.rise.filter _).imp ?_
  intro a b hab
  rw [(kB a).1,(kB b).1];exact hab
 .
  obtain ⟨y,hy,hne,rfl⟩:=gK.1 hx
  rw [uh] at h0
  by_cases he:y.From=id
  .
   rw [if_pos he] at h0
   have hid:0<=cJ l id:=by
    rcases Int.lt_or_le (cJ l id) 0 with h1|h1
    .rw [xK h1] at h0;exact absurd rfl h0
    .exact h1
   obtain ⟨p,_,hp2,hp3,Un⟩:=og hid
   have V2:=h.uQ hid
   obtain ⟨z,hz,S2⟩:=hi.made p hp3 (by rw [<- Un];exact h0)
   have hy0:y.From≠0:=by rw [he];omega
   obtain ⟨p',hp',hpy⟩:=hi.made y hy hy0
   have:p'=p:=h.inj hp' hp3 (by rw [hpy.gp,he,hp2])
   subst this
   have Uo:z.ID≠id:=by have:=S2.gp;rw [<- Un] at this;omega
   refine ⟨mN id (eO l id) z,gK.2 ⟨z,hz,Uo,rfl⟩,?_⟩
   have wz:=h.mem hz;have wp:=h.mem hp3;have wy:=h.mem hy
   have hz':=kB (id:=id) (f:=eO l id) z
   have hy':=kB (id:=id) (f:=eO l id) y
   refine ⟨by rw [hz'.2.1,hy'.2.1,S2.thing,hpy.thing],by rw [hz'.2.2.1,hy'.2.2.1];exact Ul wz.KG wz.KH wp.KG wp.KH wy.KG wy.KH S2.has hpy.has,?_,?_⟩
   .
    rw [hz'.2.2.2,hy'.2.2.2]
    rcases S2.dM with h1|h1
    .exact .inl h1
    .
     rcases hpy.dM with h2|h2
     .exact .inl (by omega)
     .exact .inr (by omega)
   .rw [hz'.1,uh,if_pos he,S2.gp,Un]
  .
   rw [if_neg he] at h0
   obtain ⟨p,hp,hpy⟩:=hi.made y hy h0
   exact ⟨mN id (eO l id) p,gK.2 ⟨p,hp,by rw [hpy.gp];exact he,rfl⟩,MW hpy he⟩
end
end Go.Proofs.YtkbhcbipadkcaaaGreatDoor
