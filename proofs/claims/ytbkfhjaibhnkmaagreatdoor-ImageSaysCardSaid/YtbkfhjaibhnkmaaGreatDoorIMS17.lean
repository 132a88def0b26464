import Derived.Test.YtbkfhjaibhnkmaaGreatDoorIMS15
import Derived.Test.YtbkfhjaibhnkmaaGreatDoorIMS7
import Derived.Test.YtbkfhjaibhnkmaaGreatDoorIMS16
namespace Go.Proofs.YtbkfhjaibhnkmaaGreatDoor
open Go Go.RowKit
set_option linter.unusedVariables false
set_option maxRecDepth 100000
set_option maxHeartbeats 1000000 in
theorem su (bG:Value)(l:List ak)(w:World)(df:Sl w bG l):Calls Tryz.prog 26 #[bG] w fun e w'=>e = .returned (fc (ej l))∧Ext w w':=by
 have pV:=df.ec
 refine R.enter (n:=68) (vs:=[bG]) [] [(0,bG)] Tryz.func26 O O O O ?_
 refine R.reg O<|R.u 1 O<|R.nil ?_
 refine R.reg O<|R.u 1 O<|R.q (q.len' (fun _=>Wd.old df) O Tryz.underlying27) O<|R.u 1 O<|R.nil ?_
 refine R.loop (fun k:Nat=>[(0,bG),(8,bG),(9,iV (l.length:Int)),(10,iV (k:Int))]) (fun k:Nat=>[]) (fun k:Nat=>[]) (fun k:Nat=>k≤l.length ∧ ∀j,j<k→fO l j=0) (fun k:Nat=>l.length-k) 0 O (by exact ⟨by omega,fun j hj=>absurd hj (Nat.not_lt_zero _)⟩) ⟨rfl,rfl,rfl,rfl,trivial⟩ (fun _=>Wd.pick [] [] O O O) ?_
 rintro k ⟨hk,HA⟩
 refine R.reg O<|?_
 by_cases h1:k<l.length
 ·
  refine R.q (q.lss O O (decide_eq_true (by omega))) O<|R.nil ?_
  refine R.aE O O ?_
  refine R.reg O<|R.u 1 O<|?_
  obtain ⟨x1,hx1⟩:∃z,l[k]? = some z:=⟨_,List.getElem?_eq_getElem (by omega)⟩
  have IP:=ig x1
  refine R.q (q.idx (i:=k) (fun _=>Wd.old df) O O cK O hx1) O<|R.q (q.cY (ds:=ay x1) (fun _=>Wd.old df) hx1 O aP O) O<|R.s O (s.alloc (cs:=cC) bF O O) fun b1=>R.u 1 O<|R.s O (s.st (us:=ay x1) (cs':=ay x1) 0 _ O O O O (.inl aP) O O O O) fun _=>R.nil ?_
  refine R.reg O<|R.q (q.cj 0 O O aP) O<|R.c (q.call Hm O O (fun w hw=>(sr (x1) w  ))) O<|R.u 1 O<|R.nil ?_
  refine R.reg O<|R.u 1 O<|?_
  by_cases h2:cM x1=0
  ·
   refine R.q (q.gj O O Tryz.underlying35 (by omega)) O<|R.nil ?_
   refine R.aF O O ?_
   refine R.cut 2 (fun _u:Unit=>[(0,bG),(3,iV (k:Int)),(4,.pointer (some ⟨b1,0,none⟩)),(8,bG),(9,iV (l.length:Int)),(10,iV (k:Int))]) (fun _u:Unit=>[ag.box b1 (ay x1) 88]) (fun _u:Unit=>[]) (fun _u:Unit=>Hid (¬ 0<k ∨ ∃y,l[k-1]? = some y∧y.ID<x1.ID)) O O O ?_ ?_
   ·
    by_cases h3:0<k
    ·
     obtain ⟨x2,hx2⟩:∃z,l[(k-1)]? = some z:=⟨_,List.getElem?_eq_getElem (by omega)⟩
     have Gj:=ig x2
     by_cases h4:x2.ID<x1.ID
     ·
      refine R.dP O mixed (by kernel_rfl)<|Q.u 1 O<|Q.q (q.gtr O O (decide_eq_true (by omega))) O<|Q.u 1 O<|Q.qg O (q.aT (off':=0) O bI O) O<|Q.qg O (q.ld 0 O O aA O) O<|Q.u 2 O<|Q.qg O (q.sub (r:=((k-1:Nat):Int)) O O (wr (by omega))) O<|Q.qg O (q.idx (i:=(k-1)) (fun _=>Wd.old df) O O cK O hx2) O<|Q.qg O (q.dF (j':=0) (fun _=>Wd.old df) hx2 O bI O) O<|Q.qg O (q.fb (fun _=>Wd.old df) hx2 O aA O) O<|Q.qg O (q.leq O O (decide_eq_false (by omega))) O<|Q.u 1 O<|Q.nil ?_
      refine R.aF O O ?_
      exact R.meet () O (by (exact .inr ⟨_,hx2,by assumption⟩)) ⟨rfl,rfl,rfl,rfl,rfl,rfl,trivial⟩ (fun _=>Wd.pick [0] [] O O O)
     ·
      refine R.dP O mixed (by kernel_rfl)<|Q.u 1 O<|Q.q (q.gtr O O (decide_eq_true (by omega))) O<|Q.u 1 O<|Q.qg O (q.aT (off':=0) O bI O) O<|Q.qg O (q.ld 0 O O aA O) O<|Q.u 2 O<|Q.qg O (q.sub (r:=((k-1:Nat):Int)) O O (wr (by omega))) O<|Q.qg O (q.idx (i:=(k-1)) (fun _=>Wd.old df) O O cK O hx2) O<|Q.qg O (q.dF (j':=0) (fun _=>Wd.old df) hx2 O bI O) O<|Q.qg O (q.fb (fun _=>Wd.old df) hx2 O aA O) O<|Q.qg O (q.leq O O (decide_eq_true (by omega))) O<|Q.u 1 O<|Q.nil ?_
      refine R.aE O O ?_
      refine R.reg O<|R.q (q.iface O cL) O<|R.u 1 O<|R.nil ?_
      exact R.rv O Tryz.results26 O (eP (by decide) (by (exact (fG (by omega) (j7 hx1 (by omega) ‹_› hx2 ‹_›) (by decide) HA))))
    ·
     refine R.dP O mixed (by kernel_rfl)<|Q.u 1 O<|Q.q (q.gtr O O (decide_eq_false (by omega))) O<|Q.u 11 O<|Q.nil ?_
     refine R.aF O O ?_
     exact R.meet () O (by (exact .inl ‹_›)) ⟨rfl,rfl,rfl,rfl,rfl,rfl,trivial⟩ (fun _=>Wd.pick [0] [] O O O)
   ·
    rintro _u hS
    refine R.reg O<|R.q (q.aT (off':=4) O dX O) O<|R.q (q.ld 0 O O aA O) O<|?_
    by_cases h5:x1.From=0
    ·
     refine R.q (q.eql O O (beq_iff_eq.2 (by omega))) O<|R.nil ?_
     refine R.aE O O ?_
     refine R.reg O<|R.q (q.add (r:=((k+1:Nat):Int)) O O (wr (by omega))) O<|R.u 1 O<|R.nil ?_
     refine R.back (k+1) O (by (exact ⟨by omega,nM HA (rm hx1 (by omega) hS.out ‹_›)⟩)) (by omega) ⟨rfl,rfl,rfl,rfl,trivial⟩ (fun _=>Wd.pick [] [] O O O)
    ·
     refine R.q (q.eql O O (beq_eq_false_iff_ne.2 (by omega))) O<|R.nil ?_
     refine R.aF O O ?_
     rcases dR (l.take k) x1.From with ⟨eU,ug⟩ | ⟨lW,hZ,eU,oT,EK⟩
     ·
      refine R.dP O mixed (by kernel_rfl)<|Q.u 2 O<|Q.q (q.jj (i:=k) (fun _=>Wd.old df) O O Tryz.underlying27 tT O (by omega)) O<|Q.q (q.aT (off':=4) O dX O) O<|Q.q (q.ld 0 O O aA O) O<|Q.c (q.call lT O O (fun w hw=>(cv (congrArg (Value.int .i64) eU) (f4 _ ((l.take k)) (x1.From) w ((fun w hw=>Sl.to ((fun _=>Wd.old df) w hw) (by omega)) w hw) )))) O<|Q.u 1 O<|Q.nil ?_
      refine R.reg O<|R.u 1 O<|R.q (q.lss (b:=true) O O (by decide)) O<|R.nil ?_
      refine R.aE O O ?_
      refine R.reg O<|R.q (q.iface O cL) O<|R.u 1 O<|R.nil ?_
      exact R.rv O Tryz.results26 O (eP (by decide) (by (exact (fG (by omega) (rq hx1 (by omega) hS.out ‹_› eU) (by decide) HA))))
     ·
      refine R.dP O mixed (by kernel_rfl)<|Q.u 2 O<|Q.q (q.jj (i:=k) (fun _=>Wd.old df) O O Tryz.underlying27 tT O (by omega)) O<|Q.q (q.aT (off':=4) O dX O) O<|Q.q (q.ld 0 O O aA O) O<|Q.c (q.call lT O O (fun w hw=>(cv (congrArg (Value.int .i64) eU) (f4 _ ((l.take k)) (x1.From) w ((fun w hw=>Sl.to ((fun _=>Wd.old df) w hw) (by omega)) w hw) )))) O<|Q.u 1 O<|Q.nil ?_
      refine R.reg O<|R.u 1 O<|R.q (q.lss O O (decide_eq_false (by omega))) O<|R.nil ?_
      refine R.aF O O ?_
      have jL:lW<k:=by simp at hZ;omega
      obtain ⟨x3,hx3⟩:∃z,l[lW]? = some z:=⟨_,List.getElem?_eq_getElem (by omega)⟩
      have wx:=oy hx3 (HA lW jL)
      have IP:=wx.Bm;have Gj:=wx.Bn
      have wd:=f8 x3 x1.ID x1.Rights x1.aI
      refine R.e8 (fuel:=17) (Wd w [] [ag.box b1 (ay x1) 88] []) O mixed O ?_
      refine D.q (i:=0) O (by kernel_rfl) (aK [0] [] O O O) O (q.mv O) O<|D.q (i:=1) O (by kernel_rfl) (aK [0] [] O O O) O (q.mv O) O<|D.q (i:=2) O (by kernel_rfl) (aK [0] [] O O O) O (q.idx (i:=lW) (fun _=>Wd.old df) O O cK O hx3) O<|D.q (i:=3) O (by kernel_rfl) (aK [0] [] O O O) O (q.cY (ds:=ay x3) (fun _=>Wd.old df) hx3 O aP O) O<|D.q (i:=4) O (by kernel_rfl) (aK [0] [] O O O) O (q.aT (off':=0) O bI O) O<|D.q (i:=5) O (by kernel_rfl) (aK [0] [] O O O) O (q.ld 0 O O aA O) O<|D.q (i:=6) O (by kernel_rfl) (aK [0] [] O O O) O (q.aT (off':=2) O fj O) O<|D.q (i:=7) O (by kernel_rfl) (aK [0] [] O O O) O (q.ld 0 O O aA O) O<|D.q (i:=8) O (by kernel_rfl) (aK [0] [] O O O) O (q.aT (off':=3) O ei O) O<|D.q (i:=9) O (by kernel_rfl) (aK [0] [] O O O) O (q.ld 0 O O aA O) O<|D.two (i:=10) (j:=14) (by kernel_rfl) O O ?_ ?_
      ·
       refine Do.s (s.c (q.call u7 O O (fun w hw=>(jI (x3) (x1.ID) (x1.Rights) (x1.aI) w  (by omega)))) O) (fun _=>(aK [0] [] O O O)) O fun _=>D.q (i:=11) O (by kernel_rfl) (aK [0] [] O O O) O (q.mv O) O<|D.q (i:=12) O (by kernel_rfl) (aK [0] [] O O O) O (q.ext O O) O<|D.q (i:=13) O (by kernel_rfl) (aK [0] [] O O O) O (q.ext O O) O<|D.one (i:=14) (by kernel_rfl) O ?_
       refine Do.s (s.alloc (cs:=cC) bF O O) (fun _=>(aK [1] [] O O O)) O fun b2=>D.one (i:=15) (by kernel_rfl) O ?_
       refine Do.s (s.st (us:=ay ((derived x3 x1.ID x1.Rights x1.aI).1)) (cs':=ay ((derived x3 x1.ID x1.Rights x1.aI).1)) 0 _ O O O O (.inl aP) O O O O) (fun _=>(aK [1] [] O O O)) O fun _=>D.q (i:=16) O (by kernel_rfl) (aK [1] [] O O O) O (q.as O) O<|D.done (by kernel_rfl)<|R.reg O<|R.u 1 O<|?_
       by_cases h6:(derived x3 x1.ID x1.Rights x1.aI).2=0
       ·
        refine R.q (q.gj O O Tryz.underlying35 (by omega)) O<|R.nil ?_
        refine R.aF O O ?_
        refine R.reg O<|R.q (q.cj 0 O O aP) O<|R.q (q.cj 1 O O aP) O<|?_
        by_cases h7:((derived x3 x1.ID x1.Rights x1.aI).1)=x1
        ·
         refine R.q (q.gX (x:=((derived x3 x1.ID x1.Rights x1.aI).1)) (y:=x1) sX O O h7) O<|R.nil ?_
         refine R.aF O O ?_
         refine R.reg O<|R.q (q.add (r:=((k+1:Nat):Int)) O O (wr (by omega))) O<|R.u 1 O<|R.nil ?_
         refine R.back (k+1) O (by (exact ⟨by omega,nM HA ((gw hx1 (by omega) hS.out ‹_› eU jL hx3).trans ((if_neg (by omega)).trans (if_neg (fun h=>h ‹_›))))⟩)) (by omega) ⟨rfl,rfl,rfl,rfl,trivial⟩ (fun _=>Wd.pick [] [] O O O)
        ·
         refine R.q (q.gY (x:=((derived x3 x1.ID x1.Rights x1.aI).1)) (y:=x1) sX O O h7) O<|R.nil ?_
         refine R.aE O O ?_
         refine R.reg O<|R.q (q.iface O cL) O<|R.u 1 O<|R.nil ?_
         exact R.rv O Tryz.results26 O (eP (by decide) (by (exact (fG (by omega) ((gw hx1 (by omega) hS.out ‹_› eU jL hx3).trans ((if_neg (by omega)).trans (if_pos ‹_›))) (by decide) HA))))
       ·
        refine R.q (q.gu O O Tryz.underlying35 (by omega)) O<|R.nil ?_
        refine R.aE O O ?_
        refine R.reg O<|R.u 2 O<|R.nil ?_
        exact R.rv O Tryz.results26 O (rE (by (exact (fG (by omega) ((gw hx1 (by omega) hS.out ‹_› eU jL hx3).trans (if_pos (by omega))) (by omega) HA).symm)))
      ·
       refine Do.s (s.alloc (cs:=cC) bF O O) (fun _=>(aK [1] [] O O O)) O fun b3=>D.one (i:=10) (by kernel_rfl) O ?_
       refine Do.s (s.c (q.call u7 O O (fun w hw=>(jI (x3) (x1.ID) (x1.Rights) (x1.aI) w  (by omega)))) O) (fun _=>(aK [1] [] O O O)) O fun _=>D.q (i:=11) O (by kernel_rfl) (aK [1] [] O O O) O (q.mv O) O<|D.q (i:=12) O (by kernel_rfl) (aK [1] [] O O O) O (q.ext O O) O<|D.q (i:=13) O (by kernel_rfl) (aK [1] [] O O O) O (q.ext O O) O<|D.one (i:=15) (by kernel_rfl) O ?_
       refine Do.s (s.st (us:=ay ((derived x3 x1.ID x1.Rights x1.aI).1)) (cs':=ay ((derived x3 x1.ID x1.Rights x1.aI).1)) 0 _ O O O O (.inl aP) O O O O) (fun _=>(aK [1] [] O O O)) O fun _=>D.q (i:=16) O (by kernel_rfl) (aK [1] [] O O O) O (q.as O) O<|D.done (by kernel_rfl)<|R.reg O<|R.u 1 O<|?_
       by_cases h8:(derived x3 x1.ID x1.Rights x1.aI).2=0
       ·
        refine R.q (q.gj O O Tryz.underlying35 (by omega)) O<|R.nil ?_
        refine R.aF O O ?_
        refine R.reg O<|R.q (q.cj 0 O O aP) O<|R.q (q.cj 1 O O aP) O<|?_
        by_cases h9:((derived x3 x1.ID x1.Rights x1.aI).1)=x1
        ·
         refine R.q (q.gX (x:=((derived x3 x1.ID x1.Rights x1.aI).1)) (y:=x1) sX O O h9) O<|R.nil ?_
         refine R.aF O O ?_
         refine R.reg O<|R.q (q.add (r:=((k+1:Nat):Int)) O O (wr (by omega))) O<|R.u 1 O<|R.nil ?_
         refine R.back (k+1) O (by (exact ⟨by omega,nM HA ((gw hx1 (by omega) hS.out ‹_› eU jL hx3).trans ((if_neg (by omega)).trans (if_neg (fun h=>h ‹_›))))⟩)) (by omega) ⟨rfl,rfl,rfl,rfl,trivial⟩ (fun _=>Wd.pick [] [] O O O)
        ·
         refine R.q (q.gY (x:=((derived x3 x1.ID x1.Rights x1.aI).1)) (y:=x1) sX O O h9) O<|R.nil ?_
         refine R.aE O O ?_
         refine R.reg O<|R.q (q.iface O cL) O<|R.u 1 O<|R.nil ?_
         exact R.rv O Tryz.results26 O (eP (by decide) (by (exact (fG (by omega) ((gw hx1 (by omega) hS.out ‹_› eU jL hx3).trans ((if_neg (by omega)).trans (if_pos ‹_›))) (by decide) HA))))
       ·
        refine R.q (q.gu O O Tryz.underlying35 (by omega)) O<|R.nil ?_
        refine R.aE O O ?_
        refine R.reg O<|R.u 2 O<|R.nil ?_
        exact R.rv O Tryz.results26 O (rE (by (exact (fG (by omega) ((gw hx1 (by omega) hS.out ‹_› eU jL hx3).trans (if_pos (by omega))) (by omega) HA).symm)))
  ·
   refine R.q (q.gu O O Tryz.underlying35 (by omega)) O<|R.nil ?_
   refine R.aE O O ?_
   refine R.reg O<|R.u 2 O<|R.nil ?_
   exact R.rv O Tryz.results26 O (rE (by (have e:cM x1=1:=(by omega);rw [e];exact (fG (by omega) (gv hx1 (by omega)) (by decide) HA).symm)))
 ·
  refine R.q (q.lss O O (decide_eq_false (by omega))) O<|R.nil ?_
  refine R.aF O O ?_
  refine R.reg O<|R.u 1 O<|R.nil ?_
  exact R.rv O Tryz.results26 O (i6 (by (exact (mh (fun j hj=>HA j (by omega))))))
theorem mj (bG:Value)(l:List ak)(id:Int)(w:World)(df:Sl w bG l)(hl:l.length≤1000000):Calls Tryz.prog 62 #[bG,iV id] w fun e w' => ∃u,e = .returned u∧Own w.heap.size 88 w' u (without l id)∧Ext w w':=by
 have pV:=df.ec
 refine R.enter (n:=42) (vs:=[bG,iV id]) [] [(0,bG),(1,iV id)] Tryz.func62 O O O O ?_
 refine R.reg O<|R.u 1 O<|R.nil ?_
 refine R.reg O<|R.u 1 O<|R.nil ?_
 refine R.reg O<|R.u 1 O<|R.nil ?_
 refine R.reg O<|R.u 2 O<|?_
 rcases dR l id with ⟨eU,ug⟩ | ⟨lW,hZ,eU,oT,EK⟩
 ·
  refine R.c (q.call lT O O (fun w hw=>(cv (congrArg (Value.int .i64) eU) (f4 _ (l) (id) w ((fun _=>Wd.old df) w hw) )))) O<|R.u 1 O<|R.nil ?_
  refine R.reg O<|R.u 1 O<|R.q (q.geq (b:=false) O O (by decide)) O<|R.nil ?_
  refine R.aF O O ?_
  refine R.reg O<|R.u 1 O<|R.q (q.len' (fun _=>Wd.old df) O Tryz.underlying27) O<|R.u 1 O<|R.nil ?_
  refine R.row0 (α:=ak) 88 ?_
  refine R.loop (fun g_:Nat×Value×(List ak)=>[(1,iV id),(5,g_.2.1),(6,iV 0),(20,bG),(21,iV (l.length:Int)),(22,iV (g_.1:Int))]) (fun g_=>[ag.row 88 g_.2.1 g_.2.2]) (fun g_=>[]) (fun g_=>g_.1≤l.length∧g_.2.2=vx id 0 (l.take g_.1)) (fun g_=>l.length-g_.1) (0,(nS),[]) O (by exact ⟨by simp,by simp [vx,ni]⟩) ⟨rfl,rfl,rfl,rfl,rfl,rfl,trivial⟩ (fun _=>Wd.pick [0] [] O O O) ?_
  rintro ⟨k,v,acc⟩ ⟨hk,HA⟩
  dsimp only at *
  have hal:acc.length≤k:=by rw [HA];exact Nat.le_trans (uf _ _ _) (List.length_take_le _ _)
  refine R.reg O<|?_
  by_cases h1:k<l.length
  ·
   refine R.q (q.lss O O (decide_eq_true (by omega))) O<|R.nil ?_
   refine R.aE O O ?_
   refine R.reg O<|?_
   obtain ⟨x1,hx1⟩:∃z,l[k]? = some z:=⟨_,List.getElem?_eq_getElem (by omega)⟩
   refine R.q (q.idx (i:=k) (fun _=>Wd.old df) O O cK O hx1) O<|R.q (q.cY (ds:=ay x1) (fun _=>Wd.old df) hx1 O aP O) O<|R.s O (s.alloc (cs:=cC) bF O O) fun b1=>R.s O (s.st (us:=ay x1) (cs':=ay x1) 0 _ O O O O (.inl aP) O O O O) fun _=>R.nil ?_
   refine R.reg O<|R.q (q.aT (off':=0) O bI O) O<|R.q (q.ld 0 O O aA O) O<|R.u 1 O<|?_
   by_cases h2:x1.ID=id
   ·
    refine R.q (q.eql O O (beq_iff_eq.2 (by omega))) O<|R.nil ?_
    refine R.aE O O ?_
    refine R.reg O<|R.q (q.add (r:=((k+1:Nat):Int)) O O (wr (by omega))) O<|R.u 1 O<|R.nil ?_
    refine R.back (k+1,v,acc) O (by (exact ⟨by omega,by rw [HA,yA hx1 ‹_›]⟩)) (by dsimp only;omega) ⟨rfl,rfl,rfl,rfl,rfl,rfl,trivial⟩ (fun _=>Wd.pick [1] [] O O O)
   ·
    refine R.q (q.eql O O (beq_eq_false_iff_ne.2 (by omega))) O<|R.nil ?_
    refine R.aF O O ?_
    refine R.reg O<|R.q (q.aT (off':=4) O dX O) O<|R.q (q.ld 0 O O aA O) O<|R.u 1 O<|?_
    by_cases h3:x1.From=id
    ·
     refine R.q (q.eql O O (beq_iff_eq.2 (by omega))) O<|R.nil ?_
     refine R.aE O O ?_
     refine R.reg O<|R.u 1 O<|R.q (q.aT (off':=4) O dX O) O<|R.s O (s.st (us:=[iV 0]) (cs':=[iV x1.ID,iV x1.ao,iV x1.Rights,iV x1.aI,iV 0]) 0 _ O O O O (.inr ⟨aA,rfl⟩) O O O O) fun _=>R.nil ?_
     refine R.reg O<|R.u 1 O<|R.q (q.cj 0 O O aP) O<|R.s O (s.bs (l:=([(⟨x1.ID,x1.ao,x1.Rights,x1.aI,0⟩:ak)]:List ak)) cK bF O O O O O O O) fun b2=>R.s O (s.app (l2:=[(⟨x1.ID,x1.ao,x1.Rights,x1.aI,0⟩:ak)]) 2 _ O O O (cJ 0 O) fJ (by simp;omega) (by simp;omega) (fun _=>rfl) O) fun v1=>R.u 1 O<|R.nil ?_
     refine R.reg O<|R.q (q.add (r:=((k+1:Nat):Int)) O O (wr (by omega))) O<|R.u 1 O<|R.nil ?_
     refine R.back (k+1,v1,(acc++([(⟨x1.ID,x1.ao,x1.Rights,x1.aI,0⟩:ak)]))) O (by (exact ⟨by omega,by rw [HA,oz hx1 ‹_›,ru ‹_›]⟩)) (by dsimp only;omega) ⟨rfl,rfl,rfl,rfl,rfl,rfl,trivial⟩ (fun _=>Wd.pick [2] [] O O O)
    ·
     refine R.q (q.eql O O (beq_eq_false_iff_ne.2 (by omega))) O<|R.nil ?_
     refine R.aF O O ?_
     refine R.reg O<|R.u 1 O<|R.q (q.cj 0 O O aP) O<|R.s O (s.bs (l:=([x1]:List ak)) cK bF O O O O O O O) fun b3=>R.s O (s.app (l2:=[x1]) 2 _ O O O (cJ 0 O) fJ (by simp;omega) (by simp;omega) (fun _=>rfl) O) fun v2=>R.u 1 O<|R.nil ?_
     refine R.reg O<|R.q (q.add (r:=((k+1:Nat):Int)) O O (wr (by omega))) O<|R.u 1 O<|R.nil ?_
     refine R.back (k+1,v2,(acc++([x1]))) O (by (exact ⟨by omega,by rw [HA,oz hx1 ‹_›,o7 ‹_›]⟩)) (by dsimp only;omega) ⟨rfl,rfl,rfl,rfl,rfl,rfl,trivial⟩ (fun _=>Wd.pick [2] [] O O O)
  ·
   refine R.q (q.lss O O (decide_eq_false (by omega))) O<|R.nil ?_
   refine R.aF O O ?_
   refine R.reg O<|R.u 2 O<|R.nil ?_
   exact R.ro 0 O Tryz.results62 O O (by (rw [HA,List.take_of_length_le (by omega)];unfold without;rw [pW eU]))
 ·
  refine R.c (q.call lT O O (fun w hw=>(cv (congrArg (Value.int .i64) eU) (f4 _ (l) (id) w ((fun _=>Wd.old df) w hw) )))) O<|R.u 1 O<|R.nil ?_
  refine R.reg O<|R.u 1 O<|R.q (q.geq O O (decide_eq_true (by omega))) O<|R.nil ?_
  refine R.aE O O ?_
  refine R.reg O<|R.u 2 O<|R.q (q.idx (i:=lW) (fun _=>Wd.old df) O O cK O (List.getElem?_eq_getElem hZ)) O<|R.q (q.dF (j':=4) (fun _=>Wd.old df) (List.getElem?_eq_getElem hZ) O dX O) O<|R.q (q.fb (fun _=>Wd.old df) (List.getElem?_eq_getElem hZ) O aA O) O<|R.u 1 O<|R.nil ?_
  refine R.reg O<|R.u 1 O<|R.q (q.len' (fun _=>Wd.old df) O Tryz.underlying27) O<|R.u 1 O<|R.nil ?_
  refine R.row0 (α:=ak) 88 ?_
  refine R.loop (fun g_:Nat×Value×(List ak)=>[(1,iV id),(5,g_.2.1),(6,iV ((l[lW]).From)),(20,bG),(21,iV (l.length:Int)),(22,iV (g_.1:Int))]) (fun g_=>[ag.row 88 g_.2.1 g_.2.2]) (fun g_=>[]) (fun g_=>g_.1≤l.length∧g_.2.2=vx id ((l[lW]).From) (l.take g_.1)) (fun g_=>l.length-g_.1) (0,(nS),[]) O (by exact ⟨by simp,by simp [vx,ni]⟩) ⟨rfl,rfl,rfl,rfl,rfl,rfl,trivial⟩ (fun _=>Wd.pick [0] [] O O O) ?_
  rintro ⟨k,v,acc⟩ ⟨hk,HA⟩
  dsimp only at *
  have hal:acc.length≤k:=by rw [HA];exact Nat.le_trans (uf _ _ _) (List.length_take_le _ _)
  refine R.reg O<|?_
  by_cases h4:k<l.length
  ·
   refine R.q (q.lss O O (decide_eq_true (by omega))) O<|R.nil ?_
   refine R.aE O O ?_
   refine R.reg O<|?_
   obtain ⟨x2,hx2⟩:∃z,l[k]? = some z:=⟨_,List.getElem?_eq_getElem (by omega)⟩
   refine R.q (q.idx (i:=k) (fun _=>Wd.old df) O O cK O hx2) O<|R.q (q.cY (ds:=ay x2) (fun _=>Wd.old df) hx2 O aP O) O<|R.s O (s.alloc (cs:=cC) bF O O) fun b4=>R.s O (s.st (us:=ay x2) (cs':=ay x2) 0 _ O O O O (.inl aP) O O O O) fun _=>R.nil ?_
   refine R.reg O<|R.q (q.aT (off':=0) O bI O) O<|R.q (q.ld 0 O O aA O) O<|R.u 1 O<|?_
   by_cases h5:x2.ID=id
   ·
    refine R.q (q.eql O O (beq_iff_eq.2 (by omega))) O<|R.nil ?_
    refine R.aE O O ?_
    refine R.reg O<|R.q (q.add (r:=((k+1:Nat):Int)) O O (wr (by omega))) O<|R.u 1 O<|R.nil ?_
    refine R.back (k+1,v,acc) O (by (exact ⟨by omega,by rw [HA,yA hx2 ‹_›]⟩)) (by dsimp only;omega) ⟨rfl,rfl,rfl,rfl,rfl,rfl,trivial⟩ (fun _=>Wd.pick [1] [] O O O)
   ·
    refine R.q (q.eql O O (beq_eq_false_iff_ne.2 (by omega))) O<|R.nil ?_
    refine R.aF O O ?_
    refine R.reg O<|R.q (q.aT (off':=4) O dX O) O<|R.q (q.ld 0 O O aA O) O<|R.u 1 O<|?_
    by_cases h6:x2.From=id
    ·
     refine R.q (q.eql O O (beq_iff_eq.2 (by omega))) O<|R.nil ?_
     refine R.aE O O ?_
     refine R.reg O<|R.u 1 O<|R.q (q.aT (off':=4) O dX O) O<|R.s O (s.st (us:=[iV ((l[lW]).From)]) (cs':=[iV x2.ID,iV x2.ao,iV x2.Rights,iV x2.aI,iV ((l[lW]).From)]) 0 _ O O O O (.inr ⟨aA,rfl⟩) O O O O) fun _=>R.nil ?_
     refine R.reg O<|R.u 1 O<|R.q (q.cj 0 O O aP) O<|R.s O (s.bs (l:=([(⟨x2.ID,x2.ao,x2.Rights,x2.aI,(l[lW]).From⟩:ak)]:List ak)) cK bF O O O O O O O) fun b5=>R.s O (s.app (l2:=[(⟨x2.ID,x2.ao,x2.Rights,x2.aI,(l[lW]).From⟩:ak)]) 2 _ O O O (cJ 0 O) fJ (by simp;omega) (by simp;omega) (fun _=>rfl) O) fun v3=>R.u 1 O<|R.nil ?_
     refine R.reg O<|R.q (q.add (r:=((k+1:Nat):Int)) O O (wr (by omega))) O<|R.u 1 O<|R.nil ?_
     refine R.back (k+1,v3,(acc++([(⟨x2.ID,x2.ao,x2.Rights,x2.aI,(l[lW]).From⟩:ak)]))) O (by (exact ⟨by omega,by rw [HA,oz hx2 ‹_›,ru ‹_›]⟩)) (by dsimp only;omega) ⟨rfl,rfl,rfl,rfl,rfl,rfl,trivial⟩ (fun _=>Wd.pick [2] [] O O O)
    ·
     refine R.q (q.eql O O (beq_eq_false_iff_ne.2 (by omega))) O<|R.nil ?_
     refine R.aF O O ?_
     refine R.reg O<|R.u 1 O<|R.q (q.cj 0 O O aP) O<|R.s O (s.bs (l:=([x2]:List ak)) cK bF O O O O O O O) fun b6=>R.s O (s.app (l2:=[x2]) 2 _ O O O (cJ 0 O) fJ (by simp;omega) (by simp;omega) (fun _=>rfl) O) fun v4=>R.u 1 O<|R.nil ?_
     refine R.reg O<|R.q (q.add (r:=((k+1:Nat):Int)) O O (wr (by omega))) O<|R.u 1 O<|R.nil ?_
     refine R.back (k+1,v4,(acc++([x2]))) O (by (exact ⟨by omega,by rw [HA,oz hx2 ‹_›,o7 ‹_›]⟩)) (by dsimp only;omega) ⟨rfl,rfl,rfl,rfl,rfl,rfl,trivial⟩ (fun _=>Wd.pick [2] [] O O O)
  ·
   refine R.q (q.lss O O (decide_eq_false (by omega))) O<|R.nil ?_
   refine R.aF O O ?_
   refine R.reg O<|R.u 2 O<|R.nil ?_
   exact R.ro 0 O Tryz.results62 O O (by (rw [HA,List.take_of_length_le (by omega)];unfold without;rw [j8 eU (List.getElem?_eq_getElem hZ)]))
theorem ry (bG:Value)(l:List ak)(id:Int)(w:World)(df:Sl w bG l)(hl:l.length≤1000000):Calls Tryz.prog 54 #[bG,iV id] w fun e w' => ∃u,e = .returned u∧Own w.heap.size 88 w' u (vy l id)∧Ext w w':=by
 have pV:=df.ec
 refine R.enter (n:=45) (vs:=[bG,iV id]) [] [(0,bG),(1,iV id)] Tryz.func54 O O O O ?_
 refine R.reg O<|R.u 1 O<|R.nil ?_
 refine R.reg O<|R.u 1 O<|R.nil ?_
 refine R.reg O<|R.u 2 O<|?_
 rcases dR l id with ⟨eU,ug⟩ | ⟨lW,hZ,eU,oT,EK⟩
 ·
  refine R.c (q.call lp O O (fun w hw=>(cv (congrArg (Value.int .i64) eU) (fB _ (l) (id) w ((fun _=>Wd.old df) w hw) )))) O<|R.u 1 O<|R.nil ?_
  refine R.reg O<|R.u 1 O<|R.nil ?_
  refine R.row0 (α:=ak) 88 ?_
  refine R.loop (fun g_:Nat×Value×(List ak)=>[(0,bG),(1,iV id),(5,g_.2.1),(6,iV (-1)),(7,iV (g_.1:Int))]) (fun g_=>[ag.row 88 g_.2.1 g_.2.2]) (fun g_=>[]) (fun g_=>g_.1≤l.length∧g_.2.2=ni l id (l.take g_.1)) (fun g_=>l.length-g_.1) (0,(nS),[]) O (by exact ⟨by simp,by simp [ni]⟩) ⟨rfl,rfl,rfl,rfl,rfl,trivial⟩ (fun _=>Wd.pick [0] [] O O O) ?_
  rintro ⟨k,v,acc⟩ ⟨hk,HA⟩
  dsimp only at *
  have hal:acc.length≤k:=by rw [HA];exact Nat.le_trans (vz _ _ _) (List.length_take_le _ _)
  refine R.reg O<|R.u 2 O<|R.q (q.len' (fun _=>Wd.old df) O Tryz.underlying27) O<|?_
  by_cases h1:k<l.length
  ·
   refine R.q (q.lss O O (decide_eq_true (by omega))) O<|R.nil ?_
   refine R.aE O O ?_
   refine R.reg O<|R.u 2 O<|?_
   obtain ⟨x1,hx1⟩:∃z,l[k]? = some z:=⟨_,List.getElem?_eq_getElem (by omega)⟩
   refine R.q (q.idx (i:=k) (fun _=>Wd.old df) O O cK O hx1) O<|R.q (q.cY (ds:=ay x1) (fun _=>Wd.old df) hx1 O aP O) O<|R.s O (s.alloc (cs:=cC) bF O O) fun b1=>R.s O (s.st (us:=ay x1) (cs':=ay x1) 0 _ O O O O (.inl aP) O O O O) fun _=>R.nil ?_
   refine R.reg O<|R.u 1 O<|R.q (q.geq (b:=false) O O (by decide)) O<|R.u 6 O<|R.nil ?_
   refine R.aF O O ?_
   refine R.reg O<|R.q (q.aT (off':=0) O bI O) O<|R.q (q.ld 0 O O aA O) O<|R.u 1 O<|?_
   by_cases h2:x1.ID=id
   ·
    refine R.q (q.neq O O (bne_eq_false_iff_eq.2 (by omega))) O<|R.nil ?_
    refine R.aF O O ?_
    refine R.reg O<|R.u 1 O<|R.q (q.add (r:=((k+1:Nat):Int)) O O (wr (by omega))) O<|R.u 1 O<|R.nil ?_
    refine R.back (k+1,v,acc) O (by (exact ⟨by omega,by rw [HA,rx hx1 ‹_›]⟩)) (by dsimp only;omega) ⟨rfl,rfl,rfl,rfl,rfl,trivial⟩ (fun _=>Wd.pick [1] [] O O O)
   ·
    refine R.q (q.neq O O (bne_iff_ne.2 (by omega))) O<|R.nil ?_
    refine R.aE O O ?_
    refine R.reg O<|R.u 1 O<|R.q (q.cj 0 O O aP) O<|R.s O (s.bs (l:=([x1]:List ak)) cK bF O O O O O O O) fun b2=>R.s O (s.app (l2:=[x1]) 2 _ O O O (cJ 0 O) fJ (by simp;omega) (by simp;omega) (fun _=>rfl) O) fun v1=>R.u 1 O<|R.nil ?_
    refine R.reg O<|R.u 1 O<|R.q (q.add (r:=((k+1:Nat):Int)) O O (wr (by omega))) O<|R.u 1 O<|R.nil ?_
    refine R.back (k+1,v1,(acc++([x1]))) O (by (exact ⟨by omega,by rw [HA,o8 hx1 ‹_›,show Bo l id x1=x1 from by unfold Bo;rw [if_pos (by omega)]]⟩)) (by dsimp only;omega) ⟨rfl,rfl,rfl,rfl,rfl,trivial⟩ (fun _=>Wd.pick [2] [] O O O)
  ·
   refine R.q (q.lss O O (decide_eq_false (by omega))) O<|R.nil ?_
   refine R.aF O O ?_
   refine R.reg O<|R.u 2 O<|R.nil ?_
   exact R.ro 0 O Tryz.results54 O O (by (rw [HA,List.take_of_length_le (by omega)];exact vA _ _))
 ·
  refine R.c (q.call lp O O (fun w hw=>(cv (congrArg (Value.int .i64) eU) (fB _ (l) (id) w ((fun _=>Wd.old df) w hw) )))) O<|R.u 1 O<|R.nil ?_
  refine R.reg O<|R.u 1 O<|R.nil ?_
  refine R.row0 (α:=ak) 88 ?_
  refine R.loop (fun g_:Nat×Value×(List ak)=>[(0,bG),(1,iV id),(5,g_.2.1),(6,iV (lW:Int)),(7,iV (g_.1:Int))]) (fun g_=>[ag.row 88 g_.2.1 g_.2.2]) (fun g_=>[]) (fun g_=>g_.1≤l.length∧g_.2.2=ni l id (l.take g_.1)) (fun g_=>l.length-g_.1) (0,(nS),[]) O (by exact ⟨by simp,by simp [ni]⟩) ⟨rfl,rfl,rfl,rfl,rfl,trivial⟩ (fun _=>Wd.pick [0] [] O O O) ?_
  rintro ⟨k,v,acc⟩ ⟨hk,HA⟩
  dsimp only at *
  have hal:acc.length≤k:=by rw [HA];exact Nat.le_trans (vz _ _ _) (List.length_take_le _ _)
  refine R.reg O<|R.u 2 O<|R.q (q.len' (fun _=>Wd.old df) O Tryz.underlying27) O<|?_
  by_cases h3:k<l.length
  ·
   refine R.q (q.lss O O (decide_eq_true (by omega))) O<|R.nil ?_
   refine R.aE O O ?_
   refine R.reg O<|R.u 2 O<|?_
   obtain ⟨x2,hx2⟩:∃z,l[k]? = some z:=⟨_,List.getElem?_eq_getElem (by omega)⟩
   refine R.q (q.idx (i:=k) (fun _=>Wd.old df) O O cK O hx2) O<|R.q (q.cY (ds:=ay x2) (fun _=>Wd.old df) hx2 O aP O) O<|R.s O (s.alloc (cs:=cC) bF O O) fun b3=>R.s O (s.st (us:=ay x2) (cs':=ay x2) 0 _ O O O O (.inl aP) O O O O) fun _=>R.nil ?_
   refine R.reg O<|R.u 1 O<|R.q (q.geq O O (decide_eq_true (by omega))) O<|R.u 1 O<|R.qg O (q.aT (off':=4) O dX O) O<|R.qg O (q.ld 0 O O aA O) O<|R.u 1 O<|?_
   by_cases h4:x2.From=id
   ·
    refine R.qg O (q.eql O O (beq_iff_eq.2 (by omega))) O<|R.u 1 O<|R.nil ?_
    refine R.aE O O ?_
    refine R.reg O<|R.u 2 O<|R.q (q.idx (i:=lW) (fun _=>Wd.old df) O O cK O (List.getElem?_eq_getElem hZ)) O<|R.q (q.dF (j':=4) (fun _=>Wd.old df) (List.getElem?_eq_getElem hZ) O dX O) O<|R.q (q.fb (fun _=>Wd.old df) (List.getElem?_eq_getElem hZ) O aA O) O<|R.q (q.aT (off':=4) O dX O) O<|?_
    refine R.s O (s.st (us:=[iV ((l[lW]).From)]) (cs':=[iV x2.ID,iV x2.ao,iV x2.Rights,iV x2.aI,iV ((l[lW]).From)]) 0 _ O O O O (.inr ⟨aA,rfl⟩) O O O O) fun _=>R.nil ?_
    refine R.reg O<|R.q (q.aT (off':=0) O bI O) O<|R.q (q.ld 0 O O aA O) O<|R.u 1 O<|?_
    by_cases h5:x2.ID=id
    ·
     refine R.q (q.neq O O (bne_eq_false_iff_eq.2 (by omega))) O<|R.nil ?_
     refine R.aF O O ?_
     refine R.reg O<|R.u 1 O<|R.q (q.add (r:=((k+1:Nat):Int)) O O (wr (by omega))) O<|R.u 1 O<|R.nil ?_
     refine R.back (k+1,v,acc) O (by (exact ⟨by omega,by rw [HA,rx hx2 ‹_›]⟩)) (by dsimp only;omega) ⟨rfl,rfl,rfl,rfl,rfl,trivial⟩ (fun _=>Wd.pick [1] [] O O O)
    ·
     refine R.q (q.neq O O (bne_iff_ne.2 (by omega))) O<|R.nil ?_
     refine R.aE O O ?_
     refine R.reg O<|R.u 1 O<|R.q (q.cj 0 O O aP) O<|R.s O (s.bs (l:=([(⟨x2.ID,x2.ao,x2.Rights,x2.aI,(l[lW]).From⟩:ak)]:List ak)) cK bF O O O O O O O) fun b4=>R.s O (s.app (l2:=[(⟨x2.ID,x2.ao,x2.Rights,x2.aI,(l[lW]).From⟩:ak)]) 2 _ O O O (cJ 0 O) fJ (by simp;omega) (by simp;omega) (fun _=>rfl) O) fun v2=>R.u 1 O<|R.nil ?_
     refine R.reg O<|R.u 1 O<|R.q (q.add (r:=((k+1:Nat):Int)) O O (wr (by omega))) O<|R.u 1 O<|R.nil ?_
     refine R.back (k+1,v2,(acc++([(⟨x2.ID,x2.ao,x2.Rights,x2.aI,(l[lW]).From⟩:ak)]))) O (by (exact ⟨by omega,by rw [HA,o8 hx2 ‹_›,show Bo l id x2=_ from by unfold Bo;rw [if_neg (by omega),j8 eU (List.getElem?_eq_getElem hZ),ru ‹_›]]⟩)) (by dsimp only;omega) ⟨rfl,rfl,rfl,rfl,rfl,trivial⟩ (fun _=>Wd.pick [2] [] O O O)
   ·
    refine R.qg O (q.eql O O (beq_eq_false_iff_ne.2 (by omega))) O<|R.u 1 O<|R.nil ?_
    refine R.aF O O ?_
    refine R.reg O<|R.q (q.aT (off':=0) O bI O) O<|R.q (q.ld 0 O O aA O) O<|R.u 1 O<|?_
    by_cases h6:x2.ID=id
    ·
     refine R.q (q.neq O O (bne_eq_false_iff_eq.2 (by omega))) O<|R.nil ?_
     refine R.aF O O ?_
     refine R.reg O<|R.u 1 O<|R.q (q.add (r:=((k+1:Nat):Int)) O O (wr (by omega))) O<|R.u 1 O<|R.nil ?_
     refine R.back (k+1,v,acc) O (by (exact ⟨by omega,by rw [HA,rx hx2 ‹_›]⟩)) (by dsimp only;omega) ⟨rfl,rfl,rfl,rfl,rfl,trivial⟩ (fun _=>Wd.pick [1] [] O O O)
    ·
     refine R.q (q.neq O O (bne_iff_ne.2 (by omega))) O<|R.nil ?_
     refine R.aE O O ?_
     refine R.reg O<|R.u 1 O<|R.q (q.cj 0 O O aP) O<|R.s O (s.bs (l:=([x2]:List ak)) cK bF O O O O O O O) fun b5=>R.s O (s.app (l2:=[x2]) 2 _ O O O (cJ 0 O) fJ (by simp;omega) (by simp;omega) (fun _=>rfl) O) fun v3=>R.u 1 O<|R.nil ?_
     refine R.reg O<|R.u 1 O<|R.q (q.add (r:=((k+1:Nat):Int)) O O (wr (by omega))) O<|R.u 1 O<|R.nil ?_
     refine R.back (k+1,v3,(acc++([x2]))) O (by (exact ⟨by omega,by rw [HA,o8 hx2 ‹_›,show Bo l id x2=x2 from by unfold Bo;rw [if_neg (by omega),o7 ‹_›]]⟩)) (by dsimp only;omega) ⟨rfl,rfl,rfl,rfl,rfl,trivial⟩ (fun _=>Wd.pick [2] [] O O O)
  ·
   refine R.q (q.lss O O (decide_eq_false (by omega))) O<|R.nil ?_
   refine R.aF O O ?_
   refine R.reg O<|R.u 2 O<|R.nil ?_
   exact R.ro 0 O Tryz.results54 O O (by (rw [HA,List.take_of_length_le (by omega)];exact vA _ _))
end Go.Proofs.YtbkfhjaibhnkmaaGreatDoor
