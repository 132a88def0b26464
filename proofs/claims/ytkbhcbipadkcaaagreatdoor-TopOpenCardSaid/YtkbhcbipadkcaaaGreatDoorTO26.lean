import Derived.Test.YtkbhcbipadkcaaaGreatDoorTO25
namespace Go.Proofs.YtkbhcbipadkcaaaGreatDoor
set_option linter.unusedVariables false
set_option linter.unusedSimpArgs false
section
open Go Go.RowKit
set_option maxRecDepth 100000
set_option maxHeartbeats 1000000
set_option maxHeartbeats 1000000 in
theorem yQ (bJ:Value)(l:List ap)(w:World)(ey:Sl w bJ l):Calls Tryz.prog 152 #[bJ] w fun e w'=>e = .returned (dh (ea l))/\Ext w w':=by
 have zw:=ey.fC
 refine R.enter [] [(0,bJ)] Tryz.func152 O O O O<|R.reg O<|R.u 1 O<|R.nil<|R.reg O<|R.u 1 O<|R.q (q.len' (fun _=>Wd.old ey) O Tryz.underlying43) O<|R.u 1 O<|R.nil<|R.loop (fun k:Nat=>[(0,bJ),(8,bJ),(9,iV (l.length:Int)),(10,iV (k:Int))]) (fun k:Nat=>[]) (fun k:Nat=>[]) (fun k:Nat=>k<=l.length /\ ∀j,j<k->hZ l j=0) (fun k:Nat=>l.length-k) 0 O (by exact ⟨by omega,fun j hj=>absurd hj (Nat.not_lt_zero _)⟩) (sF O) (fun _=>Wd.pick [] [] O O O) ?_
 rintro k ⟨hk,HA⟩
 refine R.reg O<|?_
 by_cases h1:k<l.length
 .
  refine R.q (q.dy O O) O<|R.nil<|R.ay O O<|R.reg O<|R.u 1 O<|?_
  obtain ⟨x1,hx1⟩:∃z,l[k]? = some z:=⟨_,List.getElem?_eq_getElem (by omega)⟩
  have VN:=kx x1
  refine R.q (q.idx (i:=k) (fun _=>Wd.old ey) O O dJ O hx1) O<|R.q (q.eV (ds:=gk x1) (fun _=>Wd.old ey) hx1 O aL O) O<|R.s O (s.alloc bQ O O) fun b1=>R.u 1 O<|R.s O (s.st 0 _ O O O O (.inl aL) O O O O) fun _=>R.nil<|R.reg O<|R.q (q.dv 0 O O aL) O<|R.c (q.call Pz O O (fun w hw=>(yP x1 w ))) O<|R.u 1 O<|R.nil<|R.reg O<|R.u 1 O<|?_
  by_cases h2:cz x1=0
  .
   refine R.q (q.dC O O Tryz.underlying38) O<|R.nil<|R.aB O O<|R.cut 2 (fun _u:Unit=>[(0,bJ),(3,iV (k:Int)),(4,.pointer (some ⟨b1,0,none⟩)),(8,bJ),(9,iV (l.length:Int)),(10,iV (k:Int))]) (fun _u:Unit=>[af.box b1 (gk x1) 127]) (fun _u:Unit=>[]) (fun _u:Unit=>Hid (¬ 0<k \/ ∃y,l[k-1]? = some y/\y.ID<x1.ID)) O O O ?_ ?_
   .
    by_cases h3:0<k
    .
     obtain ⟨x2,hx2⟩:∃z,l[(k-1)]? = some z:=⟨_,List.getElem?_eq_getElem (by omega)⟩
     have VO:=kx x2
     by_cases h4:x2.ID<x1.ID
     .
      exact R.ew O mixed (by kernel_rfl)<|Q.u 1 O<|Q.q (q.eL O O) O<|Q.u 1 O<|Q.qg O (q.aO O bX O) O<|Q.qg O (q.ld 0 O O av O) O<|Q.u 2 O<|Q.qg O (q.lV (r:=((k-1:Nat):Int)) O O) O<|Q.qg O (q.idx (i:=(k-1)) (fun _=>Wd.old ey) O O dJ O hx2) O<|Q.qg O (q.nF (j':=0) (fun _=>Wd.old ey) hx2 O bX O) O<|Q.qg O (q.lr (fun _=>Wd.old ey) hx2 O av O) O<|Q.qg O (q.TQ O O) O<|Q.u 1 O<|Q.nil<|R.aB O O<|R.meet () O (by (exact .inr ⟨_,hx2,by assumption⟩)) (sF O) (fun _=>Wd.pick [0] [] O O O)
     exact R.ew O mixed (by kernel_rfl)<|Q.u 1 O<|Q.q (q.eL O O) O<|Q.u 1 O<|Q.qg O (q.aO O bX O) O<|Q.qg O (q.ld 0 O O av O) O<|Q.u 2 O<|Q.qg O (q.lV (r:=((k-1:Nat):Int)) O O) O<|Q.qg O (q.idx (i:=(k-1)) (fun _=>Wd.old ey) O O dJ O hx2) O<|Q.qg O (q.nF (j':=0) (fun _=>Wd.old ey) hx2 O bX O) O<|Q.qg O (q.lr (fun _=>Wd.old ey) hx2 O av O) O<|Q.qg O (q.TP O O) O<|Q.u 1 O<|Q.nil<|R.ay O O<|R.reg O<|R.q (q.iface O bm) O<|R.u 1 O<|R.nil<|R.rv O Tryz.results152 O (dq (by decide) (by (exact (gT (by omega) (m7 hx1 (by omega) ‹_› hx2 ‹_›) (by decide) HA))))
    exact R.ew O mixed (by kernel_rfl)<|Q.u 1 O<|Q.q (q.eu O O) O<|Q.u 11 O<|Q.nil<|R.aB O O<|R.meet () O (by (exact .inl ‹_›)) (sF O) (fun _=>Wd.pick [0] [] O O O)
   rintro _u hS
   refine R.reg O<|R.q (q.aO O eZ O) O<|R.q (q.ld 0 O O av O) O<|?_
   by_cases h5:x1.From=0
   .
    refine R.q (q.fQ O O) O<|R.nil<|R.ay O O<|R.reg O<|R.q (q.bA (r:=((k+1:Nat):Int)) O O) O<|R.u 1 O<|R.nil<|R.back (k+1) O (by (exact ⟨by omega,sg HA (xE hx1 (by omega) hS.out ‹_›)⟩)) (by omega) (sF O) (fun _=>Wd.pick [] [] O O O)
   refine R.q (q.fa O O) O<|R.nil<|R.aB O O ?_
   rcases fk (l.take k) x1.From with ⟨gW,Et⟩ | ⟨Dk,lY,gW,ve,SQ⟩
   .
    exact R.ew O mixed (by kernel_rfl)<|Q.u 2 O<|Q.q (q.kD (i:=k) (fun _=>Wd.old ey) O O Tryz.underlying43 AG O (by omega)) O<|Q.q (q.aO O eZ O) O<|Q.q (q.ld 0 O O av O) O<|Q.c (q.call lI O O (fun w hw=>(cv (congrArg (Value.int .i64) gW) (iA _ (l.take k) x1.From w ((fun w hw=>Sl.to ((fun _=>Wd.old ey) w hw) (by omega)) w hw) )))) O<|Q.u 1 O<|Q.nil<|R.reg O<|R.u 1 O<|R.q (q.lss (b:=true) O O (by decide)) O<|R.nil<|R.ay O O<|R.reg O<|R.q (q.iface O bm) O<|R.u 1 O<|R.nil<|R.rv O Tryz.results152 O (dq (by decide) (by (exact (gT (by omega) (xF hx1 (by omega) hS.out ‹_› gW) (by decide) HA))))
   refine R.ew O mixed (by kernel_rfl)<|Q.u 2 O<|Q.q (q.kD (i:=k) (fun _=>Wd.old ey) O O Tryz.underlying43 AG O (by omega)) O<|Q.q (q.aO O eZ O) O<|Q.q (q.ld 0 O O av O) O<|Q.c (q.call lI O O (fun w hw=>(cv (congrArg (Value.int .i64) gW) (iA _ (l.take k) x1.From w ((fun w hw=>Sl.to ((fun _=>Wd.old ey) w hw) (by omega)) w hw) )))) O<|Q.u 1 O<|Q.nil<|R.reg O<|R.u 1 O<|R.q (q.cW O O) O<|R.nil<|R.aB O O ?_
   have px:Dk<k:=by simp at lY;omega
   obtain ⟨x3,hx3⟩:∃z,l[Dk]? = some z:=⟨_,List.getElem?_eq_getElem (by omega)⟩
   have wx:=s8 hx3 (HA Dk px)
   have VN:=wx.KA;have VO:=wx.KB
   have wd:=rK x3 x1.ID x1.Rights x1.aN
   refine R.fu (fuel:=17) (Wd w [] [af.box b1 (gk x1) 127] []) O mixed O<|D.q (i:=0) O (aC [0] [] O O O) O (q.mv O) O<|D.q (i:=1) O (aC [0] [] O O O) O (q.mv O) O<|D.q (i:=2) O (aC [0] [] O O O) O (q.idx (i:=Dk) (fun _=>Wd.old ey) O O dJ O hx3) O<|D.q (i:=3) O (aC [0] [] O O O) O (q.eV (ds:=gk x3) (fun _=>Wd.old ey) hx3 O aL O) O<|D.q (i:=4) O (aC [0] [] O O O) O (q.aO O bX O) O<|D.q (i:=5) O (aC [0] [] O O O) O (q.ld 0 O O av O) O<|D.q (i:=6) O (aC [0] [] O O O) O (q.aO O jR O) O<|D.q (i:=7) O (aC [0] [] O O O) O (q.ld 0 O O av O) O<|D.q (i:=8) O (aC [0] [] O O O) O (q.aO O iZ O) O<|D.q (i:=9) O (aC [0] [] O O O) O (q.ld 0 O O av O) O<|D.two (i:=10) (j:=14) O O ?_ ?_
   .
    refine Do.s (s.c (q.call wB O O (fun w hw=>(mJ x3 x1.ID x1.Rights x1.aN w (by omega)))) O) (fun _=>(aC [0] [] O O O)) O fun _=>D.q (i:=11) O (aC [0] [] O O O) O (q.mv O) O<|D.q (i:=12) O (aC [0] [] O O O) O (q.ext O O) O<|D.q (i:=13) O (aC [0] [] O O O) O (q.ext O O) O<|D.one (i:=14) O<|Do.s (s.alloc bQ O O) (fun _=>(aC [1] [] O O O)) O fun b2=>D.one (i:=15) O<|Do.s (s.st 0 _ O O O O (.inl aL) O O O O) (fun _=>(aC [1] [] O O O)) O fun _=>D.q (i:=16) O (aC [1] [] O O O) O (q.as O) O<|D.done<|R.reg O<|R.u 1 O<|?_
    by_cases h6:(derived x3 x1.ID x1.Rights x1.aN).2=0
    .
     refine R.q (q.dC O O Tryz.underlying38) O<|R.nil<|R.aB O O<|R.reg O<|R.q (q.dv 0 O O aL) O<|R.q (q.dv 1 O O aL) O<|?_
     by_cases h7:(derived x3 x1.ID x1.Rights x1.aN).1=x1
     .
      refine R.q (q.vV (x:=(derived x3 x1.ID x1.Rights x1.aN).1) (y:=x1) tO O O h7) O<|R.nil<|R.aB O O<|R.reg O<|R.q (q.bA (r:=((k+1:Nat):Int)) O O) O<|R.u 1 O<|R.nil<|R.back (k+1) O (by (exact ⟨by omega,sg HA ((jj hx1 (by omega) hS.out ‹_› gW px hx3).trans ((if_neg (by omega)).trans (if_neg (fun h=>h ‹_›))))⟩)) (by omega) (sF O) (fun _=>Wd.pick [] [] O O O)
     exact R.q (q.vW (x:=(derived x3 x1.ID x1.Rights x1.aN).1) (y:=x1) tO O O h7) O<|R.nil<|R.ay O O<|R.reg O<|R.q (q.iface O bm) O<|R.u 1 O<|R.nil<|R.rv O Tryz.results152 O (dq (by decide) (by (exact (gT (by omega) ((jj hx1 (by omega) hS.out ‹_› gW px hx3).trans ((if_neg (by omega)).trans (if_pos ‹_›))) (by decide) HA))))
    exact R.q (q.eo O O Tryz.underlying38) O<|R.nil<|R.ay O O<|R.reg O<|R.u 2 O<|R.nil<|R.rv O Tryz.results152 O (rE (by (exact (gT (by omega) ((jj hx1 (by omega) hS.out ‹_› gW px hx3).trans (if_pos (by omega))) (by omega) HA).symm)))
   refine Do.s (s.alloc bQ O O) (fun _=>(aC [1] [] O O O)) O fun b3=>D.one (i:=10) O<|Do.s (s.c (q.call wB O O (fun w hw=>(mJ x3 x1.ID x1.Rights x1.aN w (by omega)))) O) (fun _=>(aC [1] [] O O O)) O fun _=>D.q (i:=11) O (aC [1] [] O O O) O (q.mv O) O<|D.q (i:=12) O (aC [1] [] O O O) O (q.ext O O) O<|D.q (i:=13) O (aC [1] [] O O O) O (q.ext O O) O<|D.one (i:=15) O<|Do.s (s.st 0 _ O O O O (.inl aL) O O O O) (fun _=>(aC [1] [] O O O)) O fun _=>D.q (i:=16) O (aC [1] [] O O O) O (q.as O) O<|D.done<|R.reg O<|R.u 1 O<|?_
   by_cases h8:(derived x3 x1.ID x1.Rights x1.aN).2=0
   .
    refine R.q (q.dC O O Tryz.underlying38) O<|R.nil<|R.aB O O<|R.reg O<|R.q (q.dv 0 O O aL) O<|R.q (q.dv 1 O O aL) O<|?_
    by_cases h9:(derived x3 x1.ID x1.Rights x1.aN).1=x1
    .
     refine R.q (q.vV (x:=(derived x3 x1.ID x1.Rights x1.aN).1) (y:=x1) tO O O h9) O<|R.nil<|R.aB O O<|R.reg O<|R.q (q.bA (r:=((k+1:Nat):Int)) O O) O<|R.u 1 O<|R.nil<|R.back (k+1) O (by (exact ⟨by omega,sg HA ((jj hx1 (by omega) hS.out ‹_› gW px hx3).trans ((if_neg (by omega)).trans (if_neg (fun h=>h ‹_›))))⟩)) (by omega) (sF O) (fun _=>Wd.pick [] [] O O O)
    exact R.q (q.vW (x:=(derived x3 x1.ID x1.Rights x1.aN).1) (y:=x1) tO O O h9) O<|R.nil<|R.ay O O<|R.reg O<|R.q (q.iface O bm) O<|R.u 1 O<|R.nil<|R.rv O Tryz.results152 O (dq (by decide) (by (exact (gT (by omega) ((jj hx1 (by omega) hS.out ‹_› gW px hx3).trans ((if_neg (by omega)).trans (if_pos ‹_›))) (by decide) HA))))
   exact R.q (q.eo O O Tryz.underlying38) O<|R.nil<|R.ay O O<|R.reg O<|R.u 2 O<|R.nil<|R.rv O Tryz.results152 O (rE (by (exact (gT (by omega) ((jj hx1 (by omega) hS.out ‹_› gW px hx3).trans (if_pos (by omega))) (by omega) HA).symm)))
  exact R.q (q.eo O O Tryz.underlying38) O<|R.nil<|R.ay O O<|R.reg O<|R.u 2 O<|R.nil<|R.rv O Tryz.results152 O (rE (by (have e:cz x1=1:=(by omega);rw [e];exact (gT (by omega) (ji hx1 (by omega)) (by decide) HA).symm)))
 exact R.q (q.cW O O) O<|R.nil<|R.aB O O<|R.reg O<|R.u 1 O<|R.nil<|R.rv O Tryz.results152 O (iI (by (exact (qi (fun j hj=>HA j (by omega))))))
theorem qj (bJ:Value)(l:List ap)(id:Int)(w:World)(ey:Sl w bJ l)(hl:l.length<=1000000):Calls Tryz.prog 54 #[bJ,iV id] w fun e w' => ∃u,e = .returned u/\Own w.heap.size 127 w' u (without l id)/\Ext w w':=by
 have zw:=ey.fC
 refine R.enter [] [(0,bJ),(1,iV id)] Tryz.func54 O O O O<|R.reg O<|R.u 1 O<|R.nil<|R.reg O<|R.u 1 O<|R.nil<|R.reg O<|R.u 1 O<|R.nil<|R.reg O<|R.u 2 O<|?_
 rcases fk l id with ⟨gW,Et⟩ | ⟨Dk,lY,gW,ve,SQ⟩
 .
  refine R.c (q.call lI O O (fun w hw=>(cv (congrArg (Value.int .i64) gW) (iA _ l id w ((fun _=>Wd.old ey) w hw) )))) O<|R.u 1 O<|R.nil<|R.reg O<|R.u 1 O<|R.q (q.geq (b:=false) O O (by decide)) O<|R.nil<|R.aB O O<|R.reg O<|R.u 1 O<|R.q (q.len' (fun _=>Wd.old ey) O Tryz.underlying43) O<|R.u 1 O<|R.nil<|R.row0 (α:=ap) 127<|R.loop (fun g_:Nat×Value×(List ap)=>[(1,iV id),(5,g_.2.1),(6,iV 0),(20,bJ),(21,iV (l.length:Int)),(22,iV (g_.1:Int))]) (fun g_=>[af.row 127 g_.2.1 g_.2.2]) (fun g_=>[]) (fun g_=>g_.1<=l.length/\g_.2.2=E4 id 0 (l.take g_.1)) (fun g_=>l.length-g_.1) (0,(nS),[]) O (by exact ⟨by simp,by simp [E4,SL]⟩) (sF O) (fun _=>Wd.pick [0] [] O O O) ?_
  rintro ⟨k,v,acc⟩ ⟨hk,HA⟩
  dsimp only at *
  have hal:acc.length<=k:=by rw [HA];exact Nat.le_trans (BF _ _ _) (List.length_take_le _ _)
  refine R.reg O<|?_
  by_cases h1:k<l.length
  .
   refine R.q (q.dy O O) O<|R.nil<|R.ay O O<|R.reg O<|?_
   obtain ⟨x1,hx1⟩:∃z,l[k]? = some z:=⟨_,List.getElem?_eq_getElem (by omega)⟩
   refine R.q (q.idx (i:=k) (fun _=>Wd.old ey) O O dJ O hx1) O<|R.q (q.eV (ds:=gk x1) (fun _=>Wd.old ey) hx1 O aL O) O<|R.s O (s.alloc bQ O O) fun b1=>R.s O (s.st 0 _ O O O O (.inl aL) O O O O) fun _=>R.nil<|R.reg O<|R.q (q.aO O bX O) O<|R.q (q.ld 0 O O av O) O<|R.u 1 O<|?_
   by_cases h2:x1.ID=id
   .
    refine R.q (q.fQ O O) O<|R.nil<|R.ay O O<|R.reg O<|R.q (q.bA (r:=((k+1:Nat):Int)) O O) O<|R.u 1 O<|R.nil<|R.back (k+1,v,acc) O (by (exact ⟨by omega,by rw [HA,Gu hx1 ‹_›]⟩)) (by dsimp only;omega) (sF O) (fun _=>Wd.pick [1] [] O O O)
   refine R.q (q.fa O O) O<|R.nil<|R.aB O O<|R.reg O<|R.q (q.aO O eZ O) O<|R.q (q.ld 0 O O av O) O<|R.u 1 O<|?_
   by_cases h3:x1.From=id
   .
    refine R.q (q.fQ O O) O<|R.nil<|R.ay O O<|R.reg O<|R.u 1 O<|R.q (q.aO O eZ O) O<|R.s O (s.st 0 _ O O O O (.inr ⟨av,rfl⟩) O O O O) fun _=>R.nil<|R.reg O<|R.u 1 O<|R.q (q.dv 0 O O aL) O<|R.s O (s.bs (l:=([(⟨x1.ID,x1.aE,x1.Rights,x1.aN,0⟩:ap)]:List ap)) dJ bQ O O O O O O O) fun b2=>R.s O (s.app 2 _ O O O (ck 0 O) lf (by simp;omega) (by simp;omega) (fun _=>rfl) O) fun v1=>R.u 1 O<|R.nil<|R.reg O<|R.q (q.bA (r:=((k+1:Nat):Int)) O O) O<|R.u 1 O<|R.nil<|R.back (k+1,v1,(acc++([(⟨x1.ID,x1.aE,x1.Rights,x1.aN,0⟩:ap)]))) O (by (exact ⟨by omega,by rw [HA,s9 hx1 ‹_›,Dj ‹_›]⟩)) (by dsimp only;omega) (sF O) (fun _=>Wd.pick [2] [] O O O)
   refine R.q (q.fa O O) O<|R.nil<|R.aB O O<|R.reg O<|R.u 1 O<|R.q (q.dv 0 O O aL) O<|R.s O (s.bs (l:=([x1]:List ap)) dJ bQ O O O O O O O) fun b3=>R.s O (s.app 2 _ O O O (ck 0 O) lf (by simp;omega) (by simp;omega) (fun _=>rfl) O) fun v2=>R.u 1 O<|R.nil<|R.reg O<|R.q (q.bA (r:=((k+1:Nat):Int)) O O) O<|R.u 1 O<|R.nil<|R.back (k+1,v2,(acc++([x1]))) O (by (exact ⟨by omega,by rw [HA,s9 hx1 ‹_›,zL ‹_›]⟩)) (by dsimp only;omega) (sF O) (fun _=>Wd.pick [2] [] O O O)
  exact R.q (q.cW O O) O<|R.nil<|R.aB O O<|R.reg O<|R.u 2 O<|R.nil<|R.ro 0 O Tryz.results54 O O (by (rw [HA,List.take_of_length_le (by omega)];unfold without;rw [uJ gW]))
 refine R.c (q.call lI O O (fun w hw=>(cv (congrArg (Value.int .i64) gW) (iA _ l id w ((fun _=>Wd.old ey) w hw) )))) O<|R.u 1 O<|R.nil<|R.reg O<|R.u 1 O<|R.q (q.G2 O O) O<|R.nil<|R.ay O O<|R.reg O<|R.u 2 O<|R.q (q.idx (i:=Dk) (fun _=>Wd.old ey) O O dJ O (List.getElem?_eq_getElem lY)) O<|R.q (q.nF (j':=4) (fun _=>Wd.old ey) (List.getElem?_eq_getElem lY) O eZ O) O<|R.q (q.lr (fun _=>Wd.old ey) (List.getElem?_eq_getElem lY) O av O) O<|R.u 1 O<|R.nil ?_
 refine R.reg O<|R.u 1 O<|R.q (q.len' (fun _=>Wd.old ey) O Tryz.underlying43) O<|R.u 1 O<|R.nil<|R.row0 (α:=ap) 127<|R.loop (fun g_:Nat×Value×(List ap)=>[(1,iV id),(5,g_.2.1),(6,iV (l[Dk]).From),(20,bJ),(21,iV (l.length:Int)),(22,iV (g_.1:Int))]) (fun g_=>[af.row 127 g_.2.1 g_.2.2]) (fun g_=>[]) (fun g_=>g_.1<=l.length/\g_.2.2=E4 id (l[Dk]).From (l.take g_.1)) (fun g_=>l.length-g_.1) (0,(nS),[]) O (by exact ⟨by simp,by simp [E4,SL]⟩) (sF O) (fun _=>Wd.pick [0] [] O O O) ?_
 rintro ⟨k,v,acc⟩ ⟨hk,HA⟩
 dsimp only at *
 have hal:acc.length<=k:=by rw [HA];exact Nat.le_trans (BF _ _ _) (List.length_take_le _ _)
 refine R.reg O<|?_
 by_cases h4:k<l.length
 .
  refine R.q (q.dy O O) O<|R.nil<|R.ay O O<|R.reg O<|?_
  obtain ⟨x2,hx2⟩:∃z,l[k]? = some z:=⟨_,List.getElem?_eq_getElem (by omega)⟩
  refine R.q (q.idx (i:=k) (fun _=>Wd.old ey) O O dJ O hx2) O<|R.q (q.eV (ds:=gk x2) (fun _=>Wd.old ey) hx2 O aL O) O<|R.s O (s.alloc bQ O O) fun b4=>R.s O (s.st 0 _ O O O O (.inl aL) O O O O) fun _=>R.nil<|R.reg O<|R.q (q.aO O bX O) O<|R.q (q.ld 0 O O av O) O<|R.u 1 O<|?_
  by_cases h5:x2.ID=id
  .
   refine R.q (q.fQ O O) O<|R.nil<|R.ay O O<|R.reg O<|R.q (q.bA (r:=((k+1:Nat):Int)) O O) O<|R.u 1 O<|R.nil<|R.back (k+1,v,acc) O (by (exact ⟨by omega,by rw [HA,Gu hx2 ‹_›]⟩)) (by dsimp only;omega) (sF O) (fun _=>Wd.pick [1] [] O O O)
  refine R.q (q.fa O O) O<|R.nil<|R.aB O O<|R.reg O<|R.q (q.aO O eZ O) O<|R.q (q.ld 0 O O av O) O<|R.u 1 O<|?_
  by_cases h6:x2.From=id
  .
   refine R.q (q.fQ O O) O<|R.nil<|R.ay O O<|R.reg O<|R.u 1 O<|R.q (q.aO O eZ O) O<|R.s O (s.st 0 _ O O O O (.inr ⟨av,rfl⟩) O O O O) fun _=>R.nil<|R.reg O<|R.u 1 O<|R.q (q.dv 0 O O aL) O<|R.s O (s.bs (l:=([(⟨x2.ID,x2.aE,x2.Rights,x2.aN,(l[Dk]).From⟩:ap)]:List ap)) dJ bQ O O O O O O O) fun b5=>R.s O (s.app 2 _ O O O (ck 0 O) lf (by simp;omega) (by simp;omega) (fun _=>rfl) O) fun v3=>R.u 1 O<|R.nil<|R.reg O<|R.q (q.bA (r:=((k+1:Nat):Int)) O O) O<|R.u 1 O<|R.nil<|R.back (k+1,v3,(acc++([(⟨x2.ID,x2.aE,x2.Rights,x2.aN,(l[Dk]).From⟩:ap)]))) O (by (exact ⟨by omega,by rw [HA,s9 hx2 ‹_›,Dj ‹_›]⟩)) (by dsimp only;omega) (sF O) (fun _=>Wd.pick [2] [] O O O)
  refine R.q (q.fa O O) O<|R.nil<|R.aB O O<|R.reg O<|R.u 1 O<|R.q (q.dv 0 O O aL) O<|R.s O (s.bs (l:=([x2]:List ap)) dJ bQ O O O O O O O) fun b6=>R.s O (s.app 2 _ O O O (ck 0 O) lf (by simp;omega) (by simp;omega) (fun _=>rfl) O) fun v4=>R.u 1 O<|R.nil<|R.reg O<|R.q (q.bA (r:=((k+1:Nat):Int)) O O) O<|R.u 1 O<|R.nil<|R.back (k+1,v4,(acc++([x2]))) O (by (exact ⟨by omega,by rw [HA,s9 hx2 ‹_›,zL ‹_›]⟩)) (by dsimp only;omega) (sF O) (fun _=>Wd.pick [2] [] O O O)
 exact R.q (q.cW O O) O<|R.nil<|R.aB O O<|R.reg O<|R.u 2 O<|R.nil<|R.ro 0 O Tryz.results54 O O (by (rw [HA,List.take_of_length_le (by omega)];unfold without;rw [uI gW (List.getElem?_eq_getElem lY)]))
end
section
open Go.RowKit
theorem xG {l:List ap}{k:Nat}{x y:ap}(hx:l[k]? = some x)(h:hZ l k=0)(hk:0<k)(hy:l[k-1]? = some y):y.ID<x.ID:=by
 have hw:=s8 hx h
 have h0:cz x=0:=by rcases kx x with h1|h1;exact h1;rw [ji hx (by omega)] at h;omega
 rcases Int.lt_or_le y.ID x.ID with h1|h1
 .exact h1
 .rw [m7 hx h0 hk hy (by omega)] at h;omega
theorem cT.rise {l:List ap}(h:cT l):∀ (j i:Nat) {x y:ap},i<j->l[j]? = some x->l[i]? = some y->y.ID<x.ID
 | 0,i,x,y,hij,hx,hy=>by omega
 | j+1,i,x,y,hij,hx,hy=>by
  have hlt:j+1<l.length:=(List.getElem?_eq_some_iff.1 hx).1
  have hz:l[j]? = some l[j]:=List.getElem?_eq_getElem (by omega)
  have h1:=xG hx (h.steps _ hlt) (by omega) hz
  by_cases hj:i=j
  .subst hj;rw [hz] at hy;injection hy with hy;subst hy;exact h1
  .have:=h.rise j i (by omega) hz hy;omega
theorem cT.inj {l:List ap}(h:cT l){x y:ap}(hx:x∈l)(hy:y∈l)(he:x.ID=y.ID):x=y:=by
 obtain ⟨i,hi⟩:=List.mem_iff_getElem?.1 hx
 obtain ⟨j,hj⟩:=List.mem_iff_getElem?.1 hy
 rcases Nat.lt_trichotomy i j with h1|h1|h1
 .have:=h.rise j i h1 hj hi;omega
 .subst h1;rw [hi] at hj;injection hj
 .have:=h.rise i j h1 hi hj;omega
theorem xH {l:List ap}{k:Nat}{x:ap}(hx:l[k]? = some x)(h:hZ l k=0)(h0:x.From≠0) :
 ∃j y,j<k/\l[j]? = some y/\y.ID=x.From/\(derived y x.ID x.Rights x.aN).2=0/\(derived y x.ID x.Rights x.aN).1=x:=by
 have hw:cz x=0:=by rcases kx x with h1|h1;exact h1;rw [ji hx (by omega)] at h;omega
 have hsh:¬ 0<k \/ ∃y,l[k-1]? = some y/\y.ID<x.ID:=by
  by_cases hk:0<k
  .
   have hlt:k<l.length:=(List.getElem?_eq_some_iff.1 hx).1
   exact .inr ⟨_,List.getElem?_eq_getElem (by omega),xG hx h hk (List.getElem?_eq_getElem (by omega))⟩
  .exact .inl hk
 rcases fk (l.take k) x.From with ⟨h1,h2⟩ | ⟨j,hj,h1,h2,h3⟩
 .rw [xF hx hw hsh h0 h1] at h;omega
 .
  have hjk:j<k:=by rw [List.length_take] at hj;omega
  have hlt:k<l.length:=(List.getElem?_eq_some_iff.1 hx).1
  have hy:l[j]? = some l[j]:=List.getElem?_eq_getElem (by omega)
  rw [jj hx hw hsh h0 h1 hjk hy] at h
  have hid:(l[j]'(by omega)).ID=x.From:=by simpa [List.getElem_take] using h2
  by_cases hd:(derived l[j] x.ID x.Rights x.aN).2≠0
  .rw [if_pos hd] at h;exact absurd h hd
  .
   rw [if_neg hd] at h
   by_cases he:(derived l[j] x.ID x.Rights x.aN).1≠x
   .rw [if_pos he] at h;omega
   .exact ⟨j,_,hjk,hy,hid,by simpa using hd,by simpa using he⟩
theorem mg {l:List ap}{x:ap}(hx:x∈l):0<=cK l x.ID:=by
 rcases fk l x.ID with ⟨h1,h2⟩ | ⟨k,hk,h1,h2,_⟩
 .exact absurd rfl (h2 x hx)
 .omega
theorem oa {l:List ap}{f:Int}(h:0<=cK l f):∃y,l[(cK l f).toNat]? = some y/\y.ID=f/\y∈l/\eP l f=y.From:=by
 obtain ⟨y,h1,h2,h3⟩:=Di l f h
 exact ⟨y,h1,h2,h3,uI (j:=(cK l f).toNat) (by omega) h1⟩
theorem xI {l:List ap}{f:Int}(h:cK l f<0):eP l f=0:=by
 rcases fk l f with ⟨h1,_⟩ | ⟨k,hk,h1,_⟩
 .exact uJ h1
 .omega
theorem cT.uK {l:List ap}(h:cT l){f:Int}(hf:0<=cK l f):0<f/\f<=999/\0<=eP l f/\eP l f<f:=by
 obtain ⟨y,h1,h2,h3,h4⟩:=oa hf
 have w:=h.mem h3
 have:=w.id1;have:=w.Q7;have:=w.Qk;have:=w.Oo
 omega
def chain (l:List ap)(f:Int):List Int :=
  if h:0<=cK l f/\0<f/\eP l f<f then f::chain l (eP l f) else []
termination_by f.toNat
decreasing_by omega
def above (l:List ap)(id:Int):List Int:=chain l (eP l id)
theorem sh {l:List ap}(h:cT l){f:Int}(hf:0<=cK l f):chain l f=f::chain l (eP l f):=by
 have:=h.uK hf
 rw [chain,dif_pos ⟨hf,by omega,by omega⟩]
theorem E5 {l:List ap}{f:Int}(hf:cK l f<0):chain l f=[]:=by
 rw [chain,dif_neg (by omega)]
def E6 (id:Int)(acc:List Int)(x:ap):List Int:=if (x.From=id\/x.From∈acc)/\0<x.From then acc++[x.ID] else acc
def ky (id:Int)(l:List ap):List Int:=l.foldl (E6 id) []
theorem Dl {id:Int}{l:List ap}{k:Nat}{x:ap}{S:List Int}(hx:l[k]? = some x)(hS:∀z,z∈S↔z=id\/z∈ky id (l.take k))(h:x.From∈S)(h0:0<x.From):ky id (l.take (k+1))=ky id (l.take k)++[x.ID]:=by
 unfold ky at *
 rw [List.take_add_one,hx,List.foldl_append]
 simp only [Option.toList,List.foldl_cons,List.foldl_nil]
 unfold E6 at *
 rw [if_pos ⟨(hS _).1 h,h0⟩]
theorem t8 {id:Int}{l:List ap}{k:Nat}{x:ap}{S:List Int}(hx:l[k]? = some x)(hS:∀z,z∈S↔z=id\/z∈ky id (l.take k))(h:¬ (x.From∈S/\0<x.From)):ky id (l.take (k+1))=ky id (l.take k):=by
 unfold ky at *
 rw [List.take_add_one,hx,List.foldl_append]
 simp only [Option.toList,List.foldl_cons,List.foldl_nil]
 unfold E6 at *
 rw [if_neg (fun hc=>h ⟨(hS _).2 hc.1,hc.2⟩)]
theorem KC (id:Int)(l:List ap):(ky id l).length<=l.length:=by
 have:∀ (l:List ap) (acc:List Int),(l.foldl (E6 id) acc).length<=acc.length+l.length:=by
  intro l
  induction l with
  | nil=>intro acc;simp
  | cons x l ih =>
   intro acc
   have:=ih (E6 id acc x)
   have h2:(E6 id acc x).length<=acc.length+1:=by unfold E6;split <;> simp
   simp only [List.foldl_cons,List.length_cons];omega
 simpa [ky] using this l []
def up (l:List ap)(id f:Int):Int :=
  if h:0<f/\f≠id/\0<=cK l f/\eP l f<f then up l id (eP l f) else f
termination_by f.toNat
decreasing_by omega
theorem Gv {l:List ap}(h:cT l){id f:Int}(h1:f≠id)(h2:0<=cK l f):up l id f=up l id (eP l f):=by
 have:=h.uK h2
 rw [up,dif_pos ⟨by omega,h1,h2,by omega⟩]
theorem BG {l:List ap}{id f:Int}(h:¬ 0<f\/f=id\/cK l f<0):up l id f=f:=by
 rw [up,dif_neg (by omega)]
def Q8 (l:List ap)(id:Int)(x:ap):Bool:=decide (up l id x.From=id)&&decide (0<id)
def vk (l:List ap)(id:Int)(m:List ap):List Int:=(m.filter (Q8 l id)).map ap.ID
theorem KD {l0:List ap}{id:Int}{l:List ap}{k:Nat}{x:ap}(hx:l[k]? = some x)(h:up l0 id x.From=id)(h0:0<id):vk l0 id (l.take (k+1))=vk l0 id (l.take k)++[x.ID]:=by
 unfold vk
 rw [List.take_add_one,hx,List.filter_append];simp [Q8,h,h0]
theorem H0 {l0:List ap}{id:Int}{l:List ap}{k:Nat}{x:ap}(hx:l[k]? = some x)(h:¬ (up l0 id x.From=id/\0<id)):vk l0 id (l.take (k+1))=vk l0 id (l.take k):=by
 unfold vk
 rw [List.take_add_one,hx,List.filter_append]
 have:Q8 l0 id x=false:=by unfold Q8;rw [Bool.and_eq_false_iff];by_cases h1:up l0 id x.From=id;right;simpa using (fun h2=>h ⟨h1,h2⟩);left;simpa using h1
 simp [this]
def beneath (l:List ap)(id:Int):List Int:=vk l id l
theorem KE {l:List ap}(h:cT l)(id:Int):∀k,k<=l.length->ky id (l.take k)=vk l id (l.take k)
 | 0,_=>by simp [ky,vk]
 | k+1,hk=>by
  have ih:=KE h id k (by omega)
  have hx:l[k]? = some l[k]:=List.getElem?_eq_getElem (by omega)
  have hS:∀z,z∈id::ky id (l.take k)↔z=id\/z∈ky id (l.take k):=fun z=>by simp
  have w:=s8 hx (h.steps k (by omega))
  have key:((l[k]).From∈id::ky id (l.take k)/\0<(l[k]).From)↔(up l id (l[k]).From=id/\0<id):=by
   by_cases h0:(l[k]).From=0
   .
    rw [h0,BG (.inl (by omega))]
    constructor
    .intro h;omega
    .intro h;omega
   .
    have hpos:0<(l[k]).From:=by have:=w.Q7;omega
    by_cases he:(l[k]).From=id
    .
     rw [BG (.inr (.inl he))]
     constructor
     .intro _;exact ⟨he,by omega⟩
     .intro _;exact ⟨by rw [he];simp,hpos⟩
    .
     obtain ⟨j,y,hj,hy,hid,_,_⟩:=xH hx (h.steps k (by omega)) h0
     have hym:y∈l:=List.mem_of_getElem? hy
     have hfi:0<=cK l (l[k]).From:=by rw [<- hid];exact mg hym
     rw [Gv h he hfi]
     obtain ⟨y',_,hy2,hy3,hy4⟩:=oa hfi
     have:y'=y:=h.inj hy3 hym (by rw [hy2,hid])
     subst this
     rw [hy4,ih]
     have hmem:(l[k]).From∈vk l id (l.take k)↔(up l id y'.From=id/\0<id):=by
      unfold vk
      simp only [List.mem_map,List.mem_filter,Q8,Bool.and_eq_true,decide_eq_true_eq]
      constructor
      .
       rintro ⟨z,⟨hz,hz2⟩,hz3⟩
       have:z=y':=h.inj (List.mem_of_mem_take hz) hy3 (by rw [hz3,hid])
       subst this;exact hz2
      .
       intro hh
       exact ⟨y',⟨List.mem_of_getElem? (i:=j) (by rw [List.getElem?_take,if_pos hj];exact hy),hh⟩,hid⟩
     constructor
     .
      rintro ⟨h1,_⟩
      rcases List.mem_cons.1 h1 with h1|h1
      .exact absurd h1 he
      .exact hmem.1 h1
     .intro h1;exact ⟨List.mem_cons.2 (.inr (hmem.2 h1)),hpos⟩
  by_cases hc:up l id (l[k]).From=id/\0<id
  .
   have:=key.2 hc
   rw [Dl hx hS this.1 this.2,KD hx hc.1 hc.2,ih]
  .rw [t8 hx hS (fun hh=>hc (key.1 hh)),H0 hx hc,ih]
theorem MG {l:List ap}(h:cT l)(id:Int):ky id l=beneath l id:=by
 have:=KE h id l.length (Nat.le_refl _)
 simpa [beneath,List.take_length] using this
theorem Dm {l:List ap}(h:cT l){a:Int}(ha:0<=cK l a)(f:Int)(hf0:0<=f):up l a f=a↔a∈chain l f:=by
 have ha0:=h.uK ha
 by_cases he:f=a
 .subst he;rw [BG (.inr (.inl rfl)),sh h ha];simp
 .
  rcases Int.lt_or_le (cK l f) 0 with h1|h1
  .rw [BG (.inr (.inr h1)),E5 h1];simp [he]
  .
   have hf:=h.uK h1
   rw [Gv h he h1,sh h h1,Dm h ha (eP l f) hf.2.2.1]
   simp [Ne.symm he]
termination_by f.toNat
decreasing_by omega
end
section
open Go Go.RowKit
set_option maxRecDepth 100000
set_option maxHeartbeats 1000000
theorem BH (bJ:Value)(l:List ap)(id:Int)(w:World)(ey:Sl w bJ l)(hl:l.length<=1000000):Calls Tryz.prog 122 #[bJ,iV id] w fun e w' => ∃u,e = .returned u/\Own w.heap.size 3 w' u (ky id l)/\Ext w w':=by
 have zw:=ey.fC
 refine R.enter [] [(0,bJ),(1,iV id)] Tryz.func122 O O O O<|R.reg O<|R.u 1 O<|R.nil<|R.reg O<|R.s O (s.mk O) fun b1=>R.u 1 O<|R.s O (s.TT 0 _ O O O O sQ O) fun _=>R.u 2 O<|R.nil<|R.reg O<|R.u 1 O<|R.nil<|R.reg O<|R.u 1 O<|R.q (q.len' (fun _=>Wd.old ey) O Tryz.underlying43) O<|R.u 1 O<|R.nil<|R.row0 (α:=Int) 3<|R.loop (fun g_:Nat×Value×(List Int)×(List Int)=>[(5,.map (some b1)),(6,g_.2.1),(12,bJ),(13,iV (l.length:Int)),(14,iV (g_.1:Int))]) (fun g_=>[af.row 3 g_.2.1 g_.2.2.1,af.ov b1 g_.2.2.2]) (fun g_=>[]) (fun g_=>g_.1<=l.length/\g_.2.2.1=ky id (l.take g_.1) /\ ∀z,z∈g_.2.2.2↔z=id\/z∈g_.2.2.1) (fun g_=>l.length-g_.1) (0,(nS),[],[id]) O (by exact ⟨by simp,by simp [ky],by simp⟩) (sF O) (fun _=>Wd.pick [0,1] [] O O O) ?_
 rintro ⟨k,v,acc,S⟩ ⟨hk,HA,HS⟩
 dsimp only at *
 have hal:acc.length<=k:=by rw [HA];exact Nat.le_trans (KC _ _) (List.length_take_le _ _)
 refine R.reg O<|?_
 by_cases h1:k<l.length
 .
  refine R.q (q.dy O O) O<|R.nil<|R.ay O O<|R.reg O<|?_
  obtain ⟨x1,hx1⟩:∃z,l[k]? = some z:=⟨_,List.getElem?_eq_getElem (by omega)⟩
  refine R.q (q.idx (i:=k) (fun _=>Wd.old ey) O O dJ O hx1) O<|R.q (q.eV (ds:=gk x1) (fun _=>Wd.old ey) hx1 O aL O) O<|R.s O (s.alloc bQ O O) fun b2=>R.s O (s.st 0 _ O O O O (.inl aL) O O O O) fun _=>R.nil<|R.reg O<|R.u 1 O<|R.q (q.aO O eZ O) O<|R.q (q.ld 0 O O av O) O<|?_
  by_cases h2:x1.From∈S
  .
   refine R.q (q.NL 2 O O O sQ (decide_eq_true h2)) O<|R.u 1 O<|R.qg O (q.aO O eZ O) O<|R.qg O (q.ld 0 O O av O) O<|?_
   by_cases h3:0<x1.From
   .
    refine R.qg O (q.eL O O) O<|R.u 1 O<|R.nil<|R.ay O O<|R.reg O<|R.u 1 O<|R.q (q.aO O bX O) O<|R.q (q.ld 0 O O av O) O<|R.s O (s.Ve 2 _ O O O O sQ O) fun _=>R.nil<|R.reg O<|R.u 1 O<|R.q (q.aO O bX O) O<|R.q (q.ld 0 O O av O) O<|R.s O (s.bs (l:=([x1.ID]:List Int)) da lW O O O O O O O) fun b3=>R.s O (s.app 2 _ O O O (ck 0 O) nM (by simp;omega) (by simp;omega) (fun _=>rfl) O) fun v1=>R.u 1 O<|R.nil<|R.reg O<|R.q (q.bA (r:=((k+1:Nat):Int)) O O) O<|R.u 1 O<|R.nil<|R.back (k+1,v1,(acc++([x1.ID])),(x1.ID::S)) O (by (exact ⟨by omega,by rw [HA,Dl hx1 (HA▸HS) ‹_› ‹_›],by intro z;rw [List.mem_cons,HS,List.mem_append,List.mem_singleton];constructor <;> (intro h;rcases h with h|h|h <;> simp [h])⟩)) (by dsimp only;omega) (sF O) (fun _=>Wd.pick [2,3] [] O O O)
   refine R.qg O (q.eu O O) O<|R.u 1 O<|R.nil<|R.aB O O<|R.reg O<|R.q (q.bA (r:=((k+1:Nat):Int)) O O) O<|R.u 1 O<|R.nil<|R.back (k+1,v,acc,S) O (by (exact ⟨by omega,by rw [HA,t8 hx1 (HA▸HS) (by (intro hh;exact absurd hh.2 ‹_›))],HS⟩)) (by dsimp only;omega) (sF O) (fun _=>Wd.pick [1,2] [] O O O)
  refine R.q (q.NL 2 O O O sQ (decide_eq_false h2)) O<|R.u 5 O<|R.nil<|R.aB O O<|R.reg O<|R.q (q.bA (r:=((k+1:Nat):Int)) O O) O<|R.u 1 O<|R.nil<|R.back (k+1,v,acc,S) O (by (exact ⟨by omega,by rw [HA,t8 hx1 (HA▸HS) (by (intro hh;exact absurd hh.1 ‹_›))],HS⟩)) (by dsimp only;omega) (sF O) (fun _=>Wd.pick [1,2] [] O O O)
 exact R.q (q.cW O O) O<|R.nil<|R.aB O O<|R.reg O<|R.u 2 O<|R.nil<|R.ro 0 O Tryz.results122 O O (by (rw [HA,List.take_of_length_le (by omega)]))
end
section
open Go.RowKit
structure Made (y x:ap):Prop where
  thing:y.aE=x.aE
  has:jh y.Rights x.Rights=true
  dL:y.aN=0\/x.aN=y.aN
  gq:y.ID=x.From
theorem MH {y x:ap}(h1:(derived y x.ID x.Rights x.aN).2=0)(h2:(derived y x.ID x.Rights x.aN).1=x):Made y x:=by
 unfold derived at h1 h2
 split at h1;· simp at h1
 split at h1;· simp at h1
 split at h1;· simp at h1
 split at h1;· simp at h1
 split at h1;· simp at h1
 rename_i a b c d e
 rw [if_neg a,if_neg b,if_neg c,if_neg d,if_neg e] at h2
 have ht:=congrArg ap.aE h2
 have hb:=congrArg ap.aN h2
 have hf:=congrArg ap.From h2
 simp only [] at ht hb hf
 refine ⟨ht,by simpa using d,?_,hf⟩
 by_cases h0:x.aN=0
 .rw [if_pos h0] at hb;exact .inl (by omega)
 .
  by_cases hy:y.aN=0
  .exact .inl hy
  .
   right
   by_cases he:x.aN=y.aN
   .exact he
   .exact absurd ⟨h0,hy,he⟩ e
theorem E7 {y x:ap}(w:Q6 x)(h:Made y x):derived y x.ID x.Rights x.aN=(x,0):=by
 have:=w.KA;have:=w.KB;have:=w.Qi;have:=w.Qj
 unfold derived
 rw [if_neg (by rw [gS w.KA w.KB];omega),if_neg (by omega),if_neg (by omega),if_neg (by rw [h.has];simp),if_neg (by rintro ⟨h1,h2,h3⟩;rcases h.dL with h4|h4 <;> omega)]
 have hb:(if x.aN=0 then y.aN else x.aN)=x.aN:=by
  split
  .rcases h.dL with h4|h4 <;> omega
  .rfl
 rw [hb,h.thing,h.gq]
theorem KF:∀a b c:Fin 8,jh ((a:Nat):Int) ((b:Nat):Int)=true->jh ((b:Nat):Int) ((c:Nat):Int)=true->jh ((a:Nat):Int) ((c:Nat):Int)=true:=by decide
theorem Uc {a b c:Int}(a0:0<=a)(a7:a<=7)(b0:0<=b)(b7:b<=7)(c0:0<=c)(c7:c<=7)(h:jh a b=true)(k:jh b c=true):jh a c=true:=by
 obtain ⟨x,rfl⟩:=E3 a0 a7;obtain ⟨y,rfl⟩:=E3 b0 b7;obtain ⟨z,rfl⟩:=E3 c0 c7;exact KF x y z h k
structure ua (l:List ap):Prop where
  ok:∀x∈l,cz x=0
  rise:l.Pairwise (fun x y=>x.ID<y.ID)
  made:∀x∈l,x.From≠0 -> ∃y∈l,Made y x
theorem cT.fault {l:List ap}(h:cT l){x:ap}(hx:x∈l):cz x=0:=by
 obtain ⟨j,hj⟩:=List.mem_iff_getElem?.1 hx
 rcases kx x with h1|h1
 .exact h1
 .have:=ji hj (by omega);rw [h.steps j (List.getElem?_eq_some_iff.1 hj).1] at this;omega
theorem cT.is {l:List ap}(h:cT l):ua l:=by
 refine ⟨fun x hx=>h.fault hx,?_,fun x hx h0=>?_⟩
 .
  rw [List.pairwise_iff_getElem]
  intro i j hi hj hij
  exact h.rise j i hij (List.getElem?_eq_getElem hj) (List.getElem?_eq_getElem hi)
 .
  obtain ⟨k,hk⟩:=List.mem_iff_getElem?.1 hx
  obtain ⟨j,y,hj,hy,_,h1,h2⟩:=xH hk (h.steps k (List.getElem?_eq_some_iff.1 hk).1) h0
  exact ⟨y,List.mem_of_getElem? hy,MH h1 h2⟩
theorem qk {l:List ap}(h:l.Pairwise (fun x y=>x.ID<y.ID)){i j:Nat}{x y:ap}(hi:l[i]? = some x)(hj:l[j]? = some y)(hij:i<j):x.ID<y.ID:=by
 rw [List.pairwise_iff_getElem] at h
 obtain ⟨h1,rfl⟩:=List.getElem?_eq_some_iff.1 hi
 obtain ⟨h2,rfl⟩:=List.getElem?_eq_some_iff.1 hj
 exact h i j h1 h2 hij
theorem ua.ok' {l:List ap}(h:ua l):cT l:=by
 refine qi fun k hk=>?_
 have hx:l[k]? = some l[k]:=List.getElem?_eq_getElem hk
 have hm:l[k]∈l:=List.getElem_mem hk
 have h0:=h.ok _ hm
 have w:=BD h0
 have hsh:¬ 0<k \/ ∃y,l[k-1]? = some y/\y.ID<(l[k]).ID:=by
  by_cases h1:0<k
  .
   have hy:l[k-1]? = some (l[k-1]'(by omega)):=List.getElem?_eq_getElem (by omega)
   exact .inr ⟨_,hy,qk h.rise hy hx (by omega)⟩
  .exact .inl h1
 by_cases hf:(l[k]).From=0
 .exact xE hx h0 hsh hf
 .
  obtain ⟨y,hy,hmd⟩:=h.made _ hm hf
  obtain ⟨j,hj⟩:=List.mem_iff_getElem?.1 hy
  have hjl:j<l.length:=(List.getElem?_eq_some_iff.1 hj).1
  have hjk:j<k:=by
   rcases Nat.lt_trichotomy j k with h1|h1|h1
   .exact h1
   .
    subst h1;rw [hj] at hx;injection hx with hx
    have:=hmd.gq;have:=w.Qk;rw [hx] at *;omega
   .have:=qk h.rise hx hj h1;have:=hmd.gq;have:=w.Qk;omega
  have hfw:cK (l.take k) (l[k]).From=(j:Int):=by
   have hl:j<(l.take k).length:=by rw [List.length_take];omega
   have hge:(l.take k)[j]=y:=by
    rw [List.getElem_take];exact (List.getElem?_eq_some_iff.1 hj).2
   refine Kz hl (by rw [hge];exact hmd.gq) (fun i z hi hz=>?_)
   have hz':l[i]? = some z:=by rw [List.getElem?_take,if_pos (by omega)] at hz;exact hz
   have:=qk h.rise hz' hj hi
   have:=hmd.gq;omega
  rw [jj hx h0 hsh hf hfw hjk hj]
  have:=E7 w hmd
  rw [this];simp
theorem zM {l:List ap}(h:cT l){a b:Int}(ha:0<=cK l a)(hb:0<=cK l b):b∈ky a l↔a∈above l b:=by
 rw [MG h]
 have ha0:=h.uK ha
 have hb0:=h.uK hb
 unfold beneath vk above
 rw [<- Dm h ha _ hb0.2.2.1]
 simp only [List.mem_map,List.mem_filter,Q8,Bool.and_eq_true,decide_eq_true_eq]
 obtain ⟨y,_,hy2,hy3,hy4⟩:=oa hb
 constructor
 .
  rintro ⟨x,⟨hx,hu,_⟩,hid⟩
  have:x=y:=h.inj hx hy3 (by omega)
  subst this;rw [hy4];exact hu
 .
  intro hu
  exact ⟨y,⟨hy3,by rw [<- hy4];exact hu,ha0.1⟩,hy2⟩
theorem gL {l:List ap}{id:Int}{x:ap}:x∈without l id ↔ ∃y∈l,y.ID≠id/\x=mP id (eP l id) y:=by
 unfold without E4
 simp only [List.mem_map,List.mem_filter,decide_eq_true_eq]
 constructor
 .rintro ⟨y,⟨h1,h2⟩,rfl⟩;exact ⟨y,h1,h2,rfl⟩
 .rintro ⟨y,h1,h2,rfl⟩;exact ⟨y,⟨h1,h2⟩,rfl⟩
theorem kz {id f:Int}(x:ap):(mP id f x).ID=x.ID/\(mP id f x).aE=x.aE/\(mP id f x).Rights=x.Rights/\(mP id f x).aN=x.aN:=by unfold mP;split <;> exact ⟨rfl,rfl,rfl,rfl⟩
theorem ub {id f:Int}(x:ap):(mP id f x).From=if x.From=id then f else x.From:=by unfold mP;split <;> rfl
theorem MI {x:ap}(h:cz x=0){f:Int}(h0:0<=f)(h1:f<x.ID):cz { x with From:=f }=0:=by
 have w:=BD h
 rcases gu { x with From:=f } with ⟨h2,h3⟩ | ⟨h2,_⟩
 .
  have:=w.id1;have:=w.Oo;have:=w.Qg;have:=w.Qh;have:=w.Qi;have:=w.Qj;have:=w.KA;have:=w.KB
  simp only [] at h3;omega
 .exact h2
theorem MJ {id f:Int}{y x:ap}(h:Made y x)(hf:x.From≠id):Made (mP id f y) (mP id f x):=by
 have hy:=kz (id:=id) (f:=f) y
 have hx:=kz (id:=id) (f:=f) x
 refine ⟨by rw [hy.2.1,hx.2.1];exact h.thing,by rw [hy.2.2.1,hx.2.2.1];exact h.has,by rw [hy.2.2.2,hx.2.2.2];exact h.dL,?_⟩
 rw [hy.1,ub,if_neg hf];exact h.gq
theorem cT.wo {l:List ap}(h:cT l)(id:Int):cT (without l id):=by
 have hi:=h.is
 refine ua.ok' ⟨fun x hx=>?_,?_,fun x hx h0=>?_⟩
 .
  obtain ⟨y,hy,hne,rfl⟩:=gL.1 hx
  have Ud:=hi.ok y hy
  unfold mP
  split
  .
   rename_i he
   have w:=BD Ud
   have:=w.Q7;have:=w.Qk
   have hid:0<=eP l id/\(0<eP l id->eP l id<id):=by
    rcases Int.lt_or_le (cK l id) 0 with h1|h1
    .rw [xI h1];omega
    .have:=h.uK h1;omega
   exact MI Ud hid.1 (by omega)
  .exact Ud
 .
  unfold without E4
  rw [List.pairwise_map]
  refine (hi.rise.filter _).imp ?_
  intro a b hab
  rw [(kz a).1,(kz b).1];exact hab
 .
  obtain ⟨y,hy,hne,rfl⟩:=gL.1 hx
  rw [ub] at h0
  by_cases he:y.From=id
  .
   rw [if_pos he] at h0
   have hid:0<=cK l id:=by
    rcases Int.lt_or_le (cK l id) 0 with h1|h1
    .rw [xI h1] at h0;exact absurd rfl h0
    .exact h1
   obtain ⟨p,_,hp2,hp3,Ue⟩:=oa hid
   have VP:=h.uK hid
   obtain ⟨z,hz,SR⟩:=hi.made p hp3 (by rw [<- Ue];exact h0)
   have hy0:y.From≠0:=by rw [he];omega
   obtain ⟨p',hp',hpy⟩:=hi.made y hy hy0
   have:p'=p:=h.inj hp' hp3 (by rw [hpy.gq,he,hp2])
   subst this
   have Uf:z.ID≠id:=by have:=SR.gq;rw [<- Ue] at this;omega
   refine ⟨mP id (eP l id) z,gL.2 ⟨z,hz,Uf,rfl⟩,?_⟩
   have wz:=h.mem hz;have wp:=h.mem hp3;have wy:=h.mem hy
   have hz':=kz (id:=id) (f:=eP l id) z
   have hy':=kz (id:=id) (f:=eP l id) y
   refine ⟨by rw [hz'.2.1,hy'.2.1,SR.thing,hpy.thing],by rw [hz'.2.2.1,hy'.2.2.1];exact Uc wz.KA wz.KB wp.KA wp.KB wy.KA wy.KB SR.has hpy.has,?_,?_⟩
   .
    rw [hz'.2.2.2,hy'.2.2.2]
    rcases SR.dL with h1|h1
    .exact .inl h1
    .
     rcases hpy.dL with h2|h2
     .exact .inl (by omega)
     .exact .inr (by omega)
   .rw [hz'.1,ub,if_pos he,SR.gq,Ue]
  .
   rw [if_neg he] at h0
   obtain ⟨p,hp,hpy⟩:=hi.made y hy h0
   exact ⟨mP id (eP l id) p,gL.2 ⟨p,hp,by rw [hpy.gq];exact he,rfl⟩,MJ hpy he⟩
end
end Go.Proofs.YtkbhcbipadkcaaaGreatDoor
