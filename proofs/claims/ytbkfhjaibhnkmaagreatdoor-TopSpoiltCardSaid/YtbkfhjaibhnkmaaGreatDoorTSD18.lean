import Derived.Test.YtbkfhjaibhnkmaaGreatDoorTSD16
import Derived.Test.YtbkfhjaibhnkmaaGreatDoorTSD7
import Derived.Test.YtbkfhjaibhnkmaaGreatDoorTSD17
namespace Go.Proofs.YtbkfhjaibhnkmaaGreatDoor
open Go Go.RowKit
set_option linter.unusedVariables false
set_option maxRecDepth 100000
set_option maxHeartbeats 1000000 in
theorem k5 (bm:Value)(l:List aj)(w:World)(cp:Sl w bm l):Calls Tryz.prog 26 #[bm] w fun e w'=>e = .returned (e6 (cW l))∧Ext w w':=by
 have ql:=cp.dH
 refine R.enter (n:=68) (vs:=[bm]) [] [(0,bm)] Tryz.func26 rfl rfl rfl rfl ?_
 refine R.reg rfl<|R.u 1 rfl<|R.nil ?_
 refine R.reg rfl<|R.u 1 rfl<|R.q (q.len' (fun _=>Wd.old cp) rfl Tryz.underlying27) rfl<|R.u 1 rfl<|R.nil ?_
 refine R.loop (fun k:Nat=>[(0,bm),(8,bm),(9,iV (l.length:Int)),(10,iV (k:Int))]) (fun k:Nat=>[]) (fun k:Nat=>[]) (fun k:Nat=>k≤l.length ∧ ∀j,j<k→eW l j=0) (fun k:Nat=>l.length-k) 0 rfl (by exact ⟨by omega,fun j hj=>absurd hj (Nat.not_lt_zero _)⟩) ⟨rfl,rfl,rfl,rfl,trivial⟩ (fun _=>Wd.pick [] [] rfl rfl rfl) ?_
 rintro k ⟨hk,HA⟩
 refine R.reg rfl<|?_
 by_cases h1:k<l.length
 ·
  refine R.q (q.lss rfl rfl (decide_eq_true (by omega))) rfl<|R.nil ?_
  refine R.aD rfl rfl ?_
  refine R.reg rfl<|R.u 1 rfl<|?_
  obtain ⟨x1,hx1⟩:∃z,l[k]? = some z:=⟨_,List.getElem?_eq_getElem (by omega)⟩
  have DZ:=gq x1
  refine R.q (q.idx (i:=k) (fun _=>Wd.old cp) rfl rfl cK rfl hx1) rfl<|R.q (q.dD (ds:=aA x1) (fun _=>Wd.old cp) hx1 rfl aQ rfl) rfl<|R.s rfl (s.alloc (cs:=dw) bE rfl rfl) fun b1=>R.u 1 rfl<|R.s rfl (s.st (us:=aA x1) (cs':=aA x1) 0 _ rfl rfl rfl rfl (.inl aQ) rfl rfl rfl rfl) fun _=>R.nil ?_
  refine R.reg rfl<|R.q (q.cT 0 rfl rfl aQ) rfl<|R.c (q.call Ce rfl rfl (fun w hw=>(pe (x1) w  ))) rfl<|R.u 1 rfl<|R.nil ?_
  refine R.reg rfl<|R.u 1 rfl<|?_
  by_cases h2:bK x1=0
  ·
   refine R.q (q.fr rfl rfl Tryz.underlying35 (by omega)) rfl<|R.nil ?_
   refine R.aI rfl rfl ?_
   refine R.cut 2 (fun _u:Unit=>[(0,bm),(3,iV (k:Int)),(4,.pointer (some ⟨b1,0,none⟩)),(8,bm),(9,iV (l.length:Int)),(10,iV (k:Int))]) (fun _u:Unit=>[ag.box b1 (aA x1) 88]) (fun _u:Unit=>[]) (fun _u:Unit=>Hid (¬ 0<k ∨ ∃y,l[k-1]? = some y∧y.ID<x1.ID)) rfl rfl rfl ?_ ?_
   ·
    by_cases h3:0<k
    ·
     obtain ⟨x2,hx2⟩:∃z,l[(k-1)]? = some z:=⟨_,List.getElem?_eq_getElem (by omega)⟩
     have D1:=gq x2
     by_cases h4:x2.ID<x1.ID
     ·
      refine R.dM rfl mixed (by kernel_rfl)<|Q.u 1 rfl<|Q.q (q.gtr rfl rfl (decide_eq_true (by omega))) rfl<|Q.u 1 rfl<|Q.qg rfl (q.a8 (off':=0) rfl bH rfl) rfl<|Q.qg rfl (q.ld 0 rfl rfl av rfl) rfl<|Q.u 2 rfl<|Q.qg rfl (q.sub (r:=((k-1:Nat):Int)) rfl rfl (wr (by omega))) rfl<|Q.qg rfl (q.idx (i:=(k-1)) (fun _=>Wd.old cp) rfl rfl cK rfl hx2) rfl<|Q.qg rfl (q.dm (j':=0) (fun _=>Wd.old cp) hx2 rfl bH rfl) rfl<|Q.qg rfl (q.fk (fun _=>Wd.old cp) hx2 rfl av rfl) rfl<|Q.qg rfl (q.leq rfl rfl (decide_eq_false (by omega))) rfl<|Q.u 1 rfl<|Q.nil ?_
      refine R.aI rfl rfl ?_
      exact R.meet () rfl (by (first|exact .inl ‹_› | exact .inr ⟨_,hx2,by assumption⟩)) ⟨rfl,rfl,rfl,rfl,rfl,rfl,trivial⟩ (fun _=>Wd.pick [0] [] rfl rfl rfl)
     ·
      refine R.dM rfl mixed (by kernel_rfl)<|Q.u 1 rfl<|Q.q (q.gtr rfl rfl (decide_eq_true (by omega))) rfl<|Q.u 1 rfl<|Q.qg rfl (q.a8 (off':=0) rfl bH rfl) rfl<|Q.qg rfl (q.ld 0 rfl rfl av rfl) rfl<|Q.u 2 rfl<|Q.qg rfl (q.sub (r:=((k-1:Nat):Int)) rfl rfl (wr (by omega))) rfl<|Q.qg rfl (q.idx (i:=(k-1)) (fun _=>Wd.old cp) rfl rfl cK rfl hx2) rfl<|Q.qg rfl (q.dm (j':=0) (fun _=>Wd.old cp) hx2 rfl bH rfl) rfl<|Q.qg rfl (q.fk (fun _=>Wd.old cp) hx2 rfl av rfl) rfl<|Q.qg rfl (q.leq rfl rfl (decide_eq_true (by omega))) rfl<|Q.u 1 rfl<|Q.nil ?_
      refine R.aD rfl rfl ?_
      refine R.reg rfl<|R.q (q.iface rfl bI) rfl<|R.u 1 rfl<|R.nil ?_
      exact R.rv rfl Tryz.results26 rfl (dP (by decide) (by (exact (eM (by omega) (iK hx1 (by omega) ‹_› hx2 ‹_›) (by decide) HA))))
    ·
     refine R.dM rfl mixed (by kernel_rfl)<|Q.u 1 rfl<|Q.q (q.gtr rfl rfl (decide_eq_false (by omega))) rfl<|Q.u 11 rfl<|Q.nil ?_
     refine R.aI rfl rfl ?_
     exact R.meet () rfl (by (first|exact .inl ‹_› | exact .inr ⟨_,hx2,by assumption⟩)) ⟨rfl,rfl,rfl,rfl,rfl,rfl,trivial⟩ (fun _=>Wd.pick [0] [] rfl rfl rfl)
   ·
    rintro _u hS
    refine R.reg rfl<|R.q (q.a8 (off':=4) rfl eh rfl) rfl<|R.q (q.ld 0 rfl rfl av rfl) rfl<|?_
    by_cases h5:x1.From=0
    ·
     refine R.q (q.eql rfl rfl (beq_iff_eq.2 (by omega))) rfl<|R.nil ?_
     refine R.aD rfl rfl ?_
     refine R.reg rfl<|R.q (q.add (r:=((k+1:Nat):Int)) rfl rfl (wr (by omega))) rfl<|R.u 1 rfl<|R.nil ?_
     refine R.back (k+1) rfl (by (exact ⟨by omega,ln HA (oy hx1 (by omega) hS.out ‹_›)⟩)) (by omega) ⟨rfl,rfl,rfl,rfl,trivial⟩ (fun _=>Wd.pick [] [] rfl rfl rfl)
    ·
     refine R.q (q.eql rfl rfl (beq_eq_false_iff_ne.2 (by omega))) rfl<|R.nil ?_
     refine R.aI rfl rfl ?_
     rcases dO (l.take k) x1.From with ⟨dF,lp⟩ | ⟨pd,eC,dF,fU,Cw⟩
     ·
      refine R.dM rfl mixed (by kernel_rfl)<|Q.u 2 rfl<|Q.q (q.hY (i:=k) (fun _=>Wd.old cp) rfl rfl Tryz.underlying27 qf rfl (by first|omega|(simp;omega))) rfl<|Q.q (q.a8 (off':=4) rfl eh rfl) rfl<|Q.q (q.ld 0 rfl rfl av rfl) rfl<|Q.c (q.call jS rfl rfl (fun w hw=>(cv (congrArg (Value.int .i64) dF) (ff _ ((l.take k)) (x1.From) w ((fun w hw=>Sl.to ((fun _=>Wd.old cp) w hw) (by omega)) w hw) )))) rfl<|Q.u 1 rfl<|Q.nil ?_
      refine R.reg rfl<|R.u 1 rfl<|R.q (q.lss (b:=true) rfl rfl (by decide)) rfl<|R.nil ?_
      refine R.aD rfl rfl ?_
      refine R.reg rfl<|R.q (q.iface rfl bI) rfl<|R.u 1 rfl<|R.nil ?_
      exact R.rv rfl Tryz.results26 rfl (dP (by decide) (by (exact (eM (by omega) (oz hx1 (by omega) hS.out ‹_› dF) (by decide) HA))))
     ·
      refine R.dM rfl mixed (by kernel_rfl)<|Q.u 2 rfl<|Q.q (q.hY (i:=k) (fun _=>Wd.old cp) rfl rfl Tryz.underlying27 qf rfl (by first|omega|(simp;omega))) rfl<|Q.q (q.a8 (off':=4) rfl eh rfl) rfl<|Q.q (q.ld 0 rfl rfl av rfl) rfl<|Q.c (q.call jS rfl rfl (fun w hw=>(cv (congrArg (Value.int .i64) dF) (ff _ ((l.take k)) (x1.From) w ((fun w hw=>Sl.to ((fun _=>Wd.old cp) w hw) (by omega)) w hw) )))) rfl<|Q.u 1 rfl<|Q.nil ?_
      refine R.reg rfl<|R.u 1 rfl<|R.q (q.lss rfl rfl (decide_eq_false (by omega))) rfl<|R.nil ?_
      refine R.aI rfl rfl ?_
      have ij:pd<k:=by simp at eC;omega
      obtain ⟨x3,hx3⟩:∃z,l[pd]? = some z:=⟨_,List.getElem?_eq_getElem (by omega)⟩
      have wx:=lV hx3 (HA pd ij)
      have DZ:=wx.xD;have D1:=wx.xE
      have wd:=pg x3 x1.ID x1.Rights x1.aG
      refine R.gN (fuel:=17) (Wd w [] [ag.box b1 (aA x1) 88] []) rfl mixed rfl ?_
      refine D.q (i:=0) rfl (by kernel_rfl) (fun _=>Wd.aM [0] [] rfl rfl rfl) rfl (q.mv rfl) rfl<|D.q (i:=1) rfl (by kernel_rfl) (fun _=>Wd.aM [0] [] rfl rfl rfl) rfl (q.mv rfl) rfl<|D.q (i:=2) rfl (by kernel_rfl) (fun _=>Wd.aM [0] [] rfl rfl rfl) rfl (q.idx (i:=pd) (fun _=>Wd.old cp) rfl rfl cK rfl hx3) rfl<|D.q (i:=3) rfl (by kernel_rfl) (fun _=>Wd.aM [0] [] rfl rfl rfl) rfl (q.dD (ds:=aA x3) (fun _=>Wd.old cp) hx3 rfl aQ rfl) rfl<|D.q (i:=4) rfl (by kernel_rfl) (fun _=>Wd.aM [0] [] rfl rfl rfl) rfl (q.a8 (off':=0) rfl bH rfl) rfl<|D.q (i:=5) rfl (by kernel_rfl) (fun _=>Wd.aM [0] [] rfl rfl rfl) rfl (q.ld 0 rfl rfl av rfl) rfl<|D.q (i:=6) rfl (by kernel_rfl) (fun _=>Wd.aM [0] [] rfl rfl rfl) rfl (q.a8 (off':=2) rfl f6 rfl) rfl<|D.q (i:=7) rfl (by kernel_rfl) (fun _=>Wd.aM [0] [] rfl rfl rfl) rfl (q.ld 0 rfl rfl av rfl) rfl<|D.q (i:=8) rfl (by kernel_rfl) (fun _=>Wd.aM [0] [] rfl rfl rfl) rfl (q.a8 (off':=3) rfl f7 rfl) rfl<|D.q (i:=9) rfl (by kernel_rfl) (fun _=>Wd.aM [0] [] rfl rfl rfl) rfl (q.ld 0 rfl rfl av rfl) rfl<|D.two (i:=10) (j:=14) (by kernel_rfl) rfl rfl ?_ ?_
      ·
       refine Do.s (s.c (q.call qU rfl rfl (fun w hw=>(ic (x3) (x1.ID) (x1.Rights) (x1.aG) w  (by omega)))) rfl) (fun _=>(fun _=>Wd.aM [0] [] rfl rfl rfl)) rfl fun _=>D.q (i:=11) rfl (by kernel_rfl) (fun _=>Wd.aM [0] [] rfl rfl rfl) rfl (q.mv rfl) rfl<|D.q (i:=12) rfl (by kernel_rfl) (fun _=>Wd.aM [0] [] rfl rfl rfl) rfl (q.ext rfl rfl) rfl<|D.q (i:=13) rfl (by kernel_rfl) (fun _=>Wd.aM [0] [] rfl rfl rfl) rfl (q.ext rfl rfl) rfl<|D.one (i:=14) (by kernel_rfl) rfl ?_
       refine Do.s (s.alloc (cs:=dw) bE rfl rfl) (fun _=>(fun _=>Wd.aM [1] [] rfl rfl rfl)) rfl fun b2=>D.one (i:=15) (by kernel_rfl) rfl ?_
       refine Do.s (s.st (us:=aA ((derived x3 x1.ID x1.Rights x1.aG).1)) (cs':=aA ((derived x3 x1.ID x1.Rights x1.aG).1)) 0 _ rfl rfl rfl rfl (.inl aQ) rfl rfl rfl rfl) (fun _=>(fun _=>Wd.aM [1] [] rfl rfl rfl)) rfl fun _=>D.q (i:=16) rfl (by kernel_rfl) (fun _=>Wd.aM [1] [] rfl rfl rfl) rfl (q.as rfl) rfl<|D.done (by kernel_rfl)<|R.reg rfl<|R.u 1 rfl<|?_
       by_cases h6:(derived x3 x1.ID x1.Rights x1.aG).2=0
       ·
        refine R.q (q.fr rfl rfl Tryz.underlying35 (by omega)) rfl<|R.nil ?_
        refine R.aI rfl rfl ?_
        refine R.reg rfl<|R.q (q.cT 0 rfl rfl aQ) rfl<|R.q (q.cT 1 rfl rfl aQ) rfl<|?_
        by_cases h7:((derived x3 x1.ID x1.Rights x1.aG).1)=x1
        ·
         refine R.q (q.nW (x:=((derived x3 x1.ID x1.Rights x1.aG).1)) (y:=x1) pK rfl rfl h7) rfl<|R.nil ?_
         refine R.aI rfl rfl ?_
         refine R.reg rfl<|R.q (q.add (r:=((k+1:Nat):Int)) rfl rfl (wr (by omega))) rfl<|R.u 1 rfl<|R.nil ?_
         refine R.back (k+1) rfl (by (exact ⟨by omega,ln HA ((fD hx1 (by omega) hS.out ‹_› dF ij hx3).trans ((if_neg (by omega)).trans (if_neg (fun h=>h ‹_›))))⟩)) (by omega) ⟨rfl,rfl,rfl,rfl,trivial⟩ (fun _=>Wd.pick [] [] rfl rfl rfl)
        ·
         refine R.q (q.nX (x:=((derived x3 x1.ID x1.Rights x1.aG).1)) (y:=x1) pK rfl rfl h7) rfl<|R.nil ?_
         refine R.aD rfl rfl ?_
         refine R.reg rfl<|R.q (q.iface rfl bI) rfl<|R.u 1 rfl<|R.nil ?_
         exact R.rv rfl Tryz.results26 rfl (dP (by decide) (by (exact (eM (by omega) ((fD hx1 (by omega) hS.out ‹_› dF ij hx3).trans ((if_neg (by omega)).trans (if_pos ‹_›))) (by decide) HA))))
       ·
        refine R.q (q.fw rfl rfl Tryz.underlying35 (by omega)) rfl<|R.nil ?_
        refine R.aD rfl rfl ?_
        refine R.reg rfl<|R.u 2 rfl<|R.nil ?_
        exact R.rv rfl Tryz.results26 rfl (rE (by (exact (eM (by omega) ((fD hx1 (by omega) hS.out ‹_› dF ij hx3).trans (if_pos (by omega))) (by omega) HA).symm)))
      ·
       refine Do.s (s.alloc (cs:=dw) bE rfl rfl) (fun _=>(fun _=>Wd.aM [1] [] rfl rfl rfl)) rfl fun b3=>D.one (i:=10) (by kernel_rfl) rfl ?_
       refine Do.s (s.c (q.call qU rfl rfl (fun w hw=>(ic (x3) (x1.ID) (x1.Rights) (x1.aG) w  (by omega)))) rfl) (fun _=>(fun _=>Wd.aM [1] [] rfl rfl rfl)) rfl fun _=>D.q (i:=11) rfl (by kernel_rfl) (fun _=>Wd.aM [1] [] rfl rfl rfl) rfl (q.mv rfl) rfl<|D.q (i:=12) rfl (by kernel_rfl) (fun _=>Wd.aM [1] [] rfl rfl rfl) rfl (q.ext rfl rfl) rfl<|D.q (i:=13) rfl (by kernel_rfl) (fun _=>Wd.aM [1] [] rfl rfl rfl) rfl (q.ext rfl rfl) rfl<|D.one (i:=15) (by kernel_rfl) rfl ?_
       refine Do.s (s.st (us:=aA ((derived x3 x1.ID x1.Rights x1.aG).1)) (cs':=aA ((derived x3 x1.ID x1.Rights x1.aG).1)) 0 _ rfl rfl rfl rfl (.inl aQ) rfl rfl rfl rfl) (fun _=>(fun _=>Wd.aM [1] [] rfl rfl rfl)) rfl fun _=>D.q (i:=16) rfl (by kernel_rfl) (fun _=>Wd.aM [1] [] rfl rfl rfl) rfl (q.as rfl) rfl<|D.done (by kernel_rfl)<|R.reg rfl<|R.u 1 rfl<|?_
       by_cases h8:(derived x3 x1.ID x1.Rights x1.aG).2=0
       ·
        refine R.q (q.fr rfl rfl Tryz.underlying35 (by omega)) rfl<|R.nil ?_
        refine R.aI rfl rfl ?_
        refine R.reg rfl<|R.q (q.cT 0 rfl rfl aQ) rfl<|R.q (q.cT 1 rfl rfl aQ) rfl<|?_
        by_cases h9:((derived x3 x1.ID x1.Rights x1.aG).1)=x1
        ·
         refine R.q (q.nW (x:=((derived x3 x1.ID x1.Rights x1.aG).1)) (y:=x1) pK rfl rfl h9) rfl<|R.nil ?_
         refine R.aI rfl rfl ?_
         refine R.reg rfl<|R.q (q.add (r:=((k+1:Nat):Int)) rfl rfl (wr (by omega))) rfl<|R.u 1 rfl<|R.nil ?_
         refine R.back (k+1) rfl (by (exact ⟨by omega,ln HA ((fD hx1 (by omega) hS.out ‹_› dF ij hx3).trans ((if_neg (by omega)).trans (if_neg (fun h=>h ‹_›))))⟩)) (by omega) ⟨rfl,rfl,rfl,rfl,trivial⟩ (fun _=>Wd.pick [] [] rfl rfl rfl)
        ·
         refine R.q (q.nX (x:=((derived x3 x1.ID x1.Rights x1.aG).1)) (y:=x1) pK rfl rfl h9) rfl<|R.nil ?_
         refine R.aD rfl rfl ?_
         refine R.reg rfl<|R.q (q.iface rfl bI) rfl<|R.u 1 rfl<|R.nil ?_
         exact R.rv rfl Tryz.results26 rfl (dP (by decide) (by (exact (eM (by omega) ((fD hx1 (by omega) hS.out ‹_› dF ij hx3).trans ((if_neg (by omega)).trans (if_pos ‹_›))) (by decide) HA))))
       ·
        refine R.q (q.fw rfl rfl Tryz.underlying35 (by omega)) rfl<|R.nil ?_
        refine R.aD rfl rfl ?_
        refine R.reg rfl<|R.u 2 rfl<|R.nil ?_
        exact R.rv rfl Tryz.results26 rfl (rE (by (exact (eM (by omega) ((fD hx1 (by omega) hS.out ‹_› dF ij hx3).trans (if_pos (by omega))) (by omega) HA).symm)))
  ·
   refine R.q (q.fw rfl rfl Tryz.underlying35 (by omega)) rfl<|R.nil ?_
   refine R.aD rfl rfl ?_
   refine R.reg rfl<|R.u 2 rfl<|R.nil ?_
   exact R.rv rfl Tryz.results26 rfl (rE (by (have e:bK x1=1:=(by omega);rw [e];exact (eM (by omega) (fC hx1 (by omega)) (by decide) HA).symm)))
 ·
  refine R.q (q.lss rfl rfl (decide_eq_false (by omega))) rfl<|R.nil ?_
  refine R.aI rfl rfl ?_
  refine R.reg rfl<|R.u 1 rfl<|R.nil ?_
  exact R.rv rfl Tryz.results26 rfl (gO (by (exact (kc (fun j hj=>HA j (by omega))))))
theorem ke (bm:Value)(l:List aj)(id:Int)(w:World)(cp:Sl w bm l)(hl:l.length≤1000000):Calls Tryz.prog 62 #[bm,iV id] w fun e w' => ∃u,e = .returned u∧Own w.heap.size 88 w' u (without l id)∧Ext w w':=by
 have ql:=cp.dH
 refine R.enter (n:=42) (vs:=[bm,iV id]) [] [(0,bm),(1,iV id)] Tryz.func62 rfl rfl rfl rfl ?_
 refine R.reg rfl<|R.u 1 rfl<|R.nil ?_
 refine R.reg rfl<|R.u 1 rfl<|R.nil ?_
 refine R.reg rfl<|R.u 1 rfl<|R.nil ?_
 refine R.reg rfl<|R.u 2 rfl<|?_
 rcases dO l id with ⟨dF,lp⟩ | ⟨pd,eC,dF,fU,Cw⟩
 ·
  refine R.c (q.call jS rfl rfl (fun w hw=>(cv (congrArg (Value.int .i64) dF) (ff _ (l) (id) w ((fun _=>Wd.old cp) w hw) )))) rfl<|R.u 1 rfl<|R.nil ?_
  refine R.reg rfl<|R.u 1 rfl<|R.q (q.geq (b:=false) rfl rfl (by decide)) rfl<|R.nil ?_
  refine R.aI rfl rfl ?_
  refine R.reg rfl<|R.u 1 rfl<|R.q (q.len' (fun _=>Wd.old cp) rfl Tryz.underlying27) rfl<|R.u 1 rfl<|R.nil ?_
  refine R.row0 (α:=aj) 88 ?_
  refine R.loop (fun g_:Nat×Value×(List aj)=>[(1,iV id),(5,g_.2.1),(6,iV 0),(20,bm),(21,iV (l.length:Int)),(22,iV (g_.1:Int))]) (fun g_:Nat×Value×(List aj)=>[ag.row 88 g_.2.1 (g_.2.2:List aj)]) (fun g_:Nat×Value×(List aj)=>[]) (fun g_:Nat×Value×(List aj)=>g_.1≤l.length∧g_.2.2=sC id 0 (l.take g_.1)) (fun g_:Nat×Value×(List aj)=>l.length-g_.1) (0,(nS),[]) rfl (by exact ⟨by simp,by simp [sC,Cv]⟩) ⟨rfl,rfl,rfl,rfl,rfl,rfl,trivial⟩ (fun _=>Wd.pick [0] [] rfl rfl rfl) ?_
  rintro ⟨k,v,acc⟩ ⟨hk,HA⟩
  dsimp only at *
  have hal:acc.length≤k:=by rw [HA];exact Nat.le_trans (qq _ _ _) (List.length_take_le _ _)
  refine R.reg rfl<|?_
  by_cases h1:k<l.length
  ·
   refine R.q (q.lss rfl rfl (decide_eq_true (by omega))) rfl<|R.nil ?_
   refine R.aD rfl rfl ?_
   refine R.reg rfl<|?_
   obtain ⟨x1,hx1⟩:∃z,l[k]? = some z:=⟨_,List.getElem?_eq_getElem (by omega)⟩
   refine R.q (q.idx (i:=k) (fun _=>Wd.old cp) rfl rfl cK rfl hx1) rfl<|R.q (q.dD (ds:=aA x1) (fun _=>Wd.old cp) hx1 rfl aQ rfl) rfl<|R.s rfl (s.alloc (cs:=dw) bE rfl rfl) fun b1=>R.s rfl (s.st (us:=aA x1) (cs':=aA x1) 0 _ rfl rfl rfl rfl (.inl aQ) rfl rfl rfl rfl) fun _=>R.nil ?_
   refine R.reg rfl<|R.q (q.a8 (off':=0) rfl bH rfl) rfl<|R.q (q.ld 0 rfl rfl av rfl) rfl<|R.u 1 rfl<|?_
   by_cases h2:x1.ID=id
   ·
    refine R.q (q.eql rfl rfl (beq_iff_eq.2 (by omega))) rfl<|R.nil ?_
    refine R.aD rfl rfl ?_
    refine R.reg rfl<|R.q (q.add (r:=((k+1:Nat):Int)) rfl rfl (wr (by omega))) rfl<|R.u 1 rfl<|R.nil ?_
    refine R.back (k+1,v,acc) rfl (by (exact ⟨by omega,by rw [HA,tX hx1 ‹_›]⟩)) (by dsimp only;omega) ⟨rfl,rfl,rfl,rfl,rfl,rfl,trivial⟩ (fun _=>Wd.pick [1] [] rfl rfl rfl)
   ·
    refine R.q (q.eql rfl rfl (beq_eq_false_iff_ne.2 (by omega))) rfl<|R.nil ?_
    refine R.aI rfl rfl ?_
    refine R.reg rfl<|R.q (q.a8 (off':=4) rfl eh rfl) rfl<|R.q (q.ld 0 rfl rfl av rfl) rfl<|R.u 1 rfl<|?_
    by_cases h3:x1.From=id
    ·
     refine R.q (q.eql rfl rfl (beq_iff_eq.2 (by omega))) rfl<|R.nil ?_
     refine R.aD rfl rfl ?_
     refine R.reg rfl<|R.u 1 rfl<|R.q (q.a8 (off':=4) rfl eh rfl) rfl<|R.s rfl (s.st (us:=[iV 0]) (cs':=[iV x1.ID,iV x1.ah,iV x1.Rights,iV x1.aG,iV 0]) 0 _ rfl rfl rfl rfl (.inr ⟨av,rfl⟩) rfl rfl rfl rfl) fun _=>R.nil ?_
     refine R.reg rfl<|R.u 1 rfl<|R.q (q.cT 0 rfl rfl aQ) rfl<|R.s rfl (s.bs (l:=([(⟨x1.ID,x1.ah,x1.Rights,x1.aG,0⟩:aj)]:List aj)) cK bE rfl rfl rfl rfl rfl rfl rfl) fun b2=>R.s rfl (s.app (l2:=[(⟨x1.ID,x1.ah,x1.Rights,x1.aG,0⟩:aj)]) 2 _ rfl rfl rfl (fun _=>Wd.row 0 rfl) gH (by simp;omega) (by simp;omega) (fun _=>rfl) rfl) fun v1=>R.u 1 rfl<|R.nil ?_
     refine R.reg rfl<|R.q (q.add (r:=((k+1:Nat):Int)) rfl rfl (wr (by omega))) rfl<|R.u 1 rfl<|R.nil ?_
     refine R.back (k+1,v1,(acc++([(⟨x1.ID,x1.ah,x1.Rights,x1.aG,0⟩:aj)]))) rfl (by (exact ⟨by omega,by rw [HA,lW hx1 ‹_›,rh ‹_›]⟩)) (by dsimp only;omega) ⟨rfl,rfl,rfl,rfl,rfl,rfl,trivial⟩ (fun _=>Wd.pick [2] [] rfl rfl rfl)
    ·
     refine R.q (q.eql rfl rfl (beq_eq_false_iff_ne.2 (by omega))) rfl<|R.nil ?_
     refine R.aI rfl rfl ?_
     refine R.reg rfl<|R.u 1 rfl<|R.q (q.cT 0 rfl rfl aQ) rfl<|R.s rfl (s.bs (l:=([x1]:List aj)) cK bE rfl rfl rfl rfl rfl rfl rfl) fun b3=>R.s rfl (s.app (l2:=[x1]) 2 _ rfl rfl rfl (fun _=>Wd.row 0 rfl) gH (by simp;omega) (by simp;omega) (fun _=>rfl) rfl) fun v2=>R.u 1 rfl<|R.nil ?_
     refine R.reg rfl<|R.q (q.add (r:=((k+1:Nat):Int)) rfl rfl (wr (by omega))) rfl<|R.u 1 rfl<|R.nil ?_
     refine R.back (k+1,v2,(acc++([x1]))) rfl (by (exact ⟨by omega,by rw [HA,lW hx1 ‹_›,pO ‹_›]⟩)) (by dsimp only;omega) ⟨rfl,rfl,rfl,rfl,rfl,rfl,trivial⟩ (fun _=>Wd.pick [2] [] rfl rfl rfl)
  ·
   refine R.q (q.lss rfl rfl (decide_eq_false (by omega))) rfl<|R.nil ?_
   refine R.aI rfl rfl ?_
   refine R.reg rfl<|R.u 2 rfl<|R.nil ?_
   exact R.ro 0 rfl Tryz.results62 rfl rfl (by (rw [HA,List.take_of_length_le (by omega)];unfold without;rw [m6 dF]))
 ·
  refine R.c (q.call jS rfl rfl (fun w hw=>(cv (congrArg (Value.int .i64) dF) (ff _ (l) (id) w ((fun _=>Wd.old cp) w hw) )))) rfl<|R.u 1 rfl<|R.nil ?_
  refine R.reg rfl<|R.u 1 rfl<|R.q (q.geq rfl rfl (decide_eq_true (by omega))) rfl<|R.nil ?_
  refine R.aD rfl rfl ?_
  refine R.reg rfl<|R.u 2 rfl<|R.q (q.idx (i:=pd) (fun _=>Wd.old cp) rfl rfl cK rfl (List.getElem?_eq_getElem eC)) rfl<|R.q (q.dm (j':=4) (fun _=>Wd.old cp) (List.getElem?_eq_getElem eC) rfl eh rfl) rfl<|R.q (q.fk (fun _=>Wd.old cp) (List.getElem?_eq_getElem eC) rfl av rfl) rfl<|R.u 1 rfl<|R.nil ?_
  refine R.reg rfl<|R.u 1 rfl<|R.q (q.len' (fun _=>Wd.old cp) rfl Tryz.underlying27) rfl<|R.u 1 rfl<|R.nil ?_
  refine R.row0 (α:=aj) 88 ?_
  refine R.loop (fun g_:Nat×Value×(List aj)=>[(1,iV id),(5,g_.2.1),(6,iV ((l[pd]).From)),(20,bm),(21,iV (l.length:Int)),(22,iV (g_.1:Int))]) (fun g_:Nat×Value×(List aj)=>[ag.row 88 g_.2.1 (g_.2.2:List aj)]) (fun g_:Nat×Value×(List aj)=>[]) (fun g_:Nat×Value×(List aj)=>g_.1≤l.length∧g_.2.2=sC id ((l[pd]).From) (l.take g_.1)) (fun g_:Nat×Value×(List aj)=>l.length-g_.1) (0,(nS),[]) rfl (by exact ⟨by simp,by simp [sC,Cv]⟩) ⟨rfl,rfl,rfl,rfl,rfl,rfl,trivial⟩ (fun _=>Wd.pick [0] [] rfl rfl rfl) ?_
  rintro ⟨k,v,acc⟩ ⟨hk,HA⟩
  dsimp only at *
  have hal:acc.length≤k:=by rw [HA];exact Nat.le_trans (qq _ _ _) (List.length_take_le _ _)
  refine R.reg rfl<|?_
  by_cases h4:k<l.length
  ·
   refine R.q (q.lss rfl rfl (decide_eq_true (by omega))) rfl<|R.nil ?_
   refine R.aD rfl rfl ?_
   refine R.reg rfl<|?_
   obtain ⟨x2,hx2⟩:∃z,l[k]? = some z:=⟨_,List.getElem?_eq_getElem (by omega)⟩
   refine R.q (q.idx (i:=k) (fun _=>Wd.old cp) rfl rfl cK rfl hx2) rfl<|R.q (q.dD (ds:=aA x2) (fun _=>Wd.old cp) hx2 rfl aQ rfl) rfl<|R.s rfl (s.alloc (cs:=dw) bE rfl rfl) fun b4=>R.s rfl (s.st (us:=aA x2) (cs':=aA x2) 0 _ rfl rfl rfl rfl (.inl aQ) rfl rfl rfl rfl) fun _=>R.nil ?_
   refine R.reg rfl<|R.q (q.a8 (off':=0) rfl bH rfl) rfl<|R.q (q.ld 0 rfl rfl av rfl) rfl<|R.u 1 rfl<|?_
   by_cases h5:x2.ID=id
   ·
    refine R.q (q.eql rfl rfl (beq_iff_eq.2 (by omega))) rfl<|R.nil ?_
    refine R.aD rfl rfl ?_
    refine R.reg rfl<|R.q (q.add (r:=((k+1:Nat):Int)) rfl rfl (wr (by omega))) rfl<|R.u 1 rfl<|R.nil ?_
    refine R.back (k+1,v,acc) rfl (by (exact ⟨by omega,by rw [HA,tX hx2 ‹_›]⟩)) (by dsimp only;omega) ⟨rfl,rfl,rfl,rfl,rfl,rfl,trivial⟩ (fun _=>Wd.pick [1] [] rfl rfl rfl)
   ·
    refine R.q (q.eql rfl rfl (beq_eq_false_iff_ne.2 (by omega))) rfl<|R.nil ?_
    refine R.aI rfl rfl ?_
    refine R.reg rfl<|R.q (q.a8 (off':=4) rfl eh rfl) rfl<|R.q (q.ld 0 rfl rfl av rfl) rfl<|R.u 1 rfl<|?_
    by_cases h6:x2.From=id
    ·
     refine R.q (q.eql rfl rfl (beq_iff_eq.2 (by omega))) rfl<|R.nil ?_
     refine R.aD rfl rfl ?_
     refine R.reg rfl<|R.u 1 rfl<|R.q (q.a8 (off':=4) rfl eh rfl) rfl<|R.s rfl (s.st (us:=[iV ((l[pd]).From)]) (cs':=[iV x2.ID,iV x2.ah,iV x2.Rights,iV x2.aG,iV ((l[pd]).From)]) 0 _ rfl rfl rfl rfl (.inr ⟨av,rfl⟩) rfl rfl rfl rfl) fun _=>R.nil ?_
     refine R.reg rfl<|R.u 1 rfl<|R.q (q.cT 0 rfl rfl aQ) rfl<|R.s rfl (s.bs (l:=([(⟨x2.ID,x2.ah,x2.Rights,x2.aG,(l[pd]).From⟩:aj)]:List aj)) cK bE rfl rfl rfl rfl rfl rfl rfl) fun b5=>R.s rfl (s.app (l2:=[(⟨x2.ID,x2.ah,x2.Rights,x2.aG,(l[pd]).From⟩:aj)]) 2 _ rfl rfl rfl (fun _=>Wd.row 0 rfl) gH (by simp;omega) (by simp;omega) (fun _=>rfl) rfl) fun v3=>R.u 1 rfl<|R.nil ?_
     refine R.reg rfl<|R.q (q.add (r:=((k+1:Nat):Int)) rfl rfl (wr (by omega))) rfl<|R.u 1 rfl<|R.nil ?_
     refine R.back (k+1,v3,(acc++([(⟨x2.ID,x2.ah,x2.Rights,x2.aG,(l[pd]).From⟩:aj)]))) rfl (by (exact ⟨by omega,by rw [HA,lW hx2 ‹_›,rh ‹_›]⟩)) (by dsimp only;omega) ⟨rfl,rfl,rfl,rfl,rfl,rfl,trivial⟩ (fun _=>Wd.pick [2] [] rfl rfl rfl)
    ·
     refine R.q (q.eql rfl rfl (beq_eq_false_iff_ne.2 (by omega))) rfl<|R.nil ?_
     refine R.aI rfl rfl ?_
     refine R.reg rfl<|R.u 1 rfl<|R.q (q.cT 0 rfl rfl aQ) rfl<|R.s rfl (s.bs (l:=([x2]:List aj)) cK bE rfl rfl rfl rfl rfl rfl rfl) fun b6=>R.s rfl (s.app (l2:=[x2]) 2 _ rfl rfl rfl (fun _=>Wd.row 0 rfl) gH (by simp;omega) (by simp;omega) (fun _=>rfl) rfl) fun v4=>R.u 1 rfl<|R.nil ?_
     refine R.reg rfl<|R.q (q.add (r:=((k+1:Nat):Int)) rfl rfl (wr (by omega))) rfl<|R.u 1 rfl<|R.nil ?_
     refine R.back (k+1,v4,(acc++([x2]))) rfl (by (exact ⟨by omega,by rw [HA,lW hx2 ‹_›,pO ‹_›]⟩)) (by dsimp only;omega) ⟨rfl,rfl,rfl,rfl,rfl,rfl,trivial⟩ (fun _=>Wd.pick [2] [] rfl rfl rfl)
  ·
   refine R.q (q.lss rfl rfl (decide_eq_false (by omega))) rfl<|R.nil ?_
   refine R.aI rfl rfl ?_
   refine R.reg rfl<|R.u 2 rfl<|R.nil ?_
   exact R.ro 0 rfl Tryz.results62 rfl rfl (by (rw [HA,List.take_of_length_le (by omega)];unfold without;rw [m5 dF (List.getElem?_eq_getElem eC)]))
end Go.Proofs.YtbkfhjaibhnkmaaGreatDoor
