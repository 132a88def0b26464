import Derived.Test.YtnmpibjlnninjaaGreatDoorCT12
namespace Go.Proofs.YtnmpibjlnninjaaGreatDoor
set_option linter.unusedVariables false
set_option linter.unusedSimpArgs false
set_option maxRecDepth 100000
set_option maxHeartbeats 90000000
open Go Go.RowKit
attribute [local irreducible] Run Rg Rq Qt Qa Stp Dg Do Dm bQ
theorem ry (bR:Value)(l:List Change)(w:World)(own:List Nat)(H:HN w own [] [ag.ls bR l])(hl:l.length<=1000000):RC Tryz.prog 83 #[bR] H (fun z:Value=>z) (fun z=>[ag.row 115 z l]) (fun _=>[]):=by
 have BV:=H.aL 0 rfl
 refine R.eN H ?_
 rcases Bool.eq_false_or_eq_true (rW bR) with h1|h1
 .
  refine R.q (q.Lq (congrArg Value.bool h1) (q.rj (vu 0 O) O O Tryz.underlying34)) O<|U ?_
  refine R.row0 (α:=Change) 115 ?_
  rw [show l=_ from Sl.rW (H.cy 0 rfl) af]
  exact R.x1 nS [0,1] []
 refine R.q (q.Lq (congrArg Value.bool h1) (q.rj (vu 0 O) O O Tryz.underlying34)) O<|U ?_
 refine R.s O (s.bs (l:=([]:List Change)) cD ct O O O O O O O) fun b1=>U ?_
 refine R.ap fun v1=>?_
 have hz:l=(([])++l):=by (rfl)
 rw [hz]
 exact R.x1 v1 [0,1] []
theorem xg (bR:Value)(l:List Change)(i:Nat)(j:Nat)(w:World)(own:List Nat)(H:HN w own [ag.row 115 bR l] [])(hij:i<=j/\j<=l.length):RC Tryz.prog 138 #[bR,iV (i:Int),iV (j:Int)] H (fun z:Value=>z) (fun z=>[ag.row 115 z (l.take i++l.drop j)]) (fun _=>[]):=by
 have Wp:=H.cap 0 rfl;have BV:=H.ck 0 rfl
 refine R.eN H ?_
 refine R.q (q.Iu (i:=i) (j:=j) (q':=l.length) (cI 0 O) O O O O cD O O O ae ae ae) O<|U ?_
 refine C (i=j) ?_ ?_ <;> intro h1
 .
  rw [show l.take i++l.drop j=_ from zu ae]
  exact R.x1 bR [0,1] []
 refine R.cO (fuel:=8) [1] O O mixed O<|D.l [0,1,3,4] [1] [] O<|U ?_
 refine D.two (i:=2) (j:=5) O O ?_ ?_
 .
  refine Do.k [1] [] (q.jT (i:=i) (cI 0 O) O O Tryz.underlying34 EL O ae) ?_
  refine D.k 5 O [1] [] (q.cz (i:=j) (cI 0 O) O O cD O ae) ?_
  refine D.p 6 O [1] [] (s.wK (a:=i) 0 _ O O O (fun w hw=>Sl.from (hw.row 0 O) ae) ky ae aG O O) fun _=>?_
  refine D.l [7] [1] [] O<|U ?_
  refine D.done<|U ?_
  refine R.q (q.sl2 (i:=(l.take i++(l.drop j)).length) (j:=l.length) (cI 0 O) O O O cD O O aG (by simp [jf];omega)) O<|R.s O (s.Cx (lo:=(l.take i++(l.drop j)).length) (hi:=l.length) (z0:=(⟨⟨#[]⟩,⟨#[]⟩,false⟩:Change)) 0 O O cD ct O ae aG (by simp [jf];omega)) fun _=>U ?_
  have hz:l.take i++l.drop j=(l.take i++(l.drop j)):=by (rfl)
  rw [hz]
  exact R.x1 (jT bR (i+(l.drop j).length)) [0,1] []
 refine Do.k [1] [] (q.cz (i:=j) (cI 0 O) O O cD O ae) ?_
 refine D.k 2 O [1] [] (q.jT (i:=i) (cI 0 O) O O Tryz.underlying34 EL O ae) ?_
 refine D.p 6 O [1] [] (s.wK (a:=i) 0 _ O O O (fun w hw=>Sl.from (hw.row 0 O) ae) ky ae aG O O) fun _=>?_
 refine D.l [7] [1] [] O<|U ?_
 refine D.done<|U ?_
 refine R.q (q.sl2 (i:=(l.take i++(l.drop j)).length) (j:=l.length) (cI 0 O) O O O cD O O aG (by simp [jf];omega)) O<|R.s O (s.Cx (lo:=(l.take i++(l.drop j)).length) (hi:=l.length) (z0:=(⟨⟨#[]⟩,⟨#[]⟩,false⟩:Change)) 0 O O cD ct O ae aG (by simp [jf];omega)) fun _=>U ?_
 have hz:l.take i++l.drop j=(l.take i++(l.drop j)):=by (rfl)
 rw [hz]
 exact R.x1 (jT bR (i+(l.drop j).length)) [0,1] []
theorem xh (bR:Value)(l:List Change)(i:Nat)(Zg:Value)(u:List Change)(w:World)(own:List Nat)(H:HN w own [ag.row 115 bR l,ag.row 115 Zg u] [])(hi:i<=l.length)(hu:u.length=1)(hl:l.length<=1000000):RC Tryz.prog 139 #[bR,iV (i:Int),Zg] H (fun z:Value=>z) (fun z=>[ag.row 115 z (l.take i++u++l.drop i)]) (fun _=>[]):=by
 have Wp:=H.cap 0 rfl;have BV:=H.ck 0 rfl
 have c_u:=H.cap 1 rfl;have m_u:=H.ck 1 rfl
 refine R.eN H ?_
 refine R.q (q.cz (i:=i) (cI 0 O) O O cD O ae) O<|U ?_
 refine C (i=l.length) ?_ ?_ <;> intro h1
 .
  refine R.ap fun v1=>?_
  rw [show l.take i++u++l.drop i=_ from J4 ae]
  exact R.x1 v1 [0,2] []
 refine R.q (q.cap (cI 0 O) O Tryz.underlying34) O<|C ((lH bR)<(l.length+u.length)) ?_ ?_ <;> intro h2
 .
  refine R.q (q.jT (i:=i) (cI 0 O) O O Tryz.underlying34 EL O ae) O<|U ?_
  refine R.q (q.lG (r:=(((l.length+u.length)-i:Nat):Int)) O O) O<|R.s O (s.J1 (o:=i) (m:=((l.length+u.length)-i)) (z0:=(⟨⟨#[]⟩,⟨#[]⟩,false⟩:Change)) 0 O O O O ky Tryz.underlying3 ct O ae ae ae ae ae O) fun v2=>U ?_
  refine R.q (q.cz (i:=i) (cI 0 O) O O cD O aG) O<|U ?_
  refine R.s O (s.xJ (o:=i) 0 _ O (cI 2 O) O O cD aG O O) fun _=>U ?_
  refine R.cO (fuel:=9) [1,2,3] O O mixed O<|D.l [0,1,2,3,5,6,7] [1,2,3] [] O<|U ?_
  refine Dm.yy O O (q.cz (i:=i) (cI 0 O) O O cD O ae) O<|U ?_
  refine D.k 4 O [1,2,3] [] (q.cz (i:=(i+u.length)) (cI 0 O) O O cD O aG) ?_
  refine D.p 8 O [1,2,3] [] (s.xJ (o:=(i+u.length)) 0 _ O (fun w hw=>Sl.from (hw.row 1 O) ae) O O cD aG O O) fun _=>?_
  refine D.done<|U ?_
  rw [show l.take i++u++l.drop i=_ from FR hu ae rfl]
  exact R.x1 v2 [0,3] []
 refine R.q (q.Ye (i:=(l.length+u.length)) (cI 0 O) O O cD O ae) O<|U ?_
 refine R.q (q.py (i:=(i+u.length)) (cI 0 O) O O cD O ae ae) O<|R.q (q.ovl (i:=1) (j:=0) (tR:=4) Tryz.func195 O O ay ay cD O O aC ae ae O O O O) O<|U ?_
 refine R.cO (fuel:=9) [1,2] O O mixed O<|D.l [0,1,2,3,5,6] [1,2] [] O<|U ?_
 refine D.two (i:=4) (j:=7) O O ?_ ?_
 .
  refine Do.k [1,2] [] (q.py (i:=(i+u.length)) (cI 0 O) O O cD O ae ae) ?_
  refine D.k 7 O [1,2] [] (q.py (i:=i) (cI 0 O) O O cD O ae ae) ?_
  refine D.p 8 O [1,2] [] (s.D7 (o:=i) 0 _ O ae ae ae ae O O cD O O) fun _=>?_
  refine D.done<|U ?_
  refine R.q (q.cz (i:=i) (cI 0 O) O O cD O aG) O<|U ?_
  refine R.s O (s.xJ (o:=i) 0 _ O (cI 1 O) O O cD aG O O) fun _=>U ?_
  rw [show l.take i++u++l.drop i=_ from Ei hu ae]
  exact R.x1 (jT bR (l.length+u.length)) [0,2] []
 refine Do.k [1,2] [] (q.py (i:=i) (cI 0 O) O O cD O ae ae) ?_
 refine D.k 4 O [1,2] [] (q.py (i:=(i+u.length)) (cI 0 O) O O cD O ae ae) ?_
 refine D.p 8 O [1,2] [] (s.D7 (o:=i) 0 _ O ae ae ae ae O O cD O O) fun _=>?_
 refine D.done<|U ?_
 refine R.q (q.cz (i:=i) (cI 0 O) O O cD O aG) O<|U ?_
 refine R.s O (s.xJ (o:=i) 0 _ O (cI 1 O) O O cD aG O O) fun _=>U ?_
 rw [show l.take i++u++l.drop i=_ from Ei hu ae]
 exact R.x1 (jT bR (l.length+u.length)) [0,2] []
theorem sE (a b:ByteArray)(w:World):Calls Tryz.prog 137 #[.string a,.string b] w fun e w'=>e = .returned (.int .i64 (Ex a b))/\Ext w w' :=
 (Tryz.strings_Compare a b w).mono fun e w' ⟨h1,h2⟩=>⟨by rw [h1,<- qy,<- qy,Kk],by rw [h2];exact Ext.refl _⟩
theorem E1 (x:Change)(k:ByteArray)(w:World):Calls Tryz.prog 136 #[.agg #[.string x.Key,.string x.Val,.bool x.Gone],.string k] w fun e w'=>e = .returned (iV (fK k x))/\Ext w w':=by
 refine R.eV ?_
 refine R.nb fun b1=>?_
 refine R.kc O O (fun w hw=>sE x.Key k w)<|U ?_
 refine R.rt ?_
 rfl
theorem g7 (bR:Value)(l:List Change)(t:ByteArray)(c:Change->ByteArray->Int)(Sg:Nat)(Wq:List Value)(Je:dv Sg)(w:World)(ia:Sl w bR l)(Wr:∀W (x1:Change) (x2:ByteArray),Ext w W->Calls Tryz.prog Sg ([x1.val,.string x2]++Wq).toArray W fun e w'=>e = .returned (iV (c x1 x2))/\Ext W w')(hl:l.length<=1000000):Calls Tryz.prog 135 #[bR,.string t,.func (.func Sg) #[] Wq.toArray] w fun e w'=>e = .returned (.tuple #[iV (kS (fun x=>c x t) l:Int),.bool (rk (fun x=>c x t) l)])/\Ext w w':=by
 have yA:=ia.fS
 refine R.eV ?_
 refine R.loop (fun g_:Nat×Nat=>[(0,bR),(1,.string t),(2,.func (.func Sg) #[] Wq.toArray),(8,iV (l.length:Int)),(9,iV (g_.1:Int)),(10,iV (g_.2:Int))]) (fun g_=>[]) (fun g_=>[]) (fun g_=>g_.1<=g_.2/\g_.2<=l.length/\bsGo (fun x=>c x t) l g_.1 g_.2=kS (fun x=>c x t) l) (fun g_=>g_.2-g_.1) (0,l.length) O (by exact ⟨Nat.zero_le _,Nat.le_refl _,rfl⟩) (sF O) (dX [] [] O) ?_
 rintro ⟨lo,hi⟩ ⟨Ws,h2_,HA⟩
 dsimp only at *
 refine U ?_
 refine C (lo<hi) ?_ ?_ <;> intro h1
 .
  refine R.q (q.ny (r:=(((lo+hi):Nat):Int)) O (by rw [Tryz.underlying3];rfl) Tryz.underlying183 (zq ae)) O<|R.q (q.shr (r:=((((lo+hi) / 2):Nat):Int)) O O aC (Rm aC)) O<|R.q (q.ny (r:=((((lo+hi) / 2):Nat):Int)) O (by rw [Tryz.underlying183];rfl) Tryz.underlying3 (wr ae)) O<|U ?_
  obtain ⟨x1,hx1⟩:=gE l ((lo+hi) / 2)
  refine U ?_
  refine R.c (q.call Je O O (fun w hw=>Wr w x1 t hw.ext)) O ?_
  refine C ((c x1 t)<0) ?_ ?_ <;> intro h2
  .refine R.back ((((lo+hi) / 2)+1),hi) O (by exact ⟨ae,ae,(Ej ae hx1 ae).symm.trans HA⟩) aJ (sF O) (dX [] [] O)
  refine R.back (lo,((lo+hi) / 2)) O (by exact ⟨ae,ae,(Ek ae hx1 ae).symm.trans HA⟩) aJ (sF O) (dX [] [] O)
 refine C (lo<l.length) ?_ ?_ <;> intro h3
 .
  obtain ⟨x2,hx2⟩:=gE l lo
  refine U ?_
  refine R.cg O (q.call Je O O (fun w hw=>Wr w x2 t hw.ext)) O<|C ((c x2 t)=0) ?_ ?_ <;> intro h4
  .exact R.Fu O Tryz.results135 O O (rI (by exact congrArg (fun n:Nat=>(n:Int)) ((iG ae).symm.trans HA))) (rB (by (have e:=(iG ae).symm.trans HA;unfold rk;rw [<- e];(rw [hx2];exact (decide_eq_true af).symm))))
  exact R.Fu O Tryz.results135 O O (rI (by exact congrArg (fun n:Nat=>(n:Int)) ((iG ae).symm.trans HA))) (rB (by (have e:=(iG ae).symm.trans HA;unfold rk;rw [<- e];(rw [hx2];exact (decide_eq_false af).symm))))
 exact R.Fu O Tryz.results135 O O (rI (by exact congrArg (fun n:Nat=>(n:Int)) ((iG ae).symm.trans HA))) (rB (by (have e:=(iG ae).symm.trans HA;unfold rk;rw [<- e];(rw [List.getElem?_eq_none ae]))))
theorem jX (c:Change)(w:World):Calls Tryz.prog 120 #[.agg #[.string c.Key,.string c.Val,.bool c.Gone]] w fun e w'=>e = .returned (bQ (iT c))/\Ext w w':=by
 refine R.eV ?_
 refine R.nb fun b1=>?_
 refine C (c.Key=⟨#[]⟩) ?_ ?_ <;> intro h1
 .
  refine R.q (q.dZ O O h1) O<|U ?_
  refine R.rt ?_
  (unfold iT;(rw [if_pos (by exact .inl af)]))
 refine R.q (q.dQ O O h1) O<|U ?_
 rcases Bool.eq_false_or_eq_true c.Gone with h2|h2
 .
  rw [h2]
  refine U ?_
  refine C (c.Val=⟨#[]⟩) ?_ ?_ <;> intro h3
  .
   refine R.qg O (q.oO O O h3) O<|U ?_
   refine C (8<c.Key.size) ?_ ?_ <;> intro h4
   .
    refine R.rt ?_
    (unfold iT;(rw [if_neg (by rintro (hh|⟨hh,hk⟩) <;> contradiction),if_pos ae]))
   refine C (24<c.Val.size) ?_ ?_ <;> intro h5
   .
    refine R.rt ?_
    (unfold iT;(rw [if_neg (by rintro (hh|⟨hh,hk⟩) <;> contradiction),if_pos ae]))
   refine R.rt ?_
   (unfold iT;(rw [if_neg (by rintro (hh|⟨hh,hk⟩) <;> contradiction),if_neg ae]))
  refine R.qg O (q.rh O O h3) O<|U ?_
  refine R.rt ?_
  (unfold iT;(rw [if_pos (by exact .inr ⟨af,af⟩)]))
 rw [h2]
 refine U ?_
 refine C (8<c.Key.size) ?_ ?_ <;> intro h6
 .
  refine R.rt ?_
  (unfold iT;(rw [if_neg (by rintro (hh|⟨hh,hk⟩) <;> first|contradiction|(simp_all;done)),if_pos ae]))
 refine C (24<c.Val.size) ?_ ?_ <;> intro h7
 .
  refine R.rt ?_
  (unfold iT;(rw [if_neg (by rintro (hh|⟨hh,hk⟩) <;> first|contradiction|(simp_all;done)),if_pos ae]))
 refine R.rt ?_
 (unfold iT;(rw [if_neg (by rintro (hh|⟨hh,hk⟩) <;> first|contradiction|(simp_all;done)),if_neg ae]))
theorem yC (c:Change)(w:World):Calls Tryz.prog 65 #[.agg #[.string c.Key,.string c.Val,.bool c.Gone]] w fun e w'=>e = .returned (iV (iT c))/\Ext w w':=by
 refine R.eV ?_
 refine R.nb fun b1=>?_
 refine C (c.Key=⟨#[]⟩) ?_ ?_ <;> intro h1
 .
  refine R.q (q.dZ O O h1) O<|U ?_
  refine R.rt ?_
  (unfold iT;(rw [if_pos (by exact .inl af)]))
 refine R.q (q.dQ O O h1) O<|U ?_
 rcases Bool.eq_false_or_eq_true c.Gone with h2|h2
 .
  rw [h2]
  refine U ?_
  refine C (c.Val=⟨#[]⟩) ?_ ?_ <;> intro h3
  .
   refine R.qg O (q.oO O O h3) O<|U ?_
   refine C (8<c.Key.size) ?_ ?_ <;> intro h4
   .
    refine R.rt ?_
    (unfold iT;(rw [if_neg (by rintro (hh|⟨hh,hk⟩) <;> contradiction),if_pos ae]))
   refine C (24<c.Val.size) ?_ ?_ <;> intro h5
   .
    refine R.rt ?_
    (unfold iT;(rw [if_neg (by rintro (hh|⟨hh,hk⟩) <;> contradiction),if_pos ae]))
   refine R.rt ?_
   (unfold iT;(rw [if_neg (by rintro (hh|⟨hh,hk⟩) <;> contradiction),if_neg ae]))
  refine R.qg O (q.rh O O h3) O<|U ?_
  refine R.rt ?_
  (unfold iT;(rw [if_pos (by exact .inr ⟨af,af⟩)]))
 rw [h2]
 refine U ?_
 refine C (8<c.Key.size) ?_ ?_ <;> intro h6
 .
  refine R.rt ?_
  (unfold iT;(rw [if_neg (by rintro (hh|⟨hh,hk⟩) <;> first|contradiction|(simp_all;done)),if_pos ae]))
 refine C (24<c.Val.size) ?_ ?_ <;> intro h7
 .
  refine R.rt ?_
  (unfold iT;(rw [if_neg (by rintro (hh|⟨hh,hk⟩) <;> first|contradiction|(simp_all;done)),if_pos ae]))
 refine R.rt ?_
 (unfold iT;(rw [if_neg (by rintro (hh|⟨hh,hk⟩) <;> first|contradiction|(simp_all;done)),if_neg ae]))
theorem E2 (c:Change)(w:World):Calls Tryz.prog 229 #[.agg #[.string c.Key,.string c.Val,.bool c.Gone]] w fun e w'=>e = .returned (.tuple #[.string (lI c).1,bQ (lI c).2])/\Ext w w':=by
 have f0:=ku c
 refine R.eV ?_
 refine R.nb fun b1=>?_
 refine R.kc O O (fun w hw=>jX c w)<|U ?_
 refine C (iT c=0) ?_ ?_ <;> intro h1
 .
  obtain ⟨z1,z2,z3,z4⟩:=iM h1
  refine U ?_
  refine R.cond O O (fun h2=>?_) (fun h2=>?_)
  .
   refine U ?_
   refine R.q (q.ny (r:=((c.Key.size:Nat):Int)) O (by rw [Tryz.underlying3];rfl) Tryz.underlying5 (rU ae)) O<|R.s O (s.bs (l:=([(1:UInt8),UInt8.ofNat c.Key.size]:List UInt8)) aP eD O O O O O (cp O (cp (eu ae) fF)) O) fun b2=>?_
   refine R.q (q.kA (cI 0 O) O aP Tryz.underlying5 Tryz.underlying9) O<|U ?_
   refine R.q (q.cat O O (by simp only [ByteArray.size_append,bg,List.length_cons,List.length_nil];omega)) O<|U ?_
   refine R.q (q.cat O O (by simp only [ByteArray.size_append,bg,List.length_cons,List.length_nil];omega)) O<|U ?_
   exact R.Fu O Tryz.results229 O O (rS (by unfold lI;(rw [if_pos ae,show c.Gone=true from by assumption];rfl))) (vo (by unfold lI;(rw [if_pos ae];done)))
  refine U ?_
  refine R.q (q.ny (r:=((c.Key.size:Nat):Int)) O (by rw [Tryz.underlying3];rfl) Tryz.underlying5 (rU ae)) O<|R.s O (s.bs (l:=([(0:UInt8),UInt8.ofNat c.Key.size]:List UInt8)) aP eD O O O O O (cp O (cp (eu ae) fF)) O) fun b3=>?_
  refine R.q (q.kA (cI 0 O) O aP Tryz.underlying5 Tryz.underlying9) O<|U ?_
  refine R.q (q.cat O O (by simp only [ByteArray.size_append,bg,List.length_cons,List.length_nil];omega)) O<|U ?_
  refine R.q (q.cat O O (by simp only [ByteArray.size_append,bg,List.length_cons,List.length_nil];omega)) O<|U ?_
  exact R.Fu O Tryz.results229 O O (rS (by unfold lI;(rw [if_pos ae,show c.Gone=false from by assumption];rfl))) (vo (by unfold lI;(rw [if_pos ae];done)))
 exact R.Fu O Tryz.results229 O O (rS (by unfold lI;(rw [if_neg ae];done))) (rE (by unfold lI;(rw [if_neg ae];done)))
theorem G3 {s:ByteArray}(h:s.size<2):uJ s=(c0,4):=by unfold uJ;rw [if_pos (.inl h)]
theorem G4 {s:ByteArray}{y:UInt8}(hy:s.data[0]? = some y)(h:1<y.toNat):uJ s=(c0,4):=by unfold uJ;rw [if_pos (.inr (.inl (by rw [aK hy];exact h)))]
theorem G5 {s:ByteArray}{y:UInt8}(hy:s.data[1]? = some y)(h:s.size<2+y.toNat):uJ s=(c0,4):=by unfold uJ;rw [if_pos (.inr (.inr (by rw [aK hy];exact h)))]
theorem sG {s:ByteArray}{y z:UInt8}{b:Bool}(hy:s.data[0]? = some y)(hz:s.data[1]? = some z)(h1:¬ s.size<2)(h2:¬ 1<y.toNat)(h3:¬ s.size<2+z.toNat)(hb:b=decide (y.toNat=1)) :
 uJ s=if iT ⟨s.extract 2 (2+z.toNat),s.extract (2+z.toNat) s.size,b⟩=0 then (⟨s.extract 2 (2+z.toNat),s.extract (2+z.toNat) s.size,b⟩,0) else (c0,4):=by
 have e1:=aK hy;have e2:=aK hz
 unfold uJ;rw [if_neg (by rw [e1,e2];omega)];unfold N3;rw [e1,e2,hb]
theorem E3 (sb:ByteArray)(w:World)(hs:sb.size<=1000000):Calls Tryz.prog 133 #[.string sb] w fun e w'=>e = .returned (.tuple #[Change.val (uJ sb).1,bQ (uJ sb).2])/\Ext w w':=by
 refine R.eV ?_
 refine R.nb fun b1=>?_
 refine C (sb.size<2) ?_ ?_ <;> intro h1
 .exact R.uv O Tryz.results133 (RV.cell 0 O O jO) (RV.tmp O) (congrArg Change.val (show (⟨⟨#[]⟩,⟨#[]⟩,false⟩:Change)=(uJ sb).1 from by (rw [G3 ae];rfl))) (rC aC (by rw [G3 ae];done))
 obtain ⟨y1,hy1⟩:∃z,sb.data[0]? = some z:=⟨_,Array.getElem?_eq_getElem (show 0<sb.size from by omega)⟩
 have Wt:=y1.toNat_lt
 refine R.qg O (q.gN (i:=0) O O Tryz.underlying9 O hy1) O<|C (1<y1.toNat) ?_ ?_ <;> intro h2
 .exact R.uv O Tryz.results133 (RV.cell 0 O O jO) (RV.tmp O) (congrArg Change.val (show (⟨⟨#[]⟩,⟨#[]⟩,false⟩:Change)=(uJ sb).1 from by (rw [G4 hy1 ae];rfl))) (rC aC (by rw [G4 hy1 ae];done))
 obtain ⟨y2,hy2⟩:∃z,sb.data[1]? = some z:=⟨_,Array.getElem?_eq_getElem (show 1<sb.size from by omega)⟩
 have XK:=y2.toNat_lt
 refine R.qg O (q.gN (i:=1) O O Tryz.underlying9 O hy2) O<|R.qg O (q.ny (r:=((y2.toNat:Nat):Int)) O (by rw [Tryz.underlying5];rfl) Tryz.underlying3 (wr ae)) O<|U ?_
 refine C (sb.size<(2+y2.toNat)) ?_ ?_ <;> intro h3
 .exact R.uv O Tryz.results133 (RV.cell 0 O O jO) (RV.tmp O) (congrArg Change.val (show (⟨⟨#[]⟩,⟨#[]⟩,false⟩:Change)=(uJ sb).1 from by (rw [G5 hy2 ae];rfl))) (rC aC (by rw [G5 hy2 ae];done))
 refine R.q (q.gN (i:=1) O O Tryz.underlying9 O hy2) O<|R.q (q.ny (r:=((y2.toNat:Nat):Int)) O (by rw [Tryz.underlying5];rfl) Tryz.underlying3 (wr ae)) O<|U ?_
 refine C (y1.toNat=1) ?_ ?_ <;> intro h4
 .
  refine R.cO (fuel:=12) [0] O O mixed O<|D.l jH [0] [] O<|U ?_
  refine Dm.yy O O (q.Fv (i:=2) (j:=(2+y2.toNat)) O O O Tryz.underlying9 O O ae ae) O<|U ?_
  refine Dm.yy O O (q.Cy (i:=(2+y2.toNat)) O O Tryz.underlying9 O ae) O<|U ?_
  refine Dm.yy O O (q.gN (i:=0) O O Tryz.underlying9 O hy1) O<|U ?_
  refine D.p 10 O [1] [] (s.alloc ct O O) fun b2=>?_
  refine D.p 11 O [1] [] (s.st 0 _ O O O O (.inl jO) O O O O) fun _=>?_
  refine D.done<|U ?_
  refine R.kc O O (fun w hw=>jX (⟨sb.extract 2 (2+y2.toNat),sb.extract (2+y2.toNat) sb.size,true⟩:Change) w)<|C (iT (⟨sb.extract 2 (2+y2.toNat),sb.extract (2+y2.toNat) sb.size,true⟩:Change)=0) ?_ ?_ <;> intro h5
  .exact R.uv O Tryz.results133 (RV.cell 1 O O jO) (RV.tmp O) (congrArg Change.val (show (⟨sb.extract 2 (2+y2.toNat),sb.extract (2+y2.toNat) sb.size,true⟩:Change)=(uJ sb).1 from by (have f1:=ku (⟨sb.extract 2 (2+y2.toNat),sb.extract (2+y2.toNat) sb.size,true⟩:Change);rw [sG (b:=true) hy1 hy2 ae ae ae (decide_eq_true ae).symm,if_pos ae];done))) (vo (by (have f1:=ku (⟨sb.extract 2 (2+y2.toNat),sb.extract (2+y2.toNat) sb.size,true⟩:Change);rw [sG (b:=true) hy1 hy2 ae ae ae (decide_eq_true ae).symm,if_pos ae];done)))
  exact R.uv O Tryz.results133 (RV.cell 1 O O jO) (RV.tmp O) (congrArg Change.val (show (⟨⟨#[]⟩,⟨#[]⟩,false⟩:Change)=(uJ sb).1 from by (have f1:=ku (⟨sb.extract 2 (2+y2.toNat),sb.extract (2+y2.toNat) sb.size,true⟩:Change);rw [sG (b:=true) hy1 hy2 ae ae ae (decide_eq_true ae).symm,if_neg ae];rfl))) (rC aC (by (have f1:=ku (⟨sb.extract 2 (2+y2.toNat),sb.extract (2+y2.toNat) sb.size,true⟩:Change);rw [sG (b:=true) hy1 hy2 ae ae ae (decide_eq_true ae).symm,if_neg ae];done)))
 refine R.cO (fuel:=12) [0] O O mixed O<|D.l jH [0] [] O<|U ?_
 refine Dm.yy O O (q.Fv (i:=2) (j:=(2+y2.toNat)) O O O Tryz.underlying9 O O ae ae) O<|U ?_
 refine Dm.yy O O (q.Cy (i:=(2+y2.toNat)) O O Tryz.underlying9 O ae) O<|U ?_
 refine Dm.yy O O (q.gN (i:=0) O O Tryz.underlying9 O hy1) O<|U ?_
 refine D.p 10 O [1] [] (s.alloc ct O O) fun b3=>?_
 refine D.p 11 O [1] [] (s.st 0 _ O O O O (.inl jO) O O O O) fun _=>?_
 refine D.done<|U ?_
 refine R.kc O O (fun w hw=>jX (⟨sb.extract 2 (2+y2.toNat),sb.extract (2+y2.toNat) sb.size,false⟩:Change) w)<|C (iT (⟨sb.extract 2 (2+y2.toNat),sb.extract (2+y2.toNat) sb.size,false⟩:Change)=0) ?_ ?_ <;> intro h6
 .exact R.uv O Tryz.results133 (RV.cell 1 O O jO) (RV.tmp O) (congrArg Change.val (show (⟨sb.extract 2 (2+y2.toNat),sb.extract (2+y2.toNat) sb.size,false⟩:Change)=(uJ sb).1 from by (have f1:=ku (⟨sb.extract 2 (2+y2.toNat),sb.extract (2+y2.toNat) sb.size,false⟩:Change);rw [sG (b:=false) hy1 hy2 ae ae ae (decide_eq_false ae).symm,if_pos ae];done))) (vo (by (have f1:=ku (⟨sb.extract 2 (2+y2.toNat),sb.extract (2+y2.toNat) sb.size,false⟩:Change);rw [sG (b:=false) hy1 hy2 ae ae ae (decide_eq_false ae).symm,if_pos ae];done)))
 exact R.uv O Tryz.results133 (RV.cell 1 O O jO) (RV.tmp O) (congrArg Change.val (show (⟨⟨#[]⟩,⟨#[]⟩,false⟩:Change)=(uJ sb).1 from by (have f1:=ku (⟨sb.extract 2 (2+y2.toNat),sb.extract (2+y2.toNat) sb.size,false⟩:Change);rw [sG (b:=false) hy1 hy2 ae ae ae (decide_eq_false ae).symm,if_neg ae];rfl))) (rC aC (by (have f1:=ku (⟨sb.extract 2 (2+y2.toNat),sb.extract (2+y2.toNat) sb.size,false⟩:Change);rw [sG (b:=false) hy1 hy2 ae ae ae (decide_eq_false ae).symm,if_neg ae];done)))
theorem AX {α:Type}{f:α->Int}{l:List α}(h:rk f l=true):kS f l<l.length:=by
 obtain ⟨x,hx,_⟩:=FT h
 exact (List.getElem?_eq_some_iff.1 hx).1
theorem qL (qM:Value)(rows:List Change)(bR:Value)(l:List Change)(w:World)(own:List Nat)(H:HN w own [] [ag.ls qM rows,ag.ls bR l])(hl:rows.length+l.length<=100000):RC Tryz.prog 80 #[qM,bR] H (fun z:Value=>z) (fun z=>[ag.row 115 z (bX rows l)]) (fun _=>[]):=by
 have Wu:=H.aL 0 rfl
 have BV:=H.aL 1 rfl
 refine R.eN H ?_
 refine R.s O (s.aH [0] [0] _ _ _ O O O Uk O O (fun w own hw H=>ry qM rows w own H ae) O) fun z1=>U ?_
 refine R.loop (fun g_:Nat×Value×(List Change)=>[(0,g_.2.1),(11,bR),(12,iV (l.length:Int)),(13,iV (g_.1:Int))]) (fun g_=>[ag.row 115 g_.2.1 g_.2.2,ag.held w own]) (fun g_=>[ag.ls qM rows,ag.ls bR l]) (fun g_=>g_.1<=l.length/\g_.2.2=bX rows (l.take g_.1)) (fun g_=>l.length-g_.1) (0,z1,rows) O (by exact ⟨ae,rfl⟩) (sF O) (dX [0,1] [0,1] O) ?_
 rintro ⟨k,u,rs⟩ ⟨hk,HR⟩
 dsimp only at *
 have hrl:=lX (l.take k) rows;rw [<- HR,List.length_take] at hrl
 refine U ?_
 refine C (k<l.length) ?_ ?_ <;> intro h1
 .
  obtain ⟨x1,hx1⟩:=gE l k
  refine U ?_
  refine R.nb fun b1=>?_
  refine R.kc O O (fun w hw=>g7 _ rs x1.Key (fun (x:Change) (k:ByteArray)=>fK k x) _ _ VJ w (hw.row 1 O) (fun W x k hW=>E1 x k W) ae)<|U ?_
  rcases Bool.eq_false_or_eq_true (rk (fun x=>(fun (x:Change) (k:ByteArray)=>fK k x) x x1.Key) rs) with h2|h2
  .
   rw [h2]
   refine U ?_
   refine R.cond O O (fun h3=>?_) (fun h3=>?_)
   .
    have hb0:kS (fun x=>(fun (x:Change) (k:ByteArray)=>fK k x) x x1.Key) rs<=rs.length:=rY;have hb1:kS (fun x=>fK x1.Key x) rs<=rs.length:=rY;have hb9:kS (fun x=>fK x1.Key x) rs=kS (fun x=>(fun (x:Change) (k:ByteArray)=>fK k x) x x1.Key) rs:=rfl
    have hb7:kS (fun x=>(fun (x:Change) (k:ByteArray)=>fK k x) x x1.Key) rs<rs.length:=AX af;have hb8:kS (fun x=>fK x1.Key x) rs<rs.length:=AX af
    refine U ?_
    refine R.s O (s.aH [1,0,2] [] _ _ _ O O O VK O O (fun w own hw H=>by have Ws:=xg u rs (kS (fun x=>(fun (x:Change) (k:ByteArray)=>fK k x) x x1.Key) rs) (kS (fun x=>(fun (x:Change) (k:ByteArray)=>fK k x) x x1.Key) rs+1) w own H ae;exact Ws) O) fun z2=>U ?_
    refine R.back (k+1,z2,rs.take (kS (fun x=>(fun (x:Change) (k:ByteArray)=>fK k x) x x1.Key) rs)++rs.drop (kS (fun x=>(fun (x:Change) (k:ByteArray)=>fK k x) x x1.Key) rs+1)) O (by exact ⟨ae,by rw [qB hx1,<- HR];unfold BU;(rw [if_pos (show rk (fK x1.Key) rs=true from by assumption),if_pos af];done)⟩) aJ (sF O) (cw [0,2] [0,1] O)
   refine U ?_
   have hb0:kS (fun x=>(fun (x:Change) (k:ByteArray)=>fK k x) x x1.Key) rs<=rs.length:=rY;have hb1:kS (fun x=>fK x1.Key x) rs<=rs.length:=rY;have hb9:kS (fun x=>fK x1.Key x) rs=kS (fun x=>(fun (x:Change) (k:ByteArray)=>fK k x) x x1.Key) rs:=rfl
   have hb7:kS (fun x=>(fun (x:Change) (k:ByteArray)=>fK k x) x x1.Key) rs<rs.length:=AX af;have hb8:kS (fun x=>fK x1.Key x) rs<rs.length:=AX af
   refine U ?_
   obtain ⟨x2,hx2⟩:=gE rs (kS (fun x=>(fun (x:Change) (k:ByteArray)=>fK k x) x x1.Key) rs)
   refine U ?_
   refine R.s O (s.UZ (z:=x1) 1 _ O hx2 O O O O (.inl jO) O) fun _=>U ?_
   refine R.back (k+1,u,(rs.set (kS (fun x=>(fun (x:Change) (k:ByteArray)=>fK k x) x x1.Key) rs) x1)) O (by exact ⟨ae,by rw [qB hx1,<- HR];unfold BU;(rw [if_pos (show rk (fK x1.Key) rs=true from by assumption),if_neg (by rw [show x1.Gone=false from by assumption];decide)];done)⟩) aJ (sF O) (cw [1,2] [0,1] O)
  rw [h2]
  refine U ?_
  refine R.q (q.not O) O<|U ?_
  refine R.cond O O (fun h4=>?_) (fun h4=>?_)
  .
   have hb0:kS (fun x=>(fun (x:Change) (k:ByteArray)=>fK k x) x x1.Key) rs<=rs.length:=rY;have hb1:kS (fun x=>fK x1.Key x) rs<=rs.length:=rY;have hb9:kS (fun x=>fK x1.Key x) rs=kS (fun x=>(fun (x:Change) (k:ByteArray)=>fK k x) x x1.Key) rs:=rfl
   refine U ?_
   refine R.s O (s.bs (l:=([x1]:List Change)) cD ct O O O O O O O) fun b2=>?_
   refine R.s O (s.aH [2,0,1,3] [] _ _ _ O O O VL O O (fun w own hw H=>by have Ws:=xh u rs (kS (fun x=>(fun (x:Change) (k:ByteArray)=>fK k x) x x1.Key) rs) (.slice (some ⟨b2,0,none⟩) 1 1) ([x1]) w own H af rfl ae;exact Ws) O) fun z3=>U ?_
   refine R.back (k+1,z3,rs.take (kS (fun x=>(fun (x:Change) (k:ByteArray)=>fK k x) x x1.Key) rs)++([x1])++rs.drop (kS (fun x=>(fun (x:Change) (k:ByteArray)=>fK k x) x x1.Key) rs)) O (by exact ⟨ae,by rw [qB hx1,<- HR];unfold BU;(rw [if_neg (by rw [show rk (fK x1.Key) rs=false from by assumption];decide),if_neg (by rw [show x1.Gone=false from by (simpa using ‹(!x1.Gone)=true›)];decide)];done)⟩) aJ (sF O) (cw [0,2] [0,1] O)
  refine U ?_
  refine R.back (k+1,u,rs) O (by exact ⟨ae,by rw [qB hx1,<- HR];unfold BU;(rw [if_neg (by rw [show rk (fK x1.Key) rs=false from by assumption];decide),if_pos (by simpa using ‹(!x1.Gone)=false›)];done)⟩) aJ (sF O) (cw [1,2] [0,1] O)
 have hz:bX rows l=rs:=by (rw [HR,List.take_of_length_le ae])
 rw [hz]
 exact R.x1 u [0,1] []
theorem G6 (qM:Value)(rows:List Change)(bR:Value)(l:List Change)(w:World)(own:List Nat)(H:HN w own [] [ag.ls qM rows,ag.ls bR l])(hl:rows.length+l.length<=100000):RC Tryz.prog 66 #[qM,bR] H (fun z:Value=>z) (fun z=>[ag.row 115 z (ej rows l)]) (fun _=>[]):=by
 have Wu:=H.aL 0 rfl
 have BV:=H.aL 1 rfl
 refine R.eN H ?_
 refine R.s O (s.app0 O O (vu 0 O) ky ae ae O) fun v1=>U ?_
 refine R.loop (fun g_:Nat×Value×(List Change)=>[(1,bR),(5,g_.2.1),(6,iV (g_.1:Int))]) (fun g_=>[ag.row 115 g_.2.1 g_.2.2,ag.held w own]) (fun g_=>[ag.ls qM rows,ag.ls bR l]) (fun g_=>g_.1<=l.length/\g_.2.2=ej rows (l.take g_.1)) (fun g_=>l.length-g_.1) (0,v1,rows) O (by exact ⟨ae,eH⟩) (sF O) (dX [0,1] [0,1] O) ?_
 rintro ⟨k,u,rs⟩ ⟨hk,HR⟩
 dsimp only at *
 have hrl:=qC (l.take k) rows;rw [<- HR,List.length_take] at hrl
 refine U ?_
 refine C (k<l.length) ?_ ?_ <;> intro h1
 .
  obtain ⟨x1,hx1⟩:=gE l k
  refine U ?_
  refine R.row0 (α:=Change) 115<|R.loop (fun g_:Nat×Bool×Value×(List Change)=>[(1,bR),(5,u),(6,iV (k:Int)),(7,g_.2.2.1),(8,.bool g_.2.1),(9,iV (g_.1:Int))]) (fun g_=>[ag.row 115 g_.2.2.1 g_.2.2.2,ag.row 115 u rs,ag.held w own]) (fun g_=>[ag.ls qM rows,ag.ls bR l]) (fun g_=>g_.1<=rs.length/\(g_.2.2.2,g_.2.1)=B5 (rs.take g_.1) x1) (fun g_=>rs.length-g_.1) (0,x1.Gone,nS,[]) O (by exact ⟨ae,rfl⟩) (sF O) (dX [0,1,2] [0,1] O) ?_
  rintro ⟨m,b,u2,os⟩ ⟨hm,HO⟩
  dsimp only at *
  have hol:=Af x1 (rs.take m) ([],x1.Gone);rw [show (rs.take m).foldl (eW x1) ([],x1.Gone)=(os,b) from HO.symm,List.length_take] at hol;have abZ:os.length<=m+1:=(by have q1:(if b=true then 0 else 1)+os.length=os.length+(if b=true then 0 else 1):=Nat.add_comm _ _;dsimp only at hol;have q2:(if x1.Gone=true then 0 else 1)<=1:=(by split <;> omega);simp only [List.length_nil] at hol;omega)
  refine U ?_
  refine C (m<rs.length) ?_ ?_ <;> intro h2
  .
   cases b
   .
    obtain ⟨x2,hx2⟩:=gE rs m
    rcases Bool.eq_false_or_eq_true (hY x1.Key x2.Key||decide (x1.Key=x2.Key)) with h3|h3
    .
     refine R.c6 O mixed ay<|U ?_
     refine Q.qg O (q.Lr O O h3) O<|U ?_
     refine R.s O (s.bs (l:=([x1]:List Change)) cD ct O O O O O O O) fun b1=>?_
     refine R.ap fun v2=>?_
     refine C (x2.Key=x1.Key) ?_ ?_ <;> intro h4
     .
      refine R.c6 O mixed ay<|U ?_
      refine Q.q (q.oO O O h4) O<|U ?_
      refine R.back ((m+1),true,v2,(os++([x1]))) O (by (exact ⟨ae,by rw [nE hx2,<- HO];unfold eW;dsimp only;(repeat' split) <;> first|rfl|(exfalso;simp_all;done)|(simp_all;done)⟩)) aJ (sF O) (cw [1,2,3] [0,1] O)
     refine R.c6 O mixed ay<|U ?_
     refine Q.q (q.rh O O h4) O<|U ?_
     refine R.s O (s.bs (l:=([x2]:List Change)) cD ct O O O O O O O) fun b2=>?_
     refine R.ap fun v3=>?_
     refine R.back ((m+1),true,v3,((os++([x1]))++([x2]))) O (by (exact ⟨ae,by rw [nE hx2,<- HO];unfold eW;dsimp only;(repeat' split) <;> first|rfl|(exfalso;simp_all;done)|(simp_all;done)⟩)) aJ (sF O) (cw [2,3,4] [0,1] O)
    refine R.c6 O mixed ay<|U ?_
    refine Q.qg O (q.Lr O O h3) O<|U ?_
    refine C (x2.Key=x1.Key) ?_ ?_ <;> intro h5
    .
     refine R.c6 O mixed ay<|U ?_
     refine Q.q (q.oO O O h5) O<|U ?_
     refine R.back ((m+1),false,u2,os) O (by (exact ⟨ae,by rw [nE hx2,<- HO];unfold eW;dsimp only;(repeat' split) <;> first|rfl|(exfalso;simp_all;done)|(simp_all;done)⟩)) aJ (sF O) (cw [0,1,2] [0,1] O)
    refine R.c6 O mixed ay<|U ?_
    refine Q.q (q.rh O O h5) O<|U ?_
    refine R.s O (s.bs (l:=([x2]:List Change)) cD ct O O O O O O O) fun b3=>?_
    refine R.ap fun v4=>?_
    refine R.back ((m+1),false,v4,(os++([x2]))) O (by (exact ⟨ae,by rw [nE hx2,<- HO];unfold eW;dsimp only;(repeat' split) <;> first|rfl|(exfalso;simp_all;done)|(simp_all;done)⟩)) aJ (sF O) (cw [1,2,3] [0,1] O)
   refine R.c6 O mixed ay<|U ?_
   obtain ⟨x3,hx3⟩:=gE rs m
   refine C (x3.Key=x1.Key) ?_ ?_ <;> intro h6
   .
    refine R.c6 O mixed ay<|U ?_
    refine Q.q (q.oO O O h6) O<|U ?_
    refine R.back ((m+1),true,u2,os) O (by (exact ⟨ae,by rw [nE hx3,<- HO];unfold eW;dsimp only;(repeat' split) <;> first|rfl|(exfalso;simp_all;done)|(simp_all;done)⟩)) aJ (sF O) (cw [0,1,2] [0,1] O)
   refine R.c6 O mixed ay<|U ?_
   refine Q.q (q.rh O O h6) O<|U ?_
   refine R.s O (s.bs (l:=([x3]:List Change)) cD ct O O O O O O O) fun b4=>?_
   refine R.ap fun v5=>?_
   refine R.back ((m+1),true,v5,(os++([x3]))) O (by (exact ⟨ae,by rw [nE hx3,<- HO];unfold eW;dsimp only;(repeat' split) <;> first|rfl|(exfalso;simp_all;done)|(simp_all;done)⟩)) aJ (sF O) (cw [1,2,3] [0,1] O)
  refine R.q (q.not O) O<|U ?_
  cases b
  .
   refine U ?_
   refine R.s O (s.bs (l:=([x1]:List Change)) cD ct O O O O O O O) fun b5=>?_
   refine R.ap fun v6=>?_
   refine R.back (k+1,v6,(os++([x1]))) O (by exact ⟨ae,by rw [List.take_of_length_le ae] at HO;rw [vK hx1,<- HR];unfold Km;rw [<- HO];rfl⟩) aJ (sF O) (cw [1,3] [0,1] O)
  refine U ?_
  refine R.back (k+1,u2,os) O (by exact ⟨ae,by rw [List.take_of_length_le ae] at HO;rw [vK hx1,<- HR];unfold Km;rw [<- HO];rfl⟩) aJ (sF O) (cw [0,2] [0,1] O)
 have hz:ej rows l=rs:=by (rw [HR,List.take_of_length_le ae])
 rw [hz]
 exact R.x1 u [0,1] []
end Go.Proofs.YtnmpibjlnninjaaGreatDoor
