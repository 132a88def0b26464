import Derived.Test.YtnmpibjlnninjaaGreatDoorKT12
namespace Go.Proofs.YtnmpibjlnninjaaGreatDoor
set_option linter.unusedVariables false
set_option linter.unusedSimpArgs false
set_option maxRecDepth 100000
set_option maxHeartbeats 90000000
section
open Go Go.RowKit
attribute [local irreducible] Run Rg Rq Qt Qa Stp Dg Do Dm bN
theorem nq (bA:Value)(l:List Held)(w:World)(own:List Nat)(H:HN w own [] [ah.ls bA l])(hl:l.length<=1000000):RC Tryz.prog 107 #[bA] H (fun z:Value=>z) (fun z=>[ah.row 124 z l]) (fun _=>[]):=by
 have zy:=H.aZ 0 rfl
 refine R.eN H ?_
 rcases Bool.eq_false_or_eq_true (pS bA) with h1|h1
 .
  refine R.q (q.IX (congrArg Value.bool h1) (q.px (zw 0 O) O O Tryz.underlying45)) O<|U ?_
  refine R.row0 (α:=Held) 124 ?_
  rw [show l=_ from Sl.pS (H.cq 0 rfl) af]
  exact R.x1 nS [0,1] []
 refine R.q (q.IX (congrArg Value.bool h1) (q.px (zw 0 O) O O Tryz.underlying45)) O<|U ?_
 refine R.s O (s.bs (l:=([]:List Held)) cd cx O O O O O O O) fun b1=>U ?_
 refine R.ap fun v1=>?_
 have hz:l=(([])++l):=by (rfl)
 rw [hz]
 exact R.x1 v1 [0,1] []
theorem yE (bA:Value)(l:List Held)(i:Nat)(j:Nat)(w:World)(own:List Nat)(H:HN w own [ah.row 124 bA l] [])(hij:i<=j/\j<=l.length):RC Tryz.prog 209 #[bA,iV (i:Int),iV (j:Int)] H (fun z:Value=>z) (fun z=>[ah.row 124 z (l.take i++l.drop j)]) (fun _=>[]):=by
 have Jz:=H.cap 0 rfl;have zy:=H.cz 0 rfl
 refine R.eN H ?_
 refine R.q (q.FK (i:=i) (j:=j) (q':=l.length) (cm 0 O) O O O O cd O O O ae ae ae) O<|U ?_
 refine C (i=j) ?_ ?_ <;> intro h1
 .
  rw [show l.take i++l.drop j=_ from xk ae]
  exact R.x1 bA [0,1] []
 refine R.dC (fuel:=8) [1] O O mixed O<|D.l [0,1,3,4] [1] [] O<|U ?_
 refine D.two (i:=2) (j:=5) O O ?_ ?_
 .
  refine Do.k [1] [] (q.jJ (i:=i) (cm 0 O) O O Tryz.underlying45 wJ O ae) ?_
  refine D.k 5 O [1] [] (q.cR (i:=j) (cm 0 O) O O cd O ae) ?_
  refine D.p 6 O [1] [] (s.uj (a:=i) 0 _ O O O (fun w hw=>Sl.from (hw.row 0 O) ae) m7 ae aE O O) fun _=>?_
  refine D.l [7] [1] [] O<|U ?_
  refine D.done<|U ?_
  refine R.q (q.sl2 (i:=(l.take i++(l.drop j)).length) (j:=l.length) (cm 0 O) O O O cd O O aE (by simp [gF];omega)) O<|R.s O (s.Ab (lo:=(l.take i++(l.drop j)).length) (hi:=l.length) (z0:=(⟨(⟨0,0⟩:Place),0⟩:Held)) 0 O O cd cx O ae aE (by simp [gF];omega)) fun _=>U ?_
  have hz:l.take i++l.drop j=(l.take i++(l.drop j)):=by (rfl)
  rw [hz]
  exact R.x1 (jJ bA (i+(l.drop j).length)) [0,1] []
 refine Do.k [1] [] (q.cR (i:=j) (cm 0 O) O O cd O ae) ?_
 refine D.k 2 O [1] [] (q.jJ (i:=i) (cm 0 O) O O Tryz.underlying45 wJ O ae) ?_
 refine D.p 6 O [1] [] (s.uj (a:=i) 0 _ O O O (fun w hw=>Sl.from (hw.row 0 O) ae) m7 ae aE O O) fun _=>?_
 refine D.l [7] [1] [] O<|U ?_
 refine D.done<|U ?_
 refine R.q (q.sl2 (i:=(l.take i++(l.drop j)).length) (j:=l.length) (cm 0 O) O O O cd O O aE (by simp [gF];omega)) O<|R.s O (s.Ab (lo:=(l.take i++(l.drop j)).length) (hi:=l.length) (z0:=(⟨(⟨0,0⟩:Place),0⟩:Held)) 0 O O cd cx O ae aE (by simp [gF];omega)) fun _=>U ?_
 have hz:l.take i++l.drop j=(l.take i++(l.drop j)):=by (rfl)
 rw [hz]
 exact R.x1 (jJ bA (i+(l.drop j).length)) [0,1] []
theorem yF (bA:Value)(l:List Held)(i:Nat)(Vg:Value)(u:List Held)(w:World)(own:List Nat)(H:HN w own [ah.row 124 bA l,ah.row 124 Vg u] [])(hi:i<=l.length)(hu:u.length=1)(hl:l.length<=1000000):RC Tryz.prog 210 #[bA,iV (i:Int),Vg] H (fun z:Value=>z) (fun z=>[ah.row 124 z (l.take i++u++l.drop i)]) (fun _=>[]):=by
 have Jz:=H.cap 0 rfl;have zy:=H.cz 0 rfl
 have YW:=H.cap 1 rfl;have YX:=H.cz 1 rfl
 refine R.eN H ?_
 refine R.q (q.cR (i:=i) (cm 0 O) O O cd O ae) O<|U ?_
 refine C (i=l.length) ?_ ?_ <;> intro h1
 .
  refine R.ap fun v1=>?_
  rw [show l.take i++u++l.drop i=_ from Ho ae]
  exact R.x1 v1 [0,2] []
 refine R.q (q.cap (cm 0 O) O Tryz.underlying45) O<|C ((lX bA)<(l.length+u.length)) ?_ ?_ <;> intro h2
 .
  refine R.q (q.jJ (i:=i) (cm 0 O) O O Tryz.underlying45 wJ O ae) O<|U ?_
  refine R.q (q.jY (r:=(((l.length+u.length)-i:Nat):Int)) O O) O<|R.s O (s.Hj (o:=i) (m:=((l.length+u.length)-i)) (z0:=(⟨(⟨0,0⟩:Place),0⟩:Held)) 0 O O O O m7 Tryz.underlying3 cx O ae ae ae ae ae O) fun v2=>U ?_
  refine R.q (q.cR (i:=i) (cm 0 O) O O cd O aE) O<|U ?_
  refine R.s O (s.vq (o:=i) 0 _ O (cm 2 O) O O cd aE O O) fun _=>U ?_
  refine R.dC (fuel:=9) [1,2,3] O O mixed O<|D.l [0,1,2,3,5,6,7] [1,2,3] [] O<|U ?_
  refine Dm.yy O O (q.cR (i:=i) (cm 0 O) O O cd O ae) O<|U ?_
  refine D.k 4 O [1,2,3] [] (q.cR (i:=(i+u.length)) (cm 0 O) O O cd O aE) ?_
  refine D.p 8 O [1,2,3] [] (s.vq (o:=(i+u.length)) 0 _ O (fun w hw=>Sl.from (hw.row 1 O) ae) O O cd aE O O) fun _=>?_
  refine D.done<|U ?_
  rw [show l.take i++u++l.drop i=_ from Dx hu ae rfl]
  exact R.x1 v2 [0,3] []
 refine R.q (q.T1 (i:=(l.length+u.length)) (cm 0 O) O O cd O ae) O<|U ?_
 refine R.q (q.nn (i:=(i+u.length)) (cm 0 O) O O cd O ae ae) O<|R.q (q.XV (i:=1) (j:=0) (tR:=4) Tryz.func253 O O ao ao cd O O aD ae ae O O O O) O<|U ?_
 refine R.dC (fuel:=9) [1,2] O O mixed O<|D.l [0,1,2,3,5,6] [1,2] [] O<|U ?_
 refine D.two (i:=4) (j:=7) O O ?_ ?_
 .
  refine Do.k [1,2] [] (q.nn (i:=(i+u.length)) (cm 0 O) O O cd O ae ae) ?_
  refine D.k 7 O [1,2] [] (q.nn (i:=i) (cm 0 O) O O cd O ae ae) ?_
  refine D.p 8 O [1,2] [] (s.Bn (o:=i) 0 _ O ae ae ae ae O O cd O O) fun _=>?_
  refine D.done<|U ?_
  refine R.q (q.cR (i:=i) (cm 0 O) O O cd O aE) O<|U ?_
  refine R.s O (s.vq (o:=i) 0 _ O (cm 1 O) O O cd aE O O) fun _=>U ?_
  rw [show l.take i++u++l.drop i=_ from BF hu ae]
  exact R.x1 (jJ bA (l.length+u.length)) [0,2] []
 refine Do.k [1,2] [] (q.nn (i:=i) (cm 0 O) O O cd O ae ae) ?_
 refine D.k 4 O [1,2] [] (q.nn (i:=(i+u.length)) (cm 0 O) O O cd O ae ae) ?_
 refine D.p 8 O [1,2] [] (s.Bn (o:=i) 0 _ O ae ae ae ae O O cd O O) fun _=>?_
 refine D.done<|U ?_
 refine R.q (q.cR (i:=i) (cm 0 O) O O cd O aE) O<|U ?_
 refine R.s O (s.vq (o:=i) 0 _ O (cm 1 O) O O cd aE O O) fun _=>U ?_
 rw [show l.take i++u++l.drop i=_ from BF hu ae]
 exact R.x1 (jJ bA (l.length+u.length)) [0,2] []
theorem AR (x:Int)(w:World):Calls Tryz.prog 306 #[iV x] w fun e w'=>e = .returned (.bool false)/\Ext w w':=by
 refine R.eV ?_
 refine R.rt ?_
 rfl
theorem vG (x:Int)(y:Int)(w:World):Calls Tryz.prog 288 #[iV x,iV y] w fun e w'=>e = .returned (iV (rq x y))/\Ext w w':=by
 refine R.eV ?_
 refine R.kc O O (fun w hw=>AR x w)<|U ?_
 refine R.kc O O (fun w hw=>AR y w)<|U ?_
 refine C (x<y) ?_ ?_ <;> intro h1
 .
  refine R.rt ?_
  (unfold rq;rw [if_pos ae])
 refine C (y<x) ?_ ?_ <;> intro h2
 .
  refine R.rt ?_
  (unfold rq;rw [if_neg ae,if_pos ae])
 refine R.rt ?_
 (unfold rq;rw [if_neg ae,if_neg ae])
theorem JA (bA:Value)(l:List Int)(w:World)(fC:Sl w bA l):Calls Tryz.prog 287 #[bA] w fun e w'=>e = .returned (iV (KU l))/\Ext w w':=by
 have uO:=fC.dY
 refine R.eV ?_
 refine R.loop (fun k:Nat=>[(3,iV 0),(6,bA),(7,iV (l.length:Int)),(8,iV (k:Int))]) (fun k:Nat=>[]) (fun k:Nat=>[]) (fun k:Nat=>KU l=KU (l.drop k)) (fun k:Nat=>l.length-k) 0 O eF (sF O) (dE [] [] O) ?_
 rintro k HA
 refine U ?_
 refine C (k<l.length) ?_ ?_ <;> intro h1
 .
  obtain ⟨x1,hx1⟩:=gE l k
  refine U ?_
  refine C (x1=0) ?_ ?_ <;> intro h2
  .refine R.back (k+1) O (by rw [HA];exact KV hx1 ae) ae (sF O) (dE [] [] O)
  refine R.rt ?_
  (rw [HA];exact (NV hx1 ae).symm)
 refine R.rt ?_
 (rw [HA,List.drop_of_length_le ae];rfl)
theorem Cv (a:Place)(b:Place)(w:World):Calls Tryz.prog 252 #[.agg #[iV a.aB,iV a.Slot],.agg #[iV b.aB,iV b.Slot]] w fun e w'=>e = .returned (iV (ru a b))/\Ext w w':=by
 refine R.eV ?_
 refine R.nb fun b1=>?_
 refine R.nb fun b2=>?_
 refine R.dC (fuel:=13) [0,1] O O mixed O<|D.l [0,1,2,3,5,6,7,8] [0,1] [] O<|U ?_
 refine D.p 4 O [0,1] [] (s.c (q.call Mq O O (fun w hw=>vG a.aB b.aB w)) O) fun _=>?_
 refine D.p 9 O [0,1] [] (s.c (q.call Mq O O (fun w hw=>vG a.Slot b.Slot w)) O) fun _=>?_
 refine D.p 10 O [1,2] [] (s.bs (l:=([rq a.aB b.aB,rq a.Slot b.Slot]:List Int)) lF jQ O O O O O O O) fun b3=>?_
 refine D.p 11 O [1,2] [] (s.c (q.call Sk O O (fun w hw=>JA _ ([rq a.aB b.aB,rq a.Slot b.Slot]) w (hw.row 0 O))) O) fun _=>?_
 refine D.l [12] [1,2] [] O<|U ?_
 refine D.done<|R.rt ?_
 (exact NW a b)
theorem Cw (h:Held)(pl:Place)(w:World):Calls Tryz.prog 251 #[.agg #[iV h.Place.aB,iV h.Place.Slot,iV h.ak],.agg #[iV pl.aB,iV pl.Slot]] w fun e w'=>e = .returned (iV (ru h.Place pl))/\Ext w w':=by
 refine R.eV ?_
 refine R.nb fun b1=>?_
 refine R.nb fun b2=>?_
 refine R.kc O O (fun w hw=>Cv h.Place pl w)<|U ?_
 refine R.rt ?_
 rfl
theorem vY (bA:Value)(l:List Held)(t:Place)(c:Held->Place->Int)(OH:Nat)(Sm:List Value)(Gt:dB OH)(w:World)(fC:Sl w bA l)(Sn:∀W (x1:Held) (x2:Place),Ext w W->Calls Tryz.prog OH ([x1.val,x2.val]++Sm).toArray W fun e w'=>e = .returned (iV (c x1 x2))/\Ext W w')(hl:l.length<=1000000):Calls Tryz.prog 250 #[bA,.agg #[iV t.aB,iV t.Slot],.func (.func OH) #[] Sm.toArray] w fun e w'=>e = .returned (.tuple #[iV (jw (fun x=>c x t) l:Int),.bool (py (fun x=>c x t) l)])/\Ext w w':=by
 have uO:=fC.dY
 refine R.eV ?_
 refine R.nb fun b1=>?_
 refine R.loop (fun g_:Nat×Nat=>[(0,bA),(2,.func (.func OH) #[] Sm.toArray),(4,pV b1),(8,iV (l.length:Int)),(9,iV (g_.1:Int)),(10,iV (g_.2:Int))]) (fun g_=>[ah.box b1 (mN t) 32]) (fun g_=>[]) (fun g_=>g_.1<=g_.2/\g_.2<=l.length/\bsGo (fun x=>c x t) l g_.1 g_.2=jw (fun x=>c x t) l) (fun g_=>g_.2-g_.1) (0,l.length) O (by exact ⟨Nat.zero_le _,Nat.le_refl _,rfl⟩) (sF O) (dE [0] [] O) ?_
 rintro ⟨lo,hi⟩ ⟨Sp,YY,HA⟩
 dsimp only at *
 refine U ?_
 refine C (lo<hi) ?_ ?_ <;> intro h1
 .
  refine R.q (q.mJ (r:=(((lo+hi):Nat):Int)) O (by rw [Tryz.underlying3];rfl) Tryz.underlying183 (Bo ae)) O<|R.q (q.shr (r:=((((lo+hi) / 2):Nat):Int)) O O aD (NR aD)) O<|R.q (q.mJ (r:=((((lo+hi) / 2):Nat):Int)) O (by rw [Tryz.underlying183];rfl) Tryz.underlying3 (wr ae)) O<|U ?_
  obtain ⟨x1,hx1⟩:=gE l ((lo+hi) / 2)
  refine C ((c x1 t)<0) ?_ ?_ <;> intro h2
  .
   refine R.cG O mixed ao<|U ?_
   refine Q.c (q.call Gt O O (fun w hw=>Sn w x1 t hw.ext)) O<|U ?_
   refine R.back ((((lo+hi) / 2)+1),hi) O (by exact ⟨ae,ae,(BG ae hx1 ae).symm.trans HA⟩) aG (sF O) (dE [0] [] O)
  refine R.cG O mixed ao<|U ?_
  refine Q.c (q.call Gt O O (fun w hw=>Sn w x1 t hw.ext)) O<|U ?_
  refine R.back (lo,((lo+hi) / 2)) O (by exact ⟨ae,ae,(BH ae hx1 ae).symm.trans HA⟩) aG (sF O) (dE [0] [] O)
 refine C (lo<l.length) ?_ ?_ <;> intro h3
 .
  obtain ⟨x2,hx2⟩:=gE l lo
  refine C ((c x2 t)=0) ?_ ?_ <;> intro h4
  .
   refine R.cG O mixed ao<|U ?_
   refine Q.cg O (q.call Gt O O (fun w hw=>Sn w x2 t hw.ext)) O<|U ?_
   exact R.Hf O Tryz.results250 O O (rI (by exact congrArg (fun n:Nat=>(n:Int)) ((gh ae).symm.trans HA))) (rB (by (have e:=(gh ae).symm.trans HA;unfold py;rw [<- e];(rw [hx2];exact (decide_eq_true af).symm))))
  refine R.cG O mixed ao<|U ?_
  refine Q.cg O (q.call Gt O O (fun w hw=>Sn w x2 t hw.ext)) O<|U ?_
  exact R.Hf O Tryz.results250 O O (rI (by exact congrArg (fun n:Nat=>(n:Int)) ((gh ae).symm.trans HA))) (rB (by (have e:=(gh ae).symm.trans HA;unfold py;rw [<- e];(rw [hx2];exact (decide_eq_false af).symm))))
 refine R.cG O mixed ao<|U ?_
 exact R.Hf O Tryz.results250 O O (rI (by exact congrArg (fun n:Nat=>(n:Int)) ((gh ae).symm.trans HA))) (rB (by (have e:=(gh ae).symm.trans HA;unfold py;rw [<- e];(rw [List.getElem?_eq_none ae]))))
theorem kI (bA:Value)(l:List Held)(pl:Place)(w:World)(fC:Sl w bA l)(hl:l.length<=1000000):Calls Tryz.prog 208 #[bA,.agg #[iV pl.aB,iV pl.Slot]] w fun e w'=>e = .returned (.tuple #[iV (hZ l pl:Int),.bool (I7 l pl)])/\Ext w w':=by
 have uO:=fC.dY
 refine R.eV ?_
 refine R.nb fun b1=>?_
 refine R.kc O O (fun w hw=>vY _ l pl (fun (h:Held) (pl:Place)=>ru h.Place pl) _ _ Sj w ((fun _=>Wd.old fC) w hw) (fun W h pl hW=>Cw h pl W) ae)<|U ?_
 exact R.Hf O Tryz.results208 O O (rI eF) (rB eF)
theorem jS (p:Place)(w:World):Calls Tryz.prog 141 #[.agg #[iV p.aB,iV p.Slot]] w fun e w'=>e = .returned (bN (aY p))/\Ext w w':=by
 refine R.eV ?_
 refine R.nb fun b1=>?_
 refine C (p.aB<1) ?_ ?_ <;> intro h1
 .
  refine R.rt ?_
  (exact eK ae)
 refine C (4<p.aB) ?_ ?_ <;> intro h2
 .
  refine R.rt ?_
  (exact eK ae)
 refine C (p.Slot<0) ?_ ?_ <;> intro h3
 .
  refine R.rt ?_
  (exact eK ae)
 refine C (5<p.Slot) ?_ ?_ <;> intro h4
 .
  refine R.rt ?_
  (exact eK ae)
 refine R.rt ?_
 (exact rH ae)
theorem m8 (p:Place)(w:World):Calls Tryz.prog 149 #[.agg #[iV p.aB,iV p.Slot]] w fun e w'=>e = .returned (iV (aY p))/\Ext w w':=by
 refine R.eV ?_
 refine R.nb fun b1=>?_
 refine C (p.aB<1) ?_ ?_ <;> intro h1
 .
  refine R.rt ?_
  (exact (eK ae).symm)
 refine C (4<p.aB) ?_ ?_ <;> intro h2
 .
  refine R.rt ?_
  (exact (eK ae).symm)
 refine C (p.Slot<0) ?_ ?_ <;> intro h3
 .
  refine R.rt ?_
  (exact (eK ae).symm)
 refine C (5<p.Slot) ?_ ?_ <;> intro h4
 .
  refine R.rt ?_
  (exact (eK ae).symm)
 refine R.rt ?_
 (exact (rH ae).symm)
theorem m9 (bA:Value)(l:List Held)(p:Place)(w:World)(fC:Sl w bA l)(hl:l.length<=1000000):Calls Tryz.prog 206 #[bA,.agg #[iV p.aB,iV p.Slot]] w fun e w'=>e = .returned (iV (lY l p))/\Ext w w':=by
 have uO:=fC.dY
 refine R.eV ?_
 refine R.nb fun b1=>?_
 have YZ:=wt l p
 rcases uo l p with eW|⟨Gu,lz,eW,ub,Cx⟩
 .
  refine R.kc O O (fun w hw=>cv (congrArg (fun b=>Value.tuple #[iV ((hZ l p:Nat):Int),.bool b]) eW) (kI _ l p w ((fun _=>Wd.old fC) w hw) ae))<|U ?_
  refine R.rt ?_
  (exact (KW eW).symm)
 refine R.kc O O (fun w hw=>cv (congrArg (fun b=>Value.tuple #[iV ((hZ l p:Nat):Int),.bool b]) eW) (kI _ l p w ((fun _=>Wd.old fC) w hw) ae))<|U ?_
 refine R.rt ?_
 (exact (Hq eW lz).symm)
theorem qU (bA:Value)(l:List Held)(p:Place)(id:Int)(w:World)(own:List Nat)(H:HN w own [] [ah.ls bA l])(hl:l.length<=100000):RC Tryz.prog 160 #[bA,.agg #[iV p.aB,iV p.Slot],iV id] H (fun z:Value=>z) (fun z=>[ah.row 124 z (eY l p id)]) (fun _=>[]):=by
 have zy:=H.aZ 0 rfl
 refine R.eN H ?_
 refine R.nb fun b1=>?_
 refine R.s O (s.aJ [0,1] [0] _ _ _ O O O Gn O O (fun w own hw H=>nq bA l w own H ae) O) fun z1=>U ?_
 have YZ:=wt l p
 rcases uo l p with eW|⟨Gu,lz,eW,ub,Cx⟩
 .
  refine R.kc O O (fun w hw=>cv (congrArg (fun b=>Value.tuple #[iV ((hZ l p:Nat):Int),.bool b]) eW) (kI _ l p w (hw.row 0 O) ae))<|U ?_
  refine C (id=0) ?_ ?_ <;> intro h1
  .
   rw [show eY l p id=_ from by (unfold eY;(rewrite [if_neg (by rewrite [eW];simp),if_pos af])) <;> rfl]
   exact R.x1 z1 [0,2] []
  refine R.s O (s.bs (l:=([(⟨p,id⟩:Held)]:List Held)) cd cx O O O O O O O) fun b2=>?_
  refine R.s O (s.aJ [1,0,2,3] [] _ _ _ O O O Sd O O (fun w own hw H=>yF z1 l (hZ l p) (.slice (some ⟨b2,0,none⟩) 1 1) ([(⟨p,id⟩:Held)]) w own H af rfl ae) O) fun z2=>U ?_
  rw [show eY l p id=_ from by (unfold eY;(rewrite [if_neg (by rewrite [eW];simp),if_neg af])) <;> rfl]
  exact R.x1 z2 [0,2] []
 refine R.kc O O (fun w hw=>cv (congrArg (fun b=>Value.tuple #[iV ((hZ l p:Nat):Int),.bool b]) eW) (kI _ l p w (hw.row 0 O) ae))<|U ?_
 refine C (id=0) ?_ ?_ <;> intro h2
 .
  refine R.s O (s.aJ [0,1,2] [] _ _ _ O O O Sc O O (fun w own hw H=>yE z1 l (hZ l p) ((hZ l p)+1) w own H ae) O) fun z3=>U ?_
  rw [show eY l p id=_ from by (unfold eY;(rewrite [if_pos eW,if_pos af])) <;> rfl]
  exact R.x1 z3 [0,2] []
 refine R.s O (s.stP (o:=2) (z:=(⟨Gu.Place,id⟩:Held)) 0 _ O lz O O O O O (by simp [Value.oneCell']) (.inr ⟨dX,rfl⟩) O) fun _=>U ?_
 have hz:eY l p id=(l.set (hZ l p) (⟨Gu.Place,id⟩:Held)):=by (unfold eY;(rw [if_pos eW,if_neg af,ub];done))
 rw [hz]
 exact R.x1 z1 [0,2] []
theorem Mv (bA:Value)(l:List Held)(h:Int)(w:World)(fC:Sl w bA l)(hl:l.length<=1000000):Calls Tryz.prog 169 #[bA,iV h] w fun e w'=>e = .returned (iV (fj l h))/\Ext w w':=by
 have uO:=fC.dY
 refine R.eV ?_
 refine R.loop (fun i:Nat=>[(0,bA),(1,iV h),(6,iV (i:Int))]) (fun i:Nat=>[]) (fun i:Nat=>[]) (fun i:Nat=>i<=6/\j9 l h (6-i) i=fj l h) (fun i:Nat=>6-i) 0 O (by exact ⟨ae,rfl⟩) (sF O) (dE [] [] O) ?_
 rintro i ⟨hs,HA⟩
 refine U ?_
 refine C (i<6) ?_ ?_ <;> intro h1
 .
  refine R.kc O O (fun w hw=>m9 _ l (⟨h,(i:Int)⟩:Place) w ((fun _=>Wd.old fC) w hw) ae)<|C (lY l (⟨h,(i:Int)⟩:Place)=0) ?_ ?_ <;> intro h2
  .
   refine R.rt ?_
   (rw [<- HA];exact (FW af ae).symm)
  refine R.back (i+1) O (by exact ⟨ae,(DC af ae).symm.trans HA⟩) ae (sF O) (dE [] [] O)
 refine R.rt ?_
 (rw [<- HA];have:i=6:=ae;subst this;rfl)
theorem AU (bA:Value)(l:List Held)(p:Place)(w:World)(fC:Sl w bA l):Calls Tryz.prog 150 #[bA,.agg #[iV p.aB,iV p.Slot]] w fun e w'=>e = .returned (iV (kP l p))/\Ext w w':=by
 have uO:=fC.dY
 refine R.eV ?_
 refine R.nb fun b1=>?_
 refine R.loop (fun k:Nat=>[(0,bA),(3,pV b1),(5,iV (k:Int))]) (fun k:Nat=>[ah.box b1 (mN p) 32]) (fun k:Nat=>[]) (fun k:Nat=>k<=l.length /\ ∀ (j:Nat) y,j<k->l[j]? = some y->¬ y.Place=p) (fun k:Nat=>l.length-k) 0 O (by exact ⟨ae,fun j x hj=>absurd hj (Nat.not_lt_zero _)⟩) (sF O) (dE [0] [] O) ?_
 rintro k ⟨hk,HA⟩
 refine U ?_
 refine C (k<l.length) ?_ ?_ <;> intro h1
 .
  obtain ⟨x1,hx1⟩:=gE l k
  refine C (x1.Place=p) ?_ ?_ <;> intro h2
  .
   refine R.cG O mixed ao<|U ?_
   refine Q.q (q.TS (x:=x1.Place) (y:=p) iO O O h2) O<|U ?_
   refine R.rt ?_
   (exact (I8 hx1 af HA).symm)
  refine R.cG O mixed ao<|U ?_
  refine Q.q (q.TT (x:=x1.Place) (y:=p) iO O O h2) O<|U ?_
  refine R.back (k+1) O (by exact ⟨ae,fun j x hj hx=>if e:j=k then by subst e;rw [hx1] at hx;injection hx with hx;subst hx;assumption else HA j x ae hx⟩) ae (sF O) (dE [0] [] O)
 refine R.rt ?_
 (exact (FX (fun j y hj=>HA j y ae)).symm)
theorem EK (bA:Value)(l:List Held)(h:Int)(w:World)(fC:Sl w bA l):Calls Tryz.prog 95 #[bA,iV h] w fun e w'=>e = .returned (iV (BJ l h))/\Ext w w':=by
 have uO:=fC.dY
 refine R.eV ?_
 refine R.loop (fun i:Nat=>[(0,bA),(1,iV h),(5,iV (i:Int))]) (fun i:Nat=>[]) (fun i:Nat=>[]) (fun i:Nat=>i<=6/\kC l h (6-i) i=BJ l h) (fun i:Nat=>6-i) 0 O (by exact ⟨ae,rfl⟩) (sF O) (dE [] [] O) ?_
 rintro i ⟨hs,HA⟩
 refine U ?_
 refine C (i<6) ?_ ?_ <;> intro h1
 .
  refine R.kc O O (fun w hw=>AU _ l (⟨h,(i:Int)⟩:Place) w ((fun _=>Wd.old fC) w hw))<|C (kP l (⟨h,(i:Int)⟩:Place)=0) ?_ ?_ <;> intro h2
  .
   refine R.rt ?_
   (rw [<- HA];exact (DG af ae).symm)
  refine R.back (i+1) O (by exact ⟨ae,(BK af ae).symm.trans HA⟩) ae (sF O) (dE [] [] O)
 refine R.rt ?_
 (rw [<- HA];have:i=6:=ae;subst this;rfl)
theorem Gv (bA:Value)(l:List Held)(p:Place)(id:Int)(w:World)(own:List Nat)(H:HN w own [] [ah.ls bA l])(hl:l.length<=100000):RC Tryz.prog 88 #[bA,.agg #[iV p.aB,iV p.Slot],iV id] H (fun z:Value=>z) (fun z=>[ah.row 124 z (lv l p id)]) (fun _=>[]):=by
 have zy:=H.aZ 0 rfl
 refine R.eN H ?_
 refine R.nb fun b1=>?_
 refine C (id=0) ?_ ?_ <;> intro h1
 .
  refine R.row0 (α:=Held) 124<|R.loop (fun g_:Nat×Bool×Value×(List Held)=>[(0,bA),(2,iV id),(4,pV b1),(7,g_.2.2.1),(8,.bool g_.2.1),(9,iV (g_.1:Int))]) (fun g_=>[ah.row 124 g_.2.2.1 g_.2.2.2,ah.box b1 (mN p) 32,ah.held w own]) (fun g_=>[ah.ls bA l]) (fun g_=>g_.1<=l.length/\(g_.2.2.2,g_.2.1)=mP (l.take g_.1) p id) (fun g_=>l.length-g_.1) (0,true,nS,[]) O (by exact ⟨ae,by simp [mP, *]⟩) (sF O) (dE [0,1,2] [0] O) ?_
  rintro ⟨k,laid,v,acc⟩ ⟨hk,HA⟩
  dsimp only at *
  have hal:acc.length<=2*k:=by have:=Ad (l.take k) p id;rw [<- HA] at this;simp at this;omega
  refine U ?_
  refine C (k<l.length) ?_ ?_ <;> intro h2
  .
   obtain ⟨x1,hx1⟩:=gE l k
   refine U ?_
   refine R.nb fun b2=>?_
   refine R.q (q.not O) O<|U ?_
   cases laid
   .
    refine U ?_
    refine C (p.aB<x1.Place.aB) ?_ ?_ <;> intro h3
    .
     refine R.s O (s.bs (l:=([(⟨p,id⟩:Held)]:List Held)) cd cx O O O O O O O) fun b3=>?_
     refine R.ap fun v1=>?_
     refine C (x1.Place=p) ?_ ?_ <;> intro h4
     .
      refine R.q (q.j3 (x:=x1.Place) (y:=p) iO O O h4) O<|U ?_
      refine R.back (k+1,true,v1,(acc++([(⟨p,id⟩:Held)]))) O (by exact ⟨ae,by rw [cU l p id k _ hx1,<- HA];(rw [fS ae];(rw [if_pos af];done))⟩) aG (sF O) (ck [2,3,4] [0] O)
     refine R.q (q.j4 (x:=x1.Place) (y:=p) iO O O h4) O<|U ?_
     refine R.s O (s.bs (l:=([x1]:List Held)) cd cx O O O O O O O) fun b4=>?_
     refine R.ap fun v2=>?_
     refine R.back (k+1,true,v2,((acc++([(⟨p,id⟩:Held)]))++([x1]))) O (by exact ⟨ae,by rw [cU l p id k _ hx1,<- HA];(rw [fS ae];(rw [if_neg af];done))⟩) aG (sF O) (ck [3,4,5] [0] O)
    refine C (p.aB=x1.Place.aB) ?_ ?_ <;> intro h5
    .
     refine C (x1.Place.Slot<p.Slot) ?_ ?_ <;> intro h6
     .
      refine C (x1.Place=p) ?_ ?_ <;> intro h7
      .
       refine R.q (q.j3 (x:=x1.Place) (y:=p) iO O O h7) O<|U ?_
       refine R.back (k+1,false,v,acc) O (by exact ⟨ae,by rw [cU l p id k _ hx1,<- HA];(rw [du (by exact .inr ae)];(rw [if_pos af];done))⟩) aG (sF O) (ck [1,2,3] [0] O)
      refine R.q (q.j4 (x:=x1.Place) (y:=p) iO O O h7) O<|U ?_
      refine R.s O (s.bs (l:=([x1]:List Held)) cd cx O O O O O O O) fun b5=>?_
      refine R.ap fun v3=>?_
      refine R.back (k+1,false,v3,(acc++([x1]))) O (by exact ⟨ae,by rw [cU l p id k _ hx1,<- HA];(rw [du (by exact .inr ae)];(rw [if_neg af];done))⟩) aG (sF O) (ck [2,3,4] [0] O)
     refine R.s O (s.bs (l:=([(⟨p,id⟩:Held)]:List Held)) cd cx O O O O O O O) fun b6=>?_
     refine R.ap fun v4=>?_
     refine C (x1.Place=p) ?_ ?_ <;> intro h8
     .
      refine R.q (q.j3 (x:=x1.Place) (y:=p) iO O O h8) O<|U ?_
      refine R.back (k+1,true,v4,(acc++([(⟨p,id⟩:Held)]))) O (by exact ⟨ae,by rw [cU l p id k _ hx1,<- HA];(rw [fS ae];(rw [if_pos af];done))⟩) aG (sF O) (ck [2,3,4] [0] O)
     refine R.q (q.j4 (x:=x1.Place) (y:=p) iO O O h8) O<|U ?_
     refine R.s O (s.bs (l:=([x1]:List Held)) cd cx O O O O O O O) fun b7=>?_
     refine R.ap fun v5=>?_
     refine R.back (k+1,true,v5,((acc++([(⟨p,id⟩:Held)]))++([x1]))) O (by exact ⟨ae,by rw [cU l p id k _ hx1,<- HA];(rw [fS ae];(rw [if_neg af];done))⟩) aG (sF O) (ck [3,4,5] [0] O)
    refine C (x1.Place=p) ?_ ?_ <;> intro h9
    .
     refine R.q (q.j3 (x:=x1.Place) (y:=p) iO O O h9) O<|U ?_
     refine R.back (k+1,false,v,acc) O (by exact ⟨ae,by rw [cU l p id k _ hx1,<- HA];(rw [du (by exact .inr ae)];(rw [if_pos af];done))⟩) aG (sF O) (ck [1,2,3] [0] O)
    refine R.q (q.j4 (x:=x1.Place) (y:=p) iO O O h9) O<|U ?_
    refine R.s O (s.bs (l:=([x1]:List Held)) cd cx O O O O O O O) fun b8=>?_
    refine R.ap fun v6=>?_
    refine R.back (k+1,false,v6,(acc++([x1]))) O (by exact ⟨ae,by rw [cU l p id k _ hx1,<- HA];(rw [du (by exact .inr ae)];(rw [if_neg af];done))⟩) aG (sF O) (ck [2,3,4] [0] O)
   refine U ?_
   refine C (x1.Place=p) ?_ ?_ <;> intro h10
   .
    refine R.q (q.j3 (x:=x1.Place) (y:=p) iO O O h10) O<|U ?_
    refine R.back (k+1,true,v,acc) O (by exact ⟨ae,by rw [cU l p id k _ hx1,<- HA];(rw [du (by exact .inl O)];(rw [if_pos af];done))⟩) aG (sF O) (ck [1,2,3] [0] O)
   refine R.q (q.j4 (x:=x1.Place) (y:=p) iO O O h10) O<|U ?_
   refine R.s O (s.bs (l:=([x1]:List Held)) cd cx O O O O O O O) fun b9=>?_
   refine R.ap fun v7=>?_
   refine R.back (k+1,true,v7,(acc++([x1]))) O (by exact ⟨ae,by rw [cU l p id k _ hx1,<- HA];(rw [du (by exact .inl O)];(rw [if_neg af];done))⟩) aG (sF O) (ck [2,3,4] [0] O)
  refine R.q (q.not O) O<|U ?_
  cases laid
  .
   refine U ?_
   refine R.s O (s.bs (l:=([(⟨p,id⟩:Held)]:List Held)) cd cx O O O O O O O) fun b10=>?_
   refine R.ap fun v8=>?_
   have hz:lv l p id=(acc++([(⟨p,id⟩:Held)])):=by (unfold lv;rw [List.take_of_length_le ae] at HA;rw [<- HA];dsimp only;exact if_neg Bool.false_ne_true)
   rw [hz]
   exact R.x1 v8 [1,3] []
  refine U ?_
  have hz:lv l p id=acc:=by (unfold lv;rw [List.take_of_length_le ae] at HA;rw [<- HA];dsimp only;exact if_pos rfl)
  rw [hz]
  exact R.x1 v [0,2] []
 refine R.row0 (α:=Held) 124<|R.loop (fun g_:Nat×Bool×Value×(List Held)=>[(0,bA),(2,iV id),(4,pV b1),(7,g_.2.2.1),(8,.bool g_.2.1),(9,iV (g_.1:Int))]) (fun g_=>[ah.row 124 g_.2.2.1 g_.2.2.2,ah.box b1 (mN p) 32,ah.held w own]) (fun g_=>[ah.ls bA l]) (fun g_=>g_.1<=l.length/\(g_.2.2.2,g_.2.1)=mP (l.take g_.1) p id) (fun g_=>l.length-g_.1) (0,false,nS,[]) O (by exact ⟨ae,by simp [mP, *]⟩) (sF O) (dE [0,1,2] [0] O) ?_
 rintro ⟨k,laid,v,acc⟩ ⟨hk,HA⟩
 dsimp only at *
 have hal:acc.length<=2*k:=by have:=Ad (l.take k) p id;rw [<- HA] at this;simp at this;omega
 refine U ?_
 refine C (k<l.length) ?_ ?_ <;> intro h11
 .
  obtain ⟨x2,hx2⟩:=gE l k
  refine U ?_
  refine R.nb fun b11=>?_
  refine R.q (q.not O) O<|U ?_
  cases laid
  .
   refine U ?_
   refine C (p.aB<x2.Place.aB) ?_ ?_ <;> intro h12
   .
    refine R.s O (s.bs (l:=([(⟨p,id⟩:Held)]:List Held)) cd cx O O O O O O O) fun b12=>?_
    refine R.ap fun v9=>?_
    refine C (x2.Place=p) ?_ ?_ <;> intro Tr
    .
     refine R.q (q.j3 (x:=x2.Place) (y:=p) iO O O Tr) O<|U ?_
     refine R.back (k+1,true,v9,(acc++([(⟨p,id⟩:Held)]))) O (by exact ⟨ae,by rw [cU l p id k _ hx2,<- HA];(rw [fS ae];(rw [if_pos af];done))⟩) aG (sF O) (ck [2,3,4] [0] O)
    refine R.q (q.j4 (x:=x2.Place) (y:=p) iO O O Tr) O<|U ?_
    refine R.s O (s.bs (l:=([x2]:List Held)) cd cx O O O O O O O) fun b13=>?_
    refine R.ap fun v10=>?_
    refine R.back (k+1,true,v10,((acc++([(⟨p,id⟩:Held)]))++([x2]))) O (by exact ⟨ae,by rw [cU l p id k _ hx2,<- HA];(rw [fS ae];(rw [if_neg af];done))⟩) aG (sF O) (ck [3,4,5] [0] O)
   refine C (p.aB=x2.Place.aB) ?_ ?_ <;> intro Wb
   .
    refine C (x2.Place.Slot<p.Slot) ?_ ?_ <;> intro W4
    .
     refine C (x2.Place=p) ?_ ?_ <;> intro h16
     .
      refine R.q (q.j3 (x:=x2.Place) (y:=p) iO O O h16) O<|U ?_
      refine R.back (k+1,false,v,acc) O (by exact ⟨ae,by rw [cU l p id k _ hx2,<- HA];(rw [du (by exact .inr ae)];(rw [if_pos af];done))⟩) aG (sF O) (ck [1,2,3] [0] O)
     refine R.q (q.j4 (x:=x2.Place) (y:=p) iO O O h16) O<|U ?_
     refine R.s O (s.bs (l:=([x2]:List Held)) cd cx O O O O O O O) fun b14=>?_
     refine R.ap fun v11=>?_
     refine R.back (k+1,false,v11,(acc++([x2]))) O (by exact ⟨ae,by rw [cU l p id k _ hx2,<- HA];(rw [du (by exact .inr ae)];(rw [if_neg af];done))⟩) aG (sF O) (ck [2,3,4] [0] O)
    refine R.s O (s.bs (l:=([(⟨p,id⟩:Held)]:List Held)) cd cx O O O O O O O) fun b15=>?_
    refine R.ap fun v12=>?_
    refine C (x2.Place=p) ?_ ?_ <;> intro Vh
    .
     refine R.q (q.j3 (x:=x2.Place) (y:=p) iO O O Vh) O<|U ?_
     refine R.back (k+1,true,v12,(acc++([(⟨p,id⟩:Held)]))) O (by exact ⟨ae,by rw [cU l p id k _ hx2,<- HA];(rw [fS ae];(rw [if_pos af];done))⟩) aG (sF O) (ck [2,3,4] [0] O)
    refine R.q (q.j4 (x:=x2.Place) (y:=p) iO O O Vh) O<|U ?_
    refine R.s O (s.bs (l:=([x2]:List Held)) cd cx O O O O O O O) fun b16=>?_
    refine R.ap fun v13=>?_
    refine R.back (k+1,true,v13,((acc++([(⟨p,id⟩:Held)]))++([x2]))) O (by exact ⟨ae,by rw [cU l p id k _ hx2,<- HA];(rw [fS ae];(rw [if_neg af];done))⟩) aG (sF O) (ck [3,4,5] [0] O)
   refine C (x2.Place=p) ?_ ?_ <;> intro h18
   .
    refine R.q (q.j3 (x:=x2.Place) (y:=p) iO O O h18) O<|U ?_
    refine R.back (k+1,false,v,acc) O (by exact ⟨ae,by rw [cU l p id k _ hx2,<- HA];(rw [du (by exact .inr ae)];(rw [if_pos af];done))⟩) aG (sF O) (ck [1,2,3] [0] O)
   refine R.q (q.j4 (x:=x2.Place) (y:=p) iO O O h18) O<|U ?_
   refine R.s O (s.bs (l:=([x2]:List Held)) cd cx O O O O O O O) fun b17=>?_
   refine R.ap fun v14=>?_
   refine R.back (k+1,false,v14,(acc++([x2]))) O (by exact ⟨ae,by rw [cU l p id k _ hx2,<- HA];(rw [du (by exact .inr ae)];(rw [if_neg af];done))⟩) aG (sF O) (ck [2,3,4] [0] O)
  refine U ?_
  refine C (x2.Place=p) ?_ ?_ <;> intro h19
  .
   refine R.q (q.j3 (x:=x2.Place) (y:=p) iO O O h19) O<|U ?_
   refine R.back (k+1,true,v,acc) O (by exact ⟨ae,by rw [cU l p id k _ hx2,<- HA];(rw [du (by exact .inl O)];(rw [if_pos af];done))⟩) aG (sF O) (ck [1,2,3] [0] O)
  refine R.q (q.j4 (x:=x2.Place) (y:=p) iO O O h19) O<|U ?_
  refine R.s O (s.bs (l:=([x2]:List Held)) cd cx O O O O O O O) fun b18=>?_
  refine R.ap fun v15=>?_
  refine R.back (k+1,true,v15,(acc++([x2]))) O (by exact ⟨ae,by rw [cU l p id k _ hx2,<- HA];(rw [du (by exact .inl O)];(rw [if_neg af];done))⟩) aG (sF O) (ck [2,3,4] [0] O)
 refine R.q (q.not O) O<|U ?_
 cases laid
 .
  refine U ?_
  refine R.s O (s.bs (l:=([(⟨p,id⟩:Held)]:List Held)) cd cx O O O O O O O) fun b19=>?_
  refine R.ap fun v16=>?_
  have hz:lv l p id=(acc++([(⟨p,id⟩:Held)])):=by (unfold lv;rw [List.take_of_length_le ae] at HA;rw [<- HA];dsimp only;exact if_neg Bool.false_ne_true)
  rw [hz]
  exact R.x1 v16 [1,3] []
 refine U ?_
 have hz:lv l p id=acc:=by (unfold lv;rw [List.take_of_length_le ae] at HA;rw [<- HA];dsimp only;exact if_pos rfl)
 rw [hz]
 exact R.x1 v [0,2] []
end
section
open Go Go.RowKit
attribute [local irreducible] Run Rg Rq Qt Qa Stp Dg Do Dm bN
theorem pC (bA:Value)(l:List Change)(w:World)(own:List Nat)(H:HN w own [] [ah.ls bA l])(hl:l.length<=1000000):RC Tryz.prog 83 #[bA] H (fun z:Value=>z) (fun z=>[ah.row 115 z l]) (fun _=>[]):=by
 have zy:=H.aZ 0 rfl
 refine R.eN H ?_
 rcases Bool.eq_false_or_eq_true (pS bA) with h1|h1
 .
  refine R.q (q.IX (congrArg Value.bool h1) (q.px (zw 0 O) O O Tryz.underlying34)) O<|U ?_
  refine R.row0 (α:=Change) 115 ?_
  rw [show l=_ from Sl.pS (H.cq 0 rfl) af]
  exact R.x1 nS [0,1] []
 refine R.q (q.IX (congrArg Value.bool h1) (q.px (zw 0 O) O O Tryz.underlying34)) O<|U ?_
 refine R.s O (s.bs (l:=([]:List Change)) bX bR O O O O O O O) fun b1=>U ?_
 refine R.ap fun v1=>?_
 have hz:l=(([])++l):=by (rfl)
 rw [hz]
 exact R.x1 v1 [0,1] []
theorem uP (bA:Value)(l:List Change)(i:Nat)(j:Nat)(w:World)(own:List Nat)(H:HN w own [ah.row 115 bA l] [])(hij:i<=j/\j<=l.length):RC Tryz.prog 138 #[bA,iV (i:Int),iV (j:Int)] H (fun z:Value=>z) (fun z=>[ah.row 115 z (l.take i++l.drop j)]) (fun _=>[]):=by
 have Jz:=H.cap 0 rfl;have zy:=H.cz 0 rfl
 refine R.eN H ?_
 refine R.q (q.FK (i:=i) (j:=j) (q':=l.length) (cm 0 O) O O O O bX O O O ae ae ae) O<|U ?_
 refine C (i=j) ?_ ?_ <;> intro h1
 .
  rw [show l.take i++l.drop j=_ from xk ae]
  exact R.x1 bA [0,1] []
 refine R.dC (fuel:=8) [1] O O mixed O<|D.l [0,1,3,4] [1] [] O<|U ?_
 refine D.two (i:=2) (j:=5) O O ?_ ?_
 .
  refine Do.k [1] [] (q.jJ (i:=i) (cm 0 O) O O Tryz.underlying34 Cl O ae) ?_
  refine D.k 5 O [1] [] (q.cR (i:=j) (cm 0 O) O O bX O ae) ?_
  refine D.p 6 O [1] [] (s.uj (a:=i) 0 _ O O O (fun w hw=>Sl.from (hw.row 0 O) ae) je ae aE O O) fun _=>?_
  refine D.l [7] [1] [] O<|U ?_
  refine D.done<|U ?_
  refine R.q (q.sl2 (i:=(l.take i++(l.drop j)).length) (j:=l.length) (cm 0 O) O O O bX O O aE (by simp [gF];omega)) O<|R.s O (s.Ab (lo:=(l.take i++(l.drop j)).length) (hi:=l.length) (z0:=(⟨⟨#[]⟩,⟨#[]⟩,false⟩:Change)) 0 O O bX bR O ae aE (by simp [gF];omega)) fun _=>U ?_
  have hz:l.take i++l.drop j=(l.take i++(l.drop j)):=by (rfl)
  rw [hz]
  exact R.x1 (jJ bA (i+(l.drop j).length)) [0,1] []
 refine Do.k [1] [] (q.cR (i:=j) (cm 0 O) O O bX O ae) ?_
 refine D.k 2 O [1] [] (q.jJ (i:=i) (cm 0 O) O O Tryz.underlying34 Cl O ae) ?_
 refine D.p 6 O [1] [] (s.uj (a:=i) 0 _ O O O (fun w hw=>Sl.from (hw.row 0 O) ae) je ae aE O O) fun _=>?_
 refine D.l [7] [1] [] O<|U ?_
 refine D.done<|U ?_
 refine R.q (q.sl2 (i:=(l.take i++(l.drop j)).length) (j:=l.length) (cm 0 O) O O O bX O O aE (by simp [gF];omega)) O<|R.s O (s.Ab (lo:=(l.take i++(l.drop j)).length) (hi:=l.length) (z0:=(⟨⟨#[]⟩,⟨#[]⟩,false⟩:Change)) 0 O O bX bR O ae aE (by simp [gF];omega)) fun _=>U ?_
 have hz:l.take i++l.drop j=(l.take i++(l.drop j)):=by (rfl)
 rw [hz]
 exact R.x1 (jJ bA (i+(l.drop j).length)) [0,1] []
theorem uQ (bA:Value)(l:List Change)(i:Nat)(Vg:Value)(u:List Change)(w:World)(own:List Nat)(H:HN w own [ah.row 115 bA l,ah.row 115 Vg u] [])(hi:i<=l.length)(hu:u.length=1)(hl:l.length<=1000000):RC Tryz.prog 139 #[bA,iV (i:Int),Vg] H (fun z:Value=>z) (fun z=>[ah.row 115 z (l.take i++u++l.drop i)]) (fun _=>[]):=by
 have Jz:=H.cap 0 rfl;have zy:=H.cz 0 rfl
 have YW:=H.cap 1 rfl;have YX:=H.cz 1 rfl
 refine R.eN H ?_
 refine R.q (q.cR (i:=i) (cm 0 O) O O bX O ae) O<|U ?_
 refine C (i=l.length) ?_ ?_ <;> intro h1
 .
  refine R.ap fun v1=>?_
  rw [show l.take i++u++l.drop i=_ from Ho ae]
  exact R.x1 v1 [0,2] []
 refine R.q (q.cap (cm 0 O) O Tryz.underlying34) O<|C ((lX bA)<(l.length+u.length)) ?_ ?_ <;> intro h2
 .
  refine R.q (q.jJ (i:=i) (cm 0 O) O O Tryz.underlying34 Cl O ae) O<|U ?_
  refine R.q (q.jY (r:=(((l.length+u.length)-i:Nat):Int)) O O) O<|R.s O (s.Hj (o:=i) (m:=((l.length+u.length)-i)) (z0:=(⟨⟨#[]⟩,⟨#[]⟩,false⟩:Change)) 0 O O O O je Tryz.underlying3 bR O ae ae ae ae ae O) fun v2=>U ?_
  refine R.q (q.cR (i:=i) (cm 0 O) O O bX O aE) O<|U ?_
  refine R.s O (s.vq (o:=i) 0 _ O (cm 2 O) O O bX aE O O) fun _=>U ?_
  refine R.dC (fuel:=9) [1,2,3] O O mixed O<|D.l [0,1,2,3,5,6,7] [1,2,3] [] O<|U ?_
  refine Dm.yy O O (q.cR (i:=i) (cm 0 O) O O bX O ae) O<|U ?_
  refine D.k 4 O [1,2,3] [] (q.cR (i:=(i+u.length)) (cm 0 O) O O bX O aE) ?_
  refine D.p 8 O [1,2,3] [] (s.vq (o:=(i+u.length)) 0 _ O (fun w hw=>Sl.from (hw.row 1 O) ae) O O bX aE O O) fun _=>?_
  refine D.done<|U ?_
  rw [show l.take i++u++l.drop i=_ from Dx hu ae rfl]
  exact R.x1 v2 [0,3] []
 refine R.q (q.T1 (i:=(l.length+u.length)) (cm 0 O) O O bX O ae) O<|U ?_
 refine R.q (q.nn (i:=(i+u.length)) (cm 0 O) O O bX O ae ae) O<|R.q (q.XV (i:=1) (j:=0) (tR:=4) Tryz.func195 O O ao ao bX O O aD ae ae O O O O) O<|U ?_
 refine R.dC (fuel:=9) [1,2] O O mixed O<|D.l [0,1,2,3,5,6] [1,2] [] O<|U ?_
 refine D.two (i:=4) (j:=7) O O ?_ ?_
 .
  refine Do.k [1,2] [] (q.nn (i:=(i+u.length)) (cm 0 O) O O bX O ae ae) ?_
  refine D.k 7 O [1,2] [] (q.nn (i:=i) (cm 0 O) O O bX O ae ae) ?_
  refine D.p 8 O [1,2] [] (s.Bn (o:=i) 0 _ O ae ae ae ae O O bX O O) fun _=>?_
  refine D.done<|U ?_
  refine R.q (q.cR (i:=i) (cm 0 O) O O bX O aE) O<|U ?_
  refine R.s O (s.vq (o:=i) 0 _ O (cm 1 O) O O bX aE O O) fun _=>U ?_
  rw [show l.take i++u++l.drop i=_ from BF hu ae]
  exact R.x1 (jJ bA (l.length+u.length)) [0,2] []
 refine Do.k [1,2] [] (q.nn (i:=i) (cm 0 O) O O bX O ae ae) ?_
 refine D.k 4 O [1,2] [] (q.nn (i:=(i+u.length)) (cm 0 O) O O bX O ae ae) ?_
 refine D.p 8 O [1,2] [] (s.Bn (o:=i) 0 _ O ae ae ae ae O O bX O O) fun _=>?_
 refine D.done<|U ?_
 refine R.q (q.cR (i:=i) (cm 0 O) O O bX O aE) O<|U ?_
 refine R.s O (s.vq (o:=i) 0 _ O (cm 1 O) O O bX aE O O) fun _=>U ?_
 rw [show l.take i++u++l.drop i=_ from BF hu ae]
 exact R.x1 (jJ bA (l.length+u.length)) [0,2] []
theorem qn (a b:ByteArray)(w:World):Calls Tryz.prog 137 #[.string a,.string b] w fun e w'=>e = .returned (.int .i64 (BU a b))/\Ext w w' :=
 (Tryz.strings_Compare a b w).mono fun e w' ⟨h1,h2⟩=>⟨by rw [h1,<- oH,<- oH,HQ],by rw [h2];exact Ext.refl _⟩
theorem Cy (x:Change)(k:ByteArray)(w:World):Calls Tryz.prog 136 #[.agg #[.string x.Key,.string x.Val,.bool x.Gone],.string k] w fun e w'=>e = .returned (iV (fK k x))/\Ext w w':=by
 refine R.eV ?_
 refine R.nb fun b1=>?_
 refine R.kc O O (fun w hw=>qn x.Key k w)<|U ?_
 refine R.rt ?_
 rfl
theorem fO (bA:Value)(l:List Change)(t:ByteArray)(c:Change->ByteArray->Int)(OH:Nat)(Sm:List Value)(Gt:dB OH)(w:World)(fC:Sl w bA l)(Sn:∀W (x1:Change) (x2:ByteArray),Ext w W->Calls Tryz.prog OH ([x1.val,.string x2]++Sm).toArray W fun e w'=>e = .returned (iV (c x1 x2))/\Ext W w')(hl:l.length<=1000000):Calls Tryz.prog 135 #[bA,.string t,.func (.func OH) #[] Sm.toArray] w fun e w'=>e = .returned (.tuple #[iV (jw (fun x=>c x t) l:Int),.bool (py (fun x=>c x t) l)])/\Ext w w':=by
 have uO:=fC.dY
 refine R.eV ?_
 refine R.loop (fun g_:Nat×Nat=>[(0,bA),(1,.string t),(2,.func (.func OH) #[] Sm.toArray),(8,iV (l.length:Int)),(9,iV (g_.1:Int)),(10,iV (g_.2:Int))]) (fun g_=>[]) (fun g_=>[]) (fun g_=>g_.1<=g_.2/\g_.2<=l.length/\bsGo (fun x=>c x t) l g_.1 g_.2=jw (fun x=>c x t) l) (fun g_=>g_.2-g_.1) (0,l.length) O (by exact ⟨Nat.zero_le _,Nat.le_refl _,rfl⟩) (sF O) (dE [] [] O) ?_
 rintro ⟨lo,hi⟩ ⟨Sp,YY,HA⟩
 dsimp only at *
 refine U ?_
 refine C (lo<hi) ?_ ?_ <;> intro h1
 .
  refine R.q (q.mJ (r:=(((lo+hi):Nat):Int)) O (by rw [Tryz.underlying3];rfl) Tryz.underlying183 (Bo ae)) O<|R.q (q.shr (r:=((((lo+hi) / 2):Nat):Int)) O O aD (NR aD)) O<|R.q (q.mJ (r:=((((lo+hi) / 2):Nat):Int)) O (by rw [Tryz.underlying183];rfl) Tryz.underlying3 (wr ae)) O<|U ?_
  obtain ⟨x1,hx1⟩:=gE l ((lo+hi) / 2)
  refine U ?_
  refine R.c (q.call Gt O O (fun w hw=>Sn w x1 t hw.ext)) O ?_
  refine C ((c x1 t)<0) ?_ ?_ <;> intro h2
  .refine R.back ((((lo+hi) / 2)+1),hi) O (by exact ⟨ae,ae,(BG ae hx1 ae).symm.trans HA⟩) aG (sF O) (dE [] [] O)
  refine R.back (lo,((lo+hi) / 2)) O (by exact ⟨ae,ae,(BH ae hx1 ae).symm.trans HA⟩) aG (sF O) (dE [] [] O)
 refine C (lo<l.length) ?_ ?_ <;> intro h3
 .
  obtain ⟨x2,hx2⟩:=gE l lo
  refine U ?_
  refine R.cg O (q.call Gt O O (fun w hw=>Sn w x2 t hw.ext)) O<|C ((c x2 t)=0) ?_ ?_ <;> intro h4
  .exact R.Hf O Tryz.results135 O O (rI (by exact congrArg (fun n:Nat=>(n:Int)) ((gh ae).symm.trans HA))) (rB (by (have e:=(gh ae).symm.trans HA;unfold py;rw [<- e];(rw [hx2];exact (decide_eq_true af).symm))))
  exact R.Hf O Tryz.results135 O O (rI (by exact congrArg (fun n:Nat=>(n:Int)) ((gh ae).symm.trans HA))) (rB (by (have e:=(gh ae).symm.trans HA;unfold py;rw [<- e];(rw [hx2];exact (decide_eq_false af).symm))))
 exact R.Hf O Tryz.results135 O O (rI (by exact congrArg (fun n:Nat=>(n:Int)) ((gh ae).symm.trans HA))) (rB (by (have e:=(gh ae).symm.trans HA;unfold py;rw [<- e];(rw [List.getElem?_eq_none ae]))))
theorem iG (c:Change)(w:World):Calls Tryz.prog 120 #[.agg #[.string c.Key,.string c.Val,.bool c.Gone]] w fun e w'=>e = .returned (bN (gu c))/\Ext w w':=by
 refine R.eV ?_
 refine R.nb fun b1=>?_
 refine C (c.Key=⟨#[]⟩) ?_ ?_ <;> intro h1
 .
  refine R.q (q.iQ O O h1) O<|U ?_
  refine R.rt ?_
  (unfold gu;(rw [if_pos (by exact .inl af)]))
 refine R.q (q.iR O O h1) O<|U ?_
 rcases Bool.eq_false_or_eq_true c.Gone with h2|h2
 .
  rw [h2]
  refine U ?_
  refine C (c.Val=⟨#[]⟩) ?_ ?_ <;> intro h3
  .
   refine R.qg O (q.pw O O h3) O<|U ?_
   refine C (8<c.Key.size) ?_ ?_ <;> intro h4
   .
    refine R.rt ?_
    (unfold gu;(rw [if_neg (by rintro (hh|⟨hh,hk⟩) <;> contradiction),if_pos ae]))
   refine C (24<c.Val.size) ?_ ?_ <;> intro h5
   .
    refine R.rt ?_
    (unfold gu;(rw [if_neg (by rintro (hh|⟨hh,hk⟩) <;> contradiction),if_pos ae]))
   refine R.rt ?_
   (unfold gu;(rw [if_neg (by rintro (hh|⟨hh,hk⟩) <;> contradiction),if_neg ae]))
  refine R.qg O (q.rG O O h3) O<|U ?_
  refine R.rt ?_
  (unfold gu;(rw [if_pos (by exact .inr ⟨af,af⟩)]))
 rw [h2]
 refine U ?_
 refine C (8<c.Key.size) ?_ ?_ <;> intro h6
 .
  refine R.rt ?_
  (unfold gu;(rw [if_neg (by rintro (hh|⟨hh,hk⟩) <;> first|contradiction|(simp_all;done)),if_pos ae]))
 refine C (24<c.Val.size) ?_ ?_ <;> intro h7
 .
  refine R.rt ?_
  (unfold gu;(rw [if_neg (by rintro (hh|⟨hh,hk⟩) <;> first|contradiction|(simp_all;done)),if_pos ae]))
 refine R.rt ?_
 (unfold gu;(rw [if_neg (by rintro (hh|⟨hh,hk⟩) <;> first|contradiction|(simp_all;done)),if_neg ae]))
theorem vZ (c:Change)(w:World):Calls Tryz.prog 65 #[.agg #[.string c.Key,.string c.Val,.bool c.Gone]] w fun e w'=>e = .returned (iV (gu c))/\Ext w w':=by
 refine R.eV ?_
 refine R.nb fun b1=>?_
 refine C (c.Key=⟨#[]⟩) ?_ ?_ <;> intro h1
 .
  refine R.q (q.iQ O O h1) O<|U ?_
  refine R.rt ?_
  (unfold gu;(rw [if_pos (by exact .inl af)]))
 refine R.q (q.iR O O h1) O<|U ?_
 rcases Bool.eq_false_or_eq_true c.Gone with h2|h2
 .
  rw [h2]
  refine U ?_
  refine C (c.Val=⟨#[]⟩) ?_ ?_ <;> intro h3
  .
   refine R.qg O (q.pw O O h3) O<|U ?_
   refine C (8<c.Key.size) ?_ ?_ <;> intro h4
   .
    refine R.rt ?_
    (unfold gu;(rw [if_neg (by rintro (hh|⟨hh,hk⟩) <;> contradiction),if_pos ae]))
   refine C (24<c.Val.size) ?_ ?_ <;> intro h5
   .
    refine R.rt ?_
    (unfold gu;(rw [if_neg (by rintro (hh|⟨hh,hk⟩) <;> contradiction),if_pos ae]))
   refine R.rt ?_
   (unfold gu;(rw [if_neg (by rintro (hh|⟨hh,hk⟩) <;> contradiction),if_neg ae]))
  refine R.qg O (q.rG O O h3) O<|U ?_
  refine R.rt ?_
  (unfold gu;(rw [if_pos (by exact .inr ⟨af,af⟩)]))
 rw [h2]
 refine U ?_
 refine C (8<c.Key.size) ?_ ?_ <;> intro h6
 .
  refine R.rt ?_
  (unfold gu;(rw [if_neg (by rintro (hh|⟨hh,hk⟩) <;> first|contradiction|(simp_all;done)),if_pos ae]))
 refine C (24<c.Val.size) ?_ ?_ <;> intro h7
 .
  refine R.rt ?_
  (unfold gu;(rw [if_neg (by rintro (hh|⟨hh,hk⟩) <;> first|contradiction|(simp_all;done)),if_pos ae]))
 refine R.rt ?_
 (unfold gu;(rw [if_neg (by rintro (hh|⟨hh,hk⟩) <;> first|contradiction|(simp_all;done)),if_neg ae]))
theorem Cz (c:Change)(w:World):Calls Tryz.prog 229 #[.agg #[.string c.Key,.string c.Val,.bool c.Gone]] w fun e w'=>e = .returned (.tuple #[.string (jZ c).1,bN (jZ c).2])/\Ext w w':=by
 have f0:=i7 c
 refine R.eV ?_
 refine R.nb fun b1=>?_
 refine R.kc O O (fun w hw=>iG c w)<|U ?_
 refine C (gu c=0) ?_ ?_ <;> intro h1
 .
  obtain ⟨z1,z2,z3,z4⟩:=gv h1
  refine U ?_
  refine R.cond O O (fun h2=>?_) (fun h2=>?_)
  .
   refine U ?_
   refine R.q (q.mJ (r:=((c.Key.size:Nat):Int)) O (by rw [Tryz.underlying3];rfl) Tryz.underlying5 (sZ ae)) O<|R.s O (s.bs (l:=([(1:UInt8),UInt8.ofNat c.Key.size]:List UInt8)) aM dH O O O O O (bO O (bO (dy ae) eM)) O) fun b2=>?_
   refine R.q (q.jg (cm 0 O) O aM Tryz.underlying5 Tryz.underlying9) O<|U ?_
   refine R.q (q.cat O O (by simp only [ByteArray.size_append,da,List.length_cons,List.length_nil];omega)) O<|U ?_
   refine R.q (q.cat O O (by simp only [ByteArray.size_append,da,List.length_cons,List.length_nil];omega)) O<|U ?_
   exact R.Hf O Tryz.results229 O O (rS (by unfold jZ;(rw [if_pos ae,show c.Gone=true from by assumption];rfl))) (uh (by unfold jZ;(rw [if_pos ae];done)))
  refine U ?_
  refine R.q (q.mJ (r:=((c.Key.size:Nat):Int)) O (by rw [Tryz.underlying3];rfl) Tryz.underlying5 (sZ ae)) O<|R.s O (s.bs (l:=([(0:UInt8),UInt8.ofNat c.Key.size]:List UInt8)) aM dH O O O O O (bO O (bO (dy ae) eM)) O) fun b3=>?_
  refine R.q (q.jg (cm 0 O) O aM Tryz.underlying5 Tryz.underlying9) O<|U ?_
  refine R.q (q.cat O O (by simp only [ByteArray.size_append,da,List.length_cons,List.length_nil];omega)) O<|U ?_
  refine R.q (q.cat O O (by simp only [ByteArray.size_append,da,List.length_cons,List.length_nil];omega)) O<|U ?_
  exact R.Hf O Tryz.results229 O O (rS (by unfold jZ;(rw [if_pos ae,show c.Gone=false from by assumption];rfl))) (uh (by unfold jZ;(rw [if_pos ae];done)))
 exact R.Hf O Tryz.results229 O O (rS (by unfold jZ;(rw [if_neg ae];done))) (rE (by unfold jZ;(rw [if_neg ae];done)))
theorem EL {s:ByteArray}(h:s.size<2):sh s=(c0,4):=by unfold sh;rw [if_pos (.inl h)]
theorem EM {s:ByteArray}{y:UInt8}(hy:s.data[0]? = some y)(h:1<y.toNat):sh s=(c0,4):=by unfold sh;rw [if_pos (.inr (.inl (by rw [aH hy];exact h)))]
theorem EN {s:ByteArray}{y:UInt8}(hy:s.data[1]? = some y)(h:s.size<2+y.toNat):sh s=(c0,4):=by unfold sh;rw [if_pos (.inr (.inr (by rw [aH hy];exact h)))]
theorem qp {s:ByteArray}{y z:UInt8}{b:Bool}(hy:s.data[0]? = some y)(hz:s.data[1]? = some z)(h1:¬ s.size<2)(h2:¬ 1<y.toNat)(h3:¬ s.size<2+z.toNat)(hb:b=decide (y.toNat=1)) :
 sh s=if gu ⟨s.extract 2 (2+z.toNat),s.extract (2+z.toNat) s.size,b⟩=0 then (⟨s.extract 2 (2+z.toNat),s.extract (2+z.toNat) s.size,b⟩,0) else (c0,4):=by
 have e1:=aH hy;have e2:=aH hz
 unfold sh;rw [if_neg (by rw [e1,e2];omega)];unfold Lm;rw [e1,e2,hb]
theorem CB (sb:ByteArray)(w:World)(hs:sb.size<=1000000):Calls Tryz.prog 133 #[.string sb] w fun e w'=>e = .returned (.tuple #[Change.val (sh sb).1,bN (sh sb).2])/\Ext w w':=by
 refine R.eV ?_
 refine R.nb fun b1=>?_
 refine C (sb.size<2) ?_ ?_ <;> intro h1
 .exact R.rT O Tryz.results133 (RV.cell 0 O O iz) (RV.tmp O) (congrArg Change.val (show (⟨⟨#[]⟩,⟨#[]⟩,false⟩:Change)=(sh sb).1 from by (rw [EL ae];rfl))) (pD aD (by rw [EL ae];done))
 obtain ⟨y1,hy1⟩:∃z,sb.data[0]? = some z:=⟨_,Array.getElem?_eq_getElem (show 0<sb.size from by omega)⟩
 have Vi:=y1.toNat_lt
 refine R.qg O (q.gW (i:=0) O O Tryz.underlying9 O hy1) O<|C (1<y1.toNat) ?_ ?_ <;> intro h2
 .exact R.rT O Tryz.results133 (RV.cell 0 O O iz) (RV.tmp O) (congrArg Change.val (show (⟨⟨#[]⟩,⟨#[]⟩,false⟩:Change)=(sh sb).1 from by (rw [EM hy1 ae];rfl))) (pD aD (by rw [EM hy1 ae];done))
 obtain ⟨y2,hy2⟩:∃z,sb.data[1]? = some z:=⟨_,Array.getElem?_eq_getElem (show 1<sb.size from by omega)⟩
 have Vj:=y2.toNat_lt
 refine R.qg O (q.gW (i:=1) O O Tryz.underlying9 O hy2) O<|R.qg O (q.mJ (r:=((y2.toNat:Nat):Int)) O (by rw [Tryz.underlying5];rfl) Tryz.underlying3 (wr ae)) O<|U ?_
 refine C (sb.size<(2+y2.toNat)) ?_ ?_ <;> intro h3
 .exact R.rT O Tryz.results133 (RV.cell 0 O O iz) (RV.tmp O) (congrArg Change.val (show (⟨⟨#[]⟩,⟨#[]⟩,false⟩:Change)=(sh sb).1 from by (rw [EN hy2 ae];rfl))) (pD aD (by rw [EN hy2 ae];done))
 refine R.q (q.gW (i:=1) O O Tryz.underlying9 O hy2) O<|R.q (q.mJ (r:=((y2.toNat:Nat):Int)) O (by rw [Tryz.underlying5];rfl) Tryz.underlying3 (wr ae)) O<|U ?_
 refine C (y1.toNat=1) ?_ ?_ <;> intro h4
 .
  refine R.dC (fuel:=12) [0] O O mixed O<|D.l j1 [0] [] O<|U ?_
  refine Dm.yy O O (q.Dq (i:=2) (j:=(2+y2.toNat)) O O O Tryz.underlying9 O O ae ae) O<|U ?_
  refine Dm.yy O O (q.Dr (i:=(2+y2.toNat)) O O Tryz.underlying9 O ae) O<|U ?_
  refine Dm.yy O O (q.gW (i:=0) O O Tryz.underlying9 O hy1) O<|U ?_
  refine D.p 10 O [1] [] (s.alloc bR O O) fun b2=>?_
  refine D.p 11 O [1] [] (s.st 0 _ O O O O (.inl iz) O O O O) fun _=>?_
  refine D.done<|U ?_
  refine R.kc O O (fun w hw=>iG (⟨sb.extract 2 (2+y2.toNat),sb.extract (2+y2.toNat) sb.size,true⟩:Change) w)<|C (gu (⟨sb.extract 2 (2+y2.toNat),sb.extract (2+y2.toNat) sb.size,true⟩:Change)=0) ?_ ?_ <;> intro h5
  .exact R.rT O Tryz.results133 (RV.cell 1 O O iz) (RV.tmp O) (congrArg Change.val (show (⟨sb.extract 2 (2+y2.toNat),sb.extract (2+y2.toNat) sb.size,true⟩:Change)=(sh sb).1 from by (have f1:=i7 (⟨sb.extract 2 (2+y2.toNat),sb.extract (2+y2.toNat) sb.size,true⟩:Change);rw [qp (b:=true) hy1 hy2 ae ae ae (decide_eq_true ae).symm,if_pos ae];done))) (uh (by (have f1:=i7 (⟨sb.extract 2 (2+y2.toNat),sb.extract (2+y2.toNat) sb.size,true⟩:Change);rw [qp (b:=true) hy1 hy2 ae ae ae (decide_eq_true ae).symm,if_pos ae];done)))
  exact R.rT O Tryz.results133 (RV.cell 1 O O iz) (RV.tmp O) (congrArg Change.val (show (⟨⟨#[]⟩,⟨#[]⟩,false⟩:Change)=(sh sb).1 from by (have f1:=i7 (⟨sb.extract 2 (2+y2.toNat),sb.extract (2+y2.toNat) sb.size,true⟩:Change);rw [qp (b:=true) hy1 hy2 ae ae ae (decide_eq_true ae).symm,if_neg ae];rfl))) (pD aD (by (have f1:=i7 (⟨sb.extract 2 (2+y2.toNat),sb.extract (2+y2.toNat) sb.size,true⟩:Change);rw [qp (b:=true) hy1 hy2 ae ae ae (decide_eq_true ae).symm,if_neg ae];done)))
 refine R.dC (fuel:=12) [0] O O mixed O<|D.l j1 [0] [] O<|U ?_
 refine Dm.yy O O (q.Dq (i:=2) (j:=(2+y2.toNat)) O O O Tryz.underlying9 O O ae ae) O<|U ?_
 refine Dm.yy O O (q.Dr (i:=(2+y2.toNat)) O O Tryz.underlying9 O ae) O<|U ?_
 refine Dm.yy O O (q.gW (i:=0) O O Tryz.underlying9 O hy1) O<|U ?_
 refine D.p 10 O [1] [] (s.alloc bR O O) fun b3=>?_
 refine D.p 11 O [1] [] (s.st 0 _ O O O O (.inl iz) O O O O) fun _=>?_
 refine D.done<|U ?_
 refine R.kc O O (fun w hw=>iG (⟨sb.extract 2 (2+y2.toNat),sb.extract (2+y2.toNat) sb.size,false⟩:Change) w)<|C (gu (⟨sb.extract 2 (2+y2.toNat),sb.extract (2+y2.toNat) sb.size,false⟩:Change)=0) ?_ ?_ <;> intro h6
 .exact R.rT O Tryz.results133 (RV.cell 1 O O iz) (RV.tmp O) (congrArg Change.val (show (⟨sb.extract 2 (2+y2.toNat),sb.extract (2+y2.toNat) sb.size,false⟩:Change)=(sh sb).1 from by (have f1:=i7 (⟨sb.extract 2 (2+y2.toNat),sb.extract (2+y2.toNat) sb.size,false⟩:Change);rw [qp (b:=false) hy1 hy2 ae ae ae (decide_eq_false ae).symm,if_pos ae];done))) (uh (by (have f1:=i7 (⟨sb.extract 2 (2+y2.toNat),sb.extract (2+y2.toNat) sb.size,false⟩:Change);rw [qp (b:=false) hy1 hy2 ae ae ae (decide_eq_false ae).symm,if_pos ae];done)))
 exact R.rT O Tryz.results133 (RV.cell 1 O O iz) (RV.tmp O) (congrArg Change.val (show (⟨⟨#[]⟩,⟨#[]⟩,false⟩:Change)=(sh sb).1 from by (have f1:=i7 (⟨sb.extract 2 (2+y2.toNat),sb.extract (2+y2.toNat) sb.size,false⟩:Change);rw [qp (b:=false) hy1 hy2 ae ae ae (decide_eq_false ae).symm,if_neg ae];rfl))) (pD aD (by (have f1:=i7 (⟨sb.extract 2 (2+y2.toNat),sb.extract (2+y2.toNat) sb.size,false⟩:Change);rw [qp (b:=false) hy1 hy2 ae ae ae (decide_eq_false ae).symm,if_neg ae];done)))
theorem yG {α:Type}{f:α->Int}{l:List α}(h:py f l=true):jw f l<l.length:=by
 obtain ⟨x,hx,_⟩:=Dy h
 exact (List.getElem?_eq_some_iff.1 hx).1
theorem oU (oV:Value)(rows:List Change)(bA:Value)(l:List Change)(w:World)(own:List Nat)(H:HN w own [] [ah.ls oV rows,ah.ls bA l])(hl:rows.length+l.length<=100000):RC Tryz.prog 80 #[oV,bA] H (fun z:Value=>z) (fun z=>[ah.row 115 z (bI rows l)]) (fun _=>[]):=by
 have Sq:=H.aZ 0 rfl
 have zy:=H.aZ 1 rfl
 refine R.eN H ?_
 refine R.s O (s.aJ [0] [0] _ _ _ O O O Qz O O (fun w own hw H=>pC oV rows w own H ae) O) fun z1=>U ?_
 refine R.loop (fun g_:Nat×Value×(List Change)=>[(0,g_.2.1),(11,bA),(12,iV (l.length:Int)),(13,iV (g_.1:Int))]) (fun g_=>[ah.row 115 g_.2.1 g_.2.2,ah.held w own]) (fun g_=>[ah.ls oV rows,ah.ls bA l]) (fun g_=>g_.1<=l.length/\g_.2.2=bI rows (l.take g_.1)) (fun g_=>l.length-g_.1) (0,z1,rows) O (by exact ⟨ae,rfl⟩) (sF O) (dE [0,1] [0,1] O) ?_
 rintro ⟨k,u,rs⟩ ⟨hk,HR⟩
 dsimp only at *
 have hrl:=ko (l.take k) rows;rw [<- HR,List.length_take] at hrl
 refine U ?_
 refine C (k<l.length) ?_ ?_ <;> intro h1
 .
  obtain ⟨x1,hx1⟩:=gE l k
  refine U ?_
  refine R.nb fun b1=>?_
  refine R.kc O O (fun w hw=>fO _ rs x1.Key (fun (x:Change) (k:ByteArray)=>fK k x) _ _ RU w (hw.row 1 O) (fun W x k hW=>Cy x k W) ae)<|U ?_
  rcases Bool.eq_false_or_eq_true (py (fun x=>(fun (x:Change) (k:ByteArray)=>fK k x) x x1.Key) rs) with h2|h2
  .
   rw [h2]
   refine U ?_
   refine R.cond O O (fun h3=>?_) (fun h3=>?_)
   .
    have hb0:jw (fun x=>(fun (x:Change) (k:ByteArray)=>fK k x) x x1.Key) rs<=rs.length:=pU;have hb1:jw (fun x=>fK x1.Key x) rs<=rs.length:=pU;have X2:jw (fun x=>fK x1.Key x) rs=jw (fun x=>(fun (x:Change) (k:ByteArray)=>fK k x) x x1.Key) rs:=rfl
    have Y0:jw (fun x=>(fun (x:Change) (k:ByteArray)=>fK k x) x x1.Key) rs<rs.length:=yG af;have Y1:jw (fun x=>fK x1.Key x) rs<rs.length:=yG af
    refine U ?_
    refine R.s O (s.aJ [1,0,2] [] _ _ _ O O O RX O O (fun w own hw H=>by have Sp:=uP u rs (jw (fun x=>(fun (x:Change) (k:ByteArray)=>fK k x) x x1.Key) rs) (jw (fun x=>(fun (x:Change) (k:ByteArray)=>fK k x) x x1.Key) rs+1) w own H ae;exact Sp) O) fun z2=>U ?_
    refine R.back (k+1,z2,rs.take (jw (fun x=>(fun (x:Change) (k:ByteArray)=>fK k x) x x1.Key) rs)++rs.drop (jw (fun x=>(fun (x:Change) (k:ByteArray)=>fK k x) x x1.Key) rs+1)) O (by exact ⟨ae,by rw [oJ hx1,<- HR];unfold zx;(rw [if_pos (show py (fK x1.Key) rs=true from by assumption),if_pos af];done)⟩) aG (sF O) (ck [0,2] [0,1] O)
   refine U ?_
   have hb0:jw (fun x=>(fun (x:Change) (k:ByteArray)=>fK k x) x x1.Key) rs<=rs.length:=pU;have hb1:jw (fun x=>fK x1.Key x) rs<=rs.length:=pU;have X2:jw (fun x=>fK x1.Key x) rs=jw (fun x=>(fun (x:Change) (k:ByteArray)=>fK k x) x x1.Key) rs:=rfl
   have Y0:jw (fun x=>(fun (x:Change) (k:ByteArray)=>fK k x) x x1.Key) rs<rs.length:=yG af;have Y1:jw (fun x=>fK x1.Key x) rs<rs.length:=yG af
   refine U ?_
   obtain ⟨x2,hx2⟩:=gE rs (jw (fun x=>(fun (x:Change) (k:ByteArray)=>fK k x) x x1.Key) rs)
   refine U ?_
   refine R.s O (s.Tg (z:=x1) 1 _ O hx2 O O O O (.inl iz) O) fun _=>U ?_
   refine R.back (k+1,u,(rs.set (jw (fun x=>(fun (x:Change) (k:ByteArray)=>fK k x) x x1.Key) rs) x1)) O (by exact ⟨ae,by rw [oJ hx1,<- HR];unfold zx;(rw [if_pos (show py (fK x1.Key) rs=true from by assumption),if_neg (by rw [show x1.Gone=false from by assumption];decide)];done)⟩) aG (sF O) (ck [1,2] [0,1] O)
  rw [h2]
  refine U ?_
  refine R.q (q.not O) O<|U ?_
  refine R.cond O O (fun h4=>?_) (fun h4=>?_)
  .
   have hb0:jw (fun x=>(fun (x:Change) (k:ByteArray)=>fK k x) x x1.Key) rs<=rs.length:=pU;have hb1:jw (fun x=>fK x1.Key x) rs<=rs.length:=pU;have X2:jw (fun x=>fK x1.Key x) rs=jw (fun x=>(fun (x:Change) (k:ByteArray)=>fK k x) x x1.Key) rs:=rfl
   refine U ?_
   refine R.s O (s.bs (l:=([x1]:List Change)) bX bR O O O O O O O) fun b2=>?_
   refine R.s O (s.aJ [2,0,1,3] [] _ _ _ O O O RY O O (fun w own hw H=>by have Sp:=uQ u rs (jw (fun x=>(fun (x:Change) (k:ByteArray)=>fK k x) x x1.Key) rs) (.slice (some ⟨b2,0,none⟩) 1 1) ([x1]) w own H af rfl ae;exact Sp) O) fun z3=>U ?_
   refine R.back (k+1,z3,rs.take (jw (fun x=>(fun (x:Change) (k:ByteArray)=>fK k x) x x1.Key) rs)++([x1])++rs.drop (jw (fun x=>(fun (x:Change) (k:ByteArray)=>fK k x) x x1.Key) rs)) O (by exact ⟨ae,by rw [oJ hx1,<- HR];unfold zx;(rw [if_neg (by rw [show py (fK x1.Key) rs=false from by assumption];decide),if_neg (by rw [show x1.Gone=false from by (simpa using ‹(!x1.Gone)=true›)];decide)];done)⟩) aG (sF O) (ck [0,2] [0,1] O)
  refine U ?_
  refine R.back (k+1,u,rs) O (by exact ⟨ae,by rw [oJ hx1,<- HR];unfold zx;(rw [if_neg (by rw [show py (fK x1.Key) rs=false from by assumption];decide),if_pos (by simpa using ‹(!x1.Gone)=false›)];done)⟩) aG (sF O) (ck [1,2] [0,1] O)
 have hz:bI rows l=rs:=by (rw [HR,List.take_of_length_le ae])
 rw [hz]
 exact R.x1 u [0,1] []
theorem EO (oV:Value)(rows:List Change)(bA:Value)(l:List Change)(w:World)(own:List Nat)(H:HN w own [] [ah.ls oV rows,ah.ls bA l])(hl:rows.length+l.length<=100000):RC Tryz.prog 66 #[oV,bA] H (fun z:Value=>z) (fun z=>[ah.row 115 z (dw rows l)]) (fun _=>[]):=by
 have Sq:=H.aZ 0 rfl
 have zy:=H.aZ 1 rfl
 refine R.eN H ?_
 refine R.s O (s.app0 O O (zw 0 O) je ae ae O) fun v1=>U ?_
 refine R.loop (fun g_:Nat×Value×(List Change)=>[(1,bA),(5,g_.2.1),(6,iV (g_.1:Int))]) (fun g_=>[ah.row 115 g_.2.1 g_.2.2,ah.held w own]) (fun g_=>[ah.ls oV rows,ah.ls bA l]) (fun g_=>g_.1<=l.length/\g_.2.2=dw rows (l.take g_.1)) (fun g_=>l.length-g_.1) (0,v1,rows) O (by exact ⟨ae,eF⟩) (sF O) (dE [0,1] [0,1] O) ?_
 rintro ⟨k,u,rs⟩ ⟨hk,HR⟩
 dsimp only at *
 have hrl:=oK (l.take k) rows;rw [<- HR,List.length_take] at hrl
 refine U ?_
 refine C (k<l.length) ?_ ?_ <;> intro h1
 .
  obtain ⟨x1,hx1⟩:=gE l k
  refine U ?_
  refine R.row0 (α:=Change) 115<|R.loop (fun g_:Nat×Bool×Value×(List Change)=>[(1,bA),(5,u),(6,iV (k:Int)),(7,g_.2.2.1),(8,.bool g_.2.1),(9,iV (g_.1:Int))]) (fun g_=>[ah.row 115 g_.2.2.1 g_.2.2.2,ah.row 115 u rs,ah.held w own]) (fun g_=>[ah.ls oV rows,ah.ls bA l]) (fun g_=>g_.1<=rs.length/\(g_.2.2.2,g_.2.1)=zE (rs.take g_.1) x1) (fun g_=>rs.length-g_.1) (0,x1.Gone,nS,[]) O (by exact ⟨ae,rfl⟩) (sF O) (dE [0,1,2] [0,1] O) ?_
  rintro ⟨m,b,u2,os⟩ ⟨hm,HO⟩
  dsimp only at *
  have hol:=xP x1 (rs.take m) ([],x1.Gone);rw [show (rs.take m).foldl (dW x1) ([],x1.Gone)=(os,b) from HO.symm,List.length_take] at hol;have Y2:os.length<=m+1:=(by have q1:(if b=true then 0 else 1)+os.length=os.length+(if b=true then 0 else 1):=Nat.add_comm _ _;dsimp only at hol;have q2:(if x1.Gone=true then 0 else 1)<=1:=(by split <;> omega);simp only [List.length_nil] at hol;omega)
  refine U ?_
  refine C (m<rs.length) ?_ ?_ <;> intro h2
  .
   cases b
   .
    obtain ⟨x2,hx2⟩:=gE rs m
    rcases Bool.eq_false_or_eq_true (fR x1.Key x2.Key||decide (x1.Key=x2.Key)) with h3|h3
    .
     refine R.cG O mixed ao<|U ?_
     refine Q.qg O (q.IY O O h3) O<|U ?_
     refine R.s O (s.bs (l:=([x1]:List Change)) bX bR O O O O O O O) fun b1=>?_
     refine R.ap fun v2=>?_
     refine C (x2.Key=x1.Key) ?_ ?_ <;> intro h4
     .
      refine R.cG O mixed ao<|U ?_
      refine Q.q (q.pw O O h4) O<|U ?_
      refine R.back ((m+1),true,v2,(os++([x1]))) O (by (exact ⟨ae,by rw [lP hx2,<- HO];unfold dW;dsimp only;(repeat' split) <;> first|rfl|(exfalso;simp_all;done)|(simp_all;done)⟩)) aG (sF O) (ck [1,2,3] [0,1] O)
     refine R.cG O mixed ao<|U ?_
     refine Q.q (q.rG O O h4) O<|U ?_
     refine R.s O (s.bs (l:=([x2]:List Change)) bX bR O O O O O O O) fun b2=>?_
     refine R.ap fun v3=>?_
     refine R.back ((m+1),true,v3,((os++([x1]))++([x2]))) O (by (exact ⟨ae,by rw [lP hx2,<- HO];unfold dW;dsimp only;(repeat' split) <;> first|rfl|(exfalso;simp_all;done)|(simp_all;done)⟩)) aG (sF O) (ck [2,3,4] [0,1] O)
    refine R.cG O mixed ao<|U ?_
    refine Q.qg O (q.IY O O h3) O<|U ?_
    refine C (x2.Key=x1.Key) ?_ ?_ <;> intro h5
    .
     refine R.cG O mixed ao<|U ?_
     refine Q.q (q.pw O O h5) O<|U ?_
     refine R.back ((m+1),false,u2,os) O (by (exact ⟨ae,by rw [lP hx2,<- HO];unfold dW;dsimp only;(repeat' split) <;> first|rfl|(exfalso;simp_all;done)|(simp_all;done)⟩)) aG (sF O) (ck [0,1,2] [0,1] O)
    refine R.cG O mixed ao<|U ?_
    refine Q.q (q.rG O O h5) O<|U ?_
    refine R.s O (s.bs (l:=([x2]:List Change)) bX bR O O O O O O O) fun b3=>?_
    refine R.ap fun v4=>?_
    refine R.back ((m+1),false,v4,(os++([x2]))) O (by (exact ⟨ae,by rw [lP hx2,<- HO];unfold dW;dsimp only;(repeat' split) <;> first|rfl|(exfalso;simp_all;done)|(simp_all;done)⟩)) aG (sF O) (ck [1,2,3] [0,1] O)
   refine R.cG O mixed ao<|U ?_
   obtain ⟨x3,hx3⟩:=gE rs m
   refine C (x3.Key=x1.Key) ?_ ?_ <;> intro h6
   .
    refine R.cG O mixed ao<|U ?_
    refine Q.q (q.pw O O h6) O<|U ?_
    refine R.back ((m+1),true,u2,os) O (by (exact ⟨ae,by rw [lP hx3,<- HO];unfold dW;dsimp only;(repeat' split) <;> first|rfl|(exfalso;simp_all;done)|(simp_all;done)⟩)) aG (sF O) (ck [0,1,2] [0,1] O)
   refine R.cG O mixed ao<|U ?_
   refine Q.q (q.rG O O h6) O<|U ?_
   refine R.s O (s.bs (l:=([x3]:List Change)) bX bR O O O O O O O) fun b4=>?_
   refine R.ap fun v5=>?_
   refine R.back ((m+1),true,v5,(os++([x3]))) O (by (exact ⟨ae,by rw [lP hx3,<- HO];unfold dW;dsimp only;(repeat' split) <;> first|rfl|(exfalso;simp_all;done)|(simp_all;done)⟩)) aG (sF O) (ck [1,2,3] [0,1] O)
  refine R.q (q.not O) O<|U ?_
  cases b
  .
   refine U ?_
   refine R.s O (s.bs (l:=([x1]:List Change)) bX bR O O O O O O O) fun b5=>?_
   refine R.ap fun v6=>?_
   refine R.back (k+1,v6,(os++([x1]))) O (by exact ⟨ae,by rw [List.take_of_length_le ae] at HO;rw [tA hx1,<- HR];unfold HY;rw [<- HO];rfl⟩) aG (sF O) (ck [1,3] [0,1] O)
  refine U ?_
  refine R.back (k+1,u2,os) O (by exact ⟨ae,by rw [List.take_of_length_le ae] at HO;rw [tA hx1,<- HR];unfold HY;rw [<- HO];rfl⟩) aG (sF O) (ck [0,2] [0,1] O)
 have hz:dw rows l=rs:=by (rw [HR,List.take_of_length_le ae])
 rw [hz]
 exact R.x1 u [0,1] []
end
end Go.Proofs.YtnmpibjlnninjaaGreatDoor
