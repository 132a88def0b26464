import Derived.Test.YtnmpibjlnninjaaGreatDoorKT21
namespace Go.Proofs.YtnmpibjlnninjaaGreatDoor
set_option linter.unusedVariables false
set_option linter.unusedSimpArgs false
set_option maxRecDepth 100000
set_option maxHeartbeats 90000000
section
open Go Go.RowKit
attribute [local irreducible] Run Rg Rq Qt Qa Stp Dg Do Dm bN
theorem iZ (bA:Value)(l:List ak)(w:World)(own:List Nat)(H:HN w own [] [ah.ls bA l])(hl:l.length<=1000000):RC Tryz.prog 105 #[bA] H (fun z:Value=>z) (fun z=>[ah.row 126 z l]) (fun _=>[]):=by
 have zy:=H.aZ 0 rfl
 refine R.eN H ?_
 rcases Bool.eq_false_or_eq_true (pS bA) with h1|h1
 .
  refine R.q (q.IX (congrArg Value.bool h1) (q.px (zw 0 O) O O Tryz.underlying43)) O<|U ?_
  refine R.row0 (α:=ak) 126 ?_
  rw [show l=_ from Sl.pS (H.cq 0 rfl) af]
  exact R.x1 nS [0,1] []
 refine R.q (q.IX (congrArg Value.bool h1) (q.px (zw 0 O) O O Tryz.underlying43)) O<|U ?_
 refine R.s O (s.bs (l:=([]:List ak)) fF dK O O O O O O O) fun b1=>U ?_
 refine R.ap fun v1=>?_
 have hz:l=(([])++l):=by (rfl)
 rw [hz]
 exact R.x1 v1 [0,1] []
theorem iC (bA:Value)(l:List av)(w:World)(own:List Nat)(H:HN w own [] [ah.ls bA l])(hl:l.length<=1000000):RC Tryz.prog 106 #[bA] H (fun z:Value=>z) (fun z=>[ah.row 103 z l]) (fun _=>[]):=by
 have zy:=H.aZ 0 rfl
 refine R.eN H ?_
 rcases Bool.eq_false_or_eq_true (pS bA) with h1|h1
 .
  refine R.q (q.IX (congrArg Value.bool h1) (q.px (zw 0 O) O O Tryz.underlying44)) O<|U ?_
  refine R.row0 (α:=av) 103 ?_
  rw [show l=_ from Sl.pS (H.cq 0 rfl) af]
  exact R.x1 nS [0,1] []
 refine R.q (q.IX (congrArg Value.bool h1) (q.px (zw 0 O) O O Tryz.underlying44)) O<|U ?_
 refine R.s O (s.bs (l:=([]:List av)) kv gT O O O O O O O) fun b1=>U ?_
 refine R.ap fun v1=>?_
 have hz:l=(([])++l):=by (rfl)
 rw [hz]
 exact R.x1 v1 [0,1] []
theorem eJ (bA:Value)(l:List Note)(w:World)(own:List Nat)(H:HN w own [] [ah.ls bA l])(hl:l.length<=1000000):RC Tryz.prog 108 #[bA] H (fun z:Value=>z) (fun z=>[ah.row 91 z l]) (fun _=>[]):=by
 have zy:=H.aZ 0 rfl
 refine R.eN H ?_
 rcases Bool.eq_false_or_eq_true (pS bA) with h1|h1
 .
  refine R.q (q.IX (congrArg Value.bool h1) (q.px (zw 0 O) O O Tryz.underlying46)) O<|U ?_
  refine R.row0 (α:=Note) 91 ?_
  rw [show l=_ from Sl.pS (H.cq 0 rfl) af]
  exact R.x1 nS [0,1] []
 refine R.q (q.IX (congrArg Value.bool h1) (q.px (zw 0 O) O O Tryz.underlying46)) O<|U ?_
 refine R.s O (s.bs (l:=([]:List Note)) eO fy O O O O O O O) fun b1=>U ?_
 refine R.ap fun v1=>?_
 have hz:l=(([])++l):=by (rfl)
 rw [hz]
 exact R.x1 v1 [0,1] []
theorem qw (bA:Value)(l:List Note)(i:Nat)(j:Nat)(w:World)(own:List Nat)(H:HN w own [ah.row 91 bA l] [])(hij:i<=j/\j<=l.length):RC Tryz.prog 170 #[bA,iV (i:Int),iV (j:Int)] H (fun z:Value=>z) (fun z=>[ah.row 91 z (l.take i++l.drop j)]) (fun _=>[]):=by
 have Jz:=H.cap 0 rfl;have zy:=H.cz 0 rfl
 refine R.eN H ?_
 refine R.q (q.FK (i:=i) (j:=j) (q':=l.length) (cm 0 O) O O O O eO O O O ae ae ae) O<|U ?_
 refine C (i=j) ?_ ?_ <;> intro h1
 .
  rw [show l.take i++l.drop j=_ from xk ae]
  exact R.x1 bA [0,1] []
 refine R.dC (fuel:=8) [1] O O mixed O<|D.l [0,1,3,4] [1] [] O<|U ?_
 refine D.two (i:=2) (j:=5) O O ?_ ?_
 .
  refine Do.k [1] [] (q.jJ (i:=i) (cm 0 O) O O Tryz.underlying46 qT O ae) ?_
  refine D.k 5 O [1] [] (q.cR (i:=j) (cm 0 O) O O eO O ae) ?_
  refine D.p 6 O [1] [] (s.uj (a:=i) 0 _ O O O (fun w hw=>Sl.from (hw.row 0 O) ae) dO ae aE O O) fun _=>?_
  refine D.l [7] [1] [] O<|U ?_
  refine D.done<|U ?_
  refine R.q (q.sl2 (i:=(l.take i++(l.drop j)).length) (j:=l.length) (cm 0 O) O O O eO O O aE (by simp [gF];omega)) O<|R.s O (s.Ab (lo:=(l.take i++(l.drop j)).length) (hi:=l.length) (z0:=(⟨0,⟨#[]⟩,0,0⟩:Note)) 0 O O eO fy O ae aE (by simp [gF];omega)) fun _=>U ?_
  have hz:l.take i++l.drop j=(l.take i++(l.drop j)):=by (rfl)
  rw [hz]
  exact R.x1 (jJ bA (i+(l.drop j).length)) [0,1] []
 refine Do.k [1] [] (q.cR (i:=j) (cm 0 O) O O eO O ae) ?_
 refine D.k 2 O [1] [] (q.jJ (i:=i) (cm 0 O) O O Tryz.underlying46 qT O ae) ?_
 refine D.p 6 O [1] [] (s.uj (a:=i) 0 _ O O O (fun w hw=>Sl.from (hw.row 0 O) ae) dO ae aE O O) fun _=>?_
 refine D.l [7] [1] [] O<|U ?_
 refine D.done<|U ?_
 refine R.q (q.sl2 (i:=(l.take i++(l.drop j)).length) (j:=l.length) (cm 0 O) O O O eO O O aE (by simp [gF];omega)) O<|R.s O (s.Ab (lo:=(l.take i++(l.drop j)).length) (hi:=l.length) (z0:=(⟨0,⟨#[]⟩,0,0⟩:Note)) 0 O O eO fy O ae aE (by simp [gF];omega)) fun _=>U ?_
 have hz:l.take i++l.drop j=(l.take i++(l.drop j)):=by (rfl)
 rw [hz]
 exact R.x1 (jJ bA (i+(l.drop j).length)) [0,1] []
theorem gD (bA:Value)(l:List av)(pr:av->Bool)(jW:Nat)(mB:List Value)(iD:dB jW)(w:World)(fC:Sl w bA l)(mC:∀W (x1:av),Ext w W->Calls Tryz.prog jW ([x1.val]++mB).toArray W fun e w'=>e = .returned (.bool (pr x1))/\Ext W w'):Calls Tryz.prog 215 #[bA,.func (.func jW) #[] mB.toArray] w fun e w'=>e = .returned (iV (idxOf pr l))/\Ext w w':=by
 have uO:=fC.dY
 refine R.eV ?_
 refine R.loop (fun k:Nat=>[(0,bA),(1,.func (.func jW) #[] mB.toArray),(7,iV (l.length:Int)),(8,iV (k:Int))]) (fun k:Nat=>[]) (fun k:Nat=>[]) (fun k:Nat=>k<=l.length /\ ∀ (j:Nat) x,j<k->l[j]? = some x->pr x=false) (fun k:Nat=>l.length-k) 0 O (by exact ⟨ae,fun j x hj=>absurd hj (Nat.not_lt_zero _)⟩) (sF O) (dE [] [] O) ?_
 rintro k ⟨hk,HA⟩
 refine U ?_
 refine C (k<l.length) ?_ ?_ <;> intro h1
 .
  obtain ⟨x1,hx1⟩:=gE l k
  refine U ?_
  rcases Bool.eq_false_or_eq_true (pr x1) with h2|h2
  .
   refine R.c (q.call iD O O (fun w hw=>cv (congrArg Value.bool h2) (mC w x1 hw.ext))) O<|U ?_
   refine R.rt ?_
   (exact (idxOf_hit hx1 af HA).symm)
  refine R.c (q.call iD O O (fun w hw=>cv (congrArg Value.bool h2) (mC w x1 hw.ext))) O<|U ?_
  refine R.back (k+1) O (by exact ⟨ae,jy HA hx1 af⟩) ae (sF O) (dE [] [] O)
 refine R.rt ?_
 (exact (idxOf_miss af HA).symm)
theorem nh (bA:Value)(l:List Note)(pr:Note->Bool)(jW:Nat)(mB:List Value)(iD:dB jW)(w:World)(fC:Sl w bA l)(mC:∀W (x1:Note),Ext w W->Calls Tryz.prog jW ([x1.val]++mB).toArray W fun e w'=>e = .returned (.bool (pr x1))/\Ext W w'):Calls Tryz.prog 167 #[bA,.func (.func jW) #[] mB.toArray] w fun e w'=>e = .returned (iV (idxOf pr l))/\Ext w w':=by
 have uO:=fC.dY
 refine R.eV ?_
 refine R.loop (fun k:Nat=>[(0,bA),(1,.func (.func jW) #[] mB.toArray),(7,iV (l.length:Int)),(8,iV (k:Int))]) (fun k:Nat=>[]) (fun k:Nat=>[]) (fun k:Nat=>k<=l.length /\ ∀ (j:Nat) x,j<k->l[j]? = some x->pr x=false) (fun k:Nat=>l.length-k) 0 O (by exact ⟨ae,fun j x hj=>absurd hj (Nat.not_lt_zero _)⟩) (sF O) (dE [] [] O) ?_
 rintro k ⟨hk,HA⟩
 refine U ?_
 refine C (k<l.length) ?_ ?_ <;> intro h1
 .
  obtain ⟨x1,hx1⟩:=gE l k
  refine U ?_
  rcases Bool.eq_false_or_eq_true (pr x1) with h2|h2
  .
   refine R.c (q.call iD O O (fun w hw=>cv (congrArg Value.bool h2) (mC w x1 hw.ext))) O<|U ?_
   refine R.rt ?_
   (exact (idxOf_hit hx1 af HA).symm)
  refine R.c (q.call iD O O (fun w hw=>cv (congrArg Value.bool h2) (mC w x1 hw.ext))) O<|U ?_
  refine R.back (k+1) O (by exact ⟨ae,jy HA hx1 af⟩) ae (sF O) (dE [] [] O)
 refine R.rt ?_
 (exact (idxOf_miss af HA).symm)
theorem ni (bA:Value)(l:List Held)(pr:Held->Bool)(jW:Nat)(mB:List Value)(iD:dB jW)(w:World)(fC:Sl w bA l)(mC:∀W (x1:Held),Ext w W->Calls Tryz.prog jW ([x1.val]++mB).toArray W fun e w'=>e = .returned (.bool (pr x1))/\Ext W w'):Calls Tryz.prog 255 #[bA,.func (.func jW) #[] mB.toArray] w fun e w'=>e = .returned (iV (idxOf pr l))/\Ext w w':=by
 have uO:=fC.dY
 refine R.eV ?_
 refine R.loop (fun k:Nat=>[(0,bA),(1,.func (.func jW) #[] mB.toArray),(7,iV (l.length:Int)),(8,iV (k:Int))]) (fun k:Nat=>[]) (fun k:Nat=>[]) (fun k:Nat=>k<=l.length /\ ∀ (j:Nat) x,j<k->l[j]? = some x->pr x=false) (fun k:Nat=>l.length-k) 0 O (by exact ⟨ae,fun j x hj=>absurd hj (Nat.not_lt_zero _)⟩) (sF O) (dE [] [] O) ?_
 rintro k ⟨hk,HA⟩
 refine U ?_
 refine C (k<l.length) ?_ ?_ <;> intro h1
 .
  obtain ⟨x1,hx1⟩:=gE l k
  refine U ?_
  rcases Bool.eq_false_or_eq_true (pr x1) with h2|h2
  .
   refine R.c (q.call iD O O (fun w hw=>cv (congrArg Value.bool h2) (mC w x1 hw.ext))) O<|U ?_
   refine R.rt ?_
   (exact (idxOf_hit hx1 af HA).symm)
  refine R.c (q.call iD O O (fun w hw=>cv (congrArg Value.bool h2) (mC w x1 hw.ext))) O<|U ?_
  refine R.back (k+1) O (by exact ⟨ae,jy HA hx1 af⟩) ae (sF O) (dE [] [] O)
 refine R.rt ?_
 (exact (idxOf_miss af HA).symm)
theorem uY (bA:Value)(l:List av)(pr:av->Bool)(jW:Nat)(mB:List Value)(iD:dB jW)(w:World)(own:List Nat)(H:HN w own [ah.row 103 bA l] [])(mC:∀W (x1:av),lL (blks [ah.row 103 bA l]) w W->Calls Tryz.prog jW ([x1.val]++mB).toArray W fun e w'=>e = .returned (.bool (pr x1))/\Ext W w')(hl:l.length<=1000000):RC Tryz.prog 211 #[bA,.func (.func jW) #[] mB.toArray] H (fun z:Value=>z) (fun z=>[ah.row 103 z (l.filter (fun x => !pr x))]) (fun _=>[]):=by
 have Jz:=H.cap 0 rfl;have zy:=H.cz 0 rfl
 refine R.eN H ?_
 rcases jz pr l with ⟨eW,CK⟩ | ⟨vQ,Gu,eW,lz,ub,Cx,Wn⟩
 .
  refine R.kc O O (fun w hw=>cv (congrArg (Value.int .i64) eW) (gD _ l pr _ _ iD w (hw.row 0 O) (fun W x1 hW=>mC W x1 ((hw.vT 1 O).trans ((Ext.upd hW).mono bC)))))<|U ?_
  rw [show l.filter (fun x => !pr x)=_ from xx CK]
  exact R.x1 bA [0,1] []
 refine R.kc O O (fun w hw=>cv (congrArg (Value.int .i64) eW) (gD _ l pr _ _ iD w (hw.row 0 O) (fun W x1 hW=>mC W x1 ((hw.vT 1 O).trans ((Ext.upd hW).mono bC)))))<|U ?_
 refine R.loop (fun g_:Nat×Nat×(List av)=>[(0,bA),(1,.func (.func jW) #[] mB.toArray),(5,iV (g_.1:Int)),(6,iV (g_.2.1:Int))]) (fun g_=>[ah.row 103 bA g_.2.2,ah.held w own]) (fun g_=>[]) (fun g_=>pE pr l g_.2.2 g_.1 g_.2.1) (fun g_=>l.length-g_.2.1) (vQ,vQ+1,l) O (by exact pE.start lz ub Cx) (sF O) (dE [0,1] [] O) ?_
 rintro ⟨a,b,acc⟩ HA
 dsimp only at *
 have t1:=HA.1;have t2:=HA.2.1;have t3:=HA.2.2.1
 refine U ?_
 refine C (b<acc.length) ?_ ?_ <;> intro h1
 .
  obtain ⟨x1,hx1⟩:=gE acc b
  refine U ?_
  refine R.nb fun b1=>?_
  rcases Bool.eq_false_or_eq_true (pr x1) with h2|h2
  .
   refine R.c (q.call iD O O (fun w hw=>cv (congrArg Value.bool h2) (mC w x1 (hw.vT 2 O)))) O<|U ?_
   refine R.back (a,b+1,acc) O (by exact HA.skip hx1 af) aG (sF O) (ck [1,2] [] O)
  refine R.c (q.call iD O O (fun w hw=>cv (congrArg Value.bool h2) (mC w x1 (hw.vT 2 O)))) O<|U ?_
  obtain ⟨x2,hx2⟩:=gE acc a
  refine U ?_
  refine R.s O (s.Tg (z:=x1) 1 _ O hx2 O O O O (.inl LX) O) fun _=>U ?_
  refine R.back ((a+1),b+1,(acc.set a x1)) O (by exact HA.keep hx1 af) aG (sF O) (ck [1,2] [] O)
 refine R.q (q.cR (i:=a) (cm 0 O) O O kv O ae) O<|R.s O (s.Q9 (lo:=a) (z0:=(⟨0,0,⟨#[]⟩⟩:av)) 0 _ O O kv gT O ae O) fun _=>U ?_
 refine R.q (q.jJ (i:=a) (cm 0 O) O O Tryz.underlying44 OC O aE) O<|U ?_
 refine R.KL 0 a _ O aE O ?_
 rw [show l.filter (fun x => !pr x)=_ from HA.done ae]
 exact R.x1 (jJ bA a) [0,1] []
theorem wj (bA:Value)(l:List Held)(pr:Held->Bool)(jW:Nat)(mB:List Value)(iD:dB jW)(w:World)(own:List Nat)(H:HN w own [ah.row 124 bA l] [])(mC:∀W (x1:Held),lL (blks [ah.row 124 bA l]) w W->Calls Tryz.prog jW ([x1.val]++mB).toArray W fun e w'=>e = .returned (.bool (pr x1))/\Ext W w')(hl:l.length<=1000000):RC Tryz.prog 213 #[bA,.func (.func jW) #[] mB.toArray] H (fun z:Value=>z) (fun z=>[ah.row 124 z (l.filter (fun x => !pr x))]) (fun _=>[]):=by
 have Jz:=H.cap 0 rfl;have zy:=H.cz 0 rfl
 refine R.eN H ?_
 rcases jz pr l with ⟨eW,CK⟩ | ⟨vQ,Gu,eW,lz,ub,Cx,Wn⟩
 .
  refine R.kc O O (fun w hw=>cv (congrArg (Value.int .i64) eW) (ni _ l pr _ _ iD w (hw.row 0 O) (fun W x1 hW=>mC W x1 ((hw.vT 1 O).trans ((Ext.upd hW).mono bC)))))<|U ?_
  rw [show l.filter (fun x => !pr x)=_ from xx CK]
  exact R.x1 bA [0,1] []
 refine R.kc O O (fun w hw=>cv (congrArg (Value.int .i64) eW) (ni _ l pr _ _ iD w (hw.row 0 O) (fun W x1 hW=>mC W x1 ((hw.vT 1 O).trans ((Ext.upd hW).mono bC)))))<|U ?_
 refine R.loop (fun g_:Nat×Nat×(List Held)=>[(0,bA),(1,.func (.func jW) #[] mB.toArray),(5,iV (g_.1:Int)),(6,iV (g_.2.1:Int))]) (fun g_=>[ah.row 124 bA g_.2.2,ah.held w own]) (fun g_=>[]) (fun g_=>pE pr l g_.2.2 g_.1 g_.2.1) (fun g_=>l.length-g_.2.1) (vQ,vQ+1,l) O (by exact pE.start lz ub Cx) (sF O) (dE [0,1] [] O) ?_
 rintro ⟨a,b,acc⟩ HA
 dsimp only at *
 have t1:=HA.1;have t2:=HA.2.1;have t3:=HA.2.2.1
 refine U ?_
 refine C (b<acc.length) ?_ ?_ <;> intro h1
 .
  obtain ⟨x1,hx1⟩:=gE acc b
  refine U ?_
  refine R.nb fun b1=>?_
  rcases Bool.eq_false_or_eq_true (pr x1) with h2|h2
  .
   refine R.c (q.call iD O O (fun w hw=>cv (congrArg Value.bool h2) (mC w x1 (hw.vT 2 O)))) O<|U ?_
   refine R.back (a,b+1,acc) O (by exact HA.skip hx1 af) aG (sF O) (ck [1,2] [] O)
  refine R.c (q.call iD O O (fun w hw=>cv (congrArg Value.bool h2) (mC w x1 (hw.vT 2 O)))) O<|U ?_
  obtain ⟨x2,hx2⟩:=gE acc a
  refine U ?_
  refine R.s O (s.Tg (z:=x1) 1 _ O hx2 O O O O (.inl LY) O) fun _=>U ?_
  refine R.back ((a+1),b+1,(acc.set a x1)) O (by exact HA.keep hx1 af) aG (sF O) (ck [1,2] [] O)
 refine R.q (q.cR (i:=a) (cm 0 O) O O cd O ae) O<|R.s O (s.Q9 (lo:=a) (z0:=(⟨(⟨0,0⟩:Place),0⟩:Held)) 0 _ O O cd cx O ae O) fun _=>U ?_
 refine R.q (q.jJ (i:=a) (cm 0 O) O O Tryz.underlying45 wJ O aE) O<|U ?_
 refine R.KL 0 a _ O aE O ?_
 rw [show l.filter (fun x => !pr x)=_ from HA.done ae]
 exact R.x1 (jJ bA a) [0,1] []
theorem wk (bA:Value)(l:List ak)(pr:ak->Bool)(jW:Nat)(mB:List Value)(iD:dB jW)(w:World)(own:List Nat)(H:HN w own [ah.row 126 bA l] [])(mC:∀W (x1:ak),lL (blks [ah.row 126 bA l]) w W->Calls Tryz.prog jW ([x1.val]++mB).toArray W fun e w'=>e = .returned (.bool (pr x1))/\Ext W w')(hl:l.length<=1000000):RC Tryz.prog 164 #[bA,.func (.func jW) #[] mB.toArray] H (fun z:Value=>z) (fun z=>[ah.row 126 z (l.filter (fun x => !pr x))]) (fun _=>[]):=by
 have Jz:=H.cap 0 rfl;have zy:=H.cz 0 rfl
 refine R.eN H ?_
 rcases jz pr l with ⟨eW,CK⟩ | ⟨vQ,Gu,eW,lz,ub,Cx,Wn⟩
 .
  refine R.kc O O (fun w hw=>cv (congrArg (Value.int .i64) eW) (mA _ l pr _ _ iD w (hw.row 0 O) (fun W x1 hW=>mC W x1 ((hw.vT 1 O).trans ((Ext.upd hW).mono bC)))))<|U ?_
  rw [show l.filter (fun x => !pr x)=_ from xx CK]
  exact R.x1 bA [0,1] []
 refine R.kc O O (fun w hw=>cv (congrArg (Value.int .i64) eW) (mA _ l pr _ _ iD w (hw.row 0 O) (fun W x1 hW=>mC W x1 ((hw.vT 1 O).trans ((Ext.upd hW).mono bC)))))<|U ?_
 refine R.loop (fun g_:Nat×Nat×(List ak)=>[(0,bA),(1,.func (.func jW) #[] mB.toArray),(5,iV (g_.1:Int)),(6,iV (g_.2.1:Int))]) (fun g_=>[ah.row 126 bA g_.2.2,ah.held w own]) (fun g_=>[]) (fun g_=>pE pr l g_.2.2 g_.1 g_.2.1) (fun g_=>l.length-g_.2.1) (vQ,vQ+1,l) O (by exact pE.start lz ub Cx) (sF O) (dE [0,1] [] O) ?_
 rintro ⟨a,b,acc⟩ HA
 dsimp only at *
 have t1:=HA.1;have t2:=HA.2.1;have t3:=HA.2.2.1
 refine U ?_
 refine C (b<acc.length) ?_ ?_ <;> intro h1
 .
  obtain ⟨x1,hx1⟩:=gE acc b
  refine U ?_
  refine R.nb fun b1=>?_
  rcases Bool.eq_false_or_eq_true (pr x1) with h2|h2
  .
   refine R.c (q.call iD O O (fun w hw=>cv (congrArg Value.bool h2) (mC w x1 (hw.vT 2 O)))) O<|U ?_
   refine R.back (a,b+1,acc) O (by exact HA.skip hx1 af) aG (sF O) (ck [1,2] [] O)
  refine R.c (q.call iD O O (fun w hw=>cv (congrArg Value.bool h2) (mC w x1 (hw.vT 2 O)))) O<|U ?_
  obtain ⟨x2,hx2⟩:=gE acc a
  refine U ?_
  refine R.s O (s.Tg (z:=x1) 1 _ O hx2 O O O O (.inl bM) O) fun _=>U ?_
  refine R.back ((a+1),b+1,(acc.set a x1)) O (by exact HA.keep hx1 af) aG (sF O) (ck [1,2] [] O)
 refine R.q (q.cR (i:=a) (cm 0 O) O O fF O ae) O<|R.s O (s.Q9 (lo:=a) (z0:=(⟨0,0,0,0,0⟩:ak)) 0 _ O O fF dK O ae O) fun _=>U ?_
 refine R.q (q.jJ (i:=a) (cm 0 O) O O Tryz.underlying43 Cm O aE) O<|U ?_
 refine R.KL 0 a _ O aE O ?_
 rw [show l.filter (fun x => !pr x)=_ from HA.done ae]
 exact R.x1 (jJ bA a) [0,1] []
theorem vR (bA:Value)(l:List ak)(w:World)(fC:Sl w bA l)(hl:l.length<=1000000):Calls Tryz.prog 146 #[bA] w fun e w' => ∃u,e = .returned u/\Own w.heap.size 3 w' u (a8 l)/\Ext w w':=GU bA l w fC hl
theorem GV (bA:Value)(l:List Int)(x:Int)(w:World)(fC:Sl w bA l):Calls Tryz.prog 201 #[bA,iV x] w fun e w'=>e = .returned (iV (idxOf (fun y=>y==x) l))/\Ext w w':=by
 have uO:=fC.dY
 refine R.eV ?_
 refine R.loop (fun k:Nat=>[(0,bA),(1,iV x),(7,iV (l.length:Int)),(8,iV (k:Int))]) (fun k:Nat=>[]) (fun k:Nat=>[]) (fun k:Nat=>k<=l.length /\ ∀ (j:Nat) y,j<k->l[j]? = some y->(y==x)=false) (fun k:Nat=>l.length-k) 0 O (by exact ⟨ae,fun j x hj=>absurd hj (Nat.not_lt_zero _)⟩) (sF O) (dE [] [] O) ?_
 rintro k ⟨hk,HA⟩
 refine U ?_
 refine C (k<l.length) ?_ ?_ <;> intro h1
 .
  obtain ⟨x1,hx1⟩:=gE l k
  refine U ?_
  refine C (x=x1) ?_ ?_ <;> intro h2
  .
   refine R.rt ?_
   (exact (idxOf_hit (p:=fun y=>y==x) hx1 (beq_iff_eq.2 ae) HA).symm)
  refine R.back (k+1) O (by exact ⟨ae,jy (p:=fun y=>y==x) HA hx1 (beq_eq_false_iff_ne.2 ae)⟩) ae (sF O) (dE [] [] O)
 refine R.rt ?_
 (exact (idxOf_miss af HA).symm)
theorem IB {l:List Int}{x:Int}:(0<=idxOf (fun y=>y==x) l)=(x∈l):=by
 rcases jz (fun y:Int=>y==x) l with ⟨h,hn⟩ | ⟨k,y,h,hy,he,_,_⟩
 .rw [h];simp;intro hm;have:=hn x hm;simp at this
 rw [h];simp
 have:y=x:=by simpa using he
 subst this;exact List.mem_of_getElem? hy
theorem fu (bA:Value)(l:List Int)(x:Int)(w:World)(fC:Sl w bA l):Calls Tryz.prog 144 #[bA,iV x] w fun e w'=>e = .returned (.bool (decide (x∈l)))/\Ext w w':=by
 have uO:=fC.dY
 refine R.eV ?_
 refine R.kc O O (fun w hw=>GV _ l x w ((fun _=>Wd.old fC) w hw))<|C (idxOf (fun y=>y==x) l<0) ?_ ?_ <;> intro h1
 .
  refine R.rt ?_
  (have e:=IB (l:=l) (x:=x);exact (decide_eq_false (e▸ae)).symm)
 refine R.rt ?_
 (have e:=IB (l:=l) (x:=x);exact (decide_eq_true (e▸ae)).symm)
theorem ra (aW aS aT aU:Value)(r:aA)(p:Place)(w:World)(pG:Sl w aW r.aj)(zR:Sl w aS r.Things)(tY:Sl w aT r.Held)(Fg:Sl w aU r.Notes)(hk:Ok r):Calls Tryz.prog 157 #[.agg #[aW,aS,aT,aU,iV r.ag,iV r.ai],.agg #[iV p.aB,iV p.Slot]] w fun e w'=>e = .returned (.tuple #[ak.val (aL r p).1,bN (aL r p).2])/\Ext w w':=by
 have b1:=hk.hl
 refine R.eV ?_
 refine R.nb fun b1=>?_
 refine R.nb fun b2=>?_
 refine R.nb fun b3=>?_
 refine R.kc O O (fun w hw=>jS p w)<|U ?_
 refine C (aY p=0) ?_ ?_ <;> intro h1
 .
  rcases dv r.aj (lY r.Held p) with ⟨eW,CK⟩ | ⟨vP,lz,eW,ub,QS⟩
  .
   refine R.cG O mixed ao<|U ?_
   refine Q.c (q.call Mn O O (fun w hw=>m9 _ r.Held p w ((fun _=>Wd.old tY) w hw) ae)) O<|Q.c (q.call Co O O (fun w hw=>cv (congrArg (Value.int .i64) eW) (gM _ r.aj (lY r.Held p) w ((fun _=>Wd.old pG) w hw)))) O<|U ?_
   exact R.rT O Tryz.results157 (RV.cell 0 O O bM) (RV.tmp O) (congrArg ak.val (show (⟨0,0,0,0,0⟩:ak)=(aL r p).1 from by (rw [qF af eW];rfl))) (pD aD (by rw [qF af eW];done))
  refine R.cG O mixed ao<|U ?_
  refine Q.c (q.call Mn O O (fun w hw=>m9 _ r.Held p w ((fun _=>Wd.old tY) w hw) ae)) O<|Q.c (q.call Co O O (fun w hw=>cv (congrArg (Value.int .i64) eW) (gM _ r.aj (lY r.Held p) w ((fun _=>Wd.old pG) w hw)))) O<|U ?_
  refine R.q (q.idx (i:=vP) (fun _=>Wd.old pG) O O fF O (List.getElem?_eq_getElem lz)) O ?_
  refine R.q (q.KA (ds:=rQ (r.aj[vP])) (fun _=>Wd.old pG) (List.getElem?_eq_getElem lz) O bM O) O ?_
  refine U ?_
  exact R.rT O Tryz.results157 (RV.cell 0 O O bM) (RV.tmp O) (congrArg ak.val (show (r.aj[vP])=(aL r p).1 from by (rw [tf af eW (List.getElem?_eq_getElem lz)];done))) (uh (by rw [tf af eW (List.getElem?_eq_getElem lz)];done))
 exact R.rT O Tryz.results157 (RV.cell 0 O O bM) (RV.tmp O) (congrArg ak.val (show (⟨0,0,0,0,0⟩:ak)=(aL r p).1 from by (rw [pZ af];rfl))) (rE (by rw [pZ af];done))
theorem rh (aW aS aT aU:Value)(r:aA)(p:Place)(w:World)(pG:Sl w aW r.aj)(zR:Sl w aS r.Things)(tY:Sl w aT r.Held)(Fg:Sl w aU r.Notes)(hk:Ok r):Calls Tryz.prog 155 #[.agg #[aW,aS,aT,aU,iV r.ag,iV r.ai],.agg #[iV p.aB,iV p.Slot]] w fun e w'=>e = .returned (bN (eG r p))/\Ext w w':=by
 have b1:=hk.hl
 refine R.eV ?_
 refine R.nb fun b1=>?_
 refine R.nb fun b2=>?_
 refine R.kc O O (fun w hw=>jS p w)<|U ?_
 refine C (aY p=0) ?_ ?_ <;> intro h1
 .
  refine R.kc O O (fun w hw=>m9 _ r.Held p w ((fun _=>Wd.old tY) w hw) ae)<|C (lY r.Held p=0) ?_ ?_ <;> intro h2
  .
   refine R.rt ?_
   (unfold eG;(rw [if_pos af,if_pos af];omega))
  refine R.rt ?_
  (unfold eG;(rw [if_pos af,if_neg af];done))
 refine R.rt ?_
 (unfold eG;(rw [if_neg af];done))
theorem qx (aW aS aT aU:Value)(r:aA)(w0:ak)(p:Place)(w:World)(own:List Nat)(H:HN w own [] [ah.ls aW r.aj,ah.ls aS r.Things,ah.ls aT r.Held,ah.ls aU r.Notes])(hk:r.Held.length<=3000/\r.aj.length<=3000/\0<=r.ag/\r.ag<=3000):RS Tryz.prog 156 #[.agg #[aW,aS,aT,aU,iV r.ag,iV r.ai],.agg #[iV w0.ID,iV w0.av,iV w0.Rights,iV w0.aO,iV w0.From],.agg #[iV p.aB,iV p.Slot]] H (jH r w0 p) (fun s (z:Value×Value×Value×Value) => .agg #[z.1,z.2.1,z.2.2.1,z.2.2.2,iV s.ag,iV s.ai]) (fun _ _=>[]) (fun s z=>[ah.ls z.1 s.aj,ah.ls z.2.1 s.Things,ah.ls z.2.2.1 s.Held,ah.ls z.2.2.2 s.Notes]):=by
 have bS:=H.aZ 0 rfl
 have bH:=H.aZ 1 rfl
 have cu:=H.aZ 2 rfl
 have bT:=H.aZ 3 rfl
 have b1:=hk.1;have b2:=hk.2.1;have b3:=hk.2.2.1;have b4:=hk.2.2.2
 refine R.eN H ?_
 refine R.nb fun b1=>?_
 refine R.nb fun b2=>?_
 refine R.nb fun b3=>?_
 refine R.nb fun b4=>?_
 refine R.dC (fuel:=8) [0,1,2,4] O O mixed O<|D.l [0,3] [0,1,2,4] aX O<|U ?_
 refine D.two (i:=1) (j:=4) O O ?_ ?_
 .
  refine Do.k [0,1,2,4] aX (q.ld 3 O O fZ O) ?_
  refine D.two (i:=2) (j:=4) O O ?_ ?_
  .
   refine Do.p [1,2,3,5] aX (s.aJ ct [0] _ _ _ O O O yt O O (fun w own hw H=>iZ aW r.aj w own H ae) O) fun z2=>?_
   refine D.p 4 O pn aX (s.bs (l:=([w0]:List ak)) fF dK O O O O O O O) fun b5=>?_
   refine D.p 5 O pn aX (s.app 1 _ O O O (cm 0 O) m6 aE aE (fun _=>rfl) O) fun v1=>?_
   refine D.l [6] pn aX O<|U ?_
   refine D.p 7 O pn aX (s.lr 5 _ O O O (fun w hw=>Sl.cL (hw.row 1 O)) (.inr ⟨fZ,rfl⟩) (fun w hw=>br (Sl.one (hw.row 1 O)) bV) O O O) fun _=>?_
   refine D.done<|U ?_
   refine C (0<p.aB) ?_ ?_ <;> intro h1
   .
    refine R.s O (s.aJ jF [2] _ _ _ O O O uK O O (fun w own hw H=>qU aT r.Held p w0.ID w own H ae) O) fun z3=>U ?_
    refine R.mp (fun _ hw=>hw.aR 2 _ O O)<|R.mp (fun _ hw=>hw.aR 0 _ O O) ?_
    rw [show jH r w0 p=_ from by (unfold jH;(rewrite [if_pos af])) <;> rfl]
    exact R.x1 (v1,aS,z3,aU) [5] [1,3,0,5]
   refine R.mp (fun _ hw=>hw.aR 1 _ O O) ?_
   rw [show jH r w0 p=_ from by (unfold jH;(rewrite [if_neg af])) <;> rfl]
   exact R.x1 (v1,aS,aT,aU) [5] [0,2,3,4]
  refine Do.p [1,2,3,5] aX (s.bs (l:=([w0]:List ak)) fF dK O O O O O O O) fun b6=>?_
  refine D.p 2 O pn aX (s.aJ mH [0] _ _ _ O O O yt O O (fun w own hw H=>iZ aW r.aj w own H ae) O) fun z4=>?_
  refine D.p 5 O pn aX (s.app 0 _ O O O (cm 1 O) m6 aE aE (fun _=>rfl) O) fun v2=>?_
  refine D.l [6] pn aX O<|U ?_
  refine D.p 7 O pn aX (s.lr 5 _ O O O (fun w hw=>Sl.cL (hw.row 0 O)) (.inr ⟨fZ,rfl⟩) (fun w hw=>br (Sl.one (hw.row 0 O)) bV) O O O) fun _=>?_
  refine D.done<|U ?_
  refine C (0<p.aB) ?_ ?_ <;> intro h2
  .
   refine R.s O (s.aJ jF [2] _ _ _ O O O uK O O (fun w own hw H=>qU aT r.Held p w0.ID w own H ae) O) fun z5=>U ?_
   refine R.mp (fun _ hw=>hw.aR 1 _ O O)<|R.mp (fun _ hw=>hw.aR 0 _ O O) ?_
   rw [show jH r w0 p=_ from by (unfold jH;(rewrite [if_pos af])) <;> rfl]
   exact R.x1 (v2,aS,z5,aU) [5] [1,3,0,5]
  refine R.mp (fun _ hw=>hw.aR 0 _ O O) ?_
  rw [show jH r w0 p=_ from by (unfold jH;(rewrite [if_neg af])) <;> rfl]
  exact R.x1 (v2,aS,aT,aU) [5] [0,2,3,4]
 refine Do.p [1,2,3,5] aX (s.bs (l:=([w0]:List ak)) fF dK O O O O O O O) fun b7=>?_
 refine D.k 1 O [1,2,3,5] aX (q.ld 4 O O fZ O) ?_
 refine D.p 2 O pn aX (s.aJ mH [0] _ _ _ O O O yt O O (fun w own hw H=>iZ aW r.aj w own H ae) O) fun z6=>?_
 refine D.p 5 O pn aX (s.app 0 _ O O O (cm 1 O) m6 aE aE (fun _=>rfl) O) fun v3=>?_
 refine D.l [6] pn aX O<|U ?_
 refine D.p 7 O pn aX (s.lr 5 _ O O O (fun w hw=>Sl.cL (hw.row 0 O)) (.inr ⟨fZ,rfl⟩) (fun w hw=>br (Sl.one (hw.row 0 O)) bV) O O O) fun _=>?_
 refine D.done<|U ?_
 refine C (0<p.aB) ?_ ?_ <;> intro h3
 .
  refine R.s O (s.aJ jF [2] _ _ _ O O O uK O O (fun w own hw H=>qU aT r.Held p w0.ID w own H ae) O) fun z7=>U ?_
  refine R.mp (fun _ hw=>hw.aR 1 _ O O)<|R.mp (fun _ hw=>hw.aR 0 _ O O) ?_
  rw [show jH r w0 p=_ from by (unfold jH;(rewrite [if_pos af])) <;> rfl]
  exact R.x1 (v3,aS,z7,aU) [5] [1,3,0,5]
 refine R.mp (fun _ hw=>hw.aR 0 _ O O) ?_
 rw [show jH r w0 p=_ from by (unfold jH;(rewrite [if_neg af])) <;> rfl]
 exact R.x1 (v3,aS,aT,aU) [5] [0,2,3,4]
theorem Na (w:World)(own:List Nat)(H:HN w own [] []):RC Tryz.prog 64 #[] H (fun z:Value×Value×Value×Value => .agg #[z.1,z.2.1,z.2.2.1,z.2.2.2,iV (⟨[],[],[],[],1,1⟩:aA).ag,iV (⟨[],[],[],[],1,1⟩:aA).ai]) (fun _=>[]) (fun z=>[ah.ls z.1 ((⟨[],[],[],[],1,1⟩:aA).aj:List ak),ah.ls z.2.1 ((⟨[],[],[],[],1,1⟩:aA).Things:List av),ah.ls z.2.2.1 ((⟨[],[],[],[],1,1⟩:aA).Held:List Held),ah.ls z.2.2.2 ((⟨[],[],[],[],1,1⟩:aA).Notes:List Note)]):=by
 refine R.eN H ?_
 refine R.nb fun b1=>?_
 exact R.g9 ak av Held Note<|R.x1 (nS,nS,nS,nS) [1] [3,2,1,0]
theorem zd (t:av)(w0:ak)(CM:Nat)(w:World)(Nb:(ah.box CM (rQ w0) 126).ok w):Calls Tryz.prog 216 #[.agg #[iV t.ID,iV t.Kind,.string t.Data],pV CM] w fun e w'=>e = .returned (.bool (t.ID==w0.av))/\Ext w w':=by
 refine R.enter [] [(0,.agg #[iV t.ID,iV t.Kind,.string t.Data]),(1,pV CM)] Tryz.func216 O O O O<|R.nH (r:=ah.box CM (rQ w0) 126) Nb (jf Nb)<|U ?_
 refine R.nb fun b1=>?_
 refine R.q (q.zu 0 O O dX O) O<|C (t.ID=w0.av) ?_ ?_ <;> intro h1
 .
  refine R.rt ?_
  (exact (beq_iff_eq.2 af).symm)
 refine R.rt ?_
 (exact (beq_eq_false_iff_ne.2 af).symm)
theorem vS (t:Note)(w0:ak)(CM:Nat)(w:World)(Nb:(ah.box CM (rQ w0) 126).ok w):Calls Tryz.prog 168 #[.agg #[iV t.Port,.string t.Data,iV t.aO,iV t.ak],pV CM] w fun e w'=>e = .returned (.bool (t.Port==w0.av))/\Ext w w':=by
 refine R.enter [] [(0,.agg #[iV t.Port,.string t.Data,iV t.aO,iV t.ak]),(1,pV CM)] Tryz.func168 O O O O<|R.nH (r:=ah.box CM (rQ w0) 126) Nb (jf Nb)<|U ?_
 refine R.nb fun b1=>?_
 refine R.q (q.zu 0 O O dX O) O<|C (t.Port=w0.av) ?_ ?_ <;> intro h1
 .
  refine R.rt ?_
  (exact (beq_iff_eq.2 af).symm)
 refine R.rt ?_
 (exact (beq_eq_false_iff_ne.2 af).symm)
theorem zS (t:av)(SX:Value)(ts:List Int)(O8:Nat)(w:World)(VR:(ah.box O8 [SX] 110).ok w)(Xm:Sl w SX ts):Calls Tryz.prog 212 #[.agg #[iV t.ID,iV t.Kind,.string t.Data],pV O8] w fun e w'=>e = .returned (.bool (!decide (t.ID∈ts)))/\Ext w w':=by
 refine R.enter [] [(0,.agg #[iV t.ID,iV t.Kind,.string t.Data]),(1,pV O8)] Tryz.func212 O O O O<|R.nH (r:=ah.box O8 [SX] 110) VR (jf VR)<|U ?_
 refine R.nb fun b1=>?_
 refine R.q (q.zu 0 O O Ez O) O<|U ?_
 refine R.kc O O (fun w hw=>fu _ ts t.ID w ((fun _=>Wd.old Xm) w hw))<|R.q (q.not O) O<|U ?_
 refine R.rt ?_
 rfl
theorem zT (h:Held)(aW aS aT aU:Value)(r:aA)(NG:Nat)(w:World)(Yi:(ah.box NG [aW,aS,aT,aU,iV r.ag,iV r.ai] 48).ok w)(pG:Sl w aW r.aj)(zR:Sl w aS r.Things)(tY:Sl w aT r.Held)(Fg:Sl w aU r.Notes):Calls Tryz.prog 214 #[.agg #[iV h.Place.aB,iV h.Place.Slot,iV h.ak],pV NG] w fun e w'=>e = .returned (.bool (decide (bY r.aj h.ak<0)))/\Ext w w':=by
 refine R.enter [] [(0,.agg #[iV h.Place.aB,iV h.Place.Slot,iV h.ak]),(1,pV NG)] Tryz.func214 O O O O<|R.nH (r:=ah.box NG [aW,aS,aT,aU,iV r.ag,iV r.ai] 48) Yi (jf Yi)<|U ?_
 refine R.nb fun b1=>?_
 refine R.q (q.zu 0 O O fZ O) O<|U ?_
 rcases dv r.aj h.ak with ⟨eW,CK⟩ | ⟨vP,lz,eW,ub,QS⟩
 .
  refine R.kc O O (fun w hw=>cv (congrArg (Value.int .i64) eW) (gM _ r.aj h.ak w ((fun _=>Wd.old pG) w hw)))<|U ?_
  refine R.rt ?_
  (exact (decide_eq_true ae).symm)
 refine R.kc O O (fun w hw=>cv (congrArg (Value.int .i64) eW) (gM _ r.aj h.ak w ((fun _=>Wd.old pG) w hw)))<|U ?_
 refine R.rt ?_
 (exact (decide_eq_false ae).symm)
theorem zU (x:ak)(SY:Value)(gs:List Int)(O9:Nat)(w:World)(VT:(ah.box O9 [SY] 110).ok w)(Xn:Sl w SY gs):Calls Tryz.prog 165 #[.agg #[iV x.ID,iV x.av,iV x.Rights,iV x.aO,iV x.From],pV O9] w fun e w'=>e = .returned (.bool (decide (x.ID∈gs)))/\Ext w w':=by
 refine R.enter [] [(0,.agg #[iV x.ID,iV x.av,iV x.Rights,iV x.aO,iV x.From]),(1,pV O9)] Tryz.func165 O O O O<|R.nH (r:=ah.box O9 [SY] 110) VT (jf VT)<|U ?_
 refine R.nb fun b1=>?_
 refine R.q (q.zu 0 O O Ez O) O<|U ?_
 refine R.kc O O (fun w hw=>fu _ gs x.ID w ((fun _=>Wd.old Xn) w hw))<|U ?_
 refine R.rt ?_
 rfl
end
section
open Go Go.RowKit
attribute [local irreducible] Run Rg Rq Qt Qa Stp Dg Do Dm bN
theorem sD (aW aS aT aU:Value)(r:aA)(w:World)(own:List Nat)(H:HN w own [] [ah.ls aW r.aj,ah.ls aS r.Things,ah.ls aT r.Held,ah.ls aU r.Notes])(hk:Ok r):RS Tryz.prog 162 #[.agg #[aW,aS,aT,aU,iV r.ag,iV r.ai]] H (dF r) (fun s (z:Value×Value×Value×Value) => .agg #[z.1,z.2.1,z.2.2.1,z.2.2.2,iV s.ag,iV s.ai]) (fun _ _=>[]) (fun s z=>[ah.ls z.1 s.aj,ah.ls z.2.1 s.Things,ah.ls z.2.2.1 s.Held,ah.ls z.2.2.2 s.Notes]):=by
 have bS:=H.aZ 0 rfl
 have bH:=H.aZ 1 rfl
 have cu:=H.aZ 2 rfl
 have bT:=H.aZ 3 rfl
 refine R.eN H ?_
 refine R.nb fun b1=>?_
 refine R.nb fun b2=>?_
 refine R.loop (fun g_:aA×Value×Value×Value×Value=>[(1,pV b1),(2,pV b2)]) (fun g_=>[ah.box b2 sR 48,ah.box b1 [g_.2.1,g_.2.2.1,g_.2.2.2.1,g_.2.2.2.2,iV g_.1.ag,iV g_.1.ai] 48,ah.held w own]) (fun g_=>[ah.ls g_.2.1 g_.1.aj,ah.ls g_.2.2.1 g_.1.Things,ah.ls g_.2.2.2.1 g_.1.Held,ah.ls g_.2.2.2.2 g_.1.Notes,ah.ls aW r.aj,ah.ls aS r.Things,ah.ls aT r.Held,ah.ls aU r.Notes]) (fun g_=>Ok g_.1/\dF g_.1=dF r) (fun g_=>g_.1.Notes.length) (r,aW,aS,aT,aU) O (by exact ⟨hk,rfl⟩) (sF O) (dE [0,1,2] [0,1,2,3,0,1,2,3] O) ?_
 rintro ⟨m,ze,C9,CN,CO⟩ ⟨hok,HS⟩
 dsimp only at *
 have o1:=hok.wl;have o2:=hok.tl;have o3:=hok.hl;have o4:=hok.nl
 refine U ?_
 refine R.s O (s.nE Mg O O (fun w hw=>vR _ m.aj w (hw.cq 0 O) ae) O) fun v1=>?_
 refine R.nb fun b3=>?_
 refine R.s O (s.aJ ct [1] _ _ _ O O O yu O O (fun w own hw H=>iC C9 m.Things w own H ae) O) fun z1=>?_
 refine R.q (q.NA (cap:=[pV b3]) O O) O<|R.s O (s.aJ mH [] _ _ _ O O O Se O O (fun w own hw H=>uY z1 m.Things (fun (t:av) => !decide (t.ID∈(a8 m.aj))) _ _ Sf w own H (fun W t hU=>zS t _ (a8 m.aj) _ W (hw.xe 1 0 O O aD hU) (Own.sl (hw.xe 2 0 O O aD hU))) ae) O) fun z2=>U ?_
 refine R.row0 (α:=Int) 3<|R.row0 (α:=Note) 91<|R.loop (fun g_:Nat×Value×(List Note)×Value×(List Int)=>[(1,pV b1),(2,pV b2),(3,pV b3),(4,g_.2.2.2.1),(5,g_.2.1),(20,CO),(21,iV (m.Notes.length:Int)),(22,iV (g_.1:Int))]) (fun g_=>[ah.row 91 g_.2.1 g_.2.2.1,ah.row 3 g_.2.2.2.1 g_.2.2.2.2,ah.row 103 z2 (m.Things.filter (fun x => !(fun (t:av) => !decide (t.ID∈(a8 m.aj))) x)),ah.box b3 [v1] 110,ah.row 3 v1 (a8 m.aj),ah.box b2 sR 48,ah.box b1 [ze,z2,CN,CO,iV m.ag,iV m.ai] 48,ah.held w own]) (fun g_=>[ah.ls ze m.aj,ah.ls C9 m.Things,ah.ls CN m.Held,ah.ls CO m.Notes,ah.ls aW r.aj,ah.ls aS r.Things,ah.ls aT r.Held,ah.ls aU r.Notes]) (fun g_=>g_.1<=m.Notes.length/\g_.2.2.1=fW m.aj (a8 m.aj) (m.Notes.take g_.1)/\g_.2.2.2.2=gG m.aj (a8 m.aj) (m.Notes.take g_.1)) (fun g_=>m.Notes.length-g_.1) (0,nS,[],nS,[]) O (by exact ⟨ae,by simp [fW],by simp [gG]⟩) (sF O) (dE bL bL O) ?_
 rintro ⟨k,vn,ns,vl,ls⟩ ⟨hk1,HN,HL⟩
 dsimp only at *
 have hkl:=nJ m.aj (a8 m.aj) (m.Notes.take k);rw [<- HN,<- HL,List.length_take] at hkl
 refine U ?_
 refine C (k<m.Notes.length) ?_ ?_ <;> intro h1
 .
  obtain ⟨x1,hx1⟩:=gE m.Notes k
  refine U ?_
  refine R.nb fun b4=>?_
  rcases dv m.aj x1.ak with ⟨eW,CK⟩ | ⟨vP,lz,eW,ub,QS⟩
  .
   refine R.kc O O (fun w hw=>cv (congrArg (Value.int .i64) eW) (gM _ m.aj x1.ak w (hw.cq 0 O)))<|U ?_
   rcases Bool.eq_false_or_eq_true (decide (x1.Port∈(a8 m.aj))) with h2|h2
   .
    refine R.kc O O (fun w hw=>cv (congrArg Value.bool h2) (fu _ (a8 m.aj) x1.Port w (hw.row 5 O)))<|U ?_
    refine R.s O (s.bs (l:=([(⟨x1.Port,x1.Data,x1.aO,0⟩:Note)]:List Note)) eO fy O O O O O O O) fun b5=>?_
    refine R.ap fun v2=>?_
    refine R.back (k+1,v2,ns++([(⟨x1.Port,x1.Data,x1.aO,0⟩:Note)]),vl,ls) O (by (have e0:=hx1;(have e1:=wu (ws:=m.aj) eW;have e2:=qH e0 (by rw [e1];exact of_decide_eq_true af);rw [e1] at e2;exact ⟨ae,by rw [e2.1,HN],by rw [e2.2,HL]⟩))) aG (sF O) (ck zW bL O)
   refine R.kc O O (fun w hw=>cv (congrArg Value.bool h2) (fu _ (a8 m.aj) x1.Port w (hw.row 5 O)))<|U ?_
   refine R.back (k+1,vn,ns,vl,ls) O (by (have e0:=hx1;(have e1:=wu (ws:=m.aj) eW;have e2:=qJ e0 (by rw [e1];exact of_decide_eq_false af) (by rw [e1];simp);exact ⟨ae,by rw [e2.1,HN],by rw [e2.2,HL]⟩))) aG (sF O) (ck sI bL O)
  refine R.kc O O (fun w hw=>cv (congrArg (Value.int .i64) eW) (gM _ m.aj x1.ak w (hw.cq 0 O)))<|U ?_
  rcases Bool.eq_false_or_eq_true (decide (x1.Port∈(a8 m.aj))) with h3|h3
  .
   refine R.kc O O (fun w hw=>cv (congrArg Value.bool h3) (fu _ (a8 m.aj) x1.Port w (hw.row 5 O)))<|U ?_
   refine R.s O (s.bs (l:=([x1]:List Note)) eO fy O O O O O O O) fun b6=>?_
   refine R.ap fun v3=>?_
   refine R.back (k+1,v3,ns++([x1]),vl,ls) O (by (have e0:=hx1;(have e1:=nK (ws:=m.aj) eW;have e2:=qH e0 (by rw [e1];exact of_decide_eq_true af);rw [e1] at e2;exact ⟨ae,by rw [e2.1,HN],by rw [e2.2,HL]⟩))) aG (sF O) (ck zW bL O)
  refine R.kc O O (fun w hw=>cv (congrArg Value.bool h3) (fu _ (a8 m.aj) x1.Port w (hw.row 5 O)))<|U ?_
  refine C (0<x1.ak) ?_ ?_ <;> intro h4
  .
   refine R.s O (s.bs (l:=([x1.ak]:List Int)) lF jQ O O O O O O O) fun b7=>?_
   refine R.ap fun v4=>?_
   refine R.back (k+1,vn,ns,v4,(ls++([x1.ak]))) O (by (have e0:=hx1;(have e1:=nK (ws:=m.aj) eW;have e2:=Ag e0 (by rw [e1];exact of_decide_eq_false af) (by rw [e1];assumption);rw [e1] at e2;exact ⟨ae,by rw [e2.1,HN],by rw [e2.2,HL]⟩))) aG (sF O) (ck zW bL O)
  refine R.back (k+1,vn,ns,vl,ls) O (by (have e0:=hx1;(have e1:=nK (ws:=m.aj) eW;have e2:=qJ e0 (by rw [e1];exact of_decide_eq_false af) (by rw [e1];assumption);exact ⟨ae,by rw [e2.1,HN],by rw [e2.2,HL]⟩))) aG (sF O) (ck sI bL O)
 refine R.s O (s.aJ bL [2] _ _ _ O O O Gn O O (fun w own hw H=>nq CN m.Held w own H ae) O) fun z3=>?_
 refine R.q (q.NA (cap:=[pV b1]) O O) O<|R.s O (s.aJ cy [] _ _ _ O O O Sg O O (fun w own hw H=>wj z3 m.Held (fun (h:Held)=>decide (bY (⟨m.aj,m.Things.filter (fun x => !(fun (t:av) => !decide (t.ID∈(a8 m.aj))) x),m.Held,ns,m.ag,m.ai⟩:aA).aj h.ak<0)) _ _ Si w own H (fun W h hU=>zT h _ _ _ _ (⟨m.aj,m.Things.filter (fun x => !(fun (t:av) => !decide (t.ID∈(a8 m.aj))) x),m.Held,ns,m.ag,m.ai⟩:aA) _ W (hw.xe 7 0 O O aD hU) (hw.P3 0 0 O O hU) (Own.sl (hw.xe 3 0 O O aD hU)) (hw.P3 2 0 O O hU) (Own.sl (hw.xe 1 0 O O aD hU))) ae) O) fun z4=>U ?_
 refine C (ls.length=0) ?_ ?_ <;> intro h5
 .
  refine R.mp (fun _ hw=>hw.aR 3 _ O O)<|R.mp (fun _ hw=>hw.aR 0 _ O O)<|R.mp (fun _ hw=>hw.aR 0 _ O O) ?_
  rw [show dF r=_ from by (rewrite [List.take_of_length_le ae] at HN HL;rewrite [<- HS,mU (by show (gG _ _ _).length=0;rewrite [<- HL];assumption)];unfold eL;rewrite [<- HN]) <;> rfl]
  exact R.x1 (ze,z2,z4,vn) [5] [3,2,1,0]
 refine R.loop (fun g_:Nat×Value×(List ak)=>[(1,pV b1),(2,pV b2),(62,vl),(63,iV (ls.length:Int)),(64,iV (g_.1:Int))]) (fun g_=>[ah.row 124 z4 (m.Held.filter (fun x => !(fun (h:Held)=>decide (bY m.aj h.ak<0)) x)),ah.row 91 vn ns,ah.row 3 vl ls,ah.row 103 z2 (m.Things.filter (fun x => !(fun (t:av) => !decide (t.ID∈(a8 m.aj))) x)),ah.box b3 [v1] 110,ah.row 3 v1 (a8 m.aj),ah.box b2 sR 48,ah.box b1 [g_.2.1,z2,z4,vn,iV m.ag,iV m.ai] 48,ah.held w own]) (fun g_=>[ah.ls g_.2.1 g_.2.2,ah.ls ze m.aj,ah.ls C9 m.Things,ah.ls CN m.Held,ah.ls CO m.Notes,ah.ls aW r.aj,ah.ls aS r.Things,ah.ls aT r.Held,ah.ls aU r.Notes]) (fun g_=>g_.1<=ls.length/\g_.2.2=(ls.take g_.1).foldl without m.aj) (fun g_=>ls.length-g_.1) (0,ze,m.aj) O (by exact ⟨ae,rfl⟩) (sF O) (dE cy [0,0,1,2,3,4,5,6,7] O) ?_
 rintro ⟨j,vw,ws⟩ ⟨hj1,HW⟩
 dsimp only at *
 have hws:ws.length<=2000:=by rw [HW];exact Nat.le_trans (p6 _ _) hok.wl
 refine U ?_
 refine C (j<ls.length) ?_ ?_ <;> intro h6
 .
  obtain ⟨x2,hx2⟩:=gE ls j
  refine U ?_
  refine R.s O (s.nE Gp O O (fun w hw=>qv _ ws x2 w (hw.cq 0 O) ae) O) fun v5=>U ?_
  refine R.mp (fun _ hw=>hw.aR 0 _ O O)<|R.back (j+1,v5,(without ws x2)) O (by exact ⟨ae,by rw [List.take_add_one,hx2,HW];simp⟩) aG (sF O) (ck cy [0,2,3,4,5,6,7,8,9] O)
 refine R.mp (fun _ hw=>hw.aR 3 _ O O)<|R.mp (fun _ hw=>hw.aR 0 _ O O)<|R.mp (fun _ hw=>hw.aR 0 _ O O)<|R.back ((⟨ws,m.Things.filter (fun x => !(fun (t:av) => !decide (t.ID∈(a8 m.aj))) x),m.Held.filter (fun x => !(fun (h:Held)=>decide (bY m.aj h.ak<0)) x),ns,m.ag,m.ai⟩:aA),vw,z2,z4,vn) O (by (rw [List.take_of_length_le ae] at HN HL;rw [List.take_of_length_le ae] at HW;have hl:mT m=ls:=HL.symm;have e:kf m=(⟨ws,m.Things.filter (fun t => !!decide (t.ID∈a8 m.aj)),m.Held.filter (fun h => !decide (bY m.aj h.ak<0)),ns,m.ag,m.ai⟩:aA):=(by unfold kf;rw [hl,<- HW];unfold eL;rw [<- HN]);exact Eq.mp (congrArg (fun q:aA=>Ok q/\dF q=dF r) e) ⟨hok.kf,(vx (by rw [hl];assumption)).symm.trans HS⟩)) aG (sF O) (ck [3,4,5] [3,2,1,0,8,9,10,11] O)
end
end Go.Proofs.YtnmpibjlnninjaaGreatDoor
