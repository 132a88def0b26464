import Derived.Test.YtnmpibjlnninjaaGreatDoorCT20
namespace Go.Proofs.YtnmpibjlnninjaaGreatDoor
set_option linter.unusedVariables false
set_option linter.unusedSimpArgs false
set_option maxRecDepth 100000
set_option maxHeartbeats 90000000
section
open Go Go.RowKit
attribute [local irreducible] Run Rg Rq Qt Qa Stp Dg Do Dm bQ
theorem km (bR:Value)(l:List ak)(w:World)(own:List Nat)(H:HN w own [] [ag.ls bR l])(hl:l.length<=1000000):RC Tryz.prog 105 #[bR] H (fun z:Value=>z) (fun z=>[ag.row 126 z l]) (fun _=>[]):=by
 have BV:=H.aL 0 rfl
 refine R.eN H ?_
 rcases Bool.eq_false_or_eq_true (rW bR) with h1|h1
 .
  refine R.q (q.Lq (congrArg Value.bool h1) (q.rj (vu 0 O) O O Tryz.underlying43)) O<|U ?_
  refine R.row0 (α:=ak) 126 ?_
  rw [show l=_ from Sl.rW (H.cy 0 rfl) af]
  exact R.x1 nS [0,1] []
 refine R.q (q.Lq (congrArg Value.bool h1) (q.rj (vu 0 O) O O Tryz.underlying43)) O<|U ?_
 refine R.s O (s.bs (l:=([]:List ak)) gP eG O O O O O O O) fun b1=>U ?_
 refine R.ap fun v1=>?_
 have hz:l=(([])++l):=by (rfl)
 rw [hz]
 exact R.x1 v1 [0,1] []
theorem jQ (bR:Value)(l:List aA)(w:World)(own:List Nat)(H:HN w own [] [ag.ls bR l])(hl:l.length<=1000000):RC Tryz.prog 106 #[bR] H (fun z:Value=>z) (fun z=>[ag.row 103 z l]) (fun _=>[]):=by
 have BV:=H.aL 0 rfl
 refine R.eN H ?_
 rcases Bool.eq_false_or_eq_true (rW bR) with h1|h1
 .
  refine R.q (q.Lq (congrArg Value.bool h1) (q.rj (vu 0 O) O O Tryz.underlying44)) O<|U ?_
  refine R.row0 (α:=aA) 103 ?_
  rw [show l=_ from Sl.rW (H.cy 0 rfl) af]
  exact R.x1 nS [0,1] []
 refine R.q (q.Lq (congrArg Value.bool h1) (q.rj (vu 0 O) O O Tryz.underlying44)) O<|U ?_
 refine R.s O (s.bs (l:=([]:List aA)) kI jw O O O O O O O) fun b1=>U ?_
 refine R.ap fun v1=>?_
 have hz:l=(([])++l):=by (rfl)
 rw [hz]
 exact R.x1 v1 [0,1] []
theorem fC (bR:Value)(l:List Note)(w:World)(own:List Nat)(H:HN w own [] [ag.ls bR l])(hl:l.length<=1000000):RC Tryz.prog 108 #[bR] H (fun z:Value=>z) (fun z=>[ag.row 91 z l]) (fun _=>[]):=by
 have BV:=H.aL 0 rfl
 refine R.eN H ?_
 rcases Bool.eq_false_or_eq_true (rW bR) with h1|h1
 .
  refine R.q (q.Lq (congrArg Value.bool h1) (q.rj (vu 0 O) O O Tryz.underlying46)) O<|U ?_
  refine R.row0 (α:=Note) 91 ?_
  rw [show l=_ from Sl.rW (H.cy 0 rfl) af]
  exact R.x1 nS [0,1] []
 refine R.q (q.Lq (congrArg Value.bool h1) (q.rj (vu 0 O) O O Tryz.underlying46)) O<|U ?_
 refine R.s O (s.bs (l:=([]:List Note)) fG gD O O O O O O O) fun b1=>U ?_
 refine R.ap fun v1=>?_
 have hz:l=(([])++l):=by (rfl)
 rw [hz]
 exact R.x1 v1 [0,1] []
theorem sL (bR:Value)(l:List Note)(i:Nat)(j:Nat)(w:World)(own:List Nat)(H:HN w own [ag.row 91 bR l] [])(hij:i<=j/\j<=l.length):RC Tryz.prog 170 #[bR,iV (i:Int),iV (j:Int)] H (fun z:Value=>z) (fun z=>[ag.row 91 z (l.take i++l.drop j)]) (fun _=>[]):=by
 have Wp:=H.cap 0 rfl;have BV:=H.ck 0 rfl
 refine R.eN H ?_
 refine R.q (q.Iu (i:=i) (j:=j) (q':=l.length) (cI 0 O) O O O O fG O O O ae ae ae) O<|U ?_
 refine C (i=j) ?_ ?_ <;> intro h1
 .
  rw [show l.take i++l.drop j=_ from zu ae]
  exact R.x1 bR [0,1] []
 refine R.cO (fuel:=8) [1] O O mixed O<|D.l [0,1,3,4] [1] [] O<|U ?_
 refine D.two (i:=2) (j:=5) O O ?_ ?_
 .
  refine Do.k [1] [] (q.jT (i:=i) (cI 0 O) O O Tryz.underlying46 tr O ae) ?_
  refine D.k 5 O [1] [] (q.cz (i:=j) (cI 0 O) O O fG O ae) ?_
  refine D.p 6 O [1] [] (s.wK (a:=i) 0 _ O O O (fun w hw=>Sl.from (hw.row 0 O) ae) eL ae aG O O) fun _=>?_
  refine D.l [7] [1] [] O<|U ?_
  refine D.done<|U ?_
  refine R.q (q.sl2 (i:=(l.take i++(l.drop j)).length) (j:=l.length) (cI 0 O) O O O fG O O aG (by simp [jf];omega)) O<|R.s O (s.Cx (lo:=(l.take i++(l.drop j)).length) (hi:=l.length) (z0:=(⟨0,⟨#[]⟩,0,0⟩:Note)) 0 O O fG gD O ae aG (by simp [jf];omega)) fun _=>U ?_
  have hz:l.take i++l.drop j=(l.take i++(l.drop j)):=by (rfl)
  rw [hz]
  exact R.x1 (jT bR (i+(l.drop j).length)) [0,1] []
 refine Do.k [1] [] (q.cz (i:=j) (cI 0 O) O O fG O ae) ?_
 refine D.k 2 O [1] [] (q.jT (i:=i) (cI 0 O) O O Tryz.underlying46 tr O ae) ?_
 refine D.p 6 O [1] [] (s.wK (a:=i) 0 _ O O O (fun w hw=>Sl.from (hw.row 0 O) ae) eL ae aG O O) fun _=>?_
 refine D.l [7] [1] [] O<|U ?_
 refine D.done<|U ?_
 refine R.q (q.sl2 (i:=(l.take i++(l.drop j)).length) (j:=l.length) (cI 0 O) O O O fG O O aG (by simp [jf];omega)) O<|R.s O (s.Cx (lo:=(l.take i++(l.drop j)).length) (hi:=l.length) (z0:=(⟨0,⟨#[]⟩,0,0⟩:Note)) 0 O O fG gD O ae aG (by simp [jf];omega)) fun _=>U ?_
 have hz:l.take i++l.drop j=(l.take i++(l.drop j)):=by (rfl)
 rw [hz]
 exact R.x1 (jT bR (i+(l.drop j).length)) [0,1] []
theorem jc (bR:Value)(l:List aA)(pr:aA->Bool)(lD:Nat)(oA:List Value)(jR:dv lD)(w:World)(ia:Sl w bR l)(oB:∀W (x1:aA),Ext w W->Calls Tryz.prog lD ([x1.val]++oA).toArray W fun e w'=>e = .returned (.bool (pr x1))/\Ext W w'):Calls Tryz.prog 215 #[bR,.func (.func lD) #[] oA.toArray] w fun e w'=>e = .returned (iV (idxOf pr l))/\Ext w w':=by
 have yA:=ia.fS
 refine R.eV ?_
 refine R.loop (fun k:Nat=>[(0,bR),(1,.func (.func lD) #[] oA.toArray),(7,iV (l.length:Int)),(8,iV (k:Int))]) (fun k:Nat=>[]) (fun k:Nat=>[]) (fun k:Nat=>k<=l.length /\ ∀ (j:Nat) x,j<k->l[j]? = some x->pr x=false) (fun k:Nat=>l.length-k) 0 O (by exact ⟨ae,fun j x hj=>absurd hj (Nat.not_lt_zero _)⟩) (sF O) (dX [] [] O) ?_
 rintro k ⟨hk,HA⟩
 refine U ?_
 refine C (k<l.length) ?_ ?_ <;> intro h1
 .
  obtain ⟨x1,hx1⟩:=gE l k
  refine U ?_
  rcases Bool.eq_false_or_eq_true (pr x1) with h2|h2
  .
   refine R.c (q.call jR O O (fun w hw=>cv (congrArg Value.bool h2) (oB w x1 hw.ext))) O<|U ?_
   refine R.rt ?_
   (exact (idxOf_hit hx1 af HA).symm)
  refine R.c (q.call jR O O (fun w hw=>cv (congrArg Value.bool h2) (oB w x1 hw.ext))) O<|U ?_
  refine R.back (k+1) O (by exact ⟨ae,kV HA hx1 af⟩) ae (sF O) (dX [] [] O)
 refine R.rt ?_
 (exact (idxOf_miss af HA).symm)
theorem pn (bR:Value)(l:List Note)(pr:Note->Bool)(lD:Nat)(oA:List Value)(jR:dv lD)(w:World)(ia:Sl w bR l)(oB:∀W (x1:Note),Ext w W->Calls Tryz.prog lD ([x1.val]++oA).toArray W fun e w'=>e = .returned (.bool (pr x1))/\Ext W w'):Calls Tryz.prog 167 #[bR,.func (.func lD) #[] oA.toArray] w fun e w'=>e = .returned (iV (idxOf pr l))/\Ext w w':=by
 have yA:=ia.fS
 refine R.eV ?_
 refine R.loop (fun k:Nat=>[(0,bR),(1,.func (.func lD) #[] oA.toArray),(7,iV (l.length:Int)),(8,iV (k:Int))]) (fun k:Nat=>[]) (fun k:Nat=>[]) (fun k:Nat=>k<=l.length /\ ∀ (j:Nat) x,j<k->l[j]? = some x->pr x=false) (fun k:Nat=>l.length-k) 0 O (by exact ⟨ae,fun j x hj=>absurd hj (Nat.not_lt_zero _)⟩) (sF O) (dX [] [] O) ?_
 rintro k ⟨hk,HA⟩
 refine U ?_
 refine C (k<l.length) ?_ ?_ <;> intro h1
 .
  obtain ⟨x1,hx1⟩:=gE l k
  refine U ?_
  rcases Bool.eq_false_or_eq_true (pr x1) with h2|h2
  .
   refine R.c (q.call jR O O (fun w hw=>cv (congrArg Value.bool h2) (oB w x1 hw.ext))) O<|U ?_
   refine R.rt ?_
   (exact (idxOf_hit hx1 af HA).symm)
  refine R.c (q.call jR O O (fun w hw=>cv (congrArg Value.bool h2) (oB w x1 hw.ext))) O<|U ?_
  refine R.back (k+1) O (by exact ⟨ae,kV HA hx1 af⟩) ae (sF O) (dX [] [] O)
 refine R.rt ?_
 (exact (idxOf_miss af HA).symm)
theorem po (bR:Value)(l:List Held)(pr:Held->Bool)(lD:Nat)(oA:List Value)(jR:dv lD)(w:World)(ia:Sl w bR l)(oB:∀W (x1:Held),Ext w W->Calls Tryz.prog lD ([x1.val]++oA).toArray W fun e w'=>e = .returned (.bool (pr x1))/\Ext W w'):Calls Tryz.prog 255 #[bR,.func (.func lD) #[] oA.toArray] w fun e w'=>e = .returned (iV (idxOf pr l))/\Ext w w':=by
 have yA:=ia.fS
 refine R.eV ?_
 refine R.loop (fun k:Nat=>[(0,bR),(1,.func (.func lD) #[] oA.toArray),(7,iV (l.length:Int)),(8,iV (k:Int))]) (fun k:Nat=>[]) (fun k:Nat=>[]) (fun k:Nat=>k<=l.length /\ ∀ (j:Nat) x,j<k->l[j]? = some x->pr x=false) (fun k:Nat=>l.length-k) 0 O (by exact ⟨ae,fun j x hj=>absurd hj (Nat.not_lt_zero _)⟩) (sF O) (dX [] [] O) ?_
 rintro k ⟨hk,HA⟩
 refine U ?_
 refine C (k<l.length) ?_ ?_ <;> intro h1
 .
  obtain ⟨x1,hx1⟩:=gE l k
  refine U ?_
  rcases Bool.eq_false_or_eq_true (pr x1) with h2|h2
  .
   refine R.c (q.call jR O O (fun w hw=>cv (congrArg Value.bool h2) (oB w x1 hw.ext))) O<|U ?_
   refine R.rt ?_
   (exact (idxOf_hit hx1 af HA).symm)
  refine R.c (q.call jR O O (fun w hw=>cv (congrArg Value.bool h2) (oB w x1 hw.ext))) O<|U ?_
  refine R.back (k+1) O (by exact ⟨ae,kV HA hx1 af⟩) ae (sF O) (dX [] [] O)
 refine R.rt ?_
 (exact (idxOf_miss af HA).symm)
theorem xt (bR:Value)(l:List aA)(pr:aA->Bool)(lD:Nat)(oA:List Value)(jR:dv lD)(w:World)(own:List Nat)(H:HN w own [ag.row 103 bR l] [])(oB:∀W (x1:aA),np (blks [ag.row 103 bR l]) w W->Calls Tryz.prog lD ([x1.val]++oA).toArray W fun e w'=>e = .returned (.bool (pr x1))/\Ext W w')(hl:l.length<=1000000):RC Tryz.prog 211 #[bR,.func (.func lD) #[] oA.toArray] H (fun z:Value=>z) (fun z=>[ag.row 103 z (l.filter (fun x => !pr x))]) (fun _=>[]):=by
 have Wp:=H.cap 0 rfl;have BV:=H.ck 0 rfl
 refine R.eN H ?_
 rcases kY pr l with ⟨fR,E8⟩ | ⟨yi,Jf,fR,m6,wF,E0,c1B⟩
 .
  refine R.kc O O (fun w hw=>cv (congrArg (Value.int .i64) fR) (jc _ l pr _ _ jR w (hw.row 0 O) (fun W x1 hW=>oB W x1 ((hw.yr 1 O).trans ((Ext.upd hW).mono bA)))))<|U ?_
  rw [show l.filter (fun x => !pr x)=_ from zJ E8]
  exact R.x1 bR [0,1] []
 refine R.kc O O (fun w hw=>cv (congrArg (Value.int .i64) fR) (jc _ l pr _ _ jR w (hw.row 0 O) (fun W x1 hW=>oB W x1 ((hw.yr 1 O).trans ((Ext.upd hW).mono bA)))))<|U ?_
 refine R.loop (fun g_:Nat×Nat×(List aA)=>[(0,bR),(1,.func (.func lD) #[] oA.toArray),(5,iV (g_.1:Int)),(6,iV (g_.2.1:Int))]) (fun g_=>[ag.row 103 bR g_.2.2,ag.held w own]) (fun g_=>[]) (fun g_=>rD pr l g_.2.2 g_.1 g_.2.1) (fun g_=>l.length-g_.2.1) (yi,yi+1,l) O (by exact rD.start m6 wF E0) (sF O) (dX [0,1] [] O) ?_
 rintro ⟨a,b,acc⟩ HA
 dsimp only at *
 have t1:=HA.1;have t2:=HA.2.1;have t3:=HA.2.2.1
 refine U ?_
 refine C (b<acc.length) ?_ ?_ <;> intro h1
 .
  obtain ⟨x1,hx1⟩:=gE acc b
  refine U ?_
  refine R.nb fun b1=>?_
  rcases Bool.eq_false_or_eq_true (pr x1) with h2|h2
  .
   refine R.c (q.call jR O O (fun w hw=>cv (congrArg Value.bool h2) (oB w x1 (hw.yr 2 O)))) O<|U ?_
   refine R.back (a,b+1,acc) O (by exact HA.skip hx1 af) aJ (sF O) (cw [1,2] [] O)
  refine R.c (q.call jR O O (fun w hw=>cv (congrArg Value.bool h2) (oB w x1 (hw.yr 2 O)))) O<|U ?_
  obtain ⟨x2,hx2⟩:=gE acc a
  refine U ?_
  refine R.s O (s.UZ (z:=x1) 1 _ O hx2 O O O O (.inl OE) O) fun _=>U ?_
  refine R.back ((a+1),b+1,(acc.set a x1)) O (by exact HA.keep hx1 af) aJ (sF O) (cw [1,2] [] O)
 refine R.q (q.cz (i:=a) (cI 0 O) O O kI O ae) O<|R.s O (s.U0 (lo:=a) (z0:=(⟨0,0,⟨#[]⟩⟩:aA)) 0 _ O O kI jw O ae O) fun _=>U ?_
 refine R.q (q.jT (i:=a) (cI 0 O) O O Tryz.underlying44 Sd O aG) O<|U ?_
 refine R.Nu 0 a _ O aG O ?_
 rw [show l.filter (fun x => !pr x)=_ from HA.done ae]
 exact R.x1 (jT bR a) [0,1] []
theorem yE (bR:Value)(l:List Held)(pr:Held->Bool)(lD:Nat)(oA:List Value)(jR:dv lD)(w:World)(own:List Nat)(H:HN w own [ag.row 124 bR l] [])(oB:∀W (x1:Held),np (blks [ag.row 124 bR l]) w W->Calls Tryz.prog lD ([x1.val]++oA).toArray W fun e w'=>e = .returned (.bool (pr x1))/\Ext W w')(hl:l.length<=1000000):RC Tryz.prog 213 #[bR,.func (.func lD) #[] oA.toArray] H (fun z:Value=>z) (fun z=>[ag.row 124 z (l.filter (fun x => !pr x))]) (fun _=>[]):=by
 have Wp:=H.cap 0 rfl;have BV:=H.ck 0 rfl
 refine R.eN H ?_
 rcases kY pr l with ⟨fR,E8⟩ | ⟨yi,Jf,fR,m6,wF,E0,c1B⟩
 .
  refine R.kc O O (fun w hw=>cv (congrArg (Value.int .i64) fR) (po _ l pr _ _ jR w (hw.row 0 O) (fun W x1 hW=>oB W x1 ((hw.yr 1 O).trans ((Ext.upd hW).mono bA)))))<|U ?_
  rw [show l.filter (fun x => !pr x)=_ from zJ E8]
  exact R.x1 bR [0,1] []
 refine R.kc O O (fun w hw=>cv (congrArg (Value.int .i64) fR) (po _ l pr _ _ jR w (hw.row 0 O) (fun W x1 hW=>oB W x1 ((hw.yr 1 O).trans ((Ext.upd hW).mono bA)))))<|U ?_
 refine R.loop (fun g_:Nat×Nat×(List Held)=>[(0,bR),(1,.func (.func lD) #[] oA.toArray),(5,iV (g_.1:Int)),(6,iV (g_.2.1:Int))]) (fun g_=>[ag.row 124 bR g_.2.2,ag.held w own]) (fun g_=>[]) (fun g_=>rD pr l g_.2.2 g_.1 g_.2.1) (fun g_=>l.length-g_.2.1) (yi,yi+1,l) O (by exact rD.start m6 wF E0) (sF O) (dX [0,1] [] O) ?_
 rintro ⟨a,b,acc⟩ HA
 dsimp only at *
 have t1:=HA.1;have t2:=HA.2.1;have t3:=HA.2.2.1
 refine U ?_
 refine C (b<acc.length) ?_ ?_ <;> intro h1
 .
  obtain ⟨x1,hx1⟩:=gE acc b
  refine U ?_
  refine R.nb fun b1=>?_
  rcases Bool.eq_false_or_eq_true (pr x1) with h2|h2
  .
   refine R.c (q.call jR O O (fun w hw=>cv (congrArg Value.bool h2) (oB w x1 (hw.yr 2 O)))) O<|U ?_
   refine R.back (a,b+1,acc) O (by exact HA.skip hx1 af) aJ (sF O) (cw [1,2] [] O)
  refine R.c (q.call jR O O (fun w hw=>cv (congrArg Value.bool h2) (oB w x1 (hw.yr 2 O)))) O<|U ?_
  obtain ⟨x2,hx2⟩:=gE acc a
  refine U ?_
  refine R.s O (s.UZ (z:=x1) 1 _ O hx2 O O O O (.inl OG) O) fun _=>U ?_
  refine R.back ((a+1),b+1,(acc.set a x1)) O (by exact HA.keep hx1 af) aJ (sF O) (cw [1,2] [] O)
 refine R.q (q.cz (i:=a) (cI 0 O) O O cK O ae) O<|R.s O (s.U0 (lo:=a) (z0:=(⟨(⟨0,0⟩:Place),0⟩:Held)) 0 _ O O cK cR O ae O) fun _=>U ?_
 refine R.q (q.jT (i:=a) (cI 0 O) O O Tryz.underlying45 yW O aG) O<|U ?_
 refine R.Nu 0 a _ O aG O ?_
 rw [show l.filter (fun x => !pr x)=_ from HA.done ae]
 exact R.x1 (jT bR a) [0,1] []
theorem yF (bR:Value)(l:List ak)(pr:ak->Bool)(lD:Nat)(oA:List Value)(jR:dv lD)(w:World)(own:List Nat)(H:HN w own [ag.row 126 bR l] [])(oB:∀W (x1:ak),np (blks [ag.row 126 bR l]) w W->Calls Tryz.prog lD ([x1.val]++oA).toArray W fun e w'=>e = .returned (.bool (pr x1))/\Ext W w')(hl:l.length<=1000000):RC Tryz.prog 164 #[bR,.func (.func lD) #[] oA.toArray] H (fun z:Value=>z) (fun z=>[ag.row 126 z (l.filter (fun x => !pr x))]) (fun _=>[]):=by
 have Wp:=H.cap 0 rfl;have BV:=H.ck 0 rfl
 refine R.eN H ?_
 rcases kY pr l with ⟨fR,E8⟩ | ⟨yi,Jf,fR,m6,wF,E0,c1B⟩
 .
  refine R.kc O O (fun w hw=>cv (congrArg (Value.int .i64) fR) (oz _ l pr _ _ jR w (hw.row 0 O) (fun W x1 hW=>oB W x1 ((hw.yr 1 O).trans ((Ext.upd hW).mono bA)))))<|U ?_
  rw [show l.filter (fun x => !pr x)=_ from zJ E8]
  exact R.x1 bR [0,1] []
 refine R.kc O O (fun w hw=>cv (congrArg (Value.int .i64) fR) (oz _ l pr _ _ jR w (hw.row 0 O) (fun W x1 hW=>oB W x1 ((hw.yr 1 O).trans ((Ext.upd hW).mono bA)))))<|U ?_
 refine R.loop (fun g_:Nat×Nat×(List ak)=>[(0,bR),(1,.func (.func lD) #[] oA.toArray),(5,iV (g_.1:Int)),(6,iV (g_.2.1:Int))]) (fun g_=>[ag.row 126 bR g_.2.2,ag.held w own]) (fun g_=>[]) (fun g_=>rD pr l g_.2.2 g_.1 g_.2.1) (fun g_=>l.length-g_.2.1) (yi,yi+1,l) O (by exact rD.start m6 wF E0) (sF O) (dX [0,1] [] O) ?_
 rintro ⟨a,b,acc⟩ HA
 dsimp only at *
 have t1:=HA.1;have t2:=HA.2.1;have t3:=HA.2.2.1
 refine U ?_
 refine C (b<acc.length) ?_ ?_ <;> intro h1
 .
  obtain ⟨x1,hx1⟩:=gE acc b
  refine U ?_
  refine R.nb fun b1=>?_
  rcases Bool.eq_false_or_eq_true (pr x1) with h2|h2
  .
   refine R.c (q.call jR O O (fun w hw=>cv (congrArg Value.bool h2) (oB w x1 (hw.yr 2 O)))) O<|U ?_
   refine R.back (a,b+1,acc) O (by exact HA.skip hx1 af) aJ (sF O) (cw [1,2] [] O)
  refine R.c (q.call jR O O (fun w hw=>cv (congrArg Value.bool h2) (oB w x1 (hw.yr 2 O)))) O<|U ?_
  obtain ⟨x2,hx2⟩:=gE acc a
  refine U ?_
  refine R.s O (s.UZ (z:=x1) 1 _ O hx2 O O O O (.inl cj) O) fun _=>U ?_
  refine R.back ((a+1),b+1,(acc.set a x1)) O (by exact HA.keep hx1 af) aJ (sF O) (cw [1,2] [] O)
 refine R.q (q.cz (i:=a) (cI 0 O) O O gP O ae) O<|R.s O (s.U0 (lo:=a) (z0:=(⟨0,0,0,0,0⟩:ak)) 0 _ O O gP eG O ae O) fun _=>U ?_
 refine R.q (q.jT (i:=a) (cI 0 O) O O Tryz.underlying43 EM O aG) O<|U ?_
 refine R.Nu 0 a _ O aG O ?_
 rw [show l.filter (fun x => !pr x)=_ from HA.done ae]
 exact R.x1 (jT bR a) [0,1] []
theorem yj (bR:Value)(l:List ak)(w:World)(ia:Sl w bR l)(hl:l.length<=1000000):Calls Tryz.prog 146 #[bR] w fun e w' => ∃u,e = .returned u/\Own w.heap.size 3 w' u (br l)/\Ext w w':=Jx bR l w ia hl
theorem Jy (bR:Value)(l:List Int)(x:Int)(w:World)(ia:Sl w bR l):Calls Tryz.prog 201 #[bR,iV x] w fun e w'=>e = .returned (iV (idxOf (fun y=>y==x) l))/\Ext w w':=by
 have yA:=ia.fS
 refine R.eV ?_
 refine R.loop (fun k:Nat=>[(0,bR),(1,iV x),(7,iV (l.length:Int)),(8,iV (k:Int))]) (fun k:Nat=>[]) (fun k:Nat=>[]) (fun k:Nat=>k<=l.length /\ ∀ (j:Nat) y,j<k->l[j]? = some y->(y==x)=false) (fun k:Nat=>l.length-k) 0 O (by exact ⟨ae,fun j x hj=>absurd hj (Nat.not_lt_zero _)⟩) (sF O) (dX [] [] O) ?_
 rintro k ⟨hk,HA⟩
 refine U ?_
 refine C (k<l.length) ?_ ?_ <;> intro h1
 .
  obtain ⟨x1,hx1⟩:=gE l k
  refine U ?_
  refine C (x=x1) ?_ ?_ <;> intro h2
  .
   refine R.rt ?_
   (exact (idxOf_hit (p:=fun y=>y==x) hx1 (beq_iff_eq.2 ae) HA).symm)
  refine R.back (k+1) O (by exact ⟨ae,kV (p:=fun y=>y==x) HA hx1 (beq_eq_false_iff_ne.2 ae)⟩) ae (sF O) (dX [] [] O)
 refine R.rt ?_
 (exact (idxOf_miss af HA).symm)
theorem KX {l:List Int}{x:Int}:(0<=idxOf (fun y=>y==x) l)=(x∈l):=by
 rcases kY (fun y:Int=>y==x) l with ⟨h,hn⟩ | ⟨k,y,h,hy,he,_,_⟩
 .rw [h];simp;intro hm;have:=hn x hm;simp at this
 rw [h];simp
 have:y=x:=by simpa using he
 subst this;exact List.mem_of_getElem? hy
theorem gx (bR:Value)(l:List Int)(x:Int)(w:World)(ia:Sl w bR l):Calls Tryz.prog 144 #[bR,iV x] w fun e w'=>e = .returned (.bool (decide (x∈l)))/\Ext w w':=by
 have yA:=ia.fS
 refine R.eV ?_
 refine R.kc O O (fun w hw=>Jy _ l x w ((fun _=>Wd.old ia) w hw))<|C (idxOf (fun y=>y==x) l<0) ?_ ?_ <;> intro h1
 .
  refine R.rt ?_
  (have e:=KX (l:=l) (x:=x);exact (decide_eq_false (e▸ae)).symm)
 refine R.rt ?_
 (have e:=KX (l:=l) (x:=x);exact (decide_eq_true (e▸ae)).symm)
theorem qR (aX aR aS aT:Value)(r:aB)(p:Place)(w:World)(oK:Sl w aX r.aj)(tV:Sl w aR r.Things)(rG:Sl w aS r.Held)(yG:Sl w aT r.Notes)(hk:Ok r):Calls Tryz.prog 157 #[.agg #[aX,aR,aS,aT,iV r.ah,iV r.ai],.agg #[iV p.aD,iV p.Slot]] w fun e w'=>e = .returned (.tuple #[ak.val (aI r p).1,bQ (aI r p).2])/\Ext w w':=by
 have b1:=hk.hl
 refine R.eV ?_
 refine R.nb fun b1=>?_
 refine R.nb fun b2=>?_
 refine R.nb fun b3=>?_
 refine R.kc O O (fun w hw=>lz p w)<|U ?_
 refine C (bq p=0) ?_ ?_ <;> intro h1
 .
  rcases ea r.aj (oI r.Held p) with ⟨fR,E8⟩ | ⟨yh,m6,fR,wF,UF⟩
  .
   refine R.c6 O mixed ay<|U ?_
   refine Q.c (q.call O6 O O (fun w hw=>pd _ r.Held p w ((fun _=>Wd.old rG) w hw) ae)) O<|Q.c (q.call ER O O (fun w hw=>cv (congrArg (Value.int .i64) fR) (jl _ r.aj (oI r.Held p) w ((fun _=>Wd.old oK) w hw)))) O<|U ?_
   exact R.uv O Tryz.results157 (RV.cell 0 O O cj) (RV.tmp O) (congrArg ak.val (show (⟨0,0,0,0,0⟩:ak)=(aI r p).1 from by (rw [sX af fR];rfl))) (rC aC (by rw [sX af fR];done))
  refine R.c6 O mixed ay<|U ?_
  refine Q.c (q.call O6 O O (fun w hw=>pd _ r.Held p w ((fun _=>Wd.old rG) w hw) ae)) O<|Q.c (q.call ER O O (fun w hw=>cv (congrArg (Value.int .i64) fR) (jl _ r.aj (oI r.Held p) w ((fun _=>Wd.old oK) w hw)))) O<|U ?_
  refine R.q (q.idx (i:=yh) (fun _=>Wd.old oK) O O gP O (List.getElem?_eq_getElem m6)) O ?_
  refine R.q (q.Nl (ds:=uo (r.aj[yh])) (fun _=>Wd.old oK) (List.getElem?_eq_getElem m6) O cj O) O ?_
  refine U ?_
  exact R.uv O Tryz.results157 (RV.cell 0 O O cj) (RV.tmp O) (congrArg ak.val (show (r.aj[yh])=(aI r p).1 from by (rw [vC af fR (List.getElem?_eq_getElem m6)];done))) (vo (by rw [vC af fR (List.getElem?_eq_getElem m6)];done))
 exact R.uv O Tryz.results157 (RV.cell 0 O O cj) (RV.tmp O) (congrArg ak.val (show (⟨0,0,0,0,0⟩:ak)=(aI r p).1 from by (rw [r8 af];rfl))) (rE (by rw [r8 af];done))
theorem tD (aX aR aS aT:Value)(r:aB)(p:Place)(w:World)(oK:Sl w aX r.aj)(tV:Sl w aR r.Things)(rG:Sl w aS r.Held)(yG:Sl w aT r.Notes)(hk:Ok r):Calls Tryz.prog 155 #[.agg #[aX,aR,aS,aT,iV r.ah,iV r.ai],.agg #[iV p.aD,iV p.Slot]] w fun e w'=>e = .returned (bQ (ft r p))/\Ext w w':=by
 have b1:=hk.hl
 refine R.eV ?_
 refine R.nb fun b1=>?_
 refine R.nb fun b2=>?_
 refine R.kc O O (fun w hw=>lz p w)<|U ?_
 refine C (bq p=0) ?_ ?_ <;> intro h1
 .
  refine R.kc O O (fun w hw=>pd _ r.Held p w ((fun _=>Wd.old rG) w hw) ae)<|C (oI r.Held p=0) ?_ ?_ <;> intro h2
  .
   refine R.rt ?_
   (unfold ft;(rw [if_pos af,if_pos af];omega))
  refine R.rt ?_
  (unfold ft;(rw [if_pos af,if_neg af];done))
 refine R.rt ?_
 (unfold ft;(rw [if_neg af];done))
theorem sM (aX aR aS aT:Value)(r:aB)(w0:ak)(p:Place)(w:World)(own:List Nat)(H:HN w own [] [ag.ls aX r.aj,ag.ls aR r.Things,ag.ls aS r.Held,ag.ls aT r.Notes])(hk:r.Held.length<=3000/\r.aj.length<=3000/\0<=r.ah/\r.ah<=3000):RS Tryz.prog 156 #[.agg #[aX,aR,aS,aT,iV r.ah,iV r.ai],.agg #[iV w0.ID,iV w0.aA,iV w0.Rights,iV w0.aM,iV w0.From],.agg #[iV p.aD,iV p.Slot]] H (lu r w0 p) (fun s (z:Value×Value×Value×Value) => .agg #[z.1,z.2.1,z.2.2.1,z.2.2.2,iV s.ah,iV s.ai]) (fun _ _=>[]) (fun s z=>[ag.ls z.1 s.aj,ag.ls z.2.1 s.Things,ag.ls z.2.2.1 s.Held,ag.ls z.2.2.2 s.Notes]):=by
 have bT:=H.aL 0 rfl
 have bH:=H.aL 1 rfl
 have cr:=H.aL 2 rfl
 have bU:=H.aL 3 rfl
 have b1:=hk.1;have b2:=hk.2.1;have b3:=hk.2.2.1;have b4:=hk.2.2.2
 refine R.eN H ?_
 refine R.nb fun b1=>?_
 refine R.nb fun b2=>?_
 refine R.nb fun b3=>?_
 refine R.nb fun b4=>?_
 refine R.cO (fuel:=8) [0,1,2,4] O O mixed O<|D.l [0,3] [0,1,2,4] bm O<|U ?_
 refine D.two (i:=1) (j:=4) O O ?_ ?_
 .
  refine Do.k [0,1,2,4] bm (q.ld 3 O O iE O) ?_
  refine D.two (i:=2) (j:=4) O O ?_ ?_
  .
   refine Do.p [1,2,3,5] bm (s.aH bV [0] _ _ _ O O O AL O O (fun w own hw H=>km aX r.aj w own H ae) O) fun z2=>?_
   refine D.p 4 O qX bm (s.bs (l:=([w0]:List ak)) gP eG O O O O O O O) fun b5=>?_
   refine D.p 5 O qX bm (s.app 1 _ O O O (cI 0 O) o8 aG aG (fun _=>rfl) O) fun v1=>?_
   refine D.l [6] qX bm O<|U ?_
   refine D.p 7 O qX bm (s.lq 5 _ O O O (fun w hw=>Sl.cL (hw.row 1 O)) (.inr ⟨iE,rfl⟩) (fun w hw=>bD (Sl.one (hw.row 1 O)) cd) O O O) fun _=>?_
   refine D.done<|U ?_
   refine C (0<p.aD) ?_ ?_ <;> intro h1
   .
    refine R.s O (s.aH du [2] _ _ _ O O O xd O O (fun w own hw H=>tu aS r.Held p w0.ID w own H ae) O) fun z3=>U ?_
    refine R.mp (fun _ hw=>hw.aO 2 _ O O)<|R.mp (fun _ hw=>hw.aO 0 _ O O) ?_
    rw [show lu r w0 p=_ from by (unfold lu;(rewrite [if_pos af])) <;> rfl]
    exact R.x1 (v1,aR,z3,aT) [5] [1,3,0,5]
   refine R.mp (fun _ hw=>hw.aO 1 _ O O) ?_
   rw [show lu r w0 p=_ from by (unfold lu;(rewrite [if_neg af])) <;> rfl]
   exact R.x1 (v1,aR,aS,aT) [5] [0,2,3,4]
  refine Do.p [1,2,3,5] bm (s.bs (l:=([w0]:List ak)) gP eG O O O O O O O) fun b6=>?_
  refine D.p 2 O qX bm (s.aH fw [0] _ _ _ O O O AL O O (fun w own hw H=>km aX r.aj w own H ae) O) fun z4=>?_
  refine D.p 5 O qX bm (s.app 0 _ O O O (cI 1 O) o8 aG aG (fun _=>rfl) O) fun v2=>?_
  refine D.l [6] qX bm O<|U ?_
  refine D.p 7 O qX bm (s.lq 5 _ O O O (fun w hw=>Sl.cL (hw.row 0 O)) (.inr ⟨iE,rfl⟩) (fun w hw=>bD (Sl.one (hw.row 0 O)) cd) O O O) fun _=>?_
  refine D.done<|U ?_
  refine C (0<p.aD) ?_ ?_ <;> intro h2
  .
   refine R.s O (s.aH du [2] _ _ _ O O O xd O O (fun w own hw H=>tu aS r.Held p w0.ID w own H ae) O) fun z5=>U ?_
   refine R.mp (fun _ hw=>hw.aO 1 _ O O)<|R.mp (fun _ hw=>hw.aO 0 _ O O) ?_
   rw [show lu r w0 p=_ from by (unfold lu;(rewrite [if_pos af])) <;> rfl]
   exact R.x1 (v2,aR,z5,aT) [5] [1,3,0,5]
  refine R.mp (fun _ hw=>hw.aO 0 _ O O) ?_
  rw [show lu r w0 p=_ from by (unfold lu;(rewrite [if_neg af])) <;> rfl]
  exact R.x1 (v2,aR,aS,aT) [5] [0,2,3,4]
 refine Do.p [1,2,3,5] bm (s.bs (l:=([w0]:List ak)) gP eG O O O O O O O) fun b7=>?_
 refine D.k 1 O [1,2,3,5] bm (q.ld 4 O O iE O) ?_
 refine D.p 2 O qX bm (s.aH fw [0] _ _ _ O O O AL O O (fun w own hw H=>km aX r.aj w own H ae) O) fun z6=>?_
 refine D.p 5 O qX bm (s.app 0 _ O O O (cI 1 O) o8 aG aG (fun _=>rfl) O) fun v3=>?_
 refine D.l [6] qX bm O<|U ?_
 refine D.p 7 O qX bm (s.lq 5 _ O O O (fun w hw=>Sl.cL (hw.row 0 O)) (.inr ⟨iE,rfl⟩) (fun w hw=>bD (Sl.one (hw.row 0 O)) cd) O O O) fun _=>?_
 refine D.done<|U ?_
 refine C (0<p.aD) ?_ ?_ <;> intro h3
 .
  refine R.s O (s.aH du [2] _ _ _ O O O xd O O (fun w own hw H=>tu aS r.Held p w0.ID w own H ae) O) fun z7=>U ?_
  refine R.mp (fun _ hw=>hw.aO 1 _ O O)<|R.mp (fun _ hw=>hw.aO 0 _ O O) ?_
  rw [show lu r w0 p=_ from by (unfold lu;(rewrite [if_pos af])) <;> rfl]
  exact R.x1 (v3,aR,z7,aT) [5] [1,3,0,5]
 refine R.mp (fun _ hw=>hw.aO 0 _ O O) ?_
 rw [show lu r w0 p=_ from by (unfold lu;(rewrite [if_neg af])) <;> rfl]
 exact R.x1 (v3,aR,aS,aT) [5] [0,2,3,4]
theorem P5 (w:World)(own:List Nat)(H:HN w own [] []):RC Tryz.prog 64 #[] H (fun z:Value×Value×Value×Value => .agg #[z.1,z.2.1,z.2.2.1,z.2.2.2,iV (⟨[],[],[],[],1,1⟩:aB).ah,iV (⟨[],[],[],[],1,1⟩:aB).ai]) (fun _=>[]) (fun z=>[ag.ls z.1 ((⟨[],[],[],[],1,1⟩:aB).aj:List ak),ag.ls z.2.1 ((⟨[],[],[],[],1,1⟩:aB).Things:List aA),ag.ls z.2.2.1 ((⟨[],[],[],[],1,1⟩:aB).Held:List Held),ag.ls z.2.2.2 ((⟨[],[],[],[],1,1⟩:aB).Notes:List Note)]):=by
 refine R.eN H ?_
 refine R.nb fun b1=>?_
 exact R.jB ak aA Held Note<|R.x1 (nS,nS,nS,nS) [1] [3,2,1,0]
theorem Bw (t:aA)(w0:ak)(E9:Nat)(w:World)(P6:(ag.box E9 (uo w0) 126).ok w):Calls Tryz.prog 216 #[.agg #[iV t.ID,iV t.Kind,.string t.Data],pV E9] w fun e w'=>e = .returned (.bool (t.ID==w0.aA))/\Ext w w':=by
 refine R.enter [] [(0,.agg #[iV t.ID,iV t.Kind,.string t.Data]),(1,pV E9)] Tryz.func216 O O O O<|R.pH (r:=ag.box E9 (uo w0) 126) P6 (kz P6)<|U ?_
 refine R.nb fun b1=>?_
 refine R.q (q.BS 0 O O eX O) O<|C (t.ID=w0.aA) ?_ ?_ <;> intro h1
 .
  refine R.rt ?_
  (exact (beq_iff_eq.2 af).symm)
 refine R.rt ?_
 (exact (beq_eq_false_iff_ne.2 af).symm)
theorem yk (t:Note)(w0:ak)(E9:Nat)(w:World)(P6:(ag.box E9 (uo w0) 126).ok w):Calls Tryz.prog 168 #[.agg #[iV t.Port,.string t.Data,iV t.aM,iV t.ak],pV E9] w fun e w'=>e = .returned (.bool (t.Port==w0.aA))/\Ext w w':=by
 refine R.enter [] [(0,.agg #[iV t.Port,.string t.Data,iV t.aM,iV t.ak]),(1,pV E9)] Tryz.func168 O O O O<|R.pH (r:=ag.box E9 (uo w0) 126) P6 (kz P6)<|U ?_
 refine R.nb fun b1=>?_
 refine R.q (q.BS 0 O O eX O) O<|C (t.Port=w0.aA) ?_ ?_ <;> intro h1
 .
  refine R.rt ?_
  (exact (beq_iff_eq.2 af).symm)
 refine R.rt ?_
 (exact (beq_eq_false_iff_ne.2 af).symm)
theorem Ck (t:aA)(WU:Value)(ts:List Int)(SJ:Nat)(w:World)(ZQ:(ag.box SJ [WU] 110).ok w)(abb:Sl w WU ts):Calls Tryz.prog 212 #[.agg #[iV t.ID,iV t.Kind,.string t.Data],pV SJ] w fun e w'=>e = .returned (.bool (!decide (t.ID∈ts)))/\Ext w w':=by
 refine R.enter [] [(0,.agg #[iV t.ID,iV t.Kind,.string t.Data]),(1,pV SJ)] Tryz.func212 O O O O<|R.pH (r:=ag.box SJ [WU] 110) ZQ (kz ZQ)<|U ?_
 refine R.nb fun b1=>?_
 refine R.q (q.BS 0 O O mK O) O<|U ?_
 refine R.kc O O (fun w hw=>gx _ ts t.ID w ((fun _=>Wd.old abb) w hw))<|R.q (q.not O) O<|U ?_
 refine R.rt ?_
 rfl
theorem Cl (h:Held)(aX aR aS aT:Value)(r:aB)(Q6:Nat)(w:World)(k_r:(ag.box Q6 [aX,aR,aS,aT,iV r.ah,iV r.ai] 48).ok w)(oK:Sl w aX r.aj)(tV:Sl w aR r.Things)(rG:Sl w aS r.Held)(yG:Sl w aT r.Notes):Calls Tryz.prog 214 #[.agg #[iV h.Place.aD,iV h.Place.Slot,iV h.ak],pV Q6] w fun e w'=>e = .returned (.bool (decide (cE r.aj h.ak<0)))/\Ext w w':=by
 refine R.enter [] [(0,.agg #[iV h.Place.aD,iV h.Place.Slot,iV h.ak]),(1,pV Q6)] Tryz.func214 O O O O<|R.pH (r:=ag.box Q6 [aX,aR,aS,aT,iV r.ah,iV r.ai] 48) k_r (kz k_r)<|U ?_
 refine R.nb fun b1=>?_
 refine R.q (q.BS 0 O O iE O) O<|U ?_
 rcases ea r.aj h.ak with ⟨fR,E8⟩ | ⟨yh,m6,fR,wF,UF⟩
 .
  refine R.kc O O (fun w hw=>cv (congrArg (Value.int .i64) fR) (jl _ r.aj h.ak w ((fun _=>Wd.old oK) w hw)))<|U ?_
  refine R.rt ?_
  (exact (decide_eq_true ae).symm)
 refine R.kc O O (fun w hw=>cv (congrArg (Value.int .i64) fR) (jl _ r.aj h.ak w ((fun _=>Wd.old oK) w hw)))<|U ?_
 refine R.rt ?_
 (exact (decide_eq_false ae).symm)
theorem Cn (x:ak)(WV:Value)(gs:List Int)(SK:Nat)(w:World)(ZR:(ag.box SK [WV] 110).ok w)(abd:Sl w WV gs):Calls Tryz.prog 165 #[.agg #[iV x.ID,iV x.aA,iV x.Rights,iV x.aM,iV x.From],pV SK] w fun e w'=>e = .returned (.bool (decide (x.ID∈gs)))/\Ext w w':=by
 refine R.enter [] [(0,.agg #[iV x.ID,iV x.aA,iV x.Rights,iV x.aM,iV x.From]),(1,pV SK)] Tryz.func165 O O O O<|R.pH (r:=ag.box SK [WV] 110) ZR (kz ZR)<|U ?_
 refine R.nb fun b1=>?_
 refine R.q (q.BS 0 O O mK O) O<|U ?_
 refine R.kc O O (fun w hw=>gx _ gs x.ID w ((fun _=>Wd.old abd) w hw))<|U ?_
 refine R.rt ?_
 rfl
end
section
open Go Go.RowKit
attribute [local irreducible] Run Rg Rq Qt Qa Stp Dg Do Dm bQ
theorem uT (aX aR aS aT:Value)(r:aB)(w:World)(own:List Nat)(H:HN w own [] [ag.ls aX r.aj,ag.ls aR r.Things,ag.ls aS r.Held,ag.ls aT r.Notes])(hk:Ok r):RS Tryz.prog 162 #[.agg #[aX,aR,aS,aT,iV r.ah,iV r.ai]] H (ez r) (fun s (z:Value×Value×Value×Value) => .agg #[z.1,z.2.1,z.2.2.1,z.2.2.2,iV s.ah,iV s.ai]) (fun _ _=>[]) (fun s z=>[ag.ls z.1 s.aj,ag.ls z.2.1 s.Things,ag.ls z.2.2.1 s.Held,ag.ls z.2.2.2 s.Notes]):=by
 have bT:=H.aL 0 rfl
 have bH:=H.aL 1 rfl
 have cr:=H.aL 2 rfl
 have bU:=H.aL 3 rfl
 refine R.eN H ?_
 refine R.nb fun b1=>?_
 refine R.nb fun b2=>?_
 refine R.loop (fun g_:aB×Value×Value×Value×Value=>[(1,pV b1),(2,pV b2)]) (fun g_=>[ag.box b2 vg 48,ag.box b1 [g_.2.1,g_.2.2.1,g_.2.2.2.1,g_.2.2.2.2,iV g_.1.ah,iV g_.1.ai] 48,ag.held w own]) (fun g_=>[ag.ls g_.2.1 g_.1.aj,ag.ls g_.2.2.1 g_.1.Things,ag.ls g_.2.2.2.1 g_.1.Held,ag.ls g_.2.2.2.2 g_.1.Notes,ag.ls aX r.aj,ag.ls aR r.Things,ag.ls aS r.Held,ag.ls aT r.Notes]) (fun g_=>Ok g_.1/\ez g_.1=ez r) (fun g_=>g_.1.Notes.length) (r,aX,aR,aS,aT) O (by exact ⟨hk,rfl⟩) (sF O) (dX [0,1,2] [0,1,2,3,0,1,2,3] O) ?_
 rintro ⟨m,HI,Nb,Mu,Mv⟩ ⟨hok,HS⟩
 dsimp only at *
 have o1:=hok.wl;have o2:=hok.tl;have o3:=hok.hl;have o4:=hok.nl
 refine U ?_
 refine R.s O (s.nM OW O O (fun w hw=>yj _ m.aj w (hw.cy 0 O) ae) O) fun v1=>?_
 refine R.nb fun b3=>?_
 refine R.s O (s.aH bV [1] _ _ _ O O O AO O O (fun w own hw H=>jQ Nb m.Things w own H ae) O) fun z1=>?_
 refine R.q (q.D3 (cap:=[pV b3]) O O) O<|R.s O (s.aH fw [] _ _ _ O O O V8 O O (fun w own hw H=>xt z1 m.Things (fun (t:aA) => !decide (t.ID∈(br m.aj))) _ _ V9 w own H (fun W t hU=>Ck t _ (br m.aj) _ W (hw.zo 1 0 O O aC hU) (Own.sl (hw.zo 2 0 O O aC hU))) ae) O) fun z2=>U ?_
 refine R.row0 (α:=Int) 3<|R.row0 (α:=Note) 91<|R.loop (fun g_:Nat×Value×(List Note)×Value×(List Int)=>[(1,pV b1),(2,pV b2),(3,pV b3),(4,g_.2.2.2.1),(5,g_.2.1),(20,Mv),(21,iV (m.Notes.length:Int)),(22,iV (g_.1:Int))]) (fun g_=>[ag.row 91 g_.2.1 g_.2.2.1,ag.row 3 g_.2.2.2.1 g_.2.2.2.2,ag.row 103 z2 (m.Things.filter (fun x => !(fun (t:aA) => !decide (t.ID∈(br m.aj))) x)),ag.box b3 [v1] 110,ag.row 3 v1 (br m.aj),ag.box b2 vg 48,ag.box b1 [HI,z2,Mu,Mv,iV m.ah,iV m.ai] 48,ag.held w own]) (fun g_=>[ag.ls HI m.aj,ag.ls Nb m.Things,ag.ls Mu m.Held,ag.ls Mv m.Notes,ag.ls aX r.aj,ag.ls aR r.Things,ag.ls aS r.Held,ag.ls aT r.Notes]) (fun g_=>g_.1<=m.Notes.length/\g_.2.2.1=iy m.aj (br m.aj) (m.Notes.take g_.1)/\g_.2.2.2.2=jg m.aj (br m.aj) (m.Notes.take g_.1)) (fun g_=>m.Notes.length-g_.1) (0,nS,[],nS,[]) O (by exact ⟨ae,by simp [iy],by simp [jg]⟩) (sF O) (dX a8 a8 O) ?_
 rintro ⟨k,vn,ns,vl,ls⟩ ⟨hk1,HN,HL⟩
 dsimp only at *
 have hkl:=pK m.aj (br m.aj) (m.Notes.take k);rw [<- HN,<- HL,List.length_take] at hkl
 refine U ?_
 refine C (k<m.Notes.length) ?_ ?_ <;> intro h1
 .
  obtain ⟨x1,hx1⟩:=gE m.Notes k
  refine U ?_
  refine R.nb fun b4=>?_
  rcases ea m.aj x1.ak with ⟨fR,E8⟩ | ⟨yh,m6,fR,wF,UF⟩
  .
   refine R.kc O O (fun w hw=>cv (congrArg (Value.int .i64) fR) (jl _ m.aj x1.ak w (hw.cy 0 O)))<|U ?_
   rcases Bool.eq_false_or_eq_true (decide (x1.Port∈(br m.aj))) with h2|h2
   .
    refine R.kc O O (fun w hw=>cv (congrArg Value.bool h2) (gx _ (br m.aj) x1.Port w (hw.row 5 O)))<|U ?_
    refine R.s O (s.bs (l:=([(⟨x1.Port,x1.Data,x1.aM,0⟩:Note)]:List Note)) fG gD O O O O O O O) fun b5=>?_
    refine R.ap fun v2=>?_
    refine R.back (k+1,v2,ns++([(⟨x1.Port,x1.Data,x1.aM,0⟩:Note)]),vl,ls) O (by (have e0:=hx1;(have e1:=yM (ws:=m.aj) fR;have e2:=sY e0 (by rw [e1];exact of_decide_eq_true af);rw [e1] at e2;exact ⟨ae,by rw [e2.1,HN],by rw [e2.2,HL]⟩))) aJ (sF O) (cw Cp a8 O)
   refine R.kc O O (fun w hw=>cv (congrArg Value.bool h2) (gx _ (br m.aj) x1.Port w (hw.row 5 O)))<|U ?_
   refine R.back (k+1,vn,ns,vl,ls) O (by (have e0:=hx1;(have e1:=yM (ws:=m.aj) fR;have e2:=sZ e0 (by rw [e1];exact of_decide_eq_false af) (by rw [e1];simp);exact ⟨ae,by rw [e2.1,HN],by rw [e2.2,HL]⟩))) aJ (sF O) (cw xE a8 O)
  refine R.kc O O (fun w hw=>cv (congrArg (Value.int .i64) fR) (jl _ m.aj x1.ak w (hw.cy 0 O)))<|U ?_
  rcases Bool.eq_false_or_eq_true (decide (x1.Port∈(br m.aj))) with h3|h3
  .
   refine R.kc O O (fun w hw=>cv (congrArg Value.bool h3) (gx _ (br m.aj) x1.Port w (hw.row 5 O)))<|U ?_
   refine R.s O (s.bs (l:=([x1]:List Note)) fG gD O O O O O O O) fun b6=>?_
   refine R.ap fun v3=>?_
   refine R.back (k+1,v3,ns++([x1]),vl,ls) O (by (have e0:=hx1;(have e1:=pL (ws:=m.aj) fR;have e2:=sY e0 (by rw [e1];exact of_decide_eq_true af);rw [e1] at e2;exact ⟨ae,by rw [e2.1,HN],by rw [e2.2,HL]⟩))) aJ (sF O) (cw Cp a8 O)
  refine R.kc O O (fun w hw=>cv (congrArg Value.bool h3) (gx _ (br m.aj) x1.Port w (hw.row 5 O)))<|U ?_
  refine C (0<x1.ak) ?_ ?_ <;> intro h4
  .
   refine R.s O (s.bs (l:=([x1.ak]:List Int)) kx jW O O O O O O O) fun b7=>?_
   refine R.ap fun v4=>?_
   refine R.back (k+1,vn,ns,v4,(ls++([x1.ak]))) O (by (have e0:=hx1;(have e1:=pL (ws:=m.aj) fR;have e2:=CG e0 (by rw [e1];exact of_decide_eq_false af) (by rw [e1];assumption);rw [e1] at e2;exact ⟨ae,by rw [e2.1,HN],by rw [e2.2,HL]⟩))) aJ (sF O) (cw Cp a8 O)
  refine R.back (k+1,vn,ns,vl,ls) O (by (have e0:=hx1;(have e1:=pL (ws:=m.aj) fR;have e2:=sZ e0 (by rw [e1];exact of_decide_eq_false af) (by rw [e1];assumption);exact ⟨ae,by rw [e2.1,HN],by rw [e2.2,HL]⟩))) aJ (sF O) (cw xE a8 O)
 refine R.s O (s.aH a8 [2] _ _ _ O O O I8 O O (fun w own hw H=>pA Mu m.Held w own H ae) O) fun z3=>?_
 refine R.q (q.D3 (cap:=[pV b1]) O O) O<|R.s O (s.aH bZ [] _ _ _ O O O Wa O O (fun w own hw H=>yE z3 m.Held (fun (h:Held)=>decide (cE (⟨m.aj,m.Things.filter (fun x => !(fun (t:aA) => !decide (t.ID∈(br m.aj))) x),m.Held,ns,m.ah,m.ai⟩:aB).aj h.ak<0)) _ _ Wb w own H (fun W h hU=>Cl h _ _ _ _ (⟨m.aj,m.Things.filter (fun x => !(fun (t:aA) => !decide (t.ID∈(br m.aj))) x),m.Held,ns,m.ah,m.ai⟩:aB) _ W (hw.zo 7 0 O O aC hU) (hw.TR 0 0 O O hU) (Own.sl (hw.zo 3 0 O O aC hU)) (hw.TR 2 0 O O hU) (Own.sl (hw.zo 1 0 O O aC hU))) ae) O) fun z4=>U ?_
 refine C (ls.length=0) ?_ ?_ <;> intro h5
 .
  refine R.mp (fun _ hw=>hw.aO 3 _ O O)<|R.mp (fun _ hw=>hw.aO 0 _ O O)<|R.mp (fun _ hw=>hw.aO 0 _ O O) ?_
  rw [show ez r=_ from by (rewrite [List.take_of_length_le ae] at HN HL;rewrite [<- HS,oW (by show (jg _ _ _).length=0;rewrite [<- HL];assumption)];unfold fx;rewrite [<- HN]) <;> rfl]
  exact R.x1 (HI,z2,z4,vn) [5] [3,2,1,0]
 refine R.loop (fun g_:Nat×Value×(List ak)=>[(1,pV b1),(2,pV b2),(62,vl),(63,iV (ls.length:Int)),(64,iV (g_.1:Int))]) (fun g_=>[ag.row 124 z4 (m.Held.filter (fun x => !(fun (h:Held)=>decide (cE m.aj h.ak<0)) x)),ag.row 91 vn ns,ag.row 3 vl ls,ag.row 103 z2 (m.Things.filter (fun x => !(fun (t:aA) => !decide (t.ID∈(br m.aj))) x)),ag.box b3 [v1] 110,ag.row 3 v1 (br m.aj),ag.box b2 vg 48,ag.box b1 [g_.2.1,z2,z4,vn,iV m.ah,iV m.ai] 48,ag.held w own]) (fun g_=>[ag.ls g_.2.1 g_.2.2,ag.ls HI m.aj,ag.ls Nb m.Things,ag.ls Mu m.Held,ag.ls Mv m.Notes,ag.ls aX r.aj,ag.ls aR r.Things,ag.ls aS r.Held,ag.ls aT r.Notes]) (fun g_=>g_.1<=ls.length/\g_.2.2=(ls.take g_.1).foldl without m.aj) (fun g_=>ls.length-g_.1) (0,HI,m.aj) O (by exact ⟨ae,rfl⟩) (sF O) (dX bZ [0,0,1,2,3,4,5,6,7] O) ?_
 rintro ⟨j,vw,ws⟩ ⟨hj1,HW⟩
 dsimp only at *
 have hws:ws.length<=2000:=by rw [HW];exact Nat.le_trans (sf _ _) hok.wl
 refine U ?_
 refine C (j<ls.length) ?_ ?_ <;> intro h6
 .
  obtain ⟨x2,hx2⟩:=gE ls j
  refine U ?_
  refine R.s O (s.nM I9 O O (fun w hw=>sK _ ws x2 w (hw.cy 0 O) ae) O) fun v5=>U ?_
  refine R.mp (fun _ hw=>hw.aO 0 _ O O)<|R.back (j+1,v5,(without ws x2)) O (by exact ⟨ae,by rw [List.take_add_one,hx2,HW];simp⟩) aJ (sF O) (cw bZ [0,2,3,4,5,6,7,8,9] O)
 refine R.mp (fun _ hw=>hw.aO 3 _ O O)<|R.mp (fun _ hw=>hw.aO 0 _ O O)<|R.mp (fun _ hw=>hw.aO 0 _ O O)<|R.back ((⟨ws,m.Things.filter (fun x => !(fun (t:aA) => !decide (t.ID∈(br m.aj))) x),m.Held.filter (fun x => !(fun (h:Held)=>decide (cE m.aj h.ak<0)) x),ns,m.ah,m.ai⟩:aB),vw,z2,z4,vn) O (by (rw [List.take_of_length_le ae] at HN HL;rw [List.take_of_length_le ae] at HW;have hl:nZ m=ls:=HL.symm;have e:lT m=(⟨ws,m.Things.filter (fun t => !!decide (t.ID∈br m.aj)),m.Held.filter (fun h => !decide (cE m.aj h.ak<0)),ns,m.ah,m.ai⟩:aB):=(by unfold lT;rw [hl,<- HW];unfold fx;rw [<- HN]);exact Eq.mp (congrArg (fun q:aB=>Ok q/\ez q=ez r) e) ⟨hok.lT,(xM (by rw [hl];assumption)).symm.trans HS⟩)) aJ (sF O) (cw [3,4,5] [3,2,1,0,8,9,10,11] O)
end
section
open Go Go.RowKit
attribute [local irreducible] Run Rg Rq Qt Qa Stp Dg Do Dm bQ
theorem Mw (aX aR aS aT:Value)(r:aB)(p:Place)(kind:Int)(w:World)(own:List Nat)(H:HN w own [] [ag.ls aX r.aj,ag.ls aR r.Things,ag.ls aS r.Held,ag.ls aT r.Notes])(hk:Ok r):RS Tryz.prog 97 #[.agg #[aX,aR,aS,aT,iV r.ah,iV r.ai],.agg #[iV p.aD,iV p.Slot],iV kind] H (cG r p kind) (fun s (z:Value×Value×Value×Value) => .tuple #[.agg #[z.1,z.2.1,z.2.2.1,z.2.2.2,iV s.1.ah,iV s.1.ai],bQ s.2]) (fun _ _=>[]) (fun s z=>[ag.ls z.1 s.1.aj,ag.ls z.2.1 s.1.Things,ag.ls z.2.2.1 s.1.Held,ag.ls z.2.2.2 s.1.Notes]):=by
 have bT:=H.aL 0 rfl
 have bH:=H.aL 1 rfl
 have cr:=H.aL 2 rfl
 have bU:=H.aL 3 rfl
 have bw:=hk.wl;have bt:=hk.tl;have bh:=hk.hl;have bn:=hk.nl;have yl:=hk.w0;have ym:=hk.w1;have yn:=hk.t0;have yo:=hk.t1
 refine R.eN H ?_
 refine R.nb fun b1=>?_
 refine R.nb fun b2=>?_
 refine R.nb fun b3=>?_
 refine C (kind=1) ?_ ?_ <;> intro h1
 .
  refine R.kc O O (fun w hw=>tD _ _ _ _ r p w (hw.cy 0 O) (hw.cy 1 O) (hw.cy 2 O) (hw.cy 3 O) af)<|U ?_
  refine C (ft r p=0) ?_ ?_ <;> intro h2
  .
   refine C (r.Things.length=10) ?_ ?_ <;> intro h3
   .
    refine R.jB ak aA Held Note ?_
    rw [show cG r p kind=_ from by unfold cG;exact mR]
    exact R.x2 (nS,nS,nS,nS) [3] [3,2,1,0]
   refine C (999<r.ai) ?_ ?_ <;> intro h4
   .
    refine R.jB ak aA Held Note ?_
    rw [show cG r p kind=_ from by unfold cG;exact mR]
    exact R.x2 (nS,nS,nS,nS) [3] [3,2,1,0]
   refine C (999<r.ah) ?_ ?_ <;> intro h5
   .
    refine R.jB ak aA Held Note ?_
    rw [show cG r p kind=_ from by unfold cG;exact mR]
    exact R.x2 (nS,nS,nS,nS) [3] [3,2,1,0]
   refine R.s O (s.aH bm [1] _ _ _ O O O AO O O (fun w own hw H=>jQ aR r.Things w own H ae) O) fun z1=>U ?_
   refine R.s O (s.bs (l:=([(⟨r.ai,kind,⟨#[]⟩⟩:aA)]:List aA)) kI jw O O O O O O O) fun b4=>?_
   refine R.ap fun v1=>?_
   refine R.s O (s.pre (fun _ hw=>hw.aO 1 _ O O) (s.aH bV [1,0,3,4] _ _ _ O O O AQ O O (fun w own hw H=>sM aX v1 aS aT (⟨r.aj,r.Things++([(⟨r.ai,kind,⟨#[]⟩⟩:aA)]),r.Held,r.Notes,r.ah,r.ai+1⟩:aB) (⟨r.ah,r.ai,7,0,0⟩:ak) p w own H aJ) O)) ?_
   rintro ⟨z2,z3,z4,z5⟩
   dsimp only
   refine U ?_
   rw [show cG r p kind=_ from by unfold cG;exact mR]
   exact R.x2 (z2,z3,z4,z5) [4] [0,1,2,3]
  refine R.jB ak aA Held Note ?_
  rw [show cG r p kind=_ from by unfold cG;exact mR]
  exact R.x2 (nS,nS,nS,nS) [3] [3,2,1,0]
 refine C (kind=2) ?_ ?_ <;> intro h6
 .
  refine R.kc O O (fun w hw=>tD _ _ _ _ r p w (hw.cy 0 O) (hw.cy 1 O) (hw.cy 2 O) (hw.cy 3 O) af)<|U ?_
  refine C (ft r p=0) ?_ ?_ <;> intro h7
  .
   refine C (r.Things.length=10) ?_ ?_ <;> intro h8
   .
    refine R.jB ak aA Held Note ?_
    rw [show cG r p kind=_ from by unfold cG;exact mR]
    exact R.x2 (nS,nS,nS,nS) [3] [3,2,1,0]
   refine C (999<r.ai) ?_ ?_ <;> intro h9
   .
    refine R.jB ak aA Held Note ?_
    rw [show cG r p kind=_ from by unfold cG;exact mR]
    exact R.x2 (nS,nS,nS,nS) [3] [3,2,1,0]
   refine C (999<r.ah) ?_ ?_ <;> intro h10
   .
    refine R.jB ak aA Held Note ?_
    rw [show cG r p kind=_ from by unfold cG;exact mR]
    exact R.x2 (nS,nS,nS,nS) [3] [3,2,1,0]
   refine R.s O (s.aH bm [1] _ _ _ O O O AO O O (fun w own hw H=>jQ aR r.Things w own H ae) O) fun z6=>U ?_
   refine R.s O (s.bs (l:=([(⟨r.ai,kind,⟨#[]⟩⟩:aA)]:List aA)) kI jw O O O O O O O) fun b5=>?_
   refine R.ap fun v2=>?_
   refine R.s O (s.pre (fun _ hw=>hw.aO 1 _ O O) (s.aH bV [1,0,3,4] _ _ _ O O O AQ O O (fun w own hw H=>sM aX v2 aS aT (⟨r.aj,r.Things++([(⟨r.ai,kind,⟨#[]⟩⟩:aA)]),r.Held,r.Notes,r.ah,r.ai+1⟩:aB) (⟨r.ah,r.ai,7,0,0⟩:ak) p w own H aJ) O)) ?_
   rintro ⟨z7,z8,z9,kM⟩
   dsimp only
   refine U ?_
   rw [show cG r p kind=_ from by unfold cG;exact mR]
   exact R.x2 (z7,z8,z9,kM) [4] [0,1,2,3]
  refine R.jB ak aA Held Note ?_
  rw [show cG r p kind=_ from by unfold cG;exact mR]
  exact R.x2 (nS,nS,nS,nS) [3] [3,2,1,0]
 refine R.jB ak aA Held Note ?_
 rw [show cG r p kind=_ from by unfold cG;exact mR]
 exact R.x2 (nS,nS,nS,nS) [3] [3,2,1,0]
theorem Mx (aX aR aS aT:Value)(r:aB)(p:Place)(t:Place)(rights:Int)(cU:Int)(w:World)(own:List Nat)(H:HN w own [] [ag.ls aX r.aj,ag.ls aR r.Things,ag.ls aS r.Held,ag.ls aT r.Notes])(hk:Ok r):RS Tryz.prog 98 #[.agg #[aX,aR,aS,aT,iV r.ah,iV r.ai],.agg #[iV p.aD,iV p.Slot],.agg #[iV t.aD,iV t.Slot],iV rights,iV cU] H (dt r p t rights cU) (fun s (z:Value×Value×Value×Value) => .tuple #[.agg #[z.1,z.2.1,z.2.2.1,z.2.2.2,iV s.1.ah,iV s.1.ai],bQ s.2]) (fun _ _=>[]) (fun s z=>[ag.ls z.1 s.1.aj,ag.ls z.2.1 s.1.Things,ag.ls z.2.2.1 s.1.Held,ag.ls z.2.2.2 s.1.Notes]):=by
 have bT:=H.aL 0 rfl
 have bH:=H.aL 1 rfl
 have cr:=H.aL 2 rfl
 have bU:=H.aL 3 rfl
 have bw:=hk.wl;have bt:=hk.tl;have bh:=hk.hl;have bn:=hk.nl;have yl:=hk.w0;have ym:=hk.w1;have yn:=hk.t0;have yo:=hk.t1
 refine R.eN H ?_
 refine R.nb fun b1=>?_
 refine R.nb fun b2=>?_
 refine R.nb fun b3=>?_
 refine R.nb fun b4=>?_
 refine R.kc O O (fun w hw=>qR _ _ _ _ r p w (hw.cy 0 O) (hw.cy 1 O) (hw.cy 2 O) (hw.cy 3 O) af)<|U ?_
 refine R.nb fun b5=>?_
 refine C ((aI r p).2=0) ?_ ?_ <;> intro h1
 .
  have gh1:=hk.get h1
  refine U ?_
  refine R.kc O O (fun w hw=>tD _ _ _ _ r t w (hw.cy 0 O) (hw.cy 1 O) (hw.cy 2 O) (hw.cy 3 O) af)<|U ?_
  refine C (ft r t=0) ?_ ?_ <;> intro h2
  .
   refine C (p.aD=t.aD) ?_ ?_ <;> intro h3
   .
    refine C (999<r.ah) ?_ ?_ <;> intro h4
    .
     refine R.jB ak aA Held Note ?_
     rw [show dt r p t rights cU=_ from by unfold dt;exact mR]
     exact R.x2 (nS,nS,nS,nS) [5] [3,2,1,0]
    refine R.kc O O (fun w hw=>ox (aI r p).1 r.ah rights cU w ae)<|U ?_
    refine R.nb fun b6=>?_
    refine C ((derived (aI r p).1 r.ah rights cU).2=0) ?_ ?_ <;> intro h5
    .
     refine R.s O (s.aH du bm _ _ _ O O O AQ O O (fun w own hw H=>sM aX aR aS aT r (derived (aI r p).1 r.ah rights cU).1 t w own H ae) O) ?_
     rintro ⟨z1,z2,z3,z4⟩
     dsimp only
     refine U ?_
     rw [show dt r p t rights cU=_ from by unfold dt;exact mR]
     exact R.x2 (z1,z2,z3,z4) [6] [0,1,2,3]
    refine R.jB ak aA Held Note ?_
    rw [show dt r p t rights cU=_ from by unfold dt;exact mR]
    exact R.x2 (nS,nS,nS,nS) [6] [3,2,1,0]
   rcases Bool.eq_false_or_eq_true (iI (aI r p).1.Rights 4) with h6|h6
   .
    refine R.kc O O (fun w hw=>cv (congrArg Value.bool h6) (g8 (aI r p).1.Rights 4 w ae ae))<|U ?_
    refine C (999<r.ah) ?_ ?_ <;> intro h7
    .
     refine R.jB ak aA Held Note ?_
     rw [show dt r p t rights cU=_ from by unfold dt;exact mR]
     exact R.x2 (nS,nS,nS,nS) [5] [3,2,1,0]
    refine R.kc O O (fun w hw=>ox (aI r p).1 r.ah rights cU w ae)<|U ?_
    refine R.nb fun b7=>?_
    refine C ((derived (aI r p).1 r.ah rights cU).2=0) ?_ ?_ <;> intro h8
    .
     refine R.s O (s.aH du bm _ _ _ O O O AQ O O (fun w own hw H=>sM aX aR aS aT r (derived (aI r p).1 r.ah rights cU).1 t w own H ae) O) ?_
     rintro ⟨z5,z6,z7,z8⟩
     dsimp only
     refine U ?_
     rw [show dt r p t rights cU=_ from by unfold dt;exact mR]
     exact R.x2 (z5,z6,z7,z8) [6] [0,1,2,3]
    refine R.jB ak aA Held Note ?_
    rw [show dt r p t rights cU=_ from by unfold dt;exact mR]
    exact R.x2 (nS,nS,nS,nS) [6] [3,2,1,0]
   refine R.kc O O (fun w hw=>cv (congrArg Value.bool h6) (g8 (aI r p).1.Rights 4 w ae ae))<|U ?_
   refine R.jB ak aA Held Note ?_
   have hz:dt r p t rights cU=((⟨[],[],[],[],0,0⟩:aB),7):=by (unfold dt;(repeat' split) <;> first|rfl|(exfalso;omega)|(simp_all;done))
   rw [hz]
   exact R.x2 (nS,nS,nS,nS) [5] [3,2,1,0]
  refine R.jB ak aA Held Note ?_
  rw [show dt r p t rights cU=_ from by unfold dt;exact mR]
  exact R.x2 (nS,nS,nS,nS) [5] [3,2,1,0]
 refine R.jB ak aA Held Note ?_
 rw [show dt r p t rights cU=_ from by unfold dt;exact mR]
 exact R.x2 (nS,nS,nS,nS) [5] [3,2,1,0]
theorem My (aX aR aS aT:Value)(r:aB)(p:Place)(slot:Int)(w:World)(own:List Nat)(H:HN w own [] [ag.ls aX r.aj,ag.ls aR r.Things,ag.ls aS r.Held,ag.ls aT r.Notes])(hk:Ok r):RS Tryz.prog 99 #[.agg #[aX,aR,aS,aT,iV r.ah,iV r.ai],.agg #[iV p.aD,iV p.Slot],iV slot] H (gC r p slot) (fun s (z:Value×Value×Value×Value) => .tuple #[.agg #[z.1,z.2.1,z.2.2.1,z.2.2.2,iV s.1.ah,iV s.1.ai],bQ s.2]) (fun _ _=>[]) (fun s z=>[ag.ls z.1 s.1.aj,ag.ls z.2.1 s.1.Things,ag.ls z.2.2.1 s.1.Held,ag.ls z.2.2.2 s.1.Notes]):=by
 have bT:=H.aL 0 rfl
 have bH:=H.aL 1 rfl
 have cr:=H.aL 2 rfl
 have bU:=H.aL 3 rfl
 have bw:=hk.wl;have bt:=hk.tl;have bh:=hk.hl;have bn:=hk.nl;have yl:=hk.w0;have ym:=hk.w1;have yn:=hk.t0;have yo:=hk.t1
 have bp:=nV r.Held p 0
 refine R.eN H ?_
 refine R.nb fun b1=>?_
 refine R.nb fun b2=>?_
 refine R.nb fun b3=>?_
 refine R.kc O O (fun w hw=>qR _ _ _ _ r p w (hw.cy 0 O) (hw.cy 1 O) (hw.cy 2 O) (hw.cy 3 O) af)<|U ?_
 refine R.nb fun b4=>?_
 refine C ((aI r p).2=0) ?_ ?_ <;> intro h1
 .
  refine R.nb fun b5=>?_
  refine R.kc O O (fun w hw=>tD _ _ _ _ r (⟨p.aD,slot⟩:Place) w (hw.cy 0 O) (hw.cy 1 O) (hw.cy 2 O) (hw.cy 3 O) af)<|U ?_
  refine C (ft r (⟨p.aD,slot⟩:Place)=0) ?_ ?_ <;> intro h2
  .
   refine R.cO (fuel:=10) rL O O mixed O<|D.l [0,2,4,5,6] rL bm O<|U ?_
   refine D.k 1 O rL bm (q.ld 4 O O jD O) ?_
   refine D.p 3 O t6 bm (s.aH fw [2] _ _ _ O O O xd O O (fun w own hw H=>tu aS r.Held p 0 w own H ae) O) fun z3=>?_
   refine D.p 7 O t6 j6 (s.pre (fun _ hw=>hw.aO 0 _ O O) (s.aH fw [0] _ _ _ O O O xd O O (fun w own hw H=>tu z3 (fW r.Held p 0) (⟨p.aD,slot⟩:Place) (aI r p).1.ID w own H ae) O)) fun z4=>?_
   refine D.l [8] t6 j6 O<|U ?_
   refine D.p 9 O t6 j6 (s.lq 5 _ O O O (fun w hw=>Sl.cL (hw.row 0 O)) (.inr ⟨jD,rfl⟩) (fun w hw=>bD (Sl.one (hw.row 0 O)) cd) O O O) fun _=>?_
   refine D.done<|U ?_
   refine R.mp (fun _ hw=>hw.aO 0 _ O O) ?_
   rw [show gC r p slot=_ from by unfold gC;exact mR]
   exact R.x2 (aX,aR,z4,aT) [5] [2,3,0,5]
  refine R.jB ak aA Held Note ?_
  rw [show gC r p slot=_ from by unfold gC;exact mR]
  exact R.x2 (nS,nS,nS,nS) [5] [3,2,1,0]
 refine R.jB ak aA Held Note ?_
 rw [show gC r p slot=_ from by unfold gC;exact mR]
 exact R.x2 (nS,nS,nS,nS) [4] [3,2,1,0]
theorem Mz (aX aR aS aT:Value)(r:aB)(p:Place)(w:World)(own:List Nat)(H:HN w own [] [ag.ls aX r.aj,ag.ls aR r.Things,ag.ls aS r.Held,ag.ls aT r.Notes])(hk:Ok r):RS Tryz.prog 100 #[.agg #[aX,aR,aS,aT,iV r.ah,iV r.ai],.agg #[iV p.aD,iV p.Slot]] H (iK r p) (fun s (z:Value×Value×Value×Value) => .tuple #[.agg #[z.1,z.2.1,z.2.2.1,z.2.2.2,iV s.1.ah,iV s.1.ai],bQ s.2]) (fun _ _=>[]) (fun s z=>[ag.ls z.1 s.1.aj,ag.ls z.2.1 s.1.Things,ag.ls z.2.2.1 s.1.Held,ag.ls z.2.2.2 s.1.Notes]):=by
 have bT:=H.aL 0 rfl
 have bH:=H.aL 1 rfl
 have cr:=H.aL 2 rfl
 have bU:=H.aL 3 rfl
 have bw:=hk.wl;have bt:=hk.tl;have bh:=hk.hl;have bn:=hk.nl;have yl:=hk.w0;have ym:=hk.w1;have yn:=hk.t0;have yo:=hk.t1
 have hkd:=hk.wo (aI r p).1.ID
 refine R.eN H ?_
 refine R.nb fun b1=>?_
 refine R.nb fun b2=>?_
 refine R.nb fun b3=>?_
 refine R.kc O O (fun w hw=>qR _ _ _ _ r p w (hw.cy 0 O) (hw.cy 1 O) (hw.cy 2 O) (hw.cy 3 O) af)<|U ?_
 refine R.nb fun b4=>?_
 refine C ((aI r p).2=0) ?_ ?_ <;> intro h1
 .
  refine R.s O (s.nM I9 O O (fun w hw=>sK _ r.aj (aI r p).1.ID w (hw.cy 0 O) ae) O) fun v1=>U ?_
  refine R.s O (s.pre (fun _ hw=>hw.aO 0 _ O O) (s.aH bV [0,2,3,4] _ _ _ O O O Ja O O (fun w own hw H=>uT v1 aR aS aT (⟨without r.aj (aI r p).1.ID,r.Things,r.Held,r.Notes,r.ah,r.ai⟩:aB) w own H af) O)) ?_
  rintro ⟨z1,z2,z3,z4⟩
  dsimp only
  refine U ?_
  rw [show iK r p=_ from by unfold iK;exact mR]
  exact R.x2 (z1,z2,z3,z4) [4] [0,1,2,3]
 refine R.jB ak aA Held Note ?_
 rw [show iK r p=_ from by unfold iK;exact mR]
 exact R.x2 (nS,nS,nS,nS) [4] [3,2,1,0]
theorem HV (aX aR aS aT:Value)(r:aB)(p:Place)(w:World)(own:List Nat)(H:HN w own [] [ag.ls aX r.aj,ag.ls aR r.Things,ag.ls aS r.Held,ag.ls aT r.Notes])(hk:Ok r):RS Tryz.prog 101 #[.agg #[aX,aR,aS,aT,iV r.ah,iV r.ai],.agg #[iV p.aD,iV p.Slot]] H (dI r p) (fun s (z:Value×Value×Value×Value) => .tuple #[.agg #[z.1,z.2.1,z.2.2.1,z.2.2.2,iV s.1.ah,iV s.1.ai],bQ s.2]) (fun _ _=>[]) (fun s z=>[ag.ls z.1 s.1.aj,ag.ls z.2.1 s.1.Things,ag.ls z.2.2.1 s.1.Held,ag.ls z.2.2.2 s.1.Notes]):=by
 have bT:=H.aL 0 rfl
 have bH:=H.aL 1 rfl
 have cr:=H.aL 2 rfl
 have bU:=H.aL 3 rfl
 have bw:=hk.wl;have bt:=hk.tl;have bh:=hk.hl;have bn:=hk.nl;have yl:=hk.w0;have ym:=hk.w1;have yn:=hk.t0;have yo:=hk.t1
 have hkd:Ok (⟨r.aj.filter (fun x => !(fun (x:ak)=>decide (x.ID∈(gW (aI r p).1.ID r.aj))) x),r.Things,r.Held,r.Notes,r.ah,r.ai⟩:aB):=hk.cut (aI r p).1.ID
 refine R.eN H ?_
 refine R.nb fun b1=>?_
 refine R.nb fun b2=>?_
 refine R.nb fun b3=>?_
 refine R.kc O O (fun w hw=>qR _ _ _ _ r p w (hw.cy 0 O) (hw.cy 1 O) (hw.cy 2 O) (hw.cy 3 O) af)<|U ?_
 refine R.nb fun b4=>?_
 refine C ((aI r p).2=0) ?_ ?_ <;> intro h1
 .
  refine R.s O (s.nM O0 O O (fun w hw=>wn _ r.aj (aI r p).1.ID w (hw.cy 0 O) ae) O) fun v1=>?_
  refine R.nb fun b5=>?_
  refine R.s O (s.aH du [0] _ _ _ O O O AL O O (fun w own hw H=>km aX r.aj w own H ae) O) fun z1=>?_
  refine R.q (q.D3 (cap:=[pV b5]) O O) O<|R.s O (s.aH a8 [] _ _ _ O O O VO O O (fun w own hw H=>yF z1 r.aj (fun (x:ak)=>decide (x.ID∈(gW (aI r p).1.ID r.aj))) _ _ VP w own H (fun W x hU=>Cn x _ (gW (aI r p).1.ID r.aj) _ W (hw.zo 1 0 O O aC hU) (Own.sl (hw.zo 2 0 O O aC hU))) ae) O) fun z2=>U ?_
  refine R.s O (s.pre (fun _ hw=>hw.aO 0 _ O O) (s.aH du [0,2,3,4] _ _ _ O O O Ja O O (fun w own hw H=>by have Ws:=uT z2 aR aS aT (⟨r.aj.filter (fun x => !(fun (x:ak)=>decide (x.ID∈(gW (aI r p).1.ID r.aj))) x),r.Things,r.Held,r.Notes,r.ah,r.ai⟩:aB) w own H af;exact Ws) O)) ?_
  rintro ⟨z3,z4,z5,z6⟩
  dsimp only
  refine U ?_
  rw [show dI r p=_ from by unfold dI;exact mR]
  exact R.x2 (z3,z4,z5,z6) [6] [0,1,2,3]
 refine R.jB ak aA Held Note ?_
 rw [show dI r p=_ from by unfold dI;exact mR]
 exact R.x2 (nS,nS,nS,nS) [4] [3,2,1,0]
theorem wq (aX aR aS aT:Value)(r:aB)(p:Place)(kind:Int)(rights:Int)(w:World)(oK:Sl w aX r.aj)(tV:Sl w aR r.Things)(rG:Sl w aS r.Held)(yG:Sl w aT r.Notes)(hk:Ok r)(hr:0<=rights/\rights<=7):Calls Tryz.prog 166 #[.agg #[aX,aR,aS,aT,iV r.ah,iV r.ai],.agg #[iV p.aD,iV p.Slot],iV kind,iV rights] w fun e w'=>e = .returned (.tuple #[ak.val (bO r p kind rights).1,iV (bO r p kind rights).2.1,bQ (bO r p kind rights).2.2])/\Ext w w':=by
 have bw:=hk.wl;have bt:=hk.tl;have bh:=hk.hl;have bn:=hk.nl;have yl:=hk.w0;have ym:=hk.w1;have yn:=hk.t0;have yo:=hk.t1
 refine R.eV ?_
 refine R.nb fun b1=>?_
 refine R.nb fun b2=>?_
 refine R.nb fun b3=>?_
 refine R.kc O O (fun w hw=>qR _ _ _ _ r p w ((fun _=>Wd.old oK) w hw) ((fun _=>Wd.old tV) w hw) ((fun _=>Wd.old rG) w hw) ((fun _=>Wd.old yG) w hw) af)<|U ?_
 refine R.nb fun b4=>?_
 refine C ((aI r p).2=0) ?_ ?_ <;> intro h1
 .
  have gh1:=hk.get h1
  refine U ?_
  refine R.q (q.D3 (cap:=[pV b4]) O O) O ?_
  rcases kY (fun (t:aA)=>t.ID==(aI r p).1.aA) r.Things with ⟨fR,E8⟩ | ⟨yi,Jf,fR,m6,wF,E0,c1B⟩
  .
   refine R.kc O O (fun w hw=>cv (congrArg (Value.int .i64) fR) (jc _ r.Things (fun (t:aA)=>t.ID==(aI r p).1.aA) _ _ O7 w ((fun _=>Wd.old tV) w hw) (fun W t hW=>Bw t (aI r p).1 _ W (vp (hw.b 0 O) hW))))<|U ?_
   exact R.QY O Tryz.results166 (RV.cell 1 O O cj) (RV.tmp O) (RV.tmp O) (congrArg ak.val (show (⟨0,0,0,0,0⟩:ak)=(bO r p kind rights).1 from by (rw [lU af E8];rfl))) (rI (by rw [lU af E8];done)) (rC aC (by rw [lU af E8];done))
  refine R.kc O O (fun w hw=>cv (congrArg (Value.int .i64) fR) (jc _ r.Things (fun (t:aA)=>t.ID==(aI r p).1.aA) _ _ O7 w ((fun _=>Wd.old tV) w hw) (fun W t hW=>Bw t (aI r p).1 _ W (vp (hw.b 0 O) hW))))<|U ?_
  refine C (Jf.Kind=kind) ?_ ?_ <;> intro h2
  .
   rcases Bool.eq_false_or_eq_true (iI (aI r p).1.Rights rights) with h3|h3
   .
    refine R.kc O O (fun w hw=>cv (congrArg Value.bool h3) (g8 (aI r p).1.Rights rights w ae ae))<|U ?_
    exact R.QY O Tryz.results166 (RV.cell 1 O O cj) (RV.tmp O) (RV.tmp O) (congrArg ak.val (show (aI r p).1=(bO r p kind rights).1 from by (rw [qu af m6 wF E0 af af];done))) (rI (by rw [qu af m6 wF E0 af af];done)) (vo (by rw [qu af m6 wF E0 af af];done))
   refine R.kc O O (fun w hw=>cv (congrArg Value.bool h3) (g8 (aI r p).1.Rights rights w ae ae))<|U ?_
   exact R.QY O Tryz.results166 (RV.cell 1 O O cj) (RV.tmp O) (RV.tmp O) (congrArg ak.val (show (⟨0,0,0,0,0⟩:ak)=(bO r p kind rights).1 from by (rw [kD af m6 wF E0 af af];rfl))) (rI (by rw [kD af m6 wF E0 af af];done)) (rC aC (by rw [kD af m6 wF E0 af af];done))
  exact R.QY O Tryz.results166 (RV.cell 1 O O cj) (RV.tmp O) (RV.tmp O) (congrArg ak.val (show (⟨0,0,0,0,0⟩:ak)=(bO r p kind rights).1 from by (rw [lV af m6 wF E0 af];rfl))) (rI (by rw [lV af m6 wF E0 af];done)) (rC aC (by rw [lV af m6 wF E0 af];done))
 exact R.QY O Tryz.results166 (RV.cell 1 O O cj) (RV.tmp O) (RV.tmp O) (congrArg ak.val (show (⟨0,0,0,0,0⟩:ak)=(bO r p kind rights).1 from by (rw [oa af];rfl))) (rI (by rw [oa af];done)) (rE (by rw [oa af];done))
theorem MA (aX aR aS aT:Value)(r:aB)(p:Place)(w:World)(oK:Sl w aX r.aj)(tV:Sl w aR r.Things)(rG:Sl w aS r.Held)(yG:Sl w aT r.Notes)(hk:Ok r):Calls Tryz.prog 225 #[.agg #[aX,aR,aS,aT,iV r.ah,iV r.ai],.agg #[iV p.aD,iV p.Slot]] w fun e w'=>e = .returned (.tuple #[.string (iz r p).1,bQ (iz r p).2])/\Ext w w':=by
 have bw:=hk.wl;have bt:=hk.tl;have bh:=hk.hl;have bn:=hk.nl;have yl:=hk.w0;have ym:=hk.w1;have yn:=hk.t0;have yo:=hk.t1
 refine R.eV ?_
 refine R.nb fun b1=>?_
 refine R.nb fun b2=>?_
 refine R.kc O O (fun w hw=>wq _ _ _ _ r p 1 1 w ((fun _=>Wd.old oK) w hw) ((fun _=>Wd.old tV) w hw) ((fun _=>Wd.old rG) w hw) ((fun _=>Wd.old yG) w hw) af ae)<|U ?_
 refine R.nb fun b3=>?_
 refine C ((bO r p 1 1).2.2=0) ?_ ?_ <;> intro h1
 .
  obtain ⟨m1,m2,m3,i,ix,ik,ih,ii,id,ib⟩:=jV h1;have iB:=(List.getElem?_eq_some_iff.1 ih).1
  refine U ?_
  obtain ⟨x1,hx1⟩:=gE r.Things ((bO r p 1 1).2.1.toNat)
  refine R.q (q.idx (i:=(bO r p 1 1).2.1.toNat) (fun _=>Wd.old tV) O O kI ae hx1) O<|U ?_
  exact R.Fu O Tryz.results225 O O (rS (by (unfold iz;(repeat' split) <;> first|rfl|(exfalso;omega)|(simp_all;done)))) (vo (by (unfold iz;(repeat' split) <;> rfl)))
 exact R.Fu O Tryz.results225 O O (rS (by (unfold iz;(repeat' split) <;> first|rfl|(exfalso;omega)|(simp_all;done)))) (rE (by (unfold iz;(repeat' split) <;> first|rfl|(exfalso;omega)|(simp_all;done))))
theorem Jz (aX aR aS aT:Value)(r:aB)(p:Place)(d:ByteArray)(w:World)(own:List Nat)(H:HN w own [] [ag.ls aX r.aj,ag.ls aR r.Things,ag.ls aS r.Held,ag.ls aT r.Notes])(hk:Ok r):RS Tryz.prog 102 #[.agg #[aX,aR,aS,aT,iV r.ah,iV r.ai],.agg #[iV p.aD,iV p.Slot],.string d] H (eh r p d) (fun s (z:Value×Value×Value×Value) => .tuple #[.agg #[z.1,z.2.1,z.2.2.1,z.2.2.2,iV s.1.ah,iV s.1.ai],bQ s.2]) (fun _ _=>[]) (fun s z=>[ag.ls z.1 s.1.aj,ag.ls z.2.1 s.1.Things,ag.ls z.2.2.1 s.1.Held,ag.ls z.2.2.2 s.1.Notes]):=by
 have bT:=H.aL 0 rfl
 have bH:=H.aL 1 rfl
 have cr:=H.aL 2 rfl
 have bU:=H.aL 3 rfl
 have bw:=hk.wl;have bt:=hk.tl;have bh:=hk.hl;have bn:=hk.nl;have yl:=hk.w0;have ym:=hk.w1;have yn:=hk.t0;have yo:=hk.t1
 refine R.eN H ?_
 refine R.nb fun b1=>?_
 refine R.nb fun b2=>?_
 refine R.nb fun b3=>?_
 refine R.kc O O (fun w hw=>wq _ _ _ _ r p 1 2 w (hw.cy 0 O) (hw.cy 1 O) (hw.cy 2 O) (hw.cy 3 O) af ae)<|U ?_
 refine R.nb fun b4=>?_
 refine C ((bO r p 1 2).2.2=0) ?_ ?_ <;> intro h1
 .
  obtain ⟨m1,m2,m3,i,ix,ik,ih,ii,id,ib⟩:=jV h1;have iB:=(List.getElem?_eq_some_iff.1 ih).1
  refine U ?_
  refine C (8<d.size) ?_ ?_ <;> intro h2
  .
   refine R.jB ak aA Held Note ?_
   rw [show eh r p d=_ from by unfold eh gJ;exact mR]
   exact R.x2 (nS,nS,nS,nS) [4] [3,2,1,0]
  refine R.s O (s.aH bV [1] _ _ _ O O O AO O O (fun w own hw H=>jQ aR r.Things w own H ae) O) fun z1=>U ?_
  obtain ⟨x1,hx1⟩:=gE r.Things ((bO r p 1 2).2.1.toNat)
  refine R.q (q.idx (i:=(bO r p 1 2).2.1.toNat) (cI 0 O) O O kI ae hx1) O<|U ?_
  refine R.s O (s.stP (o:=2) (z:=(⟨x1.ID,x1.Kind,d⟩:aA)) 0 _ O hx1 O O O O O (by simp [Value.oneCell']) (.inr ⟨jN,rfl⟩) O) fun _=>U ?_
  refine R.mp (fun _ hw=>hw.aO 0 _ O O) ?_
  have hz:eh r p d=((⟨r.aj,r.Things.set (bO r p 1 2).2.1.toNat (⟨x1.ID,x1.Kind,d⟩:aA),r.Held,r.Notes,r.ah,r.ai⟩:aB),0):=by (unfold eh gJ;(repeat' split) <;> first|rfl|(exfalso;omega)|(simp_all;done))
  rw [hz]
  exact R.x2 (aX,z1,aS,aT) [4] [1,0,3,4]
 refine R.jB ak aA Held Note ?_
 rw [show eh r p d=_ from by unfold eh gJ;exact mR]
 exact R.x2 (nS,nS,nS,nS) [4] [3,2,1,0]
theorem DF (aX aR aS aT:Value)(r:aB)(p:Place)(d:ByteArray)(slot:Int)(rights:Int)(w:World)(own:List Nat)(H:HN w own [] [ag.ls aX r.aj,ag.ls aR r.Things,ag.ls aS r.Held,ag.ls aT r.Notes])(hk:Ok r):RS Tryz.prog 103 #[.agg #[aX,aR,aS,aT,iV r.ah,iV r.ai],.agg #[iV p.aD,iV p.Slot],.string d,iV slot,iV rights] H (cm r p d slot rights) (fun s (z:Value×Value×Value×Value) => .tuple #[.agg #[z.1,z.2.1,z.2.2.1,z.2.2.2,iV s.1.ah,iV s.1.ai],bQ s.2]) (fun _ _=>[]) (fun s z=>[ag.ls z.1 s.1.aj,ag.ls z.2.1 s.1.Things,ag.ls z.2.2.1 s.1.Held,ag.ls z.2.2.2 s.1.Notes]):=by
 have bT:=H.aL 0 rfl
 have bH:=H.aL 1 rfl
 have cr:=H.aL 2 rfl
 have bU:=H.aL 3 rfl
 have bw:=hk.wl;have bt:=hk.tl;have bh:=hk.hl;have bn:=hk.nl;have yl:=hk.w0;have ym:=hk.w1;have yn:=hk.t0;have yo:=hk.t1
 refine R.eN H ?_
 refine R.nb fun b1=>?_
 refine R.nb fun b2=>?_
 refine R.nb fun b3=>?_
 refine R.kc O O (fun w hw=>wq _ _ _ _ r p 2 2 w (hw.cy 0 O) (hw.cy 1 O) (hw.cy 2 O) (hw.cy 3 O) af ae)<|U ?_
 refine R.nb fun b4=>?_
 refine C ((bO r p 2 2).2.2=0) ?_ ?_ <;> intro h1
 .
  have mz:=jV h1;have mr:=hk.get mz.1;rw [<- mz.2.1] at mr
  refine U ?_
  refine C (8<d.size) ?_ ?_ <;> intro h2
  .
   refine R.jB ak aA Held Note ?_
   rw [show cm r p d slot rights=_ from by unfold cm;exact mR]
   exact R.x2 (nS,nS,nS,nS) [4] [3,2,1,0]
  refine R.loop (fun g_:Nat×Nat=>[(2,.string d),(3,iV slot),(4,iV rights),(5,pV b1),(6,pV b2),(10,pV b3),(12,pV b4),(15,iV (g_.2:Int)),(39,aT),(40,iV (r.Notes.length:Int)),(41,iV (g_.1:Int))]) (fun g_=>[ag.box b4 [iV (bO r p 2 2).1.ID,iV (bO r p 2 2).1.aA,iV (bO r p 2 2).1.Rights,iV (bO r p 2 2).1.aM,iV (bO r p 2 2).1.From] 126,ag.box b3 vg 48,ag.box b2 (iD p) 32,ag.box b1 [aX,aR,aS,aT,iV r.ah,iV r.ai] 48,ag.held w own]) (fun g_=>[ag.ls aX r.aj,ag.ls aR r.Things,ag.ls aS r.Held,ag.ls aT r.Notes]) (fun g_=>g_.1<=r.Notes.length/\g_.2=gv (r.Notes.take g_.1) (bO r p 2 2).1.aA) (fun g_=>r.Notes.length-g_.1) (0,0) O (by exact ⟨ae,by simp [gv]⟩) (sF O) (dX bV bm O) ?_
  rintro ⟨k,c⟩ ⟨hk1,HC⟩
  dsimp only at *
  have hc1:c<=k:=by rw [HC];exact Kc
  refine U ?_
  refine C (k<r.Notes.length) ?_ ?_ <;> intro h3
  .
   obtain ⟨x1,hx1⟩:=gE r.Notes k
   refine U ?_
   refine R.nb fun b5=>?_
   refine C (x1.Port=(bO r p 2 2).1.aA) ?_ ?_ <;> intro h4
   .refine R.back ((k+1),(c+1)) O (by exact ⟨ae,by rw [Gb hx1 af,HC]⟩) aJ (sF O) (cw oL bm O)
   refine R.back ((k+1),c) O (by exact ⟨ae,by rw [CH hx1 af,HC]⟩) aJ (sF O) (cw oL bm O)
  refine C (c=3) ?_ ?_ <;> intro h5
  .
   refine R.jB ak aA Held Note ?_
   rw [show cm r p d slot rights=_ from by rewrite [List.take_of_length_le ae] at HC;subst HC;unfold cm;exact mR]
   exact R.x2 (nS,nS,nS,nS) [4] [3,2,1,0]
  refine R.nb fun b6=>?_
  refine C (slot<0) ?_ ?_ <;> intro h6
  .
   refine R.cO (fuel:=8) rL O O mixed O<|D.l [0,3] rL bm O<|U ?_
   refine D.two (i:=1) (j:=4) O O ?_ ?_
   .
    refine Do.k rL bm (q.ld 4 O O dP O) ?_
    refine D.two (i:=2) (j:=4) O O ?_ ?_
    .
     refine Do.p t6 bm (s.aH fw [3] _ _ _ O O O qK O O (fun w own hw H=>fC aT r.Notes w own H ae) O) fun z2=>?_
     refine D.p 4 O qY bm (s.bs (l:=([(⟨((bO r p 2 2).1).aA,d,(bO r p 2 2).1.aM,0⟩:Note)]:List Note)) fG gD O O O O O O O) fun b7=>?_
     refine D.p 5 O qY bm (s.app 1 _ O O O (cI 0 O) eL aG aG (fun _=>rfl) O) fun v1=>?_
     refine D.l [6] qY bm O<|U ?_
     refine D.p 7 O qY bm (s.lq 6 _ O O O (fun w hw=>Sl.cL (hw.row 1 O)) (.inr ⟨dP,rfl⟩) (fun w hw=>bD (Sl.one (hw.row 1 O)) cd) O O O) fun _=>?_
     refine D.done<|U ?_
     refine R.mp (fun _ hw=>hw.aO 1 _ O O) ?_
     rw [show cm r p d slot rights=_ from by rewrite [List.take_of_length_le ae] at HC;subst HC;unfold cm;exact mR]
     exact R.x2 (aX,aR,aS,v1) [6] [1,2,3,0]
    refine Do.p t6 bm (s.bs (l:=([(⟨((bO r p 2 2).1).aA,d,(bO r p 2 2).1.aM,0⟩:Note)]:List Note)) fG gD O O O O O O O) fun b8=>?_
    refine D.p 2 O qY bm (s.aH du [3] _ _ _ O O O qK O O (fun w own hw H=>fC aT r.Notes w own H ae) O) fun z3=>?_
    refine D.p 5 O qY bm (s.app 0 _ O O O (cI 1 O) eL aG aG (fun _=>rfl) O) fun v2=>?_
    refine D.l [6] qY bm O<|U ?_
    refine D.p 7 O qY bm (s.lq 6 _ O O O (fun w hw=>Sl.cL (hw.row 0 O)) (.inr ⟨dP,rfl⟩) (fun w hw=>bD (Sl.one (hw.row 0 O)) cd) O O O) fun _=>?_
    refine D.done<|U ?_
    refine R.mp (fun _ hw=>hw.aO 0 _ O O) ?_
    rw [show cm r p d slot rights=_ from by rewrite [List.take_of_length_le ae] at HC;subst HC;unfold cm;exact mR]
    exact R.x2 (aX,aR,aS,v2) [6] [1,2,3,0]
   refine Do.p t6 bm (s.bs (l:=([(⟨((bO r p 2 2).1).aA,d,(bO r p 2 2).1.aM,0⟩:Note)]:List Note)) fG gD O O O O O O O) fun b9=>?_
   refine D.k 1 O t6 bm (q.ld 5 O O dP O) ?_
   refine D.p 2 O qY bm (s.aH du [3] _ _ _ O O O qK O O (fun w own hw H=>fC aT r.Notes w own H ae) O) fun z4=>?_
   refine D.p 5 O qY bm (s.app 0 _ O O O (cI 1 O) eL aG aG (fun _=>rfl) O) fun v3=>?_
   refine D.l [6] qY bm O<|U ?_
   refine D.p 7 O qY bm (s.lq 6 _ O O O (fun w hw=>Sl.cL (hw.row 0 O)) (.inr ⟨dP,rfl⟩) (fun w hw=>bD (Sl.one (hw.row 0 O)) cd) O O O) fun _=>?_
   refine D.done<|U ?_
   refine R.mp (fun _ hw=>hw.aO 0 _ O O) ?_
   rw [show cm r p d slot rights=_ from by rewrite [List.take_of_length_le ae] at HC;subst HC;unfold cm;exact mR]
   exact R.x2 (aX,aR,aS,v3) [6] [1,2,3,0]
  rcases Bool.eq_false_or_eq_true (iI (bO r p 2 2).1.Rights 4) with h7|h7
  .
   refine R.kc O O (fun w hw=>cv (congrArg Value.bool h7) (g8 (bO r p 2 2).1.Rights 4 w ae ae))<|U ?_
   refine R.kc O O (fun w hw=>qR _ _ _ _ r (⟨p.aD,slot⟩:Place) w (hw.cy 0 O) (hw.cy 1 O) (hw.cy 2 O) (hw.cy 3 O) af)<|U ?_
   refine R.nb fun b10=>?_
   refine C ((aI r (⟨p.aD,slot⟩:Place)).2=0) ?_ ?_ <;> intro h8
   .
    have gh8:=hk.get h8
    have hn0:∀x,(lu r x ⟨0,0⟩).Notes.length<=2000:=fun x=>hk.nl
    have hnz:=hn0 (derived (aI r ⟨p.aD,slot⟩).1 r.ah rights 0).1
    refine U ?_
    refine C (999<r.ah) ?_ ?_ <;> intro h9
    .
     refine R.jB ak aA Held Note ?_
     rw [show cm r p d slot rights=_ from by rewrite [List.take_of_length_le ae] at HC;subst HC;unfold cm;exact mR]
     exact R.x2 (nS,nS,nS,nS) [6] [3,2,1,0]
    refine R.kc O O (fun w hw=>ox (aI r (⟨p.aD,slot⟩:Place)).1 r.ah rights 0 w ae)<|U ?_
    refine R.nb fun b11=>?_
    refine C ((derived (aI r (⟨p.aD,slot⟩:Place)).1 r.ah rights 0).2=0) ?_ ?_ <;> intro h10
    .
     refine R.s O (s.aH a8 bm _ _ _ O O O AQ O O (fun w own hw H=>sM aX aR aS aT r (derived (aI r (⟨p.aD,slot⟩:Place)).1 r.ah rights 0).1 (⟨0,0⟩:Place) w own H ae) O) ?_
     rintro ⟨z5,z6,z7,z8⟩
     dsimp only
     refine U ?_
     refine R.cO (fuel:=8) [0,1,2,3,4,5,7] O O mixed O<|D.l [0,3] [0,1,2,3,4,5,7] a8 O<|U ?_
     refine D.two (i:=1) (j:=4) O O ?_ ?_
     .
      refine Do.k [0,1,2,3,4,5,7] a8 (q.ld 6 O O dP O) ?_
      refine D.two (i:=2) (j:=4) O O ?_ ?_
      .
       refine Do.p [1,2,3,4,5,6,8] a8 (s.aH a8 [3] _ _ _ O O O qK O O (fun w own hw H=>fC z8 (lu r (derived (aI r (⟨p.aD,slot⟩:Place)).1 r.ah rights 0).1 (⟨0,0⟩:Place)).Notes w own H ae) O) fun kM=>?_
       refine D.p 4 O qZ a8 (s.bs (l:=([(⟨((bO r p 2 2).1).aA,d,(bO r p 2 2).1.aM,(derived (aI r (⟨p.aD,slot⟩:Place)).1 r.ah rights 0).1.ID⟩:Note)]:List Note)) fG gD O O O O O O O) fun b12=>?_
       refine D.p 5 O qZ a8 (s.app 1 _ O O O (cI 0 O) eL aG aG (fun _=>rfl) O) fun v4=>?_
       refine D.l [6] qZ a8 O<|U ?_
       refine D.p 7 O qZ a8 (s.lq 8 _ O O O (fun w hw=>Sl.cL (hw.row 1 O)) (.inr ⟨dP,rfl⟩) (fun w hw=>bD (Sl.one (hw.row 1 O)) cd) O O O) fun _=>?_
       refine D.done<|U ?_
       refine R.mp (fun _ hw=>hw.aO 1 _ O O) ?_
       rw [show cm r p d slot rights=_ from by rewrite [List.take_of_length_le ae] at HC;subst HC;unfold cm;exact mR]
       exact R.x2 (z5,z6,z7,v4) [8] [1,2,3,0]
      refine Do.p [1,2,3,4,5,6,8] a8 (s.bs (l:=([(⟨((bO r p 2 2).1).aA,d,(bO r p 2 2).1.aM,(derived (aI r (⟨p.aD,slot⟩:Place)).1 r.ah rights 0).1.ID⟩:Note)]:List Note)) fG gD O O O O O O O) fun b13=>?_
      refine D.p 2 O qZ a8 (s.aH bZ [3] _ _ _ O O O qK O O (fun w own hw H=>fC z8 (lu r (derived (aI r (⟨p.aD,slot⟩:Place)).1 r.ah rights 0).1 (⟨0,0⟩:Place)).Notes w own H ae) O) fun lA=>?_
      refine D.p 5 O qZ a8 (s.app 0 _ O O O (cI 1 O) eL aG aG (fun _=>rfl) O) fun v5=>?_
      refine D.l [6] qZ a8 O<|U ?_
      refine D.p 7 O qZ a8 (s.lq 8 _ O O O (fun w hw=>Sl.cL (hw.row 0 O)) (.inr ⟨dP,rfl⟩) (fun w hw=>bD (Sl.one (hw.row 0 O)) cd) O O O) fun _=>?_
      refine D.done<|U ?_
      refine R.mp (fun _ hw=>hw.aO 0 _ O O) ?_
      rw [show cm r p d slot rights=_ from by rewrite [List.take_of_length_le ae] at HC;subst HC;unfold cm;exact mR]
      exact R.x2 (z5,z6,z7,v5) [8] [1,2,3,0]
     refine Do.p [1,2,3,4,5,6,8] a8 (s.bs (l:=([(⟨((bO r p 2 2).1).aA,d,(bO r p 2 2).1.aM,(derived (aI r (⟨p.aD,slot⟩:Place)).1 r.ah rights 0).1.ID⟩:Note)]:List Note)) fG gD O O O O O O O) fun b14=>?_
     refine D.k 1 O [1,2,3,4,5,6,8] a8 (q.ld 7 O O dP O) ?_
     refine D.p 2 O qZ a8 (s.aH bZ [3] _ _ _ O O O qK O O (fun w own hw H=>fC z8 (lu r (derived (aI r (⟨p.aD,slot⟩:Place)).1 r.ah rights 0).1 (⟨0,0⟩:Place)).Notes w own H ae) O) fun z12=>?_
     refine D.p 5 O qZ a8 (s.app 0 _ O O O (cI 1 O) eL aG aG (fun _=>rfl) O) fun v6=>?_
     refine D.l [6] qZ a8 O<|U ?_
     refine D.p 7 O qZ a8 (s.lq 8 _ O O O (fun w hw=>Sl.cL (hw.row 0 O)) (.inr ⟨dP,rfl⟩) (fun w hw=>bD (Sl.one (hw.row 0 O)) cd) O O O) fun _=>?_
     refine D.done<|U ?_
     refine R.mp (fun _ hw=>hw.aO 0 _ O O) ?_
     rw [show cm r p d slot rights=_ from by rewrite [List.take_of_length_le ae] at HC;subst HC;unfold cm;exact mR]
     exact R.x2 (z5,z6,z7,v6) [8] [1,2,3,0]
    refine R.jB ak aA Held Note ?_
    rw [show cm r p d slot rights=_ from by rewrite [List.take_of_length_le ae] at HC;subst HC;unfold cm;exact mR]
    exact R.x2 (nS,nS,nS,nS) [7] [3,2,1,0]
   refine R.jB ak aA Held Note ?_
   rw [show cm r p d slot rights=_ from by rewrite [List.take_of_length_le ae] at HC;subst HC;unfold cm;exact mR]
   exact R.x2 (nS,nS,nS,nS) [6] [3,2,1,0]
  refine R.kc O O (fun w hw=>cv (congrArg Value.bool h7) (g8 (bO r p 2 2).1.Rights 4 w ae ae))<|U ?_
  refine R.jB ak aA Held Note ?_
  have hz:cm r p d slot rights=((⟨[],[],[],[],0,0⟩:aB),7):=by (rw [List.take_of_length_le ae] at HC;subst HC;unfold cm;(repeat' split) <;> first|rfl|(exfalso;omega)|(simp_all;done))
  rw [hz]
  exact R.x2 (nS,nS,nS,nS) [5] [3,2,1,0]
 refine R.jB ak aA Held Note ?_
 rw [show cm r p d slot rights=_ from by unfold cm;exact mR]
 exact R.x2 (nS,nS,nS,nS) [4] [3,2,1,0]
theorem MB (aX aR aS aT:Value)(r:aB)(p:Place)(w:World)(own:List Nat)(H:HN w own [] [ag.ls aX r.aj,ag.ls aR r.Things,ag.ls aS r.Held,ag.ls aT r.Notes])(hk:Ok r):RS Tryz.prog 104 #[.agg #[aX,aR,aS,aT,iV r.ah,iV r.ai],.agg #[iV p.aD,iV p.Slot]] H (bG r p) (fun s (z:Value×Value×Value×Value) => .tuple #[.agg #[z.1,z.2.1,z.2.2.1,z.2.2.2,iV s.1.ah,iV s.1.ai],.agg #[iV s.2.1.Port,.string s.2.1.Data,iV s.2.1.aM,iV s.2.1.ak],iV s.2.2.1,bQ s.2.2.2]) (fun _ _=>[]) (fun s z=>[ag.ls z.1 s.1.aj,ag.ls z.2.1 s.1.Things,ag.ls z.2.2.1 s.1.Held,ag.ls z.2.2.2 s.1.Notes]):=by
 have bT:=H.aL 0 rfl
 have bH:=H.aL 1 rfl
 have cr:=H.aL 2 rfl
 have bU:=H.aL 3 rfl
 have bw:=hk.wl;have bt:=hk.tl;have bh:=hk.hl;have bn:=hk.nl;have yl:=hk.w0;have ym:=hk.w1;have yn:=hk.t0;have yo:=hk.t1
 refine R.eN H ?_
 refine R.nb fun b1=>?_
 refine R.nb fun b2=>?_
 refine R.nb fun b3=>?_
 refine R.nb fun b4=>?_
 refine R.kc O O (fun w hw=>wq _ _ _ _ r p 2 1 w (hw.cy 0 O) (hw.cy 1 O) (hw.cy 2 O) (hw.cy 3 O) af ae)<|U ?_
 refine R.nb fun b5=>?_
 refine C ((bO r p 2 1).2.2=0) ?_ ?_ <;> intro h1
 .
  refine R.q (q.D3 (cap:=[pV b5]) O O) O ?_
  rcases kY (fun (t:Note)=>t.Port==(bO r p 2 1).1.aA) r.Notes with ⟨fR,E8⟩ | ⟨yi,Jf,fR,m6,wF,E0,c1B⟩
  .
   refine R.kc O O (fun w hw=>cv (congrArg (Value.int .i64) fR) (pn _ r.Notes (fun (t:Note)=>t.Port==(bO r p 2 1).1.aA) _ _ O1 w (hw.cy 3 O) (fun W t hW=>yk t (bO r p 2 1).1 _ W (vp (hw.b 0 O) hW))))<|U ?_
   refine R.jB ak aA Held Note ?_
   rw [show bG r p=_ from by (unfold bG;(rewrite [if_pos af,fR,show decide ((0:Int) <= -1)=false from rfl];cases r.Notes[(-1:Int).toNat]? <;> rfl)) <;> rfl]
   exact R.x4 (nS,nS,nS,nS) [5] [3,2,1,0]
  refine R.kc O O (fun w hw=>cv (congrArg (Value.int .i64) fR) (pn _ r.Notes (fun (t:Note)=>t.Port==(bO r p 2 1).1.aA) _ _ O1 w (hw.cy 3 O) (fun W t hW=>yk t (bO r p 2 1).1 _ W (vp (hw.b 0 O) hW))))<|U ?_
  refine R.nb fun b6=>?_
  refine C (0<Jf.ak) ?_ ?_ <;> intro h2
  .
   refine R.kc O O (fun w hw=>Pe _ r.Held p.aD w (hw.cy 2 O) ae)<|U ?_
   refine C (gk r.Held p.aD<0) ?_ ?_ <;> intro h3
   .
    refine R.jB ak aA Held Note ?_
    have hz:bG r p=((⟨[],[],[],[],0,0⟩:aB),(⟨0,⟨#[]⟩,0,0⟩:Note),0,9):=by (unfold bG;(rw [if_pos af,fR,Int.toNat_natCast,m6,decide_eq_true ae];dsimp only;(repeat' split) <;> rfl))
    rw [hz]
    exact R.x4 (nS,nS,nS,nS) [6] [3,2,1,0]
   refine R.s O (s.aH du [2] _ _ _ O O O xd O O (fun w own hw H=>tu aS r.Held (⟨p.aD,gk r.Held p.aD⟩:Place) Jf.ak w own H ae) O) fun z1=>U ?_
   refine R.s O (s.aH a8 [3] _ _ _ O O O qK O O (fun w own hw H=>fC aT r.Notes w own H ae) O) fun z2=>U ?_
   refine R.s O (s.aH bZ [] _ _ _ O O O O2 O O (fun w own hw H=>sL z2 r.Notes yi (yi+1) w own H ae) O) fun z3=>U ?_
   refine R.cO (fuel:=7) Fy O O mixed O<|D.l [0,1,2] Fy bm O<|U ?_
   refine D.p 3 O Fy bm (s.lq 5 _ O O O (fun _ _=>rfl) (.inl fN) (fun w hw=>yt (hw.cy 0 O) (hw.cy 1 O) (hw.row 1 O) (hw.row 0 O) O O) O O O) fun _=>?_
   refine D.p 4 O Fy bm (s.st 4 _ O O O O (.inl o7) O O O O) fun _=>?_
   refine D.l [5,6] Fy bm O<|U ?_
   refine D.done<|R.mp (fun _ hw=>hw.aO 1 _ O O)<|R.mp (fun _ hw=>hw.aO 0 _ O O) ?_
   have hz:bG r p=((⟨r.aj,r.Things,fW r.Held (⟨p.aD,gk r.Held p.aD⟩:Place) Jf.ak,r.Notes.take yi++r.Notes.drop (yi+1),r.ah,r.ai⟩:aB),Jf,gk r.Held p.aD,0):=by (unfold bG;(rw [if_pos af,fR,Int.toNat_natCast,m6,decide_eq_true ae];dsimp only;(repeat' split) <;> rfl))
   rw [hz]
   exact R.x4 (aX,aR,z1,z3) [6] [2,3,1,0]
  refine R.s O (s.aH du [3] _ _ _ O O O qK O O (fun w own hw H=>fC aT r.Notes w own H ae) O) fun z4=>U ?_
  refine R.s O (s.aH a8 [] _ _ _ O O O O2 O O (fun w own hw H=>sL z4 r.Notes yi (yi+1) w own H ae) O) fun z5=>U ?_
  refine R.cO (fuel:=7) FA O O mixed O<|D.l [0,1,2] FA bm O<|U ?_
  refine D.p 3 O FA bm (s.lq 4 _ O O O (fun _ _=>rfl) (.inl fN) (fun w hw=>yt (hw.cy 0 O) (hw.cy 1 O) (hw.cy 2 O) (hw.row 0 O) O O) O O O) fun _=>?_
  refine D.p 4 O FA bm (s.st 3 _ O O O O (.inl o7) O O O O) fun _=>?_
  refine D.l [5,6] FA bm O<|U ?_
  refine D.done<|R.mp (fun _ hw=>hw.aO 0 _ O O) ?_
  have hz:bG r p=((⟨r.aj,r.Things,r.Held,r.Notes.take yi++r.Notes.drop (yi+1),r.ah,r.ai⟩:aB),Jf,-1,0):=by (unfold bG;(rw [if_pos af,fR,Int.toNat_natCast,m6,decide_eq_true ae];dsimp only;(repeat' split) <;> first|rfl|(exfalso;omega)))
  rw [hz]
  exact R.x4 (aX,aR,aS,z5) [6] [1,2,3,0]
 refine R.jB ak aA Held Note ?_
 rw [show bG r p=_ from by (unfold bG;(rewrite [if_neg af])) <;> rfl]
 exact R.x4 (nS,nS,nS,nS) [5] [3,2,1,0]
end
end Go.Proofs.YtnmpibjlnninjaaGreatDoor
