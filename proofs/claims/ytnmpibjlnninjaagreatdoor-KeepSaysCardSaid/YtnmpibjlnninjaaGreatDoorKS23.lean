import Derived.Test.YtnmpibjlnninjaaGreatDoorKS22
namespace Go.Proofs.YtnmpibjlnninjaaGreatDoor
set_option linter.unusedVariables false
set_option linter.unusedSimpArgs false
set_option maxRecDepth 100000
set_option maxHeartbeats 90000000
section
open Go Go.RowKit
attribute [local irreducible] Run Rg Rq Qt Qa Stp Dg Do Dm cD
theorem jM (bL:Value)(l:List ap)(w:World)(own:List Nat)(H:HN w own [] [aj.ls bL l])(hl:l.length<=1000000):RC Tryz.prog 105 #[bL] H (fun z:Value=>z) (fun z=>[aj.row 126 z l]) (fun _=>[]):=by
 have AP:=H.bD 0 rfl
 refine R.bE [(0,bL)] Tryz.func105 O O O O H<|U ?_
 rcases Bool.eq_false_or_eq_true (qK bL) with h1|h1
 .
  refine R.q (q.Kv (congrArg Value.bool h1) (q.qm (cb 0 O) O O Tryz.underlying43)) O<|U ?_
  refine R.row0 (α:=ap) 126 ?_
  have hz:l=[]:=by (exact Sl.qK (H.bz 0 rfl) af)
  rw [hz]
  exact R.w1 (nS) [0,1] [] O Tryz.results105 (RV.tmp O) O O O O
 refine R.q (q.Kv (congrArg Value.bool h1) (q.qm (cb 0 O) O O Tryz.underlying43)) O<|U ?_
 refine R.s O (s.bs (l:=([]:List ap)) cR br O O O O O O O) fun b1=>U ?_
 refine R.s O (s.app 0 _ O O O (cb 0 O) g9 az az (fun _=>rfl) O) fun v1=>U ?_
 have hz:l=(([])++l):=by (rfl)
 rw [hz]
 exact R.w1 v1 [0,1] [] O Tryz.results105 (RV.tmp O) O O O O
theorem jr (bL:Value)(l:List aA)(w:World)(own:List Nat)(H:HN w own [] [aj.ls bL l])(hl:l.length<=1000000):RC Tryz.prog 106 #[bL] H (fun z:Value=>z) (fun z=>[aj.row 103 z l]) (fun _=>[]):=by
 have AP:=H.bD 0 rfl
 refine R.bE [(0,bL)] Tryz.func106 O O O O H<|U ?_
 rcases Bool.eq_false_or_eq_true (qK bL) with h1|h1
 .
  refine R.q (q.Kv (congrArg Value.bool h1) (q.qm (cb 0 O) O O Tryz.underlying44)) O<|U ?_
  refine R.row0 (α:=aA) 103 ?_
  have hz:l=[]:=by (exact Sl.qK (H.bz 0 rfl) af)
  rw [hz]
  exact R.w1 (nS) [0,1] [] O Tryz.results106 (RV.tmp O) O O O O
 refine R.q (q.Kv (congrArg Value.bool h1) (q.qm (cb 0 O) O O Tryz.underlying44)) O<|U ?_
 refine R.s O (s.bs (l:=([]:List aA)) eZ fP O O O O O O O) fun b1=>U ?_
 refine R.s O (s.app 0 _ O O O (cb 0 O) lI az az (fun _=>rfl) O) fun v1=>U ?_
 have hz:l=(([])++l):=by (rfl)
 rw [hz]
 exact R.w1 v1 [0,1] [] O Tryz.results106 (RV.tmp O) O O O O
theorem fF (bL:Value)(l:List Note)(w:World)(own:List Nat)(H:HN w own [] [aj.ls bL l])(hl:l.length<=1000000):RC Tryz.prog 108 #[bL] H (fun z:Value=>z) (fun z=>[aj.row 91 z l]) (fun _=>[]):=by
 have AP:=H.bD 0 rfl
 refine R.bE [(0,bL)] Tryz.func108 O O O O H<|U ?_
 rcases Bool.eq_false_or_eq_true (qK bL) with h1|h1
 .
  refine R.q (q.Kv (congrArg Value.bool h1) (q.qm (cb 0 O) O O Tryz.underlying46)) O<|U ?_
  refine R.row0 (α:=Note) 91 ?_
  have hz:l=[]:=by (exact Sl.qK (H.bz 0 rfl) af)
  rw [hz]
  exact R.w1 (nS) [0,1] [] O Tryz.results108 (RV.tmp O) O O O O
 refine R.q (q.Kv (congrArg Value.bool h1) (q.qm (cb 0 O) O O Tryz.underlying46)) O<|U ?_
 refine R.s O (s.bs (l:=([]:List Note)) dI dO O O O O O O O) fun b1=>U ?_
 refine R.s O (s.app 0 _ O O O (cb 0 O) ea az az (fun _=>rfl) O) fun v1=>U ?_
 have hz:l=(([])++l):=by (rfl)
 rw [hz]
 exact R.w1 v1 [0,1] [] O Tryz.results108 (RV.tmp O) O O O O
theorem rF (bL:Value)(l:List Note)(i:Nat)(j:Nat)(w:World)(own:List Nat)(H:HN w own [aj.row 91 bL l] [])(hij:i<=j/\j<=l.length):RC Tryz.prog 170 #[bL,iV (i:Int),iV (j:Int)] H (fun z:Value=>z) (fun z=>[aj.row 91 z (l.take i++l.drop j)]) (fun _=>[]):=by
 have Li:=H.cap 0 rfl;have AP:=H.dr 0 rfl
 refine R.bE [(0,bL),(1,iV (i:Int)),(2,iV (j:Int))] Tryz.func170 O O O O H<|U ?_
 refine R.q (q.G8 (i:=i) (j:=j) (q':=l.length) (bH 0 O) O O O O dI O O O ae ae ae) O<|U ?_
 by_cases h1:i=j
 .
  refine U ?_
  have hz:l.take i++l.drop j=l:=by (exact yx ae)
  rw [hz]
  exact R.w1 bL [0,1] [] O Tryz.results170 (RV.tmp O) O O O O
 refine U ?_
 refine R.eA (fuel:=8) [1] O O mixed O<|D.l [0,1,3,4] [1] [] O<|U ?_
 refine D.two (i:=2) (j:=5) O O ?_ ?_
 .
  refine Do.s (s.c (Qt.a (q.ku (i:=i) (bH 0 O) O O Tryz.underlying46 r9 O ae)) O) (fun _=>(aN [1] [] O)) O fun _=>?_
  refine D.one (i:=5) O<|Do.s (s.c (Qt.a (q.dL (i:=j) (bH 0 O) O O dI O ae)) O) (fun _=>(aN [1] [] O)) O fun _=>?_
  refine D.one (i:=6) O<|Do.s (s.vo (a:=i) 0 _ O O O (fun w hw=>Sl.from (hw.row 0 O) ae) ea ae az O O) (fun _=>(aN [1] [] O)) O fun _=>?_
  refine D.l [7] [1] [] O<|U ?_
  refine D.done<|U ?_
  refine R.q (q.sl2 (i:=(l.take i++(l.drop j)).length) (j:=l.length) (bH 0 O) O O O dI O O az (by (simp [iC];omega))) O<|R.s O (s.BG (lo:=(l.take i++(l.drop j)).length) (hi:=l.length) (z0:=(⟨0,⟨#[]⟩,0,0⟩:Note)) 0 O O dI dO O ae az (by (simp [iC];omega))) fun _=>U ?_
  have hz:l.take i++l.drop j=(l.take i++(l.drop j)):=by (rfl)
  rw [hz]
  exact R.w1 (ku bL (i+(l.drop j).length)) [0,1] [] O Tryz.results170 (RV.tmp O) O O O O
 refine Do.s (s.c (Qt.a (q.dL (i:=j) (bH 0 O) O O dI O ae)) O) (fun _=>(aN [1] [] O)) O fun _=>?_
 refine D.one (i:=2) O<|Do.s (s.c (Qt.a (q.ku (i:=i) (bH 0 O) O O Tryz.underlying46 r9 O ae)) O) (fun _=>(aN [1] [] O)) O fun _=>?_
 refine D.one (i:=6) O<|Do.s (s.vo (a:=i) 0 _ O O O (fun w hw=>Sl.from (hw.row 0 O) ae) ea ae az O O) (fun _=>(aN [1] [] O)) O fun _=>?_
 refine D.l [7] [1] [] O<|U ?_
 refine D.done<|U ?_
 refine R.q (q.sl2 (i:=(l.take i++(l.drop j)).length) (j:=l.length) (bH 0 O) O O O dI O O az (by (simp [iC];omega))) O<|R.s O (s.BG (lo:=(l.take i++(l.drop j)).length) (hi:=l.length) (z0:=(⟨0,⟨#[]⟩,0,0⟩:Note)) 0 O O dI dO O ae az (by (simp [iC];omega))) fun _=>U ?_
 have hz:l.take i++l.drop j=(l.take i++(l.drop j)):=by (rfl)
 rw [hz]
 exact R.w1 (ku bL (i+(l.drop j).length)) [0,1] [] O Tryz.results170 (RV.tmp O) O O O O
theorem iA (bL:Value)(l:List aA)(pr:aA->Bool)(jt:Nat)(kI:List Value)(ju:dw jt)(w:World)(dK:Sl w bL l)(nu:∀W (x1:aA),Ext w W->Calls Tryz.prog jt ([x1.val]++kI).toArray W fun e w'=>e = .returned (.bool (pr x1))/\Ext W w'):Calls Tryz.prog 215 #[bL,.func (.func jt) #[] kI.toArray] w fun e w'=>e = .returned (iV (idxOf pr l))/\Ext w w':=by
 have wk:=dK.eV
 refine R.enter [] [(0,bL),(1,.func (.func jt) #[] kI.toArray)] Tryz.func215 O O O O<|U ?_
 refine R.loop (fun k:Nat=>[(0,bL),(1,.func (.func jt) #[] kI.toArray),(7,iV (l.length:Int)),(8,iV (k:Int))]) (fun k:Nat=>[]) (fun k:Nat=>[]) (fun k:Nat=>k<=l.length /\ ∀ (j:Nat) x,j<k->l[j]? = some x->pr x=false) (fun k:Nat=>l.length-k) 0 O (by exact ⟨ae,fun j x hj=>absurd hj (Nat.not_lt_zero _)⟩) (sF O) (eI [] [] O) ?_
 rintro k ⟨hk,HA⟩
 refine U ?_
 by_cases h1:k<l.length
 .
  refine U ?_
  obtain ⟨x1,hx1⟩:=gE l k
  refine R.q (q.idx (i:=k) (fun _=>Wd.old dK) O O eZ O hx1) O<|R.q (q.dj (ds:=lB x1) (fun _=>Wd.old dK) hx1 O fU O) O ?_
  rcases Bool.eq_false_or_eq_true (pr x1) with h2|h2
  .
   refine R.c (q.call ju O O (fun w hw=>cv (congrArg Value.bool h2) (nu w x1 hw.ext))) O<|U ?_
   exact R.rv O Tryz.results215 O (rI (by (exact (idxOf_hit hx1 af HA).symm)))
  refine R.c (q.call ju O O (fun w hw=>cv (congrArg Value.bool h2) (nu w x1 hw.ext))) O<|U ?_
  refine R.q (q.aL (r:=((k+1:Nat):Int)) O O) O<|U ?_
  refine R.back (k+1) O (by (exact ⟨ae,j8 HA hx1 af⟩)) ae (sF O) (eI [] [] O)
 refine U ?_
 exact R.rv O Tryz.results215 O (rI (by (exact (idxOf_miss af HA).symm)))
theorem oz (bL:Value)(l:List Note)(pr:Note->Bool)(jt:Nat)(kI:List Value)(ju:dw jt)(w:World)(dK:Sl w bL l)(nu:∀W (x1:Note),Ext w W->Calls Tryz.prog jt ([x1.val]++kI).toArray W fun e w'=>e = .returned (.bool (pr x1))/\Ext W w'):Calls Tryz.prog 167 #[bL,.func (.func jt) #[] kI.toArray] w fun e w'=>e = .returned (iV (idxOf pr l))/\Ext w w':=by
 have wk:=dK.eV
 refine R.enter [] [(0,bL),(1,.func (.func jt) #[] kI.toArray)] Tryz.func167 O O O O<|U ?_
 refine R.loop (fun k:Nat=>[(0,bL),(1,.func (.func jt) #[] kI.toArray),(7,iV (l.length:Int)),(8,iV (k:Int))]) (fun k:Nat=>[]) (fun k:Nat=>[]) (fun k:Nat=>k<=l.length /\ ∀ (j:Nat) x,j<k->l[j]? = some x->pr x=false) (fun k:Nat=>l.length-k) 0 O (by exact ⟨ae,fun j x hj=>absurd hj (Nat.not_lt_zero _)⟩) (sF O) (eI [] [] O) ?_
 rintro k ⟨hk,HA⟩
 refine U ?_
 by_cases h1:k<l.length
 .
  refine U ?_
  obtain ⟨x1,hx1⟩:=gE l k
  refine R.q (q.idx (i:=k) (fun _=>Wd.old dK) O O dI O hx1) O<|R.q (q.dj (ds:=mP x1) (fun _=>Wd.old dK) hx1 O cj O) O ?_
  rcases Bool.eq_false_or_eq_true (pr x1) with h2|h2
  .
   refine R.c (q.call ju O O (fun w hw=>cv (congrArg Value.bool h2) (nu w x1 hw.ext))) O<|U ?_
   exact R.rv O Tryz.results167 O (rI (by (exact (idxOf_hit hx1 af HA).symm)))
  refine R.c (q.call ju O O (fun w hw=>cv (congrArg Value.bool h2) (nu w x1 hw.ext))) O<|U ?_
  refine R.q (q.aL (r:=((k+1:Nat):Int)) O O) O<|U ?_
  refine R.back (k+1) O (by (exact ⟨ae,j8 HA hx1 af⟩)) ae (sF O) (eI [] [] O)
 refine U ?_
 exact R.rv O Tryz.results167 O (rI (by (exact (idxOf_miss af HA).symm)))
theorem oA (bL:Value)(l:List Held)(pr:Held->Bool)(jt:Nat)(kI:List Value)(ju:dw jt)(w:World)(dK:Sl w bL l)(nu:∀W (x1:Held),Ext w W->Calls Tryz.prog jt ([x1.val]++kI).toArray W fun e w'=>e = .returned (.bool (pr x1))/\Ext W w'):Calls Tryz.prog 255 #[bL,.func (.func jt) #[] kI.toArray] w fun e w'=>e = .returned (iV (idxOf pr l))/\Ext w w':=by
 have wk:=dK.eV
 refine R.enter [] [(0,bL),(1,.func (.func jt) #[] kI.toArray)] Tryz.func255 O O O O<|U ?_
 refine R.loop (fun k:Nat=>[(0,bL),(1,.func (.func jt) #[] kI.toArray),(7,iV (l.length:Int)),(8,iV (k:Int))]) (fun k:Nat=>[]) (fun k:Nat=>[]) (fun k:Nat=>k<=l.length /\ ∀ (j:Nat) x,j<k->l[j]? = some x->pr x=false) (fun k:Nat=>l.length-k) 0 O (by exact ⟨ae,fun j x hj=>absurd hj (Nat.not_lt_zero _)⟩) (sF O) (eI [] [] O) ?_
 rintro k ⟨hk,HA⟩
 refine U ?_
 by_cases h1:k<l.length
 .
  refine U ?_
  obtain ⟨x1,hx1⟩:=gE l k
  refine R.q (q.idx (i:=k) (fun _=>Wd.old dK) O O bJ O hx1) O<|R.q (q.dj (ds:=fZ x1) (fun _=>Wd.old dK) hx1 O du O) O ?_
  rcases Bool.eq_false_or_eq_true (pr x1) with h2|h2
  .
   refine R.c (q.call ju O O (fun w hw=>cv (congrArg Value.bool h2) (nu w x1 hw.ext))) O<|U ?_
   exact R.rv O Tryz.results255 O (rI (by (exact (idxOf_hit hx1 af HA).symm)))
  refine R.c (q.call ju O O (fun w hw=>cv (congrArg Value.bool h2) (nu w x1 hw.ext))) O<|U ?_
  refine R.q (q.aL (r:=((k+1:Nat):Int)) O O) O<|U ?_
  refine R.back (k+1) O (by (exact ⟨ae,j8 HA hx1 af⟩)) ae (sF O) (eI [] [] O)
 refine U ?_
 exact R.rv O Tryz.results255 O (rI (by (exact (idxOf_miss af HA).symm)))
theorem wF (bL:Value)(l:List aA)(pr:aA->Bool)(jt:Nat)(kI:List Value)(ju:dw jt)(w:World)(own:List Nat)(H:HN w own [aj.row 103 bL l] [])(nu:∀W (x1:aA),mH (blks [aj.row 103 bL l]) w W->Calls Tryz.prog jt ([x1.val]++kI).toArray W fun e w'=>e = .returned (.bool (pr x1))/\Ext W w')(hl:l.length<=1000000):RC Tryz.prog 211 #[bL,.func (.func jt) #[] kI.toArray] H (fun z:Value=>z) (fun z=>[aj.row 103 z (l.filter (fun x => !pr x))]) (fun _=>[]):=by
 have Li:=H.cap 0 rfl;have AP:=H.dr 0 rfl
 refine R.bE [(0,bL),(1,.func (.func jt) #[] kI.toArray)] Tryz.func211 O O O O H<|U ?_
 rcases j9 pr l with ⟨fS,Eh⟩ | ⟨sJ,Ha,fS,kv,vj,D6,YA⟩
 .
  refine R.c (q.call DX O O (fun w hw=>(cv (congrArg (Value.int .i64) fS) (iA _ l pr _ _ ju w (hw.row 0 O) (fun W x1 hW=>nu W x1 ((hw.xt 1 O).trans ((Ext.upd hW).mono bW))) )))) O<|U ?_
  have hz:l.filter (fun x => !pr x)=l:=by (exact yJ Eh)
  rw [hz]
  exact R.w1 bL [0,1] [] O Tryz.results211 (RV.tmp O) O O O O
 refine R.c (q.call DX O O (fun w hw=>(cv (congrArg (Value.int .i64) fS) (iA _ l pr _ _ ju w (hw.row 0 O) (fun W x1 hW=>nu W x1 ((hw.xt 1 O).trans ((Ext.upd hW).mono bW))) )))) O<|U ?_
 refine R.q (q.aL (r:=((sJ+1:Nat):Int)) O O) O<|U ?_
 refine R.loop (fun g_:Nat×Nat×(List aA)=>[(0,bL),(1,.func (.func jt) #[] kI.toArray),(5,iV (g_.1:Int)),(6,iV (g_.2.1:Int))]) (fun g_=>[aj.row 103 bL g_.2.2,aj.held w own]) (fun g_=>[]) (fun g_=>qw pr l g_.2.2 g_.1 g_.2.1) (fun g_=>l.length-g_.2.1) (sJ,sJ+1,l) O (by exact qw.start kv vj D6) (sF O) (eI [0,1] [] O) ?_
 rintro ⟨a,b,acc⟩ HA
 dsimp only at *
 have t1:=HA.1;have t2:=HA.2.1;have t3:=HA.2.2.1
 refine U ?_
 by_cases h1:b<acc.length
 .
  refine U ?_
  obtain ⟨x1,hx1⟩:=gE acc b
  refine R.q (q.idx (i:=b) (bH 0 O) O O eZ O hx1) O<|R.q (q.dj (ds:=lB x1) (bH 0 O) hx1 O fU O) O<|R.s O (s.alloc fP O O) fun b1=>?_
  refine R.s O (s.st 0 _ O O O O (.inl fU) O O O O) fun _=>U ?_
  rcases Bool.eq_false_or_eq_true (pr x1) with h2|h2
  .
   refine R.c (q.call ju O O (fun w hw=>cv (congrArg Value.bool h2) (nu w x1 (hw.xt 2 O)))) O<|U ?_
   refine R.q (q.aL (r:=((b+1:Nat):Int)) O O) O<|U ?_
   refine R.back (a,b+1,acc) O (by (exact HA.skip hx1 af)) aO (sF O) (aN [1,2] [] O)
  refine R.c (q.call ju O O (fun w hw=>cv (congrArg Value.bool h2) (nu w x1 (hw.xt 2 O)))) O<|U ?_
  obtain ⟨x2,hx2⟩:=gE acc a
  refine R.q (q.idx (i:=a) (bH 1 O) O O eZ O hx2) O<|R.s O (s.Vx (z:=x1) 1 _ O hx2 O O O O (.inl fU) O) fun _=>U ?_
  refine R.q (q.aL (r:=((a+1:Nat):Int)) O O) O<|U ?_
  refine R.q (q.aL (r:=((b+1:Nat):Int)) O O) O<|U ?_
  refine R.back ((a+1),b+1,(acc.set a x1)) O (by (exact HA.keep hx1 af)) aO (sF O) (aN [1,2] [] O)
 refine U ?_
 refine R.q (q.dL (i:=a) (bH 0 O) O O eZ O ae) O<|R.s O (s.Ti (lo:=a) (z0:=(⟨0,0,⟨#[]⟩⟩:aA)) 0 _ O O eZ fP O ae O) fun _=>U ?_
 refine R.q (q.ku (i:=a) (bH 0 O) O O Tryz.underlying44 QH O az) O<|U ?_
 refine R.Mq 0 a _ O az O ?_
 have hz:l.filter (fun x => !pr x)=((acc.take a++List.replicate (acc.length-a) (⟨0,0,⟨#[]⟩⟩:aA)).take a):=by (exact HA.done ae)
 rw [hz]
 exact R.w1 (ku bL a) [0,1] [] O Tryz.results211 (RV.tmp O) O O O O
theorem xD (bL:Value)(l:List Held)(pr:Held->Bool)(jt:Nat)(kI:List Value)(ju:dw jt)(w:World)(own:List Nat)(H:HN w own [aj.row 124 bL l] [])(nu:∀W (x1:Held),mH (blks [aj.row 124 bL l]) w W->Calls Tryz.prog jt ([x1.val]++kI).toArray W fun e w'=>e = .returned (.bool (pr x1))/\Ext W w')(hl:l.length<=1000000):RC Tryz.prog 213 #[bL,.func (.func jt) #[] kI.toArray] H (fun z:Value=>z) (fun z=>[aj.row 124 z (l.filter (fun x => !pr x))]) (fun _=>[]):=by
 have Li:=H.cap 0 rfl;have AP:=H.dr 0 rfl
 refine R.bE [(0,bL),(1,.func (.func jt) #[] kI.toArray)] Tryz.func213 O O O O H<|U ?_
 rcases j9 pr l with ⟨fS,Eh⟩ | ⟨sJ,Ha,fS,kv,vj,D6,YA⟩
 .
  refine R.c (q.call N5 O O (fun w hw=>(cv (congrArg (Value.int .i64) fS) (oA _ l pr _ _ ju w (hw.row 0 O) (fun W x1 hW=>nu W x1 ((hw.xt 1 O).trans ((Ext.upd hW).mono bW))) )))) O<|U ?_
  have hz:l.filter (fun x => !pr x)=l:=by (exact yJ Eh)
  rw [hz]
  exact R.w1 bL [0,1] [] O Tryz.results213 (RV.tmp O) O O O O
 refine R.c (q.call N5 O O (fun w hw=>(cv (congrArg (Value.int .i64) fS) (oA _ l pr _ _ ju w (hw.row 0 O) (fun W x1 hW=>nu W x1 ((hw.xt 1 O).trans ((Ext.upd hW).mono bW))) )))) O<|U ?_
 refine R.q (q.aL (r:=((sJ+1:Nat):Int)) O O) O<|U ?_
 refine R.loop (fun g_:Nat×Nat×(List Held)=>[(0,bL),(1,.func (.func jt) #[] kI.toArray),(5,iV (g_.1:Int)),(6,iV (g_.2.1:Int))]) (fun g_=>[aj.row 124 bL g_.2.2,aj.held w own]) (fun g_=>[]) (fun g_=>qw pr l g_.2.2 g_.1 g_.2.1) (fun g_=>l.length-g_.2.1) (sJ,sJ+1,l) O (by exact qw.start kv vj D6) (sF O) (eI [0,1] [] O) ?_
 rintro ⟨a,b,acc⟩ HA
 dsimp only at *
 have t1:=HA.1;have t2:=HA.2.1;have t3:=HA.2.2.1
 refine U ?_
 by_cases h1:b<acc.length
 .
  refine U ?_
  obtain ⟨x1,hx1⟩:=gE acc b
  refine R.q (q.idx (i:=b) (bH 0 O) O O bJ O hx1) O<|R.q (q.dj (ds:=fZ x1) (bH 0 O) hx1 O du O) O<|R.s O (s.alloc cK O O) fun b1=>?_
  refine R.s O (s.st 0 _ O O O O (.inl du) O O O O) fun _=>U ?_
  rcases Bool.eq_false_or_eq_true (pr x1) with h2|h2
  .
   refine R.c (q.call ju O O (fun w hw=>cv (congrArg Value.bool h2) (nu w x1 (hw.xt 2 O)))) O<|U ?_
   refine R.q (q.aL (r:=((b+1:Nat):Int)) O O) O<|U ?_
   refine R.back (a,b+1,acc) O (by (exact HA.skip hx1 af)) aO (sF O) (aN [1,2] [] O)
  refine R.c (q.call ju O O (fun w hw=>cv (congrArg Value.bool h2) (nu w x1 (hw.xt 2 O)))) O<|U ?_
  obtain ⟨x2,hx2⟩:=gE acc a
  refine R.q (q.idx (i:=a) (bH 1 O) O O bJ O hx2) O<|R.s O (s.Vx (z:=x1) 1 _ O hx2 O O O O (.inl du) O) fun _=>U ?_
  refine R.q (q.aL (r:=((a+1:Nat):Int)) O O) O<|U ?_
  refine R.q (q.aL (r:=((b+1:Nat):Int)) O O) O<|U ?_
  refine R.back ((a+1),b+1,(acc.set a x1)) O (by (exact HA.keep hx1 af)) aO (sF O) (aN [1,2] [] O)
 refine U ?_
 refine R.q (q.dL (i:=a) (bH 0 O) O O bJ O ae) O<|R.s O (s.Ti (lo:=a) (z0:=(⟨(⟨0,0⟩:Place),0⟩:Held)) 0 _ O O bJ cK O ae O) fun _=>U ?_
 refine R.q (q.ku (i:=a) (bH 0 O) O O Tryz.underlying45 xW O az) O<|U ?_
 refine R.Mq 0 a _ O az O ?_
 have hz:l.filter (fun x => !pr x)=((acc.take a++List.replicate (acc.length-a) (⟨(⟨0,0⟩:Place),0⟩:Held)).take a):=by (exact HA.done ae)
 rw [hz]
 exact R.w1 (ku bL a) [0,1] [] O Tryz.results213 (RV.tmp O) O O O O
theorem xE (bL:Value)(l:List ap)(pr:ap->Bool)(jt:Nat)(kI:List Value)(ju:dw jt)(w:World)(own:List Nat)(H:HN w own [aj.row 126 bL l] [])(nu:∀W (x1:ap),mH (blks [aj.row 126 bL l]) w W->Calls Tryz.prog jt ([x1.val]++kI).toArray W fun e w'=>e = .returned (.bool (pr x1))/\Ext W w')(hl:l.length<=1000000):RC Tryz.prog 164 #[bL,.func (.func jt) #[] kI.toArray] H (fun z:Value=>z) (fun z=>[aj.row 126 z (l.filter (fun x => !pr x))]) (fun _=>[]):=by
 have Li:=H.cap 0 rfl;have AP:=H.dr 0 rfl
 refine R.bE [(0,bL),(1,.func (.func jt) #[] kI.toArray)] Tryz.func164 O O O O H<|U ?_
 rcases j9 pr l with ⟨fS,Eh⟩ | ⟨sJ,Ha,fS,kv,vj,D6,YA⟩
 .
  refine R.c (q.call Iw O O (fun w hw=>(cv (congrArg (Value.int .i64) fS) (nq _ l pr _ _ ju w (hw.row 0 O) (fun W x1 hW=>nu W x1 ((hw.xt 1 O).trans ((Ext.upd hW).mono bW))) )))) O<|U ?_
  have hz:l.filter (fun x => !pr x)=l:=by (exact yJ Eh)
  rw [hz]
  exact R.w1 bL [0,1] [] O Tryz.results164 (RV.tmp O) O O O O
 refine R.c (q.call Iw O O (fun w hw=>(cv (congrArg (Value.int .i64) fS) (nq _ l pr _ _ ju w (hw.row 0 O) (fun W x1 hW=>nu W x1 ((hw.xt 1 O).trans ((Ext.upd hW).mono bW))) )))) O<|U ?_
 refine R.q (q.aL (r:=((sJ+1:Nat):Int)) O O) O<|U ?_
 refine R.loop (fun g_:Nat×Nat×(List ap)=>[(0,bL),(1,.func (.func jt) #[] kI.toArray),(5,iV (g_.1:Int)),(6,iV (g_.2.1:Int))]) (fun g_=>[aj.row 126 bL g_.2.2,aj.held w own]) (fun g_=>[]) (fun g_=>qw pr l g_.2.2 g_.1 g_.2.1) (fun g_=>l.length-g_.2.1) (sJ,sJ+1,l) O (by exact qw.start kv vj D6) (sF O) (eI [0,1] [] O) ?_
 rintro ⟨a,b,acc⟩ HA
 dsimp only at *
 have t1:=HA.1;have t2:=HA.2.1;have t3:=HA.2.2.1
 refine U ?_
 by_cases h1:b<acc.length
 .
  refine U ?_
  obtain ⟨x1,hx1⟩:=gE acc b
  refine R.q (q.idx (i:=b) (bH 0 O) O O cR O hx1) O<|R.q (q.dj (ds:=fY x1) (bH 0 O) hx1 O aH O) O<|R.s O (s.alloc br O O) fun b1=>?_
  refine R.s O (s.st 0 _ O O O O (.inl aH) O O O O) fun _=>U ?_
  rcases Bool.eq_false_or_eq_true (pr x1) with h2|h2
  .
   refine R.c (q.call ju O O (fun w hw=>cv (congrArg Value.bool h2) (nu w x1 (hw.xt 2 O)))) O<|U ?_
   refine R.q (q.aL (r:=((b+1:Nat):Int)) O O) O<|U ?_
   refine R.back (a,b+1,acc) O (by (exact HA.skip hx1 af)) aO (sF O) (aN [1,2] [] O)
  refine R.c (q.call ju O O (fun w hw=>cv (congrArg Value.bool h2) (nu w x1 (hw.xt 2 O)))) O<|U ?_
  obtain ⟨x2,hx2⟩:=gE acc a
  refine R.q (q.idx (i:=a) (bH 1 O) O O cR O hx2) O<|R.s O (s.Vx (z:=x1) 1 _ O hx2 O O O O (.inl aH) O) fun _=>U ?_
  refine R.q (q.aL (r:=((a+1:Nat):Int)) O O) O<|U ?_
  refine R.q (q.aL (r:=((b+1:Nat):Int)) O O) O<|U ?_
  refine R.back ((a+1),b+1,(acc.set a x1)) O (by (exact HA.keep hx1 af)) aO (sF O) (aN [1,2] [] O)
 refine U ?_
 refine R.q (q.dL (i:=a) (bH 0 O) O O cR O ae) O<|R.s O (s.Ti (lo:=a) (z0:=(⟨0,0,0,0,0⟩:ap)) 0 _ O O cR br O ae O) fun _=>U ?_
 refine R.q (q.ku (i:=a) (bH 0 O) O O Tryz.underlying43 DJ O az) O<|U ?_
 refine R.Mq 0 a _ O az O ?_
 have hz:l.filter (fun x => !pr x)=((acc.take a++List.replicate (acc.length-a) (⟨0,0,0,0,0⟩:ap)).take a):=by (exact HA.done ae)
 rw [hz]
 exact R.w1 (ku bL a) [0,1] [] O Tryz.results164 (RV.tmp O) O O O O
theorem xp (bL:Value)(l:List ap)(w:World)(dK:Sl w bL l)(hl:l.length<=1000000):Calls Tryz.prog 146 #[bL] w fun e w' => ∃u,e = .returned u/\Own w.heap.size 3 w' u (bC l)/\Ext w w':=I1 bL l w dK hl
theorem I2 (bL:Value)(l:List Int)(x:Int)(w:World)(dK:Sl w bL l):Calls Tryz.prog 201 #[bL,iV x] w fun e w'=>e = .returned (iV (idxOf (fun y=>y==x) l))/\Ext w w':=by
 have wk:=dK.eV
 refine R.enter [] [(0,bL),(1,iV x)] Tryz.func201 O O O O<|U ?_
 refine R.loop (fun k:Nat=>[(0,bL),(1,iV x),(7,iV (l.length:Int)),(8,iV (k:Int))]) (fun k:Nat=>[]) (fun k:Nat=>[]) (fun k:Nat=>k<=l.length /\ ∀ (j:Nat) y,j<k->l[j]? = some y->(y==x)=false) (fun k:Nat=>l.length-k) 0 O (by exact ⟨ae,fun j x hj=>absurd hj (Nat.not_lt_zero _)⟩) (sF O) (eI [] [] O) ?_
 rintro k ⟨hk,HA⟩
 refine U ?_
 by_cases h1:k<l.length
 .
  refine U ?_
  obtain ⟨x1,hx1⟩:=gE l k
  refine R.q (q.idx (i:=k) (fun _=>Wd.old dK) O O dD O hx1) O<|R.q (q.gh (fun _=>Wd.old dK) hx1 O bg O) O ?_
  by_cases h2:x=x1
  .
   refine U ?_
   exact R.rv O Tryz.results201 O (rI (by (exact (idxOf_hit (p:=fun y=>y==x) hx1 (beq_iff_eq.2 ae) HA).symm)))
  refine U ?_
  refine R.q (q.aL (r:=((k+1:Nat):Int)) O O) O<|U ?_
  refine R.back (k+1) O (by (exact ⟨ae,j8 (p:=fun y=>y==x) HA hx1 (beq_eq_false_iff_ne.2 ae)⟩)) ae (sF O) (eI [] [] O)
 refine U ?_
 exact R.rv O Tryz.results201 O (rI (by (exact (idxOf_miss af HA).symm)))
theorem Kh {l:List Int}{x:Int}:(0<=idxOf (fun y=>y==x) l)=(x∈l):=by
 rcases j9 (fun y:Int=>y==x) l with ⟨h,hn⟩ | ⟨k,y,h,hy,he,_,_⟩
 .rw [h];simp;intro hm;have:=hn x hm;simp at this
 rw [h];simp
 have:y=x:=by simpa using he
 subst this;exact List.mem_of_getElem? hy
theorem gw (bL:Value)(l:List Int)(x:Int)(w:World)(dK:Sl w bL l):Calls Tryz.prog 144 #[bL,iV x] w fun e w'=>e = .returned (.bool (decide (x∈l)))/\Ext w w':=by
 have wk:=dK.eV
 refine R.enter [] [(0,bL),(1,iV x)] Tryz.func144 O O O O<|U ?_
 refine R.c (q.call Uo O O (fun w hw=>(I2 _ l x w ((fun _=>Wd.old dK) w hw) ))) O ?_
 by_cases h1:idxOf (fun y=>y==x) l<0
 .
  refine U ?_
  exact R.rv O Tryz.results144 O (rB (by (have e:=Kh (l:=l) (x:=x);exact (decide_eq_false (e▸ae)).symm)))
 refine U ?_
 exact R.rv O Tryz.results144 O (rB (by (have e:=Kh (l:=l) (x:=x);exact (decide_eq_true (e▸ae)).symm)))
theorem sr (a8 aW aX aZ:Value)(r:av)(p:Place)(w:World)(qy:Sl w a8 r.ao)(nK:Sl w aW r.Things)(uZ:Sl w aX r.Held)(GI:Sl w aZ r.Notes)(hk:Ok r):Calls Tryz.prog 157 #[.agg #[a8,aW,aX,aZ,iV r.ag,iV r.ah],.agg #[iV p.ay,iV p.Slot]] w fun e w'=>e = .returned (.tuple #[ap.val (aM r p).1,cD (aM r p).2])/\Ext w w':=by
 have b1:=hk.hl
 refine R.enter [] [(0,.agg #[a8,aW,aX,aZ,iV r.ag,iV r.ah]),(1,.agg #[iV p.ay,iV p.Slot])] Tryz.func157 O O O O<|U ?_
 refine R.s O (s.box O O O) fun b1=>?_
 refine R.s O (s.box O O O) fun b2=>?_
 refine R.s O (s.alloc br O O) fun b3=>U ?_
 refine R.c (q.call DL O O (fun w hw=>(kE p w ))) O<|U ?_
 by_cases h1:bB p=0
 .
  refine U ?_
  rcases eh r.ao (mG r.Held p) with ⟨fS,Eh⟩ | ⟨wE,kv,fS,vj,S3⟩
  .
   refine R.dA O mixed ai<|U ?_
   refine Q.c (q.call DV O O (fun w hw=>(ow _ r.Held p w ((fun _=>Wd.old uZ) w hw) ae))) O<|Q.c (q.call ma O O (fun w hw=>(cv (congrArg (Value.int .i64) fS) (iJ _ r.ao (mG r.Held p) w ((fun _=>Wd.old qy) w hw) )))) O<|U ?_
   refine R.s O (s.st 0 _ O O O O (.inl aH) O O O O) fun _=>U ?_
   exact R.s7 O Tryz.results157 (RV.cell 0 O O aH) (RV.tmp O) (congrArg ap.val (show (⟨0,0,0,0,0⟩:ap)=(aM r p).1 from by (rw [rO af fS];rfl))) (dU aD (by (rw [rO af fS];done)))
  refine R.dA O mixed ai<|U ?_
  refine Q.c (q.call DV O O (fun w hw=>(ow _ r.Held p w ((fun _=>Wd.old uZ) w hw) ae))) O<|Q.c (q.call ma O O (fun w hw=>(cv (congrArg (Value.int .i64) fS) (iJ _ r.ao (mG r.Held p) w ((fun _=>Wd.old qy) w hw) )))) O<|U ?_
  refine R.q (q.idx (i:=wE) (fun _=>Wd.old qy) O O cR O (List.getElem?_eq_getElem kv)) O ?_
  refine R.q (q.dj (ds:=fY (r.ao[wE])) (fun _=>Wd.old qy) (List.getElem?_eq_getElem kv) O aH O) O ?_
  refine R.s O (s.st 0 _ O O O O (.inl aH) O O O O) fun _=>U ?_
  exact R.s7 O Tryz.results157 (RV.cell 0 O O aH) (RV.tmp O) (congrArg ap.val (show (r.ao[wE])=(aM r p).1 from by (rw [uu af fS (List.getElem?_eq_getElem kv)];done))) (iT (by (rw [uu af fS (List.getElem?_eq_getElem kv)];done)))
 refine U ?_
 refine R.s O (s.st 0 _ O O O O (.inl aH) O O O O) fun _=>U ?_
 exact R.s7 O Tryz.results157 (RV.cell 0 O O aH) (RV.tmp O) (congrArg ap.val (show (⟨0,0,0,0,0⟩:ap)=(aM r p).1 from by (rw [qQ af];rfl))) (rE (by (rw [qQ af];done)))
theorem su (a8 aW aX aZ:Value)(r:av)(p:Place)(w:World)(qy:Sl w a8 r.ao)(nK:Sl w aW r.Things)(uZ:Sl w aX r.Held)(GI:Sl w aZ r.Notes)(hk:Ok r):Calls Tryz.prog 155 #[.agg #[a8,aW,aX,aZ,iV r.ag,iV r.ah],.agg #[iV p.ay,iV p.Slot]] w fun e w'=>e = .returned (cD (eD r p))/\Ext w w':=by
 have b1:=hk.hl
 refine R.enter [] [(0,.agg #[a8,aW,aX,aZ,iV r.ag,iV r.ah]),(1,.agg #[iV p.ay,iV p.Slot])] Tryz.func155 O O O O<|U ?_
 refine R.s O (s.box O O O) fun b1=>?_
 refine R.s O (s.box O O O) fun b2=>U ?_
 refine R.c (q.call DL O O (fun w hw=>(kE p w ))) O<|U ?_
 by_cases h1:bB p=0
 .
  refine U ?_
  refine R.cg O (q.call DV O O (fun w hw=>(ow _ r.Held p w ((fun _=>Wd.old uZ) w hw) ae))) O ?_
  by_cases h2:mG r.Held p=0
  .
   refine U ?_
   exact R.rv O Tryz.results155 O (rE (by (unfold eD;(rw [if_pos af,if_pos af];omega))))
  refine U ?_
  exact R.rv O Tryz.results155 O (dU aD (by (unfold eD;(rw [if_pos af,if_neg af];done))))
 refine U ?_
 exact R.rv O Tryz.results155 O (rE (by (unfold eD;(rw [if_neg af];done))))
theorem rG (a8 aW aX aZ:Value)(r:av)(w0:ap)(p:Place)(w:World)(own:List Nat)(H:HN w own [] [aj.ls a8 r.ao,aj.ls aW r.Things,aj.ls aX r.Held,aj.ls aZ r.Notes])(hk:r.Held.length<=3000/\r.ao.length<=3000/\0<=r.ag/\r.ag<=3000):RC Tryz.prog 156 #[.agg #[a8,aW,aX,aZ,iV r.ag,iV r.ah],.agg #[iV w0.ID,iV w0.aA,iV w0.Rights,iV w0.aU,iV w0.From],.agg #[iV p.ay,iV p.Slot]] H (fun z:Value×Value×Value×Value => .agg #[z.1,z.2.1,z.2.2.1,z.2.2.2,iV (fB r w0 p).ag,iV (fB r w0 p).ah]) (fun _=>[]) (fun z=>[aj.ls z.1 (fB r w0 p).ao,aj.ls z.2.1 (fB r w0 p).Things,aj.ls z.2.2.1 (fB r w0 p).Held,aj.ls z.2.2.2 (fB r w0 p).Notes]):=by
 have cB:=H.bD 0 rfl
 have cd:=H.bD 1 rfl
 have df:=H.bD 2 rfl
 have cC:=H.bD 3 rfl
 have b1:=hk.1;have b2:=hk.2.1;have b3:=hk.2.2.1;have b4:=hk.2.2.2
 refine R.bE [(0,.agg #[a8,aW,aX,aZ,iV r.ag,iV r.ah]),(1,.agg #[iV w0.ID,iV w0.aA,iV w0.Rights,iV w0.aU,iV w0.From]),(2,.agg #[iV p.ay,iV p.Slot])] Tryz.func156 O O O O H<|U ?_
 refine R.s O (s.box O O O) fun b1=>?_
 refine R.s O (s.box O O O) fun b2=>?_
 refine R.s O (s.box O O O) fun b3=>?_
 refine R.s O (s.alloc cw O O) fun b4=>U ?_
 refine R.eA (fuel:=8) [0,1,2,4] O O mixed O<|D.l [0,3] [0,1,2,4] bm O<|U ?_
 refine D.two (i:=1) (j:=4) O O ?_ ?_
 .
  refine Do.s (s.c (Qt.a (q.ld 3 O O eF O)) O) (fun _=>(aN [0,1,2,4] bm O)) O fun _=>?_
  refine D.two (i:=2) (j:=4) O O ?_ ?_
  .
   refine Do.s (s.aT da [0] _ _ _ O O O zF O O (fun w own hw H=>jM a8 r.ao w own H ae) O) (fun _=>(aN [1,2,3,5] bm O)) O fun z2=>?_
   refine D.one (i:=4) O<|Do.s (s.bs (l:=([w0]:List ap)) cR br O O O O O O O) (fun _=>(aN qi bm O)) O fun b5=>?_
   refine D.one (i:=5) O<|Do.s (s.app 1 _ O O O (bH 0 O) g9 az az (fun _=>rfl) O) (fun _=>(aN qi bm O)) O fun v1=>?_
   refine D.l [6] qi bm O<|U ?_
   refine D.one (i:=7) O<|Do.s (s.dE 5 _ O O O (fun w hw=>Sl.bF (hw.row 1 O)) (.inr ⟨eF,rfl⟩) (fun w hw=>(aJ (Sl.one (hw.row 1 O)) bq)) O O O) (fun _=>(aN qi bm O)) O fun _=>?_
   refine D.done<|U ?_
   refine R.q (q.aL (r:=r.ag+1) O O) O<|U ?_
   refine R.s O (s.st 5 _ O O O O (.inr ⟨bg,rfl⟩) O O O O) fun _=>U ?_
   by_cases h1:0<p.ay
   .
    refine U ?_
    refine R.s O (s.aT kj [2] _ _ _ O O O vX O O (fun w own hw H=>sf aX r.Held p w0.ID w own H ae) O) fun z3=>U ?_
    refine R.s O (s.dE 6 _ O O O (fun w hw=>Sl.bF (hw.row 0 O)) (.inr ⟨eG,rfl⟩) (fun w hw=>(aJ (Sl.one (hw.row 0 O)) bq)) O O O) fun _=>U ?_
    refine R.s O (s.dE 3 _ O O O (fun _ _=>rfl) (.inl ak) (fun w hw=>(dx (hw.row 2 O) (hw.bz 1 O) (hw.row 0 O) (hw.bz 3 O) O O)) O O O) fun _=>U ?_
    refine R.mp (fun _ hw=>hw.bu 2 _ O O)<|R.mp (fun _ hw=>hw.bu 0 _ O O) ?_
    have hz:fB r w0 p=(⟨r.ao++([w0]),r.Things,eW r.Held p w0.ID,r.Notes,r.ag+1,r.ah⟩:av):=by (unfold fB;(rw [if_pos af];done))
    rw [hz]
    exact R.w1 (v1,aW,z3,aZ) [5] [1,3,0,5] O Tryz.results156 (RV.cell 1 O O ak) O O O O
   refine U ?_
   refine R.s O (s.dE 2 _ O O O (fun _ _=>rfl) (.inl ak) (fun w hw=>(dx (hw.row 1 O) (hw.bz 1 O) (hw.bz 2 O) (hw.bz 3 O) O O)) O O O) fun _=>U ?_
   refine R.mp (fun _ hw=>hw.bu 1 _ O O) ?_
   have hz:fB r w0 p=(⟨r.ao++([w0]),r.Things,r.Held,r.Notes,r.ag+1,r.ah⟩:av):=by (unfold fB;(rw [if_neg af];done))
   rw [hz]
   exact R.w1 (v1,aW,aX,aZ) [5] yk O Tryz.results156 (RV.cell 1 O O ak) O O O O
  refine Do.s (s.bs (l:=([w0]:List ap)) cR br O O O O O O O) (fun _=>(aN [1,2,3,5] bm O)) O fun b6=>?_
  refine D.one (i:=2) O<|Do.s (s.aT nE [0] _ _ _ O O O zF O O (fun w own hw H=>jM a8 r.ao w own H ae) O) (fun _=>(aN qi bm O)) O fun z4=>?_
  refine D.one (i:=5) O<|Do.s (s.app 0 _ O O O (bH 1 O) g9 az az (fun _=>rfl) O) (fun _=>(aN qi bm O)) O fun v2=>?_
  refine D.l [6] qi bm O<|U ?_
  refine D.one (i:=7) O<|Do.s (s.dE 5 _ O O O (fun w hw=>Sl.bF (hw.row 0 O)) (.inr ⟨eF,rfl⟩) (fun w hw=>(aJ (Sl.one (hw.row 0 O)) bq)) O O O) (fun _=>(aN qi bm O)) O fun _=>?_
  refine D.done<|U ?_
  refine R.q (q.aL (r:=r.ag+1) O O) O<|U ?_
  refine R.s O (s.st 5 _ O O O O (.inr ⟨bg,rfl⟩) O O O O) fun _=>U ?_
  by_cases h2:0<p.ay
  .
   refine U ?_
   refine R.s O (s.aT kj [2] _ _ _ O O O vX O O (fun w own hw H=>sf aX r.Held p w0.ID w own H ae) O) fun z5=>U ?_
   refine R.s O (s.dE 6 _ O O O (fun w hw=>Sl.bF (hw.row 0 O)) (.inr ⟨eG,rfl⟩) (fun w hw=>(aJ (Sl.one (hw.row 0 O)) bq)) O O O) fun _=>U ?_
   refine R.s O (s.dE 3 _ O O O (fun _ _=>rfl) (.inl ak) (fun w hw=>(dx (hw.row 1 O) (hw.bz 1 O) (hw.row 0 O) (hw.bz 3 O) O O)) O O O) fun _=>U ?_
   refine R.mp (fun _ hw=>hw.bu 1 _ O O)<|R.mp (fun _ hw=>hw.bu 0 _ O O) ?_
   have hz:fB r w0 p=(⟨r.ao++([w0]),r.Things,eW r.Held p w0.ID,r.Notes,r.ag+1,r.ah⟩:av):=by (unfold fB;(rw [if_pos af];done))
   rw [hz]
   exact R.w1 (v2,aW,z5,aZ) [5] [1,3,0,5] O Tryz.results156 (RV.cell 1 O O ak) O O O O
  refine U ?_
  refine R.s O (s.dE 2 _ O O O (fun _ _=>rfl) (.inl ak) (fun w hw=>(dx (hw.row 0 O) (hw.bz 1 O) (hw.bz 2 O) (hw.bz 3 O) O O)) O O O) fun _=>U ?_
  refine R.mp (fun _ hw=>hw.bu 0 _ O O) ?_
  have hz:fB r w0 p=(⟨r.ao++([w0]),r.Things,r.Held,r.Notes,r.ag+1,r.ah⟩:av):=by (unfold fB;(rw [if_neg af];done))
  rw [hz]
  exact R.w1 (v2,aW,aX,aZ) [5] yk O Tryz.results156 (RV.cell 1 O O ak) O O O O
 refine Do.s (s.bs (l:=([w0]:List ap)) cR br O O O O O O O) (fun _=>(aN [1,2,3,5] bm O)) O fun b7=>?_
 refine D.one (i:=1) O<|Do.s (s.c (Qt.a (q.ld 4 O O eF O)) O) (fun _=>(aN [1,2,3,5] bm O)) O fun _=>?_
 refine D.one (i:=2) O<|Do.s (s.aT nE [0] _ _ _ O O O zF O O (fun w own hw H=>jM a8 r.ao w own H ae) O) (fun _=>(aN qi bm O)) O fun z6=>?_
 refine D.one (i:=5) O<|Do.s (s.app 0 _ O O O (bH 1 O) g9 az az (fun _=>rfl) O) (fun _=>(aN qi bm O)) O fun v3=>?_
 refine D.l [6] qi bm O<|U ?_
 refine D.one (i:=7) O<|Do.s (s.dE 5 _ O O O (fun w hw=>Sl.bF (hw.row 0 O)) (.inr ⟨eF,rfl⟩) (fun w hw=>(aJ (Sl.one (hw.row 0 O)) bq)) O O O) (fun _=>(aN qi bm O)) O fun _=>?_
 refine D.done<|U ?_
 refine R.q (q.aL (r:=r.ag+1) O O) O<|U ?_
 refine R.s O (s.st 5 _ O O O O (.inr ⟨bg,rfl⟩) O O O O) fun _=>U ?_
 by_cases h3:0<p.ay
 .
  refine U ?_
  refine R.s O (s.aT kj [2] _ _ _ O O O vX O O (fun w own hw H=>sf aX r.Held p w0.ID w own H ae) O) fun z7=>U ?_
  refine R.s O (s.dE 6 _ O O O (fun w hw=>Sl.bF (hw.row 0 O)) (.inr ⟨eG,rfl⟩) (fun w hw=>(aJ (Sl.one (hw.row 0 O)) bq)) O O O) fun _=>U ?_
  refine R.s O (s.dE 3 _ O O O (fun _ _=>rfl) (.inl ak) (fun w hw=>(dx (hw.row 1 O) (hw.bz 1 O) (hw.row 0 O) (hw.bz 3 O) O O)) O O O) fun _=>U ?_
  refine R.mp (fun _ hw=>hw.bu 1 _ O O)<|R.mp (fun _ hw=>hw.bu 0 _ O O) ?_
  have hz:fB r w0 p=(⟨r.ao++([w0]),r.Things,eW r.Held p w0.ID,r.Notes,r.ag+1,r.ah⟩:av):=by (unfold fB;(rw [if_pos af];done))
  rw [hz]
  exact R.w1 (v3,aW,z7,aZ) [5] [1,3,0,5] O Tryz.results156 (RV.cell 1 O O ak) O O O O
 refine U ?_
 refine R.s O (s.dE 2 _ O O O (fun _ _=>rfl) (.inl ak) (fun w hw=>(dx (hw.row 0 O) (hw.bz 1 O) (hw.bz 2 O) (hw.bz 3 O) O O)) O O O) fun _=>U ?_
 refine R.mp (fun _ hw=>hw.bu 0 _ O O) ?_
 have hz:fB r w0 p=(⟨r.ao++([w0]),r.Things,r.Held,r.Notes,r.ag+1,r.ah⟩:av):=by (unfold fB;(rw [if_neg af];done))
 rw [hz]
 exact R.w1 (v3,aW,aX,aZ) [5] yk O Tryz.results156 (RV.cell 1 O O ak) O O O O
theorem O2 (w:World)(own:List Nat)(H:HN w own [] []):RC Tryz.prog 64 #[] H (fun z:Value×Value×Value×Value => .agg #[z.1,z.2.1,z.2.2.1,z.2.2.2,iV (⟨[],[],[],[],1,1⟩:av).ag,iV (⟨[],[],[],[],1,1⟩:av).ah]) (fun _=>[]) (fun z=>[aj.ls z.1 ((⟨[],[],[],[],1,1⟩:av).ao:List ap),aj.ls z.2.1 ((⟨[],[],[],[],1,1⟩:av).Things:List aA),aj.ls z.2.2.1 ((⟨[],[],[],[],1,1⟩:av).Held:List Held),aj.ls z.2.2.2 ((⟨[],[],[],[],1,1⟩:av).Notes:List Note)]):=by
 refine R.bE [] Tryz.func64 O O O O H<|U ?_
 refine R.s O (s.alloc cw O O) fun b1=>U ?_
 refine R.s O (s.st 0 _ O O O O (.inl ak) O O O O) fun _=>U ?_
 exact R.iY ap aA Held Note<|R.w1 ((nS),nS,nS,(nS)) [1] dh O Tryz.results64 (RV.cell 0 O O ak) O O O O
theorem Aq (t:aA)(w0:ap)(Ej:Nat)(w:World)(O3:(aj.box Ej (fY w0) 126).ok w):Calls Tryz.prog 216 #[.agg #[iV t.ID,iV t.Kind,.string t.Data],.pointer (some ⟨Ej,0,none⟩)] w fun e w'=>e = .returned (.bool (t.ID==w0.aA))/\Ext w w':=by
 refine R.enter [] [(0,.agg #[iV t.ID,iV t.Kind,.string t.Data]),(1,.pointer (some ⟨Ej,0,none⟩))] Tryz.func216 O O O O<|R.oN (r:=aj.box Ej (fY w0) 126) O3 (jQ O3)<|U ?_
 refine R.s O (s.box O O O) fun b1=>U ?_
 refine R.q (q.AL 0 O O bg O) O ?_
 by_cases h1:t.ID=w0.aA
 .
  refine U ?_
  exact R.rv O Tryz.results216 O (rB (by (exact (beq_iff_eq.2 af).symm)))
 refine U ?_
 exact R.rv O Tryz.results216 O (rB (by (exact (beq_eq_false_iff_ne.2 af).symm)))
theorem xq (t:Note)(w0:ap)(Ej:Nat)(w:World)(O3:(aj.box Ej (fY w0) 126).ok w):Calls Tryz.prog 168 #[.agg #[iV t.Port,.string t.Data,iV t.aU,iV t.ap],.pointer (some ⟨Ej,0,none⟩)] w fun e w'=>e = .returned (.bool (t.Port==w0.aA))/\Ext w w':=by
 refine R.enter [] [(0,.agg #[iV t.Port,.string t.Data,iV t.aU,iV t.ap]),(1,.pointer (some ⟨Ej,0,none⟩))] Tryz.func168 O O O O<|R.oN (r:=aj.box Ej (fY w0) 126) O3 (jQ O3)<|U ?_
 refine R.s O (s.box O O O) fun b1=>U ?_
 refine R.q (q.AL 0 O O bg O) O ?_
 by_cases h1:t.Port=w0.aA
 .
  refine U ?_
  exact R.rv O Tryz.results168 O (rB (by (exact (beq_iff_eq.2 af).symm)))
 refine U ?_
 exact R.rv O Tryz.results168 O (rB (by (exact (beq_eq_false_iff_ne.2 af).symm)))
theorem Bg (t:aA)(U6:Value)(ts:List Int)(Rc:Nat)(w:World)(X2:(aj.box Rc [U6] 110).ok w)(Zs:Sl w U6 ts):Calls Tryz.prog 212 #[.agg #[iV t.ID,iV t.Kind,.string t.Data],.pointer (some ⟨Rc,0,none⟩)] w fun e w'=>e = .returned (.bool (!decide (t.ID∈ts)))/\Ext w w':=by
 refine R.enter [] [(0,.agg #[iV t.ID,iV t.Kind,.string t.Data]),(1,.pointer (some ⟨Rc,0,none⟩))] Tryz.func212 O O O O<|R.oN (r:=aj.box Rc [U6] 110) X2 (jQ X2)<|U ?_
 refine R.s O (s.box O O O) fun b1=>U ?_
 refine R.q (q.AL 0 O O rk O) O<|U ?_
 refine R.c (q.call rl O O (fun w hw=>(gw _ ts t.ID w ((fun _=>Wd.old Zs) w hw) ))) O ?_
 refine R.q (q.not O) O<|U ?_
 exact R.rv O Tryz.results212 O (rB ck)
theorem Bh (h:Held)(a8 aW aX aZ:Value)(r:av)(O4:Nat)(w:World)(k_r:(aj.box O4 [a8,aW,aX,aZ,iV r.ag,iV r.ah] 48).ok w)(qy:Sl w a8 r.ao)(nK:Sl w aW r.Things)(uZ:Sl w aX r.Held)(GI:Sl w aZ r.Notes):Calls Tryz.prog 214 #[.agg #[iV h.Place.ay,iV h.Place.Slot,iV h.ap],.pointer (some ⟨O4,0,none⟩)] w fun e w'=>e = .returned (.bool (decide (cO r.ao h.ap<0)))/\Ext w w':=by
 refine R.enter [] [(0,.agg #[iV h.Place.ay,iV h.Place.Slot,iV h.ap]),(1,.pointer (some ⟨O4,0,none⟩))] Tryz.func214 O O O O<|R.oN (r:=aj.box O4 [a8,aW,aX,aZ,iV r.ag,iV r.ah] 48) k_r (jQ k_r)<|U ?_
 refine R.s O (s.box O O O) fun b1=>U ?_
 refine R.q (q.AL 0 O O eF O) O<|U ?_
 rcases eh r.ao h.ap with ⟨fS,Eh⟩ | ⟨wE,kv,fS,vj,S3⟩
 .
  refine R.c (q.call ma O O (fun w hw=>(cv (congrArg (Value.int .i64) fS) (iJ _ r.ao h.ap w ((fun _=>Wd.old qy) w hw) )))) O<|U ?_
  exact R.rv O Tryz.results214 O (rB (by (exact (decide_eq_true ae).symm)))
 refine R.c (q.call ma O O (fun w hw=>(cv (congrArg (Value.int .i64) fS) (iJ _ r.ao h.ap w ((fun _=>Wd.old qy) w hw) )))) O<|U ?_
 exact R.rv O Tryz.results214 O (rB (by (exact (decide_eq_false ae).symm)))
theorem Bi (x:ap)(U7:Value)(gs:List Int)(Rf:Nat)(w:World)(X3:(aj.box Rf [U7] 110).ok w)(Zt:Sl w U7 gs):Calls Tryz.prog 165 #[.agg #[iV x.ID,iV x.aA,iV x.Rights,iV x.aU,iV x.From],.pointer (some ⟨Rf,0,none⟩)] w fun e w'=>e = .returned (.bool (decide (x.ID∈gs)))/\Ext w w':=by
 refine R.enter [] [(0,.agg #[iV x.ID,iV x.aA,iV x.Rights,iV x.aU,iV x.From]),(1,.pointer (some ⟨Rf,0,none⟩))] Tryz.func165 O O O O<|R.oN (r:=aj.box Rf [U7] 110) X3 (jQ X3)<|U ?_
 refine R.s O (s.box O O O) fun b1=>U ?_
 refine R.q (q.AL 0 O O rk O) O<|U ?_
 refine R.c (q.call rl O O (fun w hw=>(gw _ gs x.ID w ((fun _=>Wd.old Zt) w hw) ))) O<|U ?_
 exact R.rv O Tryz.results165 O (rB ck)
end
section
open Go Go.RowKit
attribute [local irreducible] Run Rg Rq Qt Qa Stp Dg Do Dm cD
theorem tO (a8 aW aX aZ:Value)(r:av)(w:World)(own:List Nat)(H:HN w own [] [aj.ls a8 r.ao,aj.ls aW r.Things,aj.ls aX r.Held,aj.ls aZ r.Notes])(hk:Ok r):RC Tryz.prog 162 #[.agg #[a8,aW,aX,aZ,iV r.ag,iV r.ah]] H (fun z:Value×Value×Value×Value => .agg #[z.1,z.2.1,z.2.2.1,z.2.2.2,iV (dt r).ag,iV (dt r).ah]) (fun _=>[]) (fun z=>[aj.ls z.1 (dt r).ao,aj.ls z.2.1 (dt r).Things,aj.ls z.2.2.1 (dt r).Held,aj.ls z.2.2.2 (dt r).Notes]):=by
 have cB:=H.bD 0 rfl
 have cd:=H.bD 1 rfl
 have df:=H.bD 2 rfl
 have cC:=H.bD 3 rfl
 refine R.bE [(0,.agg #[a8,aW,aX,aZ,iV r.ag,iV r.ah])] Tryz.func162 O O O O H<|U ?_
 refine R.s O (s.box O O O) fun b1=>?_
 refine R.s O (s.alloc cw O O) fun b2=>U ?_
 refine R.loop (fun g_:av×Value×Value×Value×Value=>[(1,.pointer (some ⟨b1,0,none⟩)),(2,.pointer (some ⟨b2,0,none⟩))]) (fun g_=>[aj.box b2 t8 48,aj.box b1 [g_.2.1,g_.2.2.1,g_.2.2.2.1,g_.2.2.2.2,iV g_.1.ag,iV g_.1.ah] 48,aj.held w own]) (fun g_=>[aj.ls g_.2.1 g_.1.ao,aj.ls g_.2.2.1 g_.1.Things,aj.ls g_.2.2.2.1 g_.1.Held,aj.ls g_.2.2.2.2 g_.1.Notes,aj.ls a8 r.ao,aj.ls aW r.Things,aj.ls aX r.Held,aj.ls aZ r.Notes]) (fun g_=>Ok g_.1/\dt g_.1=dt r) (fun g_=>g_.1.Notes.length) (r,a8,aW,aX,aZ) O (by exact ⟨hk,rfl⟩) (sF O) (eI [0,1,2] [0,1,2,3,0,1,2,3] O) ?_
 rintro ⟨m,xF,CM,Bj,Bm⟩ ⟨hok,HS⟩
 dsimp only at *
 have o1:=hok.wl;have o2:=hok.tl;have o3:=hok.hl;have o4:=hok.nl
 refine U ?_
 refine R.s O (s.oL NU O O (fun w hw=>xp _ m.ao w (hw.bz 0 O) ae) O) fun v1=>?_
 refine R.s O (s.alloc Cl O O) fun b3=>?_
 refine R.s O (s.dE 0 _ O O O (fun w hw=>Sl.bF (hw.row 1 O)) (.inr ⟨rk,rfl⟩) (fun w hw=>(aJ (Sl.one (hw.row 1 O)) bq)) O O O) fun _=>U ?_
 refine R.s O (s.aT da [1] _ _ _ O O O zG O O (fun w own hw H=>jr CM m.Things w own H ae) O) fun z1=>?_
 refine R.q (q.PN (cap:=[.pointer (some ⟨b3,0,none⟩)]) O O) O<|R.s O (s.aT nE [] _ _ _ O O O Uu O O (fun w own hw H=>wF z1 m.Things (fun (t:aA) => !decide (t.ID∈(bC m.ao))) _ _ Uv w own H (fun W t hU=>Bg t _ (bC m.ao) _ W (hw.yv 1 0 O O aD hU) (Own.sl (hw.yv 2 0 O O aD hU)) ) ae) O) fun z2=>U ?_
 refine R.s O (s.dE 4 _ O O O (fun w hw=>Sl.bF (hw.row 0 O)) (.inr ⟨gC,rfl⟩) (fun w hw=>(aJ (Sl.one (hw.row 0 O)) bq)) O O O) fun _=>U ?_
 refine R.row0 (α:=Int) 3<|R.row0 (α:=Note) 91<|R.loop (fun g_:Nat×Value×(List Note)×Value×(List Int)=>[(1,.pointer (some ⟨b1,0,none⟩)),(2,.pointer (some ⟨b2,0,none⟩)),(3,.pointer (some ⟨b3,0,none⟩)),(4,g_.2.2.2.1),(5,g_.2.1),(20,Bm),(21,iV (m.Notes.length:Int)),(22,iV (g_.1:Int))]) (fun g_=>[aj.row 91 g_.2.1 g_.2.2.1,aj.row 3 g_.2.2.2.1 g_.2.2.2.2,aj.row 103 z2 (m.Things.filter (fun x => !(fun (t:aA) => !decide (t.ID∈(bC m.ao))) x)),aj.box b3 [v1] 110,aj.row 3 v1 (bC m.ao),aj.box b2 t8 48,aj.box b1 [xF,z2,Bj,Bm,iV m.ag,iV m.ah] 48,aj.held w own]) (fun g_=>[aj.ls xF m.ao,aj.ls CM m.Things,aj.ls Bj m.Held,aj.ls Bm m.Notes,aj.ls a8 r.ao,aj.ls aW r.Things,aj.ls aX r.Held,aj.ls aZ r.Notes]) (fun g_=>g_.1<=m.Notes.length/\g_.2.2.1=gX m.ao (bC m.ao) (m.Notes.take g_.1)/\g_.2.2.2.2=iD m.ao (bC m.ao) (m.Notes.take g_.1)) (fun g_=>m.Notes.length-g_.1) (0,nS,[],nS,[]) O (by exact ⟨ae,by simp [gX],by simp [iD]⟩) (sF O) (eI cu cu O) ?_
 rintro ⟨k,vn,ns,vl,ls⟩ ⟨hk1,HN,HL⟩
 dsimp only at *
 have hkl:=oP m.ao (bC m.ao) (m.Notes.take k);rw [<- HN,<- HL,List.length_take] at hkl
 refine U ?_
 by_cases h1:k<m.Notes.length
 .
  refine U ?_
  obtain ⟨x1,hx1⟩:=gE m.Notes k
  refine R.q (q.idx (i:=k) (cb 3 O) O O dI O hx1) O<|R.q (q.dj (ds:=mP x1) (cb 3 O) hx1 O cj O) O<|R.s O (s.alloc dO O O) fun b4=>?_
  refine R.s O (s.st 0 _ O O O O (.inl cj) O O O O) fun _=>U ?_
  rcases eh m.ao x1.ap with ⟨fS,Eh⟩ | ⟨wE,kv,fS,vj,S3⟩
  .
   refine R.c (q.call ma O O (fun w hw=>(cv (congrArg (Value.int .i64) fS) (iJ _ m.ao x1.ap w (hw.bz 0 O) )))) O<|U ?_
   refine R.s O (s.st 0 _ O O O O (.inr ⟨bg,rfl⟩) O O O O) fun _=>U ?_
   rcases Bool.eq_false_or_eq_true (decide (x1.Port∈(bC m.ao))) with h2|h2
   .
    refine R.c (q.call rl O O (fun w hw=>(cv (congrArg Value.bool h2) (gw _ (bC m.ao) x1.Port w (hw.row 5 O) )))) O<|U ?_
    refine R.s O (s.bs (l:=([(⟨x1.Port,x1.Data,x1.aU,0⟩:Note)]:List Note)) dI dO O O O O O O O) fun b5=>?_
    refine R.s O (s.app 2 _ O O O (bH 0 O) ea az az (fun _=>rfl) O) fun v2=>U ?_
    refine R.q (q.aL (r:=((k+1:Nat):Int)) O O) O<|U ?_
    refine R.back (k+1,v2,ns++([(⟨x1.Port,x1.Data,x1.aU,0⟩:Note)]),vl,ls) O (by (have e0:=hx1;(have e1:=xJ (ws:=m.ao) fS;have e2:=rQ e0 (by rw [e1];exact of_decide_eq_true af);rw [e1] at e2;exact ⟨ae,by rw [e2.1,HN],by rw [e2.2,HL]⟩))) aO (sF O) (aN Bo cu O)
   refine R.c (q.call rl O O (fun w hw=>(cv (congrArg Value.bool h2) (gw _ (bC m.ao) x1.Port w (hw.row 5 O) )))) O<|U ?_
   refine R.q (q.aL (r:=((k+1:Nat):Int)) O O) O<|U ?_
   refine R.back (k+1,vn,ns,vl,ls) O (by (have e0:=hx1;(have e1:=xJ (ws:=m.ao) fS;have e2:=rR e0 (by rw [e1];exact of_decide_eq_false af) (by rw [e1];simp);exact ⟨ae,by rw [e2.1,HN],by rw [e2.2,HL]⟩))) aO (sF O) (aN tU cu O)
  refine R.c (q.call ma O O (fun w hw=>(cv (congrArg (Value.int .i64) fS) (iJ _ m.ao x1.ap w (hw.bz 0 O) )))) O<|U ?_
  rcases Bool.eq_false_or_eq_true (decide (x1.Port∈(bC m.ao))) with h3|h3
  .
   refine R.c (q.call rl O O (fun w hw=>(cv (congrArg Value.bool h3) (gw _ (bC m.ao) x1.Port w (hw.row 5 O) )))) O<|U ?_
   refine R.s O (s.bs (l:=([x1]:List Note)) dI dO O O O O O O O) fun b6=>?_
   refine R.s O (s.app 2 _ O O O (bH 0 O) ea az az (fun _=>rfl) O) fun v3=>U ?_
   refine R.q (q.aL (r:=((k+1:Nat):Int)) O O) O<|U ?_
   refine R.back (k+1,v3,ns++([x1]),vl,ls) O (by (have e0:=hx1;(have e1:=oQ (ws:=m.ao) fS;have e2:=rQ e0 (by rw [e1];exact of_decide_eq_true af);rw [e1] at e2;exact ⟨ae,by rw [e2.1,HN],by rw [e2.2,HL]⟩))) aO (sF O) (aN Bo cu O)
  refine R.c (q.call rl O O (fun w hw=>(cv (congrArg Value.bool h3) (gw _ (bC m.ao) x1.Port w (hw.row 5 O) )))) O<|U ?_
  by_cases h4:0<x1.ap
  .
   refine U ?_
   refine R.s O (s.bs (l:=([x1.ap]:List Int)) dD kC O O O O O O O) fun b7=>?_
   refine R.s O (s.app 3 _ O O O (bH 0 O) lY az az (fun _=>rfl) O) fun v4=>U ?_
   refine R.q (q.aL (r:=((k+1:Nat):Int)) O O) O<|U ?_
   refine R.back (k+1,vn,ns,v4,(ls++([x1.ap]))) O (by (have e0:=hx1;(have e1:=oQ (ws:=m.ao) fS;have e2:=BM e0 (by rw [e1];exact of_decide_eq_false af) (by rw [e1];assumption);rw [e1] at e2;exact ⟨ae,by rw [e2.1,HN],by rw [e2.2,HL]⟩))) aO (sF O) (aN Bo cu O)
  refine U ?_
  refine R.q (q.aL (r:=((k+1:Nat):Int)) O O) O<|U ?_
  refine R.back (k+1,vn,ns,vl,ls) O (by (have e0:=hx1;(have e1:=oQ (ws:=m.ao) fS;have e2:=rR e0 (by rw [e1];exact of_decide_eq_false af) (by rw [e1];assumption);exact ⟨ae,by rw [e2.1,HN],by rw [e2.2,HL]⟩))) aO (sF O) (aN tU cu O)
 refine U ?_
 refine R.s O (s.dE 6 _ O O O (fun w hw=>Sl.bF (hw.row 0 O)) (.inr ⟨cQ,rfl⟩) (fun w hw=>(aJ (Sl.one (hw.row 0 O)) bq)) O O O) fun _=>U ?_
 refine R.s O (s.aT cu [2] _ _ _ O O O Io O O (fun w own hw H=>oF Bj m.Held w own H ae) O) fun z3=>?_
 refine R.q (q.PN (cap:=[.pointer (some ⟨b1,0,none⟩)]) O O) O<|R.s O (s.aT dQ [] _ _ _ O O O Uw O O (fun w own hw H=>xD z3 m.Held (fun (h:Held)=>decide (cO (⟨m.ao,m.Things.filter (fun x => !(fun (t:aA) => !decide (t.ID∈(bC m.ao))) x),m.Held,ns,m.ag,m.ah⟩:av).ao h.ap<0)) _ _ Ux w own H (fun W h hU=>Bh h _ _ _ _ (⟨m.ao,m.Things.filter (fun x => !(fun (t:aA) => !decide (t.ID∈(bC m.ao))) x),m.Held,ns,m.ag,m.ah⟩:av) _ W (hw.yv 7 0 O O aD hU) (hw.RY 0 0 O O hU) (Own.sl (hw.yv 3 0 O O aD hU)) (hw.RY 2 0 O O hU) (Own.sl (hw.yv 1 0 O O aD hU)) ) ae) O) fun z4=>U ?_
 refine R.s O (s.dE 7 _ O O O (fun w hw=>Sl.bF (hw.row 0 O)) (.inr ⟨eG,rfl⟩) (fun w hw=>(aJ (Sl.one (hw.row 0 O)) bq)) O O O) fun _=>U ?_
 by_cases h5:ls.length=0
 .
  refine U ?_
  refine R.s O (s.dE 6 _ O O O (fun _ _=>rfl) (.inl ak) (fun w hw=>(dx (hw.bz 0 O) (hw.row 3 O) (hw.row 0 O) (hw.row 1 O) O O)) O O O) fun _=>U ?_
  refine R.mp (fun _ hw=>hw.bu 3 _ O O)<|R.mp (fun _ hw=>hw.bu 0 _ O O)<|R.mp (fun _ hw=>hw.bu 0 _ O O) ?_
  have hz:dt r=(⟨m.ao,m.Things.filter (fun x => !(fun (t:aA) => !decide (t.ID∈(bC m.ao))) x),m.Held.filter (fun x => !(fun (h:Held)=>decide (cO m.ao h.ap<0)) x),ns,m.ag,m.ah⟩:av):=by (rw [List.take_of_length_le ae] at HN HL;rw [<- HS,od (by show (iD _ _ _).length=0;rw [<- HL];assumption)];unfold fH;rw [<- HN])
  rw [hz]
  exact R.w1 (xF,z2,z4,vn) [5] dh O Tryz.results162 (RV.cell 3 O O ak) O O O O
 refine U ?_
 refine R.loop (fun g_:Nat×Value×(List ap)=>[(1,.pointer (some ⟨b1,0,none⟩)),(2,.pointer (some ⟨b2,0,none⟩)),(62,vl),(63,iV (ls.length:Int)),(64,iV (g_.1:Int))]) (fun g_=>[aj.row 124 z4 (m.Held.filter (fun x => !(fun (h:Held)=>decide (cO m.ao h.ap<0)) x)),aj.row 91 vn ns,aj.row 3 vl ls,aj.row 103 z2 (m.Things.filter (fun x => !(fun (t:aA) => !decide (t.ID∈(bC m.ao))) x)),aj.box b3 [v1] 110,aj.row 3 v1 (bC m.ao),aj.box b2 t8 48,aj.box b1 [g_.2.1,z2,z4,vn,iV m.ag,iV m.ah] 48,aj.held w own]) (fun g_=>[aj.ls g_.2.1 g_.2.2,aj.ls xF m.ao,aj.ls CM m.Things,aj.ls Bj m.Held,aj.ls Bm m.Notes,aj.ls a8 r.ao,aj.ls aW r.Things,aj.ls aX r.Held,aj.ls aZ r.Notes]) (fun g_=>g_.1<=ls.length/\g_.2.2=(ls.take g_.1).foldl without m.ao) (fun g_=>ls.length-g_.1) (0,xF,m.ao) O (by exact ⟨ae,rfl⟩) (sF O) (eI dQ [0,0,1,2,3,4,5,6,7] O) ?_
 rintro ⟨j,vw,ws⟩ ⟨hj1,HW⟩
 dsimp only at *
 have hws:ws.length<=2000:=by rw [HW];exact Nat.le_trans (qR _ _) hok.wl
 refine U ?_
 by_cases h6:j<ls.length
 .
  refine U ?_
  obtain ⟨x2,hx2⟩:=gE ls j
  refine R.q (q.idx (i:=j) (bH 2 O) O O dD O hx2) O<|R.q (q.gh (bH 2 O) hx2 O bg O) O<|U ?_
  refine R.s O (s.oL Ir O O (fun w hw=>rD _ ws x2 w (hw.bz 0 O) ae) O) fun v5=>U ?_
  refine R.s O (s.dE 8 _ O O O (fun w hw=>Sl.bF (hw.row 0 O)) (.inr ⟨eF,rfl⟩) (fun w hw=>(aJ (Sl.one (hw.row 0 O)) bq)) O O O) fun _=>U ?_
  refine R.q (q.aL (r:=((j+1:Nat):Int)) O O) O<|U ?_
  refine R.mp (fun _ hw=>hw.bu 0 _ O O)<|R.back (j+1,v5,(without ws x2)) O (by (exact ⟨ae,by rw [List.take_add_one,hx2,HW];simp⟩)) aO (sF O) (aN dQ [0,2,3,4,5,6,7,8,9] O)
 refine U ?_
 refine R.mp (fun _ hw=>hw.bu 3 _ O O)<|R.mp (fun _ hw=>hw.bu 0 _ O O)<|R.mp (fun _ hw=>hw.bu 0 _ O O)<|R.back ((⟨ws,m.Things.filter (fun x => !(fun (t:aA) => !decide (t.ID∈(bC m.ao))) x),m.Held.filter (fun x => !(fun (h:Held)=>decide (cO m.ao h.ap<0)) x),ns,m.ag,m.ah⟩:av),vw,z2,z4,vn) O (by (rw [List.take_of_length_le ae] at HN HL;rw [List.take_of_length_le ae] at HW;have hl:oc m=ls:=HL.symm;have e:lh m=(⟨ws,m.Things.filter (fun t => !!decide (t.ID∈bC m.ao)),m.Held.filter (fun h => !decide (cO m.ao h.ap<0)),ns,m.ag,m.ah⟩:av):=(by unfold lh;rw [hl,<- HW];unfold fH;rw [<- HN]);exact Eq.mp (congrArg (fun q:av=>Ok q/\dt q=dt r) e) ⟨hok.lh,(wU (by rw [hl];assumption)).symm.trans HS⟩)) aO (sF O) (aN [3,4,5] [3,2,1,0,8,9,10,11] O)
end
end Go.Proofs.YtnmpibjlnninjaaGreatDoor
