import Derived.Test.YtkbhcbipadkcaaaGreatDoorTF19
namespace Go.Proofs.YtkbhcbipadkcaaaGreatDoor
set_option linter.unusedVariables false
set_option linter.unusedSimpArgs false
set_option maxRecDepth 100000
set_option maxHeartbeats 90000000
section
open Go Go.RowKit
theorem jJ (bP:Value)(l:List ak)(w:World)(own:List Nat)(H:HN w own [] [ag.ls bP l])(hl:l.length<=1000000):RC Tryz.prog 105 #[bP] H (fun z:Value=>z) (fun z=>[ag.row 127 z l]) (fun _=>[]):=by
 have yw:=H.ck 0 rfl
 refine R.bD [(0,bP)] Tryz.func105 O O O O H<|R.reg O<|R.u 1 O<|R.nil<|R.reg O<|R.u 1 O<|?_
 rcases Bool.eq_false_or_eq_true (pq bP) with h1|h1
 .
  refine R.q (q.Hj (congrArg Value.bool h1) (q.o7 (dx 0 O) O O Tryz.underlying43)) O<|R.nil<|R.az O O<|R.reg O<|R.u 1 O<|R.nil<|R.row0 (α:=ak) 127 ?_
  have hz:l=[]:=by (exact Sl.pq (H.bN 0 rfl) ‹_›)
  rw [hz]
  exact R.w1 (nS) [0,1] [] O Tryz.results105 (RV.tmp O) O O O O
 refine R.q (q.Hj (congrArg Value.bool h1) (q.o7 (dx 0 O) O O Tryz.underlying43)) O<|R.nil<|R.aC O O<|R.reg O<|R.s O (s.bs (l:=([]:List ak)) eu bR O O O O O O O) fun b1=>?_
 refine R.u 1 O<|R.s O (s.app 0 _ O O O (dx 0 O) ln (by simp;omega) (by simp;omega) (fun _=>rfl) O) fun v1=>?_
 refine R.u 1 O<|R.nil ?_
 have hz:l=(([])++l):=by (rfl)
 rw [hz]
 exact R.w1 v1 [0,1] [] O Tryz.results105 (RV.tmp O) O O O O
theorem ji (bP:Value)(l:List aF)(w:World)(own:List Nat)(H:HN w own [] [ag.ls bP l])(hl:l.length<=1000000):RC Tryz.prog 106 #[bP] H (fun z:Value=>z) (fun z=>[ag.row 100 z l]) (fun _=>[]):=by
 have yw:=H.ck 0 rfl
 refine R.bD [(0,bP)] Tryz.func106 O O O O H<|R.reg O<|R.u 1 O<|R.nil<|R.reg O<|R.u 1 O<|?_
 rcases Bool.eq_false_or_eq_true (pq bP) with h1|h1
 .
  refine R.q (q.Hj (congrArg Value.bool h1) (q.o7 (dx 0 O) O O Tryz.underlying44)) O<|R.nil<|R.az O O<|R.reg O<|R.u 1 O<|R.nil<|R.row0 (α:=aF) 100 ?_
  have hz:l=[]:=by (exact Sl.pq (H.bN 0 rfl) ‹_›)
  rw [hz]
  exact R.w1 (nS) [0,1] [] O Tryz.results106 (RV.tmp O) O O O O
 refine R.q (q.Hj (congrArg Value.bool h1) (q.o7 (dx 0 O) O O Tryz.underlying44)) O<|R.nil<|R.aC O O<|R.reg O<|R.s O (s.bs (l:=([]:List aF)) kg jo O O O O O O O) fun b1=>?_
 refine R.u 1 O<|R.s O (s.app 0 _ O O O (dx 0 O) sS (by simp;omega) (by simp;omega) (fun _=>rfl) O) fun v1=>?_
 refine R.u 1 O<|R.nil ?_
 have hz:l=(([])++l):=by (rfl)
 rw [hz]
 exact R.w1 v1 [0,1] [] O Tryz.results106 (RV.tmp O) O O O O
theorem fh (bP:Value)(l:List Note)(w:World)(own:List Nat)(H:HN w own [] [ag.ls bP l])(hl:l.length<=1000000):RC Tryz.prog 108 #[bP] H (fun z:Value=>z) (fun z=>[ag.row 89 z l]) (fun _=>[]):=by
 have yw:=H.ck 0 rfl
 refine R.bD [(0,bP)] Tryz.func108 O O O O H<|R.reg O<|R.u 1 O<|R.nil<|R.reg O<|R.u 1 O<|?_
 rcases Bool.eq_false_or_eq_true (pq bP) with h1|h1
 .
  refine R.q (q.Hj (congrArg Value.bool h1) (q.o7 (dx 0 O) O O Tryz.underlying46)) O<|R.nil<|R.az O O<|R.reg O<|R.u 1 O<|R.nil<|R.row0 (α:=Note) 89 ?_
  have hz:l=[]:=by (exact Sl.pq (H.bN 0 rfl) ‹_›)
  rw [hz]
  exact R.w1 (nS) [0,1] [] O Tryz.results108 (RV.tmp O) O O O O
 refine R.q (q.Hj (congrArg Value.bool h1) (q.o7 (dx 0 O) O O Tryz.underlying46)) O<|R.nil<|R.aC O O<|R.reg O<|R.s O (s.bs (l:=([]:List Note)) gK eT O O O O O O O) fun b1=>?_
 refine R.u 1 O<|R.s O (s.app 0 _ O O O (dx 0 O) ki (by simp;omega) (by simp;omega) (fun _=>rfl) O) fun v1=>?_
 refine R.u 1 O<|R.nil ?_
 have hz:l=(([])++l):=by (rfl)
 rw [hz]
 exact R.w1 v1 [0,1] [] O Tryz.results108 (RV.tmp O) O O O O
theorem qm (bP:Value)(l:List Note)(i:Nat)(j:Nat)(w:World)(own:List Nat)(H:HN w own [ag.row 89 bP l] [])(hij:i<=j/\j<=l.length):RC Tryz.prog 129 #[bP,iV (i:Int),iV (j:Int)] H (fun z:Value=>z) (fun z=>[ag.row 89 z (l.take i++l.drop j)]) (fun _=>[]):=by
 have HD:=H.cap 0 rfl;have yw:=H.cC 0 rfl
 refine R.bD [(0,bP),(1,iV (i:Int)),(2,iV (j:Int))] Tryz.func129 O O O O H<|R.reg O<|R.u 1 O<|R.nil<|R.reg O<|R.u 4 O<|R.q (q.len' (bE 0 O) O Tryz.underlying46) O<|R.q (q.Ev (i:=i) (j:=j) (q':=l.length) (bE 0 O) O O O O gK O O O (by omega) (by omega) (by omega)) O<|R.nil<|R.reg O<|R.u 2 O<|?_
 by_cases h1:i=j
 .
  refine R.q (q.fJ O O) O<|R.nil<|R.az O O<|R.reg O<|R.u 2 O<|R.nil ?_
  have hz:l.take i++l.drop j=l:=by (exact pS (by omega))
  rw [hz]
  exact R.w1 bP [0,1] [] O Tryz.results129 (RV.tmp O) O O O O
 refine R.q (q.eX O O) O<|R.nil<|R.aC O O<|R.reg O<|R.u 1 O<|R.q (q.len' (bE 0 O) O Tryz.underlying46) O<|R.u 1 O<|R.nil<|R.fP (fuel:=8) [1] O O mixed O<|D.q (i:=0) O (aD [1] [] O) O (q.mv O) O<|D.q (i:=1) O (aD [1] [] O) O (q.mv O) O<|D.q (i:=3) O (aD [1] [] O) O (q.mv O) O<|D.q (i:=4) O (aD [1] [] O) O (q.mv O) O<|D.two (i:=2) (j:=5) O O ?_ ?_
 .
  refine Do.s (s.c (Qt.a (q.kG (i:=i) (bE 0 O) O O Tryz.underlying46 Gc O (by omega))) O) (fun _=>(aD [1] [] O)) O fun _=>?_
  refine D.one (i:=5) O<|Do.s (s.c (Qt.a (q.dA (i:=j) (bE 0 O) O O gK O (by omega))) O) (fun _=>(aD [1] [] O)) O fun _=>?_
  refine D.one (i:=6) O<|Do.s (s.tL (a:=i) 0 _ O O O (fun w hw=>Sl.from (hw.row 0 O) (by omega)) ki (by omega) (by simp;omega) O O) (fun _=>(aD [1] [] O)) O fun _=>?_
  refine D.q (i:=7) O (aD [1] [] O) O (q.as O) O<|D.done<|R.reg O<|R.u 2 O<|R.q (q.len' (bE 0 O) O Tryz.underlying46) O<|R.u 1 O<|R.q (q.sl2 (i:=(l.take i++(l.drop j)).length) (j:=l.length) (bE 0 O) O O O gK O O (by (simp;omega)) (by (simp [fk];omega))) O<|R.s O (s.y9 (lo:=(l.take i++(l.drop j)).length) (hi:=l.length) (z0:=(⟨0,⟨#[]⟩,0,0⟩:Note)) 0 O O gK eT O (by omega) (by (simp;omega)) (by (simp [fk];omega))) fun _=>?_
  refine R.nil<|R.reg O<|R.u 2 O<|R.nil ?_
  have hz:l.take i++l.drop j=(l.take i++(l.drop j)):=by (rfl)
  rw [hz]
  exact R.w1 (kG bP (i+(l.drop j).length)) [0,1] [] O Tryz.results129 (RV.tmp O) O O O O
 refine Do.s (s.c (Qt.a (q.dA (i:=j) (bE 0 O) O O gK O (by omega))) O) (fun _=>(aD [1] [] O)) O fun _=>?_
 refine D.one (i:=2) O<|Do.s (s.c (Qt.a (q.kG (i:=i) (bE 0 O) O O Tryz.underlying46 Gc O (by omega))) O) (fun _=>(aD [1] [] O)) O fun _=>?_
 refine D.one (i:=6) O<|Do.s (s.tL (a:=i) 0 _ O O O (fun w hw=>Sl.from (hw.row 0 O) (by omega)) ki (by omega) (by simp;omega) O O) (fun _=>(aD [1] [] O)) O fun _=>?_
 refine D.q (i:=7) O (aD [1] [] O) O (q.as O) O<|D.done<|R.reg O<|R.u 2 O<|R.q (q.len' (bE 0 O) O Tryz.underlying46) O<|R.u 1 O<|R.q (q.sl2 (i:=(l.take i++(l.drop j)).length) (j:=l.length) (bE 0 O) O O O gK O O (by (simp;omega)) (by (simp [fk];omega))) O<|R.s O (s.y9 (lo:=(l.take i++(l.drop j)).length) (hi:=l.length) (z0:=(⟨0,⟨#[]⟩,0,0⟩:Note)) 0 O O gK eT O (by omega) (by (simp;omega)) (by (simp [fk];omega))) fun _=>?_
 refine R.nil<|R.reg O<|R.u 2 O<|R.nil ?_
 have hz:l.take i++l.drop j=(l.take i++(l.drop j)):=by (rfl)
 rw [hz]
 exact R.w1 (kG bP (i+(l.drop j).length)) [0,1] [] O Tryz.results129 (RV.tmp O) O O O O
theorem iu (bP:Value)(l:List aF)(pr:aF->Bool)(hY:Nat)(kD:List Value)(jj:∀args w,(callFunc hY args).run Tryz.prog w = .ok (.enter hY args) w)(w:World)(ez:Sl w bP l)(mD:∀W (x1:aF),Ext w W->Calls Tryz.prog hY ([x1.val]++kD).toArray W fun e w'=>e = .returned (.bool (pr x1))/\Ext W w'):Calls Tryz.prog 166 #[bP,.func (.func hY) #[] kD.toArray] w fun e w'=>e = .returned (iV (idxOf pr l))/\Ext w w':=by
 have zq:=ez.gV
 refine R.enter [] [(0,bP),(1,.func (.func hY) #[] kD.toArray)] Tryz.func166 O O O O<|R.reg O<|R.u 1 O<|R.nil<|R.reg O<|R.u 1 O<|R.q (q.len' (fun _=>Wd.old ez) O Tryz.underlying44) O<|R.u 1 O<|R.nil<|R.loop (fun k:Nat=>[(0,bP),(1,.func (.func hY) #[] kD.toArray),(7,iV (l.length:Int)),(8,iV (k:Int))]) (fun k:Nat=>[]) (fun k:Nat=>[]) (fun k:Nat=>k<=l.length /\ ∀ (j:Nat) x,j<k->l[j]? = some x->pr x=false) (fun k:Nat=>l.length-k) 0 O (by exact ⟨by omega,fun j x hj=>absurd hj (Nat.not_lt_zero _)⟩) (sF O) (iz [] [] O) ?_
 rintro k ⟨hk,HA⟩
 refine R.reg O<|?_
 by_cases h1:k<l.length
 .
  refine R.q (q.dD O O) O<|R.nil<|R.az O O<|R.reg O<|R.u 2 O<|R.nil<|R.reg O<|R.u 3 O<|?_
  obtain ⟨x1,hx1⟩:∃z,l[k]? = some z:=⟨_,List.getElem?_eq_getElem (by omega)⟩
  refine R.q (q.idx (i:=k) (fun _=>Wd.old ez) O O kg O hx1) O<|R.q (q.gk (ds:=vv x1) (fun _=>Wd.old ez) hx1 O jD O) O<|?_
  rcases Bool.eq_false_or_eq_true (pr x1) with h2|h2
  .
   refine R.c (q.call jj O O (fun w hw=>cv (congrArg Value.bool h2) (mD w x1 hw.ext))) O<|R.nil ?_
   exact R.az O O<|R.reg O<|R.u 2 O<|R.nil<|R.rv O Tryz.results166 O (rI (by (exact (idxOf_hit hx1 ‹_› HA).symm)))
  refine R.c (q.call jj O O (fun w hw=>cv (congrArg Value.bool h2) (mD w x1 hw.ext))) O<|R.nil ?_
  refine R.aC O O<|R.reg O<|R.q (q.bC (r:=((k+1:Nat):Int)) O O) O<|R.u 1 O<|R.nil<|R.back (k+1) O (by (exact ⟨by omega,nY HA hx1 ‹_›⟩)) (by omega) (sF O) (iz [] [] O)
 exact R.q (q.cU O O) O<|R.nil<|R.aC O O<|R.reg O<|R.u 1 O<|R.nil<|R.rv O Tryz.results166 O (rI (by (exact (idxOf_miss ‹_› HA).symm)))
theorem m8 (bP:Value)(l:List Note)(pr:Note->Bool)(hY:Nat)(kD:List Value)(jj:∀args w,(callFunc hY args).run Tryz.prog w = .ok (.enter hY args) w)(w:World)(ez:Sl w bP l)(mD:∀W (x1:Note),Ext w W->Calls Tryz.prog hY ([x1.val]++kD).toArray W fun e w'=>e = .returned (.bool (pr x1))/\Ext W w'):Calls Tryz.prog 126 #[bP,.func (.func hY) #[] kD.toArray] w fun e w'=>e = .returned (iV (idxOf pr l))/\Ext w w':=by
 have zq:=ez.gV
 refine R.enter [] [(0,bP),(1,.func (.func hY) #[] kD.toArray)] Tryz.func126 O O O O<|R.reg O<|R.u 1 O<|R.nil<|R.reg O<|R.u 1 O<|R.q (q.len' (fun _=>Wd.old ez) O Tryz.underlying46) O<|R.u 1 O<|R.nil<|R.loop (fun k:Nat=>[(0,bP),(1,.func (.func hY) #[] kD.toArray),(7,iV (l.length:Int)),(8,iV (k:Int))]) (fun k:Nat=>[]) (fun k:Nat=>[]) (fun k:Nat=>k<=l.length /\ ∀ (j:Nat) x,j<k->l[j]? = some x->pr x=false) (fun k:Nat=>l.length-k) 0 O (by exact ⟨by omega,fun j x hj=>absurd hj (Nat.not_lt_zero _)⟩) (sF O) (iz [] [] O) ?_
 rintro k ⟨hk,HA⟩
 refine R.reg O<|?_
 by_cases h1:k<l.length
 .
  refine R.q (q.dD O O) O<|R.nil<|R.az O O<|R.reg O<|R.u 2 O<|R.nil<|R.reg O<|R.u 3 O<|?_
  obtain ⟨x1,hx1⟩:∃z,l[k]? = some z:=⟨_,List.getElem?_eq_getElem (by omega)⟩
  refine R.q (q.idx (i:=k) (fun _=>Wd.old ez) O O gK O hx1) O<|R.q (q.gk (ds:=vP x1) (fun _=>Wd.old ez) hx1 O dH O) O<|?_
  rcases Bool.eq_false_or_eq_true (pr x1) with h2|h2
  .
   refine R.c (q.call jj O O (fun w hw=>cv (congrArg Value.bool h2) (mD w x1 hw.ext))) O<|R.nil ?_
   exact R.az O O<|R.reg O<|R.u 2 O<|R.nil<|R.rv O Tryz.results126 O (rI (by (exact (idxOf_hit hx1 ‹_› HA).symm)))
  refine R.c (q.call jj O O (fun w hw=>cv (congrArg Value.bool h2) (mD w x1 hw.ext))) O<|R.nil ?_
  refine R.aC O O<|R.reg O<|R.q (q.bC (r:=((k+1:Nat):Int)) O O) O<|R.u 1 O<|R.nil<|R.back (k+1) O (by (exact ⟨by omega,nY HA hx1 ‹_›⟩)) (by omega) (sF O) (iz [] [] O)
 exact R.q (q.cU O O) O<|R.nil<|R.aC O O<|R.reg O<|R.u 1 O<|R.nil<|R.rv O Tryz.results126 O (rI (by (exact (idxOf_miss ‹_› HA).symm)))
theorem m9 (bP:Value)(l:List Held)(pr:Held->Bool)(hY:Nat)(kD:List Value)(jj:∀args w,(callFunc hY args).run Tryz.prog w = .ok (.enter hY args) w)(w:World)(ez:Sl w bP l)(mD:∀W (x1:Held),Ext w W->Calls Tryz.prog hY ([x1.val]++kD).toArray W fun e w'=>e = .returned (.bool (pr x1))/\Ext W w'):Calls Tryz.prog 168 #[bP,.func (.func hY) #[] kD.toArray] w fun e w'=>e = .returned (iV (idxOf pr l))/\Ext w w':=by
 have zq:=ez.gV
 refine R.enter [] [(0,bP),(1,.func (.func hY) #[] kD.toArray)] Tryz.func168 O O O O<|R.reg O<|R.u 1 O<|R.nil<|R.reg O<|R.u 1 O<|R.q (q.len' (fun _=>Wd.old ez) O Tryz.underlying45) O<|R.u 1 O<|R.nil<|R.loop (fun k:Nat=>[(0,bP),(1,.func (.func hY) #[] kD.toArray),(7,iV (l.length:Int)),(8,iV (k:Int))]) (fun k:Nat=>[]) (fun k:Nat=>[]) (fun k:Nat=>k<=l.length /\ ∀ (j:Nat) x,j<k->l[j]? = some x->pr x=false) (fun k:Nat=>l.length-k) 0 O (by exact ⟨by omega,fun j x hj=>absurd hj (Nat.not_lt_zero _)⟩) (sF O) (iz [] [] O) ?_
 rintro k ⟨hk,HA⟩
 refine R.reg O<|?_
 by_cases h1:k<l.length
 .
  refine R.q (q.dD O O) O<|R.nil<|R.az O O<|R.reg O<|R.u 2 O<|R.nil<|R.reg O<|R.u 3 O<|?_
  obtain ⟨x1,hx1⟩:∃z,l[k]? = some z:=⟨_,List.getElem?_eq_getElem (by omega)⟩
  refine R.q (q.idx (i:=k) (fun _=>Wd.old ez) O O cM O hx1) O<|R.q (q.gk (ds:=pF x1) (fun _=>Wd.old ez) hx1 O gy O) O<|?_
  rcases Bool.eq_false_or_eq_true (pr x1) with h2|h2
  .
   refine R.c (q.call jj O O (fun w hw=>cv (congrArg Value.bool h2) (mD w x1 hw.ext))) O<|R.nil ?_
   exact R.az O O<|R.reg O<|R.u 2 O<|R.nil<|R.rv O Tryz.results168 O (rI (by (exact (idxOf_hit hx1 ‹_› HA).symm)))
  refine R.c (q.call jj O O (fun w hw=>cv (congrArg Value.bool h2) (mD w x1 hw.ext))) O<|R.nil ?_
  refine R.aC O O<|R.reg O<|R.q (q.bC (r:=((k+1:Nat):Int)) O O) O<|R.u 1 O<|R.nil<|R.back (k+1) O (by (exact ⟨by omega,nY HA hx1 ‹_›⟩)) (by omega) (sF O) (iz [] [] O)
 exact R.q (q.cU O O) O<|R.nil<|R.aC O O<|R.reg O<|R.u 1 O<|R.nil<|R.rv O Tryz.results168 O (rI (by (exact (idxOf_miss ‹_› HA).symm)))
theorem ug (bP:Value)(l:List aF)(pr:aF->Bool)(hY:Nat)(kD:List Value)(jj:∀args w,(callFunc hY args).run Tryz.prog w = .ok (.enter hY args) w)(w:World)(own:List Nat)(H:HN w own [ag.row 100 bP l] [])(mD:∀W (x1:aF),lT (blks [ag.row 100 bP l]) w W->Calls Tryz.prog hY ([x1.val]++kD).toArray W fun e w'=>e = .returned (.bool (pr x1))/\Ext W w')(hl:l.length<=1000000):RC Tryz.prog 111 #[bP,.func (.func hY) #[] kD.toArray] H (fun z:Value=>z) (fun z=>[ag.row 100 z (l.filter (fun x => !pr x))]) (fun _=>[]):=by
 have HD:=H.cap 0 rfl;have yw:=H.cC 0 rfl
 refine R.bD [(0,bP),(1,.func (.func hY) #[] kD.toArray)] Tryz.func111 O O O O H<|R.reg O<|R.u 1 O<|R.nil<|R.reg O<|R.u 2 O<|?_
 rcases j3 pr l with ⟨gS,Ey⟩ | ⟨rx,Ew,gS,lW,vh,AV,TT⟩
 .
  refine R.c (q.call AF O O (fun w hw=>(cv (congrArg (Value.int .i64) gS) (iu _ l pr _ _ jj w (hw.row 0 O) (fun W x1 hW=>mD W x1 ((hw.ve 1 O).trans ((Ext.upd hW).mono (by simp)))) )))) O<|R.u 1 O<|R.nil ?_
  refine R.reg O<|R.u 1 O<|R.q (q.eql (b:=true) O O (by decide)) O<|R.nil<|R.az O O<|R.reg O<|R.u 2 O<|R.nil ?_
  have hz:l.filter (fun x => !pr x)=l:=by (exact xF Ey)
  rw [hz]
  exact R.w1 bP [0,1] [] O Tryz.results111 (RV.tmp O) O O O O
 refine R.c (q.call AF O O (fun w hw=>(cv (congrArg (Value.int .i64) gS) (iu _ l pr _ _ jj w (hw.row 0 O) (fun W x1 hW=>mD W x1 ((hw.ve 1 O).trans ((Ext.upd hW).mono (by simp)))) )))) O<|R.u 1 O<|R.nil ?_
 refine R.reg O<|R.u 1 O<|R.q (q.eX O O) O<|R.nil<|R.aC O O<|R.reg O<|R.u 1 O<|R.q (q.bC (r:=((rx+1:Nat):Int)) O O) O<|R.u 1 O<|R.nil<|R.loop (fun g_:Nat×Nat×(List aF)=>[(0,bP),(1,.func (.func hY) #[] kD.toArray),(5,iV (g_.1:Int)),(6,iV (g_.2.1:Int))]) (fun g_=>[ag.row 100 bP g_.2.2,ag.held w own]) (fun g_=>[]) (fun g_=>px pr l g_.2.2 g_.1 g_.2.1) (fun g_=>l.length-g_.2.1) (rx,(rx+1),l) O (by exact px.start lW vh AV) (sF O) (iz [0,1] [] O) ?_
 rintro ⟨a,b,acc⟩ HA
 dsimp only at *
 have t1:=HA.1;have t2:=HA.2.1;have t3:=HA.2.2.1
 refine R.reg O<|R.u 2 O<|R.q (q.len' (bE 0 O) O Tryz.underlying44) O<|?_
 by_cases h1:b<acc.length
 .
  refine R.q (q.dD O O) O<|R.nil<|R.az O O<|R.reg O<|R.u 2 O<|?_
  obtain ⟨x1,hx1⟩:∃z,acc[b]? = some z:=⟨_,List.getElem?_eq_getElem (by omega)⟩
  refine R.q (q.idx (i:=b) (bE 0 O) O O kg O hx1) O<|R.q (q.gk (ds:=vv x1) (bE 0 O) hx1 O jD O) O<|R.s O (s.alloc jo O O) fun b1=>?_
  refine R.s O (s.st 0 _ O O O O (.inl jD) O O O O) fun _=>?_
  refine R.nil<|R.reg O<|R.u 1 O<|R.q (q.cW 0 O O jD) O<|?_
  rcases Bool.eq_false_or_eq_true (pr x1) with h2|h2
  .
   refine R.c (q.call jj O O (fun w hw=>cv (congrArg Value.bool h2) (mD w x1 (hw.ve 2 O)))) O<|R.u 1 O<|R.nil ?_
   refine R.aC O O<|R.reg O<|R.u 1 O<|R.q (q.bC (r:=((b+1:Nat):Int)) O O) O<|R.u 1 O<|R.nil<|R.back (a,(b+1),acc) O (by (exact HA.skip hx1 ‹_›)) (by dsimp only;omega) (sF O) (aD [1,2] [] O)
  refine R.c (q.call jj O O (fun w hw=>cv (congrArg Value.bool h2) (mD w x1 (hw.ve 2 O)))) O<|R.u 1 O<|R.nil ?_
  refine R.az O O<|R.reg O<|R.u 2 O<|R.q (q.cW 0 O O jD) O<|?_
  obtain ⟨x2,hx2⟩:∃z,acc[a]? = some z:=⟨_,List.getElem?_eq_getElem (by omega)⟩
  refine R.q (q.idx (i:=a) (bE 1 O) O O kg O hx2) O<|R.s O (s.OV (z:=x1) 1 _ O hx2 O O O O (.inl jD) O) fun _=>?_
  refine R.nil<|R.reg O<|R.u 1 O<|R.q (q.bC (r:=((a+1:Nat):Int)) O O) O<|R.u 1 O<|R.nil<|R.reg O<|R.u 1 O<|R.q (q.bC (r:=((b+1:Nat):Int)) O O) O<|R.u 1 O<|R.nil<|R.back ((a+1),(b+1),(acc.set a x1)) O (by (exact HA.keep hx1 ‹_›)) (by dsimp only;omega) (sF O) (aD [1,2] [] O)
 refine R.q (q.cU O O) O<|R.nil<|R.aC O O<|R.reg O<|R.u 2 O<|R.q (q.dA (i:=a) (bE 0 O) O O kg O (by omega)) O<|R.s O (s.OW (lo:=a) (z0:=(⟨0,0,⟨#[]⟩⟩:aF)) 0 _ O O kg jo O (by omega) O) fun _=>?_
 refine R.nil<|R.reg O<|R.u 2 O<|R.q (q.kG (i:=a) (bE 0 O) O O Tryz.underlying44 Me O (by (simp;omega))) O<|R.u 1 O<|R.nil<|R.I6 0 a _ O (by (simp;omega)) O ?_
 have hz:l.filter (fun x => !pr x)=((acc.take a++List.replicate (acc.length-a) (⟨0,0,⟨#[]⟩⟩:aF)).take a):=by (exact HA.done (by omega))
 rw [hz]
 exact R.w1 (kG bP a) [0,1] [] O Tryz.results111 (RV.tmp O) O O O O
theorem vq (bP:Value)(l:List Held)(pr:Held->Bool)(hY:Nat)(kD:List Value)(jj:∀args w,(callFunc hY args).run Tryz.prog w = .ok (.enter hY args) w)(w:World)(own:List Nat)(H:HN w own [ag.row 124 bP l] [])(mD:∀W (x1:Held),lT (blks [ag.row 124 bP l]) w W->Calls Tryz.prog hY ([x1.val]++kD).toArray W fun e w'=>e = .returned (.bool (pr x1))/\Ext W w')(hl:l.length<=1000000):RC Tryz.prog 114 #[bP,.func (.func hY) #[] kD.toArray] H (fun z:Value=>z) (fun z=>[ag.row 124 z (l.filter (fun x => !pr x))]) (fun _=>[]):=by
 have HD:=H.cap 0 rfl;have yw:=H.cC 0 rfl
 refine R.bD [(0,bP),(1,.func (.func hY) #[] kD.toArray)] Tryz.func114 O O O O H<|R.reg O<|R.u 1 O<|R.nil<|R.reg O<|R.u 2 O<|?_
 rcases j3 pr l with ⟨gS,Ey⟩ | ⟨rx,Ew,gS,lW,vh,AV,TT⟩
 .
  refine R.c (q.call JA O O (fun w hw=>(cv (congrArg (Value.int .i64) gS) (m9 _ l pr _ _ jj w (hw.row 0 O) (fun W x1 hW=>mD W x1 ((hw.ve 1 O).trans ((Ext.upd hW).mono (by simp)))) )))) O<|R.u 1 O<|R.nil ?_
  refine R.reg O<|R.u 1 O<|R.q (q.eql (b:=true) O O (by decide)) O<|R.nil<|R.az O O<|R.reg O<|R.u 2 O<|R.nil ?_
  have hz:l.filter (fun x => !pr x)=l:=by (exact xF Ey)
  rw [hz]
  exact R.w1 bP [0,1] [] O Tryz.results114 (RV.tmp O) O O O O
 refine R.c (q.call JA O O (fun w hw=>(cv (congrArg (Value.int .i64) gS) (m9 _ l pr _ _ jj w (hw.row 0 O) (fun W x1 hW=>mD W x1 ((hw.ve 1 O).trans ((Ext.upd hW).mono (by simp)))) )))) O<|R.u 1 O<|R.nil ?_
 refine R.reg O<|R.u 1 O<|R.q (q.eX O O) O<|R.nil<|R.aC O O<|R.reg O<|R.u 1 O<|R.q (q.bC (r:=((rx+1:Nat):Int)) O O) O<|R.u 1 O<|R.nil<|R.loop (fun g_:Nat×Nat×(List Held)=>[(0,bP),(1,.func (.func hY) #[] kD.toArray),(5,iV (g_.1:Int)),(6,iV (g_.2.1:Int))]) (fun g_=>[ag.row 124 bP g_.2.2,ag.held w own]) (fun g_=>[]) (fun g_=>px pr l g_.2.2 g_.1 g_.2.1) (fun g_=>l.length-g_.2.1) (rx,(rx+1),l) O (by exact px.start lW vh AV) (sF O) (iz [0,1] [] O) ?_
 rintro ⟨a,b,acc⟩ HA
 dsimp only at *
 have t1:=HA.1;have t2:=HA.2.1;have t3:=HA.2.2.1
 refine R.reg O<|R.u 2 O<|R.q (q.len' (bE 0 O) O Tryz.underlying45) O<|?_
 by_cases h1:b<acc.length
 .
  refine R.q (q.dD O O) O<|R.nil<|R.az O O<|R.reg O<|R.u 2 O<|?_
  obtain ⟨x1,hx1⟩:∃z,acc[b]? = some z:=⟨_,List.getElem?_eq_getElem (by omega)⟩
  refine R.q (q.idx (i:=b) (bE 0 O) O O cM O hx1) O<|R.q (q.gk (ds:=pF x1) (bE 0 O) hx1 O gy O) O<|R.s O (s.alloc gW O O) fun b1=>?_
  refine R.s O (s.st 0 _ O O O O (.inl gy) O O O O) fun _=>?_
  refine R.nil<|R.reg O<|R.u 1 O<|R.q (q.cW 0 O O gy) O<|?_
  rcases Bool.eq_false_or_eq_true (pr x1) with h2|h2
  .
   refine R.c (q.call jj O O (fun w hw=>cv (congrArg Value.bool h2) (mD w x1 (hw.ve 2 O)))) O<|R.u 1 O<|R.nil ?_
   refine R.aC O O<|R.reg O<|R.u 1 O<|R.q (q.bC (r:=((b+1:Nat):Int)) O O) O<|R.u 1 O<|R.nil<|R.back (a,(b+1),acc) O (by (exact HA.skip hx1 ‹_›)) (by dsimp only;omega) (sF O) (aD [1,2] [] O)
  refine R.c (q.call jj O O (fun w hw=>cv (congrArg Value.bool h2) (mD w x1 (hw.ve 2 O)))) O<|R.u 1 O<|R.nil ?_
  refine R.az O O<|R.reg O<|R.u 2 O<|R.q (q.cW 0 O O gy) O<|?_
  obtain ⟨x2,hx2⟩:∃z,acc[a]? = some z:=⟨_,List.getElem?_eq_getElem (by omega)⟩
  refine R.q (q.idx (i:=a) (bE 1 O) O O cM O hx2) O<|R.s O (s.OV (z:=x1) 1 _ O hx2 O O O O (.inl gy) O) fun _=>?_
  refine R.nil<|R.reg O<|R.u 1 O<|R.q (q.bC (r:=((a+1:Nat):Int)) O O) O<|R.u 1 O<|R.nil<|R.reg O<|R.u 1 O<|R.q (q.bC (r:=((b+1:Nat):Int)) O O) O<|R.u 1 O<|R.nil<|R.back ((a+1),(b+1),(acc.set a x1)) O (by (exact HA.keep hx1 ‹_›)) (by dsimp only;omega) (sF O) (aD [1,2] [] O)
 refine R.q (q.cU O O) O<|R.nil<|R.aC O O<|R.reg O<|R.u 2 O<|R.q (q.dA (i:=a) (bE 0 O) O O cM O (by omega)) O<|R.s O (s.OW (lo:=a) (z0:=(⟨(⟨0,0⟩:Place),0⟩:Held)) 0 _ O O cM gW O (by omega) O) fun _=>?_
 refine R.nil<|R.reg O<|R.u 2 O<|R.q (q.kG (i:=a) (bE 0 O) O O Tryz.underlying45 vA O (by (simp;omega))) O<|R.u 1 O<|R.nil<|R.I6 0 a _ O (by (simp;omega)) O ?_
 have hz:l.filter (fun x => !pr x)=((acc.take a++List.replicate (acc.length-a) (⟨(⟨0,0⟩:Place),0⟩:Held)).take a):=by (exact HA.done (by omega))
 rw [hz]
 exact R.w1 (kG bP a) [0,1] [] O Tryz.results114 (RV.tmp O) O O O O
theorem vt (bP:Value)(l:List ak)(pr:ak->Bool)(hY:Nat)(kD:List Value)(jj:∀args w,(callFunc hY args).run Tryz.prog w = .ok (.enter hY args) w)(w:World)(own:List Nat)(H:HN w own [ag.row 127 bP l] [])(mD:∀W (x1:ak),lT (blks [ag.row 127 bP l]) w W->Calls Tryz.prog hY ([x1.val]++kD).toArray W fun e w'=>e = .returned (.bool (pr x1))/\Ext W w')(hl:l.length<=1000000):RC Tryz.prog 123 #[bP,.func (.func hY) #[] kD.toArray] H (fun z:Value=>z) (fun z=>[ag.row 127 z (l.filter (fun x => !pr x))]) (fun _=>[]):=by
 have HD:=H.cap 0 rfl;have yw:=H.cC 0 rfl
 refine R.bD [(0,bP),(1,.func (.func hY) #[] kD.toArray)] Tryz.func123 O O O O H<|R.reg O<|R.u 1 O<|R.nil<|R.reg O<|R.u 2 O<|?_
 rcases j3 pr l with ⟨gS,Ey⟩ | ⟨rx,Ew,gS,lW,vh,AV,TT⟩
 .
  refine R.c (q.call EM O O (fun w hw=>(cv (congrArg (Value.int .i64) gS) (mC _ l pr _ _ jj w (hw.row 0 O) (fun W x1 hW=>mD W x1 ((hw.ve 1 O).trans ((Ext.upd hW).mono (by simp)))) )))) O<|R.u 1 O<|R.nil ?_
  refine R.reg O<|R.u 1 O<|R.q (q.eql (b:=true) O O (by decide)) O<|R.nil<|R.az O O<|R.reg O<|R.u 2 O<|R.nil ?_
  have hz:l.filter (fun x => !pr x)=l:=by (exact xF Ey)
  rw [hz]
  exact R.w1 bP [0,1] [] O Tryz.results123 (RV.tmp O) O O O O
 refine R.c (q.call EM O O (fun w hw=>(cv (congrArg (Value.int .i64) gS) (mC _ l pr _ _ jj w (hw.row 0 O) (fun W x1 hW=>mD W x1 ((hw.ve 1 O).trans ((Ext.upd hW).mono (by simp)))) )))) O<|R.u 1 O<|R.nil ?_
 refine R.reg O<|R.u 1 O<|R.q (q.eX O O) O<|R.nil<|R.aC O O<|R.reg O<|R.u 1 O<|R.q (q.bC (r:=((rx+1:Nat):Int)) O O) O<|R.u 1 O<|R.nil<|R.loop (fun g_:Nat×Nat×(List ak)=>[(0,bP),(1,.func (.func hY) #[] kD.toArray),(5,iV (g_.1:Int)),(6,iV (g_.2.1:Int))]) (fun g_=>[ag.row 127 bP g_.2.2,ag.held w own]) (fun g_=>[]) (fun g_=>px pr l g_.2.2 g_.1 g_.2.1) (fun g_=>l.length-g_.2.1) (rx,(rx+1),l) O (by exact px.start lW vh AV) (sF O) (iz [0,1] [] O) ?_
 rintro ⟨a,b,acc⟩ HA
 dsimp only at *
 have t1:=HA.1;have t2:=HA.2.1;have t3:=HA.2.2.1
 refine R.reg O<|R.u 2 O<|R.q (q.len' (bE 0 O) O Tryz.underlying43) O<|?_
 by_cases h1:b<acc.length
 .
  refine R.q (q.dD O O) O<|R.nil<|R.az O O<|R.reg O<|R.u 2 O<|?_
  obtain ⟨x1,hx1⟩:∃z,acc[b]? = some z:=⟨_,List.getElem?_eq_getElem (by omega)⟩
  refine R.q (q.idx (i:=b) (bE 0 O) O O eu O hx1) O<|R.q (q.gk (ds:=jN x1) (bE 0 O) hx1 O aN O) O<|R.s O (s.alloc bR O O) fun b1=>?_
  refine R.s O (s.st 0 _ O O O O (.inl aN) O O O O) fun _=>?_
  refine R.nil<|R.reg O<|R.u 1 O<|R.q (q.cW 0 O O aN) O<|?_
  rcases Bool.eq_false_or_eq_true (pr x1) with h2|h2
  .
   refine R.c (q.call jj O O (fun w hw=>cv (congrArg Value.bool h2) (mD w x1 (hw.ve 2 O)))) O<|R.u 1 O<|R.nil ?_
   refine R.aC O O<|R.reg O<|R.u 1 O<|R.q (q.bC (r:=((b+1:Nat):Int)) O O) O<|R.u 1 O<|R.nil<|R.back (a,(b+1),acc) O (by (exact HA.skip hx1 ‹_›)) (by dsimp only;omega) (sF O) (aD [1,2] [] O)
  refine R.c (q.call jj O O (fun w hw=>cv (congrArg Value.bool h2) (mD w x1 (hw.ve 2 O)))) O<|R.u 1 O<|R.nil ?_
  refine R.az O O<|R.reg O<|R.u 2 O<|R.q (q.cW 0 O O aN) O<|?_
  obtain ⟨x2,hx2⟩:∃z,acc[a]? = some z:=⟨_,List.getElem?_eq_getElem (by omega)⟩
  refine R.q (q.idx (i:=a) (bE 1 O) O O eu O hx2) O<|R.s O (s.OV (z:=x1) 1 _ O hx2 O O O O (.inl aN) O) fun _=>?_
  refine R.nil<|R.reg O<|R.u 1 O<|R.q (q.bC (r:=((a+1:Nat):Int)) O O) O<|R.u 1 O<|R.nil<|R.reg O<|R.u 1 O<|R.q (q.bC (r:=((b+1:Nat):Int)) O O) O<|R.u 1 O<|R.nil<|R.back ((a+1),(b+1),(acc.set a x1)) O (by (exact HA.keep hx1 ‹_›)) (by dsimp only;omega) (sF O) (aD [1,2] [] O)
 refine R.q (q.cU O O) O<|R.nil<|R.aC O O<|R.reg O<|R.u 2 O<|R.q (q.dA (i:=a) (bE 0 O) O O eu O (by omega)) O<|R.s O (s.OW (lo:=a) (z0:=(⟨0,0,0,0,0⟩:ak)) 0 _ O O eu bR O (by omega) O) fun _=>?_
 refine R.nil<|R.reg O<|R.u 2 O<|R.q (q.kG (i:=a) (bE 0 O) O O Tryz.underlying43 Ay O (by (simp;omega))) O<|R.u 1 O<|R.nil<|R.I6 0 a _ O (by (simp;omega)) O ?_
 have hz:l.filter (fun x => !pr x)=((acc.take a++List.replicate (acc.length-a) (⟨0,0,0,0,0⟩:ak)).take a):=by (exact HA.done (by omega))
 rw [hz]
 exact R.w1 (kG bP a) [0,1] [] O Tryz.results123 (RV.tmp O) O O O O
theorem uP (bP:Value)(l:List ak)(w:World)(ez:Sl w bP l)(hl:l.length<=1000000):Calls Tryz.prog 110 #[bP] w fun e w' => ∃u,e = .returned u/\Own w.heap.size 3 w' u (bV l)/\Ext w w':=Fi bP l w ez hl
theorem Fo (bP:Value)(l:List Int)(x:Int)(w:World)(ez:Sl w bP l):Calls Tryz.prog 167 #[bP,iV x] w fun e w'=>e = .returned (iV (idxOf (fun y=>y==x) l))/\Ext w w':=by
 have zq:=ez.gV
 refine R.enter [] [(0,bP),(1,iV x)] Tryz.func167 O O O O<|R.reg O<|R.u 1 O<|R.nil<|R.reg O<|R.u 1 O<|R.q (q.len' (fun _=>Wd.old ez) O Tryz.underlying159) O<|R.u 1 O<|R.nil<|R.loop (fun k:Nat=>[(0,bP),(1,iV x),(7,iV (l.length:Int)),(8,iV (k:Int))]) (fun k:Nat=>[]) (fun k:Nat=>[]) (fun k:Nat=>k<=l.length /\ ∀ (j:Nat) y,j<k->l[j]? = some y->(y==x)=false) (fun k:Nat=>l.length-k) 0 O (by exact ⟨by omega,fun j x hj=>absurd hj (Nat.not_lt_zero _)⟩) (sF O) (iz [] [] O) ?_
 rintro k ⟨hk,HA⟩
 refine R.reg O<|?_
 by_cases h1:k<l.length
 .
  refine R.q (q.dD O O) O<|R.nil<|R.az O O<|R.reg O<|R.u 2 O<|R.nil<|R.reg O<|R.u 3 O<|?_
  obtain ⟨x1,hx1⟩:∃z,l[k]? = some z:=⟨_,List.getElem?_eq_getElem (by omega)⟩
  refine R.q (q.idx (i:=k) (fun _=>Wd.old ez) O O dc O hx1) O<|R.q (q.lw (fun _=>Wd.old ez) hx1 O au O) O<|?_
  by_cases h2:x=x1
  .
   exact R.q (q.fJ O O) O<|R.nil<|R.az O O<|R.reg O<|R.u 2 O<|R.nil<|R.rv O Tryz.results167 O (rI (by (exact (idxOf_hit (p:=fun y=>y==x) hx1 (beq_iff_eq.2 (by omega)) HA).symm)))
  refine R.q (q.eX O O) O<|R.nil<|R.aC O O<|R.reg O<|R.q (q.bC (r:=((k+1:Nat):Int)) O O) O<|R.u 1 O<|R.nil<|R.back (k+1) O (by (exact ⟨by omega,nY (p:=fun y=>y==x) HA hx1 (beq_eq_false_iff_ne.2 (by omega))⟩)) (by omega) (sF O) (iz [] [] O)
 exact R.q (q.cU O O) O<|R.nil<|R.aC O O<|R.reg O<|R.u 1 O<|R.nil<|R.rv O Tryz.results167 O (rI (by (exact (idxOf_miss ‹_› HA).symm)))
theorem GJ {l:List Int}{x:Int}:(0<=idxOf (fun y=>y==x) l)=(x∈l):=by
 rcases j3 (fun y:Int=>y==x) l with ⟨h,hn⟩ | ⟨k,y,h,hy,he,_,_⟩
 .rw [h];simp;intro hm;have:=hn x hm;simp at this
 .
  rw [h];simp
  have:y=x:=by simpa using he
  subst this;exact List.mem_of_getElem? hy
theorem fO (bP:Value)(l:List Int)(x:Int)(w:World)(ez:Sl w bP l):Calls Tryz.prog 113 #[bP,iV x] w fun e w'=>e = .returned (.bool (decide (x∈l)))/\Ext w w':=by
 have zq:=ez.gV
 refine R.enter [] [(0,bP),(1,iV x)] Tryz.func113 O O O O<|R.reg O<|R.u 1 O<|R.nil<|R.reg O<|R.u 2 O<|R.c (q.call Pu O O (fun w hw=>(Fo _ l x w ((fun _=>Wd.old ez) w hw) ))) O<|?_
 by_cases h1:idxOf (fun y=>y==x) l<0
 .
  exact R.q (q.I1 O O) O<|R.u 1 O<|R.nil<|R.rv O Tryz.results113 O (rB (by (have e:=GJ (l:=l) (x:=x);exact (decide_eq_false (e▸(by omega))).symm)))
 exact R.q (q.He O O) O<|R.u 1 O<|R.nil<|R.rv O Tryz.results113 O (rB (by (have e:=GJ (l:=l) (x:=x);exact (decide_eq_true (e▸(by omega))).symm)))
theorem qT (bU bJ bK bL:Value)(r:aB)(p:Place)(w:World)(yJ:Sl w bU r.ao)(BG:Sl w bJ r.Things)(Fp:Sl w bK r.Held)(MP:Sl w bL r.Notes)(hk:Ok r):Calls Tryz.prog 118 #[.agg #[bU,bJ,bK,bL,iV r.ae,iV r.ah],.agg #[iV p.aA,iV p.Slot]] w fun e w'=>e = .returned (.tuple #[ak.val (aS r p).1,dh (aS r p).2])/\Ext w w':=by
 have b1:=hk.hl
 refine R.enter [] [(0,.agg #[bU,bJ,bK,bL,iV r.ae,iV r.ah]),(1,.agg #[iV p.aA,iV p.Slot])] Tryz.func118 O O O O<|R.reg O<|R.s O (s.box O O O) fun b1=>?_
 refine R.s O (s.box O O O) fun b2=>?_
 refine R.s O (s.alloc bR O O) fun b3=>?_
 refine R.u 1 O<|R.nil<|R.reg O<|R.q (q.cW 1 O O bO) O<|R.c (q.call AB O O (fun w hw=>(ko p w ))) O<|R.u 1 O<|R.nil ?_
 refine R.reg O<|R.u 1 O<|?_
 by_cases h1:aY p=0
 .
  refine R.q (q.dq O O Tryz.underlying38) O<|R.nil<|R.aC O O ?_
  rcases ft r.ao (mQ r.Held p) with ⟨gS,Ey⟩ | ⟨Dq,lW,gS,vh,S4⟩
  .
   refine R.fa O mixed (by kernel_rfl)<|Q.q (q.aP O bq O) O<|Q.q (q.ld 2 O O cb O) O<|Q.q (q.aP O cQ O) O<|Q.q (q.ld 2 O O dV O) O<|Q.q (q.cW 1 O O bO) O<|Q.c (q.call AG O O (fun w hw=>(mV _ r.Held p w ((fun _=>Wd.old Fp) w hw) (by omega)))) O<|Q.c (q.call lJ O O (fun w hw=>(cv (congrArg (Value.int .i64) gS) (iC _ r.ao (mQ r.Held p) w ((fun _=>Wd.old yJ) w hw) )))) O<|Q.u 1 O<|Q.nil<|R.reg O<|R.u 1 O<|R.q (q.lss (b:=true) O O (by decide)) O<|R.nil<|R.az O O<|R.reg O<|R.q (q.build iT O O) O<|R.q (q.iface O br) O<|R.s O (s.st 0 _ O O O O (.inl aN) O O O O) fun _=>?_
   exact R.u 1 O<|R.nil<|R.Cc O Tryz.results118 (RV.cell 0 O O aN) (RV.tmp O) (congrArg ak.val (show (⟨0,0,0,0,0⟩:ak)=(aS r p).1 from by (rw [zJ ‹_› gS];rfl))) (dj (by decide) (by (rw [zJ ‹_› gS];done)))
  refine R.fa O mixed (by kernel_rfl)<|Q.q (q.aP O bq O) O<|Q.q (q.ld 2 O O cb O) O<|Q.q (q.aP O cQ O) O<|Q.q (q.ld 2 O O dV O) O<|Q.q (q.cW 1 O O bO) O<|Q.c (q.call AG O O (fun w hw=>(mV _ r.Held p w ((fun _=>Wd.old Fp) w hw) (by omega)))) O<|Q.c (q.call lJ O O (fun w hw=>(cv (congrArg (Value.int .i64) gS) (iC _ r.ao (mQ r.Held p) w ((fun _=>Wd.old yJ) w hw) )))) O<|Q.u 1 O<|Q.nil<|R.reg O<|R.u 1 O<|R.q (q.cU O O) O<|R.nil<|R.aC O O<|R.reg O<|R.q (q.aP O bq O) O<|R.q (q.ld 2 O O cb O) O<|R.u 1 O<|R.q (q.idx (i:=Dq) (fun _=>Wd.old yJ) O O eu O (List.getElem?_eq_getElem lW)) O<|R.q (q.gk (ds:=jN (r.ao[Dq])) (fun _=>Wd.old yJ) (List.getElem?_eq_getElem lW) O aN O) O<|?_
  refine R.s O (s.st 0 _ O O O O (.inl aN) O O O O) fun _=>?_
  exact R.u 1 O<|R.nil<|R.Cc O Tryz.results118 (RV.cell 0 O O aN) (RV.tmp O) (congrArg ak.val (show (r.ao[Dq])=(aS r p).1 from by (rw [Du ‹_› gS (List.getElem?_eq_getElem lW)];done))) (iJ (by (rw [Du ‹_› gS (List.getElem?_eq_getElem lW)];done)))
 refine R.q (q.dW O O Tryz.underlying38) O<|R.nil<|R.az O O<|R.reg O<|R.q (q.build iT O O) O<|R.u 1 O<|R.s O (s.st 0 _ O O O O (.inl aN) O O O O) fun _=>?_
 exact R.u 1 O<|R.nil<|R.Cc O Tryz.results118 (RV.cell 0 O O aN) (RV.tmp O) (congrArg ak.val (show (⟨0,0,0,0,0⟩:ak)=(aS r p).1 from by (rw [xG ‹_›];rfl))) (rE (by (rw [xG ‹_›];done)))
theorem qU (bU bJ bK bL:Value)(r:aB)(p:Place)(w:World)(yJ:Sl w bU r.ao)(BG:Sl w bJ r.Things)(Fp:Sl w bK r.Held)(MP:Sl w bL r.Notes)(hk:Ok r):Calls Tryz.prog 116 #[.agg #[bU,bJ,bK,bL,iV r.ae,iV r.ah],.agg #[iV p.aA,iV p.Slot]] w fun e w'=>e = .returned (dh (gI r p))/\Ext w w':=by
 have b1:=hk.hl
 refine R.enter [] [(0,.agg #[bU,bJ,bK,bL,iV r.ae,iV r.ah]),(1,.agg #[iV p.aA,iV p.Slot])] Tryz.func116 O O O O<|R.reg O<|R.s O (s.box O O O) fun b1=>?_
 refine R.s O (s.box O O O) fun b2=>?_
 refine R.u 1 O<|R.nil<|R.reg O<|R.q (q.cW 0 O O bO) O<|R.c (q.call AB O O (fun w hw=>(ko p w ))) O<|R.u 1 O<|R.nil ?_
 refine R.reg O<|R.u 1 O<|?_
 by_cases h1:aY p=0
 .
  refine R.q (q.lQ O O Tryz.underlying38) O<|R.u 1 O<|R.qg O (q.aP O cQ O) O<|R.qg O (q.ld 1 O O dV O) O<|R.qg O (q.cW 0 O O bO) O<|R.cg O (q.call AG O O (fun w hw=>(mV _ r.Held p w ((fun _=>Wd.old Fp) w hw) (by omega)))) O<|?_
  by_cases h2:mQ r.Held p=0
  .
   exact R.qg O (q.nB O O) O<|R.u 1 O<|R.nil<|R.aC O O<|R.reg O<|R.u 2 O<|R.nil<|R.rv O Tryz.results116 O (rE (by (unfold gI;(rw [if_pos ‹_›,if_pos ‹_›];omega))))
  exact R.qg O (q.nA O O) O<|R.u 1 O<|R.nil<|R.az O O<|R.reg O<|R.q (q.iface O br) O<|R.u 1 O<|R.nil<|R.reg O<|R.u 2 O<|R.nil<|R.rv O Tryz.results116 O (dj (by decide) (by (unfold gI;(rw [if_pos ‹_›,if_neg ‹_›];done))))
 exact R.q (q.jw O O Tryz.underlying38) O<|R.u 7 O<|R.nil<|R.aC O O<|R.reg O<|R.u 2 O<|R.nil<|R.rv O Tryz.results116 O (rE (by (unfold gI;(rw [if_neg ‹_›];done))))
theorem qn (bU bJ bK bL:Value)(r:aB)(w0:ak)(p:Place)(w:World)(own:List Nat)(H:HN w own [] [ag.ls bU r.ao,ag.ls bJ r.Things,ag.ls bK r.Held,ag.ls bL r.Notes])(hk:r.Held.length<=3000/\r.ao.length<=3000/\0<=r.ae/\r.ae<=3000):RC Tryz.prog 117 #[.agg #[bU,bJ,bK,bL,iV r.ae,iV r.ah],.agg #[iV w0.ID,iV w0.aF,iV w0.Rights,iV w0.aQ,iV w0.From],.agg #[iV p.aA,iV p.Slot]] H (fun z:Value×Value×Value×Value => .agg #[z.1,z.2.1,z.2.2.1,z.2.2.2,iV (fB r w0 p).ae,iV (fB r w0 p).ah]) (fun _=>[]) (fun z=>[ag.ls z.1 (fB r w0 p).ao,ag.ls z.2.1 (fB r w0 p).Things,ag.ls z.2.2.1 (fB r w0 p).Held,ag.ls z.2.2.2 (fB r w0 p).Notes]):=by
 have eJ:=H.ck 0 rfl
 have dK:=H.ck 1 rfl
 have fI:=H.ck 2 rfl
 have eK:=H.ck 3 rfl
 have b1:=hk.1;have b2:=hk.2.1;have b3:=hk.2.2.1;have b4:=hk.2.2.2
 refine R.bD [(0,.agg #[bU,bJ,bK,bL,iV r.ae,iV r.ah]),(1,.agg #[iV w0.ID,iV w0.aF,iV w0.Rights,iV w0.aQ,iV w0.From]),(2,.agg #[iV p.aA,iV p.Slot])] Tryz.func117 O O O O H<|R.reg O<|R.s O (s.box O O O) fun b1=>?_
 refine R.s O (s.box O O O) fun b2=>?_
 refine R.s O (s.box O O O) fun b3=>?_
 refine R.s O (s.alloc dB O O) fun b4=>?_
 refine R.nil<|R.fP (fuel:=8) [0,1,2,4] O O mixed O<|D.q (i:=0) O (aD [0,1,2,4] bI O) O (q.aP O bq O) O<|D.q (i:=3) O (aD [0,1,2,4] bI O) O (q.cW 2 O O aN) O<|D.two (i:=1) (j:=4) O O ?_ ?_
 .
  refine Do.s (s.c (Qt.a (q.ld 3 O O cb O)) O) (fun _=>(aD [0,1,2,4] bI O)) O fun _=>?_
  refine D.two (i:=2) (j:=4) O O ?_ ?_
  .
   refine Do.s (s.aT gJ [0] _ _ _ O O O wu O O (fun w own hw H=>jJ bU r.ao w own H (by omega)) O) (fun _=>(aD [1,2,3,5] bI O)) O fun z2=>?_
   refine D.one (i:=4) O<|Do.s (s.bs (l:=([w0]:List ak)) eu bR O O O O O O O) (fun _=>(aD o0 bI O)) O fun b5=>?_
   refine D.one (i:=5) O<|Do.s (s.app 1 _ O O O (bE 0 O) ln (by (simp;omega)) (by (simp;omega)) (fun _=>rfl) O) (fun _=>(aD o0 bI O)) O fun v1=>?_
   refine D.q (i:=6) O (aD o0 bI O) O (q.aP O bq O) O<|D.one (i:=7) O<|Do.s (s.fR 5 _ O O O (fun w hw=>Sl.cq (hw.row 1 O)) (.inr ⟨cb,rfl⟩) (fun w hw=>(af (Sl.one (hw.row 1 O)) aO)) O O O) (fun _=>(aD o0 bI O)) O fun _=>?_
   refine D.done<|R.reg O<|R.q (q.aP O cR O) O<|R.q (q.ld 5 O O au O) O<|R.q (q.bC (r:=r.ae+1) O O) O<|R.q (q.aP O cR O) O<|R.s O (s.st 5 _ O O O O (.inr ⟨au,rfl⟩) O O O O) fun _=>?_
   refine R.nil<|R.reg O<|R.q (q.aP O fw O) O<|R.q (q.ld 3 O O au O) O<|?_
   by_cases h1:0<p.aA
   .
    refine R.q (q.eM O O) O<|R.nil<|R.az O O<|R.reg O<|R.q (q.aP O cQ O) O<|R.q (q.ld 5 O O dV O) O<|R.q (q.cW 3 O O bO) O<|R.q (q.aP O bX O) O<|R.q (q.ld 4 O O au O) O<|R.s O (s.aT mH [2] _ _ _ O O O tO O O (fun w own hw H=>qE bK r.Held p w0.ID w own H (by omega)) O) fun z3=>?_
    refine R.q (q.aP O cQ O) O<|R.s O (s.fR 6 _ O O O (fun w hw=>Sl.cq (hw.row 0 O)) (.inr ⟨dV,rfl⟩) (fun w hw=>(af (Sl.one (hw.row 0 O)) aO)) O O O) fun _=>?_
    refine R.nil<|R.reg O<|R.q (q.cW 6 O O aj) O<|R.s O (s.fR 3 _ O O O (fun _ _=>rfl) (.inl aj) (fun w hw=>(af (Sl.one (hw.row 2 O)) (af (Sl.one (hw.bN 1 O)) (af (Sl.one (hw.row 0 O)) (af (Sl.one (hw.bN 3 O)) (af O (af O aO))))))) O O O) fun _=>?_
    refine R.nil<|R.mp (fun _ hw=>hw.cX 2 _ O O)<|R.mp (fun _ hw=>hw.cX 0 _ O O) ?_
    have hz:fB r w0 p=(⟨(r.ao++([w0])),r.Things,fS r.Held p w0.ID,r.Notes,(r.ae+1),r.ah⟩:aB):=by (unfold fB;(rw [if_pos ‹_›];done))
    rw [hz]
    exact R.w1 (v1,bJ,z3,bL) [5] [1,3,0,5] O Tryz.results117 (RV.cell 1 O O aj) O O O O
   refine R.q (q.ey O O) O<|R.nil<|R.aC O O<|R.reg O<|R.q (q.cW 5 O O aj) O<|R.s O (s.fR 2 _ O O O (fun _ _=>rfl) (.inl aj) (fun w hw=>(af (Sl.one (hw.row 1 O)) (af (Sl.one (hw.bN 1 O)) (af (Sl.one (hw.bN 2 O)) (af (Sl.one (hw.bN 3 O)) (af O (af O aO))))))) O O O) fun _=>?_
   refine R.nil<|R.mp (fun _ hw=>hw.cX 1 _ O O) ?_
   have hz:fB r w0 p=(⟨(r.ao++([w0])),r.Things,r.Held,r.Notes,(r.ae+1),r.ah⟩:aB):=by (unfold fB;(rw [if_neg ‹_›];done))
   rw [hz]
   exact R.w1 (v1,bJ,bK,bL) [5] [0,2,3,4] O Tryz.results117 (RV.cell 1 O O aj) O O O O
  refine Do.s (s.bs (l:=([w0]:List ak)) eu bR O O O O O O O) (fun _=>(aD [1,2,3,5] bI O)) O fun b6=>?_
  refine D.one (i:=2) O<|Do.s (s.aT rk [0] _ _ _ O O O wu O O (fun w own hw H=>jJ bU r.ao w own H (by omega)) O) (fun _=>(aD o0 bI O)) O fun z4=>?_
  refine D.one (i:=5) O<|Do.s (s.app 0 _ O O O (bE 1 O) ln (by (simp;omega)) (by (simp;omega)) (fun _=>rfl) O) (fun _=>(aD o0 bI O)) O fun v2=>?_
  refine D.q (i:=6) O (aD o0 bI O) O (q.aP O bq O) O<|D.one (i:=7) O<|Do.s (s.fR 5 _ O O O (fun w hw=>Sl.cq (hw.row 0 O)) (.inr ⟨cb,rfl⟩) (fun w hw=>(af (Sl.one (hw.row 0 O)) aO)) O O O) (fun _=>(aD o0 bI O)) O fun _=>?_
  refine D.done<|R.reg O<|R.q (q.aP O cR O) O<|R.q (q.ld 5 O O au O) O<|R.q (q.bC (r:=r.ae+1) O O) O<|R.q (q.aP O cR O) O<|R.s O (s.st 5 _ O O O O (.inr ⟨au,rfl⟩) O O O O) fun _=>?_
  refine R.nil<|R.reg O<|R.q (q.aP O fw O) O<|R.q (q.ld 3 O O au O) O<|?_
  by_cases h2:0<p.aA
  .
   refine R.q (q.eM O O) O<|R.nil<|R.az O O<|R.reg O<|R.q (q.aP O cQ O) O<|R.q (q.ld 5 O O dV O) O<|R.q (q.cW 3 O O bO) O<|R.q (q.aP O bX O) O<|R.q (q.ld 4 O O au O) O<|R.s O (s.aT mH [2] _ _ _ O O O tO O O (fun w own hw H=>qE bK r.Held p w0.ID w own H (by omega)) O) fun z5=>?_
   refine R.q (q.aP O cQ O) O<|R.s O (s.fR 6 _ O O O (fun w hw=>Sl.cq (hw.row 0 O)) (.inr ⟨dV,rfl⟩) (fun w hw=>(af (Sl.one (hw.row 0 O)) aO)) O O O) fun _=>?_
   refine R.nil<|R.reg O<|R.q (q.cW 6 O O aj) O<|R.s O (s.fR 3 _ O O O (fun _ _=>rfl) (.inl aj) (fun w hw=>(af (Sl.one (hw.row 1 O)) (af (Sl.one (hw.bN 1 O)) (af (Sl.one (hw.row 0 O)) (af (Sl.one (hw.bN 3 O)) (af O (af O aO))))))) O O O) fun _=>?_
   refine R.nil<|R.mp (fun _ hw=>hw.cX 1 _ O O)<|R.mp (fun _ hw=>hw.cX 0 _ O O) ?_
   have hz:fB r w0 p=(⟨(r.ao++([w0])),r.Things,fS r.Held p w0.ID,r.Notes,(r.ae+1),r.ah⟩:aB):=by (unfold fB;(rw [if_pos ‹_›];done))
   rw [hz]
   exact R.w1 (v2,bJ,z5,bL) [5] [1,3,0,5] O Tryz.results117 (RV.cell 1 O O aj) O O O O
  refine R.q (q.ey O O) O<|R.nil<|R.aC O O<|R.reg O<|R.q (q.cW 5 O O aj) O<|R.s O (s.fR 2 _ O O O (fun _ _=>rfl) (.inl aj) (fun w hw=>(af (Sl.one (hw.row 0 O)) (af (Sl.one (hw.bN 1 O)) (af (Sl.one (hw.bN 2 O)) (af (Sl.one (hw.bN 3 O)) (af O (af O aO))))))) O O O) fun _=>?_
  refine R.nil<|R.mp (fun _ hw=>hw.cX 0 _ O O) ?_
  have hz:fB r w0 p=(⟨(r.ao++([w0])),r.Things,r.Held,r.Notes,(r.ae+1),r.ah⟩:aB):=by (unfold fB;(rw [if_neg ‹_›];done))
  rw [hz]
  exact R.w1 (v2,bJ,bK,bL) [5] [0,2,3,4] O Tryz.results117 (RV.cell 1 O O aj) O O O O
 refine Do.s (s.bs (l:=([w0]:List ak)) eu bR O O O O O O O) (fun _=>(aD [1,2,3,5] bI O)) O fun b7=>?_
 refine D.one (i:=1) O<|Do.s (s.c (Qt.a (q.ld 4 O O cb O)) O) (fun _=>(aD [1,2,3,5] bI O)) O fun _=>?_
 refine D.one (i:=2) O<|Do.s (s.aT rk [0] _ _ _ O O O wu O O (fun w own hw H=>jJ bU r.ao w own H (by omega)) O) (fun _=>(aD o0 bI O)) O fun z6=>?_
 refine D.one (i:=5) O<|Do.s (s.app 0 _ O O O (bE 1 O) ln (by (simp;omega)) (by (simp;omega)) (fun _=>rfl) O) (fun _=>(aD o0 bI O)) O fun v3=>?_
 refine D.q (i:=6) O (aD o0 bI O) O (q.aP O bq O) O<|D.one (i:=7) O<|Do.s (s.fR 5 _ O O O (fun w hw=>Sl.cq (hw.row 0 O)) (.inr ⟨cb,rfl⟩) (fun w hw=>(af (Sl.one (hw.row 0 O)) aO)) O O O) (fun _=>(aD o0 bI O)) O fun _=>?_
 refine D.done<|R.reg O<|R.q (q.aP O cR O) O<|R.q (q.ld 5 O O au O) O<|R.q (q.bC (r:=r.ae+1) O O) O<|R.q (q.aP O cR O) O<|R.s O (s.st 5 _ O O O O (.inr ⟨au,rfl⟩) O O O O) fun _=>?_
 refine R.nil<|R.reg O<|R.q (q.aP O fw O) O<|R.q (q.ld 3 O O au O) O<|?_
 by_cases h3:0<p.aA
 .
  refine R.q (q.eM O O) O<|R.nil<|R.az O O<|R.reg O<|R.q (q.aP O cQ O) O<|R.q (q.ld 5 O O dV O) O<|R.q (q.cW 3 O O bO) O<|R.q (q.aP O bX O) O<|R.q (q.ld 4 O O au O) O<|R.s O (s.aT mH [2] _ _ _ O O O tO O O (fun w own hw H=>qE bK r.Held p w0.ID w own H (by omega)) O) fun z7=>?_
  refine R.q (q.aP O cQ O) O<|R.s O (s.fR 6 _ O O O (fun w hw=>Sl.cq (hw.row 0 O)) (.inr ⟨dV,rfl⟩) (fun w hw=>(af (Sl.one (hw.row 0 O)) aO)) O O O) fun _=>?_
  refine R.nil<|R.reg O<|R.q (q.cW 6 O O aj) O<|R.s O (s.fR 3 _ O O O (fun _ _=>rfl) (.inl aj) (fun w hw=>(af (Sl.one (hw.row 1 O)) (af (Sl.one (hw.bN 1 O)) (af (Sl.one (hw.row 0 O)) (af (Sl.one (hw.bN 3 O)) (af O (af O aO))))))) O O O) fun _=>?_
  refine R.nil<|R.mp (fun _ hw=>hw.cX 1 _ O O)<|R.mp (fun _ hw=>hw.cX 0 _ O O) ?_
  have hz:fB r w0 p=(⟨(r.ao++([w0])),r.Things,fS r.Held p w0.ID,r.Notes,(r.ae+1),r.ah⟩:aB):=by (unfold fB;(rw [if_pos ‹_›];done))
  rw [hz]
  exact R.w1 (v3,bJ,z7,bL) [5] [1,3,0,5] O Tryz.results117 (RV.cell 1 O O aj) O O O O
 refine R.q (q.ey O O) O<|R.nil<|R.aC O O<|R.reg O<|R.q (q.cW 5 O O aj) O<|R.s O (s.fR 2 _ O O O (fun _ _=>rfl) (.inl aj) (fun w hw=>(af (Sl.one (hw.row 0 O)) (af (Sl.one (hw.bN 1 O)) (af (Sl.one (hw.bN 2 O)) (af (Sl.one (hw.bN 3 O)) (af O (af O aO))))))) O O O) fun _=>?_
 refine R.nil<|R.mp (fun _ hw=>hw.cX 0 _ O O) ?_
 have hz:fB r w0 p=(⟨(r.ao++([w0])),r.Things,r.Held,r.Notes,(r.ae+1),r.ah⟩:aB):=by (unfold fB;(rw [if_neg ‹_›];done))
 rw [hz]
 exact R.w1 (v3,bJ,bK,bL) [5] [0,2,3,4] O Tryz.results117 (RV.cell 1 O O aj) O O O O
theorem KS (w:World)(own:List Nat)(H:HN w own [] []):RC Tryz.prog 71 #[] H (fun z:Value×Value×Value×Value => .agg #[z.1,z.2.1,z.2.2.1,z.2.2.2,iV (⟨[],[],[],[],1,1⟩:aB).ae,iV (⟨[],[],[],[],1,1⟩:aB).ah]) (fun _=>[]) (fun z=>[ag.ls z.1 ((⟨[],[],[],[],1,1⟩:aB).ao:List ak),ag.ls z.2.1 ((⟨[],[],[],[],1,1⟩:aB).Things:List aF),ag.ls z.2.2.1 ((⟨[],[],[],[],1,1⟩:aB).Held:List Held),ag.ls z.2.2.2 ((⟨[],[],[],[],1,1⟩:aB).Notes:List Note)]):=by
 refine R.bD [] Tryz.func71 O O O O H<|R.reg O<|R.s O (s.alloc dB O O) fun b1=>?_
 refine R.nil<|R.reg O<|R.q (q.build ec O O) O<|R.s O (s.st 0 _ O O O O (.inl aj) O O O O) fun _=>?_
 exact R.nil<|R.mp (fun _ hw=>hw.a8 (α:=ak))<|R.mp (fun _ hw=>hw.a8 (α:=aF))<|R.mp (fun _ hw=>hw.a8 (α:=Held))<|R.mp (fun _ hw=>hw.a8 (α:=Note))<|R.w1 ((nS),(nS),(nS),(nS)) [1] gj O Tryz.results71 (RV.cell 0 O O aj) O O O O
theorem xK (t:aF)(w0:ak)(BH:Nat)(w:World)(KT:(ag.box BH (jN w0) 127).ok w):Calls Tryz.prog 174 #[.agg #[iV t.ID,iV t.Kind,.string t.Data],.pointer (some ⟨BH,0,none⟩)] w fun e w'=>e = .returned (.bool (t.ID==w0.aF))/\Ext w w':=by
 refine R.enter [] [(0,.agg #[iV t.ID,iV t.Kind,.string t.Data]),(1,.pointer (some ⟨BH,0,none⟩))] Tryz.func174 O O O O<|R.nG (r:=ag.box BH (jN w0) 127) KT (jO KT)<|R.reg O<|R.s O (s.box O O O) fun b1=>?_
 refine R.u 1 O<|R.nil<|R.reg O<|R.q (q.aP O ou O) O<|R.q (q.ld 0 O O au O) O<|R.q (q.aP O fU O) O<|R.q (q.yu 0 O O au O) O<|?_
 by_cases h1:t.ID=w0.aF
 .
  exact R.q (q.fJ O O) O<|R.u 1 O<|R.nil<|R.rv O Tryz.results174 O (rB (by (exact (beq_iff_eq.2 ‹_›).symm)))
 exact R.q (q.eX O O) O<|R.u 1 O<|R.nil<|R.rv O Tryz.results174 O (rB (by (exact (beq_eq_false_iff_ne.2 ‹_›).symm)))
theorem uQ (t:Note)(w0:ak)(BH:Nat)(w:World)(KT:(ag.box BH (jN w0) 127).ok w):Calls Tryz.prog 127 #[.agg #[iV t.Port,.string t.Data,iV t.aQ,iV t.ak],.pointer (some ⟨BH,0,none⟩)] w fun e w'=>e = .returned (.bool (t.Port==w0.aF))/\Ext w w':=by
 refine R.enter [] [(0,.agg #[iV t.Port,.string t.Data,iV t.aQ,iV t.ak]),(1,.pointer (some ⟨BH,0,none⟩))] Tryz.func127 O O O O<|R.nG (r:=ag.box BH (jN w0) 127) KT (jO KT)<|R.reg O<|R.s O (s.box O O O) fun b1=>?_
 refine R.u 1 O<|R.nil<|R.reg O<|R.q (q.aP O qz O) O<|R.q (q.ld 0 O O au O) O<|R.q (q.aP O fU O) O<|R.q (q.yu 0 O O au O) O<|?_
 by_cases h1:t.Port=w0.aF
 .
  exact R.q (q.fJ O O) O<|R.u 1 O<|R.nil<|R.rv O Tryz.results127 O (rB (by (exact (beq_iff_eq.2 ‹_›).symm)))
 exact R.q (q.eX O O) O<|R.u 1 O<|R.nil<|R.rv O Tryz.results127 O (rB (by (exact (beq_eq_false_iff_ne.2 ‹_›).symm)))
theorem yK (t:aF)(Qq:Value)(ts:List Int)(MQ:Nat)(w:World)(S7:(ag.box MQ [Qq] 159).ok w)(Uv:Sl w Qq ts):Calls Tryz.prog 112 #[.agg #[iV t.ID,iV t.Kind,.string t.Data],.pointer (some ⟨MQ,0,none⟩)] w fun e w'=>e = .returned (.bool (!decide (t.ID∈ts)))/\Ext w w':=by
 refine R.enter [] [(0,.agg #[iV t.ID,iV t.Kind,.string t.Data]),(1,.pointer (some ⟨MQ,0,none⟩))] Tryz.func112 O O O O<|R.nG (r:=ag.box MQ [Qq] 159) S7 (jO S7)<|R.reg O<|R.s O (s.box O O O) fun b1=>?_
 refine R.u 1 O<|R.nil<|R.reg O<|R.q (q.yu 0 O O nJ O) O<|R.q (q.aP O ou O) O<|R.q (q.ld 0 O O au O) O<|R.c (q.call pP O O (fun w hw=>(fO _ ts t.ID w ((fun _=>Wd.old Uv) w hw) ))) O<|R.q (q.not O) O<|R.u 1 O<|R.nil ?_
 exact R.rv O Tryz.results112 O (rB (by rfl))
theorem yL (h:Held)(bU bJ bK bL:Value)(r:aB)(KU:Nat)(w:World)(Vd:(ag.box KU [bU,bJ,bK,bL,iV r.ae,iV r.ah] 48).ok w)(yJ:Sl w bU r.ao)(BG:Sl w bJ r.Things)(Fp:Sl w bK r.Held)(MP:Sl w bL r.Notes):Calls Tryz.prog 115 #[.agg #[iV h.Place.aA,iV h.Place.Slot,iV h.ak],.pointer (some ⟨KU,0,none⟩)] w fun e w'=>e = .returned (.bool (decide (cI r.ao h.ak<0)))/\Ext w w':=by
 refine R.enter [] [(0,.agg #[iV h.Place.aA,iV h.Place.Slot,iV h.ak]),(1,.pointer (some ⟨KU,0,none⟩))] Tryz.func115 O O O O<|R.nG (r:=ag.box KU [bU,bJ,bK,bL,iV r.ae,iV r.ah] 48) Vd (jO Vd)<|R.reg O<|R.s O (s.box O O O) fun b1=>?_
 refine R.u 1 O<|R.nil<|R.reg O<|R.q (q.aP O bq O) O<|R.q (q.yu 0 O O cb O) O<|R.q (q.aP O jQ O) O<|R.q (q.ld 0 O O au O) O<|?_
 rcases ft r.ao h.ak with ⟨gS,Ey⟩ | ⟨Dq,lW,gS,vh,S4⟩
 .
  refine R.c (q.call lJ O O (fun w hw=>(cv (congrArg (Value.int .i64) gS) (iC _ r.ao h.ak w ((fun _=>Wd.old yJ) w hw) )))) O<|R.q (q.lss (b:=true) O O (by decide)) O<|R.u 1 O<|R.nil ?_
  exact R.rv O Tryz.results115 O (rB (by (exact (decide_eq_true (by omega)).symm)))
 refine R.c (q.call lJ O O (fun w hw=>(cv (congrArg (Value.int .i64) gS) (iC _ r.ao h.ak w ((fun _=>Wd.old yJ) w hw) )))) O<|R.q (q.cU O O) O<|R.u 1 O<|R.nil ?_
 exact R.rv O Tryz.results115 O (rB (by (exact (decide_eq_false (by omega)).symm)))
theorem yM (x:ak)(Qr:Value)(gs:List Int)(MR:Nat)(w:World)(S8:(ag.box MR [Qr] 159).ok w)(Uw:Sl w Qr gs):Calls Tryz.prog 124 #[.agg #[iV x.ID,iV x.aF,iV x.Rights,iV x.aQ,iV x.From],.pointer (some ⟨MR,0,none⟩)] w fun e w'=>e = .returned (.bool (decide (x.ID∈gs)))/\Ext w w':=by
 refine R.enter [] [(0,.agg #[iV x.ID,iV x.aF,iV x.Rights,iV x.aQ,iV x.From]),(1,.pointer (some ⟨MR,0,none⟩))] Tryz.func124 O O O O<|R.nG (r:=ag.box MR [Qr] 159) S8 (jO S8)<|R.reg O<|R.s O (s.box O O O) fun b1=>?_
 refine R.u 1 O<|R.nil<|R.reg O<|R.q (q.yu 0 O O nJ O) O<|R.q (q.aP O bX O) O<|R.q (q.ld 0 O O au O) O<|R.c (q.call pP O O (fun w hw=>(fO _ gs x.ID w ((fun _=>Wd.old Uw) w hw) ))) O<|R.u 1 O<|R.nil ?_
 exact R.rv O Tryz.results124 O (rB (by rfl))
end
section
open Go Go.RowKit
theorem sf (bU bJ bK bL:Value)(r:aB)(w:World)(own:List Nat)(H:HN w own [] [ag.ls bU r.ao,ag.ls bJ r.Things,ag.ls bK r.Held,ag.ls bL r.Notes])(hk:Ok r):RC Tryz.prog 55 #[.agg #[bU,bJ,bK,bL,iV r.ae,iV r.ah]] H (fun z:Value×Value×Value×Value => .agg #[z.1,z.2.1,z.2.2.1,z.2.2.2,iV (dS r).ae,iV (dS r).ah]) (fun _=>[]) (fun z=>[ag.ls z.1 (dS r).ao,ag.ls z.2.1 (dS r).Things,ag.ls z.2.2.1 (dS r).Held,ag.ls z.2.2.2 (dS r).Notes]):=by
 have eJ:=H.ck 0 rfl
 have dK:=H.ck 1 rfl
 have fI:=H.ck 2 rfl
 have eK:=H.ck 3 rfl
 refine R.bD [(0,.agg #[bU,bJ,bK,bL,iV r.ae,iV r.ah])] Tryz.func55 O O O O H<|R.reg O<|R.s O (s.box O O O) fun b1=>?_
 refine R.s O (s.alloc dB O O) fun b2=>?_
 refine R.nil<|R.loop (fun g_:aB×Value×Value×Value×Value=>[(1,.pointer (some ⟨b1,0,none⟩)),(2,.pointer (some ⟨b2,0,none⟩))]) (fun g_=>[ag.box b2 Hb 48,ag.box b1 [g_.2.1,g_.2.2.1,g_.2.2.2.1,g_.2.2.2.2,iV g_.1.ae,iV g_.1.ah] 48,ag.held w own]) (fun g_=>[ag.ls g_.2.1 g_.1.ao,ag.ls g_.2.2.1 g_.1.Things,ag.ls g_.2.2.2.1 g_.1.Held,ag.ls g_.2.2.2.2 g_.1.Notes,ag.ls bU r.ao,ag.ls bJ r.Things,ag.ls bK r.Held,ag.ls bL r.Notes]) (fun g_=>Ok g_.1/\dS g_.1=dS r) (fun g_=>g_.1.Notes.length) (r,bU,bJ,bK,bL) O (by exact ⟨hk,rfl⟩) (sF O) (iz [0,1,2] [0,1,2,3,0,1,2,3] O) ?_
 rintro ⟨m,S9,Ux,TU,TV⟩ ⟨hok,HS⟩
 dsimp only at *
 have o1:=hok.wl;have o2:=hok.tl;have o3:=hok.hl;have o4:=hok.nl
 refine R.reg O<|R.q (q.aP O bq O) O<|R.q (q.ld 1 O O cb O) O<|R.s O (s.vU Js O O (fun w hw=>uP _ m.ao w (hw.bN 0 O) (by omega)) O) fun v1=>?_
 refine R.s O (s.alloc ze O O) fun b3=>?_
 refine R.s O (s.fR 0 _ O O O (fun w hw=>Sl.cq (hw.row 1 O)) (.inr ⟨nJ,rfl⟩) (fun w hw=>(af (Sl.one (hw.row 1 O)) aO)) O O O) fun _=>?_
 refine R.nil<|R.reg O<|R.q (q.aP O du O) O<|R.q (q.ld 3 O O eR O) O<|R.s O (s.aT gJ [1] _ _ _ O O O wv O O (fun w own hw H=>ji Ux m.Things w own H (by omega)) O) fun z1=>?_
 refine R.q (q.LR (cap:=[.pointer (some ⟨b3,0,none⟩)]) O O) O<|R.s O (s.aT rk [] _ _ _ O O O O4 O O (fun w own hw H=>ug z1 m.Things (fun (t:aF) => !decide (t.ID∈(bV m.ao))) _ _ O5 w own H (fun W t hU=>yK t _ (bV m.ao) _ W (hw.wh 1 0 O O (by decide) hU) (Own.sl (hw.wh 2 0 O O (by decide) hU)) ) (by omega)) O) fun z2=>?_
 refine R.q (q.aP O du O) O<|R.s O (s.fR 4 _ O O O (fun w hw=>Sl.cq (hw.row 0 O)) (.inr ⟨eR,rfl⟩) (fun w hw=>(af (Sl.one (hw.row 0 O)) aO)) O O O) fun _=>?_
 refine R.nil<|R.reg O<|R.u 1 O<|R.nil<|R.reg O<|R.u 1 O<|R.nil<|R.reg O<|R.q (q.aP O dv O) O<|R.q (q.ld 4 O O eB O) O<|R.q (q.len' (dx 3 O) O Tryz.underlying46) O<|R.u 1 O<|R.nil<|R.row0 (α:=Int) 3<|R.row0 (α:=Note) 89<|R.loop (fun g_:Nat×Value×(List Note)×Value×(List Int)=>[(1,.pointer (some ⟨b1,0,none⟩)),(2,.pointer (some ⟨b2,0,none⟩)),(3,.pointer (some ⟨b3,0,none⟩)),(4,g_.2.2.2.1),(5,g_.2.1),(20,TV),(21,iV (m.Notes.length:Int)),(22,iV (g_.1:Int))]) (fun g_=>[ag.row 89 g_.2.1 g_.2.2.1,ag.row 3 g_.2.2.2.1 g_.2.2.2.2,ag.row 100 z2 (m.Things.filter (fun x => !(fun (t:aF) => !decide (t.ID∈(bV m.ao))) x)),ag.box b3 [v1] 159,ag.row 3 v1 (bV m.ao),ag.box b2 Hb 48,ag.box b1 [S9,z2,TU,TV,iV m.ae,iV m.ah] 48,ag.held w own]) (fun g_=>[ag.ls S9 m.ao,ag.ls Ux m.Things,ag.ls TU m.Held,ag.ls TV m.Notes,ag.ls bU r.ao,ag.ls bJ r.Things,ag.ls bK r.Held,ag.ls bL r.Notes]) (fun g_=>g_.1<=m.Notes.length/\g_.2.2.1=hZ m.ao (bV m.ao) (m.Notes.take g_.1)/\g_.2.2.2.2=kI m.ao (bV m.ao) (m.Notes.take g_.1)) (fun g_=>m.Notes.length-g_.1) (0,(nS),[],(nS),[]) O (by exact ⟨by omega,by simp [hZ],by simp [kI]⟩) (sF O) (iz fj fj O) ?_
 rintro ⟨k,vn,ns,vl,ls⟩ ⟨hk1,HN,HL⟩
 dsimp only at *
 have hkl:=qP m.ao (bV m.ao) (m.Notes.take k);rw [<- HN,<- HL,List.length_take] at hkl
 refine R.reg O<|?_
 by_cases h1:k<m.Notes.length
 .
  refine R.q (q.dD O O) O<|R.nil<|R.az O O<|R.reg O<|?_
  obtain ⟨x1,hx1⟩:∃z,m.Notes[k]? = some z:=⟨_,List.getElem?_eq_getElem (by omega)⟩
  refine R.q (q.idx (i:=k) (dx 3 O) O O gK O hx1) O<|R.q (q.gk (ds:=vP x1) (dx 3 O) hx1 O dH O) O<|R.s O (s.alloc eT O O) fun b4=>?_
  refine R.s O (s.st 0 _ O O O O (.inl dH) O O O O) fun _=>?_
  refine R.nil<|R.reg O<|R.q (q.aP O bq O) O<|R.q (q.ld 7 O O cb O) O<|R.q (q.aP O iF O) O<|R.q (q.ld 0 O O au O) O<|?_
  rcases ft m.ao x1.ak with ⟨gS,Ey⟩ | ⟨Dq,lW,gS,vh,S4⟩
  .
   refine R.c (q.call lJ O O (fun w hw=>(cv (congrArg (Value.int .i64) gS) (iC _ m.ao x1.ak w (hw.bN 0 O) )))) O<|R.q (q.lss (b:=true) O O (by decide)) O<|R.nil ?_
   refine R.az O O<|R.reg O<|R.q (q.aP O iF O) O<|R.s O (s.st 0 _ O O O O (.inr ⟨au,rfl⟩) O O O O) fun _=>?_
   refine R.nil<|R.reg O<|R.q (q.ld 4 O O nJ O) O<|R.q (q.aP O qz O) O<|R.q (q.ld 0 O O au O) O<|?_
   rcases Bool.eq_false_or_eq_true (decide (x1.Port∈(bV m.ao))) with h2|h2
   .
    refine R.c (q.call pP O O (fun w hw=>(cv (congrArg Value.bool h2) (fO _ (bV m.ao) x1.Port w (hw.row 5 O) )))) O<|R.nil ?_
    refine R.az O O<|R.reg O<|R.u 1 O<|R.q (q.cW 0 O O dH) O<|R.s O (s.bs (l:=([(⟨x1.Port,x1.Data,x1.aQ,0⟩:Note)]:List Note)) gK eT O O O O O O O) fun b5=>?_
    refine R.s O (s.app 2 _ O O O (bE 0 O) ki (by (simp;omega)) (by (simp;omega)) (fun _=>rfl) O) fun v2=>?_
    refine R.u 1 O<|R.nil<|R.reg O<|R.q (q.bC (r:=((k+1:Nat):Int)) O O) O<|R.u 1 O<|R.nil<|R.back (k+1,v2,(ns++([(⟨x1.Port,x1.Data,x1.aQ,0⟩:Note)])),vl,ls) O (by (have e0:=hx1;(have e1:=GI (ws:=m.ao) gS;have e2:=zL e0 (by rw [e1];exact of_decide_eq_true ‹_›);rw [e1] at e2;exact ⟨by omega,by rw [e2.1,HN],by rw [e2.2,HL]⟩))) (by dsimp only;omega) (sF O) (aD FT fj O)
   refine R.c (q.call pP O O (fun w hw=>(cv (congrArg Value.bool h2) (fO _ (bV m.ao) x1.Port w (hw.row 5 O) )))) O<|R.nil ?_
   refine R.aC O O<|R.reg O<|R.q (q.aP O iF O) O<|R.q (q.ld 0 O O au O) O<|R.q (q.gtr (b:=false) O O (by decide)) O<|R.nil<|R.aC O O<|R.reg O<|R.q (q.bC (r:=((k+1:Nat):Int)) O O) O<|R.u 1 O<|R.nil<|R.back (k+1,vn,ns,vl,ls) O (by (have e0:=hx1;(have e1:=GI (ws:=m.ao) gS;have e2:=zM e0 (by rw [e1];exact of_decide_eq_false ‹_›) (by rw [e1];simp);exact ⟨by omega,by rw [e2.1,HN],by rw [e2.2,HL]⟩))) (by dsimp only;omega) (sF O) (aD yR fj O)
  refine R.c (q.call lJ O O (fun w hw=>(cv (congrArg (Value.int .i64) gS) (iC _ m.ao x1.ak w (hw.bN 0 O) )))) O<|R.q (q.cU O O) O<|R.nil ?_
  refine R.aC O O<|R.reg O<|R.q (q.ld 4 O O nJ O) O<|R.q (q.aP O qz O) O<|R.q (q.ld 0 O O au O) O<|?_
  rcases Bool.eq_false_or_eq_true (decide (x1.Port∈(bV m.ao))) with h3|h3
  .
   refine R.c (q.call pP O O (fun w hw=>(cv (congrArg Value.bool h3) (fO _ (bV m.ao) x1.Port w (hw.row 5 O) )))) O<|R.nil ?_
   refine R.az O O<|R.reg O<|R.u 1 O<|R.q (q.cW 0 O O dH) O<|R.s O (s.bs (l:=([x1]:List Note)) gK eT O O O O O O O) fun b6=>?_
   refine R.s O (s.app 2 _ O O O (bE 0 O) ki (by (simp;omega)) (by (simp;omega)) (fun _=>rfl) O) fun v3=>?_
   refine R.u 1 O<|R.nil<|R.reg O<|R.q (q.bC (r:=((k+1:Nat):Int)) O O) O<|R.u 1 O<|R.nil<|R.back (k+1,v3,(ns++([x1])),vl,ls) O (by (have e0:=hx1;(have e1:=xH (ws:=m.ao) gS;have e2:=zL e0 (by rw [e1];exact of_decide_eq_true ‹_›);rw [e1] at e2;exact ⟨by omega,by rw [e2.1,HN],by rw [e2.2,HL]⟩))) (by dsimp only;omega) (sF O) (aD FT fj O)
  refine R.c (q.call pP O O (fun w hw=>(cv (congrArg Value.bool h3) (fO _ (bV m.ao) x1.Port w (hw.row 5 O) )))) O<|R.nil ?_
  refine R.aC O O<|R.reg O<|R.q (q.aP O iF O) O<|R.q (q.ld 0 O O au O) O<|?_
  by_cases h4:0<x1.ak
  .
   refine R.q (q.eM O O) O<|R.nil<|R.az O O<|R.reg O<|R.u 1 O<|R.q (q.aP O iF O) O<|R.q (q.ld 0 O O au O) O<|R.s O (s.bs (l:=([x1.ak]:List Int)) dc lV O O O O O O O) fun b7=>?_
   refine R.s O (s.app 3 _ O O O (bE 0 O) nL (by (simp;omega)) (by (simp;omega)) (fun _=>rfl) O) fun v4=>?_
   refine R.u 1 O<|R.nil<|R.reg O<|R.q (q.bC (r:=((k+1:Nat):Int)) O O) O<|R.u 1 O<|R.nil<|R.back (k+1,vn,ns,v4,(ls++([x1.ak]))) O (by (have e0:=hx1;(have e1:=xH (ws:=m.ao) gS;have e2:=Ib e0 (by rw [e1];exact of_decide_eq_false ‹_›) (by rw [e1];assumption);rw [e1] at e2;exact ⟨by omega,by rw [e2.1,HN],by rw [e2.2,HL]⟩))) (by dsimp only;omega) (sF O) (aD FT fj O)
  refine R.q (q.ey O O) O<|R.nil<|R.aC O O<|R.reg O<|R.q (q.bC (r:=((k+1:Nat):Int)) O O) O<|R.u 1 O<|R.nil<|R.back (k+1,vn,ns,vl,ls) O (by (have e0:=hx1;(have e1:=xH (ws:=m.ao) gS;have e2:=zM e0 (by rw [e1];exact of_decide_eq_false ‹_›) (by rw [e1];assumption);exact ⟨by omega,by rw [e2.1,HN],by rw [e2.2,HL]⟩))) (by dsimp only;omega) (sF O) (aD yR fj O)
 refine R.q (q.cU O O) O<|R.nil<|R.aC O O<|R.reg O<|R.u 1 O<|R.q (q.aP O dv O) O<|R.s O (s.fR 6 _ O O O (fun w hw=>Sl.cq (hw.row 0 O)) (.inr ⟨eB,rfl⟩) (fun w hw=>(af (Sl.one (hw.row 0 O)) aO)) O O O) fun _=>?_
 refine R.nil<|R.reg O<|R.q (q.aP O cQ O) O<|R.q (q.ld 6 O O dV O) O<|R.s O (s.aT fj [2] _ _ _ O O O EI O O (fun w own hw H=>nn TU m.Held w own H (by omega)) O) fun z3=>?_
 refine R.q (q.LR (cap:=[.pointer (some ⟨b1,0,none⟩)]) O O) O<|R.s O (s.aT cj [] _ _ _ O O O O6 O O (fun w own hw H=>vq z3 m.Held (fun (h:Held)=>decide (cI (⟨m.ao,m.Things.filter (fun x => !(fun (t:aF) => !decide (t.ID∈(bV m.ao))) x),m.Held,ns,m.ae,m.ah⟩:aB).ao h.ak<0)) _ _ O7 w own H (fun W h hU=>yL h _ _ _ _ (⟨m.ao,m.Things.filter (fun x => !(fun (t:aF) => !decide (t.ID∈(bV m.ao))) x),m.Held,ns,m.ae,m.ah⟩:aB) _ W (hw.wh 7 0 O O (by decide) hU) (hw.NU 0 0 O O hU) (Own.sl (hw.wh 3 0 O O (by decide) hU)) (hw.NU 2 0 O O hU) (Own.sl (hw.wh 1 0 O O (by decide) hU)) ) (by omega)) O) fun z4=>?_
 refine R.q (q.aP O cQ O) O<|R.s O (s.fR 7 _ O O O (fun w hw=>Sl.cq (hw.row 0 O)) (.inr ⟨dV,rfl⟩) (fun w hw=>(af (Sl.one (hw.row 0 O)) aO)) O O O) fun _=>?_
 refine R.nil<|R.reg O<|R.u 1 O<|R.q (q.len' (bE 2 O) O Tryz.underlying159) O<|?_
 by_cases h5:ls.length=0
 .
  refine R.q (q.fJ O O) O<|R.nil<|R.az O O<|R.reg O<|R.q (q.cW 7 O O aj) O<|R.s O (s.fR 6 _ O O O (fun _ _=>rfl) (.inl aj) (fun w hw=>(af (Sl.one (hw.bN 0 O)) (af (Sl.one (hw.row 3 O)) (af (Sl.one (hw.row 0 O)) (af (Sl.one (hw.row 1 O)) (af O (af O aO))))))) O O O) fun _=>?_
  refine R.nil<|R.mp (fun _ hw=>hw.cX 3 _ O O)<|R.mp (fun _ hw=>hw.cX 0 _ O O)<|R.mp (fun _ hw=>hw.cX 0 _ O O) ?_
  have hz:dS r=(⟨m.ao,m.Things.filter (fun x => !(fun (t:aF) => !decide (t.ID∈(bV m.ao))) x),m.Held.filter (fun x => !(fun (h:Held)=>decide (cI m.ao h.ak<0)) x),ns,m.ae,m.ah⟩:aB):=by (rw [List.take_of_length_le (by omega)] at HN HL;rw [<- HS,qi (by show (kI _ _ _).length=0;rw [<- HL];assumption)];unfold fN;rw [<- HN])
  rw [hz]
  exact R.w1 (S9,z2,z4,vn) [5] gj O Tryz.results55 (RV.cell 3 O O aj) O O O O
 refine R.q (q.eX O O) O<|R.nil<|R.aC O O<|R.reg O<|R.u 1 O<|R.q (q.len' (bE 2 O) O Tryz.underlying159) O<|R.u 1 O<|R.nil<|R.loop (fun g_:Nat×Value×(List ak)=>[(1,.pointer (some ⟨b1,0,none⟩)),(2,.pointer (some ⟨b2,0,none⟩)),(62,vl),(63,iV (ls.length:Int)),(64,iV (g_.1:Int))]) (fun g_=>[ag.row 124 z4 (m.Held.filter (fun x => !(fun (h:Held)=>decide (cI m.ao h.ak<0)) x)),ag.row 89 vn ns,ag.row 3 vl ls,ag.row 100 z2 (m.Things.filter (fun x => !(fun (t:aF) => !decide (t.ID∈(bV m.ao))) x)),ag.box b3 [v1] 159,ag.row 3 v1 (bV m.ao),ag.box b2 Hb 48,ag.box b1 [g_.2.1,z2,z4,vn,iV m.ae,iV m.ah] 48,ag.held w own]) (fun g_=>[ag.ls g_.2.1 g_.2.2,ag.ls S9 m.ao,ag.ls Ux m.Things,ag.ls TU m.Held,ag.ls TV m.Notes,ag.ls bU r.ao,ag.ls bJ r.Things,ag.ls bK r.Held,ag.ls bL r.Notes]) (fun g_=>g_.1<=ls.length/\g_.2.2=(ls.take g_.1).foldl without m.ao) (fun g_=>ls.length-g_.1) (0,S9,m.ao) O (by exact ⟨by omega,rfl⟩) (sF O) (iz cj [0,0,1,2,3,4,5,6,7] O) ?_
 rintro ⟨j,vw,ws⟩ ⟨hj1,HW⟩
 dsimp only at *
 have hws:ws.length<=2000:=by rw [HW];exact Nat.le_trans (tf _ _) hok.wl
 refine R.reg O<|?_
 by_cases h6:j<ls.length
 .
  refine R.q (q.dD O O) O<|R.nil<|R.az O O<|R.reg O<|?_
  obtain ⟨x2,hx2⟩:∃z,ls[j]? = some z:=⟨_,List.getElem?_eq_getElem (by omega)⟩
  refine R.q (q.idx (i:=j) (bE 2 O) O O dc O hx2) O<|R.q (q.lw (bE 2 O) hx2 O au O) O<|R.u 1 O<|R.nil<|R.reg O<|R.q (q.aP O bq O) O<|R.q (q.ld 7 O O cb O) O<|R.u 1 O<|R.s O (s.vU Jn O O (fun w hw=>qf _ ws x2 w (hw.bN 0 O) (by omega)) O) fun v5=>?_
  refine R.q (q.aP O bq O) O<|R.s O (s.fR 8 _ O O O (fun w hw=>Sl.cq (hw.row 0 O)) (.inr ⟨cb,rfl⟩) (fun w hw=>(af (Sl.one (hw.row 0 O)) aO)) O O O) fun _=>?_
  refine R.nil<|R.reg O<|R.q (q.bC (r:=((j+1:Nat):Int)) O O) O<|R.u 1 O<|R.nil<|R.mp (fun _ hw=>hw.cX 0 _ O O)<|R.back (j+1,v5,(without ws x2)) O (by (exact ⟨by omega,by rw [List.take_add_one,hx2,HW];simp⟩)) (by dsimp only;omega) (sF O) (aD cj [0,2,3,4,5,6,7,8,9] O)
 refine R.q (q.cU O O) O<|R.nil<|R.aC O O<|R.mp (fun _ hw=>hw.cX 3 _ O O)<|R.mp (fun _ hw=>hw.cX 0 _ O O)<|R.mp (fun _ hw=>hw.cX 0 _ O O)<|R.back ((⟨ws,m.Things.filter (fun x => !(fun (t:aF) => !decide (t.ID∈(bV m.ao))) x),m.Held.filter (fun x => !(fun (h:Held)=>decide (cI m.ao h.ak<0)) x),ns,m.ae,m.ah⟩:aB),vw,z2,z4,vn) O (by (rw [List.take_of_length_le (by omega)] at HN HL;rw [List.take_of_length_le (by omega)] at HW;have hl:pg m=ls:=HL.symm;have e:nr m=(⟨ws,m.Things.filter (fun t => !!decide (t.ID∈bV m.ao)),m.Held.filter (fun h => !decide (cI m.ao h.ak<0)),ns,m.ae,m.ah⟩:aB):=(by unfold nr;rw [hl,<- HW];unfold fN;rw [<- HN]);exact Eq.mp (congrArg (fun q:aB=>Ok q/\dS q=dS r) e) ⟨hok.nr,(Dv (by rw [hl];assumption)).symm.trans HS⟩)) (by dsimp only;omega) (sF O) (aD [3,4,5] [3,2,1,0,8,9,10,11] O)
end
end Go.Proofs.YtkbhcbipadkcaaaGreatDoor
