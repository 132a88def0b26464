import Derived.Test.YtkbhcbipadkcaaaGreatDoorTS19
namespace Go.Proofs.YtkbhcbipadkcaaaGreatDoor
set_option linter.unusedVariables false
set_option linter.unusedSimpArgs false
set_option maxRecDepth 100000
set_option maxHeartbeats 90000000
section
open Go Go.RowKit
theorem jK (bT:Value)(l:List ak)(w:World)(own:List Nat)(H:HN w own [] [ag.ls bT l])(hl:l.length<=1000000):RC Tryz.prog 105 #[bT] H (fun z:Value=>z) (fun z=>[ag.row 127 z l]) (fun _=>[]):=by
 have AJ:=H.cq 0 rfl
 refine R.bF [(0,bT)] Tryz.func105 O O O O H<|R.reg O<|R.u 1 O<|R.nil<|R.reg O<|R.u 1 O<|?_
 rcases Bool.eq_false_or_eq_true (pb bT) with h1|h1
 .
  refine R.q (q.G7 (congrArg Value.bool h1) (q.oY (dh 0 O) O O Tryz.underlying43)) O<|R.nil<|R.az O O<|R.reg O<|R.u 1 O<|R.nil<|R.row0 (α:=ak) 127 ?_
  have hz:l=[]:=by (exact Sl.pb (H.bO 0 rfl) ‹_›)
  rw [hz]
  exact R.w1 (nS) [0,1] [] O Tryz.results105 (RV.tmp O) O O O O
 refine R.q (q.G7 (congrArg Value.bool h1) (q.oY (dh 0 O) O O Tryz.underlying43)) O<|R.nil<|R.aD O O<|R.reg O<|R.s O (s.bs (l:=([]:List ak)) eu bQ O O O O O O O) fun b1=>?_
 refine R.u 1 O<|R.s O (s.app 0 _ O O O (dh 0 O) lq (by simp;omega) (by simp;omega) (fun _=>rfl) O) fun v1=>?_
 refine R.u 1 O<|R.nil ?_
 have hz:l=(([])++l):=by (rfl)
 rw [hz]
 exact R.w1 v1 [0,1] [] O Tryz.results105 (RV.tmp O) O O O O
theorem ji (bT:Value)(l:List aE)(w:World)(own:List Nat)(H:HN w own [] [ag.ls bT l])(hl:l.length<=1000000):RC Tryz.prog 106 #[bT] H (fun z:Value=>z) (fun z=>[ag.row 100 z l]) (fun _=>[]):=by
 have AJ:=H.cq 0 rfl
 refine R.bF [(0,bT)] Tryz.func106 O O O O H<|R.reg O<|R.u 1 O<|R.nil<|R.reg O<|R.u 1 O<|?_
 rcases Bool.eq_false_or_eq_true (pb bT) with h1|h1
 .
  refine R.q (q.G7 (congrArg Value.bool h1) (q.oY (dh 0 O) O O Tryz.underlying44)) O<|R.nil<|R.az O O<|R.reg O<|R.u 1 O<|R.nil<|R.row0 (α:=aE) 100 ?_
  have hz:l=[]:=by (exact Sl.pb (H.bO 0 rfl) ‹_›)
  rw [hz]
  exact R.w1 (nS) [0,1] [] O Tryz.results106 (RV.tmp O) O O O O
 refine R.q (q.G7 (congrArg Value.bool h1) (q.oY (dh 0 O) O O Tryz.underlying44)) O<|R.nil<|R.aD O O<|R.reg O<|R.s O (s.bs (l:=([]:List aE)) kg jq O O O O O O O) fun b1=>?_
 refine R.u 1 O<|R.s O (s.app 0 _ O O O (dh 0 O) sM (by simp;omega) (by simp;omega) (fun _=>rfl) O) fun v1=>?_
 refine R.u 1 O<|R.nil ?_
 have hz:l=(([])++l):=by (rfl)
 rw [hz]
 exact R.w1 v1 [0,1] [] O Tryz.results106 (RV.tmp O) O O O O
theorem fc (bT:Value)(l:List Note)(w:World)(own:List Nat)(H:HN w own [] [ag.ls bT l])(hl:l.length<=1000000):RC Tryz.prog 108 #[bT] H (fun z:Value=>z) (fun z=>[ag.row 89 z l]) (fun _=>[]):=by
 have AJ:=H.cq 0 rfl
 refine R.bF [(0,bT)] Tryz.func108 O O O O H<|R.reg O<|R.u 1 O<|R.nil<|R.reg O<|R.u 1 O<|?_
 rcases Bool.eq_false_or_eq_true (pb bT) with h1|h1
 .
  refine R.q (q.G7 (congrArg Value.bool h1) (q.oY (dh 0 O) O O Tryz.underlying46)) O<|R.nil<|R.az O O<|R.reg O<|R.u 1 O<|R.nil<|R.row0 (α:=Note) 89 ?_
  have hz:l=[]:=by (exact Sl.pb (H.bO 0 rfl) ‹_›)
  rw [hz]
  exact R.w1 (nS) [0,1] [] O Tryz.results108 (RV.tmp O) O O O O
 refine R.q (q.G7 (congrArg Value.bool h1) (q.oY (dh 0 O) O O Tryz.underlying46)) O<|R.nil<|R.aD O O<|R.reg O<|R.s O (s.bs (l:=([]:List Note)) gJ eS O O O O O O O) fun b1=>?_
 refine R.u 1 O<|R.s O (s.app 0 _ O O O (dh 0 O) ki (by simp;omega) (by simp;omega) (fun _=>rfl) O) fun v1=>?_
 refine R.u 1 O<|R.nil ?_
 have hz:l=(([])++l):=by (rfl)
 rw [hz]
 exact R.w1 v1 [0,1] [] O Tryz.results108 (RV.tmp O) O O O O
theorem ql (bT:Value)(l:List Note)(i:Nat)(j:Nat)(w:World)(own:List Nat)(H:HN w own [ag.row 89 bT l] [])(hij:i<=j/\j<=l.length):RC Tryz.prog 129 #[bT,iV (i:Int),iV (j:Int)] H (fun z:Value=>z) (fun z=>[ag.row 89 z (l.take i++l.drop j)]) (fun _=>[]):=by
 have Ht:=H.cap 0 rfl;have AJ:=H.cE 0 rfl
 refine R.bF [(0,bT),(1,iV (i:Int)),(2,iV (j:Int))] Tryz.func129 O O O O H<|R.reg O<|R.u 1 O<|R.nil<|R.reg O<|R.u 4 O<|R.q (q.len' (bD 0 O) O Tryz.underlying46) O<|R.q (q.Er (i:=i) (j:=j) (q':=l.length) (bD 0 O) O O O O gJ O O O (by omega) (by omega) (by omega)) O<|R.nil<|R.reg O<|R.u 2 O<|?_
 by_cases h1:i=j
 .
  refine R.q (q.fI O O) O<|R.nil<|R.az O O<|R.reg O<|R.u 2 O<|R.nil ?_
  have hz:l.take i++l.drop j=l:=by (exact pQ (by omega))
  rw [hz]
  exact R.w1 bT [0,1] [] O Tryz.results129 (RV.tmp O) O O O O
 refine R.q (q.eU O O) O<|R.nil<|R.aD O O<|R.reg O<|R.u 1 O<|R.q (q.len' (bD 0 O) O Tryz.underlying46) O<|R.u 1 O<|R.nil<|R.fJ (fuel:=8) [1] O O mixed O<|D.q (i:=0) O (aA [1] [] O) O (q.mv O) O<|D.q (i:=1) O (aA [1] [] O) O (q.mv O) O<|D.q (i:=3) O (aA [1] [] O) O (q.mv O) O<|D.q (i:=4) O (aA [1] [] O) O (q.mv O) O<|D.two (i:=2) (j:=5) O O ?_ ?_
 .
  refine Do.s (s.c (Qt.a (q.kG (i:=i) (bD 0 O) O O Tryz.underlying46 F6 O (by omega))) O) (fun _=>(aA [1] [] O)) O fun _=>?_
  refine D.one (i:=5) O<|Do.s (s.c (Qt.a (q.dA (i:=j) (bD 0 O) O O gJ O (by omega))) O) (fun _=>(aA [1] [] O)) O fun _=>?_
  refine D.one (i:=6) O<|Do.s (s.tE (a:=i) 0 _ O O O (fun w hw=>Sl.from (hw.row 0 O) (by omega)) ki (by omega) (by simp;omega) O O) (fun _=>(aA [1] [] O)) O fun _=>?_
  refine D.q (i:=7) O (aA [1] [] O) O (q.as O) O<|D.done<|R.reg O<|R.u 2 O<|R.q (q.len' (bD 0 O) O Tryz.underlying46) O<|R.u 1 O<|R.q (q.sl2 (i:=(l.take i++(l.drop j)).length) (j:=l.length) (bD 0 O) O O O gJ O O (by (simp;omega)) (by (simp [fe];omega))) O<|R.s O (s.yY (lo:=(l.take i++(l.drop j)).length) (hi:=l.length) (z0:=(⟨0,⟨#[]⟩,0,0⟩:Note)) 0 O O gJ eS O (by omega) (by (simp;omega)) (by (simp [fe];omega))) fun _=>?_
  refine R.nil<|R.reg O<|R.u 2 O<|R.nil ?_
  have hz:l.take i++l.drop j=(l.take i++(l.drop j)):=by (rfl)
  rw [hz]
  exact R.w1 (kG bT (i+(l.drop j).length)) [0,1] [] O Tryz.results129 (RV.tmp O) O O O O
 refine Do.s (s.c (Qt.a (q.dA (i:=j) (bD 0 O) O O gJ O (by omega))) O) (fun _=>(aA [1] [] O)) O fun _=>?_
 refine D.one (i:=2) O<|Do.s (s.c (Qt.a (q.kG (i:=i) (bD 0 O) O O Tryz.underlying46 F6 O (by omega))) O) (fun _=>(aA [1] [] O)) O fun _=>?_
 refine D.one (i:=6) O<|Do.s (s.tE (a:=i) 0 _ O O O (fun w hw=>Sl.from (hw.row 0 O) (by omega)) ki (by omega) (by simp;omega) O O) (fun _=>(aA [1] [] O)) O fun _=>?_
 refine D.q (i:=7) O (aA [1] [] O) O (q.as O) O<|D.done<|R.reg O<|R.u 2 O<|R.q (q.len' (bD 0 O) O Tryz.underlying46) O<|R.u 1 O<|R.q (q.sl2 (i:=(l.take i++(l.drop j)).length) (j:=l.length) (bD 0 O) O O O gJ O O (by (simp;omega)) (by (simp [fe];omega))) O<|R.s O (s.yY (lo:=(l.take i++(l.drop j)).length) (hi:=l.length) (z0:=(⟨0,⟨#[]⟩,0,0⟩:Note)) 0 O O gJ eS O (by omega) (by (simp;omega)) (by (simp [fe];omega))) fun _=>?_
 refine R.nil<|R.reg O<|R.u 2 O<|R.nil ?_
 have hz:l.take i++l.drop j=(l.take i++(l.drop j)):=by (rfl)
 rw [hz]
 exact R.w1 (kG bT (i+(l.drop j).length)) [0,1] [] O Tryz.results129 (RV.tmp O) O O O O
theorem iu (bT:Value)(l:List aE)(pr:aE->Bool)(hZ:Nat)(kD:List Value)(jj:∀args w,(callFunc hZ args).run Tryz.prog w = .ok (.enter hZ args) w)(w:World)(eA:Sl w bT l)(mC:∀W (x1:aE),Ext w W->Calls Tryz.prog hZ ([x1.val]++kD).toArray W fun e w'=>e = .returned (.bool (pr x1))/\Ext W w'):Calls Tryz.prog 166 #[bT,.func (.func hZ) #[] kD.toArray] w fun e w'=>e = .returned (iV (idxOf pr l))/\Ext w w':=by
 have zm:=eA.gW
 refine R.enter [] [(0,bT),(1,.func (.func hZ) #[] kD.toArray)] Tryz.func166 O O O O<|R.reg O<|R.u 1 O<|R.nil<|R.reg O<|R.u 1 O<|R.q (q.len' (fun _=>Wd.old eA) O Tryz.underlying44) O<|R.u 1 O<|R.nil<|R.loop (fun k:Nat=>[(0,bT),(1,.func (.func hZ) #[] kD.toArray),(7,iV (l.length:Int)),(8,iV (k:Int))]) (fun k:Nat=>[]) (fun k:Nat=>[]) (fun k:Nat=>k<=l.length /\ ∀ (j:Nat) x,j<k->l[j]? = some x->pr x=false) (fun k:Nat=>l.length-k) 0 O (by exact ⟨by omega,fun j x hj=>absurd hj (Nat.not_lt_zero _)⟩) (sF O) (iz [] [] O) ?_
 rintro k ⟨hk,HA⟩
 refine R.reg O<|?_
 by_cases h1:k<l.length
 .
  refine R.q (q.dC O O) O<|R.nil<|R.az O O<|R.reg O<|R.u 2 O<|R.nil<|R.reg O<|R.u 3 O<|?_
  obtain ⟨x1,hx1⟩:∃z,l[k]? = some z:=⟨_,List.getElem?_eq_getElem (by omega)⟩
  refine R.q (q.idx (i:=k) (fun _=>Wd.old eA) O O kg O hx1) O<|R.q (q.gh (ds:=vt x1) (fun _=>Wd.old eA) hx1 O jE O) O<|?_
  rcases Bool.eq_false_or_eq_true (pr x1) with h2|h2
  .
   refine R.c (q.call jj O O (fun w hw=>cv (congrArg Value.bool h2) (mC w x1 hw.ext))) O<|R.nil ?_
   exact R.az O O<|R.reg O<|R.u 2 O<|R.nil<|R.rv O Tryz.results166 O (rI (by (exact (idxOf_hit hx1 ‹_› HA).symm)))
  refine R.c (q.call jj O O (fun w hw=>cv (congrArg Value.bool h2) (mC w x1 hw.ext))) O<|R.nil ?_
  refine R.aD O O<|R.reg O<|R.q (q.bA (r:=((k+1:Nat):Int)) O O) O<|R.u 1 O<|R.nil<|R.back (k+1) O (by (exact ⟨by omega,nU HA hx1 ‹_›⟩)) (by omega) (sF O) (iz [] [] O)
 exact R.q (q.cS O O) O<|R.nil<|R.aD O O<|R.reg O<|R.u 1 O<|R.nil<|R.rv O Tryz.results166 O (rI (by (exact (idxOf_miss ‹_› HA).symm)))
theorem m4 (bT:Value)(l:List Note)(pr:Note->Bool)(hZ:Nat)(kD:List Value)(jj:∀args w,(callFunc hZ args).run Tryz.prog w = .ok (.enter hZ args) w)(w:World)(eA:Sl w bT l)(mC:∀W (x1:Note),Ext w W->Calls Tryz.prog hZ ([x1.val]++kD).toArray W fun e w'=>e = .returned (.bool (pr x1))/\Ext W w'):Calls Tryz.prog 126 #[bT,.func (.func hZ) #[] kD.toArray] w fun e w'=>e = .returned (iV (idxOf pr l))/\Ext w w':=by
 have zm:=eA.gW
 refine R.enter [] [(0,bT),(1,.func (.func hZ) #[] kD.toArray)] Tryz.func126 O O O O<|R.reg O<|R.u 1 O<|R.nil<|R.reg O<|R.u 1 O<|R.q (q.len' (fun _=>Wd.old eA) O Tryz.underlying46) O<|R.u 1 O<|R.nil<|R.loop (fun k:Nat=>[(0,bT),(1,.func (.func hZ) #[] kD.toArray),(7,iV (l.length:Int)),(8,iV (k:Int))]) (fun k:Nat=>[]) (fun k:Nat=>[]) (fun k:Nat=>k<=l.length /\ ∀ (j:Nat) x,j<k->l[j]? = some x->pr x=false) (fun k:Nat=>l.length-k) 0 O (by exact ⟨by omega,fun j x hj=>absurd hj (Nat.not_lt_zero _)⟩) (sF O) (iz [] [] O) ?_
 rintro k ⟨hk,HA⟩
 refine R.reg O<|?_
 by_cases h1:k<l.length
 .
  refine R.q (q.dC O O) O<|R.nil<|R.az O O<|R.reg O<|R.u 2 O<|R.nil<|R.reg O<|R.u 3 O<|?_
  obtain ⟨x1,hx1⟩:∃z,l[k]? = some z:=⟨_,List.getElem?_eq_getElem (by omega)⟩
  refine R.q (q.idx (i:=k) (fun _=>Wd.old eA) O O gJ O hx1) O<|R.q (q.gh (ds:=vO x1) (fun _=>Wd.old eA) hx1 O dG O) O<|?_
  rcases Bool.eq_false_or_eq_true (pr x1) with h2|h2
  .
   refine R.c (q.call jj O O (fun w hw=>cv (congrArg Value.bool h2) (mC w x1 hw.ext))) O<|R.nil ?_
   exact R.az O O<|R.reg O<|R.u 2 O<|R.nil<|R.rv O Tryz.results126 O (rI (by (exact (idxOf_hit hx1 ‹_› HA).symm)))
  refine R.c (q.call jj O O (fun w hw=>cv (congrArg Value.bool h2) (mC w x1 hw.ext))) O<|R.nil ?_
  refine R.aD O O<|R.reg O<|R.q (q.bA (r:=((k+1:Nat):Int)) O O) O<|R.u 1 O<|R.nil<|R.back (k+1) O (by (exact ⟨by omega,nU HA hx1 ‹_›⟩)) (by omega) (sF O) (iz [] [] O)
 exact R.q (q.cS O O) O<|R.nil<|R.aD O O<|R.reg O<|R.u 1 O<|R.nil<|R.rv O Tryz.results126 O (rI (by (exact (idxOf_miss ‹_› HA).symm)))
theorem m5 (bT:Value)(l:List Held)(pr:Held->Bool)(hZ:Nat)(kD:List Value)(jj:∀args w,(callFunc hZ args).run Tryz.prog w = .ok (.enter hZ args) w)(w:World)(eA:Sl w bT l)(mC:∀W (x1:Held),Ext w W->Calls Tryz.prog hZ ([x1.val]++kD).toArray W fun e w'=>e = .returned (.bool (pr x1))/\Ext W w'):Calls Tryz.prog 168 #[bT,.func (.func hZ) #[] kD.toArray] w fun e w'=>e = .returned (iV (idxOf pr l))/\Ext w w':=by
 have zm:=eA.gW
 refine R.enter [] [(0,bT),(1,.func (.func hZ) #[] kD.toArray)] Tryz.func168 O O O O<|R.reg O<|R.u 1 O<|R.nil<|R.reg O<|R.u 1 O<|R.q (q.len' (fun _=>Wd.old eA) O Tryz.underlying45) O<|R.u 1 O<|R.nil<|R.loop (fun k:Nat=>[(0,bT),(1,.func (.func hZ) #[] kD.toArray),(7,iV (l.length:Int)),(8,iV (k:Int))]) (fun k:Nat=>[]) (fun k:Nat=>[]) (fun k:Nat=>k<=l.length /\ ∀ (j:Nat) x,j<k->l[j]? = some x->pr x=false) (fun k:Nat=>l.length-k) 0 O (by exact ⟨by omega,fun j x hj=>absurd hj (Nat.not_lt_zero _)⟩) (sF O) (iz [] [] O) ?_
 rintro k ⟨hk,HA⟩
 refine R.reg O<|?_
 by_cases h1:k<l.length
 .
  refine R.q (q.dC O O) O<|R.nil<|R.az O O<|R.reg O<|R.u 2 O<|R.nil<|R.reg O<|R.u 3 O<|?_
  obtain ⟨x1,hx1⟩:∃z,l[k]? = some z:=⟨_,List.getElem?_eq_getElem (by omega)⟩
  refine R.q (q.idx (i:=k) (fun _=>Wd.old eA) O O cK O hx1) O<|R.q (q.gh (ds:=pE x1) (fun _=>Wd.old eA) hx1 O gy O) O<|?_
  rcases Bool.eq_false_or_eq_true (pr x1) with h2|h2
  .
   refine R.c (q.call jj O O (fun w hw=>cv (congrArg Value.bool h2) (mC w x1 hw.ext))) O<|R.nil ?_
   exact R.az O O<|R.reg O<|R.u 2 O<|R.nil<|R.rv O Tryz.results168 O (rI (by (exact (idxOf_hit hx1 ‹_› HA).symm)))
  refine R.c (q.call jj O O (fun w hw=>cv (congrArg Value.bool h2) (mC w x1 hw.ext))) O<|R.nil ?_
  refine R.aD O O<|R.reg O<|R.q (q.bA (r:=((k+1:Nat):Int)) O O) O<|R.u 1 O<|R.nil<|R.back (k+1) O (by (exact ⟨by omega,nU HA hx1 ‹_›⟩)) (by omega) (sF O) (iz [] [] O)
 exact R.q (q.cS O O) O<|R.nil<|R.aD O O<|R.reg O<|R.u 1 O<|R.nil<|R.rv O Tryz.results168 O (rI (by (exact (idxOf_miss ‹_› HA).symm)))
theorem ua (bT:Value)(l:List aE)(pr:aE->Bool)(hZ:Nat)(kD:List Value)(jj:∀args w,(callFunc hZ args).run Tryz.prog w = .ok (.enter hZ args) w)(w:World)(own:List Nat)(H:HN w own [ag.row 100 bT l] [])(mC:∀W (x1:aE),lR (blks [ag.row 100 bT l]) w W->Calls Tryz.prog hZ ([x1.val]++kD).toArray W fun e w'=>e = .returned (.bool (pr x1))/\Ext W w')(hl:l.length<=1000000):RC Tryz.prog 111 #[bT,.func (.func hZ) #[] kD.toArray] H (fun z:Value=>z) (fun z=>[ag.row 100 z (l.filter (fun x => !pr x))]) (fun _=>[]):=by
 have Ht:=H.cap 0 rfl;have AJ:=H.cE 0 rfl
 refine R.bF [(0,bT),(1,.func (.func hZ) #[] kD.toArray)] Tryz.func111 O O O O H<|R.reg O<|R.u 1 O<|R.nil<|R.reg O<|R.u 2 O<|?_
 rcases j5 pr l with ⟨gS,Eu⟩ | ⟨rj,Es,gS,lU,ve,AR,TQ⟩
 .
  refine R.c (q.call AA O O (fun w hw=>(cv (congrArg (Value.int .i64) gS) (iu _ l pr _ _ jj w (hw.row 0 O) (fun W x1 hW=>mC W x1 ((hw.u6 1 O).trans ((Ext.upd hW).mono (by simp)))) )))) O<|R.u 1 O<|R.nil ?_
  refine R.reg O<|R.u 1 O<|R.q (q.eql (b:=true) O O (by decide)) O<|R.nil<|R.az O O<|R.reg O<|R.u 2 O<|R.nil ?_
  have hz:l.filter (fun x => !pr x)=l:=by (exact xC Eu)
  rw [hz]
  exact R.w1 bT [0,1] [] O Tryz.results111 (RV.tmp O) O O O O
 refine R.c (q.call AA O O (fun w hw=>(cv (congrArg (Value.int .i64) gS) (iu _ l pr _ _ jj w (hw.row 0 O) (fun W x1 hW=>mC W x1 ((hw.u6 1 O).trans ((Ext.upd hW).mono (by simp)))) )))) O<|R.u 1 O<|R.nil ?_
 refine R.reg O<|R.u 1 O<|R.q (q.eU O O) O<|R.nil<|R.aD O O<|R.reg O<|R.u 1 O<|R.q (q.bA (r:=((rj+1:Nat):Int)) O O) O<|R.u 1 O<|R.nil<|R.loop (fun g_:Nat×Nat×(List aE)=>[(0,bT),(1,.func (.func hZ) #[] kD.toArray),(5,iV (g_.1:Int)),(6,iV (g_.2.1:Int))]) (fun g_=>[ag.row 100 bT g_.2.2,ag.held w own]) (fun g_=>[]) (fun g_=>pg pr l g_.2.2 g_.1 g_.2.1) (fun g_=>l.length-g_.2.1) (rj,(rj+1),l) O (by exact pg.start lU ve AR) (sF O) (iz [0,1] [] O) ?_
 rintro ⟨a,b,acc⟩ HA
 dsimp only at *
 have t1:=HA.1;have t2:=HA.2.1;have t3:=HA.2.2.1
 refine R.reg O<|R.u 2 O<|R.q (q.len' (bD 0 O) O Tryz.underlying44) O<|?_
 by_cases h1:b<acc.length
 .
  refine R.q (q.dC O O) O<|R.nil<|R.az O O<|R.reg O<|R.u 2 O<|?_
  obtain ⟨x1,hx1⟩:∃z,acc[b]? = some z:=⟨_,List.getElem?_eq_getElem (by omega)⟩
  refine R.q (q.idx (i:=b) (bD 0 O) O O kg O hx1) O<|R.q (q.gh (ds:=vt x1) (bD 0 O) hx1 O jE O) O<|R.s O (s.alloc jq O O) fun b1=>?_
  refine R.s O (s.st 0 _ O O O O (.inl jE) O O O O) fun _=>?_
  refine R.nil<|R.reg O<|R.u 1 O<|R.q (q.cT 0 O O jE) O<|?_
  rcases Bool.eq_false_or_eq_true (pr x1) with h2|h2
  .
   refine R.c (q.call jj O O (fun w hw=>cv (congrArg Value.bool h2) (mC w x1 (hw.u6 2 O)))) O<|R.u 1 O<|R.nil ?_
   refine R.aD O O<|R.reg O<|R.u 1 O<|R.q (q.bA (r:=((b+1:Nat):Int)) O O) O<|R.u 1 O<|R.nil<|R.back (a,(b+1),acc) O (by (exact HA.skip hx1 ‹_›)) (by dsimp only;omega) (sF O) (aA [1,2] [] O)
  refine R.c (q.call jj O O (fun w hw=>cv (congrArg Value.bool h2) (mC w x1 (hw.u6 2 O)))) O<|R.u 1 O<|R.nil ?_
  refine R.az O O<|R.reg O<|R.u 2 O<|R.q (q.cT 0 O O jE) O<|?_
  obtain ⟨x2,hx2⟩:∃z,acc[a]? = some z:=⟨_,List.getElem?_eq_getElem (by omega)⟩
  refine R.q (q.idx (i:=a) (bD 1 O) O O kg O hx2) O<|R.s O (s.OJ (z:=x1) 1 _ O hx2 O O O O (.inl jE) O) fun _=>?_
  refine R.nil<|R.reg O<|R.u 1 O<|R.q (q.bA (r:=((a+1:Nat):Int)) O O) O<|R.u 1 O<|R.nil<|R.reg O<|R.u 1 O<|R.q (q.bA (r:=((b+1:Nat):Int)) O O) O<|R.u 1 O<|R.nil<|R.back ((a+1),(b+1),(acc.set a x1)) O (by (exact HA.keep hx1 ‹_›)) (by dsimp only;omega) (sF O) (aA [1,2] [] O)
 refine R.q (q.cS O O) O<|R.nil<|R.aD O O<|R.reg O<|R.u 2 O<|R.q (q.dA (i:=a) (bD 0 O) O O kg O (by omega)) O<|R.s O (s.OL (lo:=a) (z0:=(⟨0,0,⟨#[]⟩⟩:aE)) 0 _ O O kg jq O (by omega) O) fun _=>?_
 refine R.nil<|R.reg O<|R.u 2 O<|R.q (q.kG (i:=a) (bD 0 O) O O Tryz.underlying44 L6 O (by (simp;omega))) O<|R.u 1 O<|R.nil<|R.IZ 0 a _ O (by (simp;omega)) O ?_
 have hz:l.filter (fun x => !pr x)=((acc.take a++List.replicate (acc.length-a) (⟨0,0,⟨#[]⟩⟩:aE)).take a):=by (exact HA.done (by omega))
 rw [hz]
 exact R.w1 (kG bT a) [0,1] [] O Tryz.results111 (RV.tmp O) O O O O
theorem vo (bT:Value)(l:List Held)(pr:Held->Bool)(hZ:Nat)(kD:List Value)(jj:∀args w,(callFunc hZ args).run Tryz.prog w = .ok (.enter hZ args) w)(w:World)(own:List Nat)(H:HN w own [ag.row 124 bT l] [])(mC:∀W (x1:Held),lR (blks [ag.row 124 bT l]) w W->Calls Tryz.prog hZ ([x1.val]++kD).toArray W fun e w'=>e = .returned (.bool (pr x1))/\Ext W w')(hl:l.length<=1000000):RC Tryz.prog 114 #[bT,.func (.func hZ) #[] kD.toArray] H (fun z:Value=>z) (fun z=>[ag.row 124 z (l.filter (fun x => !pr x))]) (fun _=>[]):=by
 have Ht:=H.cap 0 rfl;have AJ:=H.cE 0 rfl
 refine R.bF [(0,bT),(1,.func (.func hZ) #[] kD.toArray)] Tryz.func114 O O O O H<|R.reg O<|R.u 1 O<|R.nil<|R.reg O<|R.u 2 O<|?_
 rcases j5 pr l with ⟨gS,Eu⟩ | ⟨rj,Es,gS,lU,ve,AR,TQ⟩
 .
  refine R.c (q.call Jr O O (fun w hw=>(cv (congrArg (Value.int .i64) gS) (m5 _ l pr _ _ jj w (hw.row 0 O) (fun W x1 hW=>mC W x1 ((hw.u6 1 O).trans ((Ext.upd hW).mono (by simp)))) )))) O<|R.u 1 O<|R.nil ?_
  refine R.reg O<|R.u 1 O<|R.q (q.eql (b:=true) O O (by decide)) O<|R.nil<|R.az O O<|R.reg O<|R.u 2 O<|R.nil ?_
  have hz:l.filter (fun x => !pr x)=l:=by (exact xC Eu)
  rw [hz]
  exact R.w1 bT [0,1] [] O Tryz.results114 (RV.tmp O) O O O O
 refine R.c (q.call Jr O O (fun w hw=>(cv (congrArg (Value.int .i64) gS) (m5 _ l pr _ _ jj w (hw.row 0 O) (fun W x1 hW=>mC W x1 ((hw.u6 1 O).trans ((Ext.upd hW).mono (by simp)))) )))) O<|R.u 1 O<|R.nil ?_
 refine R.reg O<|R.u 1 O<|R.q (q.eU O O) O<|R.nil<|R.aD O O<|R.reg O<|R.u 1 O<|R.q (q.bA (r:=((rj+1:Nat):Int)) O O) O<|R.u 1 O<|R.nil<|R.loop (fun g_:Nat×Nat×(List Held)=>[(0,bT),(1,.func (.func hZ) #[] kD.toArray),(5,iV (g_.1:Int)),(6,iV (g_.2.1:Int))]) (fun g_=>[ag.row 124 bT g_.2.2,ag.held w own]) (fun g_=>[]) (fun g_=>pg pr l g_.2.2 g_.1 g_.2.1) (fun g_=>l.length-g_.2.1) (rj,(rj+1),l) O (by exact pg.start lU ve AR) (sF O) (iz [0,1] [] O) ?_
 rintro ⟨a,b,acc⟩ HA
 dsimp only at *
 have t1:=HA.1;have t2:=HA.2.1;have t3:=HA.2.2.1
 refine R.reg O<|R.u 2 O<|R.q (q.len' (bD 0 O) O Tryz.underlying45) O<|?_
 by_cases h1:b<acc.length
 .
  refine R.q (q.dC O O) O<|R.nil<|R.az O O<|R.reg O<|R.u 2 O<|?_
  obtain ⟨x1,hx1⟩:∃z,acc[b]? = some z:=⟨_,List.getElem?_eq_getElem (by omega)⟩
  refine R.q (q.idx (i:=b) (bD 0 O) O O cK O hx1) O<|R.q (q.gh (ds:=pE x1) (bD 0 O) hx1 O gy O) O<|R.s O (s.alloc gX O O) fun b1=>?_
  refine R.s O (s.st 0 _ O O O O (.inl gy) O O O O) fun _=>?_
  refine R.nil<|R.reg O<|R.u 1 O<|R.q (q.cT 0 O O gy) O<|?_
  rcases Bool.eq_false_or_eq_true (pr x1) with h2|h2
  .
   refine R.c (q.call jj O O (fun w hw=>cv (congrArg Value.bool h2) (mC w x1 (hw.u6 2 O)))) O<|R.u 1 O<|R.nil ?_
   refine R.aD O O<|R.reg O<|R.u 1 O<|R.q (q.bA (r:=((b+1:Nat):Int)) O O) O<|R.u 1 O<|R.nil<|R.back (a,(b+1),acc) O (by (exact HA.skip hx1 ‹_›)) (by dsimp only;omega) (sF O) (aA [1,2] [] O)
  refine R.c (q.call jj O O (fun w hw=>cv (congrArg Value.bool h2) (mC w x1 (hw.u6 2 O)))) O<|R.u 1 O<|R.nil ?_
  refine R.az O O<|R.reg O<|R.u 2 O<|R.q (q.cT 0 O O gy) O<|?_
  obtain ⟨x2,hx2⟩:∃z,acc[a]? = some z:=⟨_,List.getElem?_eq_getElem (by omega)⟩
  refine R.q (q.idx (i:=a) (bD 1 O) O O cK O hx2) O<|R.s O (s.OJ (z:=x1) 1 _ O hx2 O O O O (.inl gy) O) fun _=>?_
  refine R.nil<|R.reg O<|R.u 1 O<|R.q (q.bA (r:=((a+1:Nat):Int)) O O) O<|R.u 1 O<|R.nil<|R.reg O<|R.u 1 O<|R.q (q.bA (r:=((b+1:Nat):Int)) O O) O<|R.u 1 O<|R.nil<|R.back ((a+1),(b+1),(acc.set a x1)) O (by (exact HA.keep hx1 ‹_›)) (by dsimp only;omega) (sF O) (aA [1,2] [] O)
 refine R.q (q.cS O O) O<|R.nil<|R.aD O O<|R.reg O<|R.u 2 O<|R.q (q.dA (i:=a) (bD 0 O) O O cK O (by omega)) O<|R.s O (s.OL (lo:=a) (z0:=(⟨(⟨0,0⟩:Place),0⟩:Held)) 0 _ O O cK gX O (by omega) O) fun _=>?_
 refine R.nil<|R.reg O<|R.u 2 O<|R.q (q.kG (i:=a) (bD 0 O) O O Tryz.underlying45 vy O (by (simp;omega))) O<|R.u 1 O<|R.nil<|R.IZ 0 a _ O (by (simp;omega)) O ?_
 have hz:l.filter (fun x => !pr x)=((acc.take a++List.replicate (acc.length-a) (⟨(⟨0,0⟩:Place),0⟩:Held)).take a):=by (exact HA.done (by omega))
 rw [hz]
 exact R.w1 (kG bT a) [0,1] [] O Tryz.results114 (RV.tmp O) O O O O
theorem vp (bT:Value)(l:List ak)(pr:ak->Bool)(hZ:Nat)(kD:List Value)(jj:∀args w,(callFunc hZ args).run Tryz.prog w = .ok (.enter hZ args) w)(w:World)(own:List Nat)(H:HN w own [ag.row 127 bT l] [])(mC:∀W (x1:ak),lR (blks [ag.row 127 bT l]) w W->Calls Tryz.prog hZ ([x1.val]++kD).toArray W fun e w'=>e = .returned (.bool (pr x1))/\Ext W w')(hl:l.length<=1000000):RC Tryz.prog 123 #[bT,.func (.func hZ) #[] kD.toArray] H (fun z:Value=>z) (fun z=>[ag.row 127 z (l.filter (fun x => !pr x))]) (fun _=>[]):=by
 have Ht:=H.cap 0 rfl;have AJ:=H.cE 0 rfl
 refine R.bF [(0,bT),(1,.func (.func hZ) #[] kD.toArray)] Tryz.func123 O O O O H<|R.reg O<|R.u 1 O<|R.nil<|R.reg O<|R.u 2 O<|?_
 rcases j5 pr l with ⟨gS,Eu⟩ | ⟨rj,Es,gS,lU,ve,AR,TQ⟩
 .
  refine R.c (q.call EF O O (fun w hw=>(cv (congrArg (Value.int .i64) gS) (mB _ l pr _ _ jj w (hw.row 0 O) (fun W x1 hW=>mC W x1 ((hw.u6 1 O).trans ((Ext.upd hW).mono (by simp)))) )))) O<|R.u 1 O<|R.nil ?_
  refine R.reg O<|R.u 1 O<|R.q (q.eql (b:=true) O O (by decide)) O<|R.nil<|R.az O O<|R.reg O<|R.u 2 O<|R.nil ?_
  have hz:l.filter (fun x => !pr x)=l:=by (exact xC Eu)
  rw [hz]
  exact R.w1 bT [0,1] [] O Tryz.results123 (RV.tmp O) O O O O
 refine R.c (q.call EF O O (fun w hw=>(cv (congrArg (Value.int .i64) gS) (mB _ l pr _ _ jj w (hw.row 0 O) (fun W x1 hW=>mC W x1 ((hw.u6 1 O).trans ((Ext.upd hW).mono (by simp)))) )))) O<|R.u 1 O<|R.nil ?_
 refine R.reg O<|R.u 1 O<|R.q (q.eU O O) O<|R.nil<|R.aD O O<|R.reg O<|R.u 1 O<|R.q (q.bA (r:=((rj+1:Nat):Int)) O O) O<|R.u 1 O<|R.nil<|R.loop (fun g_:Nat×Nat×(List ak)=>[(0,bT),(1,.func (.func hZ) #[] kD.toArray),(5,iV (g_.1:Int)),(6,iV (g_.2.1:Int))]) (fun g_=>[ag.row 127 bT g_.2.2,ag.held w own]) (fun g_=>[]) (fun g_=>pg pr l g_.2.2 g_.1 g_.2.1) (fun g_=>l.length-g_.2.1) (rj,(rj+1),l) O (by exact pg.start lU ve AR) (sF O) (iz [0,1] [] O) ?_
 rintro ⟨a,b,acc⟩ HA
 dsimp only at *
 have t1:=HA.1;have t2:=HA.2.1;have t3:=HA.2.2.1
 refine R.reg O<|R.u 2 O<|R.q (q.len' (bD 0 O) O Tryz.underlying43) O<|?_
 by_cases h1:b<acc.length
 .
  refine R.q (q.dC O O) O<|R.nil<|R.az O O<|R.reg O<|R.u 2 O<|?_
  obtain ⟨x1,hx1⟩:∃z,acc[b]? = some z:=⟨_,List.getElem?_eq_getElem (by omega)⟩
  refine R.q (q.idx (i:=b) (bD 0 O) O O eu O hx1) O<|R.q (q.gh (ds:=jP x1) (bD 0 O) hx1 O aN O) O<|R.s O (s.alloc bQ O O) fun b1=>?_
  refine R.s O (s.st 0 _ O O O O (.inl aN) O O O O) fun _=>?_
  refine R.nil<|R.reg O<|R.u 1 O<|R.q (q.cT 0 O O aN) O<|?_
  rcases Bool.eq_false_or_eq_true (pr x1) with h2|h2
  .
   refine R.c (q.call jj O O (fun w hw=>cv (congrArg Value.bool h2) (mC w x1 (hw.u6 2 O)))) O<|R.u 1 O<|R.nil ?_
   refine R.aD O O<|R.reg O<|R.u 1 O<|R.q (q.bA (r:=((b+1:Nat):Int)) O O) O<|R.u 1 O<|R.nil<|R.back (a,(b+1),acc) O (by (exact HA.skip hx1 ‹_›)) (by dsimp only;omega) (sF O) (aA [1,2] [] O)
  refine R.c (q.call jj O O (fun w hw=>cv (congrArg Value.bool h2) (mC w x1 (hw.u6 2 O)))) O<|R.u 1 O<|R.nil ?_
  refine R.az O O<|R.reg O<|R.u 2 O<|R.q (q.cT 0 O O aN) O<|?_
  obtain ⟨x2,hx2⟩:∃z,acc[a]? = some z:=⟨_,List.getElem?_eq_getElem (by omega)⟩
  refine R.q (q.idx (i:=a) (bD 1 O) O O eu O hx2) O<|R.s O (s.OJ (z:=x1) 1 _ O hx2 O O O O (.inl aN) O) fun _=>?_
  refine R.nil<|R.reg O<|R.u 1 O<|R.q (q.bA (r:=((a+1:Nat):Int)) O O) O<|R.u 1 O<|R.nil<|R.reg O<|R.u 1 O<|R.q (q.bA (r:=((b+1:Nat):Int)) O O) O<|R.u 1 O<|R.nil<|R.back ((a+1),(b+1),(acc.set a x1)) O (by (exact HA.keep hx1 ‹_›)) (by dsimp only;omega) (sF O) (aA [1,2] [] O)
 refine R.q (q.cS O O) O<|R.nil<|R.aD O O<|R.reg O<|R.u 2 O<|R.q (q.dA (i:=a) (bD 0 O) O O eu O (by omega)) O<|R.s O (s.OL (lo:=a) (z0:=(⟨0,0,0,0,0⟩:ak)) 0 _ O O eu bQ O (by omega) O) fun _=>?_
 refine R.nil<|R.reg O<|R.u 2 O<|R.q (q.kG (i:=a) (bD 0 O) O O Tryz.underlying43 Av O (by (simp;omega))) O<|R.u 1 O<|R.nil<|R.IZ 0 a _ O (by (simp;omega)) O ?_
 have hz:l.filter (fun x => !pr x)=((acc.take a++List.replicate (acc.length-a) (⟨0,0,0,0,0⟩:ak)).take a):=by (exact HA.done (by omega))
 rw [hz]
 exact R.w1 (kG bT a) [0,1] [] O Tryz.results123 (RV.tmp O) O O O O
theorem uK (bT:Value)(l:List ak)(w:World)(eA:Sl w bT l)(hl:l.length<=1000000):Calls Tryz.prog 110 #[bT] w fun e w' => ∃u,e = .returned u/\Own w.heap.size 3 w' u (bV l)/\Ext w w':=Fc bT l w eA hl
theorem Ff (bT:Value)(l:List Int)(x:Int)(w:World)(eA:Sl w bT l):Calls Tryz.prog 167 #[bT,iV x] w fun e w'=>e = .returned (iV (idxOf (fun y=>y==x) l))/\Ext w w':=by
 have zm:=eA.gW
 refine R.enter [] [(0,bT),(1,iV x)] Tryz.func167 O O O O<|R.reg O<|R.u 1 O<|R.nil<|R.reg O<|R.u 1 O<|R.q (q.len' (fun _=>Wd.old eA) O Tryz.underlying159) O<|R.u 1 O<|R.nil<|R.loop (fun k:Nat=>[(0,bT),(1,iV x),(7,iV (l.length:Int)),(8,iV (k:Int))]) (fun k:Nat=>[]) (fun k:Nat=>[]) (fun k:Nat=>k<=l.length /\ ∀ (j:Nat) y,j<k->l[j]? = some y->(y==x)=false) (fun k:Nat=>l.length-k) 0 O (by exact ⟨by omega,fun j x hj=>absurd hj (Nat.not_lt_zero _)⟩) (sF O) (iz [] [] O) ?_
 rintro k ⟨hk,HA⟩
 refine R.reg O<|?_
 by_cases h1:k<l.length
 .
  refine R.q (q.dC O O) O<|R.nil<|R.az O O<|R.reg O<|R.u 2 O<|R.nil<|R.reg O<|R.u 3 O<|?_
  obtain ⟨x1,hx1⟩:∃z,l[k]? = some z:=⟨_,List.getElem?_eq_getElem (by omega)⟩
  refine R.q (q.idx (i:=k) (fun _=>Wd.old eA) O O da O hx1) O<|R.q (q.ln (fun _=>Wd.old eA) hx1 O ap O) O<|?_
  by_cases h2:x=x1
  .
   exact R.q (q.fI O O) O<|R.nil<|R.az O O<|R.reg O<|R.u 2 O<|R.nil<|R.rv O Tryz.results167 O (rI (by (exact (idxOf_hit (p:=fun y=>y==x) hx1 (beq_iff_eq.2 (by omega)) HA).symm)))
  refine R.q (q.eU O O) O<|R.nil<|R.aD O O<|R.reg O<|R.q (q.bA (r:=((k+1:Nat):Int)) O O) O<|R.u 1 O<|R.nil<|R.back (k+1) O (by (exact ⟨by omega,nU (p:=fun y=>y==x) HA hx1 (beq_eq_false_iff_ne.2 (by omega))⟩)) (by omega) (sF O) (iz [] [] O)
 exact R.q (q.cS O O) O<|R.nil<|R.aD O O<|R.reg O<|R.u 1 O<|R.nil<|R.rv O Tryz.results167 O (rI (by (exact (idxOf_miss ‹_› HA).symm)))
theorem GA {l:List Int}{x:Int}:(0<=idxOf (fun y=>y==x) l)=(x∈l):=by
 rcases j5 (fun y:Int=>y==x) l with ⟨h,hn⟩ | ⟨k,y,h,hy,he,_,_⟩
 .rw [h];simp;intro hm;have:=hn x hm;simp at this
 .
  rw [h];simp
  have:y=x:=by simpa using he
  subst this;exact List.mem_of_getElem? hy
theorem fQ (bT:Value)(l:List Int)(x:Int)(w:World)(eA:Sl w bT l):Calls Tryz.prog 113 #[bT,iV x] w fun e w'=>e = .returned (.bool (decide (x∈l)))/\Ext w w':=by
 have zm:=eA.gW
 refine R.enter [] [(0,bT),(1,iV x)] Tryz.func113 O O O O<|R.reg O<|R.u 1 O<|R.nil<|R.reg O<|R.u 2 O<|R.c (q.call Pn O O (fun w hw=>(Ff _ l x w ((fun _=>Wd.old eA) w hw) ))) O<|?_
 by_cases h1:idxOf (fun y=>y==x) l<0
 .
  exact R.q (q.IQ O O) O<|R.u 1 O<|R.nil<|R.rv O Tryz.results113 O (rB (by (have e:=GA (l:=l) (x:=x);exact (decide_eq_false (e▸(by omega))).symm)))
 exact R.q (q.G3 O O) O<|R.u 1 O<|R.nil<|R.rv O Tryz.results113 O (rB (by (have e:=GA (l:=l) (x:=x);exact (decide_eq_true (e▸(by omega))).symm)))
theorem qO (bU bK bL bM:Value)(r:aB)(p:Place)(w:World)(yH:Sl w bU r.ao)(BD:Sl w bK r.Things)(Fg:Sl w bL r.Held)(MG:Sl w bM r.Notes)(hk:Ok r):Calls Tryz.prog 118 #[.agg #[bU,bK,bL,bM,iV r.af,iV r.ah],.agg #[iV p.aC,iV p.Slot]] w fun e w'=>e = .returned (.tuple #[ak.val (aS r p).1,df (aS r p).2])/\Ext w w':=by
 have b1:=hk.hl
 refine R.enter [] [(0,.agg #[bU,bK,bL,bM,iV r.af,iV r.ah]),(1,.agg #[iV p.aC,iV p.Slot])] Tryz.func118 O O O O<|R.reg O<|R.s O (s.box O O O) fun b1=>?_
 refine R.s O (s.box O O O) fun b2=>?_
 refine R.s O (s.alloc bQ O O) fun b3=>?_
 refine R.u 1 O<|R.nil<|R.reg O<|R.q (q.cT 1 O O bP) O<|R.c (q.call Ay O O (fun w hw=>(ko p w ))) O<|R.u 1 O<|R.nil ?_
 refine R.reg O<|R.u 1 O<|?_
 by_cases h1:aZ p=0
 .
  refine R.q (q.dx O O Tryz.underlying38) O<|R.nil<|R.aD O O ?_
  rcases fk r.ao (mM r.Held p) with ⟨gS,Eu⟩ | ⟨Dp,lU,gS,ve,SS⟩
  .
   refine R.eZ O mixed (by kernel_rfl)<|Q.q (q.aP O bq O) O<|Q.q (q.ld 2 O O cd O) O<|Q.q (q.aP O cM O) O<|Q.q (q.ld 2 O O dP O) O<|Q.q (q.cT 1 O O bP) O<|Q.c (q.call AB O O (fun w hw=>(mR _ r.Held p w ((fun _=>Wd.old Fg) w hw) (by omega)))) O<|Q.c (q.call lJ O O (fun w hw=>(cv (congrArg (Value.int .i64) gS) (iC _ r.ao (mM r.Held p) w ((fun _=>Wd.old yH) w hw) )))) O<|Q.u 1 O<|Q.nil<|R.reg O<|R.u 1 O<|R.q (q.lss (b:=true) O O (by decide)) O<|R.nil<|R.az O O<|R.reg O<|R.q (q.build iT O O) O<|R.q (q.iface O br) O<|R.s O (s.st 0 _ O O O O (.inl aN) O O O O) fun _=>?_
   exact R.u 1 O<|R.nil<|R.Cc O Tryz.results118 (RV.cell 0 O O aN) (RV.tmp O) (congrArg ak.val (show (⟨0,0,0,0,0⟩:ak)=(aS r p).1 from by (rw [zF ‹_› gS];rfl))) (dj (by decide) (by (rw [zF ‹_› gS];done)))
  refine R.eZ O mixed (by kernel_rfl)<|Q.q (q.aP O bq O) O<|Q.q (q.ld 2 O O cd O) O<|Q.q (q.aP O cM O) O<|Q.q (q.ld 2 O O dP O) O<|Q.q (q.cT 1 O O bP) O<|Q.c (q.call AB O O (fun w hw=>(mR _ r.Held p w ((fun _=>Wd.old Fg) w hw) (by omega)))) O<|Q.c (q.call lJ O O (fun w hw=>(cv (congrArg (Value.int .i64) gS) (iC _ r.ao (mM r.Held p) w ((fun _=>Wd.old yH) w hw) )))) O<|Q.u 1 O<|Q.nil<|R.reg O<|R.u 1 O<|R.q (q.cS O O) O<|R.nil<|R.aD O O<|R.reg O<|R.q (q.aP O bq O) O<|R.q (q.ld 2 O O cd O) O<|R.u 1 O<|R.q (q.idx (i:=Dp) (fun _=>Wd.old yH) O O eu O (List.getElem?_eq_getElem lU)) O<|R.q (q.gh (ds:=jP (r.ao[Dp])) (fun _=>Wd.old yH) (List.getElem?_eq_getElem lU) O aN O) O<|?_
  refine R.s O (s.st 0 _ O O O O (.inl aN) O O O O) fun _=>?_
  exact R.u 1 O<|R.nil<|R.Cc O Tryz.results118 (RV.cell 0 O O aN) (RV.tmp O) (congrArg ak.val (show (r.ao[Dp])=(aS r p).1 from by (rw [Dt ‹_› gS (List.getElem?_eq_getElem lU)];done))) (iJ (by (rw [Dt ‹_› gS (List.getElem?_eq_getElem lU)];done)))
 refine R.q (q.dX O O Tryz.underlying38) O<|R.nil<|R.az O O<|R.reg O<|R.q (q.build iT O O) O<|R.u 1 O<|R.s O (s.st 0 _ O O O O (.inl aN) O O O O) fun _=>?_
 exact R.u 1 O<|R.nil<|R.Cc O Tryz.results118 (RV.cell 0 O O aN) (RV.tmp O) (congrArg ak.val (show (⟨0,0,0,0,0⟩:ak)=(aS r p).1 from by (rw [xD ‹_›];rfl))) (rE (by (rw [xD ‹_›];done)))
theorem qP (bU bK bL bM:Value)(r:aB)(p:Place)(w:World)(yH:Sl w bU r.ao)(BD:Sl w bK r.Things)(Fg:Sl w bL r.Held)(MG:Sl w bM r.Notes)(hk:Ok r):Calls Tryz.prog 116 #[.agg #[bU,bK,bL,bM,iV r.af,iV r.ah],.agg #[iV p.aC,iV p.Slot]] w fun e w'=>e = .returned (df (gI r p))/\Ext w w':=by
 have b1:=hk.hl
 refine R.enter [] [(0,.agg #[bU,bK,bL,bM,iV r.af,iV r.ah]),(1,.agg #[iV p.aC,iV p.Slot])] Tryz.func116 O O O O<|R.reg O<|R.s O (s.box O O O) fun b1=>?_
 refine R.s O (s.box O O O) fun b2=>?_
 refine R.u 1 O<|R.nil<|R.reg O<|R.q (q.cT 0 O O bP) O<|R.c (q.call Ay O O (fun w hw=>(ko p w ))) O<|R.u 1 O<|R.nil ?_
 refine R.reg O<|R.u 1 O<|?_
 by_cases h1:aZ p=0
 .
  refine R.q (q.lP O O Tryz.underlying38) O<|R.u 1 O<|R.qg O (q.aP O cM O) O<|R.qg O (q.ld 1 O O dP O) O<|R.qg O (q.cT 0 O O bP) O<|R.cg O (q.call AB O O (fun w hw=>(mR _ r.Held p w ((fun _=>Wd.old Fg) w hw) (by omega)))) O<|?_
  by_cases h2:mM r.Held p=0
  .
   exact R.qg O (q.ny O O) O<|R.u 1 O<|R.nil<|R.aD O O<|R.reg O<|R.u 2 O<|R.nil<|R.rv O Tryz.results116 O (rE (by (unfold gI;(rw [if_pos ‹_›,if_pos ‹_›];omega))))
  exact R.qg O (q.nu O O) O<|R.u 1 O<|R.nil<|R.az O O<|R.reg O<|R.q (q.iface O br) O<|R.u 1 O<|R.nil<|R.reg O<|R.u 2 O<|R.nil<|R.rv O Tryz.results116 O (dj (by decide) (by (unfold gI;(rw [if_pos ‹_›,if_neg ‹_›];done))))
 exact R.q (q.jx O O Tryz.underlying38) O<|R.u 7 O<|R.nil<|R.aD O O<|R.reg O<|R.u 2 O<|R.nil<|R.rv O Tryz.results116 O (rE (by (unfold gI;(rw [if_neg ‹_›];done))))
theorem qm (bU bK bL bM:Value)(r:aB)(w0:ak)(p:Place)(w:World)(own:List Nat)(H:HN w own [] [ag.ls bU r.ao,ag.ls bK r.Things,ag.ls bL r.Held,ag.ls bM r.Notes])(hk:r.Held.length<=3000/\r.ao.length<=3000/\0<=r.af/\r.af<=3000):RC Tryz.prog 117 #[.agg #[bU,bK,bL,bM,iV r.af,iV r.ah],.agg #[iV w0.ID,iV w0.aE,iV w0.Rights,iV w0.aQ,iV w0.From],.agg #[iV p.aC,iV p.Slot]] H (fun z:Value×Value×Value×Value => .agg #[z.1,z.2.1,z.2.2.1,z.2.2.2,iV (fA r w0 p).af,iV (fA r w0 p).ah]) (fun _=>[]) (fun z=>[ag.ls z.1 (fA r w0 p).ao,ag.ls z.2.1 (fA r w0 p).Things,ag.ls z.2.2.1 (fA r w0 p).Held,ag.ls z.2.2.2 (fA r w0 p).Notes]):=by
 have eK:=H.cq 0 rfl
 have dJ:=H.cq 1 rfl
 have fG:=H.cq 2 rfl
 have eL:=H.cq 3 rfl
 have b1:=hk.1;have b2:=hk.2.1;have b3:=hk.2.2.1;have b4:=hk.2.2.2
 refine R.bF [(0,.agg #[bU,bK,bL,bM,iV r.af,iV r.ah]),(1,.agg #[iV w0.ID,iV w0.aE,iV w0.Rights,iV w0.aQ,iV w0.From]),(2,.agg #[iV p.aC,iV p.Slot])] Tryz.func117 O O O O H<|R.reg O<|R.s O (s.box O O O) fun b1=>?_
 refine R.s O (s.box O O O) fun b2=>?_
 refine R.s O (s.box O O O) fun b3=>?_
 refine R.s O (s.alloc dq O O) fun b4=>?_
 refine R.nil<|R.fJ (fuel:=8) [0,1,2,4] O O mixed O<|D.q (i:=0) O (aA [0,1,2,4] bJ O) O (q.aP O bq O) O<|D.q (i:=3) O (aA [0,1,2,4] bJ O) O (q.cT 2 O O aN) O<|D.two (i:=1) (j:=4) O O ?_ ?_
 .
  refine Do.s (s.c (Qt.a (q.ld 3 O O cd O)) O) (fun _=>(aA [0,1,2,4] bJ O)) O fun _=>?_
  refine D.two (i:=2) (j:=4) O O ?_ ?_
  .
   refine Do.s (s.aT gV [0] _ _ _ O O O wq O O (fun w own hw H=>jK bU r.ao w own H (by omega)) O) (fun _=>(aA [1,2,3,5] bJ O)) O fun z2=>?_
   refine D.one (i:=4) O<|Do.s (s.bs (l:=([w0]:List ak)) eu bQ O O O O O O O) (fun _=>(aA oV bJ O)) O fun b5=>?_
   refine D.one (i:=5) O<|Do.s (s.app 1 _ O O O (bD 0 O) lq (by (simp;omega)) (by (simp;omega)) (fun _=>rfl) O) (fun _=>(aA oV bJ O)) O fun v1=>?_
   refine D.q (i:=6) O (aA oV bJ O) O (q.aP O bq O) O<|D.one (i:=7) O<|Do.s (s.fP 5 _ O O O (fun w hw=>Sl.cr (hw.row 1 O)) (.inr ⟨cd,rfl⟩) (fun w hw=>(ae (Sl.one (hw.row 1 O)) aO)) O O O) (fun _=>(aA oV bJ O)) O fun _=>?_
   refine D.done<|R.reg O<|R.q (q.aP O cO O) O<|R.q (q.ld 5 O O ap O) O<|R.q (q.bA (r:=r.af+1) O O) O<|R.q (q.aP O cO O) O<|R.s O (s.st 5 _ O O O O (.inr ⟨ap,rfl⟩) O O O O) fun _=>?_
   refine R.nil<|R.reg O<|R.q (q.aP O fu O) O<|R.q (q.ld 3 O O ap O) O<|?_
   by_cases h1:0<p.aC
   .
    refine R.q (q.eM O O) O<|R.nil<|R.az O O<|R.reg O<|R.q (q.aP O cM O) O<|R.q (q.ld 5 O O dP O) O<|R.q (q.cT 3 O O bP) O<|R.q (q.aP O bX O) O<|R.q (q.ld 4 O O ap O) O<|R.s O (s.aT l9 [2] _ _ _ O O O tI O O (fun w own hw H=>qz bL r.Held p w0.ID w own H (by omega)) O) fun z3=>?_
    refine R.q (q.aP O cM O) O<|R.s O (s.fP 6 _ O O O (fun w hw=>Sl.cr (hw.row 0 O)) (.inr ⟨dP,rfl⟩) (fun w hw=>(ae (Sl.one (hw.row 0 O)) aO)) O O O) fun _=>?_
    refine R.nil<|R.reg O<|R.q (q.cT 6 O O aj) O<|R.s O (s.fP 3 _ O O O (fun _ _=>rfl) (.inl aj) (fun w hw=>(ae (Sl.one (hw.row 2 O)) (ae (Sl.one (hw.bO 1 O)) (ae (Sl.one (hw.row 0 O)) (ae (Sl.one (hw.bO 3 O)) (ae O (ae O aO))))))) O O O) fun _=>?_
    refine R.nil<|R.mp (fun _ hw=>hw.cW 2 _ O O)<|R.mp (fun _ hw=>hw.cW 0 _ O O) ?_
    have hz:fA r w0 p=(⟨(r.ao++([w0])),r.Things,fT r.Held p w0.ID,r.Notes,(r.af+1),r.ah⟩:aB):=by (unfold fA;(rw [if_pos ‹_›];done))
    rw [hz]
    exact R.w1 (v1,bK,z3,bM) [5] [1,3,0,5] O Tryz.results117 (RV.cell 1 O O aj) O O O O
   refine R.q (q.ey O O) O<|R.nil<|R.aD O O<|R.reg O<|R.q (q.cT 5 O O aj) O<|R.s O (s.fP 2 _ O O O (fun _ _=>rfl) (.inl aj) (fun w hw=>(ae (Sl.one (hw.row 1 O)) (ae (Sl.one (hw.bO 1 O)) (ae (Sl.one (hw.bO 2 O)) (ae (Sl.one (hw.bO 3 O)) (ae O (ae O aO))))))) O O O) fun _=>?_
   refine R.nil<|R.mp (fun _ hw=>hw.cW 1 _ O O) ?_
   have hz:fA r w0 p=(⟨(r.ao++([w0])),r.Things,r.Held,r.Notes,(r.af+1),r.ah⟩:aB):=by (unfold fA;(rw [if_neg ‹_›];done))
   rw [hz]
   exact R.w1 (v1,bK,bL,bM) [5] [0,2,3,4] O Tryz.results117 (RV.cell 1 O O aj) O O O O
  refine Do.s (s.bs (l:=([w0]:List ak)) eu bQ O O O O O O O) (fun _=>(aA [1,2,3,5] bJ O)) O fun b6=>?_
  refine D.one (i:=2) O<|Do.s (s.aT qY [0] _ _ _ O O O wq O O (fun w own hw H=>jK bU r.ao w own H (by omega)) O) (fun _=>(aA oV bJ O)) O fun z4=>?_
  refine D.one (i:=5) O<|Do.s (s.app 0 _ O O O (bD 1 O) lq (by (simp;omega)) (by (simp;omega)) (fun _=>rfl) O) (fun _=>(aA oV bJ O)) O fun v2=>?_
  refine D.q (i:=6) O (aA oV bJ O) O (q.aP O bq O) O<|D.one (i:=7) O<|Do.s (s.fP 5 _ O O O (fun w hw=>Sl.cr (hw.row 0 O)) (.inr ⟨cd,rfl⟩) (fun w hw=>(ae (Sl.one (hw.row 0 O)) aO)) O O O) (fun _=>(aA oV bJ O)) O fun _=>?_
  refine D.done<|R.reg O<|R.q (q.aP O cO O) O<|R.q (q.ld 5 O O ap O) O<|R.q (q.bA (r:=r.af+1) O O) O<|R.q (q.aP O cO O) O<|R.s O (s.st 5 _ O O O O (.inr ⟨ap,rfl⟩) O O O O) fun _=>?_
  refine R.nil<|R.reg O<|R.q (q.aP O fu O) O<|R.q (q.ld 3 O O ap O) O<|?_
  by_cases h2:0<p.aC
  .
   refine R.q (q.eM O O) O<|R.nil<|R.az O O<|R.reg O<|R.q (q.aP O cM O) O<|R.q (q.ld 5 O O dP O) O<|R.q (q.cT 3 O O bP) O<|R.q (q.aP O bX O) O<|R.q (q.ld 4 O O ap O) O<|R.s O (s.aT l9 [2] _ _ _ O O O tI O O (fun w own hw H=>qz bL r.Held p w0.ID w own H (by omega)) O) fun z5=>?_
   refine R.q (q.aP O cM O) O<|R.s O (s.fP 6 _ O O O (fun w hw=>Sl.cr (hw.row 0 O)) (.inr ⟨dP,rfl⟩) (fun w hw=>(ae (Sl.one (hw.row 0 O)) aO)) O O O) fun _=>?_
   refine R.nil<|R.reg O<|R.q (q.cT 6 O O aj) O<|R.s O (s.fP 3 _ O O O (fun _ _=>rfl) (.inl aj) (fun w hw=>(ae (Sl.one (hw.row 1 O)) (ae (Sl.one (hw.bO 1 O)) (ae (Sl.one (hw.row 0 O)) (ae (Sl.one (hw.bO 3 O)) (ae O (ae O aO))))))) O O O) fun _=>?_
   refine R.nil<|R.mp (fun _ hw=>hw.cW 1 _ O O)<|R.mp (fun _ hw=>hw.cW 0 _ O O) ?_
   have hz:fA r w0 p=(⟨(r.ao++([w0])),r.Things,fT r.Held p w0.ID,r.Notes,(r.af+1),r.ah⟩:aB):=by (unfold fA;(rw [if_pos ‹_›];done))
   rw [hz]
   exact R.w1 (v2,bK,z5,bM) [5] [1,3,0,5] O Tryz.results117 (RV.cell 1 O O aj) O O O O
  refine R.q (q.ey O O) O<|R.nil<|R.aD O O<|R.reg O<|R.q (q.cT 5 O O aj) O<|R.s O (s.fP 2 _ O O O (fun _ _=>rfl) (.inl aj) (fun w hw=>(ae (Sl.one (hw.row 0 O)) (ae (Sl.one (hw.bO 1 O)) (ae (Sl.one (hw.bO 2 O)) (ae (Sl.one (hw.bO 3 O)) (ae O (ae O aO))))))) O O O) fun _=>?_
  refine R.nil<|R.mp (fun _ hw=>hw.cW 0 _ O O) ?_
  have hz:fA r w0 p=(⟨(r.ao++([w0])),r.Things,r.Held,r.Notes,(r.af+1),r.ah⟩:aB):=by (unfold fA;(rw [if_neg ‹_›];done))
  rw [hz]
  exact R.w1 (v2,bK,bL,bM) [5] [0,2,3,4] O Tryz.results117 (RV.cell 1 O O aj) O O O O
 refine Do.s (s.bs (l:=([w0]:List ak)) eu bQ O O O O O O O) (fun _=>(aA [1,2,3,5] bJ O)) O fun b7=>?_
 refine D.one (i:=1) O<|Do.s (s.c (Qt.a (q.ld 4 O O cd O)) O) (fun _=>(aA [1,2,3,5] bJ O)) O fun _=>?_
 refine D.one (i:=2) O<|Do.s (s.aT qY [0] _ _ _ O O O wq O O (fun w own hw H=>jK bU r.ao w own H (by omega)) O) (fun _=>(aA oV bJ O)) O fun z6=>?_
 refine D.one (i:=5) O<|Do.s (s.app 0 _ O O O (bD 1 O) lq (by (simp;omega)) (by (simp;omega)) (fun _=>rfl) O) (fun _=>(aA oV bJ O)) O fun v3=>?_
 refine D.q (i:=6) O (aA oV bJ O) O (q.aP O bq O) O<|D.one (i:=7) O<|Do.s (s.fP 5 _ O O O (fun w hw=>Sl.cr (hw.row 0 O)) (.inr ⟨cd,rfl⟩) (fun w hw=>(ae (Sl.one (hw.row 0 O)) aO)) O O O) (fun _=>(aA oV bJ O)) O fun _=>?_
 refine D.done<|R.reg O<|R.q (q.aP O cO O) O<|R.q (q.ld 5 O O ap O) O<|R.q (q.bA (r:=r.af+1) O O) O<|R.q (q.aP O cO O) O<|R.s O (s.st 5 _ O O O O (.inr ⟨ap,rfl⟩) O O O O) fun _=>?_
 refine R.nil<|R.reg O<|R.q (q.aP O fu O) O<|R.q (q.ld 3 O O ap O) O<|?_
 by_cases h3:0<p.aC
 .
  refine R.q (q.eM O O) O<|R.nil<|R.az O O<|R.reg O<|R.q (q.aP O cM O) O<|R.q (q.ld 5 O O dP O) O<|R.q (q.cT 3 O O bP) O<|R.q (q.aP O bX O) O<|R.q (q.ld 4 O O ap O) O<|R.s O (s.aT l9 [2] _ _ _ O O O tI O O (fun w own hw H=>qz bL r.Held p w0.ID w own H (by omega)) O) fun z7=>?_
  refine R.q (q.aP O cM O) O<|R.s O (s.fP 6 _ O O O (fun w hw=>Sl.cr (hw.row 0 O)) (.inr ⟨dP,rfl⟩) (fun w hw=>(ae (Sl.one (hw.row 0 O)) aO)) O O O) fun _=>?_
  refine R.nil<|R.reg O<|R.q (q.cT 6 O O aj) O<|R.s O (s.fP 3 _ O O O (fun _ _=>rfl) (.inl aj) (fun w hw=>(ae (Sl.one (hw.row 1 O)) (ae (Sl.one (hw.bO 1 O)) (ae (Sl.one (hw.row 0 O)) (ae (Sl.one (hw.bO 3 O)) (ae O (ae O aO))))))) O O O) fun _=>?_
  refine R.nil<|R.mp (fun _ hw=>hw.cW 1 _ O O)<|R.mp (fun _ hw=>hw.cW 0 _ O O) ?_
  have hz:fA r w0 p=(⟨(r.ao++([w0])),r.Things,fT r.Held p w0.ID,r.Notes,(r.af+1),r.ah⟩:aB):=by (unfold fA;(rw [if_pos ‹_›];done))
  rw [hz]
  exact R.w1 (v3,bK,z7,bM) [5] [1,3,0,5] O Tryz.results117 (RV.cell 1 O O aj) O O O O
 refine R.q (q.ey O O) O<|R.nil<|R.aD O O<|R.reg O<|R.q (q.cT 5 O O aj) O<|R.s O (s.fP 2 _ O O O (fun _ _=>rfl) (.inl aj) (fun w hw=>(ae (Sl.one (hw.row 0 O)) (ae (Sl.one (hw.bO 1 O)) (ae (Sl.one (hw.bO 2 O)) (ae (Sl.one (hw.bO 3 O)) (ae O (ae O aO))))))) O O O) fun _=>?_
 refine R.nil<|R.mp (fun _ hw=>hw.cW 0 _ O O) ?_
 have hz:fA r w0 p=(⟨(r.ao++([w0])),r.Things,r.Held,r.Notes,(r.af+1),r.ah⟩:aB):=by (unfold fA;(rw [if_neg ‹_›];done))
 rw [hz]
 exact R.w1 (v3,bK,bL,bM) [5] [0,2,3,4] O Tryz.results117 (RV.cell 1 O O aj) O O O O
theorem KJ (w:World)(own:List Nat)(H:HN w own [] []):RC Tryz.prog 71 #[] H (fun z:Value×Value×Value×Value => .agg #[z.1,z.2.1,z.2.2.1,z.2.2.2,iV (⟨[],[],[],[],1,1⟩:aB).af,iV (⟨[],[],[],[],1,1⟩:aB).ah]) (fun _=>[]) (fun z=>[ag.ls z.1 ((⟨[],[],[],[],1,1⟩:aB).ao:List ak),ag.ls z.2.1 ((⟨[],[],[],[],1,1⟩:aB).Things:List aE),ag.ls z.2.2.1 ((⟨[],[],[],[],1,1⟩:aB).Held:List Held),ag.ls z.2.2.2 ((⟨[],[],[],[],1,1⟩:aB).Notes:List Note)]):=by
 refine R.bF [] Tryz.func71 O O O O H<|R.reg O<|R.s O (s.alloc dq O O) fun b1=>?_
 refine R.nil<|R.reg O<|R.q (q.build dY O O) O<|R.s O (s.st 0 _ O O O O (.inl aj) O O O O) fun _=>?_
 exact R.nil<|R.mp (fun _ hw=>hw.bg (α:=ak))<|R.mp (fun _ hw=>hw.bg (α:=aE))<|R.mp (fun _ hw=>hw.bg (α:=Held))<|R.mp (fun _ hw=>hw.bg (α:=Note))<|R.w1 ((nS),(nS),(nS),(nS)) [1] gk O Tryz.results71 (RV.cell 0 O O aj) O O O O
theorem xH (t:aE)(w0:ak)(BF:Nat)(w:World)(KL:(ag.box BF (jP w0) 127).ok w):Calls Tryz.prog 174 #[.agg #[iV t.ID,iV t.Kind,.string t.Data],.pointer (some ⟨BF,0,none⟩)] w fun e w'=>e = .returned (.bool (t.ID==w0.aE))/\Ext w w':=by
 refine R.enter [] [(0,.agg #[iV t.ID,iV t.Kind,.string t.Data]),(1,.pointer (some ⟨BF,0,none⟩))] Tryz.func174 O O O O<|R.nC (r:=ag.box BF (jP w0) 127) KL (jQ KL)<|R.reg O<|R.s O (s.box O O O) fun b1=>?_
 refine R.u 1 O<|R.nil<|R.reg O<|R.q (q.aP O oo O) O<|R.q (q.ld 0 O O ap O) O<|R.q (q.aP O fU O) O<|R.q (q.yu 0 O O ap O) O<|?_
 by_cases h1:t.ID=w0.aE
 .
  exact R.q (q.fI O O) O<|R.u 1 O<|R.nil<|R.rv O Tryz.results174 O (rB (by (exact (beq_iff_eq.2 ‹_›).symm)))
 exact R.q (q.eU O O) O<|R.u 1 O<|R.nil<|R.rv O Tryz.results174 O (rB (by (exact (beq_eq_false_iff_ne.2 ‹_›).symm)))
theorem uL (t:Note)(w0:ak)(BF:Nat)(w:World)(KL:(ag.box BF (jP w0) 127).ok w):Calls Tryz.prog 127 #[.agg #[iV t.Port,.string t.Data,iV t.aQ,iV t.ak],.pointer (some ⟨BF,0,none⟩)] w fun e w'=>e = .returned (.bool (t.Port==w0.aE))/\Ext w w':=by
 refine R.enter [] [(0,.agg #[iV t.Port,.string t.Data,iV t.aQ,iV t.ak]),(1,.pointer (some ⟨BF,0,none⟩))] Tryz.func127 O O O O<|R.nC (r:=ag.box BF (jP w0) 127) KL (jQ KL)<|R.reg O<|R.s O (s.box O O O) fun b1=>?_
 refine R.u 1 O<|R.nil<|R.reg O<|R.q (q.aP O qv O) O<|R.q (q.ld 0 O O ap O) O<|R.q (q.aP O fU O) O<|R.q (q.yu 0 O O ap O) O<|?_
 by_cases h1:t.Port=w0.aE
 .
  exact R.q (q.fI O O) O<|R.u 1 O<|R.nil<|R.rv O Tryz.results127 O (rB (by (exact (beq_iff_eq.2 ‹_›).symm)))
 exact R.q (q.eU O O) O<|R.u 1 O<|R.nil<|R.rv O Tryz.results127 O (rB (by (exact (beq_eq_false_iff_ne.2 ‹_›).symm)))
theorem yI (t:aE)(Qj:Value)(ts:List Int)(MH:Nat)(w:World)(SY:(ag.box MH [Qj] 159).ok w)(Ur:Sl w Qj ts):Calls Tryz.prog 112 #[.agg #[iV t.ID,iV t.Kind,.string t.Data],.pointer (some ⟨MH,0,none⟩)] w fun e w'=>e = .returned (.bool (!decide (t.ID∈ts)))/\Ext w w':=by
 refine R.enter [] [(0,.agg #[iV t.ID,iV t.Kind,.string t.Data]),(1,.pointer (some ⟨MH,0,none⟩))] Tryz.func112 O O O O<|R.nC (r:=ag.box MH [Qj] 159) SY (jQ SY)<|R.reg O<|R.s O (s.box O O O) fun b1=>?_
 refine R.u 1 O<|R.nil<|R.reg O<|R.q (q.yu 0 O O nF O) O<|R.q (q.aP O oo O) O<|R.q (q.ld 0 O O ap O) O<|R.c (q.call pN O O (fun w hw=>(fQ _ ts t.ID w ((fun _=>Wd.old Ur) w hw) ))) O<|R.q (q.not O) O<|R.u 1 O<|R.nil ?_
 exact R.rv O Tryz.results112 O (rB (by rfl))
theorem yJ (h:Held)(bU bK bL bM:Value)(r:aB)(KM:Nat)(w:World)(Va:(ag.box KM [bU,bK,bL,bM,iV r.af,iV r.ah] 48).ok w)(yH:Sl w bU r.ao)(BD:Sl w bK r.Things)(Fg:Sl w bL r.Held)(MG:Sl w bM r.Notes):Calls Tryz.prog 115 #[.agg #[iV h.Place.aC,iV h.Place.Slot,iV h.ak],.pointer (some ⟨KM,0,none⟩)] w fun e w'=>e = .returned (.bool (decide (cD r.ao h.ak<0)))/\Ext w w':=by
 refine R.enter [] [(0,.agg #[iV h.Place.aC,iV h.Place.Slot,iV h.ak]),(1,.pointer (some ⟨KM,0,none⟩))] Tryz.func115 O O O O<|R.nC (r:=ag.box KM [bU,bK,bL,bM,iV r.af,iV r.ah] 48) Va (jQ Va)<|R.reg O<|R.s O (s.box O O O) fun b1=>?_
 refine R.u 1 O<|R.nil<|R.reg O<|R.q (q.aP O bq O) O<|R.q (q.yu 0 O O cd O) O<|R.q (q.aP O jS O) O<|R.q (q.ld 0 O O ap O) O<|?_
 rcases fk r.ao h.ak with ⟨gS,Eu⟩ | ⟨Dp,lU,gS,ve,SS⟩
 .
  refine R.c (q.call lJ O O (fun w hw=>(cv (congrArg (Value.int .i64) gS) (iC _ r.ao h.ak w ((fun _=>Wd.old yH) w hw) )))) O<|R.q (q.lss (b:=true) O O (by decide)) O<|R.u 1 O<|R.nil ?_
  exact R.rv O Tryz.results115 O (rB (by (exact (decide_eq_true (by omega)).symm)))
 refine R.c (q.call lJ O O (fun w hw=>(cv (congrArg (Value.int .i64) gS) (iC _ r.ao h.ak w ((fun _=>Wd.old yH) w hw) )))) O<|R.q (q.cS O O) O<|R.u 1 O<|R.nil ?_
 exact R.rv O Tryz.results115 O (rB (by (exact (decide_eq_false (by omega)).symm)))
theorem yK (x:ak)(Qk:Value)(gs:List Int)(MI:Nat)(w:World)(SZ:(ag.box MI [Qk] 159).ok w)(Us:Sl w Qk gs):Calls Tryz.prog 124 #[.agg #[iV x.ID,iV x.aE,iV x.Rights,iV x.aQ,iV x.From],.pointer (some ⟨MI,0,none⟩)] w fun e w'=>e = .returned (.bool (decide (x.ID∈gs)))/\Ext w w':=by
 refine R.enter [] [(0,.agg #[iV x.ID,iV x.aE,iV x.Rights,iV x.aQ,iV x.From]),(1,.pointer (some ⟨MI,0,none⟩))] Tryz.func124 O O O O<|R.nC (r:=ag.box MI [Qk] 159) SZ (jQ SZ)<|R.reg O<|R.s O (s.box O O O) fun b1=>?_
 refine R.u 1 O<|R.nil<|R.reg O<|R.q (q.yu 0 O O nF O) O<|R.q (q.aP O bX O) O<|R.q (q.ld 0 O O ap O) O<|R.c (q.call pN O O (fun w hw=>(fQ _ gs x.ID w ((fun _=>Wd.old Us) w hw) ))) O<|R.u 1 O<|R.nil ?_
 exact R.rv O Tryz.results124 O (rB (by rfl))
end
section
open Go Go.RowKit
theorem r5 (bU bK bL bM:Value)(r:aB)(w:World)(own:List Nat)(H:HN w own [] [ag.ls bU r.ao,ag.ls bK r.Things,ag.ls bL r.Held,ag.ls bM r.Notes])(hk:Ok r):RC Tryz.prog 55 #[.agg #[bU,bK,bL,bM,iV r.af,iV r.ah]] H (fun z:Value×Value×Value×Value => .agg #[z.1,z.2.1,z.2.2.1,z.2.2.2,iV (dN r).af,iV (dN r).ah]) (fun _=>[]) (fun z=>[ag.ls z.1 (dN r).ao,ag.ls z.2.1 (dN r).Things,ag.ls z.2.2.1 (dN r).Held,ag.ls z.2.2.2 (dN r).Notes]):=by
 have eK:=H.cq 0 rfl
 have dJ:=H.cq 1 rfl
 have fG:=H.cq 2 rfl
 have eL:=H.cq 3 rfl
 refine R.bF [(0,.agg #[bU,bK,bL,bM,iV r.af,iV r.ah])] Tryz.func55 O O O O H<|R.reg O<|R.s O (s.box O O O) fun b1=>?_
 refine R.s O (s.alloc dq O O) fun b2=>?_
 refine R.nil<|R.loop (fun g_:aB×Value×Value×Value×Value=>[(1,.pointer (some ⟨b1,0,none⟩)),(2,.pointer (some ⟨b2,0,none⟩))]) (fun g_=>[ag.box b2 G0 48,ag.box b1 [g_.2.1,g_.2.2.1,g_.2.2.2.1,g_.2.2.2.2,iV g_.1.af,iV g_.1.ah] 48,ag.held w own]) (fun g_=>[ag.ls g_.2.1 g_.1.ao,ag.ls g_.2.2.1 g_.1.Things,ag.ls g_.2.2.2.1 g_.1.Held,ag.ls g_.2.2.2.2 g_.1.Notes,ag.ls bU r.ao,ag.ls bK r.Things,ag.ls bL r.Held,ag.ls bM r.Notes]) (fun g_=>Ok g_.1/\dN g_.1=dN r) (fun g_=>g_.1.Notes.length) (r,bU,bK,bL,bM) O (by exact ⟨hk,rfl⟩) (sF O) (iz [0,1,2] [0,1,2,3,0,1,2,3] O) ?_
 rintro ⟨m,S0,Ut,TR,TS⟩ ⟨hok,HS⟩
 dsimp only at *
 have o1:=hok.wl;have o2:=hok.tl;have o3:=hok.hl;have o4:=hok.nl
 refine R.reg O<|R.q (q.aP O bq O) O<|R.q (q.ld 1 O O cd O) O<|R.s O (s.vT Jj O O (fun w hw=>uK _ m.ao w (hw.bO 0 O) (by omega)) O) fun v1=>?_
 refine R.s O (s.alloc y9 O O) fun b3=>?_
 refine R.s O (s.fP 0 _ O O O (fun w hw=>Sl.cr (hw.row 1 O)) (.inr ⟨nF,rfl⟩) (fun w hw=>(ae (Sl.one (hw.row 1 O)) aO)) O O O) fun _=>?_
 refine R.nil<|R.reg O<|R.q (q.aP O du O) O<|R.q (q.ld 3 O O eQ O) O<|R.s O (s.aT gV [1] _ _ _ O O O wt O O (fun w own hw H=>ji Ut m.Things w own H (by omega)) O) fun z1=>?_
 refine R.q (q.LM (cap:=[.pointer (some ⟨b3,0,none⟩)]) O O) O<|R.s O (s.aT qY [] _ _ _ O O O OX O O (fun w own hw H=>ua z1 m.Things (fun (t:aE) => !decide (t.ID∈(bV m.ao))) _ _ OY w own H (fun W t hU=>yI t _ (bV m.ao) _ W (hw.vZ 1 0 O O (by decide) hU) (Own.sl (hw.vZ 2 0 O O (by decide) hU)) ) (by omega)) O) fun z2=>?_
 refine R.q (q.aP O du O) O<|R.s O (s.fP 4 _ O O O (fun w hw=>Sl.cr (hw.row 0 O)) (.inr ⟨eQ,rfl⟩) (fun w hw=>(ae (Sl.one (hw.row 0 O)) aO)) O O O) fun _=>?_
 refine R.nil<|R.reg O<|R.u 1 O<|R.nil<|R.reg O<|R.u 1 O<|R.nil<|R.reg O<|R.q (q.aP O dv O) O<|R.q (q.ld 4 O O eC O) O<|R.q (q.len' (dh 3 O) O Tryz.underlying46) O<|R.u 1 O<|R.nil<|R.row0 (α:=Int) 3<|R.row0 (α:=Note) 89<|R.loop (fun g_:Nat×Value×(List Note)×Value×(List Int)=>[(1,.pointer (some ⟨b1,0,none⟩)),(2,.pointer (some ⟨b2,0,none⟩)),(3,.pointer (some ⟨b3,0,none⟩)),(4,g_.2.2.2.1),(5,g_.2.1),(20,TS),(21,iV (m.Notes.length:Int)),(22,iV (g_.1:Int))]) (fun g_=>[ag.row 89 g_.2.1 g_.2.2.1,ag.row 3 g_.2.2.2.1 g_.2.2.2.2,ag.row 100 z2 (m.Things.filter (fun x => !(fun (t:aE) => !decide (t.ID∈(bV m.ao))) x)),ag.box b3 [v1] 159,ag.row 3 v1 (bV m.ao),ag.box b2 G0 48,ag.box b1 [S0,z2,TR,TS,iV m.af,iV m.ah] 48,ag.held w own]) (fun g_=>[ag.ls S0 m.ao,ag.ls Ut m.Things,ag.ls TR m.Held,ag.ls TS m.Notes,ag.ls bU r.ao,ag.ls bK r.Things,ag.ls bL r.Held,ag.ls bM r.Notes]) (fun g_=>g_.1<=m.Notes.length/\g_.2.2.1=ia m.ao (bV m.ao) (m.Notes.take g_.1)/\g_.2.2.2.2=kI m.ao (bV m.ao) (m.Notes.take g_.1)) (fun g_=>m.Notes.length-g_.1) (0,(nS),[],(nS),[]) O (by exact ⟨by omega,by simp [ia],by simp [kI]⟩) (sF O) (iz dU dU O) ?_
 rintro ⟨k,vn,ns,vl,ls⟩ ⟨hk1,HN,HL⟩
 dsimp only at *
 have hkl:=qK m.ao (bV m.ao) (m.Notes.take k);rw [<- HN,<- HL,List.length_take] at hkl
 refine R.reg O<|?_
 by_cases h1:k<m.Notes.length
 .
  refine R.q (q.dC O O) O<|R.nil<|R.az O O<|R.reg O<|?_
  obtain ⟨x1,hx1⟩:∃z,m.Notes[k]? = some z:=⟨_,List.getElem?_eq_getElem (by omega)⟩
  refine R.q (q.idx (i:=k) (dh 3 O) O O gJ O hx1) O<|R.q (q.gh (ds:=vO x1) (dh 3 O) hx1 O dG O) O<|R.s O (s.alloc eS O O) fun b4=>?_
  refine R.s O (s.st 0 _ O O O O (.inl dG) O O O O) fun _=>?_
  refine R.nil<|R.reg O<|R.q (q.aP O bq O) O<|R.q (q.ld 7 O O cd O) O<|R.q (q.aP O iG O) O<|R.q (q.ld 0 O O ap O) O<|?_
  rcases fk m.ao x1.ak with ⟨gS,Eu⟩ | ⟨Dp,lU,gS,ve,SS⟩
  .
   refine R.c (q.call lJ O O (fun w hw=>(cv (congrArg (Value.int .i64) gS) (iC _ m.ao x1.ak w (hw.bO 0 O) )))) O<|R.q (q.lss (b:=true) O O (by decide)) O<|R.nil ?_
   refine R.az O O<|R.reg O<|R.q (q.aP O iG O) O<|R.s O (s.st 0 _ O O O O (.inr ⟨ap,rfl⟩) O O O O) fun _=>?_
   refine R.nil<|R.reg O<|R.q (q.ld 4 O O nF O) O<|R.q (q.aP O qv O) O<|R.q (q.ld 0 O O ap O) O<|?_
   rcases Bool.eq_false_or_eq_true (decide (x1.Port∈(bV m.ao))) with h2|h2
   .
    refine R.c (q.call pN O O (fun w hw=>(cv (congrArg Value.bool h2) (fQ _ (bV m.ao) x1.Port w (hw.row 5 O) )))) O<|R.nil ?_
    refine R.az O O<|R.reg O<|R.u 1 O<|R.q (q.cT 0 O O dG) O<|R.s O (s.bs (l:=([(⟨x1.Port,x1.Data,x1.aQ,0⟩:Note)]:List Note)) gJ eS O O O O O O O) fun b5=>?_
    refine R.s O (s.app 2 _ O O O (bD 0 O) ki (by (simp;omega)) (by (simp;omega)) (fun _=>rfl) O) fun v2=>?_
    refine R.u 1 O<|R.nil<|R.reg O<|R.q (q.bA (r:=((k+1:Nat):Int)) O O) O<|R.u 1 O<|R.nil<|R.back (k+1,v2,(ns++([(⟨x1.Port,x1.Data,x1.aQ,0⟩:Note)])),vl,ls) O (by (have e0:=hx1;(have e1:=Gz (ws:=m.ao) gS;have e2:=zH e0 (by rw [e1];exact of_decide_eq_true ‹_›);rw [e1] at e2;exact ⟨by omega,by rw [e2.1,HN],by rw [e2.2,HL]⟩))) (by dsimp only;omega) (sF O) (aA FL dU O)
   refine R.c (q.call pN O O (fun w hw=>(cv (congrArg Value.bool h2) (fQ _ (bV m.ao) x1.Port w (hw.row 5 O) )))) O<|R.nil ?_
   refine R.aD O O<|R.reg O<|R.q (q.aP O iG O) O<|R.q (q.ld 0 O O ap O) O<|R.q (q.gtr (b:=false) O O (by decide)) O<|R.nil<|R.aD O O<|R.reg O<|R.q (q.bA (r:=((k+1:Nat):Int)) O O) O<|R.u 1 O<|R.nil<|R.back (k+1,vn,ns,vl,ls) O (by (have e0:=hx1;(have e1:=Gz (ws:=m.ao) gS;have e2:=zI e0 (by rw [e1];exact of_decide_eq_false ‹_›) (by rw [e1];simp);exact ⟨by omega,by rw [e2.1,HN],by rw [e2.2,HL]⟩))) (by dsimp only;omega) (sF O) (aA su dU O)
  refine R.c (q.call lJ O O (fun w hw=>(cv (congrArg (Value.int .i64) gS) (iC _ m.ao x1.ak w (hw.bO 0 O) )))) O<|R.q (q.cS O O) O<|R.nil ?_
  refine R.aD O O<|R.reg O<|R.q (q.ld 4 O O nF O) O<|R.q (q.aP O qv O) O<|R.q (q.ld 0 O O ap O) O<|?_
  rcases Bool.eq_false_or_eq_true (decide (x1.Port∈(bV m.ao))) with h3|h3
  .
   refine R.c (q.call pN O O (fun w hw=>(cv (congrArg Value.bool h3) (fQ _ (bV m.ao) x1.Port w (hw.row 5 O) )))) O<|R.nil ?_
   refine R.az O O<|R.reg O<|R.u 1 O<|R.q (q.cT 0 O O dG) O<|R.s O (s.bs (l:=([x1]:List Note)) gJ eS O O O O O O O) fun b6=>?_
   refine R.s O (s.app 2 _ O O O (bD 0 O) ki (by (simp;omega)) (by (simp;omega)) (fun _=>rfl) O) fun v3=>?_
   refine R.u 1 O<|R.nil<|R.reg O<|R.q (q.bA (r:=((k+1:Nat):Int)) O O) O<|R.u 1 O<|R.nil<|R.back (k+1,v3,(ns++([x1])),vl,ls) O (by (have e0:=hx1;(have e1:=xE (ws:=m.ao) gS;have e2:=zH e0 (by rw [e1];exact of_decide_eq_true ‹_›);rw [e1] at e2;exact ⟨by omega,by rw [e2.1,HN],by rw [e2.2,HL]⟩))) (by dsimp only;omega) (sF O) (aA FL dU O)
  refine R.c (q.call pN O O (fun w hw=>(cv (congrArg Value.bool h3) (fQ _ (bV m.ao) x1.Port w (hw.row 5 O) )))) O<|R.nil ?_
  refine R.aD O O<|R.reg O<|R.q (q.aP O iG O) O<|R.q (q.ld 0 O O ap O) O<|?_
  by_cases h4:0<x1.ak
  .
   refine R.q (q.eM O O) O<|R.nil<|R.az O O<|R.reg O<|R.u 1 O<|R.q (q.aP O iG O) O<|R.q (q.ld 0 O O ap O) O<|R.s O (s.bs (l:=([x1.ak]:List Int)) da lT O O O O O O O) fun b7=>?_
   refine R.s O (s.app 3 _ O O O (bD 0 O) nH (by (simp;omega)) (by (simp;omega)) (fun _=>rfl) O) fun v4=>?_
   refine R.u 1 O<|R.nil<|R.reg O<|R.q (q.bA (r:=((k+1:Nat):Int)) O O) O<|R.u 1 O<|R.nil<|R.back (k+1,vn,ns,v4,(ls++([x1.ak]))) O (by (have e0:=hx1;(have e1:=xE (ws:=m.ao) gS;have e2:=H6 e0 (by rw [e1];exact of_decide_eq_false ‹_›) (by rw [e1];assumption);rw [e1] at e2;exact ⟨by omega,by rw [e2.1,HN],by rw [e2.2,HL]⟩))) (by dsimp only;omega) (sF O) (aA FL dU O)
  refine R.q (q.ey O O) O<|R.nil<|R.aD O O<|R.reg O<|R.q (q.bA (r:=((k+1:Nat):Int)) O O) O<|R.u 1 O<|R.nil<|R.back (k+1,vn,ns,vl,ls) O (by (have e0:=hx1;(have e1:=xE (ws:=m.ao) gS;have e2:=zI e0 (by rw [e1];exact of_decide_eq_false ‹_›) (by rw [e1];assumption);exact ⟨by omega,by rw [e2.1,HN],by rw [e2.2,HL]⟩))) (by dsimp only;omega) (sF O) (aA su dU O)
 refine R.q (q.cS O O) O<|R.nil<|R.aD O O<|R.reg O<|R.u 1 O<|R.q (q.aP O dv O) O<|R.s O (s.fP 6 _ O O O (fun w hw=>Sl.cr (hw.row 0 O)) (.inr ⟨eC,rfl⟩) (fun w hw=>(ae (Sl.one (hw.row 0 O)) aO)) O O O) fun _=>?_
 refine R.nil<|R.reg O<|R.q (q.aP O cM O) O<|R.q (q.ld 6 O O dP O) O<|R.s O (s.aT dU [2] _ _ _ O O O EB O O (fun w own hw H=>ni TR m.Held w own H (by omega)) O) fun z3=>?_
 refine R.q (q.LM (cap:=[.pointer (some ⟨b1,0,none⟩)]) O O) O<|R.s O (s.aT bZ [] _ _ _ O O O OZ O O (fun w own hw H=>vo z3 m.Held (fun (h:Held)=>decide (cD (⟨m.ao,m.Things.filter (fun x => !(fun (t:aE) => !decide (t.ID∈(bV m.ao))) x),m.Held,ns,m.af,m.ah⟩:aB).ao h.ak<0)) _ _ O0 w own H (fun W h hU=>yJ h _ _ _ _ (⟨m.ao,m.Things.filter (fun x => !(fun (t:aE) => !decide (t.ID∈(bV m.ao))) x),m.Held,ns,m.af,m.ah⟩:aB) _ W (hw.vZ 7 0 O O (by decide) hU) (hw.NL 0 0 O O hU) (Own.sl (hw.vZ 3 0 O O (by decide) hU)) (hw.NL 2 0 O O hU) (Own.sl (hw.vZ 1 0 O O (by decide) hU)) ) (by omega)) O) fun z4=>?_
 refine R.q (q.aP O cM O) O<|R.s O (s.fP 7 _ O O O (fun w hw=>Sl.cr (hw.row 0 O)) (.inr ⟨dP,rfl⟩) (fun w hw=>(ae (Sl.one (hw.row 0 O)) aO)) O O O) fun _=>?_
 refine R.nil<|R.reg O<|R.u 1 O<|R.q (q.len' (bD 2 O) O Tryz.underlying159) O<|?_
 by_cases h5:ls.length=0
 .
  refine R.q (q.fI O O) O<|R.nil<|R.az O O<|R.reg O<|R.q (q.cT 7 O O aj) O<|R.s O (s.fP 6 _ O O O (fun _ _=>rfl) (.inl aj) (fun w hw=>(ae (Sl.one (hw.bO 0 O)) (ae (Sl.one (hw.row 3 O)) (ae (Sl.one (hw.row 0 O)) (ae (Sl.one (hw.row 1 O)) (ae O (ae O aO))))))) O O O) fun _=>?_
  refine R.nil<|R.mp (fun _ hw=>hw.cW 3 _ O O)<|R.mp (fun _ hw=>hw.cW 0 _ O O)<|R.mp (fun _ hw=>hw.cW 0 _ O O) ?_
  have hz:dN r=(⟨m.ao,m.Things.filter (fun x => !(fun (t:aE) => !decide (t.ID∈(bV m.ao))) x),m.Held.filter (fun x => !(fun (h:Held)=>decide (cD m.ao h.ak<0)) x),ns,m.af,m.ah⟩:aB):=by (rw [List.take_of_length_le (by omega)] at HN HL;rw [<- HS,qh (by show (kI _ _ _).length=0;rw [<- HL];assumption)];unfold fO;rw [<- HN])
  rw [hz]
  exact R.w1 (S0,z2,z4,vn) [5] gk O Tryz.results55 (RV.cell 3 O O aj) O O O O
 refine R.q (q.eU O O) O<|R.nil<|R.aD O O<|R.reg O<|R.u 1 O<|R.q (q.len' (bD 2 O) O Tryz.underlying159) O<|R.u 1 O<|R.nil<|R.loop (fun g_:Nat×Value×(List ak)=>[(1,.pointer (some ⟨b1,0,none⟩)),(2,.pointer (some ⟨b2,0,none⟩)),(62,vl),(63,iV (ls.length:Int)),(64,iV (g_.1:Int))]) (fun g_=>[ag.row 124 z4 (m.Held.filter (fun x => !(fun (h:Held)=>decide (cD m.ao h.ak<0)) x)),ag.row 89 vn ns,ag.row 3 vl ls,ag.row 100 z2 (m.Things.filter (fun x => !(fun (t:aE) => !decide (t.ID∈(bV m.ao))) x)),ag.box b3 [v1] 159,ag.row 3 v1 (bV m.ao),ag.box b2 G0 48,ag.box b1 [g_.2.1,z2,z4,vn,iV m.af,iV m.ah] 48,ag.held w own]) (fun g_=>[ag.ls g_.2.1 g_.2.2,ag.ls S0 m.ao,ag.ls Ut m.Things,ag.ls TR m.Held,ag.ls TS m.Notes,ag.ls bU r.ao,ag.ls bK r.Things,ag.ls bL r.Held,ag.ls bM r.Notes]) (fun g_=>g_.1<=ls.length/\g_.2.2=(ls.take g_.1).foldl without m.ao) (fun g_=>ls.length-g_.1) (0,S0,m.ao) O (by exact ⟨by omega,rfl⟩) (sF O) (iz bZ [0,0,1,2,3,4,5,6,7] O) ?_
 rintro ⟨j,vw,ws⟩ ⟨hj1,HW⟩
 dsimp only at *
 have hws:ws.length<=2000:=by rw [HW];exact Nat.le_trans (sZ _ _) hok.wl
 refine R.reg O<|?_
 by_cases h6:j<ls.length
 .
  refine R.q (q.dC O O) O<|R.nil<|R.az O O<|R.reg O<|?_
  obtain ⟨x2,hx2⟩:∃z,ls[j]? = some z:=⟨_,List.getElem?_eq_getElem (by omega)⟩
  refine R.q (q.idx (i:=j) (bD 2 O) O O da O hx2) O<|R.q (q.ln (bD 2 O) hx2 O ap O) O<|R.u 1 O<|R.nil<|R.reg O<|R.q (q.aP O bq O) O<|R.q (q.ld 7 O O cd O) O<|R.u 1 O<|R.s O (s.vT Je O O (fun w hw=>qe _ ws x2 w (hw.bO 0 O) (by omega)) O) fun v5=>?_
  refine R.q (q.aP O bq O) O<|R.s O (s.fP 8 _ O O O (fun w hw=>Sl.cr (hw.row 0 O)) (.inr ⟨cd,rfl⟩) (fun w hw=>(ae (Sl.one (hw.row 0 O)) aO)) O O O) fun _=>?_
  refine R.nil<|R.reg O<|R.q (q.bA (r:=((j+1:Nat):Int)) O O) O<|R.u 1 O<|R.nil<|R.mp (fun _ hw=>hw.cW 0 _ O O)<|R.back (j+1,v5,(without ws x2)) O (by (exact ⟨by omega,by rw [List.take_add_one,hx2,HW];simp⟩)) (by dsimp only;omega) (sF O) (aA bZ [0,2,3,4,5,6,7,8,9] O)
 refine R.q (q.cS O O) O<|R.nil<|R.aD O O<|R.mp (fun _ hw=>hw.cW 3 _ O O)<|R.mp (fun _ hw=>hw.cW 0 _ O O)<|R.mp (fun _ hw=>hw.cW 0 _ O O)<|R.back ((⟨ws,m.Things.filter (fun x => !(fun (t:aE) => !decide (t.ID∈(bV m.ao))) x),m.Held.filter (fun x => !(fun (h:Held)=>decide (cD m.ao h.ak<0)) x),ns,m.af,m.ah⟩:aB),vw,z2,z4,vn) O (by (rw [List.take_of_length_le (by omega)] at HN HL;rw [List.take_of_length_le (by omega)] at HW;have hl:o7 m=ls:=HL.symm;have e:nn m=(⟨ws,m.Things.filter (fun t => !!decide (t.ID∈bV m.ao)),m.Held.filter (fun h => !decide (cD m.ao h.ak<0)),ns,m.af,m.ah⟩:aB):=(by unfold nn;rw [hl,<- HW];unfold fO;rw [<- HN]);exact Eq.mp (congrArg (fun q:aB=>Ok q/\dN q=dN r) e) ⟨hok.nn,(Du (by rw [hl];assumption)).symm.trans HS⟩)) (by dsimp only;omega) (sF O) (aA [3,4,5] [3,2,1,0,8,9,10,11] O)
end
end Go.Proofs.YtkbhcbipadkcaaaGreatDoor
