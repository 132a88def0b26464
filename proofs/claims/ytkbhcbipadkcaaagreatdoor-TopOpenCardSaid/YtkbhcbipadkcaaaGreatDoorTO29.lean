import Derived.Test.YtkbhcbipadkcaaaGreatDoorTO28
namespace Go.Proofs.YtkbhcbipadkcaaaGreatDoor
set_option linter.unusedVariables false
set_option linter.unusedSimpArgs false
open Go Go.RowKit
set_option maxRecDepth 100000
set_option maxHeartbeats 90000000
theorem jM (bN:Value)(l:List aj)(w:World)(own:List Nat)(H:HN w own [] [ag.ls bN l])(hl:l.length<=1000000):RC Tryz.prog 105 #[bN] H (fun z:Value=>z) (fun z=>[ag.row 127 z l]) (fun _=>[]):=by
 have yz:=H.cq 0 rfl
 refine R.bC [(0,bN)] Tryz.func105 O O O O H<|R.reg O<|R.u 1 O<|R.nil<|R.reg O<|R.u 1 O<|?_
 rcases Bool.eq_false_or_eq_true (px bN) with h1|h1
 .
  refine R.q (q.G4 (congrArg Value.bool h1) (q.pd (dw 0 O) O O Tryz.underlying43)) O<|R.nil<|R.av O O<|R.reg O<|R.u 1 O<|R.nil<|R.row0 (α:=aj) 127 ?_
  have hz:l=[]:=by (exact Sl.px (H.bP 0 rfl) ‹_›)
  rw [hz]
  exact R.w1 (nS) [0,1] [] O Tryz.results105 (RV.tmp O) O O O O
 refine R.q (q.G4 (congrArg Value.bool h1) (q.pd (dw 0 O) O O Tryz.underlying43)) O<|R.nil<|R.aA O O<|R.reg O<|R.s O (s.bs (l:=([]:List aj)) dJ bO O O O O O O O) fun b1=>?_
 refine R.u 1 O<|R.s O (s.app 0 _ O O O (dw 0 O) lj (by simp;omega) (by simp;omega) (fun _=>rfl) O) fun v1=>?_
 refine R.u 1 O<|R.nil ?_
 have hz:l=(([])++l):=by (rfl)
 rw [hz]
 exact R.w1 v1 [0,1] [] O Tryz.results105 (RV.tmp O) O O O O
theorem jm (bN:Value)(l:List aE)(w:World)(own:List Nat)(H:HN w own [] [ag.ls bN l])(hl:l.length<=1000000):RC Tryz.prog 106 #[bN] H (fun z:Value=>z) (fun z=>[ag.row 100 z l]) (fun _=>[]):=by
 have yz:=H.cq 0 rfl
 refine R.bC [(0,bN)] Tryz.func106 O O O O H<|R.reg O<|R.u 1 O<|R.nil<|R.reg O<|R.u 1 O<|?_
 rcases Bool.eq_false_or_eq_true (px bN) with h1|h1
 .
  refine R.q (q.G4 (congrArg Value.bool h1) (q.pd (dw 0 O) O O Tryz.underlying44)) O<|R.nil<|R.av O O<|R.reg O<|R.u 1 O<|R.nil<|R.row0 (α:=aE) 100 ?_
  have hz:l=[]:=by (exact Sl.px (H.bP 0 rfl) ‹_›)
  rw [hz]
  exact R.w1 (nS) [0,1] [] O Tryz.results106 (RV.tmp O) O O O O
 refine R.q (q.G4 (congrArg Value.bool h1) (q.pd (dw 0 O) O O Tryz.underlying44)) O<|R.nil<|R.aA O O<|R.reg O<|R.s O (s.bs (l:=([]:List aE)) iM ju O O O O O O O) fun b1=>?_
 refine R.u 1 O<|R.s O (s.app 0 _ O O O (dw 0 O) sQ (by simp;omega) (by simp;omega) (fun _=>rfl) O) fun v1=>?_
 refine R.u 1 O<|R.nil ?_
 have hz:l=(([])++l):=by (rfl)
 rw [hz]
 exact R.w1 v1 [0,1] [] O Tryz.results106 (RV.tmp O) O O O O
theorem fe (bN:Value)(l:List Note)(w:World)(own:List Nat)(H:HN w own [] [ag.ls bN l])(hl:l.length<=1000000):RC Tryz.prog 108 #[bN] H (fun z:Value=>z) (fun z=>[ag.row 89 z l]) (fun _=>[]):=by
 have yz:=H.cq 0 rfl
 refine R.bC [(0,bN)] Tryz.func108 O O O O H<|R.reg O<|R.u 1 O<|R.nil<|R.reg O<|R.u 1 O<|?_
 rcases Bool.eq_false_or_eq_true (px bN) with h1|h1
 .
  refine R.q (q.G4 (congrArg Value.bool h1) (q.pd (dw 0 O) O O Tryz.underlying46)) O<|R.nil<|R.av O O<|R.reg O<|R.u 1 O<|R.nil<|R.row0 (α:=Note) 89 ?_
  have hz:l=[]:=by (exact Sl.px (H.bP 0 rfl) ‹_›)
  rw [hz]
  exact R.w1 (nS) [0,1] [] O Tryz.results108 (RV.tmp O) O O O O
 refine R.q (q.G4 (congrArg Value.bool h1) (q.pd (dw 0 O) O O Tryz.underlying46)) O<|R.nil<|R.aA O O<|R.reg O<|R.s O (s.bs (l:=([]:List Note)) fu eU O O O O O O O) fun b1=>?_
 refine R.u 1 O<|R.s O (s.app 0 _ O O O (dw 0 O) kj (by simp;omega) (by simp;omega) (fun _=>rfl) O) fun v1=>?_
 refine R.u 1 O<|R.nil ?_
 have hz:l=(([])++l):=by (rfl)
 rw [hz]
 exact R.w1 v1 [0,1] [] O Tryz.results108 (RV.tmp O) O O O O
theorem qp (bN:Value)(l:List Note)(i:Nat)(j:Nat)(w:World)(own:List Nat)(H:HN w own [ag.row 89 bN l] [])(hij:i<=j/\j<=l.length):RC Tryz.prog 129 #[bN,iV (i:Int),iV (j:Int)] H (fun z:Value=>z) (fun z=>[ag.row 89 z (l.take i++l.drop j)]) (fun _=>[]):=by
 have Hj:=H.cap 0 rfl;have yz:=H.cL 0 rfl
 refine R.bC [(0,bN),(1,iV (i:Int)),(2,iV (j:Int))] Tryz.func129 O O O O H<|R.reg O<|R.u 1 O<|R.nil<|R.reg O<|R.u 4 O<|R.q (q.len' (bB 0 O) O Tryz.underlying46) O<|R.q (q.El (i:=i) (j:=j) (q':=l.length) (bB 0 O) O O O O fu O O O (by omega) (by omega) (by omega)) O<|R.nil<|R.reg O<|R.u 2 O<|?_
 by_cases h1:i=j
 .
  refine R.q (q.fN O O) O<|R.nil<|R.av O O<|R.reg O<|R.u 2 O<|R.nil ?_
  have hz:l.take i++l.drop j=l:=by (exact pV (by omega))
  rw [hz]
  exact R.w1 bN [0,1] [] O Tryz.results129 (RV.tmp O) O O O O
 refine R.q (q.e8 O O) O<|R.nil<|R.aA O O<|R.reg O<|R.u 1 O<|R.q (q.len' (bB 0 O) O Tryz.underlying46) O<|R.u 1 O<|R.nil<|R.fY (fuel:=8) [1] O O mixed O<|D.q (i:=0) O (aD [1] [] O) O (q.mv O) O<|D.q (i:=1) O (aD [1] [] O) O (q.mv O) O<|D.q (i:=3) O (aD [1] [] O) O (q.mv O) O<|D.q (i:=4) O (aD [1] [] O) O (q.mv O) O<|D.two (i:=2) (j:=5) O O ?_ ?_
 .
  refine Do.s (s.c (Qt.a (q.kI (i:=i) (bB 0 O) O O Tryz.underlying46 FX O (by omega))) O) (fun _=>(aD [1] [] O)) O fun _=>?_
  refine D.one (i:=5) O<|Do.s (s.c (Qt.a (q.dA (i:=j) (bB 0 O) O O fu O (by omega))) O) (fun _=>(aD [1] [] O)) O fun _=>?_
  refine D.one (i:=6) O<|Do.s (s.tH (a:=i) 0 _ O O O (fun w hw=>Sl.from (hw.row 0 O) (by omega)) kj (by omega) (by simp;omega) O O) (fun _=>(aD [1] [] O)) O fun _=>?_
  refine D.q (i:=7) O (aD [1] [] O) O (q.as O) O<|D.done<|R.reg O<|R.u 2 O<|R.q (q.len' (bB 0 O) O Tryz.underlying46) O<|R.u 1 O<|R.q (q.sl2 (i:=(l.take i++(l.drop j)).length) (j:=l.length) (bB 0 O) O O O fu O O (by (simp;omega)) (by (simp [fh];omega))) O<|R.s O (s.zd (lo:=(l.take i++(l.drop j)).length) (hi:=l.length) (z0:=(⟨0,⟨#[]⟩,0,0⟩:Note)) 0 O O fu eU O (by omega) (by (simp;omega)) (by (simp [fh];omega))) fun _=>?_
  refine R.nil<|R.reg O<|R.u 2 O<|R.nil ?_
  have hz:l.take i++l.drop j=(l.take i++(l.drop j)):=by (rfl)
  rw [hz]
  exact R.w1 (kI bN (i+(l.drop j).length)) [0,1] [] O Tryz.results129 (RV.tmp O) O O O O
 refine Do.s (s.c (Qt.a (q.dA (i:=j) (bB 0 O) O O fu O (by omega))) O) (fun _=>(aD [1] [] O)) O fun _=>?_
 refine D.one (i:=2) O<|Do.s (s.c (Qt.a (q.kI (i:=i) (bB 0 O) O O Tryz.underlying46 FX O (by omega))) O) (fun _=>(aD [1] [] O)) O fun _=>?_
 refine D.one (i:=6) O<|Do.s (s.tH (a:=i) 0 _ O O O (fun w hw=>Sl.from (hw.row 0 O) (by omega)) kj (by omega) (by simp;omega) O O) (fun _=>(aD [1] [] O)) O fun _=>?_
 refine D.q (i:=7) O (aD [1] [] O) O (q.as O) O<|D.done<|R.reg O<|R.u 2 O<|R.q (q.len' (bB 0 O) O Tryz.underlying46) O<|R.u 1 O<|R.q (q.sl2 (i:=(l.take i++(l.drop j)).length) (j:=l.length) (bB 0 O) O O O fu O O (by (simp;omega)) (by (simp [fh];omega))) O<|R.s O (s.zd (lo:=(l.take i++(l.drop j)).length) (hi:=l.length) (z0:=(⟨0,⟨#[]⟩,0,0⟩:Note)) 0 O O fu eU O (by omega) (by (simp;omega)) (by (simp [fh];omega))) fun _=>?_
 refine R.nil<|R.reg O<|R.u 2 O<|R.nil ?_
 have hz:l.take i++l.drop j=(l.take i++(l.drop j)):=by (rfl)
 rw [hz]
 exact R.w1 (kI bN (i+(l.drop j).length)) [0,1] [] O Tryz.results129 (RV.tmp O) O O O O
theorem iw (bN:Value)(l:List aE)(pr:aE->Bool)(ia:Nat)(kE:List Value)(jo:∀args w,(callFunc ia args).run Tryz.prog w = .ok (.enter ia args) w)(w:World)(ew:Sl w bN l)(mH:∀W (x1:aE),Ext w W->Calls Tryz.prog ia ([x1.val]++kE).toArray W fun e w'=>e = .returned (.bool (pr x1))/\Ext W w'):Calls Tryz.prog 166 #[bN,.func (.func ia) #[] kE.toArray] w fun e w'=>e = .returned (iV (idxOf pr l))/\Ext w w':=by
 have zq:=ew.fA
 refine R.enter [] [(0,bN),(1,.func (.func ia) #[] kE.toArray)] Tryz.func166 O O O O<|R.reg O<|R.u 1 O<|R.nil<|R.reg O<|R.u 1 O<|R.q (q.len' (fun _=>Wd.old ew) O Tryz.underlying44) O<|R.u 1 O<|R.nil<|R.loop (fun k:Nat=>[(0,bN),(1,.func (.func ia) #[] kE.toArray),(7,iV (l.length:Int)),(8,iV (k:Int))]) (fun k:Nat=>[]) (fun k:Nat=>[]) (fun k:Nat=>k<=l.length /\ ∀ (j:Nat) x,j<k->l[j]? = some x->pr x=false) (fun k:Nat=>l.length-k) 0 O (by exact ⟨by omega,fun j x hj=>absurd hj (Nat.not_lt_zero _)⟩) (sF O) (ic [] [] O) ?_
 rintro k ⟨hk,HA⟩
 refine R.reg O<|?_
 by_cases h1:k<l.length
 .
  refine R.q (q.dx O O) O<|R.nil<|R.av O O<|R.reg O<|R.u 2 O<|R.nil<|R.reg O<|R.u 3 O<|?_
  obtain ⟨x1,hx1⟩:∃z,l[k]? = some z:=⟨_,List.getElem?_eq_getElem (by omega)⟩
  refine R.q (q.idx (i:=k) (fun _=>Wd.old ew) O O iM O hx1) O<|R.q (q.eS (ds:=mT x1) (fun _=>Wd.old ew) hx1 O gx O) O<|?_
  rcases Bool.eq_false_or_eq_true (pr x1) with h2|h2
  .
   refine R.c (q.call jo O O (fun w hw=>cv (congrArg Value.bool h2) (mH w x1 hw.ext))) O<|R.nil ?_
   exact R.av O O<|R.reg O<|R.u 2 O<|R.nil<|R.rv O Tryz.results166 O (rI (by (exact (idxOf_hit hx1 ‹_› HA).symm)))
  refine R.c (q.call jo O O (fun w hw=>cv (congrArg Value.bool h2) (mH w x1 hw.ext))) O<|R.nil ?_
  refine R.aA O O<|R.reg O<|R.q (q.bA (r:=((k+1:Nat):Int)) O O) O<|R.u 1 O<|R.nil<|R.back (k+1) O (by (exact ⟨by omega,oa HA hx1 ‹_›⟩)) (by omega) (sF O) (ic [] [] O)
 exact R.q (q.cU O O) O<|R.nil<|R.aA O O<|R.reg O<|R.u 1 O<|R.nil<|R.rv O Tryz.results166 O (rI (by (exact (idxOf_miss ‹_› HA).symm)))
theorem nh (bN:Value)(l:List Note)(pr:Note->Bool)(ia:Nat)(kE:List Value)(jo:∀args w,(callFunc ia args).run Tryz.prog w = .ok (.enter ia args) w)(w:World)(ew:Sl w bN l)(mH:∀W (x1:Note),Ext w W->Calls Tryz.prog ia ([x1.val]++kE).toArray W fun e w'=>e = .returned (.bool (pr x1))/\Ext W w'):Calls Tryz.prog 126 #[bN,.func (.func ia) #[] kE.toArray] w fun e w'=>e = .returned (iV (idxOf pr l))/\Ext w w':=by
 have zq:=ew.fA
 refine R.enter [] [(0,bN),(1,.func (.func ia) #[] kE.toArray)] Tryz.func126 O O O O<|R.reg O<|R.u 1 O<|R.nil<|R.reg O<|R.u 1 O<|R.q (q.len' (fun _=>Wd.old ew) O Tryz.underlying46) O<|R.u 1 O<|R.nil<|R.loop (fun k:Nat=>[(0,bN),(1,.func (.func ia) #[] kE.toArray),(7,iV (l.length:Int)),(8,iV (k:Int))]) (fun k:Nat=>[]) (fun k:Nat=>[]) (fun k:Nat=>k<=l.length /\ ∀ (j:Nat) x,j<k->l[j]? = some x->pr x=false) (fun k:Nat=>l.length-k) 0 O (by exact ⟨by omega,fun j x hj=>absurd hj (Nat.not_lt_zero _)⟩) (sF O) (ic [] [] O) ?_
 rintro k ⟨hk,HA⟩
 refine R.reg O<|?_
 by_cases h1:k<l.length
 .
  refine R.q (q.dx O O) O<|R.nil<|R.av O O<|R.reg O<|R.u 2 O<|R.nil<|R.reg O<|R.u 3 O<|?_
  obtain ⟨x1,hx1⟩:∃z,l[k]? = some z:=⟨_,List.getElem?_eq_getElem (by omega)⟩
  refine R.q (q.idx (i:=k) (fun _=>Wd.old ew) O O fu O hx1) O<|R.q (q.eS (ds:=ou x1) (fun _=>Wd.old ew) hx1 O dh O) O<|?_
  rcases Bool.eq_false_or_eq_true (pr x1) with h2|h2
  .
   refine R.c (q.call jo O O (fun w hw=>cv (congrArg Value.bool h2) (mH w x1 hw.ext))) O<|R.nil ?_
   exact R.av O O<|R.reg O<|R.u 2 O<|R.nil<|R.rv O Tryz.results126 O (rI (by (exact (idxOf_hit hx1 ‹_› HA).symm)))
  refine R.c (q.call jo O O (fun w hw=>cv (congrArg Value.bool h2) (mH w x1 hw.ext))) O<|R.nil ?_
  refine R.aA O O<|R.reg O<|R.q (q.bA (r:=((k+1:Nat):Int)) O O) O<|R.u 1 O<|R.nil<|R.back (k+1) O (by (exact ⟨by omega,oa HA hx1 ‹_›⟩)) (by omega) (sF O) (ic [] [] O)
 exact R.q (q.cU O O) O<|R.nil<|R.aA O O<|R.reg O<|R.u 1 O<|R.nil<|R.rv O Tryz.results126 O (rI (by (exact (idxOf_miss ‹_› HA).symm)))
theorem ni (bN:Value)(l:List Held)(pr:Held->Bool)(ia:Nat)(kE:List Value)(jo:∀args w,(callFunc ia args).run Tryz.prog w = .ok (.enter ia args) w)(w:World)(ew:Sl w bN l)(mH:∀W (x1:Held),Ext w W->Calls Tryz.prog ia ([x1.val]++kE).toArray W fun e w'=>e = .returned (.bool (pr x1))/\Ext W w'):Calls Tryz.prog 168 #[bN,.func (.func ia) #[] kE.toArray] w fun e w'=>e = .returned (iV (idxOf pr l))/\Ext w w':=by
 have zq:=ew.fA
 refine R.enter [] [(0,bN),(1,.func (.func ia) #[] kE.toArray)] Tryz.func168 O O O O<|R.reg O<|R.u 1 O<|R.nil<|R.reg O<|R.u 1 O<|R.q (q.len' (fun _=>Wd.old ew) O Tryz.underlying45) O<|R.u 1 O<|R.nil<|R.loop (fun k:Nat=>[(0,bN),(1,.func (.func ia) #[] kE.toArray),(7,iV (l.length:Int)),(8,iV (k:Int))]) (fun k:Nat=>[]) (fun k:Nat=>[]) (fun k:Nat=>k<=l.length /\ ∀ (j:Nat) x,j<k->l[j]? = some x->pr x=false) (fun k:Nat=>l.length-k) 0 O (by exact ⟨by omega,fun j x hj=>absurd hj (Nat.not_lt_zero _)⟩) (sF O) (ic [] [] O) ?_
 rintro k ⟨hk,HA⟩
 refine R.reg O<|?_
 by_cases h1:k<l.length
 .
  refine R.q (q.dx O O) O<|R.nil<|R.av O O<|R.reg O<|R.u 2 O<|R.nil<|R.reg O<|R.u 3 O<|?_
  obtain ⟨x1,hx1⟩:∃z,l[k]? = some z:=⟨_,List.getElem?_eq_getElem (by omega)⟩
  refine R.q (q.idx (i:=k) (fun _=>Wd.old ew) O O cI O hx1) O<|R.q (q.eS (ds:=lI x1) (fun _=>Wd.old ew) hx1 O eV O) O<|?_
  rcases Bool.eq_false_or_eq_true (pr x1) with h2|h2
  .
   refine R.c (q.call jo O O (fun w hw=>cv (congrArg Value.bool h2) (mH w x1 hw.ext))) O<|R.nil ?_
   exact R.av O O<|R.reg O<|R.u 2 O<|R.nil<|R.rv O Tryz.results168 O (rI (by (exact (idxOf_hit hx1 ‹_› HA).symm)))
  refine R.c (q.call jo O O (fun w hw=>cv (congrArg Value.bool h2) (mH w x1 hw.ext))) O<|R.nil ?_
  refine R.aA O O<|R.reg O<|R.q (q.bA (r:=((k+1:Nat):Int)) O O) O<|R.u 1 O<|R.nil<|R.back (k+1) O (by (exact ⟨by omega,oa HA hx1 ‹_›⟩)) (by omega) (sF O) (ic [] [] O)
 exact R.q (q.cU O O) O<|R.nil<|R.aA O O<|R.reg O<|R.u 1 O<|R.nil<|R.rv O Tryz.results168 O (rI (by (exact (idxOf_miss ‹_› HA).symm)))
theorem uc (bN:Value)(l:List aE)(pr:aE->Bool)(ia:Nat)(kE:List Value)(jo:∀args w,(callFunc ia args).run Tryz.prog w = .ok (.enter ia args) w)(w:World)(own:List Nat)(H:HN w own [ag.row 100 bN l] [])(mH:∀W (x1:aE),lS (blks [ag.row 100 bN l]) w W->Calls Tryz.prog ia ([x1.val]++kE).toArray W fun e w'=>e = .returned (.bool (pr x1))/\Ext W w')(hl:l.length<=1000000):RC Tryz.prog 111 #[bN,.func (.func ia) #[] kE.toArray] H (fun z:Value=>z) (fun z=>[ag.row 100 z (l.filter (fun x => !pr x))]) (fun _=>[]):=by
 have Hj:=H.cap 0 rfl;have yz:=H.cL 0 rfl
 refine R.bC [(0,bN),(1,.func (.func ia) #[] kE.toArray)] Tryz.func111 O O O O H<|R.reg O<|R.u 1 O<|R.nil<|R.reg O<|R.u 2 O<|?_
 rcases j5 pr l with ⟨gU,Eo⟩ | ⟨rz,Em,gU,lW,ve,AQ,TE⟩
 .
  refine R.c (q.call AF O O (fun w hw=>(cv (congrArg (Value.int .i64) gU) (iw _ l pr _ _ jo w (hw.row 0 O) (fun W x1 hW=>mH W x1 ((hw.u6 1 O).trans ((Ext.upd hW).mono (by simp)))) )))) O<|R.u 1 O<|R.nil ?_
  refine R.reg O<|R.u 1 O<|R.q (q.eql (b:=true) O O (by decide)) O<|R.nil<|R.av O O<|R.reg O<|R.u 2 O<|R.nil ?_
  have hz:l.filter (fun x => !pr x)=l:=by (exact xG Eo)
  rw [hz]
  exact R.w1 bN [0,1] [] O Tryz.results111 (RV.tmp O) O O O O
 refine R.c (q.call AF O O (fun w hw=>(cv (congrArg (Value.int .i64) gU) (iw _ l pr _ _ jo w (hw.row 0 O) (fun W x1 hW=>mH W x1 ((hw.u6 1 O).trans ((Ext.upd hW).mono (by simp)))) )))) O<|R.u 1 O<|R.nil ?_
 refine R.reg O<|R.u 1 O<|R.q (q.e8 O O) O<|R.nil<|R.aA O O<|R.reg O<|R.u 1 O<|R.q (q.bA (r:=((rz+1:Nat):Int)) O O) O<|R.u 1 O<|R.nil<|R.loop (fun g_:Nat×Nat×(List aE)=>[(0,bN),(1,.func (.func ia) #[] kE.toArray),(5,iV (g_.1:Int)),(6,iV (g_.2.1:Int))]) (fun g_=>[ag.row 100 bN g_.2.2,ag.held w own]) (fun g_=>[]) (fun g_=>pz pr l g_.2.2 g_.1 g_.2.1) (fun g_=>l.length-g_.2.1) (rz,(rz+1),l) O (by exact pz.start lW ve AQ) (sF O) (ic [0,1] [] O) ?_
 rintro ⟨a,b,acc⟩ HA
 dsimp only at *
 have t1:=HA.1;have t2:=HA.2.1;have t3:=HA.2.2.1
 refine R.reg O<|R.u 2 O<|R.q (q.len' (bB 0 O) O Tryz.underlying44) O<|?_
 by_cases h1:b<acc.length
 .
  refine R.q (q.dx O O) O<|R.nil<|R.av O O<|R.reg O<|R.u 2 O<|?_
  obtain ⟨x1,hx1⟩:∃z,acc[b]? = some z:=⟨_,List.getElem?_eq_getElem (by omega)⟩
  refine R.q (q.idx (i:=b) (bB 0 O) O O iM O hx1) O<|R.q (q.eS (ds:=mT x1) (bB 0 O) hx1 O gx O) O<|R.s O (s.alloc ju O O) fun b1=>?_
  refine R.s O (s.st 0 _ O O O O (.inl gx) O O O O) fun _=>?_
  refine R.nil<|R.reg O<|R.u 1 O<|R.q (q.dt 0 O O gx) O<|?_
  rcases Bool.eq_false_or_eq_true (pr x1) with h2|h2
  .
   refine R.c (q.call jo O O (fun w hw=>cv (congrArg Value.bool h2) (mH w x1 (hw.u6 2 O)))) O<|R.u 1 O<|R.nil ?_
   refine R.aA O O<|R.reg O<|R.u 1 O<|R.q (q.bA (r:=((b+1:Nat):Int)) O O) O<|R.u 1 O<|R.nil<|R.back (a,(b+1),acc) O (by (exact HA.skip hx1 ‹_›)) (by dsimp only;omega) (sF O) (aD [1,2] [] O)
  refine R.c (q.call jo O O (fun w hw=>cv (congrArg Value.bool h2) (mH w x1 (hw.u6 2 O)))) O<|R.u 1 O<|R.nil ?_
  refine R.av O O<|R.reg O<|R.u 2 O<|R.q (q.dt 0 O O gx) O<|?_
  obtain ⟨x2,hx2⟩:∃z,acc[a]? = some z:=⟨_,List.getElem?_eq_getElem (by omega)⟩
  refine R.q (q.idx (i:=a) (bB 1 O) O O iM O hx2) O<|R.s O (s.QY (z:=x1) 1 _ O hx2 O O O O (.inl gx) O) fun _=>?_
  refine R.nil<|R.reg O<|R.u 1 O<|R.q (q.bA (r:=((a+1:Nat):Int)) O O) O<|R.u 1 O<|R.nil<|R.reg O<|R.u 1 O<|R.q (q.bA (r:=((b+1:Nat):Int)) O O) O<|R.u 1 O<|R.nil<|R.back ((a+1),(b+1),(acc.set a x1)) O (by (exact HA.keep hx1 ‹_›)) (by dsimp only;omega) (sF O) (aD [1,2] [] O)
 refine R.q (q.cU O O) O<|R.nil<|R.aA O O<|R.reg O<|R.u 2 O<|R.q (q.dA (i:=a) (bB 0 O) O O iM O (by omega)) O<|R.s O (s.OP (lo:=a) (z0:=(⟨0,0,⟨#[]⟩⟩:aE)) 0 _ O O iM ju O (by omega) O) fun _=>?_
 refine R.nil<|R.reg O<|R.u 2 O<|R.q (q.kI (i:=a) (bB 0 O) O O Tryz.underlying44 Ma O (by (simp;omega))) O<|R.u 1 O<|R.nil<|R.IX 0 a _ O (by (simp;omega)) O ?_
 have hz:l.filter (fun x => !pr x)=((acc.take a++List.replicate (acc.length-a) (⟨0,0,⟨#[]⟩⟩:aE)).take a):=by (exact HA.done (by omega))
 rw [hz]
 exact R.w1 (kI bN a) [0,1] [] O Tryz.results111 (RV.tmp O) O O O O
theorem vm (bN:Value)(l:List Held)(pr:Held->Bool)(ia:Nat)(kE:List Value)(jo:∀args w,(callFunc ia args).run Tryz.prog w = .ok (.enter ia args) w)(w:World)(own:List Nat)(H:HN w own [ag.row 124 bN l] [])(mH:∀W (x1:Held),lS (blks [ag.row 124 bN l]) w W->Calls Tryz.prog ia ([x1.val]++kE).toArray W fun e w'=>e = .returned (.bool (pr x1))/\Ext W w')(hl:l.length<=1000000):RC Tryz.prog 114 #[bN,.func (.func ia) #[] kE.toArray] H (fun z:Value=>z) (fun z=>[ag.row 124 z (l.filter (fun x => !pr x))]) (fun _=>[]):=by
 have Hj:=H.cap 0 rfl;have yz:=H.cL 0 rfl
 refine R.bC [(0,bN),(1,.func (.func ia) #[] kE.toArray)] Tryz.func114 O O O O H<|R.reg O<|R.u 1 O<|R.nil<|R.reg O<|R.u 2 O<|?_
 rcases j5 pr l with ⟨gU,Eo⟩ | ⟨rz,Em,gU,lW,ve,AQ,TE⟩
 .
  refine R.c (q.call Jp O O (fun w hw=>(cv (congrArg (Value.int .i64) gU) (ni _ l pr _ _ jo w (hw.row 0 O) (fun W x1 hW=>mH W x1 ((hw.u6 1 O).trans ((Ext.upd hW).mono (by simp)))) )))) O<|R.u 1 O<|R.nil ?_
  refine R.reg O<|R.u 1 O<|R.q (q.eql (b:=true) O O (by decide)) O<|R.nil<|R.av O O<|R.reg O<|R.u 2 O<|R.nil ?_
  have hz:l.filter (fun x => !pr x)=l:=by (exact xG Eo)
  rw [hz]
  exact R.w1 bN [0,1] [] O Tryz.results114 (RV.tmp O) O O O O
 refine R.c (q.call Jp O O (fun w hw=>(cv (congrArg (Value.int .i64) gU) (ni _ l pr _ _ jo w (hw.row 0 O) (fun W x1 hW=>mH W x1 ((hw.u6 1 O).trans ((Ext.upd hW).mono (by simp)))) )))) O<|R.u 1 O<|R.nil ?_
 refine R.reg O<|R.u 1 O<|R.q (q.e8 O O) O<|R.nil<|R.aA O O<|R.reg O<|R.u 1 O<|R.q (q.bA (r:=((rz+1:Nat):Int)) O O) O<|R.u 1 O<|R.nil<|R.loop (fun g_:Nat×Nat×(List Held)=>[(0,bN),(1,.func (.func ia) #[] kE.toArray),(5,iV (g_.1:Int)),(6,iV (g_.2.1:Int))]) (fun g_=>[ag.row 124 bN g_.2.2,ag.held w own]) (fun g_=>[]) (fun g_=>pz pr l g_.2.2 g_.1 g_.2.1) (fun g_=>l.length-g_.2.1) (rz,(rz+1),l) O (by exact pz.start lW ve AQ) (sF O) (ic [0,1] [] O) ?_
 rintro ⟨a,b,acc⟩ HA
 dsimp only at *
 have t1:=HA.1;have t2:=HA.2.1;have t3:=HA.2.2.1
 refine R.reg O<|R.u 2 O<|R.q (q.len' (bB 0 O) O Tryz.underlying45) O<|?_
 by_cases h1:b<acc.length
 .
  refine R.q (q.dx O O) O<|R.nil<|R.av O O<|R.reg O<|R.u 2 O<|?_
  obtain ⟨x1,hx1⟩:∃z,acc[b]? = some z:=⟨_,List.getElem?_eq_getElem (by omega)⟩
  refine R.q (q.idx (i:=b) (bB 0 O) O O cI O hx1) O<|R.q (q.eS (ds:=lI x1) (bB 0 O) hx1 O eV O) O<|R.s O (s.alloc gY O O) fun b1=>?_
  refine R.s O (s.st 0 _ O O O O (.inl eV) O O O O) fun _=>?_
  refine R.nil<|R.reg O<|R.u 1 O<|R.q (q.dt 0 O O eV) O<|?_
  rcases Bool.eq_false_or_eq_true (pr x1) with h2|h2
  .
   refine R.c (q.call jo O O (fun w hw=>cv (congrArg Value.bool h2) (mH w x1 (hw.u6 2 O)))) O<|R.u 1 O<|R.nil ?_
   refine R.aA O O<|R.reg O<|R.u 1 O<|R.q (q.bA (r:=((b+1:Nat):Int)) O O) O<|R.u 1 O<|R.nil<|R.back (a,(b+1),acc) O (by (exact HA.skip hx1 ‹_›)) (by dsimp only;omega) (sF O) (aD [1,2] [] O)
  refine R.c (q.call jo O O (fun w hw=>cv (congrArg Value.bool h2) (mH w x1 (hw.u6 2 O)))) O<|R.u 1 O<|R.nil ?_
  refine R.av O O<|R.reg O<|R.u 2 O<|R.q (q.dt 0 O O eV) O<|?_
  obtain ⟨x2,hx2⟩:∃z,acc[a]? = some z:=⟨_,List.getElem?_eq_getElem (by omega)⟩
  refine R.q (q.idx (i:=a) (bB 1 O) O O cI O hx2) O<|R.s O (s.QY (z:=x1) 1 _ O hx2 O O O O (.inl eV) O) fun _=>?_
  refine R.nil<|R.reg O<|R.u 1 O<|R.q (q.bA (r:=((a+1:Nat):Int)) O O) O<|R.u 1 O<|R.nil<|R.reg O<|R.u 1 O<|R.q (q.bA (r:=((b+1:Nat):Int)) O O) O<|R.u 1 O<|R.nil<|R.back ((a+1),(b+1),(acc.set a x1)) O (by (exact HA.keep hx1 ‹_›)) (by dsimp only;omega) (sF O) (aD [1,2] [] O)
 refine R.q (q.cU O O) O<|R.nil<|R.aA O O<|R.reg O<|R.u 2 O<|R.q (q.dA (i:=a) (bB 0 O) O O cI O (by omega)) O<|R.s O (s.OP (lo:=a) (z0:=(⟨(⟨0,0⟩:Place),0⟩:Held)) 0 _ O O cI gY O (by omega) O) fun _=>?_
 refine R.nil<|R.reg O<|R.u 2 O<|R.q (q.kI (i:=a) (bB 0 O) O O Tryz.underlying45 vv O (by (simp;omega))) O<|R.u 1 O<|R.nil<|R.IX 0 a _ O (by (simp;omega)) O ?_
 have hz:l.filter (fun x => !pr x)=((acc.take a++List.replicate (acc.length-a) (⟨(⟨0,0⟩:Place),0⟩:Held)).take a):=by (exact HA.done (by omega))
 rw [hz]
 exact R.w1 (kI bN a) [0,1] [] O Tryz.results114 (RV.tmp O) O O O O
theorem vo (bN:Value)(l:List aj)(pr:aj->Bool)(ia:Nat)(kE:List Value)(jo:∀args w,(callFunc ia args).run Tryz.prog w = .ok (.enter ia args) w)(w:World)(own:List Nat)(H:HN w own [ag.row 127 bN l] [])(mH:∀W (x1:aj),lS (blks [ag.row 127 bN l]) w W->Calls Tryz.prog ia ([x1.val]++kE).toArray W fun e w'=>e = .returned (.bool (pr x1))/\Ext W w')(hl:l.length<=1000000):RC Tryz.prog 123 #[bN,.func (.func ia) #[] kE.toArray] H (fun z:Value=>z) (fun z=>[ag.row 127 z (l.filter (fun x => !pr x))]) (fun _=>[]):=by
 have Hj:=H.cap 0 rfl;have yz:=H.cL 0 rfl
 refine R.bC [(0,bN),(1,.func (.func ia) #[] kE.toArray)] Tryz.func123 O O O O H<|R.reg O<|R.u 1 O<|R.nil<|R.reg O<|R.u 2 O<|?_
 rcases j5 pr l with ⟨gU,Eo⟩ | ⟨rz,Em,gU,lW,ve,AQ,TE⟩
 .
  refine R.c (q.call EB O O (fun w hw=>(cv (congrArg (Value.int .i64) gU) (mG _ l pr _ _ jo w (hw.row 0 O) (fun W x1 hW=>mH W x1 ((hw.u6 1 O).trans ((Ext.upd hW).mono (by simp)))) )))) O<|R.u 1 O<|R.nil ?_
  refine R.reg O<|R.u 1 O<|R.q (q.eql (b:=true) O O (by decide)) O<|R.nil<|R.av O O<|R.reg O<|R.u 2 O<|R.nil ?_
  have hz:l.filter (fun x => !pr x)=l:=by (exact xG Eo)
  rw [hz]
  exact R.w1 bN [0,1] [] O Tryz.results123 (RV.tmp O) O O O O
 refine R.c (q.call EB O O (fun w hw=>(cv (congrArg (Value.int .i64) gU) (mG _ l pr _ _ jo w (hw.row 0 O) (fun W x1 hW=>mH W x1 ((hw.u6 1 O).trans ((Ext.upd hW).mono (by simp)))) )))) O<|R.u 1 O<|R.nil ?_
 refine R.reg O<|R.u 1 O<|R.q (q.e8 O O) O<|R.nil<|R.aA O O<|R.reg O<|R.u 1 O<|R.q (q.bA (r:=((rz+1:Nat):Int)) O O) O<|R.u 1 O<|R.nil<|R.loop (fun g_:Nat×Nat×(List aj)=>[(0,bN),(1,.func (.func ia) #[] kE.toArray),(5,iV (g_.1:Int)),(6,iV (g_.2.1:Int))]) (fun g_=>[ag.row 127 bN g_.2.2,ag.held w own]) (fun g_=>[]) (fun g_=>pz pr l g_.2.2 g_.1 g_.2.1) (fun g_=>l.length-g_.2.1) (rz,(rz+1),l) O (by exact pz.start lW ve AQ) (sF O) (ic [0,1] [] O) ?_
 rintro ⟨a,b,acc⟩ HA
 dsimp only at *
 have t1:=HA.1;have t2:=HA.2.1;have t3:=HA.2.2.1
 refine R.reg O<|R.u 2 O<|R.q (q.len' (bB 0 O) O Tryz.underlying43) O<|?_
 by_cases h1:b<acc.length
 .
  refine R.q (q.dx O O) O<|R.nil<|R.av O O<|R.reg O<|R.u 2 O<|?_
  obtain ⟨x1,hx1⟩:∃z,acc[b]? = some z:=⟨_,List.getElem?_eq_getElem (by omega)⟩
  refine R.q (q.idx (i:=b) (bB 0 O) O O dJ O hx1) O<|R.q (q.eS (ds:=im x1) (bB 0 O) hx1 O aM O) O<|R.s O (s.alloc bO O O) fun b1=>?_
  refine R.s O (s.st 0 _ O O O O (.inl aM) O O O O) fun _=>?_
  refine R.nil<|R.reg O<|R.u 1 O<|R.q (q.dt 0 O O aM) O<|?_
  rcases Bool.eq_false_or_eq_true (pr x1) with h2|h2
  .
   refine R.c (q.call jo O O (fun w hw=>cv (congrArg Value.bool h2) (mH w x1 (hw.u6 2 O)))) O<|R.u 1 O<|R.nil ?_
   refine R.aA O O<|R.reg O<|R.u 1 O<|R.q (q.bA (r:=((b+1:Nat):Int)) O O) O<|R.u 1 O<|R.nil<|R.back (a,(b+1),acc) O (by (exact HA.skip hx1 ‹_›)) (by dsimp only;omega) (sF O) (aD [1,2] [] O)
  refine R.c (q.call jo O O (fun w hw=>cv (congrArg Value.bool h2) (mH w x1 (hw.u6 2 O)))) O<|R.u 1 O<|R.nil ?_
  refine R.av O O<|R.reg O<|R.u 2 O<|R.q (q.dt 0 O O aM) O<|?_
  obtain ⟨x2,hx2⟩:∃z,acc[a]? = some z:=⟨_,List.getElem?_eq_getElem (by omega)⟩
  refine R.q (q.idx (i:=a) (bB 1 O) O O dJ O hx2) O<|R.s O (s.QY (z:=x1) 1 _ O hx2 O O O O (.inl aM) O) fun _=>?_
  refine R.nil<|R.reg O<|R.u 1 O<|R.q (q.bA (r:=((a+1:Nat):Int)) O O) O<|R.u 1 O<|R.nil<|R.reg O<|R.u 1 O<|R.q (q.bA (r:=((b+1:Nat):Int)) O O) O<|R.u 1 O<|R.nil<|R.back ((a+1),(b+1),(acc.set a x1)) O (by (exact HA.keep hx1 ‹_›)) (by dsimp only;omega) (sF O) (aD [1,2] [] O)
 refine R.q (q.cU O O) O<|R.nil<|R.aA O O<|R.reg O<|R.u 2 O<|R.q (q.dA (i:=a) (bB 0 O) O O dJ O (by omega)) O<|R.s O (s.OP (lo:=a) (z0:=(⟨0,0,0,0,0⟩:aj)) 0 _ O O dJ bO O (by omega) O) fun _=>?_
 refine R.nil<|R.reg O<|R.u 2 O<|R.q (q.kI (i:=a) (bB 0 O) O O Tryz.underlying43 Ay O (by (simp;omega))) O<|R.u 1 O<|R.nil<|R.IX 0 a _ O (by (simp;omega)) O ?_
 have hz:l.filter (fun x => !pr x)=((acc.take a++List.replicate (acc.length-a) (⟨0,0,0,0,0⟩:aj)).take a):=by (exact HA.done (by omega))
 rw [hz]
 exact R.w1 (kI bN a) [0,1] [] O Tryz.results123 (RV.tmp O) O O O O
theorem uM (bN:Value)(l:List aj)(w:World)(ew:Sl w bN l)(hl:l.length<=1000000):Calls Tryz.prog 110 #[bN] w fun e w' => ∃u,e = .returned u/\Own w.heap.size 3 w' u (bT l)/\Ext w w':=E5 bN l w ew hl
theorem E7 (bN:Value)(l:List Int)(x:Int)(w:World)(ew:Sl w bN l):Calls Tryz.prog 167 #[bN,iV x] w fun e w'=>e = .returned (iV (idxOf (fun y=>y==x) l))/\Ext w w':=by
 have zq:=ew.fA
 refine R.enter [] [(0,bN),(1,iV x)] Tryz.func167 O O O O<|R.reg O<|R.u 1 O<|R.nil<|R.reg O<|R.u 1 O<|R.q (q.len' (fun _=>Wd.old ew) O Tryz.underlying159) O<|R.u 1 O<|R.nil<|R.loop (fun k:Nat=>[(0,bN),(1,iV x),(7,iV (l.length:Int)),(8,iV (k:Int))]) (fun k:Nat=>[]) (fun k:Nat=>[]) (fun k:Nat=>k<=l.length /\ ∀ (j:Nat) y,j<k->l[j]? = some y->(y==x)=false) (fun k:Nat=>l.length-k) 0 O (by exact ⟨by omega,fun j x hj=>absurd hj (Nat.not_lt_zero _)⟩) (sF O) (ic [] [] O) ?_
 rintro k ⟨hk,HA⟩
 refine R.reg O<|?_
 by_cases h1:k<l.length
 .
  refine R.q (q.dx O O) O<|R.nil<|R.av O O<|R.reg O<|R.u 2 O<|R.nil<|R.reg O<|R.u 3 O<|?_
  obtain ⟨x1,hx1⟩:∃z,l[k]? = some z:=⟨_,List.getElem?_eq_getElem (by omega)⟩
  refine R.q (q.idx (i:=k) (fun _=>Wd.old ew) O O da O hx1) O<|R.q (q.lv (fun _=>Wd.old ew) hx1 O au O) O<|?_
  by_cases h2:x=x1
  .
   exact R.q (q.fN O O) O<|R.nil<|R.av O O<|R.reg O<|R.u 2 O<|R.nil<|R.rv O Tryz.results167 O (rI (by (exact (idxOf_hit (p:=fun y=>y==x) hx1 (beq_iff_eq.2 (by omega)) HA).symm)))
  refine R.q (q.e8 O O) O<|R.nil<|R.aA O O<|R.reg O<|R.q (q.bA (r:=((k+1:Nat):Int)) O O) O<|R.u 1 O<|R.nil<|R.back (k+1) O (by (exact ⟨by omega,oa (p:=fun y=>y==x) HA hx1 (beq_eq_false_iff_ne.2 (by omega))⟩)) (by omega) (sF O) (ic [] [] O)
 exact R.q (q.cU O O) O<|R.nil<|R.aA O O<|R.reg O<|R.u 1 O<|R.nil<|R.rv O Tryz.results167 O (rI (by (exact (idxOf_miss ‹_› HA).symm)))
theorem Gv {l:List Int}{x:Int}:(0<=idxOf (fun y=>y==x) l)=(x∈l):=by
 rcases j5 (fun y:Int=>y==x) l with ⟨h,hn⟩ | ⟨k,y,h,hy,he,_,_⟩
 .rw [h];simp;intro hm;have:=hn x hm;simp at this
 .
  rw [h];simp
  have:y=x:=by simpa using he
  subst this;exact List.mem_of_getElem? hy
theorem fM (bN:Value)(l:List Int)(x:Int)(w:World)(ew:Sl w bN l):Calls Tryz.prog 113 #[bN,iV x] w fun e w'=>e = .returned (.bool (decide (x∈l)))/\Ext w w':=by
 have zq:=ew.fA
 refine R.enter [] [(0,bN),(1,iV x)] Tryz.func113 O O O O<|R.reg O<|R.u 1 O<|R.nil<|R.reg O<|R.u 2 O<|R.c (q.call Pq O O (fun w hw=>(E7 _ l x w ((fun _=>Wd.old ew) w hw) ))) O<|?_
 by_cases h1:idxOf (fun y=>y==x) l<0
 .
  exact R.q (q.IP O O) O<|R.u 1 O<|R.nil<|R.rv O Tryz.results113 O (rB (by (have e:=Gv (l:=l) (x:=x);exact (decide_eq_false (e▸(by omega))).symm)))
 exact R.q (q.G0 O O) O<|R.u 1 O<|R.nil<|R.rv O Tryz.results113 O (rB (by (have e:=Gv (l:=l) (x:=x);exact (decide_eq_true (e▸(by omega))).symm)))
theorem qV (bR bH bI bJ:Value)(r:aC)(p:Place)(w:World)(yN:Sl w bR r.ak)(BD:Sl w bH r.Things)(E8:Sl w bI r.Held)(MK:Sl w bJ r.Notes)(hk:Ok r):Calls Tryz.prog 118 #[.agg #[bR,bH,bI,bJ,iV r.ae,iV r.ah],.agg #[iV p.aB,iV p.Slot]] w fun e w'=>e = .returned (.tuple #[aj.val (aS r p).1,df (aS r p).2])/\Ext w w':=by
 have b1:=hk.hl
 refine R.enter [] [(0,.agg #[bR,bH,bI,bJ,iV r.ae,iV r.ah]),(1,.agg #[iV p.aB,iV p.Slot])] Tryz.func118 O O O O<|R.reg O<|R.s O (s.box O O O) fun b1=>?_
 refine R.s O (s.box O O O) fun b2=>?_
 refine R.s O (s.alloc bO O O) fun b3=>?_
 refine R.u 1 O<|R.nil<|R.reg O<|R.q (q.dt 1 O O bM) O<|R.c (q.call AB O O (fun w hw=>(kr p w ))) O<|R.u 1 O<|R.nil ?_
 refine R.reg O<|R.u 1 O<|?_
 by_cases h1:aY p=0
 .
  refine R.q (q.dB O O Tryz.underlying38) O<|R.nil<|R.aA O O ?_
  rcases fj r.ak (mU r.Held p) with ⟨gU,Eo⟩ | ⟨Df,lW,gU,ve,SL⟩
  .
   refine R.eu O mixed (by kernel_rfl)<|Q.q (q.aO O bg O) O<|Q.q (q.ld 2 O O bS O) O<|Q.q (q.aO O cz O) O<|Q.q (q.ld 2 O O dD O) O<|Q.q (q.dt 1 O O bM) O<|Q.c (q.call AG O O (fun w hw=>(mZ _ r.Held p w ((fun _=>Wd.old E8) w hw) (by omega)))) O<|Q.c (q.call lL O O (fun w hw=>(cv (congrArg (Value.int .i64) gU) (iD _ r.ak (mU r.Held p) w ((fun _=>Wd.old yN) w hw) )))) O<|Q.u 1 O<|Q.nil<|R.reg O<|R.u 1 O<|R.q (q.lss (b:=true) O O (by decide)) O<|R.nil<|R.av O O<|R.reg O<|R.q (q.build iY O O) O<|R.q (q.iface O bj) O<|R.s O (s.st 0 _ O O O O (.inl aM) O O O O) fun _=>?_
   exact R.u 1 O<|R.nil<|R.Ca O Tryz.results118 (RV.cell 0 O O aM) (RV.tmp O) (congrArg aj.val (show (⟨0,0,0,0,0⟩:aj)=(aS r p).1 from by (rw [zJ ‹_› gU];rfl))) (dj (by decide) (by (rw [zJ ‹_› gU];done)))
  refine R.eu O mixed (by kernel_rfl)<|Q.q (q.aO O bg O) O<|Q.q (q.ld 2 O O bS O) O<|Q.q (q.aO O cz O) O<|Q.q (q.ld 2 O O dD O) O<|Q.q (q.dt 1 O O bM) O<|Q.c (q.call AG O O (fun w hw=>(mZ _ r.Held p w ((fun _=>Wd.old E8) w hw) (by omega)))) O<|Q.c (q.call lL O O (fun w hw=>(cv (congrArg (Value.int .i64) gU) (iD _ r.ak (mU r.Held p) w ((fun _=>Wd.old yN) w hw) )))) O<|Q.u 1 O<|Q.nil<|R.reg O<|R.u 1 O<|R.q (q.cU O O) O<|R.nil<|R.aA O O<|R.reg O<|R.q (q.aO O bg O) O<|R.q (q.ld 2 O O bS O) O<|R.u 1 O<|R.q (q.idx (i:=Df) (fun _=>Wd.old yN) O O dJ O (List.getElem?_eq_getElem lW)) O<|R.q (q.eS (ds:=im (r.ak[Df])) (fun _=>Wd.old yN) (List.getElem?_eq_getElem lW) O aM O) O<|?_
  refine R.s O (s.st 0 _ O O O O (.inl aM) O O O O) fun _=>?_
  exact R.u 1 O<|R.nil<|R.Ca O Tryz.results118 (RV.cell 0 O O aM) (RV.tmp O) (congrArg aj.val (show (r.ak[Df])=(aS r p).1 from by (rw [Dk ‹_› gU (List.getElem?_eq_getElem lW)];done))) (iK (by (rw [Dk ‹_› gU (List.getElem?_eq_getElem lW)];done)))
 refine R.q (q.ej O O Tryz.underlying38) O<|R.nil<|R.av O O<|R.reg O<|R.q (q.build iY O O) O<|R.u 1 O<|R.s O (s.st 0 _ O O O O (.inl aM) O O O O) fun _=>?_
 exact R.u 1 O<|R.nil<|R.Ca O Tryz.results118 (RV.cell 0 O O aM) (RV.tmp O) (congrArg aj.val (show (⟨0,0,0,0,0⟩:aj)=(aS r p).1 from by (rw [xH ‹_›];rfl))) (rE (by (rw [xH ‹_›];done)))
theorem qW (bR bH bI bJ:Value)(r:aC)(p:Place)(w:World)(yN:Sl w bR r.ak)(BD:Sl w bH r.Things)(E8:Sl w bI r.Held)(MK:Sl w bJ r.Notes)(hk:Ok r):Calls Tryz.prog 116 #[.agg #[bR,bH,bI,bJ,iV r.ae,iV r.ah],.agg #[iV p.aB,iV p.Slot]] w fun e w'=>e = .returned (df (gL r p))/\Ext w w':=by
 have b1:=hk.hl
 refine R.enter [] [(0,.agg #[bR,bH,bI,bJ,iV r.ae,iV r.ah]),(1,.agg #[iV p.aB,iV p.Slot])] Tryz.func116 O O O O<|R.reg O<|R.s O (s.box O O O) fun b1=>?_
 refine R.s O (s.box O O O) fun b2=>?_
 refine R.u 1 O<|R.nil<|R.reg O<|R.q (q.dt 0 O O bM) O<|R.c (q.call AB O O (fun w hw=>(kr p w ))) O<|R.u 1 O<|R.nil ?_
 refine R.reg O<|R.u 1 O<|?_
 by_cases h1:aY p=0
 .
  refine R.q (q.mo O O Tryz.underlying38) O<|R.u 1 O<|R.qg O (q.aO O cz O) O<|R.qg O (q.ld 1 O O dD O) O<|R.qg O (q.dt 0 O O bM) O<|R.cg O (q.call AG O O (fun w hw=>(mZ _ r.Held p w ((fun _=>Wd.old E8) w hw) (by omega)))) O<|?_
  by_cases h2:mU r.Held p=0
  .
   exact R.qg O (q.lK O O) O<|R.u 1 O<|R.nil<|R.aA O O<|R.reg O<|R.u 2 O<|R.nil<|R.rv O Tryz.results116 O (rE (by (unfold gL;(rw [if_pos ‹_›,if_pos ‹_›];omega))))
  exact R.qg O (q.lJ O O) O<|R.u 1 O<|R.nil<|R.av O O<|R.reg O<|R.q (q.iface O bj) O<|R.u 1 O<|R.nil<|R.reg O<|R.u 2 O<|R.nil<|R.rv O Tryz.results116 O (dj (by decide) (by (unfold gL;(rw [if_pos ‹_›,if_neg ‹_›];done))))
 exact R.q (q.jG O O Tryz.underlying38) O<|R.u 7 O<|R.nil<|R.aA O O<|R.reg O<|R.u 2 O<|R.nil<|R.rv O Tryz.results116 O (rE (by (unfold gL;(rw [if_neg ‹_›];done))))
theorem qq (bR bH bI bJ:Value)(r:aC)(w0:aj)(p:Place)(w:World)(own:List Nat)(H:HN w own [] [ag.ls bR r.ak,ag.ls bH r.Things,ag.ls bI r.Held,ag.ls bJ r.Notes])(hk:r.Held.length<=3000/\r.ak.length<=3000/\0<=r.ae/\r.ae<=3000):RC Tryz.prog 117 #[.agg #[bR,bH,bI,bJ,iV r.ae,iV r.ah],.agg #[iV w0.ID,iV w0.aE,iV w0.Rights,iV w0.aQ,iV w0.From],.agg #[iV p.aB,iV p.Slot]] H (fun z:Value×Value×Value×Value => .agg #[z.1,z.2.1,z.2.2.1,z.2.2.2,iV (fx r w0 p).ae,iV (fx r w0 p).ah]) (fun _=>[]) (fun z=>[ag.ls z.1 (fx r w0 p).ak,ag.ls z.2.1 (fx r w0 p).Things,ag.ls z.2.2.1 (fx r w0 p).Held,ag.ls z.2.2.2 (fx r w0 p).Notes]):=by
 have eJ:=H.cq 0 rfl
 have dM:=H.cq 1 rfl
 have fG:=H.cq 2 rfl
 have eK:=H.cq 3 rfl
 have b1:=hk.1;have b2:=hk.2.1;have b3:=hk.2.2.1;have b4:=hk.2.2.2
 refine R.bC [(0,.agg #[bR,bH,bI,bJ,iV r.ae,iV r.ah]),(1,.agg #[iV w0.ID,iV w0.aE,iV w0.Rights,iV w0.aQ,iV w0.From]),(2,.agg #[iV p.aB,iV p.Slot])] Tryz.func117 O O O O H<|R.reg O<|R.s O (s.box O O O) fun b1=>?_
 refine R.s O (s.box O O O) fun b2=>?_
 refine R.s O (s.box O O O) fun b3=>?_
 refine R.s O (s.alloc dP O O) fun b4=>?_
 refine R.nil<|R.fY (fuel:=8) [0,1,2,4] O O mixed O<|D.q (i:=0) O (aD [0,1,2,4] bL O) O (q.aO O bg O) O<|D.q (i:=3) O (aD [0,1,2,4] bL O) O (q.dt 2 O O aM) O<|D.two (i:=1) (j:=4) O O ?_ ?_
 .
  refine Do.s (s.c (Qt.a (q.ld 3 O O bS O)) O) (fun _=>(aD [0,1,2,4] bL O)) O fun _=>?_
  refine D.two (i:=2) (j:=4) O O ?_ ?_
  .
   refine Do.s (s.aW gX [0] _ _ _ O O O wq O O (fun w own hw H=>jM bR r.ak w own H (by omega)) O) (fun _=>(aD [1,2,3,5] bL O)) O fun z2=>?_
   refine D.one (i:=4) O<|Do.s (s.bs (l:=([w0]:List aj)) dJ bO O O O O O O O) (fun _=>(aD o8 bL O)) O fun b5=>?_
   refine D.one (i:=5) O<|Do.s (s.app 1 _ O O O (bB 0 O) lj (by (simp;omega)) (by (simp;omega)) (fun _=>rfl) O) (fun _=>(aD o8 bL O)) O fun v1=>?_
   refine D.q (i:=6) O (aD o8 bL O) O (q.aO O bg O) O<|D.one (i:=7) O<|Do.s (s.fX 5 _ O O O (fun w hw=>Sl.cm (hw.row 1 O)) (.inr ⟨bS,rfl⟩) (fun w hw=>(af (Sl.one (hw.row 1 O)) aP)) O O O) (fun _=>(aD o8 bL O)) O fun _=>?_
   refine D.done<|R.reg O<|R.q (q.aO O cJ O) O<|R.q (q.ld 5 O O au O) O<|R.q (q.bA (r:=r.ae+1) O O) O<|R.q (q.aO O cJ O) O<|R.s O (s.st 5 _ O O O O (.inr ⟨au,rfl⟩) O O O O) fun _=>?_
   refine R.nil<|R.reg O<|R.q (q.aO O fq O) O<|R.q (q.ld 3 O O au O) O<|?_
   by_cases h1:0<p.aB
   .
    refine R.q (q.eL O O) O<|R.nil<|R.av O O<|R.reg O<|R.q (q.aO O cz O) O<|R.q (q.ld 5 O O dD O) O<|R.q (q.dt 3 O O bM) O<|R.q (q.aO O bU O) O<|R.q (q.ld 4 O O au O) O<|R.s O (s.aW mg [2] _ _ _ O O O tK O O (fun w own hw H=>qG bI r.Held p w0.ID w own H (by omega)) O) fun z3=>?_
    refine R.q (q.aO O cz O) O<|R.s O (s.fX 6 _ O O O (fun w hw=>Sl.cm (hw.row 0 O)) (.inr ⟨dD,rfl⟩) (fun w hw=>(af (Sl.one (hw.row 0 O)) aP)) O O O) fun _=>?_
    refine R.nil<|R.reg O<|R.q (q.dt 6 O O ao) O<|R.s O (s.fX 3 _ O O O (fun _ _=>rfl) (.inl ao) (fun w hw=>(af (Sl.one (hw.row 2 O)) (af (Sl.one (hw.bP 1 O)) (af (Sl.one (hw.row 0 O)) (af (Sl.one (hw.bP 3 O)) (af O (af O aP))))))) O O O) fun _=>?_
    refine R.nil<|R.mp (fun _ hw=>hw.cW 2 _ O O)<|R.mp (fun _ hw=>hw.cW 0 _ O O) ?_
    have hz:fx r w0 p=(⟨(r.ak++([w0])),r.Things,fP r.Held p w0.ID,r.Notes,(r.ae+1),r.ah⟩:aC):=by (unfold fx;(rw [if_pos ‹_›];done))
    rw [hz]
    exact R.w1 (v1,bH,z3,bJ) [5] [1,3,0,5] O Tryz.results117 (RV.cell 1 O O ao) O O O O
   refine R.q (q.eo O O) O<|R.nil<|R.aA O O<|R.reg O<|R.q (q.dt 5 O O ao) O<|R.s O (s.fX 2 _ O O O (fun _ _=>rfl) (.inl ao) (fun w hw=>(af (Sl.one (hw.row 1 O)) (af (Sl.one (hw.bP 1 O)) (af (Sl.one (hw.bP 2 O)) (af (Sl.one (hw.bP 3 O)) (af O (af O aP))))))) O O O) fun _=>?_
   refine R.nil<|R.mp (fun _ hw=>hw.cW 1 _ O O) ?_
   have hz:fx r w0 p=(⟨(r.ak++([w0])),r.Things,r.Held,r.Notes,(r.ae+1),r.ah⟩:aC):=by (unfold fx;(rw [if_neg ‹_›];done))
   rw [hz]
   exact R.w1 (v1,bH,bI,bJ) [5] [0,2,3,4] O Tryz.results117 (RV.cell 1 O O ao) O O O O
  refine Do.s (s.bs (l:=([w0]:List aj)) dJ bO O O O O O O O) (fun _=>(aD [1,2,3,5] bL O)) O fun b6=>?_
  refine D.one (i:=2) O<|Do.s (s.aW rm [0] _ _ _ O O O wq O O (fun w own hw H=>jM bR r.ak w own H (by omega)) O) (fun _=>(aD o8 bL O)) O fun z4=>?_
  refine D.one (i:=5) O<|Do.s (s.app 0 _ O O O (bB 1 O) lj (by (simp;omega)) (by (simp;omega)) (fun _=>rfl) O) (fun _=>(aD o8 bL O)) O fun v2=>?_
  refine D.q (i:=6) O (aD o8 bL O) O (q.aO O bg O) O<|D.one (i:=7) O<|Do.s (s.fX 5 _ O O O (fun w hw=>Sl.cm (hw.row 0 O)) (.inr ⟨bS,rfl⟩) (fun w hw=>(af (Sl.one (hw.row 0 O)) aP)) O O O) (fun _=>(aD o8 bL O)) O fun _=>?_
  refine D.done<|R.reg O<|R.q (q.aO O cJ O) O<|R.q (q.ld 5 O O au O) O<|R.q (q.bA (r:=r.ae+1) O O) O<|R.q (q.aO O cJ O) O<|R.s O (s.st 5 _ O O O O (.inr ⟨au,rfl⟩) O O O O) fun _=>?_
  refine R.nil<|R.reg O<|R.q (q.aO O fq O) O<|R.q (q.ld 3 O O au O) O<|?_
  by_cases h2:0<p.aB
  .
   refine R.q (q.eL O O) O<|R.nil<|R.av O O<|R.reg O<|R.q (q.aO O cz O) O<|R.q (q.ld 5 O O dD O) O<|R.q (q.dt 3 O O bM) O<|R.q (q.aO O bU O) O<|R.q (q.ld 4 O O au O) O<|R.s O (s.aW mg [2] _ _ _ O O O tK O O (fun w own hw H=>qG bI r.Held p w0.ID w own H (by omega)) O) fun z5=>?_
   refine R.q (q.aO O cz O) O<|R.s O (s.fX 6 _ O O O (fun w hw=>Sl.cm (hw.row 0 O)) (.inr ⟨dD,rfl⟩) (fun w hw=>(af (Sl.one (hw.row 0 O)) aP)) O O O) fun _=>?_
   refine R.nil<|R.reg O<|R.q (q.dt 6 O O ao) O<|R.s O (s.fX 3 _ O O O (fun _ _=>rfl) (.inl ao) (fun w hw=>(af (Sl.one (hw.row 1 O)) (af (Sl.one (hw.bP 1 O)) (af (Sl.one (hw.row 0 O)) (af (Sl.one (hw.bP 3 O)) (af O (af O aP))))))) O O O) fun _=>?_
   refine R.nil<|R.mp (fun _ hw=>hw.cW 1 _ O O)<|R.mp (fun _ hw=>hw.cW 0 _ O O) ?_
   have hz:fx r w0 p=(⟨(r.ak++([w0])),r.Things,fP r.Held p w0.ID,r.Notes,(r.ae+1),r.ah⟩:aC):=by (unfold fx;(rw [if_pos ‹_›];done))
   rw [hz]
   exact R.w1 (v2,bH,z5,bJ) [5] [1,3,0,5] O Tryz.results117 (RV.cell 1 O O ao) O O O O
  refine R.q (q.eo O O) O<|R.nil<|R.aA O O<|R.reg O<|R.q (q.dt 5 O O ao) O<|R.s O (s.fX 2 _ O O O (fun _ _=>rfl) (.inl ao) (fun w hw=>(af (Sl.one (hw.row 0 O)) (af (Sl.one (hw.bP 1 O)) (af (Sl.one (hw.bP 2 O)) (af (Sl.one (hw.bP 3 O)) (af O (af O aP))))))) O O O) fun _=>?_
  refine R.nil<|R.mp (fun _ hw=>hw.cW 0 _ O O) ?_
  have hz:fx r w0 p=(⟨(r.ak++([w0])),r.Things,r.Held,r.Notes,(r.ae+1),r.ah⟩:aC):=by (unfold fx;(rw [if_neg ‹_›];done))
  rw [hz]
  exact R.w1 (v2,bH,bI,bJ) [5] [0,2,3,4] O Tryz.results117 (RV.cell 1 O O ao) O O O O
 refine Do.s (s.bs (l:=([w0]:List aj)) dJ bO O O O O O O O) (fun _=>(aD [1,2,3,5] bL O)) O fun b7=>?_
 refine D.one (i:=1) O<|Do.s (s.c (Qt.a (q.ld 4 O O bS O)) O) (fun _=>(aD [1,2,3,5] bL O)) O fun _=>?_
 refine D.one (i:=2) O<|Do.s (s.aW rm [0] _ _ _ O O O wq O O (fun w own hw H=>jM bR r.ak w own H (by omega)) O) (fun _=>(aD o8 bL O)) O fun z6=>?_
 refine D.one (i:=5) O<|Do.s (s.app 0 _ O O O (bB 1 O) lj (by (simp;omega)) (by (simp;omega)) (fun _=>rfl) O) (fun _=>(aD o8 bL O)) O fun v3=>?_
 refine D.q (i:=6) O (aD o8 bL O) O (q.aO O bg O) O<|D.one (i:=7) O<|Do.s (s.fX 5 _ O O O (fun w hw=>Sl.cm (hw.row 0 O)) (.inr ⟨bS,rfl⟩) (fun w hw=>(af (Sl.one (hw.row 0 O)) aP)) O O O) (fun _=>(aD o8 bL O)) O fun _=>?_
 refine D.done<|R.reg O<|R.q (q.aO O cJ O) O<|R.q (q.ld 5 O O au O) O<|R.q (q.bA (r:=r.ae+1) O O) O<|R.q (q.aO O cJ O) O<|R.s O (s.st 5 _ O O O O (.inr ⟨au,rfl⟩) O O O O) fun _=>?_
 refine R.nil<|R.reg O<|R.q (q.aO O fq O) O<|R.q (q.ld 3 O O au O) O<|?_
 by_cases h3:0<p.aB
 .
  refine R.q (q.eL O O) O<|R.nil<|R.av O O<|R.reg O<|R.q (q.aO O cz O) O<|R.q (q.ld 5 O O dD O) O<|R.q (q.dt 3 O O bM) O<|R.q (q.aO O bU O) O<|R.q (q.ld 4 O O au O) O<|R.s O (s.aW mg [2] _ _ _ O O O tK O O (fun w own hw H=>qG bI r.Held p w0.ID w own H (by omega)) O) fun z7=>?_
  refine R.q (q.aO O cz O) O<|R.s O (s.fX 6 _ O O O (fun w hw=>Sl.cm (hw.row 0 O)) (.inr ⟨dD,rfl⟩) (fun w hw=>(af (Sl.one (hw.row 0 O)) aP)) O O O) fun _=>?_
  refine R.nil<|R.reg O<|R.q (q.dt 6 O O ao) O<|R.s O (s.fX 3 _ O O O (fun _ _=>rfl) (.inl ao) (fun w hw=>(af (Sl.one (hw.row 1 O)) (af (Sl.one (hw.bP 1 O)) (af (Sl.one (hw.row 0 O)) (af (Sl.one (hw.bP 3 O)) (af O (af O aP))))))) O O O) fun _=>?_
  refine R.nil<|R.mp (fun _ hw=>hw.cW 1 _ O O)<|R.mp (fun _ hw=>hw.cW 0 _ O O) ?_
  have hz:fx r w0 p=(⟨(r.ak++([w0])),r.Things,fP r.Held p w0.ID,r.Notes,(r.ae+1),r.ah⟩:aC):=by (unfold fx;(rw [if_pos ‹_›];done))
  rw [hz]
  exact R.w1 (v3,bH,z7,bJ) [5] [1,3,0,5] O Tryz.results117 (RV.cell 1 O O ao) O O O O
 refine R.q (q.eo O O) O<|R.nil<|R.aA O O<|R.reg O<|R.q (q.dt 5 O O ao) O<|R.s O (s.fX 2 _ O O O (fun _ _=>rfl) (.inl ao) (fun w hw=>(af (Sl.one (hw.row 0 O)) (af (Sl.one (hw.bP 1 O)) (af (Sl.one (hw.bP 2 O)) (af (Sl.one (hw.bP 3 O)) (af O (af O aP))))))) O O O) fun _=>?_
 refine R.nil<|R.mp (fun _ hw=>hw.cW 0 _ O O) ?_
 have hz:fx r w0 p=(⟨(r.ak++([w0])),r.Things,r.Held,r.Notes,(r.ae+1),r.ah⟩:aC):=by (unfold fx;(rw [if_neg ‹_›];done))
 rw [hz]
 exact R.w1 (v3,bH,bI,bJ) [5] [0,2,3,4] O Tryz.results117 (RV.cell 1 O O ao) O O O O
theorem KH (w:World)(own:List Nat)(H:HN w own [] []):RC Tryz.prog 71 #[] H (fun z:Value×Value×Value×Value => .agg #[z.1,z.2.1,z.2.2.1,z.2.2.2,iV (⟨[],[],[],[],1,1⟩:aC).ae,iV (⟨[],[],[],[],1,1⟩:aC).ah]) (fun _=>[]) (fun z=>[ag.ls z.1 ((⟨[],[],[],[],1,1⟩:aC).ak:List aj),ag.ls z.2.1 ((⟨[],[],[],[],1,1⟩:aC).Things:List aE),ag.ls z.2.2.1 ((⟨[],[],[],[],1,1⟩:aC).Held:List Held),ag.ls z.2.2.2 ((⟨[],[],[],[],1,1⟩:aC).Notes:List Note)]):=by
 refine R.bC [] Tryz.func71 O O O O H<|R.reg O<|R.s O (s.alloc dP O O) fun b1=>?_
 refine R.nil<|R.reg O<|R.q (q.build dZ O O) O<|R.s O (s.st 0 _ O O O O (.inl ao) O O O O) fun _=>?_
 exact R.nil<|R.mp (fun _ hw=>hw.a8 (α:=aj))<|R.mp (fun _ hw=>hw.a8 (α:=aE))<|R.mp (fun _ hw=>hw.a8 (α:=Held))<|R.mp (fun _ hw=>hw.a8 (α:=Note))<|R.w1 ((nS),(nS),(nS),(nS)) [1] gj O Tryz.results71 (RV.cell 0 O O ao) O O O O
theorem xL (t:aE)(w0:aj)(BF:Nat)(w:World)(KJ:(ag.box BF (im w0) 127).ok w):Calls Tryz.prog 174 #[.agg #[iV t.ID,iV t.Kind,.string t.Data],.pointer (some ⟨BF,0,none⟩)] w fun e w'=>e = .returned (.bool (t.ID==w0.aE))/\Ext w w':=by
 refine R.enter [] [(0,.agg #[iV t.ID,iV t.Kind,.string t.Data]),(1,.pointer (some ⟨BF,0,none⟩))] Tryz.func174 O O O O<|R.nI (r:=ag.box BF (im w0) 127) KJ (jQ KJ)<|R.reg O<|R.s O (s.box O O O) fun b1=>?_
 refine R.u 1 O<|R.nil<|R.reg O<|R.q (q.aO O oy O) O<|R.q (q.ld 0 O O au O) O<|R.q (q.aO O fR O) O<|R.q (q.yx 0 O O au O) O<|?_
 by_cases h1:t.ID=w0.aE
 .
  exact R.q (q.fN O O) O<|R.u 1 O<|R.nil<|R.rv O Tryz.results174 O (rB (by (exact (beq_iff_eq.2 ‹_›).symm)))
 exact R.q (q.e8 O O) O<|R.u 1 O<|R.nil<|R.rv O Tryz.results174 O (rB (by (exact (beq_eq_false_iff_ne.2 ‹_›).symm)))
theorem uN (t:Note)(w0:aj)(BF:Nat)(w:World)(KJ:(ag.box BF (im w0) 127).ok w):Calls Tryz.prog 127 #[.agg #[iV t.Port,.string t.Data,iV t.aQ,iV t.aj],.pointer (some ⟨BF,0,none⟩)] w fun e w'=>e = .returned (.bool (t.Port==w0.aE))/\Ext w w':=by
 refine R.enter [] [(0,.agg #[iV t.Port,.string t.Data,iV t.aQ,iV t.aj]),(1,.pointer (some ⟨BF,0,none⟩))] Tryz.func127 O O O O<|R.nI (r:=ag.box BF (im w0) 127) KJ (jQ KJ)<|R.reg O<|R.s O (s.box O O O) fun b1=>?_
 refine R.u 1 O<|R.nil<|R.reg O<|R.q (q.aO O qB O) O<|R.q (q.ld 0 O O au O) O<|R.q (q.aO O fR O) O<|R.q (q.yx 0 O O au O) O<|?_
 by_cases h1:t.Port=w0.aE
 .
  exact R.q (q.fN O O) O<|R.u 1 O<|R.nil<|R.rv O Tryz.results127 O (rB (by (exact (beq_iff_eq.2 ‹_›).symm)))
 exact R.q (q.e8 O O) O<|R.u 1 O<|R.nil<|R.rv O Tryz.results127 O (rB (by (exact (beq_eq_false_iff_ne.2 ‹_›).symm)))
theorem yO (t:aE)(Qm:Value)(ts:List Int)(ML:Nat)(w:World)(SS:(ag.box ML [Qm] 159).ok w)(Uf:Sl w Qm ts):Calls Tryz.prog 112 #[.agg #[iV t.ID,iV t.Kind,.string t.Data],.pointer (some ⟨ML,0,none⟩)] w fun e w'=>e = .returned (.bool (!decide (t.ID∈ts)))/\Ext w w':=by
 refine R.enter [] [(0,.agg #[iV t.ID,iV t.Kind,.string t.Data]),(1,.pointer (some ⟨ML,0,none⟩))] Tryz.func112 O O O O<|R.nI (r:=ag.box ML [Qm] 159) SS (jQ SS)<|R.reg O<|R.s O (s.box O O O) fun b1=>?_
 refine R.u 1 O<|R.nil<|R.reg O<|R.q (q.yx 0 O O nL O) O<|R.q (q.aO O oy O) O<|R.q (q.ld 0 O O au O) O<|R.c (q.call pQ O O (fun w hw=>(fM _ ts t.ID w ((fun _=>Wd.old Uf) w hw) ))) O<|R.q (q.not O) O<|R.u 1 O<|R.nil ?_
 exact R.rv O Tryz.results112 O (rB (by rfl))
theorem yP (h:Held)(bR bH bI bJ:Value)(r:aC)(KL:Nat)(w:World)(UX:(ag.box KL [bR,bH,bI,bJ,iV r.ae,iV r.ah] 48).ok w)(yN:Sl w bR r.ak)(BD:Sl w bH r.Things)(E8:Sl w bI r.Held)(MK:Sl w bJ r.Notes):Calls Tryz.prog 115 #[.agg #[iV h.Place.aB,iV h.Place.Slot,iV h.aj],.pointer (some ⟨KL,0,none⟩)] w fun e w'=>e = .returned (.bool (decide (cG r.ak h.aj<0)))/\Ext w w':=by
 refine R.enter [] [(0,.agg #[iV h.Place.aB,iV h.Place.Slot,iV h.aj]),(1,.pointer (some ⟨KL,0,none⟩))] Tryz.func115 O O O O<|R.nI (r:=ag.box KL [bR,bH,bI,bJ,iV r.ae,iV r.ah] 48) UX (jQ UX)<|R.reg O<|R.s O (s.box O O O) fun b1=>?_
 refine R.u 1 O<|R.nil<|R.reg O<|R.q (q.aO O bg O) O<|R.q (q.yx 0 O O bS O) O<|R.q (q.aO O jS O) O<|R.q (q.ld 0 O O au O) O<|?_
 rcases fj r.ak h.aj with ⟨gU,Eo⟩ | ⟨Df,lW,gU,ve,SL⟩
 .
  refine R.c (q.call lL O O (fun w hw=>(cv (congrArg (Value.int .i64) gU) (iD _ r.ak h.aj w ((fun _=>Wd.old yN) w hw) )))) O<|R.q (q.lss (b:=true) O O (by decide)) O<|R.u 1 O<|R.nil ?_
  exact R.rv O Tryz.results115 O (rB (by (exact (decide_eq_true (by omega)).symm)))
 refine R.c (q.call lL O O (fun w hw=>(cv (congrArg (Value.int .i64) gU) (iD _ r.ak h.aj w ((fun _=>Wd.old yN) w hw) )))) O<|R.q (q.cU O O) O<|R.u 1 O<|R.nil ?_
 exact R.rv O Tryz.results115 O (rB (by (exact (decide_eq_false (by omega)).symm)))
theorem yQ (x:aj)(Qn:Value)(gs:List Int)(MN:Nat)(w:World)(SU:(ag.box MN [Qn] 159).ok w)(Ug:Sl w Qn gs):Calls Tryz.prog 124 #[.agg #[iV x.ID,iV x.aE,iV x.Rights,iV x.aQ,iV x.From],.pointer (some ⟨MN,0,none⟩)] w fun e w'=>e = .returned (.bool (decide (x.ID∈gs)))/\Ext w w':=by
 refine R.enter [] [(0,.agg #[iV x.ID,iV x.aE,iV x.Rights,iV x.aQ,iV x.From]),(1,.pointer (some ⟨MN,0,none⟩))] Tryz.func124 O O O O<|R.nI (r:=ag.box MN [Qn] 159) SU (jQ SU)<|R.reg O<|R.s O (s.box O O O) fun b1=>?_
 refine R.u 1 O<|R.nil<|R.reg O<|R.q (q.yx 0 O O nL O) O<|R.q (q.aO O bU O) O<|R.q (q.ld 0 O O au O) O<|R.c (q.call pQ O O (fun w hw=>(fM _ gs x.ID w ((fun _=>Wd.old Ug) w hw) ))) O<|R.u 1 O<|R.nil ?_
 exact R.rv O Tryz.results124 O (rB (by rfl))
end Go.Proofs.YtkbhcbipadkcaaaGreatDoor
