import Derived.Test.YtkbhcbipadkcaaaGreatDoorTW18
namespace Go.Proofs.YtkbhcbipadkcaaaGreatDoor
set_option linter.unusedVariables false
set_option linter.unusedSimpArgs false
set_option maxRecDepth 100000
set_option maxHeartbeats 90000000
section
open Go Go.RowKit
theorem jM (bP:Value)(l:List ak)(w:World)(own:List Nat)(H:HN w own [] [ag.ls bP l])(hl:l.length<=1000000):RC Tryz.prog 105 #[bP] H (fun z:Value=>z) (fun z=>[ag.row 127 z l]) (fun _=>[]):=by
 have yF:=H.cq 0 rfl
 refine R.bD [(0,bP)] Tryz.func105 O O O O H<|R.reg O<|R.u 1 O<|R.nil<|R.reg O<|R.u 1 O<|?_
 rcases Bool.eq_false_or_eq_true (pD bP) with h1|h1
 .
  refine R.q (q.Hg (congrArg Value.bool h1) (q.po (dy 0 O) O O Tryz.underlying43)) O<|R.nil<|R.av O O<|R.reg O<|R.u 1 O<|R.nil<|R.row0 (α:=ak) 127 ?_
  have hz:l=[]:=by (exact Sl.pD (H.bG 0 rfl) ‹_›)
  rw [hz]
  exact R.w1 (nS) [0,1] [] O Tryz.results105 (RV.tmp O) O O O O
 refine R.q (q.Hg (congrArg Value.bool h1) (q.po (dy 0 O) O O Tryz.underlying43)) O<|R.nil<|R.aB O O<|R.reg O<|R.s O (s.bs (l:=([]:List ak)) dK bQ O O O O O O O) fun b1=>?_
 refine R.u 1 O<|R.s O (s.app 0 _ O O O (dy 0 O) ln (by simp;omega) (by simp;omega) (fun _=>rfl) O) fun v1=>?_
 refine R.u 1 O<|R.nil ?_
 have hz:l=(([])++l):=by (rfl)
 rw [hz]
 exact R.w1 v1 [0,1] [] O Tryz.results105 (RV.tmp O) O O O O
theorem jm (bP:Value)(l:List aE)(w:World)(own:List Nat)(H:HN w own [] [ag.ls bP l])(hl:l.length<=1000000):RC Tryz.prog 106 #[bP] H (fun z:Value=>z) (fun z=>[ag.row 100 z l]) (fun _=>[]):=by
 have yF:=H.cq 0 rfl
 refine R.bD [(0,bP)] Tryz.func106 O O O O H<|R.reg O<|R.u 1 O<|R.nil<|R.reg O<|R.u 1 O<|?_
 rcases Bool.eq_false_or_eq_true (pD bP) with h1|h1
 .
  refine R.q (q.Hg (congrArg Value.bool h1) (q.po (dy 0 O) O O Tryz.underlying44)) O<|R.nil<|R.av O O<|R.reg O<|R.u 1 O<|R.nil<|R.row0 (α:=aE) 100 ?_
  have hz:l=[]:=by (exact Sl.pD (H.bG 0 rfl) ‹_›)
  rw [hz]
  exact R.w1 (nS) [0,1] [] O Tryz.results106 (RV.tmp O) O O O O
 refine R.q (q.Hg (congrArg Value.bool h1) (q.po (dy 0 O) O O Tryz.underlying44)) O<|R.nil<|R.aB O O<|R.reg O<|R.s O (s.bs (l:=([]:List aE)) iM ju O O O O O O O) fun b1=>?_
 refine R.u 1 O<|R.s O (s.app 0 _ O O O (dy 0 O) sX (by simp;omega) (by simp;omega) (fun _=>rfl) O) fun v1=>?_
 refine R.u 1 O<|R.nil ?_
 have hz:l=(([])++l):=by (rfl)
 rw [hz]
 exact R.w1 v1 [0,1] [] O Tryz.results106 (RV.tmp O) O O O O
theorem ff (bP:Value)(l:List Note)(w:World)(own:List Nat)(H:HN w own [] [ag.ls bP l])(hl:l.length<=1000000):RC Tryz.prog 108 #[bP] H (fun z:Value=>z) (fun z=>[ag.row 89 z l]) (fun _=>[]):=by
 have yF:=H.cq 0 rfl
 refine R.bD [(0,bP)] Tryz.func108 O O O O H<|R.reg O<|R.u 1 O<|R.nil<|R.reg O<|R.u 1 O<|?_
 rcases Bool.eq_false_or_eq_true (pD bP) with h1|h1
 .
  refine R.q (q.Hg (congrArg Value.bool h1) (q.po (dy 0 O) O O Tryz.underlying46)) O<|R.nil<|R.av O O<|R.reg O<|R.u 1 O<|R.nil<|R.row0 (α:=Note) 89 ?_
  have hz:l=[]:=by (exact Sl.pD (H.bG 0 rfl) ‹_›)
  rw [hz]
  exact R.w1 (nS) [0,1] [] O Tryz.results108 (RV.tmp O) O O O O
 refine R.q (q.Hg (congrArg Value.bool h1) (q.po (dy 0 O) O O Tryz.underlying46)) O<|R.nil<|R.aB O O<|R.reg O<|R.s O (s.bs (l:=([]:List Note)) fw eU O O O O O O O) fun b1=>?_
 refine R.u 1 O<|R.s O (s.app 0 _ O O O (dy 0 O) ki (by simp;omega) (by simp;omega) (fun _=>rfl) O) fun v1=>?_
 refine R.u 1 O<|R.nil ?_
 have hz:l=(([])++l):=by (rfl)
 rw [hz]
 exact R.w1 v1 [0,1] [] O Tryz.results108 (RV.tmp O) O O O O
theorem qw (bP:Value)(l:List Note)(i:Nat)(j:Nat)(w:World)(own:List Nat)(H:HN w own [ag.row 89 bP l] [])(hij:i<=j/\j<=l.length):RC Tryz.prog 129 #[bP,iV (i:Int),iV (j:Int)] H (fun z:Value=>z) (fun z=>[ag.row 89 z (l.take i++l.drop j)]) (fun _=>[]):=by
 have Hw:=H.cap 0 rfl;have yF:=H.cO 0 rfl
 refine R.bD [(0,bP),(1,iV (i:Int)),(2,iV (j:Int))] Tryz.func129 O O O O H<|R.reg O<|R.u 1 O<|R.nil<|R.reg O<|R.u 4 O<|R.q (q.len' (bC 0 O) O Tryz.underlying46) O<|R.q (q.Er (i:=i) (j:=j) (q':=l.length) (bC 0 O) O O O O fw O O O (by omega) (by omega) (by omega)) O<|R.nil<|R.reg O<|R.u 2 O<|?_
 by_cases h1:i=j
 .
  refine R.q (q.fI O O) O<|R.nil<|R.av O O<|R.reg O<|R.u 2 O<|R.nil ?_
  have hz:l.take i++l.drop j=l:=by (exact p7 (by omega))
  rw [hz]
  exact R.w1 bP [0,1] [] O Tryz.results129 (RV.tmp O) O O O O
 refine R.q (q.e9 O O) O<|R.nil<|R.aB O O<|R.reg O<|R.u 1 O<|R.q (q.len' (bC 0 O) O Tryz.underlying46) O<|R.u 1 O<|R.nil<|R.fP (fuel:=8) [1] O O mixed O<|D.q (i:=0) O (aD [1] [] O) O (q.mv O) O<|D.q (i:=1) O (aD [1] [] O) O (q.mv O) O<|D.q (i:=3) O (aD [1] [] O) O (q.mv O) O<|D.q (i:=4) O (aD [1] [] O) O (q.mv O) O<|D.two (i:=2) (j:=5) O O ?_ ?_
 .
  refine Do.s (s.c (Qt.a (q.kI (i:=i) (bC 0 O) O O Tryz.underlying46 F8 O (by omega))) O) (fun _=>(aD [1] [] O)) O fun _=>?_
  refine D.one (i:=5) O<|Do.s (s.c (Qt.a (q.dC (i:=j) (bC 0 O) O O fw O (by omega))) O) (fun _=>(aD [1] [] O)) O fun _=>?_
  refine D.one (i:=6) O<|Do.s (s.tO (a:=i) 0 _ O O O (fun w hw=>Sl.from (hw.row 0 O) (by omega)) ki (by omega) (by simp;omega) O O) (fun _=>(aD [1] [] O)) O fun _=>?_
  refine D.q (i:=7) O (aD [1] [] O) O (q.as O) O<|D.done<|R.reg O<|R.u 2 O<|R.q (q.len' (bC 0 O) O Tryz.underlying46) O<|R.u 1 O<|R.q (q.sl2 (i:=(l.take i++(l.drop j)).length) (j:=l.length) (bC 0 O) O O O fw O O (by (simp;omega)) (by (simp [fj];omega))) O<|R.s O (s.zh (lo:=(l.take i++(l.drop j)).length) (hi:=l.length) (z0:=(⟨0,⟨#[]⟩,0,0⟩:Note)) 0 O O fw eU O (by omega) (by (simp;omega)) (by (simp [fj];omega))) fun _=>?_
  refine R.nil<|R.reg O<|R.u 2 O<|R.nil ?_
  have hz:l.take i++l.drop j=(l.take i++(l.drop j)):=by (rfl)
  rw [hz]
  exact R.w1 (kI bP (i+(l.drop j).length)) [0,1] [] O Tryz.results129 (RV.tmp O) O O O O
 refine Do.s (s.c (Qt.a (q.dC (i:=j) (bC 0 O) O O fw O (by omega))) O) (fun _=>(aD [1] [] O)) O fun _=>?_
 refine D.one (i:=2) O<|Do.s (s.c (Qt.a (q.kI (i:=i) (bC 0 O) O O Tryz.underlying46 F8 O (by omega))) O) (fun _=>(aD [1] [] O)) O fun _=>?_
 refine D.one (i:=6) O<|Do.s (s.tO (a:=i) 0 _ O O O (fun w hw=>Sl.from (hw.row 0 O) (by omega)) ki (by omega) (by simp;omega) O O) (fun _=>(aD [1] [] O)) O fun _=>?_
 refine D.q (i:=7) O (aD [1] [] O) O (q.as O) O<|D.done<|R.reg O<|R.u 2 O<|R.q (q.len' (bC 0 O) O Tryz.underlying46) O<|R.u 1 O<|R.q (q.sl2 (i:=(l.take i++(l.drop j)).length) (j:=l.length) (bC 0 O) O O O fw O O (by (simp;omega)) (by (simp [fj];omega))) O<|R.s O (s.zh (lo:=(l.take i++(l.drop j)).length) (hi:=l.length) (z0:=(⟨0,⟨#[]⟩,0,0⟩:Note)) 0 O O fw eU O (by omega) (by (simp;omega)) (by (simp [fj];omega))) fun _=>?_
 refine R.nil<|R.reg O<|R.u 2 O<|R.nil ?_
 have hz:l.take i++l.drop j=(l.take i++(l.drop j)):=by (rfl)
 rw [hz]
 exact R.w1 (kI bP (i+(l.drop j).length)) [0,1] [] O Tryz.results129 (RV.tmp O) O O O O
theorem iw (bP:Value)(l:List aE)(pr:aE->Bool)(ia:Nat)(kD:List Value)(jo:∀args w,(callFunc ia args).run Tryz.prog w = .ok (.enter ia args) w)(w:World)(ew:Sl w bP l)(mH:∀W (x1:aE),Ext w W->Calls Tryz.prog ia ([x1.val]++kD).toArray W fun e w'=>e = .returned (.bool (pr x1))/\Ext W w'):Calls Tryz.prog 166 #[bP,.func (.func ia) #[] kD.toArray] w fun e w'=>e = .returned (iV (idxOf pr l))/\Ext w w':=by
 have zx:=ew.fB
 refine R.enter [] [(0,bP),(1,.func (.func ia) #[] kD.toArray)] Tryz.func166 O O O O<|R.reg O<|R.u 1 O<|R.nil<|R.reg O<|R.u 1 O<|R.q (q.len' (fun _=>Wd.old ew) O Tryz.underlying44) O<|R.u 1 O<|R.nil<|R.loop (fun k:Nat=>[(0,bP),(1,.func (.func ia) #[] kD.toArray),(7,iV (l.length:Int)),(8,iV (k:Int))]) (fun k:Nat=>[]) (fun k:Nat=>[]) (fun k:Nat=>k<=l.length /\ ∀ (j:Nat) x,j<k->l[j]? = some x->pr x=false) (fun k:Nat=>l.length-k) 0 O (by exact ⟨by omega,fun j x hj=>absurd hj (Nat.not_lt_zero _)⟩) (sF O) (ic [] [] O) ?_
 rintro k ⟨hk,HA⟩
 refine R.reg O<|?_
 by_cases h1:k<l.length
 .
  refine R.q (q.dz O O) O<|R.nil<|R.av O O<|R.reg O<|R.u 2 O<|R.nil<|R.reg O<|R.u 3 O<|?_
  obtain ⟨x1,hx1⟩:∃z,l[k]? = some z:=⟨_,List.getElem?_eq_getElem (by omega)⟩
  refine R.q (q.idx (i:=k) (fun _=>Wd.old ew) O O iM O hx1) O<|R.q (q.eS (ds:=mU x1) (fun _=>Wd.old ew) hx1 O gx O) O<|?_
  rcases Bool.eq_false_or_eq_true (pr x1) with h2|h2
  .
   refine R.c (q.call jo O O (fun w hw=>cv (congrArg Value.bool h2) (mH w x1 hw.ext))) O<|R.nil ?_
   exact R.av O O<|R.reg O<|R.u 2 O<|R.nil<|R.rv O Tryz.results166 O (rI (by (exact (idxOf_hit hx1 ‹_› HA).symm)))
  refine R.c (q.call jo O O (fun w hw=>cv (congrArg Value.bool h2) (mH w x1 hw.ext))) O<|R.nil ?_
  refine R.aB O O<|R.reg O<|R.q (q.bB (r:=((k+1:Nat):Int)) O O) O<|R.u 1 O<|R.nil<|R.back (k+1) O (by (exact ⟨by omega,od HA hx1 ‹_›⟩)) (by omega) (sF O) (ic [] [] O)
 exact R.q (q.cW O O) O<|R.nil<|R.aB O O<|R.reg O<|R.u 1 O<|R.nil<|R.rv O Tryz.results166 O (rI (by (exact (idxOf_miss ‹_› HA).symm)))
theorem ni (bP:Value)(l:List Note)(pr:Note->Bool)(ia:Nat)(kD:List Value)(jo:∀args w,(callFunc ia args).run Tryz.prog w = .ok (.enter ia args) w)(w:World)(ew:Sl w bP l)(mH:∀W (x1:Note),Ext w W->Calls Tryz.prog ia ([x1.val]++kD).toArray W fun e w'=>e = .returned (.bool (pr x1))/\Ext W w'):Calls Tryz.prog 126 #[bP,.func (.func ia) #[] kD.toArray] w fun e w'=>e = .returned (iV (idxOf pr l))/\Ext w w':=by
 have zx:=ew.fB
 refine R.enter [] [(0,bP),(1,.func (.func ia) #[] kD.toArray)] Tryz.func126 O O O O<|R.reg O<|R.u 1 O<|R.nil<|R.reg O<|R.u 1 O<|R.q (q.len' (fun _=>Wd.old ew) O Tryz.underlying46) O<|R.u 1 O<|R.nil<|R.loop (fun k:Nat=>[(0,bP),(1,.func (.func ia) #[] kD.toArray),(7,iV (l.length:Int)),(8,iV (k:Int))]) (fun k:Nat=>[]) (fun k:Nat=>[]) (fun k:Nat=>k<=l.length /\ ∀ (j:Nat) x,j<k->l[j]? = some x->pr x=false) (fun k:Nat=>l.length-k) 0 O (by exact ⟨by omega,fun j x hj=>absurd hj (Nat.not_lt_zero _)⟩) (sF O) (ic [] [] O) ?_
 rintro k ⟨hk,HA⟩
 refine R.reg O<|?_
 by_cases h1:k<l.length
 .
  refine R.q (q.dz O O) O<|R.nil<|R.av O O<|R.reg O<|R.u 2 O<|R.nil<|R.reg O<|R.u 3 O<|?_
  obtain ⟨x1,hx1⟩:∃z,l[k]? = some z:=⟨_,List.getElem?_eq_getElem (by omega)⟩
  refine R.q (q.idx (i:=k) (fun _=>Wd.old ew) O O fw O hx1) O<|R.q (q.eS (ds:=ox x1) (fun _=>Wd.old ew) hx1 O dj O) O<|?_
  rcases Bool.eq_false_or_eq_true (pr x1) with h2|h2
  .
   refine R.c (q.call jo O O (fun w hw=>cv (congrArg Value.bool h2) (mH w x1 hw.ext))) O<|R.nil ?_
   exact R.av O O<|R.reg O<|R.u 2 O<|R.nil<|R.rv O Tryz.results126 O (rI (by (exact (idxOf_hit hx1 ‹_› HA).symm)))
  refine R.c (q.call jo O O (fun w hw=>cv (congrArg Value.bool h2) (mH w x1 hw.ext))) O<|R.nil ?_
  refine R.aB O O<|R.reg O<|R.q (q.bB (r:=((k+1:Nat):Int)) O O) O<|R.u 1 O<|R.nil<|R.back (k+1) O (by (exact ⟨by omega,od HA hx1 ‹_›⟩)) (by omega) (sF O) (ic [] [] O)
 exact R.q (q.cW O O) O<|R.nil<|R.aB O O<|R.reg O<|R.u 1 O<|R.nil<|R.rv O Tryz.results126 O (rI (by (exact (idxOf_miss ‹_› HA).symm)))
theorem nj (bP:Value)(l:List Held)(pr:Held->Bool)(ia:Nat)(kD:List Value)(jo:∀args w,(callFunc ia args).run Tryz.prog w = .ok (.enter ia args) w)(w:World)(ew:Sl w bP l)(mH:∀W (x1:Held),Ext w W->Calls Tryz.prog ia ([x1.val]++kD).toArray W fun e w'=>e = .returned (.bool (pr x1))/\Ext W w'):Calls Tryz.prog 168 #[bP,.func (.func ia) #[] kD.toArray] w fun e w'=>e = .returned (iV (idxOf pr l))/\Ext w w':=by
 have zx:=ew.fB
 refine R.enter [] [(0,bP),(1,.func (.func ia) #[] kD.toArray)] Tryz.func168 O O O O<|R.reg O<|R.u 1 O<|R.nil<|R.reg O<|R.u 1 O<|R.q (q.len' (fun _=>Wd.old ew) O Tryz.underlying45) O<|R.u 1 O<|R.nil<|R.loop (fun k:Nat=>[(0,bP),(1,.func (.func ia) #[] kD.toArray),(7,iV (l.length:Int)),(8,iV (k:Int))]) (fun k:Nat=>[]) (fun k:Nat=>[]) (fun k:Nat=>k<=l.length /\ ∀ (j:Nat) x,j<k->l[j]? = some x->pr x=false) (fun k:Nat=>l.length-k) 0 O (by exact ⟨by omega,fun j x hj=>absurd hj (Nat.not_lt_zero _)⟩) (sF O) (ic [] [] O) ?_
 rintro k ⟨hk,HA⟩
 refine R.reg O<|?_
 by_cases h1:k<l.length
 .
  refine R.q (q.dz O O) O<|R.nil<|R.av O O<|R.reg O<|R.u 2 O<|R.nil<|R.reg O<|R.u 3 O<|?_
  obtain ⟨x1,hx1⟩:∃z,l[k]? = some z:=⟨_,List.getElem?_eq_getElem (by omega)⟩
  refine R.q (q.idx (i:=k) (fun _=>Wd.old ew) O O cK O hx1) O<|R.q (q.eS (ds:=lJ x1) (fun _=>Wd.old ew) hx1 O eV O) O<|?_
  rcases Bool.eq_false_or_eq_true (pr x1) with h2|h2
  .
   refine R.c (q.call jo O O (fun w hw=>cv (congrArg Value.bool h2) (mH w x1 hw.ext))) O<|R.nil ?_
   exact R.av O O<|R.reg O<|R.u 2 O<|R.nil<|R.rv O Tryz.results168 O (rI (by (exact (idxOf_hit hx1 ‹_› HA).symm)))
  refine R.c (q.call jo O O (fun w hw=>cv (congrArg Value.bool h2) (mH w x1 hw.ext))) O<|R.nil ?_
  refine R.aB O O<|R.reg O<|R.q (q.bB (r:=((k+1:Nat):Int)) O O) O<|R.u 1 O<|R.nil<|R.back (k+1) O (by (exact ⟨by omega,od HA hx1 ‹_›⟩)) (by omega) (sF O) (ic [] [] O)
 exact R.q (q.cW O O) O<|R.nil<|R.aB O O<|R.reg O<|R.u 1 O<|R.nil<|R.rv O Tryz.results168 O (rI (by (exact (idxOf_miss ‹_› HA).symm)))
theorem uk (bP:Value)(l:List aE)(pr:aE->Bool)(ia:Nat)(kD:List Value)(jo:∀args w,(callFunc ia args).run Tryz.prog w = .ok (.enter ia args) w)(w:World)(own:List Nat)(H:HN w own [ag.row 100 bP l] [])(mH:∀W (x1:aE),lU (blks [ag.row 100 bP l]) w W->Calls Tryz.prog ia ([x1.val]++kD).toArray W fun e w'=>e = .returned (.bool (pr x1))/\Ext W w')(hl:l.length<=1000000):RC Tryz.prog 111 #[bP,.func (.func ia) #[] kD.toArray] H (fun z:Value=>z) (fun z=>[ag.row 100 z (l.filter (fun x => !pr x))]) (fun _=>[]):=by
 have Hw:=H.cap 0 rfl;have yF:=H.cO 0 rfl
 refine R.bD [(0,bP),(1,.func (.func ia) #[] kD.toArray)] Tryz.func111 O O O O H<|R.reg O<|R.u 1 O<|R.nil<|R.reg O<|R.u 2 O<|?_
 rcases j5 pr l with ⟨gU,Eu⟩ | ⟨rF,Es,gU,lY,vo,AY,TP⟩
 .
  refine R.c (q.call AO O O (fun w hw=>(cv (congrArg (Value.int .i64) gU) (iw _ l pr _ _ jo w (hw.row 0 O) (fun W x1 hW=>mH W x1 ((hw.vh 1 O).trans ((Ext.upd hW).mono (by simp)))) )))) O<|R.u 1 O<|R.nil ?_
  refine R.reg O<|R.u 1 O<|R.q (q.eql (b:=true) O O (by decide)) O<|R.nil<|R.av O O<|R.reg O<|R.u 2 O<|R.nil ?_
  have hz:l.filter (fun x => !pr x)=l:=by (exact xM Eu)
  rw [hz]
  exact R.w1 bP [0,1] [] O Tryz.results111 (RV.tmp O) O O O O
 refine R.c (q.call AO O O (fun w hw=>(cv (congrArg (Value.int .i64) gU) (iw _ l pr _ _ jo w (hw.row 0 O) (fun W x1 hW=>mH W x1 ((hw.vh 1 O).trans ((Ext.upd hW).mono (by simp)))) )))) O<|R.u 1 O<|R.nil ?_
 refine R.reg O<|R.u 1 O<|R.q (q.e9 O O) O<|R.nil<|R.aB O O<|R.reg O<|R.u 1 O<|R.q (q.bB (r:=((rF+1:Nat):Int)) O O) O<|R.u 1 O<|R.nil<|R.loop (fun g_:Nat×Nat×(List aE)=>[(0,bP),(1,.func (.func ia) #[] kD.toArray),(5,iV (g_.1:Int)),(6,iV (g_.2.1:Int))]) (fun g_=>[ag.row 100 bP g_.2.2,ag.held w own]) (fun g_=>[]) (fun g_=>pF pr l g_.2.2 g_.1 g_.2.1) (fun g_=>l.length-g_.2.1) (rF,(rF+1),l) O (by exact pF.start lY vo AY) (sF O) (ic [0,1] [] O) ?_
 rintro ⟨a,b,acc⟩ HA
 dsimp only at *
 have t1:=HA.1;have t2:=HA.2.1;have t3:=HA.2.2.1
 refine R.reg O<|R.u 2 O<|R.q (q.len' (bC 0 O) O Tryz.underlying44) O<|?_
 by_cases h1:b<acc.length
 .
  refine R.q (q.dz O O) O<|R.nil<|R.av O O<|R.reg O<|R.u 2 O<|?_
  obtain ⟨x1,hx1⟩:∃z,acc[b]? = some z:=⟨_,List.getElem?_eq_getElem (by omega)⟩
  refine R.q (q.idx (i:=b) (bC 0 O) O O iM O hx1) O<|R.q (q.eS (ds:=mU x1) (bC 0 O) hx1 O gx O) O<|R.s O (s.alloc ju O O) fun b1=>?_
  refine R.s O (s.st 0 _ O O O O (.inl gx) O O O O) fun _=>?_
  refine R.nil<|R.reg O<|R.u 1 O<|R.q (q.dh 0 O O gx) O<|?_
  rcases Bool.eq_false_or_eq_true (pr x1) with h2|h2
  .
   refine R.c (q.call jo O O (fun w hw=>cv (congrArg Value.bool h2) (mH w x1 (hw.vh 2 O)))) O<|R.u 1 O<|R.nil ?_
   refine R.aB O O<|R.reg O<|R.u 1 O<|R.q (q.bB (r:=((b+1:Nat):Int)) O O) O<|R.u 1 O<|R.nil<|R.back (a,(b+1),acc) O (by (exact HA.skip hx1 ‹_›)) (by dsimp only;omega) (sF O) (aD [1,2] [] O)
  refine R.c (q.call jo O O (fun w hw=>cv (congrArg Value.bool h2) (mH w x1 (hw.vh 2 O)))) O<|R.u 1 O<|R.nil ?_
  refine R.av O O<|R.reg O<|R.u 2 O<|R.q (q.dh 0 O O gx) O<|?_
  obtain ⟨x2,hx2⟩:∃z,acc[a]? = some z:=⟨_,List.getElem?_eq_getElem (by omega)⟩
  refine R.q (q.idx (i:=a) (bC 1 O) O O iM O hx2) O<|R.s O (s.Rc (z:=x1) 1 _ O hx2 O O O O (.inl gx) O) fun _=>?_
  refine R.nil<|R.reg O<|R.u 1 O<|R.q (q.bB (r:=((a+1:Nat):Int)) O O) O<|R.u 1 O<|R.nil<|R.reg O<|R.u 1 O<|R.q (q.bB (r:=((b+1:Nat):Int)) O O) O<|R.u 1 O<|R.nil<|R.back ((a+1),(b+1),(acc.set a x1)) O (by (exact HA.keep hx1 ‹_›)) (by dsimp only;omega) (sF O) (aD [1,2] [] O)
 refine R.q (q.cW O O) O<|R.nil<|R.aB O O<|R.reg O<|R.u 2 O<|R.q (q.dC (i:=a) (bC 0 O) O O iM O (by omega)) O<|R.s O (s.O2 (lo:=a) (z0:=(⟨0,0,⟨#[]⟩⟩:aE)) 0 _ O O iM ju O (by omega) O) fun _=>?_
 refine R.nil<|R.reg O<|R.u 2 O<|R.q (q.kI (i:=a) (bC 0 O) O O Tryz.underlying44 Mm O (by (simp;omega))) O<|R.u 1 O<|R.nil<|R.I5 0 a _ O (by (simp;omega)) O ?_
 have hz:l.filter (fun x => !pr x)=((acc.take a++List.replicate (acc.length-a) (⟨0,0,⟨#[]⟩⟩:aE)).take a):=by (exact HA.done (by omega))
 rw [hz]
 exact R.w1 (kI bP a) [0,1] [] O Tryz.results111 (RV.tmp O) O O O O
theorem vx (bP:Value)(l:List Held)(pr:Held->Bool)(ia:Nat)(kD:List Value)(jo:∀args w,(callFunc ia args).run Tryz.prog w = .ok (.enter ia args) w)(w:World)(own:List Nat)(H:HN w own [ag.row 124 bP l] [])(mH:∀W (x1:Held),lU (blks [ag.row 124 bP l]) w W->Calls Tryz.prog ia ([x1.val]++kD).toArray W fun e w'=>e = .returned (.bool (pr x1))/\Ext W w')(hl:l.length<=1000000):RC Tryz.prog 114 #[bP,.func (.func ia) #[] kD.toArray] H (fun z:Value=>z) (fun z=>[ag.row 124 z (l.filter (fun x => !pr x))]) (fun _=>[]):=by
 have Hw:=H.cap 0 rfl;have yF:=H.cO 0 rfl
 refine R.bD [(0,bP),(1,.func (.func ia) #[] kD.toArray)] Tryz.func114 O O O O H<|R.reg O<|R.u 1 O<|R.nil<|R.reg O<|R.u 2 O<|?_
 rcases j5 pr l with ⟨gU,Eu⟩ | ⟨rF,Es,gU,lY,vo,AY,TP⟩
 .
  refine R.c (q.call Jy O O (fun w hw=>(cv (congrArg (Value.int .i64) gU) (nj _ l pr _ _ jo w (hw.row 0 O) (fun W x1 hW=>mH W x1 ((hw.vh 1 O).trans ((Ext.upd hW).mono (by simp)))) )))) O<|R.u 1 O<|R.nil ?_
  refine R.reg O<|R.u 1 O<|R.q (q.eql (b:=true) O O (by decide)) O<|R.nil<|R.av O O<|R.reg O<|R.u 2 O<|R.nil ?_
  have hz:l.filter (fun x => !pr x)=l:=by (exact xM Eu)
  rw [hz]
  exact R.w1 bP [0,1] [] O Tryz.results114 (RV.tmp O) O O O O
 refine R.c (q.call Jy O O (fun w hw=>(cv (congrArg (Value.int .i64) gU) (nj _ l pr _ _ jo w (hw.row 0 O) (fun W x1 hW=>mH W x1 ((hw.vh 1 O).trans ((Ext.upd hW).mono (by simp)))) )))) O<|R.u 1 O<|R.nil ?_
 refine R.reg O<|R.u 1 O<|R.q (q.e9 O O) O<|R.nil<|R.aB O O<|R.reg O<|R.u 1 O<|R.q (q.bB (r:=((rF+1:Nat):Int)) O O) O<|R.u 1 O<|R.nil<|R.loop (fun g_:Nat×Nat×(List Held)=>[(0,bP),(1,.func (.func ia) #[] kD.toArray),(5,iV (g_.1:Int)),(6,iV (g_.2.1:Int))]) (fun g_=>[ag.row 124 bP g_.2.2,ag.held w own]) (fun g_=>[]) (fun g_=>pF pr l g_.2.2 g_.1 g_.2.1) (fun g_=>l.length-g_.2.1) (rF,(rF+1),l) O (by exact pF.start lY vo AY) (sF O) (ic [0,1] [] O) ?_
 rintro ⟨a,b,acc⟩ HA
 dsimp only at *
 have t1:=HA.1;have t2:=HA.2.1;have t3:=HA.2.2.1
 refine R.reg O<|R.u 2 O<|R.q (q.len' (bC 0 O) O Tryz.underlying45) O<|?_
 by_cases h1:b<acc.length
 .
  refine R.q (q.dz O O) O<|R.nil<|R.av O O<|R.reg O<|R.u 2 O<|?_
  obtain ⟨x1,hx1⟩:∃z,acc[b]? = some z:=⟨_,List.getElem?_eq_getElem (by omega)⟩
  refine R.q (q.idx (i:=b) (bC 0 O) O O cK O hx1) O<|R.q (q.eS (ds:=lJ x1) (bC 0 O) hx1 O eV O) O<|R.s O (s.alloc gY O O) fun b1=>?_
  refine R.s O (s.st 0 _ O O O O (.inl eV) O O O O) fun _=>?_
  refine R.nil<|R.reg O<|R.u 1 O<|R.q (q.dh 0 O O eV) O<|?_
  rcases Bool.eq_false_or_eq_true (pr x1) with h2|h2
  .
   refine R.c (q.call jo O O (fun w hw=>cv (congrArg Value.bool h2) (mH w x1 (hw.vh 2 O)))) O<|R.u 1 O<|R.nil ?_
   refine R.aB O O<|R.reg O<|R.u 1 O<|R.q (q.bB (r:=((b+1:Nat):Int)) O O) O<|R.u 1 O<|R.nil<|R.back (a,(b+1),acc) O (by (exact HA.skip hx1 ‹_›)) (by dsimp only;omega) (sF O) (aD [1,2] [] O)
  refine R.c (q.call jo O O (fun w hw=>cv (congrArg Value.bool h2) (mH w x1 (hw.vh 2 O)))) O<|R.u 1 O<|R.nil ?_
  refine R.av O O<|R.reg O<|R.u 2 O<|R.q (q.dh 0 O O eV) O<|?_
  obtain ⟨x2,hx2⟩:∃z,acc[a]? = some z:=⟨_,List.getElem?_eq_getElem (by omega)⟩
  refine R.q (q.idx (i:=a) (bC 1 O) O O cK O hx2) O<|R.s O (s.Rc (z:=x1) 1 _ O hx2 O O O O (.inl eV) O) fun _=>?_
  refine R.nil<|R.reg O<|R.u 1 O<|R.q (q.bB (r:=((a+1:Nat):Int)) O O) O<|R.u 1 O<|R.nil<|R.reg O<|R.u 1 O<|R.q (q.bB (r:=((b+1:Nat):Int)) O O) O<|R.u 1 O<|R.nil<|R.back ((a+1),(b+1),(acc.set a x1)) O (by (exact HA.keep hx1 ‹_›)) (by dsimp only;omega) (sF O) (aD [1,2] [] O)
 refine R.q (q.cW O O) O<|R.nil<|R.aB O O<|R.reg O<|R.u 2 O<|R.q (q.dC (i:=a) (bC 0 O) O O cK O (by omega)) O<|R.s O (s.O2 (lo:=a) (z0:=(⟨(⟨0,0⟩:Place),0⟩:Held)) 0 _ O O cK gY O (by omega) O) fun _=>?_
 refine R.nil<|R.reg O<|R.u 2 O<|R.q (q.kI (i:=a) (bC 0 O) O O Tryz.underlying45 vD O (by (simp;omega))) O<|R.u 1 O<|R.nil<|R.I5 0 a _ O (by (simp;omega)) O ?_
 have hz:l.filter (fun x => !pr x)=((acc.take a++List.replicate (acc.length-a) (⟨(⟨0,0⟩:Place),0⟩:Held)).take a):=by (exact HA.done (by omega))
 rw [hz]
 exact R.w1 (kI bP a) [0,1] [] O Tryz.results114 (RV.tmp O) O O O O
theorem vy (bP:Value)(l:List ak)(pr:ak->Bool)(ia:Nat)(kD:List Value)(jo:∀args w,(callFunc ia args).run Tryz.prog w = .ok (.enter ia args) w)(w:World)(own:List Nat)(H:HN w own [ag.row 127 bP l] [])(mH:∀W (x1:ak),lU (blks [ag.row 127 bP l]) w W->Calls Tryz.prog ia ([x1.val]++kD).toArray W fun e w'=>e = .returned (.bool (pr x1))/\Ext W w')(hl:l.length<=1000000):RC Tryz.prog 123 #[bP,.func (.func ia) #[] kD.toArray] H (fun z:Value=>z) (fun z=>[ag.row 127 z (l.filter (fun x => !pr x))]) (fun _=>[]):=by
 have Hw:=H.cap 0 rfl;have yF:=H.cO 0 rfl
 refine R.bD [(0,bP),(1,.func (.func ia) #[] kD.toArray)] Tryz.func123 O O O O H<|R.reg O<|R.u 1 O<|R.nil<|R.reg O<|R.u 2 O<|?_
 rcases j5 pr l with ⟨gU,Eu⟩ | ⟨rF,Es,gU,lY,vo,AY,TP⟩
 .
  refine R.c (q.call EG O O (fun w hw=>(cv (congrArg (Value.int .i64) gU) (mG _ l pr _ _ jo w (hw.row 0 O) (fun W x1 hW=>mH W x1 ((hw.vh 1 O).trans ((Ext.upd hW).mono (by simp)))) )))) O<|R.u 1 O<|R.nil ?_
  refine R.reg O<|R.u 1 O<|R.q (q.eql (b:=true) O O (by decide)) O<|R.nil<|R.av O O<|R.reg O<|R.u 2 O<|R.nil ?_
  have hz:l.filter (fun x => !pr x)=l:=by (exact xM Eu)
  rw [hz]
  exact R.w1 bP [0,1] [] O Tryz.results123 (RV.tmp O) O O O O
 refine R.c (q.call EG O O (fun w hw=>(cv (congrArg (Value.int .i64) gU) (mG _ l pr _ _ jo w (hw.row 0 O) (fun W x1 hW=>mH W x1 ((hw.vh 1 O).trans ((Ext.upd hW).mono (by simp)))) )))) O<|R.u 1 O<|R.nil ?_
 refine R.reg O<|R.u 1 O<|R.q (q.e9 O O) O<|R.nil<|R.aB O O<|R.reg O<|R.u 1 O<|R.q (q.bB (r:=((rF+1:Nat):Int)) O O) O<|R.u 1 O<|R.nil<|R.loop (fun g_:Nat×Nat×(List ak)=>[(0,bP),(1,.func (.func ia) #[] kD.toArray),(5,iV (g_.1:Int)),(6,iV (g_.2.1:Int))]) (fun g_=>[ag.row 127 bP g_.2.2,ag.held w own]) (fun g_=>[]) (fun g_=>pF pr l g_.2.2 g_.1 g_.2.1) (fun g_=>l.length-g_.2.1) (rF,(rF+1),l) O (by exact pF.start lY vo AY) (sF O) (ic [0,1] [] O) ?_
 rintro ⟨a,b,acc⟩ HA
 dsimp only at *
 have t1:=HA.1;have t2:=HA.2.1;have t3:=HA.2.2.1
 refine R.reg O<|R.u 2 O<|R.q (q.len' (bC 0 O) O Tryz.underlying43) O<|?_
 by_cases h1:b<acc.length
 .
  refine R.q (q.dz O O) O<|R.nil<|R.av O O<|R.reg O<|R.u 2 O<|?_
  obtain ⟨x1,hx1⟩:∃z,acc[b]? = some z:=⟨_,List.getElem?_eq_getElem (by omega)⟩
  refine R.q (q.idx (i:=b) (bC 0 O) O O dK O hx1) O<|R.q (q.eS (ds:=im x1) (bC 0 O) hx1 O aM O) O<|R.s O (s.alloc bQ O O) fun b1=>?_
  refine R.s O (s.st 0 _ O O O O (.inl aM) O O O O) fun _=>?_
  refine R.nil<|R.reg O<|R.u 1 O<|R.q (q.dh 0 O O aM) O<|?_
  rcases Bool.eq_false_or_eq_true (pr x1) with h2|h2
  .
   refine R.c (q.call jo O O (fun w hw=>cv (congrArg Value.bool h2) (mH w x1 (hw.vh 2 O)))) O<|R.u 1 O<|R.nil ?_
   refine R.aB O O<|R.reg O<|R.u 1 O<|R.q (q.bB (r:=((b+1:Nat):Int)) O O) O<|R.u 1 O<|R.nil<|R.back (a,(b+1),acc) O (by (exact HA.skip hx1 ‹_›)) (by dsimp only;omega) (sF O) (aD [1,2] [] O)
  refine R.c (q.call jo O O (fun w hw=>cv (congrArg Value.bool h2) (mH w x1 (hw.vh 2 O)))) O<|R.u 1 O<|R.nil ?_
  refine R.av O O<|R.reg O<|R.u 2 O<|R.q (q.dh 0 O O aM) O<|?_
  obtain ⟨x2,hx2⟩:∃z,acc[a]? = some z:=⟨_,List.getElem?_eq_getElem (by omega)⟩
  refine R.q (q.idx (i:=a) (bC 1 O) O O dK O hx2) O<|R.s O (s.Rc (z:=x1) 1 _ O hx2 O O O O (.inl aM) O) fun _=>?_
  refine R.nil<|R.reg O<|R.u 1 O<|R.q (q.bB (r:=((a+1:Nat):Int)) O O) O<|R.u 1 O<|R.nil<|R.reg O<|R.u 1 O<|R.q (q.bB (r:=((b+1:Nat):Int)) O O) O<|R.u 1 O<|R.nil<|R.back ((a+1),(b+1),(acc.set a x1)) O (by (exact HA.keep hx1 ‹_›)) (by dsimp only;omega) (sF O) (aD [1,2] [] O)
 refine R.q (q.cW O O) O<|R.nil<|R.aB O O<|R.reg O<|R.u 2 O<|R.q (q.dC (i:=a) (bC 0 O) O O dK O (by omega)) O<|R.s O (s.O2 (lo:=a) (z0:=(⟨0,0,0,0,0⟩:ak)) 0 _ O O dK bQ O (by omega) O) fun _=>?_
 refine R.nil<|R.reg O<|R.u 2 O<|R.q (q.kI (i:=a) (bC 0 O) O O Tryz.underlying43 AG O (by (simp;omega))) O<|R.u 1 O<|R.nil<|R.I5 0 a _ O (by (simp;omega)) O ?_
 have hz:l.filter (fun x => !pr x)=((acc.take a++List.replicate (acc.length-a) (⟨0,0,0,0,0⟩:ak)).take a):=by (exact HA.done (by omega))
 rw [hz]
 exact R.w1 (kI bP a) [0,1] [] O Tryz.results123 (RV.tmp O) O O O O
theorem uS (bP:Value)(l:List ak)(w:World)(ew:Sl w bP l)(hl:l.length<=1000000):Calls Tryz.prog 110 #[bP] w fun e w' => ∃u,e = .returned u/\Own w.heap.size 3 w' u (bU l)/\Ext w w':=Fa bP l w ew hl
theorem Fc (bP:Value)(l:List Int)(x:Int)(w:World)(ew:Sl w bP l):Calls Tryz.prog 167 #[bP,iV x] w fun e w'=>e = .returned (iV (idxOf (fun y=>y==x) l))/\Ext w w':=by
 have zx:=ew.fB
 refine R.enter [] [(0,bP),(1,iV x)] Tryz.func167 O O O O<|R.reg O<|R.u 1 O<|R.nil<|R.reg O<|R.u 1 O<|R.q (q.len' (fun _=>Wd.old ew) O Tryz.underlying159) O<|R.u 1 O<|R.nil<|R.loop (fun k:Nat=>[(0,bP),(1,iV x),(7,iV (l.length:Int)),(8,iV (k:Int))]) (fun k:Nat=>[]) (fun k:Nat=>[]) (fun k:Nat=>k<=l.length /\ ∀ (j:Nat) y,j<k->l[j]? = some y->(y==x)=false) (fun k:Nat=>l.length-k) 0 O (by exact ⟨by omega,fun j x hj=>absurd hj (Nat.not_lt_zero _)⟩) (sF O) (ic [] [] O) ?_
 rintro k ⟨hk,HA⟩
 refine R.reg O<|?_
 by_cases h1:k<l.length
 .
  refine R.q (q.dz O O) O<|R.nil<|R.av O O<|R.reg O<|R.u 2 O<|R.nil<|R.reg O<|R.u 3 O<|?_
  obtain ⟨x1,hx1⟩:∃z,l[k]? = some z:=⟨_,List.getElem?_eq_getElem (by omega)⟩
  refine R.q (q.idx (i:=k) (fun _=>Wd.old ew) O O df O hx1) O<|R.q (q.lw (fun _=>Wd.old ew) hx1 O au O) O<|?_
  by_cases h2:x=x1
  .
   exact R.q (q.fI O O) O<|R.nil<|R.av O O<|R.reg O<|R.u 2 O<|R.nil<|R.rv O Tryz.results167 O (rI (by (exact (idxOf_hit (p:=fun y=>y==x) hx1 (beq_iff_eq.2 (by omega)) HA).symm)))
  refine R.q (q.e9 O O) O<|R.nil<|R.aB O O<|R.reg O<|R.q (q.bB (r:=((k+1:Nat):Int)) O O) O<|R.u 1 O<|R.nil<|R.back (k+1) O (by (exact ⟨by omega,od (p:=fun y=>y==x) HA hx1 (beq_eq_false_iff_ne.2 (by omega))⟩)) (by omega) (sF O) (ic [] [] O)
 exact R.q (q.cW O O) O<|R.nil<|R.aB O O<|R.reg O<|R.u 1 O<|R.nil<|R.rv O Tryz.results167 O (rI (by (exact (idxOf_miss ‹_› HA).symm)))
theorem GH {l:List Int}{x:Int}:(0<=idxOf (fun y=>y==x) l)=(x∈l):=by
 rcases j5 (fun y:Int=>y==x) l with ⟨h,hn⟩ | ⟨k,y,h,hy,he,_,_⟩
 .rw [h];simp;intro hm;have:=hn x hm;simp at this
 .
  rw [h];simp
  have:y=x:=by simpa using he
  subst this;exact List.mem_of_getElem? hy
theorem fO (bP:Value)(l:List Int)(x:Int)(w:World)(ew:Sl w bP l):Calls Tryz.prog 113 #[bP,iV x] w fun e w'=>e = .returned (.bool (decide (x∈l)))/\Ext w w':=by
 have zx:=ew.fB
 refine R.enter [] [(0,bP),(1,iV x)] Tryz.func113 O O O O<|R.reg O<|R.u 1 O<|R.nil<|R.reg O<|R.u 2 O<|R.c (q.call PD O O (fun w hw=>(Fc _ l x w ((fun _=>Wd.old ew) w hw) ))) O<|?_
 by_cases h1:idxOf (fun y=>y==x) l<0
 .
  exact R.q (q.I0 O O) O<|R.u 1 O<|R.nil<|R.rv O Tryz.results113 O (rB (by (have e:=GH (l:=l) (x:=x);exact (decide_eq_false (e▸(by omega))).symm)))
 exact R.q (q.Hb O O) O<|R.u 1 O<|R.nil<|R.rv O Tryz.results113 O (rB (by (have e:=GH (l:=l) (x:=x);exact (decide_eq_true (e▸(by omega))).symm)))
theorem ra (bS bK bL bM:Value)(r:aC)(p:Place)(w:World)(yS:Sl w bS r.ao)(BL:Sl w bK r.Things)(Fe:Sl w bL r.Held)(MY:Sl w bM r.Notes)(hk:Ok r):Calls Tryz.prog 118 #[.agg #[bS,bK,bL,bM,iV r.ae,iV r.ah],.agg #[iV p.aA,iV p.Slot]] w fun e w'=>e = .returned (.tuple #[ak.val (aS r p).1,da (aS r p).2])/\Ext w w':=by
 have b1:=hk.hl
 refine R.enter [] [(0,.agg #[bS,bK,bL,bM,iV r.ae,iV r.ah]),(1,.agg #[iV p.aA,iV p.Slot])] Tryz.func118 O O O O<|R.reg O<|R.s O (s.box O O O) fun b1=>?_
 refine R.s O (s.box O O O) fun b2=>?_
 refine R.s O (s.alloc bQ O O) fun b3=>?_
 refine R.u 1 O<|R.nil<|R.reg O<|R.q (q.dh 1 O O bO) O<|R.c (q.call AK O O (fun w hw=>(ko p w ))) O<|R.u 1 O<|R.nil ?_
 refine R.reg O<|R.u 1 O<|?_
 by_cases h1:aZ p=0
 .
  refine R.q (q.dx O O Tryz.underlying38) O<|R.nil<|R.aB O O ?_
  rcases fk r.ao (mV r.Held p) with ⟨gU,Eu⟩ | ⟨Dn,lY,gU,vo,S1⟩
  .
   refine R.eu O mixed (by kernel_rfl)<|Q.q (q.aO O bg O) O<|Q.q (q.ld 2 O O bT O) O<|Q.q (q.aO O cB O) O<|Q.q (q.ld 2 O O dE O) O<|Q.q (q.dh 1 O O bO) O<|Q.c (q.call AP O O (fun w hw=>(m4 _ r.Held p w ((fun _=>Wd.old Fe) w hw) (by omega)))) O<|Q.c (q.call lM O O (fun w hw=>(cv (congrArg (Value.int .i64) gU) (iD _ r.ao (mV r.Held p) w ((fun _=>Wd.old yS) w hw) )))) O<|Q.u 1 O<|Q.nil<|R.reg O<|R.u 1 O<|R.q (q.lss (b:=true) O O (by decide)) O<|R.nil<|R.av O O<|R.reg O<|R.q (q.build iY O O) O<|R.q (q.iface O bm) O<|R.s O (s.st 0 _ O O O O (.inl aM) O O O O) fun _=>?_
   exact R.u 1 O<|R.nil<|R.Ci O Tryz.results118 (RV.cell 0 O O aM) (RV.tmp O) (congrArg ak.val (show (⟨0,0,0,0,0⟩:ak)=(aS r p).1 from by (rw [zO ‹_› gU];rfl))) (dr (by decide) (by (rw [zO ‹_› gU];done)))
  refine R.eu O mixed (by kernel_rfl)<|Q.q (q.aO O bg O) O<|Q.q (q.ld 2 O O bT O) O<|Q.q (q.aO O cB O) O<|Q.q (q.ld 2 O O dE O) O<|Q.q (q.dh 1 O O bO) O<|Q.c (q.call AP O O (fun w hw=>(m4 _ r.Held p w ((fun _=>Wd.old Fe) w hw) (by omega)))) O<|Q.c (q.call lM O O (fun w hw=>(cv (congrArg (Value.int .i64) gU) (iD _ r.ao (mV r.Held p) w ((fun _=>Wd.old yS) w hw) )))) O<|Q.u 1 O<|Q.nil<|R.reg O<|R.u 1 O<|R.q (q.cW O O) O<|R.nil<|R.aB O O<|R.reg O<|R.q (q.aO O bg O) O<|R.q (q.ld 2 O O bT O) O<|R.u 1 O<|R.q (q.idx (i:=Dn) (fun _=>Wd.old yS) O O dK O (List.getElem?_eq_getElem lY)) O<|R.q (q.eS (ds:=im (r.ao[Dn])) (fun _=>Wd.old yS) (List.getElem?_eq_getElem lY) O aM O) O<|?_
  refine R.s O (s.st 0 _ O O O O (.inl aM) O O O O) fun _=>?_
  exact R.u 1 O<|R.nil<|R.Ci O Tryz.results118 (RV.cell 0 O O aM) (RV.tmp O) (congrArg ak.val (show (r.ao[Dn])=(aS r p).1 from by (rw [Ds ‹_› gU (List.getElem?_eq_getElem lY)];done))) (iK (by (rw [Ds ‹_› gU (List.getElem?_eq_getElem lY)];done)))
 refine R.q (q.d9 O O Tryz.underlying38) O<|R.nil<|R.av O O<|R.reg O<|R.q (q.build iY O O) O<|R.u 1 O<|R.s O (s.st 0 _ O O O O (.inl aM) O O O O) fun _=>?_
 exact R.u 1 O<|R.nil<|R.Ci O Tryz.results118 (RV.cell 0 O O aM) (RV.tmp O) (congrArg ak.val (show (⟨0,0,0,0,0⟩:ak)=(aS r p).1 from by (rw [xO ‹_›];rfl))) (rE (by (rw [xO ‹_›];done)))
theorem rh (bS bK bL bM:Value)(r:aC)(p:Place)(w:World)(yS:Sl w bS r.ao)(BL:Sl w bK r.Things)(Fe:Sl w bL r.Held)(MY:Sl w bM r.Notes)(hk:Ok r):Calls Tryz.prog 116 #[.agg #[bS,bK,bL,bM,iV r.ae,iV r.ah],.agg #[iV p.aA,iV p.Slot]] w fun e w'=>e = .returned (da (gL r p))/\Ext w w':=by
 have b1:=hk.hl
 refine R.enter [] [(0,.agg #[bS,bK,bL,bM,iV r.ae,iV r.ah]),(1,.agg #[iV p.aA,iV p.Slot])] Tryz.func116 O O O O<|R.reg O<|R.s O (s.box O O O) fun b1=>?_
 refine R.s O (s.box O O O) fun b2=>?_
 refine R.u 1 O<|R.nil<|R.reg O<|R.q (q.dh 0 O O bO) O<|R.c (q.call AK O O (fun w hw=>(ko p w ))) O<|R.u 1 O<|R.nil ?_
 refine R.reg O<|R.u 1 O<|?_
 by_cases h1:aZ p=0
 .
  refine R.q (q.lx O O Tryz.underlying38) O<|R.u 1 O<|R.qg O (q.aO O cB O) O<|R.qg O (q.ld 1 O O dE O) O<|R.qg O (q.dh 0 O O bO) O<|R.cg O (q.call AP O O (fun w hw=>(m4 _ r.Held p w ((fun _=>Wd.old Fe) w hw) (by omega)))) O<|?_
  by_cases h2:mV r.Held p=0
  .
   exact R.qg O (q.lL O O) O<|R.u 1 O<|R.nil<|R.aB O O<|R.reg O<|R.u 2 O<|R.nil<|R.rv O Tryz.results116 O (rE (by (unfold gL;(rw [if_pos ‹_›,if_pos ‹_›];omega))))
  exact R.qg O (q.lK O O) O<|R.u 1 O<|R.nil<|R.av O O<|R.reg O<|R.q (q.iface O bm) O<|R.u 1 O<|R.nil<|R.reg O<|R.u 2 O<|R.nil<|R.rv O Tryz.results116 O (dr (by decide) (by (unfold gL;(rw [if_pos ‹_›,if_neg ‹_›];done))))
 exact R.q (q.jA O O Tryz.underlying38) O<|R.u 7 O<|R.nil<|R.aB O O<|R.reg O<|R.u 2 O<|R.nil<|R.rv O Tryz.results116 O (rE (by (unfold gL;(rw [if_neg ‹_›];done))))
theorem qx (bS bK bL bM:Value)(r:aC)(w0:ak)(p:Place)(w:World)(own:List Nat)(H:HN w own [] [ag.ls bS r.ao,ag.ls bK r.Things,ag.ls bL r.Held,ag.ls bM r.Notes])(hk:r.Held.length<=3000/\r.ao.length<=3000/\0<=r.ae/\r.ae<=3000):RC Tryz.prog 117 #[.agg #[bS,bK,bL,bM,iV r.ae,iV r.ah],.agg #[iV w0.ID,iV w0.aE,iV w0.Rights,iV w0.aQ,iV w0.From],.agg #[iV p.aA,iV p.Slot]] H (fun z:Value×Value×Value×Value => .agg #[z.1,z.2.1,z.2.2.1,z.2.2.2,iV (fy r w0 p).ae,iV (fy r w0 p).ah]) (fun _=>[]) (fun z=>[ag.ls z.1 (fy r w0 p).ao,ag.ls z.2.1 (fy r w0 p).Things,ag.ls z.2.2.1 (fy r w0 p).Held,ag.ls z.2.2.2 (fy r w0 p).Notes]):=by
 have eJ:=H.cq 0 rfl
 have dN:=H.cq 1 rfl
 have fH:=H.cq 2 rfl
 have eK:=H.cq 3 rfl
 have b1:=hk.1;have b2:=hk.2.1;have b3:=hk.2.2.1;have b4:=hk.2.2.2
 refine R.bD [(0,.agg #[bS,bK,bL,bM,iV r.ae,iV r.ah]),(1,.agg #[iV w0.ID,iV w0.aE,iV w0.Rights,iV w0.aQ,iV w0.From]),(2,.agg #[iV p.aA,iV p.Slot])] Tryz.func117 O O O O H<|R.reg O<|R.s O (s.box O O O) fun b1=>?_
 refine R.s O (s.box O O O) fun b2=>?_
 refine R.s O (s.box O O O) fun b3=>?_
 refine R.s O (s.alloc dI O O) fun b4=>?_
 refine R.nil<|R.fP (fuel:=8) [0,1,2,4] O O mixed O<|D.q (i:=0) O (aD [0,1,2,4] bJ O) O (q.aO O bg O) O<|D.q (i:=3) O (aD [0,1,2,4] bJ O) O (q.dh 2 O O aM) O<|D.two (i:=1) (j:=4) O O ?_ ?_
 .
  refine Do.s (s.c (Qt.a (q.ld 3 O O bT O)) O) (fun _=>(aD [0,1,2,4] bJ O)) O fun _=>?_
  refine D.two (i:=2) (j:=4) O O ?_ ?_
  .
   refine Do.s (s.aW gX [0] _ _ _ O O O wD O O (fun w own hw H=>jM bS r.ao w own H (by omega)) O) (fun _=>(aD [1,2,3,5] bJ O)) O fun z2=>?_
   refine D.one (i:=4) O<|Do.s (s.bs (l:=([w0]:List ak)) dK bQ O O O O O O O) (fun _=>(aD pg bJ O)) O fun b5=>?_
   refine D.one (i:=5) O<|Do.s (s.app 1 _ O O O (bC 0 O) ln (by (simp;omega)) (by (simp;omega)) (fun _=>rfl) O) (fun _=>(aD pg bJ O)) O fun v1=>?_
   refine D.q (i:=6) O (aD pg bJ O) O (q.aO O bg O) O<|D.one (i:=7) O<|Do.s (s.fS 5 _ O O O (fun w hw=>Sl.cm (hw.row 1 O)) (.inr ⟨bT,rfl⟩) (fun w hw=>(af (Sl.one (hw.row 1 O)) aP)) O O O) (fun _=>(aD pg bJ O)) O fun _=>?_
   refine D.done<|R.reg O<|R.q (q.aO O cL O) O<|R.q (q.ld 5 O O au O) O<|R.q (q.bB (r:=r.ae+1) O O) O<|R.q (q.aO O cL O) O<|R.s O (s.st 5 _ O O O O (.inr ⟨au,rfl⟩) O O O O) fun _=>?_
   refine R.nil<|R.reg O<|R.q (q.aO O ft O) O<|R.q (q.ld 3 O O au O) O<|?_
   by_cases h1:0<p.aA
   .
    refine R.q (q.eL O O) O<|R.nil<|R.av O O<|R.reg O<|R.q (q.aO O cB O) O<|R.q (q.ld 5 O O dE O) O<|R.q (q.dh 3 O O bO) O<|R.q (q.aO O bV O) O<|R.q (q.ld 4 O O au O) O<|R.s O (s.aW mK [2] _ _ _ O O O tT O O (fun w own hw H=>qM bL r.Held p w0.ID w own H (by omega)) O) fun z3=>?_
    refine R.q (q.aO O cB O) O<|R.s O (s.fS 6 _ O O O (fun w hw=>Sl.cm (hw.row 0 O)) (.inr ⟨dE,rfl⟩) (fun w hw=>(af (Sl.one (hw.row 0 O)) aP)) O O O) fun _=>?_
    refine R.nil<|R.reg O<|R.q (q.dh 6 O O aj) O<|R.s O (s.fS 3 _ O O O (fun _ _=>rfl) (.inl aj) (fun w hw=>(af (Sl.one (hw.row 2 O)) (af (Sl.one (hw.bG 1 O)) (af (Sl.one (hw.row 0 O)) (af (Sl.one (hw.bG 3 O)) (af O (af O aP))))))) O O O) fun _=>?_
    refine R.nil<|R.mp (fun _ hw=>hw.cX 2 _ O O)<|R.mp (fun _ hw=>hw.cX 0 _ O O) ?_
    have hz:fy r w0 p=(⟨(r.ao++([w0])),r.Things,fR r.Held p w0.ID,r.Notes,(r.ae+1),r.ah⟩:aC):=by (unfold fy;(rw [if_pos ‹_›];done))
    rw [hz]
    exact R.w1 (v1,bK,z3,bM) [5] [1,3,0,5] O Tryz.results117 (RV.cell 1 O O aj) O O O O
   refine R.q (q.eo O O) O<|R.nil<|R.aB O O<|R.reg O<|R.q (q.dh 5 O O aj) O<|R.s O (s.fS 2 _ O O O (fun _ _=>rfl) (.inl aj) (fun w hw=>(af (Sl.one (hw.row 1 O)) (af (Sl.one (hw.bG 1 O)) (af (Sl.one (hw.bG 2 O)) (af (Sl.one (hw.bG 3 O)) (af O (af O aP))))))) O O O) fun _=>?_
   refine R.nil<|R.mp (fun _ hw=>hw.cX 1 _ O O) ?_
   have hz:fy r w0 p=(⟨(r.ao++([w0])),r.Things,r.Held,r.Notes,(r.ae+1),r.ah⟩:aC):=by (unfold fy;(rw [if_neg ‹_›];done))
   rw [hz]
   exact R.w1 (v1,bK,bL,bM) [5] [0,2,3,4] O Tryz.results117 (RV.cell 1 O O aj) O O O O
  refine Do.s (s.bs (l:=([w0]:List ak)) dK bQ O O O O O O O) (fun _=>(aD [1,2,3,5] bJ O)) O fun b6=>?_
  refine D.one (i:=2) O<|Do.s (s.aW rz [0] _ _ _ O O O wD O O (fun w own hw H=>jM bS r.ao w own H (by omega)) O) (fun _=>(aD pg bJ O)) O fun z4=>?_
  refine D.one (i:=5) O<|Do.s (s.app 0 _ O O O (bC 1 O) ln (by (simp;omega)) (by (simp;omega)) (fun _=>rfl) O) (fun _=>(aD pg bJ O)) O fun v2=>?_
  refine D.q (i:=6) O (aD pg bJ O) O (q.aO O bg O) O<|D.one (i:=7) O<|Do.s (s.fS 5 _ O O O (fun w hw=>Sl.cm (hw.row 0 O)) (.inr ⟨bT,rfl⟩) (fun w hw=>(af (Sl.one (hw.row 0 O)) aP)) O O O) (fun _=>(aD pg bJ O)) O fun _=>?_
  refine D.done<|R.reg O<|R.q (q.aO O cL O) O<|R.q (q.ld 5 O O au O) O<|R.q (q.bB (r:=r.ae+1) O O) O<|R.q (q.aO O cL O) O<|R.s O (s.st 5 _ O O O O (.inr ⟨au,rfl⟩) O O O O) fun _=>?_
  refine R.nil<|R.reg O<|R.q (q.aO O ft O) O<|R.q (q.ld 3 O O au O) O<|?_
  by_cases h2:0<p.aA
  .
   refine R.q (q.eL O O) O<|R.nil<|R.av O O<|R.reg O<|R.q (q.aO O cB O) O<|R.q (q.ld 5 O O dE O) O<|R.q (q.dh 3 O O bO) O<|R.q (q.aO O bV O) O<|R.q (q.ld 4 O O au O) O<|R.s O (s.aW mK [2] _ _ _ O O O tT O O (fun w own hw H=>qM bL r.Held p w0.ID w own H (by omega)) O) fun z5=>?_
   refine R.q (q.aO O cB O) O<|R.s O (s.fS 6 _ O O O (fun w hw=>Sl.cm (hw.row 0 O)) (.inr ⟨dE,rfl⟩) (fun w hw=>(af (Sl.one (hw.row 0 O)) aP)) O O O) fun _=>?_
   refine R.nil<|R.reg O<|R.q (q.dh 6 O O aj) O<|R.s O (s.fS 3 _ O O O (fun _ _=>rfl) (.inl aj) (fun w hw=>(af (Sl.one (hw.row 1 O)) (af (Sl.one (hw.bG 1 O)) (af (Sl.one (hw.row 0 O)) (af (Sl.one (hw.bG 3 O)) (af O (af O aP))))))) O O O) fun _=>?_
   refine R.nil<|R.mp (fun _ hw=>hw.cX 1 _ O O)<|R.mp (fun _ hw=>hw.cX 0 _ O O) ?_
   have hz:fy r w0 p=(⟨(r.ao++([w0])),r.Things,fR r.Held p w0.ID,r.Notes,(r.ae+1),r.ah⟩:aC):=by (unfold fy;(rw [if_pos ‹_›];done))
   rw [hz]
   exact R.w1 (v2,bK,z5,bM) [5] [1,3,0,5] O Tryz.results117 (RV.cell 1 O O aj) O O O O
  refine R.q (q.eo O O) O<|R.nil<|R.aB O O<|R.reg O<|R.q (q.dh 5 O O aj) O<|R.s O (s.fS 2 _ O O O (fun _ _=>rfl) (.inl aj) (fun w hw=>(af (Sl.one (hw.row 0 O)) (af (Sl.one (hw.bG 1 O)) (af (Sl.one (hw.bG 2 O)) (af (Sl.one (hw.bG 3 O)) (af O (af O aP))))))) O O O) fun _=>?_
  refine R.nil<|R.mp (fun _ hw=>hw.cX 0 _ O O) ?_
  have hz:fy r w0 p=(⟨(r.ao++([w0])),r.Things,r.Held,r.Notes,(r.ae+1),r.ah⟩:aC):=by (unfold fy;(rw [if_neg ‹_›];done))
  rw [hz]
  exact R.w1 (v2,bK,bL,bM) [5] [0,2,3,4] O Tryz.results117 (RV.cell 1 O O aj) O O O O
 refine Do.s (s.bs (l:=([w0]:List ak)) dK bQ O O O O O O O) (fun _=>(aD [1,2,3,5] bJ O)) O fun b7=>?_
 refine D.one (i:=1) O<|Do.s (s.c (Qt.a (q.ld 4 O O bT O)) O) (fun _=>(aD [1,2,3,5] bJ O)) O fun _=>?_
 refine D.one (i:=2) O<|Do.s (s.aW rz [0] _ _ _ O O O wD O O (fun w own hw H=>jM bS r.ao w own H (by omega)) O) (fun _=>(aD pg bJ O)) O fun z6=>?_
 refine D.one (i:=5) O<|Do.s (s.app 0 _ O O O (bC 1 O) ln (by (simp;omega)) (by (simp;omega)) (fun _=>rfl) O) (fun _=>(aD pg bJ O)) O fun v3=>?_
 refine D.q (i:=6) O (aD pg bJ O) O (q.aO O bg O) O<|D.one (i:=7) O<|Do.s (s.fS 5 _ O O O (fun w hw=>Sl.cm (hw.row 0 O)) (.inr ⟨bT,rfl⟩) (fun w hw=>(af (Sl.one (hw.row 0 O)) aP)) O O O) (fun _=>(aD pg bJ O)) O fun _=>?_
 refine D.done<|R.reg O<|R.q (q.aO O cL O) O<|R.q (q.ld 5 O O au O) O<|R.q (q.bB (r:=r.ae+1) O O) O<|R.q (q.aO O cL O) O<|R.s O (s.st 5 _ O O O O (.inr ⟨au,rfl⟩) O O O O) fun _=>?_
 refine R.nil<|R.reg O<|R.q (q.aO O ft O) O<|R.q (q.ld 3 O O au O) O<|?_
 by_cases h3:0<p.aA
 .
  refine R.q (q.eL O O) O<|R.nil<|R.av O O<|R.reg O<|R.q (q.aO O cB O) O<|R.q (q.ld 5 O O dE O) O<|R.q (q.dh 3 O O bO) O<|R.q (q.aO O bV O) O<|R.q (q.ld 4 O O au O) O<|R.s O (s.aW mK [2] _ _ _ O O O tT O O (fun w own hw H=>qM bL r.Held p w0.ID w own H (by omega)) O) fun z7=>?_
  refine R.q (q.aO O cB O) O<|R.s O (s.fS 6 _ O O O (fun w hw=>Sl.cm (hw.row 0 O)) (.inr ⟨dE,rfl⟩) (fun w hw=>(af (Sl.one (hw.row 0 O)) aP)) O O O) fun _=>?_
  refine R.nil<|R.reg O<|R.q (q.dh 6 O O aj) O<|R.s O (s.fS 3 _ O O O (fun _ _=>rfl) (.inl aj) (fun w hw=>(af (Sl.one (hw.row 1 O)) (af (Sl.one (hw.bG 1 O)) (af (Sl.one (hw.row 0 O)) (af (Sl.one (hw.bG 3 O)) (af O (af O aP))))))) O O O) fun _=>?_
  refine R.nil<|R.mp (fun _ hw=>hw.cX 1 _ O O)<|R.mp (fun _ hw=>hw.cX 0 _ O O) ?_
  have hz:fy r w0 p=(⟨(r.ao++([w0])),r.Things,fR r.Held p w0.ID,r.Notes,(r.ae+1),r.ah⟩:aC):=by (unfold fy;(rw [if_pos ‹_›];done))
  rw [hz]
  exact R.w1 (v3,bK,z7,bM) [5] [1,3,0,5] O Tryz.results117 (RV.cell 1 O O aj) O O O O
 refine R.q (q.eo O O) O<|R.nil<|R.aB O O<|R.reg O<|R.q (q.dh 5 O O aj) O<|R.s O (s.fS 2 _ O O O (fun _ _=>rfl) (.inl aj) (fun w hw=>(af (Sl.one (hw.row 0 O)) (af (Sl.one (hw.bG 1 O)) (af (Sl.one (hw.bG 2 O)) (af (Sl.one (hw.bG 3 O)) (af O (af O aP))))))) O O O) fun _=>?_
 refine R.nil<|R.mp (fun _ hw=>hw.cX 0 _ O O) ?_
 have hz:fy r w0 p=(⟨(r.ao++([w0])),r.Things,r.Held,r.Notes,(r.ae+1),r.ah⟩:aC):=by (unfold fy;(rw [if_neg ‹_›];done))
 rw [hz]
 exact R.w1 (v3,bK,bL,bM) [5] [0,2,3,4] O Tryz.results117 (RV.cell 1 O O aj) O O O O
theorem KS (w:World)(own:List Nat)(H:HN w own [] []):RC Tryz.prog 71 #[] H (fun z:Value×Value×Value×Value => .agg #[z.1,z.2.1,z.2.2.1,z.2.2.2,iV (⟨[],[],[],[],1,1⟩:aC).ae,iV (⟨[],[],[],[],1,1⟩:aC).ah]) (fun _=>[]) (fun z=>[ag.ls z.1 ((⟨[],[],[],[],1,1⟩:aC).ao:List ak),ag.ls z.2.1 ((⟨[],[],[],[],1,1⟩:aC).Things:List aE),ag.ls z.2.2.1 ((⟨[],[],[],[],1,1⟩:aC).Held:List Held),ag.ls z.2.2.2 ((⟨[],[],[],[],1,1⟩:aC).Notes:List Note)]):=by
 refine R.bD [] Tryz.func71 O O O O H<|R.reg O<|R.s O (s.alloc dI O O) fun b1=>?_
 refine R.nil<|R.reg O<|R.q (q.build ea O O) O<|R.s O (s.st 0 _ O O O O (.inl aj) O O O O) fun _=>?_
 exact R.nil<|R.mp (fun _ hw=>hw.a8 (α:=ak))<|R.mp (fun _ hw=>hw.a8 (α:=aE))<|R.mp (fun _ hw=>hw.a8 (α:=Held))<|R.mp (fun _ hw=>hw.a8 (α:=Note))<|R.w1 ((nS),(nS),(nS),(nS)) [1] gj O Tryz.results71 (RV.cell 0 O O aj) O O O O
theorem xS (t:aE)(w0:ak)(BM:Nat)(w:World)(KT:(ag.box BM (im w0) 127).ok w):Calls Tryz.prog 174 #[.agg #[iV t.ID,iV t.Kind,.string t.Data],.pointer (some ⟨BM,0,none⟩)] w fun e w'=>e = .returned (.bool (t.ID==w0.aE))/\Ext w w':=by
 refine R.enter [] [(0,.agg #[iV t.ID,iV t.Kind,.string t.Data]),(1,.pointer (some ⟨BM,0,none⟩))] Tryz.func174 O O O O<|R.nK (r:=ag.box BM (im w0) 127) KT (jQ KT)<|R.reg O<|R.s O (s.box O O O) fun b1=>?_
 refine R.u 1 O<|R.nil<|R.reg O<|R.q (q.aO O oB O) O<|R.q (q.ld 0 O O au O) O<|R.q (q.aO O fU O) O<|R.q (q.yC 0 O O au O) O<|?_
 by_cases h1:t.ID=w0.aE
 .
  exact R.q (q.fI O O) O<|R.u 1 O<|R.nil<|R.rv O Tryz.results174 O (rB (by (exact (beq_iff_eq.2 ‹_›).symm)))
 exact R.q (q.e9 O O) O<|R.u 1 O<|R.nil<|R.rv O Tryz.results174 O (rB (by (exact (beq_eq_false_iff_ne.2 ‹_›).symm)))
theorem uT (t:Note)(w0:ak)(BM:Nat)(w:World)(KT:(ag.box BM (im w0) 127).ok w):Calls Tryz.prog 127 #[.agg #[iV t.Port,.string t.Data,iV t.aQ,iV t.ak],.pointer (some ⟨BM,0,none⟩)] w fun e w'=>e = .returned (.bool (t.Port==w0.aE))/\Ext w w':=by
 refine R.enter [] [(0,.agg #[iV t.Port,.string t.Data,iV t.aQ,iV t.ak]),(1,.pointer (some ⟨BM,0,none⟩))] Tryz.func127 O O O O<|R.nK (r:=ag.box BM (im w0) 127) KT (jQ KT)<|R.reg O<|R.s O (s.box O O O) fun b1=>?_
 refine R.u 1 O<|R.nil<|R.reg O<|R.q (q.aO O qG O) O<|R.q (q.ld 0 O O au O) O<|R.q (q.aO O fU O) O<|R.q (q.yC 0 O O au O) O<|?_
 by_cases h1:t.Port=w0.aE
 .
  exact R.q (q.fI O O) O<|R.u 1 O<|R.nil<|R.rv O Tryz.results127 O (rB (by (exact (beq_iff_eq.2 ‹_›).symm)))
 exact R.q (q.e9 O O) O<|R.u 1 O<|R.nil<|R.rv O Tryz.results127 O (rB (by (exact (beq_eq_false_iff_ne.2 ‹_›).symm)))
theorem yU (t:aE)(Qx:Value)(ts:List Int)(MZ:Nat)(w:World)(S4:(ag.box MZ [Qx] 159).ok w)(Up:Sl w Qx ts):Calls Tryz.prog 112 #[.agg #[iV t.ID,iV t.Kind,.string t.Data],.pointer (some ⟨MZ,0,none⟩)] w fun e w'=>e = .returned (.bool (!decide (t.ID∈ts)))/\Ext w w':=by
 refine R.enter [] [(0,.agg #[iV t.ID,iV t.Kind,.string t.Data]),(1,.pointer (some ⟨MZ,0,none⟩))] Tryz.func112 O O O O<|R.nK (r:=ag.box MZ [Qx] 159) S4 (jQ S4)<|R.reg O<|R.s O (s.box O O O) fun b1=>?_
 refine R.u 1 O<|R.nil<|R.reg O<|R.q (q.yC 0 O O nO O) O<|R.q (q.aO O oB O) O<|R.q (q.ld 0 O O au O) O<|R.c (q.call pX O O (fun w hw=>(fO _ ts t.ID w ((fun _=>Wd.old Up) w hw) ))) O<|R.q (q.not O) O<|R.u 1 O<|R.nil ?_
 exact R.rv O Tryz.results112 O (rB (by rfl))
theorem yV (h:Held)(bS bK bL bM:Value)(r:aC)(KU:Nat)(w:World)(U8:(ag.box KU [bS,bK,bL,bM,iV r.ae,iV r.ah] 48).ok w)(yS:Sl w bS r.ao)(BL:Sl w bK r.Things)(Fe:Sl w bL r.Held)(MY:Sl w bM r.Notes):Calls Tryz.prog 115 #[.agg #[iV h.Place.aA,iV h.Place.Slot,iV h.ak],.pointer (some ⟨KU,0,none⟩)] w fun e w'=>e = .returned (.bool (decide (cJ r.ao h.ak<0)))/\Ext w w':=by
 refine R.enter [] [(0,.agg #[iV h.Place.aA,iV h.Place.Slot,iV h.ak]),(1,.pointer (some ⟨KU,0,none⟩))] Tryz.func115 O O O O<|R.nK (r:=ag.box KU [bS,bK,bL,bM,iV r.ae,iV r.ah] 48) U8 (jQ U8)<|R.reg O<|R.s O (s.box O O O) fun b1=>?_
 refine R.u 1 O<|R.nil<|R.reg O<|R.q (q.aO O bg O) O<|R.q (q.yC 0 O O bT O) O<|R.q (q.aO O jS O) O<|R.q (q.ld 0 O O au O) O<|?_
 rcases fk r.ao h.ak with ⟨gU,Eu⟩ | ⟨Dn,lY,gU,vo,S1⟩
 .
  refine R.c (q.call lM O O (fun w hw=>(cv (congrArg (Value.int .i64) gU) (iD _ r.ao h.ak w ((fun _=>Wd.old yS) w hw) )))) O<|R.q (q.lss (b:=true) O O (by decide)) O<|R.u 1 O<|R.nil ?_
  exact R.rv O Tryz.results115 O (rB (by (exact (decide_eq_true (by omega)).symm)))
 refine R.c (q.call lM O O (fun w hw=>(cv (congrArg (Value.int .i64) gU) (iD _ r.ao h.ak w ((fun _=>Wd.old yS) w hw) )))) O<|R.q (q.cW O O) O<|R.u 1 O<|R.nil ?_
 exact R.rv O Tryz.results115 O (rB (by (exact (decide_eq_false (by omega)).symm)))
theorem yW (x:ak)(Qy:Value)(gs:List Int)(M0:Nat)(w:World)(S5:(ag.box M0 [Qy] 159).ok w)(Uq:Sl w Qy gs):Calls Tryz.prog 124 #[.agg #[iV x.ID,iV x.aE,iV x.Rights,iV x.aQ,iV x.From],.pointer (some ⟨M0,0,none⟩)] w fun e w'=>e = .returned (.bool (decide (x.ID∈gs)))/\Ext w w':=by
 refine R.enter [] [(0,.agg #[iV x.ID,iV x.aE,iV x.Rights,iV x.aQ,iV x.From]),(1,.pointer (some ⟨M0,0,none⟩))] Tryz.func124 O O O O<|R.nK (r:=ag.box M0 [Qy] 159) S5 (jQ S5)<|R.reg O<|R.s O (s.box O O O) fun b1=>?_
 refine R.u 1 O<|R.nil<|R.reg O<|R.q (q.yC 0 O O nO O) O<|R.q (q.aO O bV O) O<|R.q (q.ld 0 O O au O) O<|R.c (q.call pX O O (fun w hw=>(fO _ gs x.ID w ((fun _=>Wd.old Uq) w hw) ))) O<|R.u 1 O<|R.nil ?_
 exact R.rv O Tryz.results124 O (rB (by rfl))
end
section
open Go Go.RowKit
theorem sq (bS bK bL bM:Value)(r:aC)(w:World)(own:List Nat)(H:HN w own [] [ag.ls bS r.ao,ag.ls bK r.Things,ag.ls bL r.Held,ag.ls bM r.Notes])(hk:Ok r):RC Tryz.prog 55 #[.agg #[bS,bK,bL,bM,iV r.ae,iV r.ah]] H (fun z:Value×Value×Value×Value => .agg #[z.1,z.2.1,z.2.2.1,z.2.2.2,iV (dS r).ae,iV (dS r).ah]) (fun _=>[]) (fun z=>[ag.ls z.1 (dS r).ao,ag.ls z.2.1 (dS r).Things,ag.ls z.2.2.1 (dS r).Held,ag.ls z.2.2.2 (dS r).Notes]):=by
 have eJ:=H.cq 0 rfl
 have dN:=H.cq 1 rfl
 have fH:=H.cq 2 rfl
 have eK:=H.cq 3 rfl
 refine R.bD [(0,.agg #[bS,bK,bL,bM,iV r.ae,iV r.ah])] Tryz.func55 O O O O H<|R.reg O<|R.s O (s.box O O O) fun b1=>?_
 refine R.s O (s.alloc dI O O) fun b2=>?_
 refine R.nil<|R.loop (fun g_:aC×Value×Value×Value×Value=>[(1,.pointer (some ⟨b1,0,none⟩)),(2,.pointer (some ⟨b2,0,none⟩))]) (fun g_=>[ag.box b2 G8 48,ag.box b1 [g_.2.1,g_.2.2.1,g_.2.2.2.1,g_.2.2.2.2,iV g_.1.ae,iV g_.1.ah] 48,ag.held w own]) (fun g_=>[ag.ls g_.2.1 g_.1.ao,ag.ls g_.2.2.1 g_.1.Things,ag.ls g_.2.2.2.1 g_.1.Held,ag.ls g_.2.2.2.2 g_.1.Notes,ag.ls bS r.ao,ag.ls bK r.Things,ag.ls bL r.Held,ag.ls bM r.Notes]) (fun g_=>Ok g_.1/\dS g_.1=dS r) (fun g_=>g_.1.Notes.length) (r,bS,bK,bL,bM) O (by exact ⟨hk,rfl⟩) (sF O) (ic [0,1,2] [0,1,2,3,0,1,2,3] O) ?_
 rintro ⟨m,S6,Ur,TQ,TR⟩ ⟨hok,HS⟩
 dsimp only at *
 have o1:=hok.wl;have o2:=hok.tl;have o3:=hok.hl;have o4:=hok.nl
 refine R.reg O<|R.q (q.aO O bg O) O<|R.q (q.ld 1 O O bT O) O<|R.s O (s.vW Jq O O (fun w hw=>uS _ m.ao w (hw.bG 0 O) (by omega)) O) fun v1=>?_
 refine R.s O (s.alloc zn O O) fun b3=>?_
 refine R.s O (s.fS 0 _ O O O (fun w hw=>Sl.cm (hw.row 1 O)) (.inr ⟨nO,rfl⟩) (fun w hw=>(af (Sl.one (hw.row 1 O)) aP)) O O O) fun _=>?_
 refine R.nil<|R.reg O<|R.q (q.aO O cz O) O<|R.q (q.ld 3 O O dD O) O<|R.s O (s.aW gX [1] _ _ _ O O O wE O O (fun w own hw H=>jm Ur m.Things w own H (by omega)) O) fun z1=>?_
 refine R.q (q.L9 (cap:=[.pointer (some ⟨b3,0,none⟩)]) O O) O<|R.s O (s.aW rz [] _ _ _ O O O Pb O O (fun w own hw H=>uk z1 m.Things (fun (t:aE) => !decide (t.ID∈(bU m.ao))) _ _ Pd w own H (fun W t hU=>yU t _ (bU m.ao) _ W (hw.wq 1 0 O O (by decide) hU) (Own.sl (hw.wq 2 0 O O (by decide) hU)) ) (by omega)) O) fun z2=>?_
 refine R.q (q.aO O cz O) O<|R.s O (s.fS 4 _ O O O (fun w hw=>Sl.cm (hw.row 0 O)) (.inr ⟨dD,rfl⟩) (fun w hw=>(af (Sl.one (hw.row 0 O)) aP)) O O O) fun _=>?_
 refine R.nil<|R.reg O<|R.u 1 O<|R.nil<|R.reg O<|R.u 1 O<|R.nil<|R.reg O<|R.q (q.aO O cC O) O<|R.q (q.ld 4 O O dv O) O<|R.q (q.len' (dy 3 O) O Tryz.underlying46) O<|R.u 1 O<|R.nil<|R.row0 (α:=Int) 3<|R.row0 (α:=Note) 89<|R.loop (fun g_:Nat×Value×(List Note)×Value×(List Int)=>[(1,.pointer (some ⟨b1,0,none⟩)),(2,.pointer (some ⟨b2,0,none⟩)),(3,.pointer (some ⟨b3,0,none⟩)),(4,g_.2.2.2.1),(5,g_.2.1),(20,TR),(21,iV (m.Notes.length:Int)),(22,iV (g_.1:Int))]) (fun g_=>[ag.row 89 g_.2.1 g_.2.2.1,ag.row 3 g_.2.2.2.1 g_.2.2.2.2,ag.row 100 z2 (m.Things.filter (fun x => !(fun (t:aE) => !decide (t.ID∈(bU m.ao))) x)),ag.box b3 [v1] 159,ag.row 3 v1 (bU m.ao),ag.box b2 G8 48,ag.box b1 [S6,z2,TQ,TR,iV m.ae,iV m.ah] 48,ag.held w own]) (fun g_=>[ag.ls S6 m.ao,ag.ls Ur m.Things,ag.ls TQ m.Held,ag.ls TR m.Notes,ag.ls bS r.ao,ag.ls bK r.Things,ag.ls bL r.Held,ag.ls bM r.Notes]) (fun g_=>g_.1<=m.Notes.length/\g_.2.2.1=ig m.ao (bU m.ao) (m.Notes.take g_.1)/\g_.2.2.2.2=kJ m.ao (bU m.ao) (m.Notes.take g_.1)) (fun g_=>m.Notes.length-g_.1) (0,(nS),[],(nS),[]) O (by exact ⟨by omega,by simp [ig],by simp [kJ]⟩) (sF O) (ic fh fh O) ?_
 rintro ⟨k,vn,ns,vl,ls⟩ ⟨hk1,HN,HL⟩
 dsimp only at *
 have hkl:=qW m.ao (bU m.ao) (m.Notes.take k);rw [<- HN,<- HL,List.length_take] at hkl
 refine R.reg O<|?_
 by_cases h1:k<m.Notes.length
 .
  refine R.q (q.dz O O) O<|R.nil<|R.av O O<|R.reg O<|?_
  obtain ⟨x1,hx1⟩:∃z,m.Notes[k]? = some z:=⟨_,List.getElem?_eq_getElem (by omega)⟩
  refine R.q (q.idx (i:=k) (dy 3 O) O O fw O hx1) O<|R.q (q.eS (ds:=ox x1) (dy 3 O) hx1 O dj O) O<|R.s O (s.alloc eU O O) fun b4=>?_
  refine R.s O (s.st 0 _ O O O O (.inl dj) O O O O) fun _=>?_
  refine R.nil<|R.reg O<|R.q (q.aO O bg O) O<|R.q (q.ld 7 O O bT O) O<|R.q (q.aO O iG O) O<|R.q (q.ld 0 O O au O) O<|?_
  rcases fk m.ao x1.ak with ⟨gU,Eu⟩ | ⟨Dn,lY,gU,vo,S1⟩
  .
   refine R.c (q.call lM O O (fun w hw=>(cv (congrArg (Value.int .i64) gU) (iD _ m.ao x1.ak w (hw.bG 0 O) )))) O<|R.q (q.lss (b:=true) O O (by decide)) O<|R.nil ?_
   refine R.av O O<|R.reg O<|R.q (q.aO O iG O) O<|R.s O (s.st 0 _ O O O O (.inr ⟨au,rfl⟩) O O O O) fun _=>?_
   refine R.nil<|R.reg O<|R.q (q.ld 4 O O nO O) O<|R.q (q.aO O qG O) O<|R.q (q.ld 0 O O au O) O<|?_
   rcases Bool.eq_false_or_eq_true (decide (x1.Port∈(bU m.ao))) with h2|h2
   .
    refine R.c (q.call pX O O (fun w hw=>(cv (congrArg Value.bool h2) (fO _ (bU m.ao) x1.Port w (hw.row 5 O) )))) O<|R.nil ?_
    refine R.av O O<|R.reg O<|R.u 1 O<|R.q (q.dh 0 O O dj) O<|R.s O (s.bs (l:=([(⟨x1.Port,x1.Data,x1.aQ,0⟩:Note)]:List Note)) fw eU O O O O O O O) fun b5=>?_
    refine R.s O (s.app 2 _ O O O (bC 0 O) ki (by (simp;omega)) (by (simp;omega)) (fun _=>rfl) O) fun v2=>?_
    refine R.u 1 O<|R.nil<|R.reg O<|R.q (q.bB (r:=((k+1:Nat):Int)) O O) O<|R.u 1 O<|R.nil<|R.back (k+1,v2,(ns++([(⟨x1.Port,x1.Data,x1.aQ,0⟩:Note)])),vl,ls) O (by (have e0:=hx1;(have e1:=GG (ws:=m.ao) gU;have e2:=zQ e0 (by rw [e1];exact of_decide_eq_true ‹_›);rw [e1] at e2;exact ⟨by omega,by rw [e2.1,HN],by rw [e2.2,HL]⟩))) (by dsimp only;omega) (sF O) (aD FP fh O)
   refine R.c (q.call pX O O (fun w hw=>(cv (congrArg Value.bool h2) (fO _ (bU m.ao) x1.Port w (hw.row 5 O) )))) O<|R.nil ?_
   refine R.aB O O<|R.reg O<|R.q (q.aO O iG O) O<|R.q (q.ld 0 O O au O) O<|R.q (q.gtr (b:=false) O O (by decide)) O<|R.nil<|R.aB O O<|R.reg O<|R.q (q.bB (r:=((k+1:Nat):Int)) O O) O<|R.u 1 O<|R.nil<|R.back (k+1,vn,ns,vl,ls) O (by (have e0:=hx1;(have e1:=GG (ws:=m.ao) gU;have e2:=zR e0 (by rw [e1];exact of_decide_eq_false ‹_›) (by rw [e1];simp);exact ⟨by omega,by rw [e2.1,HN],by rw [e2.2,HL]⟩))) (by dsimp only;omega) (sF O) (aD za fh O)
  refine R.c (q.call lM O O (fun w hw=>(cv (congrArg (Value.int .i64) gU) (iD _ m.ao x1.ak w (hw.bG 0 O) )))) O<|R.q (q.cW O O) O<|R.nil ?_
  refine R.aB O O<|R.reg O<|R.q (q.ld 4 O O nO O) O<|R.q (q.aO O qG O) O<|R.q (q.ld 0 O O au O) O<|?_
  rcases Bool.eq_false_or_eq_true (decide (x1.Port∈(bU m.ao))) with h3|h3
  .
   refine R.c (q.call pX O O (fun w hw=>(cv (congrArg Value.bool h3) (fO _ (bU m.ao) x1.Port w (hw.row 5 O) )))) O<|R.nil ?_
   refine R.av O O<|R.reg O<|R.u 1 O<|R.q (q.dh 0 O O dj) O<|R.s O (s.bs (l:=([x1]:List Note)) fw eU O O O O O O O) fun b6=>?_
   refine R.s O (s.app 2 _ O O O (bC 0 O) ki (by (simp;omega)) (by (simp;omega)) (fun _=>rfl) O) fun v3=>?_
   refine R.u 1 O<|R.nil<|R.reg O<|R.q (q.bB (r:=((k+1:Nat):Int)) O O) O<|R.u 1 O<|R.nil<|R.back (k+1,v3,(ns++([x1])),vl,ls) O (by (have e0:=hx1;(have e1:=xP (ws:=m.ao) gU;have e2:=zQ e0 (by rw [e1];exact of_decide_eq_true ‹_›);rw [e1] at e2;exact ⟨by omega,by rw [e2.1,HN],by rw [e2.2,HL]⟩))) (by dsimp only;omega) (sF O) (aD FP fh O)
  refine R.c (q.call pX O O (fun w hw=>(cv (congrArg Value.bool h3) (fO _ (bU m.ao) x1.Port w (hw.row 5 O) )))) O<|R.nil ?_
  refine R.aB O O<|R.reg O<|R.q (q.aO O iG O) O<|R.q (q.ld 0 O O au O) O<|?_
  by_cases h4:0<x1.ak
  .
   refine R.q (q.eL O O) O<|R.nil<|R.av O O<|R.reg O<|R.u 1 O<|R.q (q.aO O iG O) O<|R.q (q.ld 0 O O au O) O<|R.s O (s.bs (l:=([x1.ak]:List Int)) df lW O O O O O O O) fun b7=>?_
   refine R.s O (s.app 3 _ O O O (bC 0 O) nQ (by (simp;omega)) (by (simp;omega)) (fun _=>rfl) O) fun v4=>?_
   refine R.u 1 O<|R.nil<|R.reg O<|R.q (q.bB (r:=((k+1:Nat):Int)) O O) O<|R.u 1 O<|R.nil<|R.back (k+1,vn,ns,v4,(ls++([x1.ak]))) O (by (have e0:=hx1;(have e1:=xP (ws:=m.ao) gU;have e2:=H8 e0 (by rw [e1];exact of_decide_eq_false ‹_›) (by rw [e1];assumption);rw [e1] at e2;exact ⟨by omega,by rw [e2.1,HN],by rw [e2.2,HL]⟩))) (by dsimp only;omega) (sF O) (aD FP fh O)
  refine R.q (q.eo O O) O<|R.nil<|R.aB O O<|R.reg O<|R.q (q.bB (r:=((k+1:Nat):Int)) O O) O<|R.u 1 O<|R.nil<|R.back (k+1,vn,ns,vl,ls) O (by (have e0:=hx1;(have e1:=xP (ws:=m.ao) gU;have e2:=zR e0 (by rw [e1];exact of_decide_eq_false ‹_›) (by rw [e1];assumption);exact ⟨by omega,by rw [e2.1,HN],by rw [e2.2,HL]⟩))) (by dsimp only;omega) (sF O) (aD za fh O)
 refine R.q (q.cW O O) O<|R.nil<|R.aB O O<|R.reg O<|R.u 1 O<|R.q (q.aO O cC O) O<|R.s O (s.fS 6 _ O O O (fun w hw=>Sl.cm (hw.row 0 O)) (.inr ⟨dv,rfl⟩) (fun w hw=>(af (Sl.one (hw.row 0 O)) aP)) O O O) fun _=>?_
 refine R.nil<|R.reg O<|R.q (q.aO O cB O) O<|R.q (q.ld 6 O O dE O) O<|R.s O (s.aW fh [2] _ _ _ O O O EC O O (fun w own hw H=>ny TQ m.Held w own H (by omega)) O) fun z3=>?_
 refine R.q (q.L9 (cap:=[.pointer (some ⟨b1,0,none⟩)]) O O) O<|R.s O (s.aW bZ [] _ _ _ O O O Pe O O (fun w own hw H=>vx z3 m.Held (fun (h:Held)=>decide (cJ (⟨m.ao,m.Things.filter (fun x => !(fun (t:aE) => !decide (t.ID∈(bU m.ao))) x),m.Held,ns,m.ae,m.ah⟩:aC).ao h.ak<0)) _ _ Pf w own H (fun W h hU=>yV h _ _ _ _ (⟨m.ao,m.Things.filter (fun x => !(fun (t:aE) => !decide (t.ID∈(bU m.ao))) x),m.Held,ns,m.ae,m.ah⟩:aC) _ W (hw.wq 7 0 O O (by decide) hU) (hw.NW 0 0 O O hU) (Own.sl (hw.wq 3 0 O O (by decide) hU)) (hw.NW 2 0 O O hU) (Own.sl (hw.wq 1 0 O O (by decide) hU)) ) (by omega)) O) fun z4=>?_
 refine R.q (q.aO O cB O) O<|R.s O (s.fS 7 _ O O O (fun w hw=>Sl.cm (hw.row 0 O)) (.inr ⟨dE,rfl⟩) (fun w hw=>(af (Sl.one (hw.row 0 O)) aP)) O O O) fun _=>?_
 refine R.nil<|R.reg O<|R.u 1 O<|R.q (q.len' (bC 2 O) O Tryz.underlying159) O<|?_
 by_cases h5:ls.length=0
 .
  refine R.q (q.fI O O) O<|R.nil<|R.av O O<|R.reg O<|R.q (q.dh 7 O O aj) O<|R.s O (s.fS 6 _ O O O (fun _ _=>rfl) (.inl aj) (fun w hw=>(af (Sl.one (hw.bG 0 O)) (af (Sl.one (hw.row 3 O)) (af (Sl.one (hw.row 0 O)) (af (Sl.one (hw.row 1 O)) (af O (af O aP))))))) O O O) fun _=>?_
  refine R.nil<|R.mp (fun _ hw=>hw.cX 3 _ O O)<|R.mp (fun _ hw=>hw.cX 0 _ O O)<|R.mp (fun _ hw=>hw.cX 0 _ O O) ?_
  have hz:dS r=(⟨m.ao,m.Things.filter (fun x => !(fun (t:aE) => !decide (t.ID∈(bU m.ao))) x),m.Held.filter (fun x => !(fun (h:Held)=>decide (cJ m.ao h.ak<0)) x),ns,m.ae,m.ah⟩:aC):=by (rw [List.take_of_length_le (by omega)] at HN HL;rw [<- HS,qt (by show (kJ _ _ _).length=0;rw [<- HL];assumption)];unfold fM;rw [<- HN])
  rw [hz]
  exact R.w1 (S6,z2,z4,vn) [5] gj O Tryz.results55 (RV.cell 3 O O aj) O O O O
 refine R.q (q.e9 O O) O<|R.nil<|R.aB O O<|R.reg O<|R.u 1 O<|R.q (q.len' (bC 2 O) O Tryz.underlying159) O<|R.u 1 O<|R.nil<|R.loop (fun g_:Nat×Value×(List ak)=>[(1,.pointer (some ⟨b1,0,none⟩)),(2,.pointer (some ⟨b2,0,none⟩)),(62,vl),(63,iV (ls.length:Int)),(64,iV (g_.1:Int))]) (fun g_=>[ag.row 124 z4 (m.Held.filter (fun x => !(fun (h:Held)=>decide (cJ m.ao h.ak<0)) x)),ag.row 89 vn ns,ag.row 3 vl ls,ag.row 100 z2 (m.Things.filter (fun x => !(fun (t:aE) => !decide (t.ID∈(bU m.ao))) x)),ag.box b3 [v1] 159,ag.row 3 v1 (bU m.ao),ag.box b2 G8 48,ag.box b1 [g_.2.1,z2,z4,vn,iV m.ae,iV m.ah] 48,ag.held w own]) (fun g_=>[ag.ls g_.2.1 g_.2.2,ag.ls S6 m.ao,ag.ls Ur m.Things,ag.ls TQ m.Held,ag.ls TR m.Notes,ag.ls bS r.ao,ag.ls bK r.Things,ag.ls bL r.Held,ag.ls bM r.Notes]) (fun g_=>g_.1<=ls.length/\g_.2.2=(ls.take g_.1).foldl without m.ao) (fun g_=>ls.length-g_.1) (0,S6,m.ao) O (by exact ⟨by omega,rfl⟩) (sF O) (ic bZ [0,0,1,2,3,4,5,6,7] O) ?_
 rintro ⟨j,vw,ws⟩ ⟨hj1,HW⟩
 dsimp only at *
 have hws:ws.length<=2000:=by rw [HW];exact Nat.le_trans (tu _ _) hok.wl
 refine R.reg O<|?_
 by_cases h6:j<ls.length
 .
  refine R.q (q.dz O O) O<|R.nil<|R.av O O<|R.reg O<|?_
  obtain ⟨x2,hx2⟩:∃z,ls[j]? = some z:=⟨_,List.getElem?_eq_getElem (by omega)⟩
  refine R.q (q.idx (i:=j) (bC 2 O) O O df O hx2) O<|R.q (q.lw (bC 2 O) hx2 O au O) O<|R.u 1 O<|R.nil<|R.reg O<|R.q (q.aO O bg O) O<|R.q (q.ld 7 O O bT O) O<|R.u 1 O<|R.s O (s.vW Jk O O (fun w hw=>qp _ ws x2 w (hw.bG 0 O) (by omega)) O) fun v5=>?_
  refine R.q (q.aO O bg O) O<|R.s O (s.fS 8 _ O O O (fun w hw=>Sl.cm (hw.row 0 O)) (.inr ⟨bT,rfl⟩) (fun w hw=>(af (Sl.one (hw.row 0 O)) aP)) O O O) fun _=>?_
  refine R.nil<|R.reg O<|R.q (q.bB (r:=((j+1:Nat):Int)) O O) O<|R.u 1 O<|R.nil<|R.mp (fun _ hw=>hw.cX 0 _ O O)<|R.back (j+1,v5,(without ws x2)) O (by (exact ⟨by omega,by rw [List.take_add_one,hx2,HW];simp⟩)) (by dsimp only;omega) (sF O) (aD bZ [0,2,3,4,5,6,7,8,9] O)
 refine R.q (q.cW O O) O<|R.nil<|R.aB O O<|R.mp (fun _ hw=>hw.cX 3 _ O O)<|R.mp (fun _ hw=>hw.cX 0 _ O O)<|R.mp (fun _ hw=>hw.cX 0 _ O O)<|R.back ((⟨ws,m.Things.filter (fun x => !(fun (t:aE) => !decide (t.ID∈(bU m.ao))) x),m.Held.filter (fun x => !(fun (h:Held)=>decide (cJ m.ao h.ak<0)) x),ns,m.ae,m.ah⟩:aC),vw,z2,z4,vn) O (by (rw [List.take_of_length_le (by omega)] at HN HL;rw [List.take_of_length_le (by omega)] at HW;have hl:pz m=ls:=HL.symm;have e:nB m=(⟨ws,m.Things.filter (fun t => !!decide (t.ID∈bU m.ao)),m.Held.filter (fun h => !decide (cJ m.ao h.ak<0)),ns,m.ae,m.ah⟩:aC):=(by unfold nB;rw [hl,<- HW];unfold fM;rw [<- HN]);exact Eq.mp (congrArg (fun q:aC=>Ok q/\dS q=dS r) e) ⟨hok.nB,(Dt (by rw [hl];assumption)).symm.trans HS⟩)) (by dsimp only;omega) (sF O) (aD [3,4,5] [3,2,1,0,8,9,10,11] O)
end
end Go.Proofs.YtkbhcbipadkcaaaGreatDoor
