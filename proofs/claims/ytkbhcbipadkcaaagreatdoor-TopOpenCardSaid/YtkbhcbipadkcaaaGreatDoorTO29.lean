import Derived.Test.YtkbhcbipadkcaaaGreatDoorTO28
namespace Go.Proofs.YtkbhcbipadkcaaaGreatDoor
set_option linter.unusedVariables false
set_option linter.unusedSimpArgs false
open Go Go.RowKit
set_option maxRecDepth 100000
set_option maxHeartbeats 1000000
theorem jL (bJ:Value)(l:List ap)(w:World)(own:List Nat)(H:HN w own [] [af.ls bJ l])(hl:l.length<=1000000):RC Tryz.prog 105 #[bJ] H (fun z:Value=>z) (fun z=>[af.row 127 z l]) (fun _=>[]):=by
 have yD:=H.cx 0 rfl
 refine R.bF [(0,bJ)] Tryz.func105 O O O O H<|R.reg O<|R.u 1 O<|R.nil<|R.reg O<|R.u 1 O<|?_
 rcases Bool.eq_false_or_eq_true (pq bJ) with h1|h1
 .
  refine R.q (q.G6 (congrArg Value.bool h1) (q.pb (dr 0 O) O O Tryz.underlying43)) O<|R.nil<|R.ay O O<|R.reg O<|R.u 1 O<|R.nil<|R.row0 (α:=ap) 127 ?_
  have hz:l=[]:=by (exact Sl.pq (H.bT 0 rfl) ‹_›)
  rw [hz]
  exact R.w1 (nS) [0,1] [] O Tryz.results105 (RV.tmp O) O O O O
 refine R.q (q.G6 (congrArg Value.bool h1) (q.pb (dr 0 O) O O Tryz.underlying43)) O<|R.nil<|R.aB O O<|R.reg O<|R.s O (s.bs (l:=([]:List ap)) dJ bQ O O O O O O O) fun b1=>R.u 1 O<|R.s O (s.app 0 _ O O O (dr 0 O) lf (by simp;omega) (by simp;omega) (fun _=>rfl) O) fun v1=>R.u 1 O<|R.nil ?_
 have hz:l=(([])++l):=by (rfl)
 rw [hz]
 exact R.w1 v1 [0,1] [] O Tryz.results105 (RV.tmp O) O O O O
theorem jl (bJ:Value)(l:List aE)(w:World)(own:List Nat)(H:HN w own [] [af.ls bJ l])(hl:l.length<=1000000):RC Tryz.prog 106 #[bJ] H (fun z:Value=>z) (fun z=>[af.row 100 z l]) (fun _=>[]):=by
 have yD:=H.cx 0 rfl
 refine R.bF [(0,bJ)] Tryz.func106 O O O O H<|R.reg O<|R.u 1 O<|R.nil<|R.reg O<|R.u 1 O<|?_
 rcases Bool.eq_false_or_eq_true (pq bJ) with h1|h1
 .
  refine R.q (q.G6 (congrArg Value.bool h1) (q.pb (dr 0 O) O O Tryz.underlying44)) O<|R.nil<|R.ay O O<|R.reg O<|R.u 1 O<|R.nil<|R.row0 (α:=aE) 100 ?_
  have hz:l=[]:=by (exact Sl.pq (H.bT 0 rfl) ‹_›)
  rw [hz]
  exact R.w1 (nS) [0,1] [] O Tryz.results106 (RV.tmp O) O O O O
 refine R.q (q.G6 (congrArg Value.bool h1) (q.pb (dr 0 O) O O Tryz.underlying44)) O<|R.nil<|R.aB O O<|R.reg O<|R.s O (s.bs (l:=([]:List aE)) iK jt O O O O O O O) fun b1=>R.u 1 O<|R.s O (s.app 0 _ O O O (dr 0 O) sS (by simp;omega) (by simp;omega) (fun _=>rfl) O) fun v1=>R.u 1 O<|R.nil ?_
 have hz:l=(([])++l):=by (rfl)
 rw [hz]
 exact R.w1 v1 [0,1] [] O Tryz.results106 (RV.tmp O) O O O O
theorem fh (bJ:Value)(l:List Note)(w:World)(own:List Nat)(H:HN w own [] [af.ls bJ l])(hl:l.length<=1000000):RC Tryz.prog 108 #[bJ] H (fun z:Value=>z) (fun z=>[af.row 89 z l]) (fun _=>[]):=by
 have yD:=H.cx 0 rfl
 refine R.bF [(0,bJ)] Tryz.func108 O O O O H<|R.reg O<|R.u 1 O<|R.nil<|R.reg O<|R.u 1 O<|?_
 rcases Bool.eq_false_or_eq_true (pq bJ) with h1|h1
 .
  refine R.q (q.G6 (congrArg Value.bool h1) (q.pb (dr 0 O) O O Tryz.underlying46)) O<|R.nil<|R.ay O O<|R.reg O<|R.u 1 O<|R.nil<|R.row0 (α:=Note) 89 ?_
  have hz:l=[]:=by (exact Sl.pq (H.bT 0 rfl) ‹_›)
  rw [hz]
  exact R.w1 (nS) [0,1] [] O Tryz.results108 (RV.tmp O) O O O O
 refine R.q (q.G6 (congrArg Value.bool h1) (q.pb (dr 0 O) O O Tryz.underlying46)) O<|R.nil<|R.aB O O<|R.reg O<|R.s O (s.bs (l:=([]:List Note)) fA eW O O O O O O O) fun b1=>R.u 1 O<|R.s O (s.app 0 _ O O O (dr 0 O) kg (by simp;omega) (by simp;omega) (fun _=>rfl) O) fun v1=>R.u 1 O<|R.nil ?_
 have hz:l=(([])++l):=by (rfl)
 rw [hz]
 exact R.w1 v1 [0,1] [] O Tryz.results108 (RV.tmp O) O O O O
theorem qp (bJ:Value)(l:List Note)(i:Nat)(j:Nat)(w:World)(own:List Nat)(H:HN w own [af.row 89 bJ l] [])(hij:i<=j/\j<=l.length):RC Tryz.prog 129 #[bJ,iV (i:Int),iV (j:Int)] H (fun z:Value=>z) (fun z=>[af.row 89 z (l.take i++l.drop j)]) (fun _=>[]):=by
 have Hm:=H.cap 0 rfl;have yD:=H.cQ 0 rfl
 refine R.bF [(0,bJ),(1,iV (i:Int)),(2,iV (j:Int))] Tryz.func129 O O O O H<|R.reg O<|R.u 1 O<|R.nil<|R.reg O<|R.u 4 O<|R.q (q.len' (ck 0 O) O Tryz.underlying46) O<|R.q (q.Er (i:=i) (j:=j) (q':=l.length) (ck 0 O) O O O O fA O O O (by omega) (by omega) (by omega)) O<|R.nil<|R.reg O<|R.u 2 O<|?_
 by_cases h1:i=j
 .
  refine R.q (q.fQ O O) O<|R.nil<|R.ay O O<|R.reg O<|R.u 2 O<|R.nil ?_
  have hz:l.take i++l.drop j=l:=by (exact pU (by omega))
  rw [hz]
  exact R.w1 bJ [0,1] [] O Tryz.results129 (RV.tmp O) O O O O
 refine R.q (q.fa O O) O<|R.nil<|R.aB O O<|R.reg O<|R.u 1 O<|R.q (q.len' (ck 0 O) O Tryz.underlying46) O<|R.u 1 O<|R.nil<|R.fu (fuel:=8) (Wd w (blks [af.row 89 bJ l]++own) [af.held w own] []) O mixed O<|D.q (i:=0) O (aC [1] [] O O O) O (q.mv O) O<|D.q (i:=1) O (aC [1] [] O O O) O (q.mv O) O<|D.q (i:=3) O (aC [1] [] O O O) O (q.mv O) O<|D.q (i:=4) O (aC [1] [] O O O) O (q.mv O) O<|D.two (i:=2) (j:=5) O O ?_ ?_
 .
  refine Do.s (s.c (Qt.a (q.kD (i:=i) (ck 0 O) O O Tryz.underlying46 F4 O (by omega))) O) (fun _=>(aC [1] [] O O O)) O fun _=>D.one (i:=5) O<|Do.s (s.c (Qt.a (q.dB (i:=j) (ck 0 O) O O fA O (by omega))) O) (fun _=>(aC [1] [] O O O)) O fun _=>D.one (i:=6) O<|Do.s (s.tJ (a:=i) 0 _ O O O (fun w hw=>Sl.from (hw.row 0 O) (by omega)) kg (by omega) (by simp;omega) O O) (fun _=>(aC [1] [] O O O)) O fun _=>D.q (i:=7) O (aC [1] [] O O O) O (q.as O) O<|D.done<|R.reg O<|R.u 2 O<|R.q (q.len' (ck 0 O) O Tryz.underlying46) O<|R.u 1 O<|R.q (q.sl2 (i:=(l.take i++(l.drop j)).length) (j:=l.length) (ck 0 O) O O O fA O O (by (simp;omega)) (by (simp [fj];omega))) O<|R.s O (s.zh (lo:=(l.take i++(l.drop j)).length) (hi:=l.length) (z0:=(⟨0,⟨#[]⟩,0,0⟩:Note)) 0 O O fA eW O (by omega) (by (simp;omega)) (by (simp [fj];omega))) fun _=>R.nil<|R.reg O<|R.u 2 O<|R.nil ?_
  have hz:l.take i++l.drop j=(l.take i++(l.drop j)):=by (rfl)
  rw [hz]
  exact R.w1 (kD bJ (i+(l.drop j).length)) [0,1] [] O Tryz.results129 (RV.tmp O) O O O O
 refine Do.s (s.c (Qt.a (q.dB (i:=j) (ck 0 O) O O fA O (by omega))) O) (fun _=>(aC [1] [] O O O)) O fun _=>D.one (i:=2) O<|Do.s (s.c (Qt.a (q.kD (i:=i) (ck 0 O) O O Tryz.underlying46 F4 O (by omega))) O) (fun _=>(aC [1] [] O O O)) O fun _=>D.one (i:=6) O<|Do.s (s.tJ (a:=i) 0 _ O O O (fun w hw=>Sl.from (hw.row 0 O) (by omega)) kg (by omega) (by simp;omega) O O) (fun _=>(aC [1] [] O O O)) O fun _=>D.q (i:=7) O (aC [1] [] O O O) O (q.as O) O<|D.done<|R.reg O<|R.u 2 O<|R.q (q.len' (ck 0 O) O Tryz.underlying46) O<|R.u 1 O<|R.q (q.sl2 (i:=(l.take i++(l.drop j)).length) (j:=l.length) (ck 0 O) O O O fA O O (by (simp;omega)) (by (simp [fj];omega))) O<|R.s O (s.zh (lo:=(l.take i++(l.drop j)).length) (hi:=l.length) (z0:=(⟨0,⟨#[]⟩,0,0⟩:Note)) 0 O O fA eW O (by omega) (by (simp;omega)) (by (simp [fj];omega))) fun _=>R.nil<|R.reg O<|R.u 2 O<|R.nil ?_
 have hz:l.take i++l.drop j=(l.take i++(l.drop j)):=by (rfl)
 rw [hz]
 exact R.w1 (kD bJ (i+(l.drop j).length)) [0,1] [] O Tryz.results129 (RV.tmp O) O O O O
theorem iu (bJ:Value)(l:List aE)(pr:aE->Bool)(ic:Nat)(kB:List Value)(jm:∀args w,(callFunc ic args).run Tryz.prog w = .ok (.enter ic args) w)(w:World)(ey:Sl w bJ l)(mL:∀W (x1:aE),Ext w W->Calls Tryz.prog ic ([x1.val]++kB).toArray W fun e w'=>e = .returned (.bool (pr x1))/\Ext W w'):Calls Tryz.prog 166 #[bJ,.func (.func ic) #[] kB.toArray] w fun e w'=>e = .returned (iV (idxOf pr l))/\Ext w w':=by
 have zw:=ey.fC
 refine R.enter [] [(0,bJ),(1,.func (.func ic) #[] kB.toArray)] Tryz.func166 O O O O<|R.reg O<|R.u 1 O<|R.nil<|R.reg O<|R.u 1 O<|R.q (q.len' (fun _=>Wd.old ey) O Tryz.underlying44) O<|R.u 1 O<|R.nil<|R.loop (fun k:Nat=>[(0,bJ),(1,.func (.func ic) #[] kB.toArray),(7,iV (l.length:Int)),(8,iV (k:Int))]) (fun k:Nat=>[]) (fun k:Nat=>[]) (fun k:Nat=>k<=l.length /\ ∀ (j:Nat) x,j<k->l[j]? = some x->pr x=false) (fun k:Nat=>l.length-k) 0 O (by exact ⟨by omega,fun j x hj=>absurd hj (Nat.not_lt_zero _)⟩) (sF O) (fun _=>Wd.pick [] [] O O O) ?_
 rintro k ⟨hk,HA⟩
 refine R.reg O<|?_
 by_cases h1:k<l.length
 .
  refine R.q (q.dy O O) O<|R.nil<|R.ay O O<|R.reg O<|R.u 2 O<|R.nil<|R.reg O<|R.u 3 O<|?_
  obtain ⟨x1,hx1⟩:∃z,l[k]? = some z:=⟨_,List.getElem?_eq_getElem (by omega)⟩
  refine R.q (q.idx (i:=k) (fun _=>Wd.old ey) O O iK O hx1) O<|R.q (q.eV (ds:=lT x1) (fun _=>Wd.old ey) hx1 O gy O) O<|?_
  rcases Bool.eq_false_or_eq_true (pr x1) with h2|h2
  .
   exact R.c (q.call jm O O (fun w hw=>cv (congrArg Value.bool h2) (mL w x1 hw.ext))) O<|R.nil<|R.ay O O<|R.reg O<|R.u 2 O<|R.nil<|R.rv O Tryz.results166 O (rI (by (exact (idxOf_hit hx1 ‹_› HA).symm)))
  refine R.c (q.call jm O O (fun w hw=>cv (congrArg Value.bool h2) (mL w x1 hw.ext))) O<|R.nil<|R.aB O O<|R.reg O<|R.q (q.bA (r:=((k+1:Nat):Int)) O O) O<|R.u 1 O<|R.nil<|R.back (k+1) O (by (exact ⟨by omega,nZ HA hx1 ‹_›⟩)) (by omega) (sF O) (fun _=>Wd.pick [] [] O O O)
 exact R.q (q.cW O O) O<|R.nil<|R.aB O O<|R.reg O<|R.u 1 O<|R.nil<|R.rv O Tryz.results166 O (rI (by (exact (idxOf_miss ‹_› HA).symm)))
theorem ng (bJ:Value)(l:List Note)(pr:Note->Bool)(ic:Nat)(kB:List Value)(jm:∀args w,(callFunc ic args).run Tryz.prog w = .ok (.enter ic args) w)(w:World)(ey:Sl w bJ l)(mL:∀W (x1:Note),Ext w W->Calls Tryz.prog ic ([x1.val]++kB).toArray W fun e w'=>e = .returned (.bool (pr x1))/\Ext W w'):Calls Tryz.prog 126 #[bJ,.func (.func ic) #[] kB.toArray] w fun e w'=>e = .returned (iV (idxOf pr l))/\Ext w w':=by
 have zw:=ey.fC
 refine R.enter [] [(0,bJ),(1,.func (.func ic) #[] kB.toArray)] Tryz.func126 O O O O<|R.reg O<|R.u 1 O<|R.nil<|R.reg O<|R.u 1 O<|R.q (q.len' (fun _=>Wd.old ey) O Tryz.underlying46) O<|R.u 1 O<|R.nil<|R.loop (fun k:Nat=>[(0,bJ),(1,.func (.func ic) #[] kB.toArray),(7,iV (l.length:Int)),(8,iV (k:Int))]) (fun k:Nat=>[]) (fun k:Nat=>[]) (fun k:Nat=>k<=l.length /\ ∀ (j:Nat) x,j<k->l[j]? = some x->pr x=false) (fun k:Nat=>l.length-k) 0 O (by exact ⟨by omega,fun j x hj=>absurd hj (Nat.not_lt_zero _)⟩) (sF O) (fun _=>Wd.pick [] [] O O O) ?_
 rintro k ⟨hk,HA⟩
 refine R.reg O<|?_
 by_cases h1:k<l.length
 .
  refine R.q (q.dy O O) O<|R.nil<|R.ay O O<|R.reg O<|R.u 2 O<|R.nil<|R.reg O<|R.u 3 O<|?_
  obtain ⟨x1,hx1⟩:∃z,l[k]? = some z:=⟨_,List.getElem?_eq_getElem (by omega)⟩
  refine R.q (q.idx (i:=k) (fun _=>Wd.old ey) O O fA O hx1) O<|R.q (q.eV (ds:=mq x1) (fun _=>Wd.old ey) hx1 O di O) O<|?_
  rcases Bool.eq_false_or_eq_true (pr x1) with h2|h2
  .
   exact R.c (q.call jm O O (fun w hw=>cv (congrArg Value.bool h2) (mL w x1 hw.ext))) O<|R.nil<|R.ay O O<|R.reg O<|R.u 2 O<|R.nil<|R.rv O Tryz.results126 O (rI (by (exact (idxOf_hit hx1 ‹_› HA).symm)))
  refine R.c (q.call jm O O (fun w hw=>cv (congrArg Value.bool h2) (mL w x1 hw.ext))) O<|R.nil<|R.aB O O<|R.reg O<|R.q (q.bA (r:=((k+1:Nat):Int)) O O) O<|R.u 1 O<|R.nil<|R.back (k+1) O (by (exact ⟨by omega,nZ HA hx1 ‹_›⟩)) (by omega) (sF O) (fun _=>Wd.pick [] [] O O O)
 exact R.q (q.cW O O) O<|R.nil<|R.aB O O<|R.reg O<|R.u 1 O<|R.nil<|R.rv O Tryz.results126 O (rI (by (exact (idxOf_miss ‹_› HA).symm)))
theorem nh (bJ:Value)(l:List Held)(pr:Held->Bool)(ic:Nat)(kB:List Value)(jm:∀args w,(callFunc ic args).run Tryz.prog w = .ok (.enter ic args) w)(w:World)(ey:Sl w bJ l)(mL:∀W (x1:Held),Ext w W->Calls Tryz.prog ic ([x1.val]++kB).toArray W fun e w'=>e = .returned (.bool (pr x1))/\Ext W w'):Calls Tryz.prog 168 #[bJ,.func (.func ic) #[] kB.toArray] w fun e w'=>e = .returned (iV (idxOf pr l))/\Ext w w':=by
 have zw:=ey.fC
 refine R.enter [] [(0,bJ),(1,.func (.func ic) #[] kB.toArray)] Tryz.func168 O O O O<|R.reg O<|R.u 1 O<|R.nil<|R.reg O<|R.u 1 O<|R.q (q.len' (fun _=>Wd.old ey) O Tryz.underlying45) O<|R.u 1 O<|R.nil<|R.loop (fun k:Nat=>[(0,bJ),(1,.func (.func ic) #[] kB.toArray),(7,iV (l.length:Int)),(8,iV (k:Int))]) (fun k:Nat=>[]) (fun k:Nat=>[]) (fun k:Nat=>k<=l.length /\ ∀ (j:Nat) x,j<k->l[j]? = some x->pr x=false) (fun k:Nat=>l.length-k) 0 O (by exact ⟨by omega,fun j x hj=>absurd hj (Nat.not_lt_zero _)⟩) (sF O) (fun _=>Wd.pick [] [] O O O) ?_
 rintro k ⟨hk,HA⟩
 refine R.reg O<|?_
 by_cases h1:k<l.length
 .
  refine R.q (q.dy O O) O<|R.nil<|R.ay O O<|R.reg O<|R.u 2 O<|R.nil<|R.reg O<|R.u 3 O<|?_
  obtain ⟨x1,hx1⟩:∃z,l[k]? = some z:=⟨_,List.getElem?_eq_getElem (by omega)⟩
  refine R.q (q.idx (i:=k) (fun _=>Wd.old ey) O O cL O hx1) O<|R.q (q.eV (ds:=kG x1) (fun _=>Wd.old ey) hx1 O eX O) O<|?_
  rcases Bool.eq_false_or_eq_true (pr x1) with h2|h2
  .
   exact R.c (q.call jm O O (fun w hw=>cv (congrArg Value.bool h2) (mL w x1 hw.ext))) O<|R.nil<|R.ay O O<|R.reg O<|R.u 2 O<|R.nil<|R.rv O Tryz.results168 O (rI (by (exact (idxOf_hit hx1 ‹_› HA).symm)))
  refine R.c (q.call jm O O (fun w hw=>cv (congrArg Value.bool h2) (mL w x1 hw.ext))) O<|R.nil<|R.aB O O<|R.reg O<|R.q (q.bA (r:=((k+1:Nat):Int)) O O) O<|R.u 1 O<|R.nil<|R.back (k+1) O (by (exact ⟨by omega,nZ HA hx1 ‹_›⟩)) (by omega) (sF O) (fun _=>Wd.pick [] [] O O O)
 exact R.q (q.cW O O) O<|R.nil<|R.aB O O<|R.reg O<|R.u 1 O<|R.nil<|R.rv O Tryz.results168 O (rI (by (exact (idxOf_miss ‹_› HA).symm)))
theorem uf (bJ:Value)(l:List aE)(pr:aE->Bool)(ic:Nat)(kB:List Value)(jm:∀args w,(callFunc ic args).run Tryz.prog w = .ok (.enter ic args) w)(w:World)(own:List Nat)(H:HN w own [af.row 100 bJ l] [])(mL:∀W (x1:aE),lU (blks [af.row 100 bJ l]) w W->Calls Tryz.prog ic ([x1.val]++kB).toArray W fun e w'=>e = .returned (.bool (pr x1))/\Ext W w')(hl:l.length<=1000000):RC Tryz.prog 111 #[bJ,.func (.func ic) #[] kB.toArray] H (fun z:Value=>z) (fun z=>[af.row 100 z (l.filter (fun x => !pr x))]) (fun _=>[]):=by
 have Hm:=H.cap 0 rfl;have yD:=H.cQ 0 rfl
 refine R.bF [(0,bJ),(1,.func (.func ic) #[] kB.toArray)] Tryz.func111 O O O O H<|R.reg O<|R.u 1 O<|R.nil<|R.reg O<|R.u 2 O<|?_
 rcases j3 pr l with ⟨gW,Et⟩ | ⟨px,AY,gW,lY,ve,AZ,TF⟩
 .
  refine R.c (q.call AO O O (fun w hw=>(cv (congrArg (Value.int .i64) gW) (iu _ l pr _ _ jm w (hw.row 0 O) (fun W x1 hW=>mL W x1 ((hw.u6 1 O).trans ((Ext.upd hW).mono (by simp)))) )))) O<|R.u 1 O<|R.nil<|R.reg O<|R.u 1 O<|R.q (q.eql (b:=true) O O (by decide)) O<|R.nil<|R.ay O O<|R.reg O<|R.u 2 O<|R.nil ?_
  have hz:l.filter (fun x => !pr x)=l:=by (exact xK Et)
  rw [hz]
  exact R.w1 bJ [0,1] [] O Tryz.results111 (RV.tmp O) O O O O
 refine R.c (q.call AO O O (fun w hw=>(cv (congrArg (Value.int .i64) gW) (iu _ l pr _ _ jm w (hw.row 0 O) (fun W x1 hW=>mL W x1 ((hw.u6 1 O).trans ((Ext.upd hW).mono (by simp)))) )))) O<|R.u 1 O<|R.nil<|R.reg O<|R.u 1 O<|R.q (q.fa O O) O<|R.nil<|R.aB O O<|R.reg O<|R.u 1 O<|R.q (q.bA (r:=((px+1:Nat):Int)) O O) O<|R.u 1 O<|R.nil<|R.loop (fun g_:Nat×Nat×(List aE)=>[(0,bJ),(1,.func (.func ic) #[] kB.toArray),(5,iV (g_.1:Int)),(6,iV (g_.2.1:Int))]) (fun g_=>[af.row 100 bJ g_.2.2,af.held w own]) (fun g_=>[]) (fun g_=>py pr l g_.2.2 g_.1 g_.2.1) (fun g_=>l.length-g_.2.1) (px,(px+1),l) O (by exact py.start lY ve AZ) (sF O) (fun _=>Wd.pick [0,1] [] O O O) ?_
 rintro ⟨a,b,acc⟩ HA
 dsimp only at *
 have t1:=HA.1;have t2:=HA.2.1;have t3:=HA.2.2.1
 refine R.reg O<|R.u 2 O<|R.q (q.len' (ck 0 O) O Tryz.underlying44) O<|?_
 by_cases h1:b<acc.length
 .
  refine R.q (q.dy O O) O<|R.nil<|R.ay O O<|R.reg O<|R.u 2 O<|?_
  obtain ⟨x1,hx1⟩:∃z,acc[b]? = some z:=⟨_,List.getElem?_eq_getElem (by omega)⟩
  refine R.q (q.idx (i:=b) (ck 0 O) O O iK O hx1) O<|R.q (q.eV (ds:=lT x1) (ck 0 O) hx1 O gy O) O<|R.s O (s.alloc jt O O) fun b1=>R.s O (s.st 0 _ O O O O (.inl gy) O O O O) fun _=>R.nil<|R.reg O<|R.u 1 O<|R.q (q.dv 0 O O gy) O<|?_
  rcases Bool.eq_false_or_eq_true (pr x1) with h2|h2
  .
   refine R.c (q.call jm O O (fun w hw=>cv (congrArg Value.bool h2) (mL w x1 (hw.u6 2 O)))) O<|R.u 1 O<|R.nil<|R.aB O O<|R.reg O<|R.u 1 O<|R.q (q.bA (r:=((b+1:Nat):Int)) O O) O<|R.u 1 O<|R.nil<|R.back (a,(b+1),acc) O (by (exact HA.skip hx1 ‹_›)) (by dsimp only;omega) (sF O) (aC [1,2] [] O O O)
  refine R.c (q.call jm O O (fun w hw=>cv (congrArg Value.bool h2) (mL w x1 (hw.u6 2 O)))) O<|R.u 1 O<|R.nil<|R.ay O O<|R.reg O<|R.u 2 O<|R.q (q.dv 0 O O gy) O<|?_
  obtain ⟨x2,hx2⟩:∃z,acc[a]? = some z:=⟨_,List.getElem?_eq_getElem (by omega)⟩
  refine R.q (q.idx (i:=a) (ck 1 O) O O iK O hx2) O<|R.s O (s.QZ (z:=x1) 1 _ O hx2 O O O O (.inl gy) O) fun _=>R.nil<|R.reg O<|R.u 1 O<|R.q (q.bA (r:=((a+1:Nat):Int)) O O) O<|R.u 1 O<|R.nil<|R.reg O<|R.u 1 O<|R.q (q.bA (r:=((b+1:Nat):Int)) O O) O<|R.u 1 O<|R.nil<|R.back ((a+1),(b+1),(acc.set a x1)) O (by (exact HA.keep hx1 ‹_›)) (by dsimp only;omega) (sF O) (aC [1,2] [] O O O)
 refine R.q (q.cW O O) O<|R.nil<|R.aB O O<|R.reg O<|R.u 2 O<|R.q (q.dB (i:=a) (ck 0 O) O O iK O (by omega)) O<|R.s O (s.OT (lo:=a) (z0:=(⟨0,0,⟨#[]⟩⟩:aE)) 0 _ O O iK jt O (by omega) O) fun _=>R.nil<|R.reg O<|R.u 2 O<|R.q (q.kD (i:=a) (ck 0 O) O O Tryz.underlying44 Mc O (by (simp;omega))) O<|R.u 1 O<|R.nil<|R.I1 0 a _ O (by (simp;omega)) O ?_
 have hz:l.filter (fun x => !pr x)=((acc.take a++List.replicate (acc.length-a) (⟨0,0,⟨#[]⟩⟩:aE)).take a):=by (exact HA.done (by omega))
 rw [hz]
 exact R.w1 (kD bJ a) [0,1] [] O Tryz.results111 (RV.tmp O) O O O O
theorem vm (bJ:Value)(l:List Held)(pr:Held->Bool)(ic:Nat)(kB:List Value)(jm:∀args w,(callFunc ic args).run Tryz.prog w = .ok (.enter ic args) w)(w:World)(own:List Nat)(H:HN w own [af.row 124 bJ l] [])(mL:∀W (x1:Held),lU (blks [af.row 124 bJ l]) w W->Calls Tryz.prog ic ([x1.val]++kB).toArray W fun e w'=>e = .returned (.bool (pr x1))/\Ext W w')(hl:l.length<=1000000):RC Tryz.prog 114 #[bJ,.func (.func ic) #[] kB.toArray] H (fun z:Value=>z) (fun z=>[af.row 124 z (l.filter (fun x => !pr x))]) (fun _=>[]):=by
 have Hm:=H.cap 0 rfl;have yD:=H.cQ 0 rfl
 refine R.bF [(0,bJ),(1,.func (.func ic) #[] kB.toArray)] Tryz.func114 O O O O H<|R.reg O<|R.u 1 O<|R.nil<|R.reg O<|R.u 2 O<|?_
 rcases j3 pr l with ⟨gW,Et⟩ | ⟨px,AY,gW,lY,ve,AZ,TF⟩
 .
  refine R.c (q.call Jt O O (fun w hw=>(cv (congrArg (Value.int .i64) gW) (nh _ l pr _ _ jm w (hw.row 0 O) (fun W x1 hW=>mL W x1 ((hw.u6 1 O).trans ((Ext.upd hW).mono (by simp)))) )))) O<|R.u 1 O<|R.nil<|R.reg O<|R.u 1 O<|R.q (q.eql (b:=true) O O (by decide)) O<|R.nil<|R.ay O O<|R.reg O<|R.u 2 O<|R.nil ?_
  have hz:l.filter (fun x => !pr x)=l:=by (exact xK Et)
  rw [hz]
  exact R.w1 bJ [0,1] [] O Tryz.results114 (RV.tmp O) O O O O
 refine R.c (q.call Jt O O (fun w hw=>(cv (congrArg (Value.int .i64) gW) (nh _ l pr _ _ jm w (hw.row 0 O) (fun W x1 hW=>mL W x1 ((hw.u6 1 O).trans ((Ext.upd hW).mono (by simp)))) )))) O<|R.u 1 O<|R.nil<|R.reg O<|R.u 1 O<|R.q (q.fa O O) O<|R.nil<|R.aB O O<|R.reg O<|R.u 1 O<|R.q (q.bA (r:=((px+1:Nat):Int)) O O) O<|R.u 1 O<|R.nil<|R.loop (fun g_:Nat×Nat×(List Held)=>[(0,bJ),(1,.func (.func ic) #[] kB.toArray),(5,iV (g_.1:Int)),(6,iV (g_.2.1:Int))]) (fun g_=>[af.row 124 bJ g_.2.2,af.held w own]) (fun g_=>[]) (fun g_=>py pr l g_.2.2 g_.1 g_.2.1) (fun g_=>l.length-g_.2.1) (px,(px+1),l) O (by exact py.start lY ve AZ) (sF O) (fun _=>Wd.pick [0,1] [] O O O) ?_
 rintro ⟨a,b,acc⟩ HA
 dsimp only at *
 have t1:=HA.1;have t2:=HA.2.1;have t3:=HA.2.2.1
 refine R.reg O<|R.u 2 O<|R.q (q.len' (ck 0 O) O Tryz.underlying45) O<|?_
 by_cases h1:b<acc.length
 .
  refine R.q (q.dy O O) O<|R.nil<|R.ay O O<|R.reg O<|R.u 2 O<|?_
  obtain ⟨x1,hx1⟩:∃z,acc[b]? = some z:=⟨_,List.getElem?_eq_getElem (by omega)⟩
  refine R.q (q.idx (i:=b) (ck 0 O) O O cL O hx1) O<|R.q (q.eV (ds:=kG x1) (ck 0 O) hx1 O eX O) O<|R.s O (s.alloc gZ O O) fun b1=>R.s O (s.st 0 _ O O O O (.inl eX) O O O O) fun _=>R.nil<|R.reg O<|R.u 1 O<|R.q (q.dv 0 O O eX) O<|?_
  rcases Bool.eq_false_or_eq_true (pr x1) with h2|h2
  .
   refine R.c (q.call jm O O (fun w hw=>cv (congrArg Value.bool h2) (mL w x1 (hw.u6 2 O)))) O<|R.u 1 O<|R.nil<|R.aB O O<|R.reg O<|R.u 1 O<|R.q (q.bA (r:=((b+1:Nat):Int)) O O) O<|R.u 1 O<|R.nil<|R.back (a,(b+1),acc) O (by (exact HA.skip hx1 ‹_›)) (by dsimp only;omega) (sF O) (aC [1,2] [] O O O)
  refine R.c (q.call jm O O (fun w hw=>cv (congrArg Value.bool h2) (mL w x1 (hw.u6 2 O)))) O<|R.u 1 O<|R.nil<|R.ay O O<|R.reg O<|R.u 2 O<|R.q (q.dv 0 O O eX) O<|?_
  obtain ⟨x2,hx2⟩:∃z,acc[a]? = some z:=⟨_,List.getElem?_eq_getElem (by omega)⟩
  refine R.q (q.idx (i:=a) (ck 1 O) O O cL O hx2) O<|R.s O (s.QZ (z:=x1) 1 _ O hx2 O O O O (.inl eX) O) fun _=>R.nil<|R.reg O<|R.u 1 O<|R.q (q.bA (r:=((a+1:Nat):Int)) O O) O<|R.u 1 O<|R.nil<|R.reg O<|R.u 1 O<|R.q (q.bA (r:=((b+1:Nat):Int)) O O) O<|R.u 1 O<|R.nil<|R.back ((a+1),(b+1),(acc.set a x1)) O (by (exact HA.keep hx1 ‹_›)) (by dsimp only;omega) (sF O) (aC [1,2] [] O O O)
 refine R.q (q.cW O O) O<|R.nil<|R.aB O O<|R.reg O<|R.u 2 O<|R.q (q.dB (i:=a) (ck 0 O) O O cL O (by omega)) O<|R.s O (s.OT (lo:=a) (z0:=(⟨(⟨0,0⟩:Place),0⟩:Held)) 0 _ O O cL gZ O (by omega) O) fun _=>R.nil<|R.reg O<|R.u 2 O<|R.q (q.kD (i:=a) (ck 0 O) O O Tryz.underlying45 vv O (by (simp;omega))) O<|R.u 1 O<|R.nil<|R.I1 0 a _ O (by (simp;omega)) O ?_
 have hz:l.filter (fun x => !pr x)=((acc.take a++List.replicate (acc.length-a) (⟨(⟨0,0⟩:Place),0⟩:Held)).take a):=by (exact HA.done (by omega))
 rw [hz]
 exact R.w1 (kD bJ a) [0,1] [] O Tryz.results114 (RV.tmp O) O O O O
theorem vo (bJ:Value)(l:List ap)(pr:ap->Bool)(ic:Nat)(kB:List Value)(jm:∀args w,(callFunc ic args).run Tryz.prog w = .ok (.enter ic args) w)(w:World)(own:List Nat)(H:HN w own [af.row 127 bJ l] [])(mL:∀W (x1:ap),lU (blks [af.row 127 bJ l]) w W->Calls Tryz.prog ic ([x1.val]++kB).toArray W fun e w'=>e = .returned (.bool (pr x1))/\Ext W w')(hl:l.length<=1000000):RC Tryz.prog 123 #[bJ,.func (.func ic) #[] kB.toArray] H (fun z:Value=>z) (fun z=>[af.row 127 z (l.filter (fun x => !pr x))]) (fun _=>[]):=by
 have Hm:=H.cap 0 rfl;have yD:=H.cQ 0 rfl
 refine R.bF [(0,bJ),(1,.func (.func ic) #[] kB.toArray)] Tryz.func123 O O O O H<|R.reg O<|R.u 1 O<|R.nil<|R.reg O<|R.u 2 O<|?_
 rcases j3 pr l with ⟨gW,Et⟩ | ⟨px,AY,gW,lY,ve,AZ,TF⟩
 .
  refine R.c (q.call ED O O (fun w hw=>(cv (congrArg (Value.int .i64) gW) (mK _ l pr _ _ jm w (hw.row 0 O) (fun W x1 hW=>mL W x1 ((hw.u6 1 O).trans ((Ext.upd hW).mono (by simp)))) )))) O<|R.u 1 O<|R.nil<|R.reg O<|R.u 1 O<|R.q (q.eql (b:=true) O O (by decide)) O<|R.nil<|R.ay O O<|R.reg O<|R.u 2 O<|R.nil ?_
  have hz:l.filter (fun x => !pr x)=l:=by (exact xK Et)
  rw [hz]
  exact R.w1 bJ [0,1] [] O Tryz.results123 (RV.tmp O) O O O O
 refine R.c (q.call ED O O (fun w hw=>(cv (congrArg (Value.int .i64) gW) (mK _ l pr _ _ jm w (hw.row 0 O) (fun W x1 hW=>mL W x1 ((hw.u6 1 O).trans ((Ext.upd hW).mono (by simp)))) )))) O<|R.u 1 O<|R.nil<|R.reg O<|R.u 1 O<|R.q (q.fa O O) O<|R.nil<|R.aB O O<|R.reg O<|R.u 1 O<|R.q (q.bA (r:=((px+1:Nat):Int)) O O) O<|R.u 1 O<|R.nil<|R.loop (fun g_:Nat×Nat×(List ap)=>[(0,bJ),(1,.func (.func ic) #[] kB.toArray),(5,iV (g_.1:Int)),(6,iV (g_.2.1:Int))]) (fun g_=>[af.row 127 bJ g_.2.2,af.held w own]) (fun g_=>[]) (fun g_=>py pr l g_.2.2 g_.1 g_.2.1) (fun g_=>l.length-g_.2.1) (px,(px+1),l) O (by exact py.start lY ve AZ) (sF O) (fun _=>Wd.pick [0,1] [] O O O) ?_
 rintro ⟨a,b,acc⟩ HA
 dsimp only at *
 have t1:=HA.1;have t2:=HA.2.1;have t3:=HA.2.2.1
 refine R.reg O<|R.u 2 O<|R.q (q.len' (ck 0 O) O Tryz.underlying43) O<|?_
 by_cases h1:b<acc.length
 .
  refine R.q (q.dy O O) O<|R.nil<|R.ay O O<|R.reg O<|R.u 2 O<|?_
  obtain ⟨x1,hx1⟩:∃z,acc[b]? = some z:=⟨_,List.getElem?_eq_getElem (by omega)⟩
  refine R.q (q.idx (i:=b) (ck 0 O) O O dJ O hx1) O<|R.q (q.eV (ds:=gk x1) (ck 0 O) hx1 O aL O) O<|R.s O (s.alloc bQ O O) fun b1=>R.s O (s.st 0 _ O O O O (.inl aL) O O O O) fun _=>R.nil<|R.reg O<|R.u 1 O<|R.q (q.dv 0 O O aL) O<|?_
  rcases Bool.eq_false_or_eq_true (pr x1) with h2|h2
  .
   refine R.c (q.call jm O O (fun w hw=>cv (congrArg Value.bool h2) (mL w x1 (hw.u6 2 O)))) O<|R.u 1 O<|R.nil<|R.aB O O<|R.reg O<|R.u 1 O<|R.q (q.bA (r:=((b+1:Nat):Int)) O O) O<|R.u 1 O<|R.nil<|R.back (a,(b+1),acc) O (by (exact HA.skip hx1 ‹_›)) (by dsimp only;omega) (sF O) (aC [1,2] [] O O O)
  refine R.c (q.call jm O O (fun w hw=>cv (congrArg Value.bool h2) (mL w x1 (hw.u6 2 O)))) O<|R.u 1 O<|R.nil<|R.ay O O<|R.reg O<|R.u 2 O<|R.q (q.dv 0 O O aL) O<|?_
  obtain ⟨x2,hx2⟩:∃z,acc[a]? = some z:=⟨_,List.getElem?_eq_getElem (by omega)⟩
  refine R.q (q.idx (i:=a) (ck 1 O) O O dJ O hx2) O<|R.s O (s.QZ (z:=x1) 1 _ O hx2 O O O O (.inl aL) O) fun _=>R.nil<|R.reg O<|R.u 1 O<|R.q (q.bA (r:=((a+1:Nat):Int)) O O) O<|R.u 1 O<|R.nil<|R.reg O<|R.u 1 O<|R.q (q.bA (r:=((b+1:Nat):Int)) O O) O<|R.u 1 O<|R.nil<|R.back ((a+1),(b+1),(acc.set a x1)) O (by (exact HA.keep hx1 ‹_›)) (by dsimp only;omega) (sF O) (aC [1,2] [] O O O)
 refine R.q (q.cW O O) O<|R.nil<|R.aB O O<|R.reg O<|R.u 2 O<|R.q (q.dB (i:=a) (ck 0 O) O O dJ O (by omega)) O<|R.s O (s.OT (lo:=a) (z0:=(⟨0,0,0,0,0⟩:ap)) 0 _ O O dJ bQ O (by omega) O) fun _=>R.nil<|R.reg O<|R.u 2 O<|R.q (q.kD (i:=a) (ck 0 O) O O Tryz.underlying43 AG O (by (simp;omega))) O<|R.u 1 O<|R.nil<|R.I1 0 a _ O (by (simp;omega)) O ?_
 have hz:l.filter (fun x => !pr x)=((acc.take a++List.replicate (acc.length-a) (⟨0,0,0,0,0⟩:ap)).take a):=by (exact HA.done (by omega))
 rw [hz]
 exact R.w1 (kD bJ a) [0,1] [] O Tryz.results123 (RV.tmp O) O O O O
theorem uM (bJ:Value)(l:List ap)(w:World)(ey:Sl w bJ l)(hl:l.length<=1000000):Calls Tryz.prog 110 #[bJ] w fun e w' => ∃u,e = .returned u/\Own w.heap.size 3 w' u (bW l)/\Ext w w':=E8 bJ l w ey hl
theorem Fa (bJ:Value)(l:List Int)(x:Int)(w:World)(ey:Sl w bJ l):Calls Tryz.prog 167 #[bJ,iV x] w fun e w'=>e = .returned (iV (idxOf (fun y=>y==x) l))/\Ext w w':=by
 have zw:=ey.fC
 refine R.enter [] [(0,bJ),(1,iV x)] Tryz.func167 O O O O<|R.reg O<|R.u 1 O<|R.nil<|R.reg O<|R.u 1 O<|R.q (q.len' (fun _=>Wd.old ey) O Tryz.underlying159) O<|R.u 1 O<|R.nil<|R.loop (fun k:Nat=>[(0,bJ),(1,iV x),(7,iV (l.length:Int)),(8,iV (k:Int))]) (fun k:Nat=>[]) (fun k:Nat=>[]) (fun k:Nat=>k<=l.length /\ ∀ (j:Nat) y,j<k->l[j]? = some y->(y==x)=false) (fun k:Nat=>l.length-k) 0 O (by exact ⟨by omega,fun j x hj=>absurd hj (Nat.not_lt_zero _)⟩) (sF O) (fun _=>Wd.pick [] [] O O O) ?_
 rintro k ⟨hk,HA⟩
 refine R.reg O<|?_
 by_cases h1:k<l.length
 .
  refine R.q (q.dy O O) O<|R.nil<|R.ay O O<|R.reg O<|R.u 2 O<|R.nil<|R.reg O<|R.u 3 O<|?_
  obtain ⟨x1,hx1⟩:∃z,l[k]? = some z:=⟨_,List.getElem?_eq_getElem (by omega)⟩
  refine R.q (q.idx (i:=k) (fun _=>Wd.old ey) O O da O hx1) O<|R.q (q.lr (fun _=>Wd.old ey) hx1 O av O) O<|?_
  by_cases h2:x=x1
  .
   exact R.q (q.fQ O O) O<|R.nil<|R.ay O O<|R.reg O<|R.u 2 O<|R.nil<|R.rv O Tryz.results167 O (rI (by (exact (idxOf_hit (p:=fun y=>y==x) hx1 (beq_iff_eq.2 (by omega)) HA).symm)))
  refine R.q (q.fa O O) O<|R.nil<|R.aB O O<|R.reg O<|R.q (q.bA (r:=((k+1:Nat):Int)) O O) O<|R.u 1 O<|R.nil<|R.back (k+1) O (by (exact ⟨by omega,nZ (p:=fun y=>y==x) HA hx1 (beq_eq_false_iff_ne.2 (by omega))⟩)) (by omega) (sF O) (fun _=>Wd.pick [] [] O O O)
 exact R.q (q.cW O O) O<|R.nil<|R.aB O O<|R.reg O<|R.u 1 O<|R.nil<|R.rv O Tryz.results167 O (rI (by (exact (idxOf_miss ‹_› HA).symm)))
theorem Gy {l:List Int}{x:Int}:(0<=idxOf (fun y=>y==x) l)=(x∈l):=by
 rcases j3 (fun y:Int=>y==x) l with ⟨h,hn⟩ | ⟨k,y,h,hy,he,_,_⟩
 .rw [h];simp;intro hm;have:=hn x hm;simp at this
 .
  rw [h];simp
  have:y=x:=by simpa using he
  subst this;exact List.mem_of_getElem? hy
theorem fP (bJ:Value)(l:List Int)(x:Int)(w:World)(ey:Sl w bJ l):Calls Tryz.prog 113 #[bJ,iV x] w fun e w'=>e = .returned (.bool (decide (x∈l)))/\Ext w w':=by
 have zw:=ey.fC
 refine R.enter [] [(0,bJ),(1,iV x)] Tryz.func113 O O O O<|R.reg O<|R.u 1 O<|R.nil<|R.reg O<|R.u 2 O<|R.c (q.call Ps O O (fun w hw=>(Fa _ l x w ((fun _=>Wd.old ey) w hw) ))) O<|?_
 by_cases h1:idxOf (fun y=>y==x) l<0
 .
  exact R.q (q.IW O O) O<|R.u 1 O<|R.nil<|R.rv O Tryz.results113 O (rB (by (have e:=Gy (l:=l) (x:=x);exact (decide_eq_false (e▸(by omega))).symm)))
 exact R.q (q.G2 O O) O<|R.u 1 O<|R.nil<|R.rv O Tryz.results113 O (rB (by (have e:=Gy (l:=l) (x:=x);exact (decide_eq_true (e▸(by omega))).symm)))
theorem qV (bH bB bC bD:Value)(r:aD)(p:Place)(w:World)(yR:Sl w bH r.aj)(BK:Sl w bB r.Things)(Fb:Sl w bC r.Held)(ML:Sl w bD r.Notes)(hk:Ok r):Calls Tryz.prog 118 #[.agg #[bH,bB,bC,bD,iV r.ae,iV r.ah],.agg #[iV p.az,iV p.Slot]] w fun e w'=>e = .returned (.tuple #[ap.val (aQ r p).1,dh (aQ r p).2])/\Ext w w':=by
 have b1:=hk.hl
 refine R.enter [] [(0,.agg #[bH,bB,bC,bD,iV r.ae,iV r.ah]),(1,.agg #[iV p.az,iV p.Slot])] Tryz.func118 O O O O<|R.reg O<|R.s O (s.box O O O) fun b1=>R.s O (s.box O O O) fun b2=>R.s O (s.alloc bQ O O) fun b3=>R.u 1 O<|R.nil<|R.reg O<|R.q (q.dv 1 O O bP) O<|R.c (q.call AK O O (fun w hw=>(km p w ))) O<|R.u 1 O<|R.nil<|R.reg O<|R.u 1 O<|?_
 by_cases h1:aY p=0
 .
  refine R.q (q.dC O O Tryz.underlying38) O<|R.nil<|R.aB O O ?_
  rcases fk r.aj (mT r.Held p) with ⟨gW,Et⟩ | ⟨Dk,lY,gW,ve,SQ⟩
  .
   exact R.ew O mixed (by kernel_rfl)<|Q.q (q.aO O bg O) O<|Q.q (q.ld 2 O O bV O) O<|Q.q (q.aO O cG O) O<|Q.q (q.ld 2 O O dE O) O<|Q.q (q.dv 1 O O bP) O<|Q.c (q.call AP O O (fun w hw=>(mY _ r.Held p w ((fun _=>Wd.old Fb) w hw) (by omega)))) O<|Q.c (q.call lI O O (fun w hw=>(cv (congrArg (Value.int .i64) gW) (iA _ r.aj (mT r.Held p) w ((fun _=>Wd.old yR) w hw) )))) O<|Q.u 1 O<|Q.nil<|R.reg O<|R.u 1 O<|R.q (q.lss (b:=true) O O (by decide)) O<|R.nil<|R.ay O O<|R.reg O<|R.q (q.build iY O O) O<|R.q (q.iface O bm) O<|R.s O (s.st 0 _ O O O O (.inl aL) O O O O) fun _=>R.u 1 O<|R.nil<|R.Cg O Tryz.results118 (RV.cell 0 O O aL) (RV.tmp O) (congrArg ap.val (show (⟨0,0,0,0,0⟩:ap)=(aQ r p).1 from by (rw [zO ‹_› gW];rfl))) (dq (by decide) (by (rw [zO ‹_› gW];done)))
  refine R.ew O mixed (by kernel_rfl)<|Q.q (q.aO O bg O) O<|Q.q (q.ld 2 O O bV O) O<|Q.q (q.aO O cG O) O<|Q.q (q.ld 2 O O dE O) O<|Q.q (q.dv 1 O O bP) O<|Q.c (q.call AP O O (fun w hw=>(mY _ r.Held p w ((fun _=>Wd.old Fb) w hw) (by omega)))) O<|Q.c (q.call lI O O (fun w hw=>(cv (congrArg (Value.int .i64) gW) (iA _ r.aj (mT r.Held p) w ((fun _=>Wd.old yR) w hw) )))) O<|Q.u 1 O<|Q.nil<|R.reg O<|R.u 1 O<|R.q (q.cW O O) O<|R.nil<|R.aB O O<|R.reg O<|R.q (q.aO O bg O) O<|R.q (q.ld 2 O O bV O) O<|R.u 1 O<|R.q (q.idx (i:=Dk) (fun _=>Wd.old yR) O O dJ O (List.getElem?_eq_getElem lY)) O<|R.q (q.eV (ds:=gk (r.aj[Dk])) (fun _=>Wd.old yR) (List.getElem?_eq_getElem lY) O aL O) O<|?_
  exact R.s O (s.st 0 _ O O O O (.inl aL) O O O O) fun _=>R.u 1 O<|R.nil<|R.Cg O Tryz.results118 (RV.cell 0 O O aL) (RV.tmp O) (congrArg ap.val (show (r.aj[Dk])=(aQ r p).1 from by (rw [Dp ‹_› gW (List.getElem?_eq_getElem lY)];done))) (iI (by (rw [Dp ‹_› gW (List.getElem?_eq_getElem lY)];done)))
 exact R.q (q.eo O O Tryz.underlying38) O<|R.nil<|R.ay O O<|R.reg O<|R.q (q.build iY O O) O<|R.u 1 O<|R.s O (s.st 0 _ O O O O (.inl aL) O O O O) fun _=>R.u 1 O<|R.nil<|R.Cg O Tryz.results118 (RV.cell 0 O O aL) (RV.tmp O) (congrArg ap.val (show (⟨0,0,0,0,0⟩:ap)=(aQ r p).1 from by (rw [xL ‹_›];rfl))) (rE (by (rw [xL ‹_›];done)))
theorem qW (bH bB bC bD:Value)(r:aD)(p:Place)(w:World)(yR:Sl w bH r.aj)(BK:Sl w bB r.Things)(Fb:Sl w bC r.Held)(ML:Sl w bD r.Notes)(hk:Ok r):Calls Tryz.prog 116 #[.agg #[bH,bB,bC,bD,iV r.ae,iV r.ah],.agg #[iV p.az,iV p.Slot]] w fun e w'=>e = .returned (dh (gM r p))/\Ext w w':=by
 have b1:=hk.hl
 refine R.enter [] [(0,.agg #[bH,bB,bC,bD,iV r.ae,iV r.ah]),(1,.agg #[iV p.az,iV p.Slot])] Tryz.func116 O O O O<|R.reg O<|R.s O (s.box O O O) fun b1=>R.s O (s.box O O O) fun b2=>R.u 1 O<|R.nil<|R.reg O<|R.q (q.dv 0 O O bP) O<|R.c (q.call AK O O (fun w hw=>(km p w ))) O<|R.u 1 O<|R.nil<|R.reg O<|R.u 1 O<|?_
 by_cases h1:aY p=0
 .
  refine R.q (q.mB O O Tryz.underlying38) O<|R.u 1 O<|R.qg O (q.aO O cG O) O<|R.qg O (q.ld 1 O O dE O) O<|R.qg O (q.dv 0 O O bP) O<|R.cg O (q.call AP O O (fun w hw=>(mY _ r.Held p w ((fun _=>Wd.old Fb) w hw) (by omega)))) O<|?_
  by_cases h2:mT r.Held p=0
  .
   exact R.qg O (q.lH O O) O<|R.u 1 O<|R.nil<|R.aB O O<|R.reg O<|R.u 2 O<|R.nil<|R.rv O Tryz.results116 O (rE (by (unfold gM;(rw [if_pos ‹_›,if_pos ‹_›];omega))))
  exact R.qg O (q.lG O O) O<|R.u 1 O<|R.nil<|R.ay O O<|R.reg O<|R.q (q.iface O bm) O<|R.u 1 O<|R.nil<|R.reg O<|R.u 2 O<|R.nil<|R.rv O Tryz.results116 O (dq (by decide) (by (unfold gM;(rw [if_pos ‹_›,if_neg ‹_›];done))))
 exact R.q (q.jF O O Tryz.underlying38) O<|R.u 7 O<|R.nil<|R.aB O O<|R.reg O<|R.u 2 O<|R.nil<|R.rv O Tryz.results116 O (rE (by (unfold gM;(rw [if_neg ‹_›];done))))
theorem qq (bH bB bC bD:Value)(r:aD)(w0:ap)(p:Place)(w:World)(own:List Nat)(H:HN w own [] [af.ls bH r.aj,af.ls bB r.Things,af.ls bC r.Held,af.ls bD r.Notes])(hk:r.Held.length<=3000/\r.aj.length<=3000/\0<=r.ae/\r.ae<=3000):RC Tryz.prog 117 #[.agg #[bH,bB,bC,bD,iV r.ae,iV r.ah],.agg #[iV w0.ID,iV w0.aE,iV w0.Rights,iV w0.aN,iV w0.From],.agg #[iV p.az,iV p.Slot]] H (fun z:Value×Value×Value×Value => .agg #[z.1,z.2.1,z.2.2.1,z.2.2.2,iV (e8 r w0 p).ae,iV (e8 r w0 p).ah]) (fun _=>[]) (fun z=>[af.ls z.1 (e8 r w0 p).aj,af.ls z.2.1 (e8 r w0 p).Things,af.ls z.2.2.1 (e8 r w0 p).Held,af.ls z.2.2.2 (e8 r w0 p).Notes]):=by
 have eJ:=H.cx 0 rfl
 have dM:=H.cx 1 rfl
 have fI:=H.cx 2 rfl
 have eK:=H.cx 3 rfl
 have b1:=hk.1;have b2:=hk.2.1;have b3:=hk.2.2.1;have b4:=hk.2.2.2
 refine R.bF [(0,.agg #[bH,bB,bC,bD,iV r.ae,iV r.ah]),(1,.agg #[iV w0.ID,iV w0.aE,iV w0.Rights,iV w0.aN,iV w0.From]),(2,.agg #[iV p.az,iV p.Slot])] Tryz.func117 O O O O H<|R.reg O<|R.s O (s.box O O O) fun b1=>R.s O (s.box O O O) fun b2=>R.s O (s.box O O O) fun b3=>R.s O (s.alloc dQ O O) fun b4=>R.nil<|R.fu (fuel:=8) (Wd w (blks []++own) [af.box b4 rP 48,af.box b3 (fw p) 32,af.box b2 (gk w0) 127,af.held w own] [af.ls bH r.aj,af.ls bB r.Things,af.ls bC r.Held,af.ls bD r.Notes]) O mixed O<|D.q (i:=0) O (aC [0,1,2,4] bS O O O) O (q.aO O bg O) O<|D.q (i:=3) O (aC [0,1,2,4] bS O O O) O (q.dv 2 O O aL) O<|D.two (i:=1) (j:=4) O O ?_ ?_
 .
  refine Do.s (s.c (Qt.a (q.ld 3 O O bV O)) O) (fun _=>(aC [0,1,2,4] bS O O O)) O fun _=>D.two (i:=2) (j:=4) O O ?_ ?_
  .
   refine Do.s (s.aW ig [0] _ _ _ O O O wu O O (fun w own hw H=>jL bH r.aj w own H (by omega)) O) (fun _=>(aC [1,2,3,5] bS O O O)) O fun z2=>D.one (i:=4) O<|Do.s (s.bs (l:=([w0]:List ap)) dJ bQ O O O O O O O) (fun _=>(aC o7 bS O O O)) O fun b5=>D.one (i:=5) O<|Do.s (s.app 1 _ O O O (ck 0 O) lf (by (simp;omega)) (by (simp;omega)) (fun _=>rfl) O) (fun _=>(aC o7 bS O O O)) O fun v1=>D.q (i:=6) O (aC o7 bS O O O) O (q.aO O bg O) O<|D.one (i:=7) O<|Do.s (s.fZ 5 _ O O O (fun w hw=>Sl.cu (hw.row 1 O)) (.inr ⟨bV,rfl⟩) (fun w hw=>(ag (Sl.one (hw.row 1 O)) aP)) O O O) (fun _=>(aC o7 bS O O O)) O fun _=>D.done<|R.reg O<|R.q (q.aO O cM O) O<|R.q (q.ld 5 O O av O) O<|R.q (q.bA (r:=r.ae+1) O O) O<|R.q (q.aO O cM O) O<|R.s O (s.st 5 _ O O O O (.inr ⟨av,rfl⟩) O O O O) fun _=>R.nil<|R.reg O<|R.q (q.aO O fx O) O<|R.q (q.ld 3 O O av O) O<|?_
   by_cases h1:0<p.az
   .
    refine R.q (q.eL O O) O<|R.nil<|R.ay O O<|R.reg O<|R.q (q.aO O cG O) O<|R.q (q.ld 5 O O dE O) O<|R.q (q.dv 3 O O bP) O<|R.q (q.aO O bX O) O<|R.q (q.ld 4 O O av O) O<|R.s O (s.aW ml [2] _ _ _ O O O tM O O (fun w own hw H=>qG bC r.Held p w0.ID w own H (by omega)) O) fun z3=>R.q (q.aO O cG O) O<|R.s O (s.fZ 6 _ O O O (fun w hw=>Sl.cu (hw.row 0 O)) (.inr ⟨dE,rfl⟩) (fun w hw=>(ag (Sl.one (hw.row 0 O)) aP)) O O O) fun _=>R.nil<|R.reg O<|R.q (q.dv 6 O O ar) O<|R.s O (s.fZ 3 _ O O O (fun _ _=>rfl) (.inl ar) (fun w hw=>(ag (Sl.one (hw.row 2 O)) (ag (Sl.one (hw.bT 1 O)) (ag (Sl.one (hw.row 0 O)) (ag (Sl.one (hw.bT 3 O)) (ag O (ag O aP))))))) O O O) fun _=>R.nil<|R.mp (fun _ hw=>hw.cX 2 _ O O)<|R.mp (fun _ hw=>hw.cX 0 _ O O) ?_
    have hz:e8 r w0 p=(⟨(r.aj++([w0])),r.Things,fL r.Held p w0.ID,r.Notes,(r.ae+1),r.ah⟩:aD):=by (unfold e8;(rw [if_pos ‹_›];done))
    rw [hz]
    exact R.w1 (v1,bB,z3,bD) [5] [1,3,0,5] O Tryz.results117 (RV.cell 1 O O ar) O O O O
   refine R.q (q.eu O O) O<|R.nil<|R.aB O O<|R.reg O<|R.q (q.dv 5 O O ar) O<|R.s O (s.fZ 2 _ O O O (fun _ _=>rfl) (.inl ar) (fun w hw=>(ag (Sl.one (hw.row 1 O)) (ag (Sl.one (hw.bT 1 O)) (ag (Sl.one (hw.bT 2 O)) (ag (Sl.one (hw.bT 3 O)) (ag O (ag O aP))))))) O O O) fun _=>R.nil<|R.mp (fun _ hw=>hw.cX 1 _ O O) ?_
   have hz:e8 r w0 p=(⟨(r.aj++([w0])),r.Things,r.Held,r.Notes,(r.ae+1),r.ah⟩:aD):=by (unfold e8;(rw [if_neg ‹_›];done))
   rw [hz]
   exact R.w1 (v1,bB,bC,bD) [5] [0,2,3,4] O Tryz.results117 (RV.cell 1 O O ar) O O O O
  refine Do.s (s.bs (l:=([w0]:List ap)) dJ bQ O O O O O O O) (fun _=>(aC [1,2,3,5] bS O O O)) O fun b6=>D.one (i:=2) O<|Do.s (s.aW rO [0] _ _ _ O O O wu O O (fun w own hw H=>jL bH r.aj w own H (by omega)) O) (fun _=>(aC o7 bS O O O)) O fun z4=>D.one (i:=5) O<|Do.s (s.app 0 _ O O O (ck 1 O) lf (by (simp;omega)) (by (simp;omega)) (fun _=>rfl) O) (fun _=>(aC o7 bS O O O)) O fun v2=>D.q (i:=6) O (aC o7 bS O O O) O (q.aO O bg O) O<|D.one (i:=7) O<|Do.s (s.fZ 5 _ O O O (fun w hw=>Sl.cu (hw.row 0 O)) (.inr ⟨bV,rfl⟩) (fun w hw=>(ag (Sl.one (hw.row 0 O)) aP)) O O O) (fun _=>(aC o7 bS O O O)) O fun _=>D.done<|R.reg O<|R.q (q.aO O cM O) O<|R.q (q.ld 5 O O av O) O<|R.q (q.bA (r:=r.ae+1) O O) O<|R.q (q.aO O cM O) O<|R.s O (s.st 5 _ O O O O (.inr ⟨av,rfl⟩) O O O O) fun _=>R.nil<|R.reg O<|R.q (q.aO O fx O) O<|R.q (q.ld 3 O O av O) O<|?_
  by_cases h2:0<p.az
  .
   refine R.q (q.eL O O) O<|R.nil<|R.ay O O<|R.reg O<|R.q (q.aO O cG O) O<|R.q (q.ld 5 O O dE O) O<|R.q (q.dv 3 O O bP) O<|R.q (q.aO O bX O) O<|R.q (q.ld 4 O O av O) O<|R.s O (s.aW ml [2] _ _ _ O O O tM O O (fun w own hw H=>qG bC r.Held p w0.ID w own H (by omega)) O) fun z5=>R.q (q.aO O cG O) O<|R.s O (s.fZ 6 _ O O O (fun w hw=>Sl.cu (hw.row 0 O)) (.inr ⟨dE,rfl⟩) (fun w hw=>(ag (Sl.one (hw.row 0 O)) aP)) O O O) fun _=>R.nil<|R.reg O<|R.q (q.dv 6 O O ar) O<|R.s O (s.fZ 3 _ O O O (fun _ _=>rfl) (.inl ar) (fun w hw=>(ag (Sl.one (hw.row 1 O)) (ag (Sl.one (hw.bT 1 O)) (ag (Sl.one (hw.row 0 O)) (ag (Sl.one (hw.bT 3 O)) (ag O (ag O aP))))))) O O O) fun _=>R.nil<|R.mp (fun _ hw=>hw.cX 1 _ O O)<|R.mp (fun _ hw=>hw.cX 0 _ O O) ?_
   have hz:e8 r w0 p=(⟨(r.aj++([w0])),r.Things,fL r.Held p w0.ID,r.Notes,(r.ae+1),r.ah⟩:aD):=by (unfold e8;(rw [if_pos ‹_›];done))
   rw [hz]
   exact R.w1 (v2,bB,z5,bD) [5] [1,3,0,5] O Tryz.results117 (RV.cell 1 O O ar) O O O O
  refine R.q (q.eu O O) O<|R.nil<|R.aB O O<|R.reg O<|R.q (q.dv 5 O O ar) O<|R.s O (s.fZ 2 _ O O O (fun _ _=>rfl) (.inl ar) (fun w hw=>(ag (Sl.one (hw.row 0 O)) (ag (Sl.one (hw.bT 1 O)) (ag (Sl.one (hw.bT 2 O)) (ag (Sl.one (hw.bT 3 O)) (ag O (ag O aP))))))) O O O) fun _=>R.nil<|R.mp (fun _ hw=>hw.cX 0 _ O O) ?_
  have hz:e8 r w0 p=(⟨(r.aj++([w0])),r.Things,r.Held,r.Notes,(r.ae+1),r.ah⟩:aD):=by (unfold e8;(rw [if_neg ‹_›];done))
  rw [hz]
  exact R.w1 (v2,bB,bC,bD) [5] [0,2,3,4] O Tryz.results117 (RV.cell 1 O O ar) O O O O
 refine Do.s (s.bs (l:=([w0]:List ap)) dJ bQ O O O O O O O) (fun _=>(aC [1,2,3,5] bS O O O)) O fun b7=>D.one (i:=1) O<|Do.s (s.c (Qt.a (q.ld 4 O O bV O)) O) (fun _=>(aC [1,2,3,5] bS O O O)) O fun _=>D.one (i:=2) O<|Do.s (s.aW rO [0] _ _ _ O O O wu O O (fun w own hw H=>jL bH r.aj w own H (by omega)) O) (fun _=>(aC o7 bS O O O)) O fun z6=>D.one (i:=5) O<|Do.s (s.app 0 _ O O O (ck 1 O) lf (by (simp;omega)) (by (simp;omega)) (fun _=>rfl) O) (fun _=>(aC o7 bS O O O)) O fun v3=>D.q (i:=6) O (aC o7 bS O O O) O (q.aO O bg O) O<|D.one (i:=7) O<|Do.s (s.fZ 5 _ O O O (fun w hw=>Sl.cu (hw.row 0 O)) (.inr ⟨bV,rfl⟩) (fun w hw=>(ag (Sl.one (hw.row 0 O)) aP)) O O O) (fun _=>(aC o7 bS O O O)) O fun _=>D.done<|R.reg O<|R.q (q.aO O cM O) O<|R.q (q.ld 5 O O av O) O<|R.q (q.bA (r:=r.ae+1) O O) O<|R.q (q.aO O cM O) O<|R.s O (s.st 5 _ O O O O (.inr ⟨av,rfl⟩) O O O O) fun _=>R.nil<|R.reg O<|R.q (q.aO O fx O) O<|R.q (q.ld 3 O O av O) O<|?_
 by_cases h3:0<p.az
 .
  refine R.q (q.eL O O) O<|R.nil<|R.ay O O<|R.reg O<|R.q (q.aO O cG O) O<|R.q (q.ld 5 O O dE O) O<|R.q (q.dv 3 O O bP) O<|R.q (q.aO O bX O) O<|R.q (q.ld 4 O O av O) O<|R.s O (s.aW ml [2] _ _ _ O O O tM O O (fun w own hw H=>qG bC r.Held p w0.ID w own H (by omega)) O) fun z7=>R.q (q.aO O cG O) O<|R.s O (s.fZ 6 _ O O O (fun w hw=>Sl.cu (hw.row 0 O)) (.inr ⟨dE,rfl⟩) (fun w hw=>(ag (Sl.one (hw.row 0 O)) aP)) O O O) fun _=>R.nil<|R.reg O<|R.q (q.dv 6 O O ar) O<|R.s O (s.fZ 3 _ O O O (fun _ _=>rfl) (.inl ar) (fun w hw=>(ag (Sl.one (hw.row 1 O)) (ag (Sl.one (hw.bT 1 O)) (ag (Sl.one (hw.row 0 O)) (ag (Sl.one (hw.bT 3 O)) (ag O (ag O aP))))))) O O O) fun _=>R.nil<|R.mp (fun _ hw=>hw.cX 1 _ O O)<|R.mp (fun _ hw=>hw.cX 0 _ O O) ?_
  have hz:e8 r w0 p=(⟨(r.aj++([w0])),r.Things,fL r.Held p w0.ID,r.Notes,(r.ae+1),r.ah⟩:aD):=by (unfold e8;(rw [if_pos ‹_›];done))
  rw [hz]
  exact R.w1 (v3,bB,z7,bD) [5] [1,3,0,5] O Tryz.results117 (RV.cell 1 O O ar) O O O O
 refine R.q (q.eu O O) O<|R.nil<|R.aB O O<|R.reg O<|R.q (q.dv 5 O O ar) O<|R.s O (s.fZ 2 _ O O O (fun _ _=>rfl) (.inl ar) (fun w hw=>(ag (Sl.one (hw.row 0 O)) (ag (Sl.one (hw.bT 1 O)) (ag (Sl.one (hw.bT 2 O)) (ag (Sl.one (hw.bT 3 O)) (ag O (ag O aP))))))) O O O) fun _=>R.nil<|R.mp (fun _ hw=>hw.cX 0 _ O O) ?_
 have hz:e8 r w0 p=(⟨(r.aj++([w0])),r.Things,r.Held,r.Notes,(r.ae+1),r.ah⟩:aD):=by (unfold e8;(rw [if_neg ‹_›];done))
 rw [hz]
 exact R.w1 (v3,bB,bC,bD) [5] [0,2,3,4] O Tryz.results117 (RV.cell 1 O O ar) O O O O
theorem KM (w:World)(own:List Nat)(H:HN w own [] []):RC Tryz.prog 71 #[] H (fun z:Value×Value×Value×Value => .agg #[z.1,z.2.1,z.2.2.1,z.2.2.2,iV (⟨[],[],[],[],1,1⟩:aD).ae,iV (⟨[],[],[],[],1,1⟩:aD).ah]) (fun _=>[]) (fun z=>[af.ls z.1 ((⟨[],[],[],[],1,1⟩:aD).aj:List ap),af.ls z.2.1 ((⟨[],[],[],[],1,1⟩:aD).Things:List aE),af.ls z.2.2.1 ((⟨[],[],[],[],1,1⟩:aD).Held:List Held),af.ls z.2.2.2 ((⟨[],[],[],[],1,1⟩:aD).Notes:List Note)]):=by
 exact R.bF [] Tryz.func71 rfl rfl rfl rfl H<|R.reg rfl<|R.s rfl (s.alloc dQ rfl rfl) fun b1=>R.nil<|R.reg rfl<|R.q (q.build d9 rfl rfl) rfl<|R.s rfl (s.st 0 _ rfl rfl rfl rfl (.inl ar) rfl rfl rfl rfl) fun _=>R.nil<|R.mp (fun _ hw=>hw.a8 (α:=ap))<|R.mp (fun _ hw=>hw.a8 (α:=aE))<|R.mp (fun _ hw=>hw.a8 (α:=Held))<|R.mp (fun _ hw=>hw.a8 (α:=Note))<|R.w1 ((nS),(nS),(nS),(nS)) [1] [3,2,1,0] rfl Tryz.results71 (RV.cell 0 rfl rfl ar) rfl rfl rfl rfl
theorem xQ (t:aE)(w0:ap)(BL:Nat)(w:World)(KN:(af.box BL (gk w0) 127).ok w):Calls Tryz.prog 174 #[.agg #[iV t.ID,iV t.Kind,.string t.Data],.pointer (some ⟨BL,0,none⟩)] w fun e w'=>e = .returned (.bool (t.ID==w0.aE))/\Ext w w':=by
 refine R.enter [] [(0,.agg #[iV t.ID,iV t.Kind,.string t.Data]),(1,.pointer (some ⟨BL,0,none⟩))] Tryz.func174 O O O O<|R.nH (r:=af.box BL (gk w0) 127) KN (jO KN)<|R.reg O<|R.s O (s.box O O O) fun b1=>R.u 1 O<|R.nil<|R.reg O<|R.q (q.aO O ow O) O<|R.q (q.ld 0 O O av O) O<|R.q (q.aO O fT O) O<|R.q (q.yB 0 O O av O) O<|?_
 by_cases h1:t.ID=w0.aE
 .
  exact R.q (q.fQ O O) O<|R.u 1 O<|R.nil<|R.rv O Tryz.results174 O (rB (by (exact (beq_iff_eq.2 ‹_›).symm)))
 exact R.q (q.fa O O) O<|R.u 1 O<|R.nil<|R.rv O Tryz.results174 O (rB (by (exact (beq_eq_false_iff_ne.2 ‹_›).symm)))
theorem uN (t:Note)(w0:ap)(BL:Nat)(w:World)(KN:(af.box BL (gk w0) 127).ok w):Calls Tryz.prog 127 #[.agg #[iV t.Port,.string t.Data,iV t.aN,iV t.ap],.pointer (some ⟨BL,0,none⟩)] w fun e w'=>e = .returned (.bool (t.Port==w0.aE))/\Ext w w':=by
 refine R.enter [] [(0,.agg #[iV t.Port,.string t.Data,iV t.aN,iV t.ap]),(1,.pointer (some ⟨BL,0,none⟩))] Tryz.func127 O O O O<|R.nH (r:=af.box BL (gk w0) 127) KN (jO KN)<|R.reg O<|R.s O (s.box O O O) fun b1=>R.u 1 O<|R.nil<|R.reg O<|R.q (q.aO O qB O) O<|R.q (q.ld 0 O O av O) O<|R.q (q.aO O fT O) O<|R.q (q.yB 0 O O av O) O<|?_
 by_cases h1:t.Port=w0.aE
 .
  exact R.q (q.fQ O O) O<|R.u 1 O<|R.nil<|R.rv O Tryz.results127 O (rB (by (exact (beq_iff_eq.2 ‹_›).symm)))
 exact R.q (q.fa O O) O<|R.u 1 O<|R.nil<|R.rv O Tryz.results127 O (rB (by (exact (beq_eq_false_iff_ne.2 ‹_›).symm)))
theorem yS (t:aE)(Qn:Value)(ts:List Int)(MN:Nat)(w:World)(SU:(af.box MN [Qn] 159).ok w)(Ug:Sl w Qn ts):Calls Tryz.prog 112 #[.agg #[iV t.ID,iV t.Kind,.string t.Data],.pointer (some ⟨MN,0,none⟩)] w fun e w'=>e = .returned (.bool (!decide (t.ID∈ts)))/\Ext w w':=by
 exact R.enter [] [(0,.agg #[iV t.ID,iV t.Kind,.string t.Data]),(1,.pointer (some ⟨MN,0,none⟩))] Tryz.func112 rfl rfl rfl rfl<|R.nH (r:=af.box MN [Qn] 159) SU (jO SU)<|R.reg rfl<|R.s rfl (s.box rfl rfl rfl) fun b1=>R.u 1 rfl<|R.nil<|R.reg rfl<|R.q (q.yB 0 rfl rfl nK rfl) rfl<|R.q (q.aO rfl ow rfl) rfl<|R.q (q.ld 0 rfl rfl av rfl) rfl<|R.c (q.call pP rfl rfl (fun w hw=>(fP _ ts t.ID w ((fun _=>Wd.old Ug) w hw) ))) rfl<|R.q (q.not rfl) rfl<|R.u 1 rfl<|R.nil<|R.rv rfl Tryz.results112 rfl (rB (by rfl))
theorem yU (h:Held)(bH bB bC bD:Value)(r:aD)(Dr:Nat)(w:World)(UX:(af.box Dr [bH,bB,bC,bD,iV r.ae,iV r.ah] 48).ok w)(yR:Sl w bH r.aj)(BK:Sl w bB r.Things)(Fb:Sl w bC r.Held)(ML:Sl w bD r.Notes):Calls Tryz.prog 115 #[.agg #[iV h.Place.az,iV h.Place.Slot,iV h.ap],.pointer (some ⟨Dr,0,none⟩)] w fun e w'=>e = .returned (.bool (decide (cK r.aj h.ap<0)))/\Ext w w':=by
 refine R.enter [] [(0,.agg #[iV h.Place.az,iV h.Place.Slot,iV h.ap]),(1,.pointer (some ⟨Dr,0,none⟩))] Tryz.func115 O O O O<|R.nH (r:=af.box Dr [bH,bB,bC,bD,iV r.ae,iV r.ah] 48) UX (jO UX)<|R.reg O<|R.s O (s.box O O O) fun b1=>R.u 1 O<|R.nil<|R.reg O<|R.q (q.aO O bg O) O<|R.q (q.yB 0 O O bV O) O<|R.q (q.aO O jQ O) O<|R.q (q.ld 0 O O av O) O<|?_
 rcases fk r.aj h.ap with ⟨gW,Et⟩ | ⟨Dk,lY,gW,ve,SQ⟩
 .
  exact R.c (q.call lI O O (fun w hw=>(cv (congrArg (Value.int .i64) gW) (iA _ r.aj h.ap w ((fun _=>Wd.old yR) w hw) )))) O<|R.q (q.lss (b:=true) O O (by decide)) O<|R.u 1 O<|R.nil<|R.rv O Tryz.results115 O (rB (by (exact (decide_eq_true (by omega)).symm)))
 exact R.c (q.call lI O O (fun w hw=>(cv (congrArg (Value.int .i64) gW) (iA _ r.aj h.ap w ((fun _=>Wd.old yR) w hw) )))) O<|R.q (q.cW O O) O<|R.u 1 O<|R.nil<|R.rv O Tryz.results115 O (rB (by (exact (decide_eq_false (by omega)).symm)))
theorem yV (x:ap)(Qo:Value)(gs:List Int)(MO:Nat)(w:World)(SX:(af.box MO [Qo] 159).ok w)(Uh:Sl w Qo gs):Calls Tryz.prog 124 #[.agg #[iV x.ID,iV x.aE,iV x.Rights,iV x.aN,iV x.From],.pointer (some ⟨MO,0,none⟩)] w fun e w'=>e = .returned (.bool (decide (x.ID∈gs)))/\Ext w w':=by
 exact R.enter [] [(0,.agg #[iV x.ID,iV x.aE,iV x.Rights,iV x.aN,iV x.From]),(1,.pointer (some ⟨MO,0,none⟩))] Tryz.func124 rfl rfl rfl rfl<|R.nH (r:=af.box MO [Qo] 159) SX (jO SX)<|R.reg rfl<|R.s rfl (s.box rfl rfl rfl) fun b1=>R.u 1 rfl<|R.nil<|R.reg rfl<|R.q (q.yB 0 rfl rfl nK rfl) rfl<|R.q (q.aO rfl bX rfl) rfl<|R.q (q.ld 0 rfl rfl av rfl) rfl<|R.c (q.call pP rfl rfl (fun w hw=>(fP _ gs x.ID w ((fun _=>Wd.old Uh) w hw) ))) rfl<|R.u 1 rfl<|R.nil<|R.rv rfl Tryz.results124 rfl (rB (by rfl))
end Go.Proofs.YtkbhcbipadkcaaaGreatDoor
