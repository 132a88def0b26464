import Derived.Test.YtbkfhjaibhnkmaaGreatDoorIMS13
import Derived.Test.YtbkfhjaibhnkmaaGreatDoorIMS18
import Derived.Test.YtbkfhjaibhnkmaaGreatDoorIMS20
import Derived.Test.YtbkfhjaibhnkmaaGreatDoorIMS21
namespace Go.Proofs.YtbkfhjaibhnkmaaGreatDoor
open Go Go.RowKit
set_option linter.unusedVariables false
set_option linter.unusedSimpArgs false
set_option maxRecDepth 100000
theorem iT (bG:Value)(l:List ak)(w:World)(own:List Nat)(H:Wd w (blks []++own) ([]++[ag.held w own]) [ag.ls bG (l:List ak)] w)(hl:l.length≤1000000):Calls Tryz.prog 77 #[bG] w fun e w' => ∃z:Value,e = .returned (z)∧Wd w (blks []++own) ([ag.row 88 z (l:List ak)]++[ag.held w own]) [] w':=by
 have Ag:=H.ct 0 rfl
 refine R.da (n:=8) (vs:=[bG]) (B:=[ag.held w own]) [(0,bG)] Tryz.func77 O O O O H ?_
 refine R.reg O<|R.u 1 O<|R.nil ?_
 refine R.reg O<|R.u 1 O<|?_
 rcases Bool.eq_false_or_eq_true (oY bG) with h1|h1
 ·
  refine R.q (q.Eu (congrArg Value.bool h1) (q.pJ (bJ 0 O) O O Tryz.underlying27)) O<|R.nil ?_
  refine R.aE O O ?_
  refine R.reg O<|R.u 1 O<|R.nil ?_
  refine R.row0 (α:=ak) 88 ?_
  have hz:l=[]:=by (exact Sl.oY (H.bq 0 rfl) ‹_›)
  rw [hz]
  exact R.w1 (nS) [0,1] [] O Tryz.results77 (RV.tmp O) O O O O
 ·
  refine R.q (q.Eu (congrArg Value.bool h1) (q.pJ (bJ 0 O) O O Tryz.underlying27)) O<|R.nil ?_
  refine R.aF O O ?_
  refine R.reg O<|R.s O (s.bs (l:=([]:List ak)) cK bF O O O O O O O) fun b1=>R.u 1 O<|R.s O (s.app (l2:=l) 0 _ O O O (bJ 0 O) fJ (by simp;omega) (by simp;omega) (fun _=>rfl) O) fun v1=>R.u 1 O<|R.nil ?_
  have hz:l=(([])++l):=by (rfl)
  rw [hz]
  exact R.w1 v1 [0,1] [] O Tryz.results77 (RV.tmp O) O O O O
theorem iq (bG:Value)(l:List ao)(w:World)(own:List Nat)(H:Wd w (blks []++own) ([]++[ag.held w own]) [ag.ls bG (l:List ao)] w)(hl:l.length≤1000000):Calls Tryz.prog 71 #[bG] w fun e w' => ∃z:Value,e = .returned (z)∧Wd w (blks []++own) ([ag.row 62 z (l:List ao)]++[ag.held w own]) [] w':=by
 have Ag:=H.ct 0 rfl
 refine R.da (n:=8) (vs:=[bG]) (B:=[ag.held w own]) [(0,bG)] Tryz.func71 O O O O H ?_
 refine R.reg O<|R.u 1 O<|R.nil ?_
 refine R.reg O<|R.u 1 O<|?_
 rcases Bool.eq_false_or_eq_true (oY bG) with h1|h1
 ·
  refine R.q (q.Eu (congrArg Value.bool h1) (q.pJ (bJ 0 O) O O Tryz.underlying28)) O<|R.nil ?_
  refine R.aE O O ?_
  refine R.reg O<|R.u 1 O<|R.nil ?_
  refine R.row0 (α:=ao) 62 ?_
  have hz:l=[]:=by (exact Sl.oY (H.bq 0 rfl) ‹_›)
  rw [hz]
  exact R.w1 (nS) [0,1] [] O Tryz.results71 (RV.tmp O) O O O O
 ·
  refine R.q (q.Eu (congrArg Value.bool h1) (q.pJ (bJ 0 O) O O Tryz.underlying28)) O<|R.nil ?_
  refine R.aF O O ?_
  refine R.reg O<|R.s O (s.bs (l:=([]:List ao)) ew fw O O O O O O O) fun b1=>R.u 1 O<|R.s O (s.app (l2:=l) 0 _ O O O (bJ 0 O) iP (by simp;omega) (by simp;omega) (fun _=>rfl) O) fun v1=>R.u 1 O<|R.nil ?_
  have hz:l=(([])++l):=by (rfl)
  rw [hz]
  exact R.w1 v1 [0,1] [] O Tryz.results71 (RV.tmp O) O O O O
theorem eZ (bG:Value)(l:List Note)(w:World)(own:List Nat)(H:Wd w (blks []++own) ([]++[ag.held w own]) [ag.ls bG (l:List Note)] w)(hl:l.length≤1000000):Calls Tryz.prog 81 #[bG] w fun e w' => ∃z:Value,e = .returned (z)∧Wd w (blks []++own) ([ag.row 72 z (l:List Note)]++[ag.held w own]) [] w':=by
 have Ag:=H.ct 0 rfl
 refine R.da (n:=8) (vs:=[bG]) (B:=[ag.held w own]) [(0,bG)] Tryz.func81 O O O O H ?_
 refine R.reg O<|R.u 1 O<|R.nil ?_
 refine R.reg O<|R.u 1 O<|?_
 rcases Bool.eq_false_or_eq_true (oY bG) with h1|h1
 ·
  refine R.q (q.Eu (congrArg Value.bool h1) (q.pJ (bJ 0 O) O O Tryz.underlying30)) O<|R.nil ?_
  refine R.aE O O ?_
  refine R.reg O<|R.u 1 O<|R.nil ?_
  refine R.row0 (α:=Note) 72 ?_
  have hz:l=[]:=by (exact Sl.oY (H.bq 0 rfl) ‹_›)
  rw [hz]
  exact R.w1 (nS) [0,1] [] O Tryz.results81 (RV.tmp O) O O O O
 ·
  refine R.q (q.Eu (congrArg Value.bool h1) (q.pJ (bJ 0 O) O O Tryz.underlying30)) O<|R.nil ?_
  refine R.aF O O ?_
  refine R.reg O<|R.s O (s.bs (l:=([]:List Note)) du dv O O O O O O O) fun b1=>R.u 1 O<|R.s O (s.app (l2:=l) 0 _ O O O (bJ 0 O) dL (by simp;omega) (by simp;omega) (fun _=>rfl) O) fun v1=>R.u 1 O<|R.nil ?_
  have hz:l=(([])++l):=by (rfl)
  rw [hz]
  exact R.w1 v1 [0,1] [] O Tryz.results81 (RV.tmp O) O O O O
theorem mB (bG:Value)(l:List Note)(i:Nat)(j:Nat)(w:World)(own:List Nat)(H:Wd w (blks [ag.row 72 bG (l:List Note)]++own) ([ag.row 72 bG (l:List Note)]++[ag.held w own]) [] w)(hij:i≤j∧j≤l.length):Calls Tryz.prog 85 #[bG,iV (i:Int),iV (j:Int)] w fun e w' => ∃z:Value,e = .returned (z)∧Wd w (blks [ag.row 72 bG (l:List Note)]++own) ([ag.row 72 z ((l.take i++l.drop j):List Note)]++[ag.held w own]) [] w':=by
 have Bc:=H.cap 0 rfl;have Ag:=H.q8 0 rfl
 refine R.da (n:=33) (vs:=[bG,iV (i:Int),iV (j:Int)]) (B:=[ag.row 72 bG l,ag.held w own]) [(0,bG),(1,iV (i:Int)),(2,iV (j:Int))] Tryz.func85 O O O O H ?_
 refine R.reg O<|R.u 1 O<|R.nil ?_
 refine R.reg O<|R.u 4 O<|R.q (q.len' (cJ 0 O) O Tryz.underlying30) O<|R.q (q.GG (i:=i) (j:=j) (q':=l.length) (cJ 0 O) O O O O du O O O (by omega) (by omega) (by omega)) O<|R.nil ?_
 refine R.reg O<|R.u 2 O<|?_
 by_cases h1:i=j
 ·
  refine R.q (q.eql O O (beq_iff_eq.2 (by omega))) O<|R.nil ?_
  refine R.aE O O ?_
  refine R.reg O<|R.u 2 O<|R.nil ?_
  have hz:l.take i++l.drop j=l:=by (exact vj (by omega))
  rw [hz]
  exact R.w1 bG [0,1] [] O Tryz.results85 (RV.tmp O) O O O O
 ·
  refine R.q (q.eql O O (beq_eq_false_iff_ne.2 (by omega))) O<|R.nil ?_
  refine R.aF O O ?_
  refine R.reg O<|R.u 1 O<|R.q (q.len' (cJ 0 O) O Tryz.underlying30) O<|R.u 1 O<|R.nil ?_
  refine R.e8 (fuel:=8) (Wd w (blks [ag.row 72 bG l]++own) [ag.held w own] []) O mixed O ?_
  refine D.q (i:=0) O (by kernel_rfl) (aK [1] [] O O O) O (q.mv O) O<|D.q (i:=1) O (by kernel_rfl) (aK [1] [] O O O) O (q.mv O) O<|D.q (i:=3) O (by kernel_rfl) (aK [1] [] O O O) O (q.mv O) O<|D.q (i:=4) O (by kernel_rfl) (aK [1] [] O O O) O (q.mv O) O<|D.two (i:=2) (j:=5) (by kernel_rfl) O O ?_ ?_
  ·
   refine Do.s (s.c (Qt.a (q.jj (i:=i) (cJ 0 O) O O Tryz.underlying30 mP O (by omega))) O) (fun _=>(aK [1] [] O O O)) O fun _=>D.one (i:=5) (by kernel_rfl) O ?_
   refine Do.s (s.c (Qt.a (q.eh (i:=j) (cJ 0 O) O O du O (by omega))) O) (fun _=>(aK [1] [] O O O)) O fun _=>D.one (i:=6) (by kernel_rfl) O ?_
   refine Do.s (s.tM (a:=i) (l2:=(l.drop j)) 0 _ O O O (fun w hw=>Sl.from (hw.row 0 O) (by omega)) dL (by omega) (by simp;omega) O O) (fun _=>(aK [1] [] O O O)) O fun _=>D.q (i:=7) O (by kernel_rfl) (aK [1] [] O O O) O (q.as O) O<|D.done (by kernel_rfl)<|R.reg O<|R.u 2 O<|R.q (q.len' (cJ 0 O) O Tryz.underlying30) O<|R.u 1 O<|R.q (q.sl2 (i:=(l.take i++(l.drop j)).length) (j:=l.length) (cJ 0 O) O O O du O O (by (simp;omega)) (by (simp [je];omega))) O<|R.s O (s.yj (lo:=(l.take i++(l.drop j)).length) (hi:=l.length) (z0:=(⟨0,⟨#[]⟩,0,0⟩:Note)) 0 O O du dv O (by omega) (by (simp;omega)) (by (simp [je];omega))) fun _=>R.nil ?_
   refine R.reg O<|R.u 2 O<|R.nil ?_
   have hz:l.take i++l.drop j=(l.take i++(l.drop j)):=by (rfl)
   rw [hz]
   exact R.w1 (jj bG (i+(l.drop j).length)) [0,1] [] O Tryz.results85 (RV.tmp O) O O O O
  ·
   refine Do.s (s.c (Qt.a (q.eh (i:=j) (cJ 0 O) O O du O (by omega))) O) (fun _=>(aK [1] [] O O O)) O fun _=>D.one (i:=2) (by kernel_rfl) O ?_
   refine Do.s (s.c (Qt.a (q.jj (i:=i) (cJ 0 O) O O Tryz.underlying30 mP O (by omega))) O) (fun _=>(aK [1] [] O O O)) O fun _=>D.one (i:=6) (by kernel_rfl) O ?_
   refine Do.s (s.tM (a:=i) (l2:=(l.drop j)) 0 _ O O O (fun w hw=>Sl.from (hw.row 0 O) (by omega)) dL (by omega) (by simp;omega) O O) (fun _=>(aK [1] [] O O O)) O fun _=>D.q (i:=7) O (by kernel_rfl) (aK [1] [] O O O) O (q.as O) O<|D.done (by kernel_rfl)<|R.reg O<|R.u 2 O<|R.q (q.len' (cJ 0 O) O Tryz.underlying30) O<|R.u 1 O<|R.q (q.sl2 (i:=(l.take i++(l.drop j)).length) (j:=l.length) (cJ 0 O) O O O du O O (by (simp;omega)) (by (simp [je];omega))) O<|R.s O (s.yj (lo:=(l.take i++(l.drop j)).length) (hi:=l.length) (z0:=(⟨0,⟨#[]⟩,0,0⟩:Note)) 0 O O du dv O (by omega) (by (simp;omega)) (by (simp [je];omega))) fun _=>R.nil ?_
   refine R.reg O<|R.u 2 O<|R.nil ?_
   have hz:l.take i++l.drop j=(l.take i++(l.drop j)):=by (rfl)
   rw [hz]
   exact R.w1 (jj bG (i+(l.drop j).length)) [0,1] [] O Tryz.results85 (RV.tmp O) O O O O
theorem fU (bG:Value)(l:List ao)(pr:ao→Bool)(e9:Nat)(gy:List Value)(gA:∀args w,(callFunc e9 args).run Tryz.prog w = .ok (.enter e9 args) w)(w:World)(df:Sl w bG l)(jP:∀W (x1:ao),Ext w W→Calls Tryz.prog e9 ([x1.val]++gy).toArray W fun e w'=>e = .returned (.bool (pr x1))∧Ext W w'):Calls Tryz.prog 120 #[bG,.func (.func e9) #[] gy.toArray] w fun e w'=>e = .returned (iV (idxOf pr l))∧Ext w w':=by
 have pV:=df.ec
 refine R.enter (n:=19) (vs:=[bG,.func (.func e9) #[] gy.toArray]) [] [(0,bG),(1,.func (.func e9) #[] gy.toArray)] Tryz.func120 O O O O ?_
 refine R.reg O<|R.u 1 O<|R.nil ?_
 refine R.reg O<|R.u 1 O<|R.q (q.len' (fun _=>Wd.old df) O Tryz.underlying28) O<|R.u 1 O<|R.nil ?_
 refine R.loop (fun k:Nat=>[(0,bG),(1,.func (.func e9) #[] gy.toArray),(7,iV (l.length:Int)),(8,iV (k:Int))]) (fun k:Nat=>[]) (fun k:Nat=>[]) (fun k:Nat=>k≤l.length ∧ ∀ (j:Nat) x,j<k→l[j]? = some x→pr x=false) (fun k:Nat=>l.length-k) 0 O (by exact ⟨by omega,fun j x hj=>absurd hj (Nat.not_lt_zero _)⟩) ⟨rfl,rfl,rfl,rfl,trivial⟩ (fun _=>Wd.pick [] [] O O O) ?_
 rintro k ⟨hk,HA⟩
 refine R.reg O<|?_
 by_cases h1:k<l.length
 ·
  refine R.q (q.lss O O (decide_eq_true (by omega))) O<|R.nil ?_
  refine R.aE O O ?_
  refine R.reg O<|R.u 2 O<|R.nil ?_
  refine R.reg O<|R.u 3 O<|?_
  obtain ⟨x1,hx1⟩:∃z,l[k]? = some z:=⟨_,List.getElem?_eq_getElem (by omega)⟩
  refine R.q (q.idx (i:=k) (fun _=>Wd.old df) O O ew O hx1) O<|R.q (q.cY (ds:=eE x1) (fun _=>Wd.old df) hx1 O fu O) O<|?_
  rcases Bool.eq_false_or_eq_true (pr x1) with h2|h2
  ·
   refine R.c (q.call gA O O (fun w hw=>cv (congrArg Value.bool h2) (jP w x1 hw.ext))) O<|R.nil ?_
   refine R.aE O O ?_
   refine R.reg O<|R.u 2 O<|R.nil ?_
   exact R.rv O Tryz.results120 O (rI (by (exact (idxOf_hit hx1 ‹_› HA).symm)))
  ·
   refine R.c (q.call gA O O (fun w hw=>cv (congrArg Value.bool h2) (jP w x1 hw.ext))) O<|R.nil ?_
   refine R.aF O O ?_
   refine R.reg O<|R.q (q.add (r:=((k+1:Nat):Int)) O O (wr (by omega))) O<|R.u 1 O<|R.nil ?_
   refine R.back (k+1) O (by (exact ⟨by omega,hG HA hx1 ‹_›⟩)) (by omega) ⟨rfl,rfl,rfl,rfl,trivial⟩ (fun _=>Wd.pick [] [] O O O)
 ·
  refine R.q (q.lss O O (decide_eq_false (by omega))) O<|R.nil ?_
  refine R.aF O O ?_
  refine R.reg O<|R.u 1 O<|R.nil ?_
  exact R.rv O Tryz.results120 O (rI (by (exact (idxOf_miss ‹_› HA).symm)))
theorem ke (bG:Value)(l:List Note)(pr:Note→Bool)(e9:Nat)(gy:List Value)(gA:∀args w,(callFunc e9 args).run Tryz.prog w = .ok (.enter e9 args) w)(w:World)(df:Sl w bG l)(jP:∀W (x1:Note),Ext w W→Calls Tryz.prog e9 ([x1.val]++gy).toArray W fun e w'=>e = .returned (.bool (pr x1))∧Ext W w'):Calls Tryz.prog 82 #[bG,.func (.func e9) #[] gy.toArray] w fun e w'=>e = .returned (iV (idxOf pr l))∧Ext w w':=by
 have pV:=df.ec
 refine R.enter (n:=19) (vs:=[bG,.func (.func e9) #[] gy.toArray]) [] [(0,bG),(1,.func (.func e9) #[] gy.toArray)] Tryz.func82 O O O O ?_
 refine R.reg O<|R.u 1 O<|R.nil ?_
 refine R.reg O<|R.u 1 O<|R.q (q.len' (fun _=>Wd.old df) O Tryz.underlying30) O<|R.u 1 O<|R.nil ?_
 refine R.loop (fun k:Nat=>[(0,bG),(1,.func (.func e9) #[] gy.toArray),(7,iV (l.length:Int)),(8,iV (k:Int))]) (fun k:Nat=>[]) (fun k:Nat=>[]) (fun k:Nat=>k≤l.length ∧ ∀ (j:Nat) x,j<k→l[j]? = some x→pr x=false) (fun k:Nat=>l.length-k) 0 O (by exact ⟨by omega,fun j x hj=>absurd hj (Nat.not_lt_zero _)⟩) ⟨rfl,rfl,rfl,rfl,trivial⟩ (fun _=>Wd.pick [] [] O O O) ?_
 rintro k ⟨hk,HA⟩
 refine R.reg O<|?_
 by_cases h1:k<l.length
 ·
  refine R.q (q.lss O O (decide_eq_true (by omega))) O<|R.nil ?_
  refine R.aE O O ?_
  refine R.reg O<|R.u 2 O<|R.nil ?_
  refine R.reg O<|R.u 3 O<|?_
  obtain ⟨x1,hx1⟩:∃z,l[k]? = some z:=⟨_,List.getElem?_eq_getElem (by omega)⟩
  refine R.q (q.idx (i:=k) (fun _=>Wd.old df) O O du O hx1) O<|R.q (q.cY (ds:=bg x1) (fun _=>Wd.old df) hx1 O bO O) O<|?_
  rcases Bool.eq_false_or_eq_true (pr x1) with h2|h2
  ·
   refine R.c (q.call gA O O (fun w hw=>cv (congrArg Value.bool h2) (jP w x1 hw.ext))) O<|R.nil ?_
   refine R.aE O O ?_
   refine R.reg O<|R.u 2 O<|R.nil ?_
   exact R.rv O Tryz.results82 O (rI (by (exact (idxOf_hit hx1 ‹_› HA).symm)))
  ·
   refine R.c (q.call gA O O (fun w hw=>cv (congrArg Value.bool h2) (jP w x1 hw.ext))) O<|R.nil ?_
   refine R.aF O O ?_
   refine R.reg O<|R.q (q.add (r:=((k+1:Nat):Int)) O O (wr (by omega))) O<|R.u 1 O<|R.nil ?_
   refine R.back (k+1) O (by (exact ⟨by omega,hG HA hx1 ‹_›⟩)) (by omega) ⟨rfl,rfl,rfl,rfl,trivial⟩ (fun _=>Wd.pick [] [] O O O)
 ·
  refine R.q (q.lss O O (decide_eq_false (by omega))) O<|R.nil ?_
  refine R.aF O O ?_
  refine R.reg O<|R.u 1 O<|R.nil ?_
  exact R.rv O Tryz.results82 O (rI (by (exact (idxOf_miss ‹_› HA).symm)))
theorem kf (bG:Value)(l:List Held)(pr:Held→Bool)(e9:Nat)(gy:List Value)(gA:∀args w,(callFunc e9 args).run Tryz.prog w = .ok (.enter e9 args) w)(w:World)(df:Sl w bG l)(jP:∀W (x1:Held),Ext w W→Calls Tryz.prog e9 ([x1.val]++gy).toArray W fun e w'=>e = .returned (.bool (pr x1))∧Ext W w'):Calls Tryz.prog 143 #[bG,.func (.func e9) #[] gy.toArray] w fun e w'=>e = .returned (iV (idxOf pr l))∧Ext w w':=by
 have pV:=df.ec
 refine R.enter (n:=19) (vs:=[bG,.func (.func e9) #[] gy.toArray]) [] [(0,bG),(1,.func (.func e9) #[] gy.toArray)] Tryz.func143 O O O O ?_
 refine R.reg O<|R.u 1 O<|R.nil ?_
 refine R.reg O<|R.u 1 O<|R.q (q.len' (fun _=>Wd.old df) O Tryz.underlying29) O<|R.u 1 O<|R.nil ?_
 refine R.loop (fun k:Nat=>[(0,bG),(1,.func (.func e9) #[] gy.toArray),(7,iV (l.length:Int)),(8,iV (k:Int))]) (fun k:Nat=>[]) (fun k:Nat=>[]) (fun k:Nat=>k≤l.length ∧ ∀ (j:Nat) x,j<k→l[j]? = some x→pr x=false) (fun k:Nat=>l.length-k) 0 O (by exact ⟨by omega,fun j x hj=>absurd hj (Nat.not_lt_zero _)⟩) ⟨rfl,rfl,rfl,rfl,trivial⟩ (fun _=>Wd.pick [] [] O O O) ?_
 rintro k ⟨hk,HA⟩
 refine R.reg O<|?_
 by_cases h1:k<l.length
 ·
  refine R.q (q.lss O O (decide_eq_true (by omega))) O<|R.nil ?_
  refine R.aE O O ?_
  refine R.reg O<|R.u 2 O<|R.nil ?_
  refine R.reg O<|R.u 3 O<|?_
  obtain ⟨x1,hx1⟩:∃z,l[k]? = some z:=⟨_,List.getElem?_eq_getElem (by omega)⟩
  refine R.q (q.idx (i:=k) (fun _=>Wd.old df) O O bK O hx1) O<|R.q (q.cY (ds:=dJ x1) (fun _=>Wd.old df) hx1 O dB O) O<|?_
  rcases Bool.eq_false_or_eq_true (pr x1) with h2|h2
  ·
   refine R.c (q.call gA O O (fun w hw=>cv (congrArg Value.bool h2) (jP w x1 hw.ext))) O<|R.nil ?_
   refine R.aE O O ?_
   refine R.reg O<|R.u 2 O<|R.nil ?_
   exact R.rv O Tryz.results143 O (rI (by (exact (idxOf_hit hx1 ‹_› HA).symm)))
  ·
   refine R.c (q.call gA O O (fun w hw=>cv (congrArg Value.bool h2) (jP w x1 hw.ext))) O<|R.nil ?_
   refine R.aF O O ?_
   refine R.reg O<|R.q (q.add (r:=((k+1:Nat):Int)) O O (wr (by omega))) O<|R.u 1 O<|R.nil ?_
   refine R.back (k+1) O (by (exact ⟨by omega,hG HA hx1 ‹_›⟩)) (by omega) ⟨rfl,rfl,rfl,rfl,trivial⟩ (fun _=>Wd.pick [] [] O O O)
 ·
  refine R.q (q.lss O O (decide_eq_false (by omega))) O<|R.nil ?_
  refine R.aF O O ?_
  refine R.reg O<|R.u 1 O<|R.nil ?_
  exact R.rv O Tryz.results143 O (rI (by (exact (idxOf_miss ‹_› HA).symm)))
theorem pk (bG:Value)(l:List ao)(pr:ao→Bool)(e9:Nat)(gy:List Value)(gA:∀args w,(callFunc e9 args).run Tryz.prog w = .ok (.enter e9 args) w)(w:World)(own:List Nat)(H:Wd w (blks [ag.row 62 bG (l:List ao)]++own) ([ag.row 62 bG (l:List ao)]++[ag.held w own]) [] w)(jP:∀W (x1:ao),kC (blks [ag.row 62 bG (l:List ao)]) w W→Calls Tryz.prog e9 ([x1.val]++gy).toArray W fun e w'=>e = .returned (.bool (pr x1))∧Ext W w')(hl:l.length≤1000000):Calls Tryz.prog 107 #[bG,.func (.func e9) #[] gy.toArray] w fun e w' => ∃z:Value,e = .returned (z)∧Wd w (blks [ag.row 62 bG (l:List ao)]++own) ([ag.row 62 z ((l.filter (fun x => !pr x)):List ao)]++[ag.held w own]) [] w':=by
 have Bc:=H.cap 0 rfl;have Ag:=H.q8 0 rfl
 refine R.da (n:=42) (vs:=[bG,.func (.func e9) #[] gy.toArray]) (B:=[ag.row 62 bG l,ag.held w own]) [(0,bG),(1,.func (.func e9) #[] gy.toArray)] Tryz.func107 O O O O H ?_
 refine R.reg O<|R.u 1 O<|R.nil ?_
 refine R.reg O<|R.u 2 O<|?_
 rcases hJ pr l with ⟨eU,ug⟩ | ⟨jL,jE,eU,hZ,oT,uc,Io⟩
 ·
  refine R.c (q.call tW O O (fun w hw=>(cv (congrArg (Value.int .i64) eU) (fU _ (l) pr _ _ gA w (hw.row 0 O) (fun W x1 hW=>jP W x1 ((hw.qf 1 O).trans ((Ext.upd hW).mono (by simp)))) )))) O<|R.u 1 O<|R.nil ?_
  refine R.reg O<|R.u 1 O<|R.q (q.eql (b:=true) O O (by decide)) O<|R.nil ?_
  refine R.aE O O ?_
  refine R.reg O<|R.u 2 O<|R.nil ?_
  have hz:l.filter (fun x => !pr x)=l:=by (exact rG ug)
  rw [hz]
  exact R.w1 bG [0,1] [] O Tryz.results107 (RV.tmp O) O O O O
 ·
  refine R.c (q.call tW O O (fun w hw=>(cv (congrArg (Value.int .i64) eU) (fU _ (l) pr _ _ gA w (hw.row 0 O) (fun W x1 hW=>jP W x1 ((hw.qf 1 O).trans ((Ext.upd hW).mono (by simp)))) )))) O<|R.u 1 O<|R.nil ?_
  refine R.reg O<|R.u 1 O<|R.q (q.eql O O (beq_eq_false_iff_ne.2 (by omega))) O<|R.nil ?_
  refine R.aF O O ?_
  refine R.reg O<|R.u 1 O<|R.q (q.add (r:=((jL+1:Nat):Int)) O O (wr (by omega))) O<|R.u 1 O<|R.nil ?_
  refine R.loop (fun g_:Nat×Nat×(List ao)=>[(0,bG),(1,.func (.func e9) #[] gy.toArray),(5,iV (g_.1:Int)),(6,iV (g_.2.1:Int))]) (fun g_=>[ag.row 62 bG g_.2.2,ag.held w own]) (fun g_=>[]) (fun g_=>lX pr l g_.2.2 g_.1 g_.2.1) (fun g_=>l.length-g_.2.1) (jL,(jL+1),l) O (by exact lX.start hZ oT uc) ⟨rfl,rfl,rfl,rfl,trivial⟩ (fun _=>Wd.pick [0,1] [] O O O) ?_
  rintro ⟨a,b,acc⟩ HA
  dsimp only at *
  have t1:=HA.1;have t2:=HA.2.1;have t3:=HA.2.2.1
  refine R.reg O<|R.u 2 O<|R.q (q.len' (cJ 0 O) O Tryz.underlying28) O<|?_
  by_cases h1:b<acc.length
  ·
   refine R.q (q.lss O O (decide_eq_true (by omega))) O<|R.nil ?_
   refine R.aE O O ?_
   refine R.reg O<|R.u 2 O<|?_
   obtain ⟨x1,hx1⟩:∃z,acc[b]? = some z:=⟨_,List.getElem?_eq_getElem (by omega)⟩
   refine R.q (q.idx (i:=b) (cJ 0 O) O O ew O hx1) O<|R.q (q.cY (ds:=eE x1) (cJ 0 O) hx1 O fu O) O<|R.s O (s.alloc (cs:=[iV 0,iV 0,.string (⟨#[]⟩)]) fw O O) fun b1=>R.s O (s.st (us:=eE x1) (cs':=eE x1) 0 _ O O O O (.inl fu) O O O O) fun _=>R.nil ?_
   refine R.reg O<|R.u 1 O<|R.q (q.cj 0 O O fu) O<|?_
   rcases Bool.eq_false_or_eq_true (pr x1) with h2|h2
   ·
    refine R.c (q.call gA O O (fun w hw=>cv (congrArg Value.bool h2) (jP w x1 (hw.qf 2 O)))) O<|R.u 1 O<|R.nil ?_
    refine R.aF O O ?_
    refine R.reg O<|R.u 1 O<|R.q (q.add (r:=((b+1:Nat):Int)) O O (wr (by omega))) O<|R.u 1 O<|R.nil ?_
    refine R.back (a,(b+1),acc) O (by (exact HA.skip hx1 ‹_›)) (by dsimp only;omega) ⟨rfl,rfl,rfl,rfl,trivial⟩ (aK [1,2] [] O O O)
   ·
    refine R.c (q.call gA O O (fun w hw=>cv (congrArg Value.bool h2) (jP w x1 (hw.qf 2 O)))) O<|R.u 1 O<|R.nil ?_
    refine R.aE O O ?_
    refine R.reg O<|R.u 2 O<|R.q (q.cj 0 O O fu) O<|?_
    obtain ⟨x2,hx2⟩:∃z,acc[a]? = some z:=⟨_,List.getElem?_eq_getElem (by omega)⟩
    refine R.q (q.idx (i:=a) (cJ 1 O) O O ew O hx2) O<|R.s O (s.Iw (z:=x1) 1 _ O hx2 O O O O (.inl fu) O) fun _=>R.nil ?_
    refine R.reg O<|R.u 1 O<|R.q (q.add (r:=((a+1:Nat):Int)) O O (wr (by omega))) O<|R.u 1 O<|R.nil ?_
    refine R.reg O<|R.u 1 O<|R.q (q.add (r:=((b+1:Nat):Int)) O O (wr (by omega))) O<|R.u 1 O<|R.nil ?_
    refine R.back ((a+1),(b+1),(acc.set a x1)) O (by (exact HA.keep hx1 ‹_›)) (by dsimp only;omega) ⟨rfl,rfl,rfl,rfl,trivial⟩ (aK [1,2] [] O O O)
  ·
   refine R.q (q.lss O O (decide_eq_false (by omega))) O<|R.nil ?_
   refine R.aF O O ?_
   refine R.reg O<|R.u 2 O<|R.q (q.eh (i:=a) (cJ 0 O) O O ew O (by omega)) O<|R.s O (s.E2 (lo:=a) (z0:=(⟨0,0,⟨#[]⟩⟩:ao)) 0 _ O O ew fw O (by omega) O) fun _=>R.nil ?_
   refine R.reg O<|R.u 2 O<|R.q (q.jj (i:=a) (cJ 0 O) O O Tryz.underlying28 De O (by (simp;omega))) O<|R.u 1 O<|R.nil ?_
   refine R.Aq 0 a _ O (by (simp;omega)) O ?_
   have hz:l.filter (fun x => !pr x)=((acc.take a++List.replicate (acc.length-a) (⟨0,0,⟨#[]⟩⟩:ao)).take a):=by (exact HA.done (by omega))
   rw [hz]
   exact R.w1 (jj bG a) [0,1] [] O Tryz.results107 (RV.tmp O) O O O O
theorem qk (bG:Value)(l:List Held)(pr:Held→Bool)(e9:Nat)(gy:List Value)(gA:∀args w,(callFunc e9 args).run Tryz.prog w = .ok (.enter e9 args) w)(w:World)(own:List Nat)(H:Wd w (blks [ag.row 85 bG (l:List Held)]++own) ([ag.row 85 bG (l:List Held)]++[ag.held w own]) [] w)(jP:∀W (x1:Held),kC (blks [ag.row 85 bG (l:List Held)]) w W→Calls Tryz.prog e9 ([x1.val]++gy).toArray W fun e w'=>e = .returned (.bool (pr x1))∧Ext W w')(hl:l.length≤1000000):Calls Tryz.prog 109 #[bG,.func (.func e9) #[] gy.toArray] w fun e w' => ∃z:Value,e = .returned (z)∧Wd w (blks [ag.row 85 bG (l:List Held)]++own) ([ag.row 85 z ((l.filter (fun x => !pr x)):List Held)]++[ag.held w own]) [] w':=by
 have Bc:=H.cap 0 rfl;have Ag:=H.q8 0 rfl
 refine R.da (n:=42) (vs:=[bG,.func (.func e9) #[] gy.toArray]) (B:=[ag.row 85 bG l,ag.held w own]) [(0,bG),(1,.func (.func e9) #[] gy.toArray)] Tryz.func109 O O O O H ?_
 refine R.reg O<|R.u 1 O<|R.nil ?_
 refine R.reg O<|R.u 2 O<|?_
 rcases hJ pr l with ⟨eU,ug⟩ | ⟨jL,jE,eU,hZ,oT,uc,Io⟩
 ·
  refine R.c (q.call AU O O (fun w hw=>(cv (congrArg (Value.int .i64) eU) (kf _ (l) pr _ _ gA w (hw.row 0 O) (fun W x1 hW=>jP W x1 ((hw.qf 1 O).trans ((Ext.upd hW).mono (by simp)))) )))) O<|R.u 1 O<|R.nil ?_
  refine R.reg O<|R.u 1 O<|R.q (q.eql (b:=true) O O (by decide)) O<|R.nil ?_
  refine R.aE O O ?_
  refine R.reg O<|R.u 2 O<|R.nil ?_
  have hz:l.filter (fun x => !pr x)=l:=by (exact rG ug)
  rw [hz]
  exact R.w1 bG [0,1] [] O Tryz.results109 (RV.tmp O) O O O O
 ·
  refine R.c (q.call AU O O (fun w hw=>(cv (congrArg (Value.int .i64) eU) (kf _ (l) pr _ _ gA w (hw.row 0 O) (fun W x1 hW=>jP W x1 ((hw.qf 1 O).trans ((Ext.upd hW).mono (by simp)))) )))) O<|R.u 1 O<|R.nil ?_
  refine R.reg O<|R.u 1 O<|R.q (q.eql O O (beq_eq_false_iff_ne.2 (by omega))) O<|R.nil ?_
  refine R.aF O O ?_
  refine R.reg O<|R.u 1 O<|R.q (q.add (r:=((jL+1:Nat):Int)) O O (wr (by omega))) O<|R.u 1 O<|R.nil ?_
  refine R.loop (fun g_:Nat×Nat×(List Held)=>[(0,bG),(1,.func (.func e9) #[] gy.toArray),(5,iV (g_.1:Int)),(6,iV (g_.2.1:Int))]) (fun g_=>[ag.row 85 bG g_.2.2,ag.held w own]) (fun g_=>[]) (fun g_=>lX pr l g_.2.2 g_.1 g_.2.1) (fun g_=>l.length-g_.2.1) (jL,(jL+1),l) O (by exact lX.start hZ oT uc) ⟨rfl,rfl,rfl,rfl,trivial⟩ (fun _=>Wd.pick [0,1] [] O O O) ?_
  rintro ⟨a,b,acc⟩ HA
  dsimp only at *
  have t1:=HA.1;have t2:=HA.2.1;have t3:=HA.2.2.1
  refine R.reg O<|R.u 2 O<|R.q (q.len' (cJ 0 O) O Tryz.underlying29) O<|?_
  by_cases h1:b<acc.length
  ·
   refine R.q (q.lss O O (decide_eq_true (by omega))) O<|R.nil ?_
   refine R.aE O O ?_
   refine R.reg O<|R.u 2 O<|?_
   obtain ⟨x1,hx1⟩:∃z,acc[b]? = some z:=⟨_,List.getElem?_eq_getElem (by omega)⟩
   refine R.q (q.idx (i:=b) (cJ 0 O) O O bK O hx1) O<|R.q (q.cY (ds:=dJ x1) (cJ 0 O) hx1 O dB O) O<|R.s O (s.alloc (cs:=CZ) dk O O) fun b1=>R.s O (s.st (us:=dJ x1) (cs':=dJ x1) 0 _ O O O O (.inl dB) O O O O) fun _=>R.nil ?_
   refine R.reg O<|R.u 1 O<|R.q (q.cj 0 O O dB) O<|?_
   rcases Bool.eq_false_or_eq_true (pr x1) with h2|h2
   ·
    refine R.c (q.call gA O O (fun w hw=>cv (congrArg Value.bool h2) (jP w x1 (hw.qf 2 O)))) O<|R.u 1 O<|R.nil ?_
    refine R.aF O O ?_
    refine R.reg O<|R.u 1 O<|R.q (q.add (r:=((b+1:Nat):Int)) O O (wr (by omega))) O<|R.u 1 O<|R.nil ?_
    refine R.back (a,(b+1),acc) O (by (exact HA.skip hx1 ‹_›)) (by dsimp only;omega) ⟨rfl,rfl,rfl,rfl,trivial⟩ (aK [1,2] [] O O O)
   ·
    refine R.c (q.call gA O O (fun w hw=>cv (congrArg Value.bool h2) (jP w x1 (hw.qf 2 O)))) O<|R.u 1 O<|R.nil ?_
    refine R.aE O O ?_
    refine R.reg O<|R.u 2 O<|R.q (q.cj 0 O O dB) O<|?_
    obtain ⟨x2,hx2⟩:∃z,acc[a]? = some z:=⟨_,List.getElem?_eq_getElem (by omega)⟩
    refine R.q (q.idx (i:=a) (cJ 1 O) O O bK O hx2) O<|R.s O (s.Iw (z:=x1) 1 _ O hx2 O O O O (.inl dB) O) fun _=>R.nil ?_
    refine R.reg O<|R.u 1 O<|R.q (q.add (r:=((a+1:Nat):Int)) O O (wr (by omega))) O<|R.u 1 O<|R.nil ?_
    refine R.reg O<|R.u 1 O<|R.q (q.add (r:=((b+1:Nat):Int)) O O (wr (by omega))) O<|R.u 1 O<|R.nil ?_
    refine R.back ((a+1),(b+1),(acc.set a x1)) O (by (exact HA.keep hx1 ‹_›)) (by dsimp only;omega) ⟨rfl,rfl,rfl,rfl,trivial⟩ (aK [1,2] [] O O O)
  ·
   refine R.q (q.lss O O (decide_eq_false (by omega))) O<|R.nil ?_
   refine R.aF O O ?_
   refine R.reg O<|R.u 2 O<|R.q (q.eh (i:=a) (cJ 0 O) O O bK O (by omega)) O<|R.s O (s.E2 (lo:=a) (z0:=(⟨(⟨0,0⟩:Place),0⟩:Held)) 0 _ O O bK dk O (by omega) O) fun _=>R.nil ?_
   refine R.reg O<|R.u 2 O<|R.q (q.jj (i:=a) (cJ 0 O) O O Tryz.underlying29 qt O (by (simp;omega))) O<|R.u 1 O<|R.nil ?_
   refine R.Aq 0 a _ O (by (simp;omega)) O ?_
   have hz:l.filter (fun x => !pr x)=((acc.take a++List.replicate (acc.length-a) (⟨(⟨0,0⟩:Place),0⟩:Held)).take a):=by (exact HA.done (by omega))
   rw [hz]
   exact R.w1 (jj bG a) [0,1] [] O Tryz.results109 (RV.tmp O) O O O O
theorem ql (bG:Value)(l:List ak)(pr:ak→Bool)(e9:Nat)(gy:List Value)(gA:∀args w,(callFunc e9 args).run Tryz.prog w = .ok (.enter e9 args) w)(w:World)(own:List Nat)(H:Wd w (blks [ag.row 88 bG (l:List ak)]++own) ([ag.row 88 bG (l:List ak)]++[ag.held w own]) [] w)(jP:∀W (x1:ak),kC (blks [ag.row 88 bG (l:List ak)]) w W→Calls Tryz.prog e9 ([x1.val]++gy).toArray W fun e w'=>e = .returned (.bool (pr x1))∧Ext W w')(hl:l.length≤1000000):Calls Tryz.prog 76 #[bG,.func (.func e9) #[] gy.toArray] w fun e w' => ∃z:Value,e = .returned (z)∧Wd w (blks [ag.row 88 bG (l:List ak)]++own) ([ag.row 88 z ((l.filter (fun x => !pr x)):List ak)]++[ag.held w own]) [] w':=by
 have Bc:=H.cap 0 rfl;have Ag:=H.q8 0 rfl
 refine R.da (n:=42) (vs:=[bG,.func (.func e9) #[] gy.toArray]) (B:=[ag.row 88 bG l,ag.held w own]) [(0,bG),(1,.func (.func e9) #[] gy.toArray)] Tryz.func76 O O O O H ?_
 refine R.reg O<|R.u 1 O<|R.nil ?_
 refine R.reg O<|R.u 2 O<|?_
 rcases hJ pr l with ⟨eU,ug⟩ | ⟨jL,jE,eU,hZ,oT,uc,Io⟩
 ·
  refine R.c (q.call wU O O (fun w hw=>(cv (congrArg (Value.int .i64) eU) (jK _ (l) pr _ _ gA w (hw.row 0 O) (fun W x1 hW=>jP W x1 ((hw.qf 1 O).trans ((Ext.upd hW).mono (by simp)))) )))) O<|R.u 1 O<|R.nil ?_
  refine R.reg O<|R.u 1 O<|R.q (q.eql (b:=true) O O (by decide)) O<|R.nil ?_
  refine R.aE O O ?_
  refine R.reg O<|R.u 2 O<|R.nil ?_
  have hz:l.filter (fun x => !pr x)=l:=by (exact rG ug)
  rw [hz]
  exact R.w1 bG [0,1] [] O Tryz.results76 (RV.tmp O) O O O O
 ·
  refine R.c (q.call wU O O (fun w hw=>(cv (congrArg (Value.int .i64) eU) (jK _ (l) pr _ _ gA w (hw.row 0 O) (fun W x1 hW=>jP W x1 ((hw.qf 1 O).trans ((Ext.upd hW).mono (by simp)))) )))) O<|R.u 1 O<|R.nil ?_
  refine R.reg O<|R.u 1 O<|R.q (q.eql O O (beq_eq_false_iff_ne.2 (by omega))) O<|R.nil ?_
  refine R.aF O O ?_
  refine R.reg O<|R.u 1 O<|R.q (q.add (r:=((jL+1:Nat):Int)) O O (wr (by omega))) O<|R.u 1 O<|R.nil ?_
  refine R.loop (fun g_:Nat×Nat×(List ak)=>[(0,bG),(1,.func (.func e9) #[] gy.toArray),(5,iV (g_.1:Int)),(6,iV (g_.2.1:Int))]) (fun g_=>[ag.row 88 bG g_.2.2,ag.held w own]) (fun g_=>[]) (fun g_=>lX pr l g_.2.2 g_.1 g_.2.1) (fun g_=>l.length-g_.2.1) (jL,(jL+1),l) O (by exact lX.start hZ oT uc) ⟨rfl,rfl,rfl,rfl,trivial⟩ (fun _=>Wd.pick [0,1] [] O O O) ?_
  rintro ⟨a,b,acc⟩ HA
  dsimp only at *
  have t1:=HA.1;have t2:=HA.2.1;have t3:=HA.2.2.1
  refine R.reg O<|R.u 2 O<|R.q (q.len' (cJ 0 O) O Tryz.underlying27) O<|?_
  by_cases h1:b<acc.length
  ·
   refine R.q (q.lss O O (decide_eq_true (by omega))) O<|R.nil ?_
   refine R.aE O O ?_
   refine R.reg O<|R.u 2 O<|?_
   obtain ⟨x1,hx1⟩:∃z,acc[b]? = some z:=⟨_,List.getElem?_eq_getElem (by omega)⟩
   refine R.q (q.idx (i:=b) (cJ 0 O) O O cK O hx1) O<|R.q (q.cY (ds:=ay x1) (cJ 0 O) hx1 O aP O) O<|R.s O (s.alloc (cs:=cC) bF O O) fun b1=>R.s O (s.st (us:=ay x1) (cs':=ay x1) 0 _ O O O O (.inl aP) O O O O) fun _=>R.nil ?_
   refine R.reg O<|R.u 1 O<|R.q (q.cj 0 O O aP) O<|?_
   rcases Bool.eq_false_or_eq_true (pr x1) with h2|h2
   ·
    refine R.c (q.call gA O O (fun w hw=>cv (congrArg Value.bool h2) (jP w x1 (hw.qf 2 O)))) O<|R.u 1 O<|R.nil ?_
    refine R.aF O O ?_
    refine R.reg O<|R.u 1 O<|R.q (q.add (r:=((b+1:Nat):Int)) O O (wr (by omega))) O<|R.u 1 O<|R.nil ?_
    refine R.back (a,(b+1),acc) O (by (exact HA.skip hx1 ‹_›)) (by dsimp only;omega) ⟨rfl,rfl,rfl,rfl,trivial⟩ (aK [1,2] [] O O O)
   ·
    refine R.c (q.call gA O O (fun w hw=>cv (congrArg Value.bool h2) (jP w x1 (hw.qf 2 O)))) O<|R.u 1 O<|R.nil ?_
    refine R.aE O O ?_
    refine R.reg O<|R.u 2 O<|R.q (q.cj 0 O O aP) O<|?_
    obtain ⟨x2,hx2⟩:∃z,acc[a]? = some z:=⟨_,List.getElem?_eq_getElem (by omega)⟩
    refine R.q (q.idx (i:=a) (cJ 1 O) O O cK O hx2) O<|R.s O (s.Iw (z:=x1) 1 _ O hx2 O O O O (.inl aP) O) fun _=>R.nil ?_
    refine R.reg O<|R.u 1 O<|R.q (q.add (r:=((a+1:Nat):Int)) O O (wr (by omega))) O<|R.u 1 O<|R.nil ?_
    refine R.reg O<|R.u 1 O<|R.q (q.add (r:=((b+1:Nat):Int)) O O (wr (by omega))) O<|R.u 1 O<|R.nil ?_
    refine R.back ((a+1),(b+1),(acc.set a x1)) O (by (exact HA.keep hx1 ‹_›)) (by dsimp only;omega) ⟨rfl,rfl,rfl,rfl,trivial⟩ (aK [1,2] [] O O O)
  ·
   refine R.q (q.lss O O (decide_eq_false (by omega))) O<|R.nil ?_
   refine R.aF O O ?_
   refine R.reg O<|R.u 2 O<|R.q (q.eh (i:=a) (cJ 0 O) O O cK O (by omega)) O<|R.s O (s.E2 (lo:=a) (z0:=(⟨0,0,0,0,0⟩:ak)) 0 _ O O cK bF O (by omega) O) fun _=>R.nil ?_
   refine R.reg O<|R.u 2 O<|R.q (q.jj (i:=a) (cJ 0 O) O O Tryz.underlying27 tT O (by (simp;omega))) O<|R.u 1 O<|R.nil ?_
   refine R.Aq 0 a _ O (by (simp;omega)) O ?_
   have hz:l.filter (fun x => !pr x)=((acc.take a++List.replicate (acc.length-a) (⟨0,0,0,0,0⟩:ak)).take a):=by (exact HA.done (by omega))
   rw [hz]
   exact R.w1 (jj bG a) [0,1] [] O Tryz.results76 (RV.tmp O) O O O O
theorem p5 (bG:Value)(l:List ak)(w:World)(df:Sl w bG l)(hl:l.length≤1000000):Calls Tryz.prog 29 #[bG] w fun e w' => ∃u,e = .returned u∧Own w.heap.size 3 w' u (aX l)∧Ext w w':=xb bG l w df hl
theorem xc (bG:Value)(l:List Int)(x:Int)(w:World)(df:Sl w bG l):Calls Tryz.prog 119 #[bG,iV x] w fun e w'=>e = .returned (iV (idxOf (fun y=>y==x) l))∧Ext w w':=by
 have pV:=df.ec
 refine R.enter (n:=19) (vs:=[bG,iV x]) [] [(0,bG),(1,iV x)] Tryz.func119 O O O O ?_
 refine R.reg O<|R.u 1 O<|R.nil ?_
 refine R.reg O<|R.u 1 O<|R.q (q.len' (fun _=>Wd.old df) O Tryz.underlying60) O<|R.u 1 O<|R.nil ?_
 refine R.loop (fun k:Nat=>[(0,bG),(1,iV x),(7,iV (l.length:Int)),(8,iV (k:Int))]) (fun k:Nat=>[]) (fun k:Nat=>[]) (fun k:Nat=>k≤l.length ∧ ∀ (j:Nat) y,j<k→l[j]? = some y→(y==x)=false) (fun k:Nat=>l.length-k) 0 O (by exact ⟨by omega,fun j x hj=>absurd hj (Nat.not_lt_zero _)⟩) ⟨rfl,rfl,rfl,rfl,trivial⟩ (fun _=>Wd.pick [] [] O O O) ?_
 rintro k ⟨hk,HA⟩
 refine R.reg O<|?_
 by_cases h1:k<l.length
 ·
  refine R.q (q.lss O O (decide_eq_true (by omega))) O<|R.nil ?_
  refine R.aE O O ?_
  refine R.reg O<|R.u 2 O<|R.nil ?_
  refine R.reg O<|R.u 3 O<|?_
  obtain ⟨x1,hx1⟩:∃z,l[k]? = some z:=⟨_,List.getElem?_eq_getElem (by omega)⟩
  refine R.q (q.idx (i:=k) (fun _=>Wd.old df) O O dK O hx1) O<|R.q (q.fb (fun _=>Wd.old df) hx1 O aA O) O<|?_
  by_cases h2:x=x1
  ·
   refine R.q (q.eql O O (beq_iff_eq.2 (by omega))) O<|R.nil ?_
   refine R.aE O O ?_
   refine R.reg O<|R.u 2 O<|R.nil ?_
   exact R.rv O Tryz.results119 O (rI (by (exact (idxOf_hit (p:=fun y=>y==x) hx1 (beq_iff_eq.2 (by omega)) HA).symm)))
  ·
   refine R.q (q.eql O O (beq_eq_false_iff_ne.2 (by omega))) O<|R.nil ?_
   refine R.aF O O ?_
   refine R.reg O<|R.q (q.add (r:=((k+1:Nat):Int)) O O (wr (by omega))) O<|R.u 1 O<|R.nil ?_
   refine R.back (k+1) O (by (exact ⟨by omega,hG (p:=fun y=>y==x) HA hx1 (beq_eq_false_iff_ne.2 (by omega))⟩)) (by omega) ⟨rfl,rfl,rfl,rfl,trivial⟩ (fun _=>Wd.pick [] [] O O O)
 ·
  refine R.q (q.lss O O (decide_eq_false (by omega))) O<|R.nil ?_
  refine R.aF O O ?_
  refine R.reg O<|R.u 1 O<|R.nil ?_
  exact R.rv O Tryz.results119 O (rI (by (exact (idxOf_miss ‹_› HA).symm)))
theorem yE {l:List Int}{x:Int}:(0≤idxOf (fun y=>y==x) l)=(x∈l):=by
 rcases hJ (fun y:Int=>y==x) l with ⟨h,hn⟩ | ⟨k,y,h,hy,he,_,_⟩
 ·rw [h];simp;intro hm;have:=hn x hm;simp at this
 ·
  rw [h];simp
  have:y=x:=by simpa using he
  subst this;exact List.mem_of_getElem? hy
theorem e5 (bG:Value)(l:List Int)(x:Int)(w:World)(df:Sl w bG l):Calls Tryz.prog 79 #[bG,iV x] w fun e w'=>e = .returned (.bool (decide (x∈l)))∧Ext w w':=by
 have pV:=df.ec
 refine R.enter (n:=9) (vs:=[bG,iV x]) [] [(0,bG),(1,iV x)] Tryz.func79 O O O O ?_
 refine R.reg O<|R.u 1 O<|R.nil ?_
 refine R.reg O<|R.u 2 O<|R.c (q.call Fh O O (fun w hw=>(xc _ (l) (x) w ((fun _=>Wd.old df) w hw) ))) O<|?_
 by_cases h1:idxOf (fun y=>y==x) l<0
 ·
  refine R.q (q.geq O O (decide_eq_false (by omega))) O<|R.u 1 O<|R.nil ?_
  exact R.rv O Tryz.results79 O (rB (by (have e:=yE (l:=l) (x:=x);exact (decide_eq_false (e▸(by omega))).symm)))
 ·
  refine R.q (q.geq O O (decide_eq_true (by omega))) O<|R.u 1 O<|R.nil ?_
  exact R.rv O Tryz.results79 O (rB (by (have e:=yE (l:=l) (x:=x);exact (decide_eq_true (e▸(by omega))).symm)))
theorem mX (aD az aB aC:Value)(r:ar)(p:Place)(w:World)(lY:Sl w aD r.ai)(jQ:Sl w az r.Things)(oE:Sl w aB r.Held)(vH:Sl w aC r.Notes)(hk:Ok r):Calls Tryz.prog 61 #[.agg #[aD,az,aB,aC,iV r.ae,iV r.af],.agg #[iV p.aj,iV p.Slot]] w fun e w'=>e = .returned (.tuple #[ak.val ((au r p).1),fc ((au r p).2)])∧Ext w w':=by
 have b1:=hk.hl
 refine R.enter (n:=30) (vs:=[.agg #[aD,az,aB,aC,iV r.ae,iV r.af],.agg #[iV p.aj,iV p.Slot]]) [] [(0,.agg #[aD,az,aB,aC,iV r.ae,iV r.af]),(1,.agg #[iV p.aj,iV p.Slot])] Tryz.func61 O O O O ?_
 refine R.reg O<|R.s O (s.box (cs:=[aD,az,aB,aC,iV r.ae,iV r.af]) O O O) fun b1=>R.s O (s.box (cs:=av p) O O O) fun b2=>R.s O (s.alloc (cs:=cC) bF O O) fun b3=>R.u 1 O<|R.nil ?_
 refine R.reg O<|R.q (q.cj 1 O O aS) O<|R.c (q.call yx O O (fun w hw=>(ic (p) w  ))) O<|R.u 1 O<|R.nil ?_
 refine R.reg O<|R.u 1 O<|?_
 by_cases h1:bu p=0
 ·
  refine R.q (q.gj O O Tryz.underlying35 (by omega)) O<|R.nil ?_
  refine R.aF O O ?_
  rcases dR r.ai (jY r.Held p) with ⟨eU,ug⟩ | ⟨lW,hZ,eU,oT,EK⟩
  ·
   refine R.dP O mixed (by kernel_rfl)<|Q.q (q.aT (off':=0) O bf O) O<|Q.q (q.ld 2 O O bE O) O<|Q.q (q.aT (off':=2) O bB O) O<|Q.q (q.ld 2 O O bZ O) O<|Q.q (q.cj 1 O O aS) O<|Q.c (q.call tU O O (fun w hw=>(j6 _ (r.Held) (p) w ((fun _=>Wd.old oE) w hw) (by omega)))) O<|Q.c (q.call lT O O (fun w hw=>(cv (congrArg (Value.int .i64) eU) (f4 _ (r.ai) (jY r.Held p) w ((fun _=>Wd.old lY) w hw) )))) O<|Q.u 1 O<|Q.nil ?_
   refine R.reg O<|R.u 1 O<|R.q (q.lss (b:=true) O O (by decide)) O<|R.nil ?_
   refine R.aE O O ?_
   refine R.reg O<|R.q (q.build (cs:=cC) eK O O) O<|R.q (q.iface O cL) O<|R.s O (s.st (us:=cC) (cs':=cC) 0 _ O O O O (.inl aP) O O O O) fun _=>R.u 1 O<|R.nil ?_
   exact R.qq O Tryz.results61 (RV.cell 0 O O aP) (RV.tmp O) (congrArg ak.val (show (⟨0,0,0,0,0⟩:ak)=(au r p).1 from by ((rw [mT ‹_› eU];rfl)))) (eP (by decide) (by ((rw [mT ‹_› eU];done))))
  ·
   refine R.dP O mixed (by kernel_rfl)<|Q.q (q.aT (off':=0) O bf O) O<|Q.q (q.ld 2 O O bE O) O<|Q.q (q.aT (off':=2) O bB O) O<|Q.q (q.ld 2 O O bZ O) O<|Q.q (q.cj 1 O O aS) O<|Q.c (q.call tU O O (fun w hw=>(j6 _ (r.Held) (p) w ((fun _=>Wd.old oE) w hw) (by omega)))) O<|Q.c (q.call lT O O (fun w hw=>(cv (congrArg (Value.int .i64) eU) (f4 _ (r.ai) (jY r.Held p) w ((fun _=>Wd.old lY) w hw) )))) O<|Q.u 1 O<|Q.nil ?_
   refine R.reg O<|R.u 1 O<|R.q (q.lss O O (decide_eq_false (by omega))) O<|R.nil ?_
   refine R.aF O O ?_
   refine R.reg O<|R.q (q.aT (off':=0) O bf O) O<|R.q (q.ld 2 O O bE O) O<|R.u 1 O<|R.q (q.idx (i:=lW) (fun _=>Wd.old lY) O O cK O (List.getElem?_eq_getElem hZ)) O<|R.q (q.cY (ds:=ay (r.ai[lW])) (fun _=>Wd.old lY) (List.getElem?_eq_getElem hZ) O aP O) O<|?_
   refine R.s O (s.st (us:=ay (r.ai[lW])) (cs':=ay (r.ai[lW])) 0 _ O O O O (.inl aP) O O O O) fun _=>R.u 1 O<|R.nil ?_
   exact R.qq O Tryz.results61 (RV.cell 0 O O aP) (RV.tmp O) (congrArg ak.val (show (r.ai[lW])=(au r p).1 from by ((rw [oC ‹_› eU (List.getElem?_eq_getElem hZ)];done)))) (i6 (by ((rw [oC ‹_› eU (List.getElem?_eq_getElem hZ)];done))))
 ·
  refine R.q (q.gu O O Tryz.underlying35 (by omega)) O<|R.nil ?_
  refine R.aE O O ?_
  refine R.reg O<|R.q (q.build (cs:=cC) eK O O) O<|R.u 1 O<|R.s O (s.st (us:=cC) (cs':=cC) 0 _ O O O O (.inl aP) O O O O) fun _=>R.u 1 O<|R.nil ?_
  exact R.qq O Tryz.results61 (RV.cell 0 O O aP) (RV.tmp O) (congrArg ak.val (show (⟨0,0,0,0,0⟩:ak)=(au r p).1 from by ((rw [mo ‹_›];rfl)))) (rE (by ((rw [mo ‹_›];done))))
theorem mY (aD az aB aC:Value)(r:ar)(p:Place)(w:World)(lY:Sl w aD r.ai)(jQ:Sl w az r.Things)(oE:Sl w aB r.Held)(vH:Sl w aC r.Notes)(hk:Ok r):Calls Tryz.prog 70 #[.agg #[aD,az,aB,aC,iV r.ae,iV r.af],.agg #[iV p.aj,iV p.Slot]] w fun e w'=>e = .returned (fc (d9 r p))∧Ext w w':=by
 have b1:=hk.hl
 refine R.enter (n:=19) (vs:=[.agg #[aD,az,aB,aC,iV r.ae,iV r.af],.agg #[iV p.aj,iV p.Slot]]) [] [(0,.agg #[aD,az,aB,aC,iV r.ae,iV r.af]),(1,.agg #[iV p.aj,iV p.Slot])] Tryz.func70 O O O O ?_
 refine R.reg O<|R.s O (s.box (cs:=[aD,az,aB,aC,iV r.ae,iV r.af]) O O O) fun b1=>R.s O (s.box (cs:=av p) O O O) fun b2=>R.u 1 O<|R.nil ?_
 refine R.reg O<|R.q (q.cj 0 O O aS) O<|R.c (q.call yx O O (fun w hw=>(ic (p) w  ))) O<|R.u 1 O<|R.nil ?_
 refine R.reg O<|R.u 1 O<|?_
 by_cases h1:bu p=0
 ·
  refine R.q (q.uV O O Tryz.underlying35 (by omega)) O<|R.u 1 O<|R.qg O (q.aT (off':=2) O bB O) O<|R.qg O (q.ld 1 O O bZ O) O<|R.qg O (q.cj 0 O O aS) O<|R.cg O (q.call tU O O (fun w hw=>(j6 _ (r.Held) (p) w ((fun _=>Wd.old oE) w hw) (by omega)))) O<|?_
  by_cases h2:jY r.Held p=0
  ·
   refine R.qg O (q.neq O O (bne_eq_false_iff_eq.2 (by omega))) O<|R.u 1 O<|R.nil ?_
   refine R.aF O O ?_
   refine R.reg O<|R.u 2 O<|R.nil ?_
   exact R.rv O Tryz.results70 O (rE (by (unfold d9;(rw [if_pos ‹_›,if_pos ‹_›];omega))))
  ·
   refine R.qg O (q.neq O O (bne_iff_ne.2 (by omega))) O<|R.u 1 O<|R.nil ?_
   refine R.aE O O ?_
   refine R.reg O<|R.q (q.iface O cL) O<|R.u 1 O<|R.nil ?_
   refine R.reg O<|R.u 2 O<|R.nil ?_
   exact R.rv O Tryz.results70 O (eP (by decide) (by (unfold d9;(rw [if_pos ‹_›,if_neg ‹_›];done))))
 ·
  refine R.q (q.uW O O Tryz.underlying35 (by omega)) O<|R.u 7 O<|R.nil ?_
  refine R.aF O O ?_
  refine R.reg O<|R.u 2 O<|R.nil ?_
  exact R.rv O Tryz.results70 O (rE (by (unfold d9;(rw [if_neg ‹_›];done))))
theorem mC (aD az aB aC:Value)(r:ar)(w0:ak)(p:Place)(w:World)(own:List Nat)(H:Wd w (blks []++own) ([]++[ag.held w own]) [ag.ls aD (r.ai:List ak),ag.ls az (r.Things:List ao),ag.ls aB (r.Held:List Held),ag.ls aC (r.Notes:List Note)] w)(hk:r.Held.length≤3000∧r.ai.length≤3000∧0≤r.ae∧r.ae≤3000):Calls Tryz.prog 72 #[.agg #[aD,az,aB,aC,iV r.ae,iV r.af],.agg #[iV w0.ID,iV w0.ao,iV w0.Rights,iV w0.aI,iV w0.From],.agg #[iV p.aj,iV p.Slot]] w fun e w' => ∃z:Value×Value×Value×Value,e = .returned (.agg #[z.1,z.2.1,z.2.2.1,z.2.2.2,iV (((bz r w0 p)).ae),iV (((bz r w0 p)).af)])∧Wd w (blks []++own) ([]++[ag.held w own]) [ag.ls z.1 (((bz r w0 p)).ai:List ak),ag.ls z.2.1 (((bz r w0 p)).Things:List ao),ag.ls z.2.2.1 (((bz r w0 p)).Held:List Held),ag.ls z.2.2.2 (((bz r w0 p)).Notes:List Note)] w':=by
 have cS:=H.ct 0 rfl
 have cy:=H.ct 1 rfl
 have dq:=H.ct 2 rfl
 have cT:=H.ct 3 rfl
 have b1:=hk.1;have b2:=hk.2.1;have b3:=hk.2.2.1;have b4:=hk.2.2.2
 refine R.da (n:=29) (vs:=[.agg #[aD,az,aB,aC,iV r.ae,iV r.af],.agg #[iV w0.ID,iV w0.ao,iV w0.Rights,iV w0.aI,iV w0.From],.agg #[iV p.aj,iV p.Slot]]) (B:=[ag.held w own]) [(0,.agg #[aD,az,aB,aC,iV r.ae,iV r.af]),(1,.agg #[iV w0.ID,iV w0.ao,iV w0.Rights,iV w0.aI,iV w0.From]),(2,.agg #[iV p.aj,iV p.Slot])] Tryz.func72 O O O O H ?_
 refine R.reg O<|R.s O (s.box (cs:=[aD,az,aB,aC,iV r.ae,iV r.af]) O O O) fun b1=>R.s O (s.box (cs:=ay w0) O O O) fun b2=>R.s O (s.box (cs:=av p) O O O) fun b3=>R.s O (s.alloc (cs:=aG) cp O O) fun b4=>R.nil ?_
 refine R.e8 (fuel:=8) (Wd w (blks []++own) [ag.box b4 aG 32,ag.box b3 (av p) 39,ag.box b2 (ay w0) 88,ag.held w own] [ag.ls aD r.ai,ag.ls az r.Things,ag.ls aB r.Held,ag.ls aC r.Notes]) O mixed O ?_
 refine D.q (i:=0) O (by kernel_rfl) (aK [0,1,2,4] bm O O O) O (q.aT (off':=0) O bf O) O<|D.q (i:=3) O (by kernel_rfl) (aK [0,1,2,4] bm O O O) O (q.cj 2 O O aP) O<|D.two (i:=1) (j:=4) (by kernel_rfl) O O ?_ ?_
 ·
  refine Do.s (s.c (Qt.a (q.ld 3 O O bE O)) O) (fun _=>(aK [0,1,2,4] bm O O O)) O fun _=>D.two (i:=2) (j:=4) (by kernel_rfl) O O ?_ ?_
  ·
   refine Do.s (B':=(fun aN:Value=>[ag.row 88 aN r.ai,ag.box b4 aG 32,ag.box b3 (av p) 39,ag.box b2 (ay w0) 88,ag.box b1 [aD,az,aB,aC,iV r.ae,iV r.af] 32,ag.held w own])) (F':=(fun aN:Value=>[ag.ls aD r.ai,ag.ls az r.Things,ag.ls aB r.Held,ag.ls aC r.Notes])) (s.bP (B0:=[]) (Br:=[ag.box b4 aG 32,ag.box b3 (av p) 39,ag.box b2 (ay w0) 88,ag.box b1 [aD,az,aB,aC,iV r.ae,iV r.af] 32,ag.held w own]) (F0:=[ag.ls aD r.ai]) cZ [0] (fun aN:Value=>aN) (fun aN:Value=>[ag.row 88 aN r.ai]) (fun aN:Value=>[]) O O O yv O O (fun w own hw H=>iT aD (r.ai) w own H (by omega)) O) (fun _=>(aK [1,2,3,5] bm O O O)) O fun z2=>D.one (i:=4) (by kernel_rfl) O ?_
   refine Do.s (s.bs (l:=([w0]:List ak)) cK bF O O O O O O O) (fun _=>(aK lM bm O O O)) O fun b5=>D.one (i:=5) (by kernel_rfl) O ?_
   refine Do.s (s.app (l2:=[w0]) 1 _ O O O (cJ 0 O) fJ (by (simp;omega)) (by (simp;omega)) (fun _=>rfl) O) (fun _=>(aK lM bm O O O)) O fun v1=>D.q (i:=6) O (by kernel_rfl) (aK lM bm O O O) O (q.aT (off':=0) O bf O) O<|D.one (i:=7) (by kernel_rfl) O ?_
   refine Do.s (s.dy (us:=[v1]) (cs':=[v1,az,aB,aC,iV r.ae,iV r.af]) 5 _ O O O (fun w hw=>Sl.cm (hw.row 1 O)) (.inr ⟨bE,rfl⟩) (fun w hw=>(ah (Sl.one (hw.row 1 O)) aL)) O O O) (fun _=>(aK lM bm O O O)) O fun _=>D.done (by kernel_rfl)<|R.reg O<|R.q (q.aT (off':=4) O bW O) O<|R.q (q.ld 5 O O aA O) O<|R.q (q.add (r:=r.ae+1) O O (wr (by omega))) O<|R.q (q.aT (off':=4) O bW O) O<|R.s O (s.st (us:=[iV (r.ae+1)]) (cs':=[v1,az,aB,aC,iV (r.ae+1),iV r.af]) 5 _ O O O O (.inr ⟨aA,rfl⟩) O O O O) fun _=>R.nil ?_
   refine R.reg O<|R.q (q.aT (off':=0) O cF O) O<|R.q (q.ld 3 O O aA O) O<|?_
   by_cases h1:0<p.aj
   ·
    refine R.q (q.gtr O O (decide_eq_true (by omega))) O<|R.nil ?_
    refine R.aE O O ?_
    refine R.reg O<|R.q (q.aT (off':=2) O bB O) O<|R.q (q.ld 5 O O bZ O) O<|R.q (q.cj 3 O O aS) O<|R.q (q.aT (off':=0) O bI O) O<|R.q (q.ld 4 O O aA O) O<|R.s (B':=(fun aN:Value=>[ag.row 85 aN (cw r.Held p w0.ID),ag.row 88 (.slice (some ⟨b5,0,none⟩) 1 1) ([w0]:List ak),ag.row 88 v1 (r.ai++([w0])),ag.box b4 aG 32,ag.box b3 (av p) 39,ag.box b2 (ay w0) 88,ag.box b1 [v1,az,aB,aC,iV (r.ae+1),iV r.af] 32,ag.held w own])) (F':=(fun aN:Value=>[ag.ls aD r.ai,ag.ls az r.Things,ag.ls aB r.Held,ag.ls aC r.Notes])) O (s.bP (B0:=[]) (Br:=[ag.row 88 (.slice (some ⟨b5,0,none⟩) 1 1) ([w0]:List ak),ag.row 88 v1 (r.ai++([w0])),ag.box b4 aG 32,ag.box b3 (av p) 39,ag.box b2 (ay w0) 88,ag.box b1 [v1,az,aB,aC,iV (r.ae+1),iV r.af] 32,ag.held w own]) (F0:=[ag.ls aB r.Held]) gW [2] (fun aN:Value=>aN) (fun aN:Value=>[ag.row 85 aN (cw r.Held p w0.ID)]) (fun aN:Value=>[]) O O O sU O O (fun w own hw H=>mS aB (r.Held) (p) (w0.ID) w own H (by omega)) O) fun z3=>R.q (q.aT (off':=2) O bB O) O<|R.s O (s.dy (us:=[z3]) (cs':=[v1,az,z3,aC,iV (r.ae+1),iV r.af]) 6 _ O O O (fun w hw=>Sl.cm (hw.row 0 O)) (.inr ⟨bZ,rfl⟩) (fun w hw=>(ah (Sl.one (hw.row 0 O)) aL)) O O O) fun _=>R.nil ?_
    refine R.reg O<|R.q (q.cj 6 O O ap) O<|R.s O (s.dy (us:=[v1,az,z3,aC,iV (r.ae+1),iV r.af]) (cs':=[v1,az,z3,aC,iV (r.ae+1),iV r.af]) 3 _ O O O (fun _ _=>rfl) (.inl ap) (fun w hw=>(ah (Sl.one (hw.row 2 O)) (ah (Sl.one (hw.bq 1 O)) (ah (Sl.one (hw.row 0 O)) (ah (Sl.one (hw.bq 3 O)) (ah O (ah O aL))))))) O O O) fun _=>R.nil ?_
    refine R.mp (B':=[ag.row 85 z3 (cw r.Held p w0.ID),ag.row 88 (.slice (some ⟨b5,0,none⟩) 1 1) ([w0]:List ak),ag.box b4 [v1,az,z3,aC,iV (r.ae+1),iV r.af] 32,ag.box b3 (av p) 39,ag.box b2 (ay w0) 88,ag.box b1 [v1,az,z3,aC,iV (r.ae+1),iV r.af] 32,ag.held w own]) (fun _ hw=>hw.bH 2 _ O O) ?_
    refine R.mp (B':=[ag.row 88 (.slice (some ⟨b5,0,none⟩) 1 1) ([w0]:List ak),ag.box b4 [v1,az,z3,aC,iV (r.ae+1),iV r.af] 32,ag.box b3 (av p) 39,ag.box b2 (ay w0) 88,ag.box b1 [v1,az,z3,aC,iV (r.ae+1),iV r.af] 32,ag.held w own]) (fun _ hw=>hw.bH 0 _ O O) ?_
    have hz:bz r w0 p=(⟨(r.ai++([w0])),r.Things,cw r.Held p w0.ID,r.Notes,(r.ae+1),r.af⟩:ar):=by (unfold bz;(rw [if_pos ‹_›];done))
    rw [hz]
    exact R.w1 (v1,az,z3,aC) [5] [1,3,0,5] O Tryz.results72 (RV.cell 1 O O ap) O O O O
   ·
    refine R.q (q.gtr O O (decide_eq_false (by omega))) O<|R.nil ?_
    refine R.aF O O ?_
    refine R.reg O<|R.q (q.cj 5 O O ap) O<|R.s O (s.dy (us:=[v1,az,aB,aC,iV (r.ae+1),iV r.af]) (cs':=[v1,az,aB,aC,iV (r.ae+1),iV r.af]) 2 _ O O O (fun _ _=>rfl) (.inl ap) (fun w hw=>(ah (Sl.one (hw.row 1 O)) (ah (Sl.one (hw.bq 1 O)) (ah (Sl.one (hw.bq 2 O)) (ah (Sl.one (hw.bq 3 O)) (ah O (ah O aL))))))) O O O) fun _=>R.nil ?_
    refine R.mp (B':=[ag.row 88 (.slice (some ⟨b5,0,none⟩) 1 1) ([w0]:List ak),ag.box b4 [v1,az,aB,aC,iV (r.ae+1),iV r.af] 32,ag.box b3 (av p) 39,ag.box b2 (ay w0) 88,ag.box b1 [v1,az,aB,aC,iV (r.ae+1),iV r.af] 32,ag.held w own]) (fun _ hw=>hw.bH 1 _ O O) ?_
    have hz:bz r w0 p=(⟨(r.ai++([w0])),r.Things,r.Held,r.Notes,(r.ae+1),r.af⟩:ar):=by (unfold bz;(rw [if_neg ‹_›];done))
    rw [hz]
    exact R.w1 (v1,az,aB,aC) [5] qI O Tryz.results72 (RV.cell 1 O O ap) O O O O
  ·
   refine Do.s (s.bs (l:=([w0]:List ak)) cK bF O O O O O O O) (fun _=>(aK [1,2,3,5] bm O O O)) O fun b6=>D.one (i:=2) (by kernel_rfl) O ?_
   refine Do.s (B':=(fun aN:Value=>[ag.row 88 aN r.ai,ag.row 88 (.slice (some ⟨b6,0,none⟩) 1 1) ([w0]:List ak),ag.box b4 aG 32,ag.box b3 (av p) 39,ag.box b2 (ay w0) 88,ag.box b1 [aD,az,aB,aC,iV r.ae,iV r.af] 32,ag.held w own])) (F':=(fun aN:Value=>[ag.ls aD r.ai,ag.ls az r.Things,ag.ls aB r.Held,ag.ls aC r.Notes])) (s.bP (B0:=[]) (Br:=[ag.row 88 (.slice (some ⟨b6,0,none⟩) 1 1) ([w0]:List ak),ag.box b4 aG 32,ag.box b3 (av p) 39,ag.box b2 (ay w0) 88,ag.box b1 [aD,az,aB,aC,iV r.ae,iV r.af] 32,ag.held w own]) (F0:=[ag.ls aD r.ai]) ia [0] (fun aN:Value=>aN) (fun aN:Value=>[ag.row 88 aN r.ai]) (fun aN:Value=>[]) O O O yv O O (fun w own hw H=>iT aD (r.ai) w own H (by omega)) O) (fun _=>(aK lM bm O O O)) O fun z4=>D.one (i:=5) (by kernel_rfl) O ?_
   refine Do.s (s.app (l2:=[w0]) 0 _ O O O (cJ 1 O) fJ (by (simp;omega)) (by (simp;omega)) (fun _=>rfl) O) (fun _=>(aK lM bm O O O)) O fun v2=>D.q (i:=6) O (by kernel_rfl) (aK lM bm O O O) O (q.aT (off':=0) O bf O) O<|D.one (i:=7) (by kernel_rfl) O ?_
   refine Do.s (s.dy (us:=[v2]) (cs':=[v2,az,aB,aC,iV r.ae,iV r.af]) 5 _ O O O (fun w hw=>Sl.cm (hw.row 0 O)) (.inr ⟨bE,rfl⟩) (fun w hw=>(ah (Sl.one (hw.row 0 O)) aL)) O O O) (fun _=>(aK lM bm O O O)) O fun _=>D.done (by kernel_rfl)<|R.reg O<|R.q (q.aT (off':=4) O bW O) O<|R.q (q.ld 5 O O aA O) O<|R.q (q.add (r:=r.ae+1) O O (wr (by omega))) O<|R.q (q.aT (off':=4) O bW O) O<|R.s O (s.st (us:=[iV (r.ae+1)]) (cs':=[v2,az,aB,aC,iV (r.ae+1),iV r.af]) 5 _ O O O O (.inr ⟨aA,rfl⟩) O O O O) fun _=>R.nil ?_
   refine R.reg O<|R.q (q.aT (off':=0) O cF O) O<|R.q (q.ld 3 O O aA O) O<|?_
   by_cases h2:0<p.aj
   ·
    refine R.q (q.gtr O O (decide_eq_true (by omega))) O<|R.nil ?_
    refine R.aE O O ?_
    refine R.reg O<|R.q (q.aT (off':=2) O bB O) O<|R.q (q.ld 5 O O bZ O) O<|R.q (q.cj 3 O O aS) O<|R.q (q.aT (off':=0) O bI O) O<|R.q (q.ld 4 O O aA O) O<|R.s (B':=(fun aN:Value=>[ag.row 85 aN (cw r.Held p w0.ID),ag.row 88 v2 (r.ai++([w0])),ag.row 88 (.slice (some ⟨b6,0,none⟩) 1 1) ([w0]:List ak),ag.box b4 aG 32,ag.box b3 (av p) 39,ag.box b2 (ay w0) 88,ag.box b1 [v2,az,aB,aC,iV (r.ae+1),iV r.af] 32,ag.held w own])) (F':=(fun aN:Value=>[ag.ls aD r.ai,ag.ls az r.Things,ag.ls aB r.Held,ag.ls aC r.Notes])) O (s.bP (B0:=[]) (Br:=[ag.row 88 v2 (r.ai++([w0])),ag.row 88 (.slice (some ⟨b6,0,none⟩) 1 1) ([w0]:List ak),ag.box b4 aG 32,ag.box b3 (av p) 39,ag.box b2 (ay w0) 88,ag.box b1 [v2,az,aB,aC,iV (r.ae+1),iV r.af] 32,ag.held w own]) (F0:=[ag.ls aB r.Held]) gW [2] (fun aN:Value=>aN) (fun aN:Value=>[ag.row 85 aN (cw r.Held p w0.ID)]) (fun aN:Value=>[]) O O O sU O O (fun w own hw H=>mS aB (r.Held) (p) (w0.ID) w own H (by omega)) O) fun z5=>R.q (q.aT (off':=2) O bB O) O<|R.s O (s.dy (us:=[z5]) (cs':=[v2,az,z5,aC,iV (r.ae+1),iV r.af]) 6 _ O O O (fun w hw=>Sl.cm (hw.row 0 O)) (.inr ⟨bZ,rfl⟩) (fun w hw=>(ah (Sl.one (hw.row 0 O)) aL)) O O O) fun _=>R.nil ?_
    refine R.reg O<|R.q (q.cj 6 O O ap) O<|R.s O (s.dy (us:=[v2,az,z5,aC,iV (r.ae+1),iV r.af]) (cs':=[v2,az,z5,aC,iV (r.ae+1),iV r.af]) 3 _ O O O (fun _ _=>rfl) (.inl ap) (fun w hw=>(ah (Sl.one (hw.row 1 O)) (ah (Sl.one (hw.bq 1 O)) (ah (Sl.one (hw.row 0 O)) (ah (Sl.one (hw.bq 3 O)) (ah O (ah O aL))))))) O O O) fun _=>R.nil ?_
    refine R.mp (B':=[ag.row 85 z5 (cw r.Held p w0.ID),ag.row 88 (.slice (some ⟨b6,0,none⟩) 1 1) ([w0]:List ak),ag.box b4 [v2,az,z5,aC,iV (r.ae+1),iV r.af] 32,ag.box b3 (av p) 39,ag.box b2 (ay w0) 88,ag.box b1 [v2,az,z5,aC,iV (r.ae+1),iV r.af] 32,ag.held w own]) (fun _ hw=>hw.bH 1 _ O O) ?_
    refine R.mp (B':=[ag.row 88 (.slice (some ⟨b6,0,none⟩) 1 1) ([w0]:List ak),ag.box b4 [v2,az,z5,aC,iV (r.ae+1),iV r.af] 32,ag.box b3 (av p) 39,ag.box b2 (ay w0) 88,ag.box b1 [v2,az,z5,aC,iV (r.ae+1),iV r.af] 32,ag.held w own]) (fun _ hw=>hw.bH 0 _ O O) ?_
    have hz:bz r w0 p=(⟨(r.ai++([w0])),r.Things,cw r.Held p w0.ID,r.Notes,(r.ae+1),r.af⟩:ar):=by (unfold bz;(rw [if_pos ‹_›];done))
    rw [hz]
    exact R.w1 (v2,az,z5,aC) [5] [1,3,0,5] O Tryz.results72 (RV.cell 1 O O ap) O O O O
   ·
    refine R.q (q.gtr O O (decide_eq_false (by omega))) O<|R.nil ?_
    refine R.aF O O ?_
    refine R.reg O<|R.q (q.cj 5 O O ap) O<|R.s O (s.dy (us:=[v2,az,aB,aC,iV (r.ae+1),iV r.af]) (cs':=[v2,az,aB,aC,iV (r.ae+1),iV r.af]) 2 _ O O O (fun _ _=>rfl) (.inl ap) (fun w hw=>(ah (Sl.one (hw.row 0 O)) (ah (Sl.one (hw.bq 1 O)) (ah (Sl.one (hw.bq 2 O)) (ah (Sl.one (hw.bq 3 O)) (ah O (ah O aL))))))) O O O) fun _=>R.nil ?_
    refine R.mp (B':=[ag.row 88 (.slice (some ⟨b6,0,none⟩) 1 1) ([w0]:List ak),ag.box b4 [v2,az,aB,aC,iV (r.ae+1),iV r.af] 32,ag.box b3 (av p) 39,ag.box b2 (ay w0) 88,ag.box b1 [v2,az,aB,aC,iV (r.ae+1),iV r.af] 32,ag.held w own]) (fun _ hw=>hw.bH 0 _ O O) ?_
    have hz:bz r w0 p=(⟨(r.ai++([w0])),r.Things,r.Held,r.Notes,(r.ae+1),r.af⟩:ar):=by (unfold bz;(rw [if_neg ‹_›];done))
    rw [hz]
    exact R.w1 (v2,az,aB,aC) [5] qI O Tryz.results72 (RV.cell 1 O O ap) O O O O
 ·
  refine Do.s (s.bs (l:=([w0]:List ak)) cK bF O O O O O O O) (fun _=>(aK [1,2,3,5] bm O O O)) O fun b7=>D.one (i:=1) (by kernel_rfl) O ?_
  refine Do.s (s.c (Qt.a (q.ld 4 O O bE O)) O) (fun _=>(aK [1,2,3,5] bm O O O)) O fun _=>D.one (i:=2) (by kernel_rfl) O ?_
  refine Do.s (B':=(fun aN:Value=>[ag.row 88 aN r.ai,ag.row 88 (.slice (some ⟨b7,0,none⟩) 1 1) ([w0]:List ak),ag.box b4 aG 32,ag.box b3 (av p) 39,ag.box b2 (ay w0) 88,ag.box b1 [aD,az,aB,aC,iV r.ae,iV r.af] 32,ag.held w own])) (F':=(fun aN:Value=>[ag.ls aD r.ai,ag.ls az r.Things,ag.ls aB r.Held,ag.ls aC r.Notes])) (s.bP (B0:=[]) (Br:=[ag.row 88 (.slice (some ⟨b7,0,none⟩) 1 1) ([w0]:List ak),ag.box b4 aG 32,ag.box b3 (av p) 39,ag.box b2 (ay w0) 88,ag.box b1 [aD,az,aB,aC,iV r.ae,iV r.af] 32,ag.held w own]) (F0:=[ag.ls aD r.ai]) ia [0] (fun aN:Value=>aN) (fun aN:Value=>[ag.row 88 aN r.ai]) (fun aN:Value=>[]) O O O yv O O (fun w own hw H=>iT aD (r.ai) w own H (by omega)) O) (fun _=>(aK lM bm O O O)) O fun z6=>D.one (i:=5) (by kernel_rfl) O ?_
  refine Do.s (s.app (l2:=[w0]) 0 _ O O O (cJ 1 O) fJ (by (simp;omega)) (by (simp;omega)) (fun _=>rfl) O) (fun _=>(aK lM bm O O O)) O fun v3=>D.q (i:=6) O (by kernel_rfl) (aK lM bm O O O) O (q.aT (off':=0) O bf O) O<|D.one (i:=7) (by kernel_rfl) O ?_
  refine Do.s (s.dy (us:=[v3]) (cs':=[v3,az,aB,aC,iV r.ae,iV r.af]) 5 _ O O O (fun w hw=>Sl.cm (hw.row 0 O)) (.inr ⟨bE,rfl⟩) (fun w hw=>(ah (Sl.one (hw.row 0 O)) aL)) O O O) (fun _=>(aK lM bm O O O)) O fun _=>D.done (by kernel_rfl)<|R.reg O<|R.q (q.aT (off':=4) O bW O) O<|R.q (q.ld 5 O O aA O) O<|R.q (q.add (r:=r.ae+1) O O (wr (by omega))) O<|R.q (q.aT (off':=4) O bW O) O<|R.s O (s.st (us:=[iV (r.ae+1)]) (cs':=[v3,az,aB,aC,iV (r.ae+1),iV r.af]) 5 _ O O O O (.inr ⟨aA,rfl⟩) O O O O) fun _=>R.nil ?_
  refine R.reg O<|R.q (q.aT (off':=0) O cF O) O<|R.q (q.ld 3 O O aA O) O<|?_
  by_cases h3:0<p.aj
  ·
   refine R.q (q.gtr O O (decide_eq_true (by omega))) O<|R.nil ?_
   refine R.aE O O ?_
   refine R.reg O<|R.q (q.aT (off':=2) O bB O) O<|R.q (q.ld 5 O O bZ O) O<|R.q (q.cj 3 O O aS) O<|R.q (q.aT (off':=0) O bI O) O<|R.q (q.ld 4 O O aA O) O<|R.s (B':=(fun aN:Value=>[ag.row 85 aN (cw r.Held p w0.ID),ag.row 88 v3 (r.ai++([w0])),ag.row 88 (.slice (some ⟨b7,0,none⟩) 1 1) ([w0]:List ak),ag.box b4 aG 32,ag.box b3 (av p) 39,ag.box b2 (ay w0) 88,ag.box b1 [v3,az,aB,aC,iV (r.ae+1),iV r.af] 32,ag.held w own])) (F':=(fun aN:Value=>[ag.ls aD r.ai,ag.ls az r.Things,ag.ls aB r.Held,ag.ls aC r.Notes])) O (s.bP (B0:=[]) (Br:=[ag.row 88 v3 (r.ai++([w0])),ag.row 88 (.slice (some ⟨b7,0,none⟩) 1 1) ([w0]:List ak),ag.box b4 aG 32,ag.box b3 (av p) 39,ag.box b2 (ay w0) 88,ag.box b1 [v3,az,aB,aC,iV (r.ae+1),iV r.af] 32,ag.held w own]) (F0:=[ag.ls aB r.Held]) gW [2] (fun aN:Value=>aN) (fun aN:Value=>[ag.row 85 aN (cw r.Held p w0.ID)]) (fun aN:Value=>[]) O O O sU O O (fun w own hw H=>mS aB (r.Held) (p) (w0.ID) w own H (by omega)) O) fun z7=>R.q (q.aT (off':=2) O bB O) O<|R.s O (s.dy (us:=[z7]) (cs':=[v3,az,z7,aC,iV (r.ae+1),iV r.af]) 6 _ O O O (fun w hw=>Sl.cm (hw.row 0 O)) (.inr ⟨bZ,rfl⟩) (fun w hw=>(ah (Sl.one (hw.row 0 O)) aL)) O O O) fun _=>R.nil ?_
   refine R.reg O<|R.q (q.cj 6 O O ap) O<|R.s O (s.dy (us:=[v3,az,z7,aC,iV (r.ae+1),iV r.af]) (cs':=[v3,az,z7,aC,iV (r.ae+1),iV r.af]) 3 _ O O O (fun _ _=>rfl) (.inl ap) (fun w hw=>(ah (Sl.one (hw.row 1 O)) (ah (Sl.one (hw.bq 1 O)) (ah (Sl.one (hw.row 0 O)) (ah (Sl.one (hw.bq 3 O)) (ah O (ah O aL))))))) O O O) fun _=>R.nil ?_
   refine R.mp (B':=[ag.row 85 z7 (cw r.Held p w0.ID),ag.row 88 (.slice (some ⟨b7,0,none⟩) 1 1) ([w0]:List ak),ag.box b4 [v3,az,z7,aC,iV (r.ae+1),iV r.af] 32,ag.box b3 (av p) 39,ag.box b2 (ay w0) 88,ag.box b1 [v3,az,z7,aC,iV (r.ae+1),iV r.af] 32,ag.held w own]) (fun _ hw=>hw.bH 1 _ O O) ?_
   refine R.mp (B':=[ag.row 88 (.slice (some ⟨b7,0,none⟩) 1 1) ([w0]:List ak),ag.box b4 [v3,az,z7,aC,iV (r.ae+1),iV r.af] 32,ag.box b3 (av p) 39,ag.box b2 (ay w0) 88,ag.box b1 [v3,az,z7,aC,iV (r.ae+1),iV r.af] 32,ag.held w own]) (fun _ hw=>hw.bH 0 _ O O) ?_
   have hz:bz r w0 p=(⟨(r.ai++([w0])),r.Things,cw r.Held p w0.ID,r.Notes,(r.ae+1),r.af⟩:ar):=by (unfold bz;(rw [if_pos ‹_›];done))
   rw [hz]
   exact R.w1 (v3,az,z7,aC) [5] [1,3,0,5] O Tryz.results72 (RV.cell 1 O O ap) O O O O
  ·
   refine R.q (q.gtr O O (decide_eq_false (by omega))) O<|R.nil ?_
   refine R.aF O O ?_
   refine R.reg O<|R.q (q.cj 5 O O ap) O<|R.s O (s.dy (us:=[v3,az,aB,aC,iV (r.ae+1),iV r.af]) (cs':=[v3,az,aB,aC,iV (r.ae+1),iV r.af]) 2 _ O O O (fun _ _=>rfl) (.inl ap) (fun w hw=>(ah (Sl.one (hw.row 0 O)) (ah (Sl.one (hw.bq 1 O)) (ah (Sl.one (hw.bq 2 O)) (ah (Sl.one (hw.bq 3 O)) (ah O (ah O aL))))))) O O O) fun _=>R.nil ?_
   refine R.mp (B':=[ag.row 88 (.slice (some ⟨b7,0,none⟩) 1 1) ([w0]:List ak),ag.box b4 [v3,az,aB,aC,iV (r.ae+1),iV r.af] 32,ag.box b3 (av p) 39,ag.box b2 (ay w0) 88,ag.box b1 [v3,az,aB,aC,iV (r.ae+1),iV r.af] 32,ag.held w own]) (fun _ hw=>hw.bH 0 _ O O) ?_
   have hz:bz r w0 p=(⟨(r.ai++([w0])),r.Things,r.Held,r.Notes,(r.ae+1),r.af⟩:ar):=by (unfold bz;(rw [if_neg ‹_›];done))
   rw [hz]
   exact R.w1 (v3,az,aB,aC) [5] qI O Tryz.results72 (RV.cell 1 O O ap) O O O O
theorem vI  (w:World)(own:List Nat)(H:Wd w (blks []++own) ([]++[ag.held w own]) [] w)  : Calls Tryz.prog 9 #[] w fun e w' => ∃z:Value×Value×Value×Value,e = .returned (.agg #[z.1,z.2.1,z.2.2.1,z.2.2.2,iV (((⟨[],[],[],[],1,1⟩:ar)).ae),iV (((⟨[],[],[],[],1,1⟩:ar)).af)])∧Wd w (blks []++own) ([]++[ag.held w own]) [ag.ls z.1 (((⟨[],[],[],[],1,1⟩:ar)).ai:List ak),ag.ls z.2.1 (((⟨[],[],[],[],1,1⟩:ar)).Things:List ao),ag.ls z.2.2.1 (((⟨[],[],[],[],1,1⟩:ar)).Held:List Held),ag.ls z.2.2.2 (((⟨[],[],[],[],1,1⟩:ar)).Notes:List Note)] w':=by
 refine R.da (n:=2) (vs:=[]) (B:=[ag.held w own]) [] Tryz.func9 O O O O H ?_
 refine R.reg O<|R.s O (s.alloc (cs:=aG) cp O O) fun b1=>R.nil ?_
 refine R.reg O<|R.q (q.build (cs:=[nS,nS,nS,nS,iV 1,iV 1]) cz O O) O<|R.s O (s.st (us:=[nS,nS,nS,nS,iV 1,iV 1]) (cs':=[nS,nS,nS,nS,iV 1,iV 1]) 0 _ O O O O (.inl ap) O O O O) fun _=>R.nil ?_
 refine R.mp (fun _ hw=>hw.aR (α:=ak)) ?_
 refine R.mp (fun _ hw=>hw.aR (α:=ao)) ?_
 refine R.mp (fun _ hw=>hw.aR (α:=Held)) ?_
 refine R.mp (fun _ hw=>hw.aR (α:=Note)) ?_
 exact R.w1 ((nS),(nS),(nS),(nS)) [1] dj O Tryz.results9 (RV.cell 0 O O ap) O O O O
theorem rJ (t:ao)(w0:ak)(rK:Nat)(w:World)(Bz:(ag.box rK (ay w0) 88).ok w):Calls Tryz.prog 121 #[.agg #[iV t.ID,iV t.Kind,.string t.Data],.pointer (some ⟨rK,0,none⟩)] w fun e w'=>e = .returned (.bool (t.ID==w0.ao))∧Ext w w':=by
 refine R.enter (n:=9) (vs:=[.agg #[iV t.ID,iV t.Kind,.string t.Data],.pointer (some ⟨rK,0,none⟩)]) [] [(0,.agg #[iV t.ID,iV t.Kind,.string t.Data]),(1,.pointer (some ⟨rK,0,none⟩))] Tryz.func121 O O O O ?_
 refine R.qd (r:=ag.box rK (ay w0) 88) Bz (nJ Bz) ?_
 refine R.reg O<|R.s O (s.box (cs:=eE t) O O O) fun b1=>R.u 1 O<|R.nil ?_
 refine R.reg O<|R.q (q.aT (off':=0) O g9 O) O<|R.q (q.ld 0 O O aA O) O<|R.q (q.aT (off':=1) O dw O) O<|R.q (q.Gg 0 O O aA O) O<|?_
 by_cases h1:t.ID=w0.ao
 ·
  refine R.q (q.eql O O (beq_iff_eq.2 (by omega))) O<|R.u 1 O<|R.nil ?_
  exact R.rv O Tryz.results121 O (rB (by (exact (beq_iff_eq.2 ‹_›).symm)))
 ·
  refine R.q (q.eql O O (beq_eq_false_iff_ne.2 (by omega))) O<|R.u 1 O<|R.nil ?_
  exact R.rv O Tryz.results121 O (rB (by (exact (beq_eq_false_iff_ne.2 ‹_›).symm)))
theorem p6 (t:Note)(w0:ak)(rK:Nat)(w:World)(Bz:(ag.box rK (ay w0) 88).ok w):Calls Tryz.prog 83 #[.agg #[iV t.Port,.string t.Data,iV t.aI,iV t.ak],.pointer (some ⟨rK,0,none⟩)] w fun e w'=>e = .returned (.bool (t.Port==w0.ao))∧Ext w w':=by
 refine R.enter (n:=9) (vs:=[.agg #[iV t.Port,.string t.Data,iV t.aI,iV t.ak],.pointer (some ⟨rK,0,none⟩)]) [] [(0,.agg #[iV t.Port,.string t.Data,iV t.aI,iV t.ak]),(1,.pointer (some ⟨rK,0,none⟩))] Tryz.func83 O O O O ?_
 refine R.qd (r:=ag.box rK (ay w0) 88) Bz (nJ Bz) ?_
 refine R.reg O<|R.s O (s.box (cs:=bg t) O O O) fun b1=>R.u 1 O<|R.nil ?_
 refine R.reg O<|R.q (q.aT (off':=0) O gH O) O<|R.q (q.ld 0 O O aA O) O<|R.q (q.aT (off':=1) O dw O) O<|R.q (q.Gg 0 O O aA O) O<|?_
 by_cases h1:t.Port=w0.ao
 ·
  refine R.q (q.eql O O (beq_iff_eq.2 (by omega))) O<|R.u 1 O<|R.nil ?_
  exact R.rv O Tryz.results83 O (rB (by (exact (beq_iff_eq.2 ‹_›).symm)))
 ·
  refine R.q (q.eql O O (beq_eq_false_iff_ne.2 (by omega))) O<|R.u 1 O<|R.nil ?_
  exact R.rv O Tryz.results83 O (rB (by (exact (beq_eq_false_iff_ne.2 ‹_›).symm)))
theorem sA (t:ao)(FA:Value)(ts:List Int)(BA:Nat)(w:World)(HI:(ag.box BA [FA] 60).ok w)(IX:Sl w FA ts):Calls Tryz.prog 108 #[.agg #[iV t.ID,iV t.Kind,.string t.Data],.pointer (some ⟨BA,0,none⟩)] w fun e w'=>e = .returned (.bool (!decide (t.ID∈ts)))∧Ext w w':=by
 refine R.enter (n:=9) (vs:=[.agg #[iV t.ID,iV t.Kind,.string t.Data],.pointer (some ⟨BA,0,none⟩)]) [] [(0,.agg #[iV t.ID,iV t.Kind,.string t.Data]),(1,.pointer (some ⟨BA,0,none⟩))] Tryz.func108 O O O O ?_
 refine R.qd (r:=ag.box BA [FA] 60) HI (nJ HI) ?_
 refine R.reg O<|R.s O (s.box (cs:=eE t) O O O) fun b1=>R.u 1 O<|R.nil ?_
 refine R.reg O<|R.q (q.Gg 0 O O mM O) O<|R.q (q.aT (off':=0) O g9 O) O<|R.q (q.ld 0 O O aA O) O<|R.c (q.call pQ O O (fun w hw=>(e5 _ (ts) (t.ID) w ((fun _=>Wd.old IX) w hw) ))) O<|R.q (q.not O) O<|R.u 1 O<|R.nil ?_
 exact R.rv O Tryz.results108 O (rB (by (rfl)))
theorem sB (h:Held)(aD az aB aC:Value)(r:ar)(nA:Nat)(w:World)(Jj:(ag.box nA [aD,az,aB,aC,iV r.ae,iV r.af] 32).ok w)(lY:Sl w aD r.ai)(jQ:Sl w az r.Things)(oE:Sl w aB r.Held)(vH:Sl w aC r.Notes):Calls Tryz.prog 111 #[.agg #[iV h.Place.aj,iV h.Place.Slot,iV h.ak],.pointer (some ⟨nA,0,none⟩)] w fun e w'=>e = .returned (.bool (decide (cB r.ai h.ak<0)))∧Ext w w':=by
 refine R.enter (n:=10) (vs:=[.agg #[iV h.Place.aj,iV h.Place.Slot,iV h.ak],.pointer (some ⟨nA,0,none⟩)]) [] [(0,.agg #[iV h.Place.aj,iV h.Place.Slot,iV h.ak]),(1,.pointer (some ⟨nA,0,none⟩))] Tryz.func111 O O O O ?_
 refine R.qd (r:=ag.box nA [aD,az,aB,aC,iV r.ae,iV r.af] 32) Jj (nJ Jj) ?_
 refine R.reg O<|R.s O (s.box (cs:=dJ h) O O O) fun b1=>R.u 1 O<|R.nil ?_
 refine R.reg O<|R.q (q.aT (off':=0) O bf O) O<|R.q (q.Gg 0 O O bE O) O<|R.q (q.aT (off':=2) O fL O) O<|R.q (q.ld 0 O O aA O) O<|?_
 rcases dR r.ai h.ak with ⟨eU,ug⟩ | ⟨lW,hZ,eU,oT,EK⟩
 ·
  refine R.c (q.call lT O O (fun w hw=>(cv (congrArg (Value.int .i64) eU) (f4 _ (r.ai) (h.ak) w ((fun _=>Wd.old lY) w hw) )))) O<|R.q (q.lss (b:=true) O O (by decide)) O<|R.u 1 O<|R.nil ?_
  exact R.rv O Tryz.results111 O (rB (by (exact (decide_eq_true (by omega)).symm)))
 ·
  refine R.c (q.call lT O O (fun w hw=>(cv (congrArg (Value.int .i64) eU) (f4 _ (r.ai) (h.ak) w ((fun _=>Wd.old lY) w hw) )))) O<|R.q (q.lss O O (decide_eq_false (by omega))) O<|R.u 1 O<|R.nil ?_
  exact R.rv O Tryz.results111 O (rB (by (exact (decide_eq_false (by omega)).symm)))
theorem sC (x:ak)(FB:Value)(gs:List Int)(BD:Nat)(w:World)(HK:(ag.box BD [FB] 60).ok w)(IY:Sl w FB gs):Calls Tryz.prog 78 #[.agg #[iV x.ID,iV x.ao,iV x.Rights,iV x.aI,iV x.From],.pointer (some ⟨BD,0,none⟩)] w fun e w'=>e = .returned (.bool (decide (x.ID∈gs)))∧Ext w w':=by
 refine R.enter (n:=8) (vs:=[.agg #[iV x.ID,iV x.ao,iV x.Rights,iV x.aI,iV x.From],.pointer (some ⟨BD,0,none⟩)]) [] [(0,.agg #[iV x.ID,iV x.ao,iV x.Rights,iV x.aI,iV x.From]),(1,.pointer (some ⟨BD,0,none⟩))] Tryz.func78 O O O O ?_
 refine R.qd (r:=ag.box BD [FB] 60) HK (nJ HK) ?_
 refine R.reg O<|R.s O (s.box (cs:=ay x) O O O) fun b1=>R.u 1 O<|R.nil ?_
 refine R.reg O<|R.q (q.Gg 0 O O mM O) O<|R.q (q.aT (off':=0) O bI O) O<|R.q (q.ld 0 O O aA O) O<|R.c (q.call pQ O O (fun w hw=>(e5 _ (gs) (x.ID) w ((fun _=>Wd.old IY) w hw) ))) O<|R.u 1 O<|R.nil ?_
 exact R.rv O Tryz.results78 O (rB (by (rfl)))
end Go.Proofs.YtbkfhjaibhnkmaaGreatDoor
