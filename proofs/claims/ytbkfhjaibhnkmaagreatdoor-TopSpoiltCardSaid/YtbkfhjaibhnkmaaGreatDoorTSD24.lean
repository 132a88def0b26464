import Derived.Test.YtbkfhjaibhnkmaaGreatDoorTSD14
import Derived.Test.YtbkfhjaibhnkmaaGreatDoorTSD20
import Derived.Test.YtbkfhjaibhnkmaaGreatDoorTSD21
import Derived.Test.YtbkfhjaibhnkmaaGreatDoorTSD23
namespace Go.Proofs.YtbkfhjaibhnkmaaGreatDoor
open Go Go.RowKit
set_option linter.unusedVariables false
set_option linter.unusedSimpArgs false
set_option maxRecDepth 100000
theorem gK (bm:Value)(l:List aj)(w:World)(own:List Nat)(H:Wd w (blks []++own) ([]++[ag.held w own]) [ag.ls bm (l:List aj)] w)(hl:l.length≤1000000):Calls Tryz.prog 77 #[bm] w fun e w' => ∃z:Value,e = .returned (z)∧Wd w (blks []++own) ([ag.row 88 z (l:List aj)]++[ag.held w own]) [] w':=by
 have uP:=H.cX 0 rfl
 refine R.dc (n:=8) (vs:=[bm]) (B:=[ag.held w own]) [(0,bm)] Tryz.func77 rfl rfl rfl rfl H ?_
 refine R.reg rfl<|R.u 1 rfl<|R.nil ?_
 refine R.reg rfl<|R.u 1 rfl<|?_
 rcases Bool.eq_false_or_eq_true (j6 bm) with h1|h1
 ·
  refine R.q (q.zb (congrArg Value.bool h1) (q.mU (fun _=>Wd.aT 0 rfl) rfl rfl Tryz.underlying27)) rfl<|R.nil ?_
  refine R.aD rfl rfl ?_
  refine R.reg rfl<|R.u 1 rfl<|R.nil ?_
  refine R.row0 (α:=aj) 88 ?_
  have hz:l=[]:=by (first|rfl|exact (List.nil_append _).symm|exact Sl.j6 (H.aT 0 rfl) ‹_›)
  rw [hz]
  exact R.w1 (nS) [0,1] [] rfl Tryz.results77 (RV.tmp rfl) rfl rfl rfl rfl
 ·
  refine R.q (q.zb (congrArg Value.bool h1) (q.mU (fun _=>Wd.aT 0 rfl) rfl rfl Tryz.underlying27)) rfl<|R.nil ?_
  refine R.aI rfl rfl ?_
  refine R.reg rfl<|R.s rfl (s.bs (l:=([]:List aj)) cK bE rfl rfl rfl rfl rfl rfl rfl) fun b1=>R.u 1 rfl<|R.s rfl (s.app (l2:=l) 0 _ rfl rfl rfl (fun _=>Wd.aT 0 rfl) gH (by simp;omega) (by simp;omega) (fun _=>rfl) rfl) fun v1=>R.u 1 rfl<|R.nil ?_
  have hz:l=(([])++l):=by (first|rfl|exact (List.nil_append _).symm|exact Sl.j6 (H.aT 0 rfl) ‹_›)
  rw [hz]
  exact R.w1 v1 [0,1] [] rfl Tryz.results77 (RV.tmp rfl) rfl rfl rfl rfl
theorem gx (bm:Value)(l:List ah)(w:World)(own:List Nat)(H:Wd w (blks []++own) ([]++[ag.held w own]) [ag.ls bm (l:List ah)] w)(hl:l.length≤1000000):Calls Tryz.prog 71 #[bm] w fun e w' => ∃z:Value,e = .returned (z)∧Wd w (blks []++own) ([ag.row 62 z (l:List ah)]++[ag.held w own]) [] w':=by
 have uP:=H.cX 0 rfl
 refine R.dc (n:=8) (vs:=[bm]) (B:=[ag.held w own]) [(0,bm)] Tryz.func71 rfl rfl rfl rfl H ?_
 refine R.reg rfl<|R.u 1 rfl<|R.nil ?_
 refine R.reg rfl<|R.u 1 rfl<|?_
 rcases Bool.eq_false_or_eq_true (j6 bm) with h1|h1
 ·
  refine R.q (q.zb (congrArg Value.bool h1) (q.mU (fun _=>Wd.aT 0 rfl) rfl rfl Tryz.underlying28)) rfl<|R.nil ?_
  refine R.aD rfl rfl ?_
  refine R.reg rfl<|R.u 1 rfl<|R.nil ?_
  refine R.row0 (α:=ah) 62 ?_
  have hz:l=[]:=by (first|rfl|exact (List.nil_append _).symm|exact Sl.j6 (H.aT 0 rfl) ‹_›)
  rw [hz]
  exact R.w1 (nS) [0,1] [] rfl Tryz.results71 (RV.tmp rfl) rfl rfl rfl rfl
 ·
  refine R.q (q.zb (congrArg Value.bool h1) (q.mU (fun _=>Wd.aT 0 rfl) rfl rfl Tryz.underlying28)) rfl<|R.nil ?_
  refine R.aI rfl rfl ?_
  refine R.reg rfl<|R.s rfl (s.bs (l:=([]:List ah)) fb gi rfl rfl rfl rfl rfl rfl rfl) fun b1=>R.u 1 rfl<|R.s rfl (s.app (l2:=l) 0 _ rfl rfl rfl (fun _=>Wd.aT 0 rfl) lP (by simp;omega) (by simp;omega) (fun _=>rfl) rfl) fun v1=>R.u 1 rfl<|R.nil ?_
  have hz:l=(([])++l):=by (first|rfl|exact (List.nil_append _).symm|exact Sl.j6 (H.aT 0 rfl) ‹_›)
  rw [hz]
  exact R.w1 v1 [0,1] [] rfl Tryz.results71 (RV.tmp rfl) rfl rfl rfl rfl
theorem ea (bm:Value)(l:List Note)(w:World)(own:List Nat)(H:Wd w (blks []++own) ([]++[ag.held w own]) [ag.ls bm (l:List Note)] w)(hl:l.length≤1000000):Calls Tryz.prog 81 #[bm] w fun e w' => ∃z:Value,e = .returned (z)∧Wd w (blks []++own) ([ag.row 72 z (l:List Note)]++[ag.held w own]) [] w':=by
 have uP:=H.cX 0 rfl
 refine R.dc (n:=8) (vs:=[bm]) (B:=[ag.held w own]) [(0,bm)] Tryz.func81 rfl rfl rfl rfl H ?_
 refine R.reg rfl<|R.u 1 rfl<|R.nil ?_
 refine R.reg rfl<|R.u 1 rfl<|?_
 rcases Bool.eq_false_or_eq_true (j6 bm) with h1|h1
 ·
  refine R.q (q.zb (congrArg Value.bool h1) (q.mU (fun _=>Wd.aT 0 rfl) rfl rfl Tryz.underlying30)) rfl<|R.nil ?_
  refine R.aD rfl rfl ?_
  refine R.reg rfl<|R.u 1 rfl<|R.nil ?_
  refine R.row0 (α:=Note) 72 ?_
  have hz:l=[]:=by (first|rfl|exact (List.nil_append _).symm|exact Sl.j6 (H.aT 0 rfl) ‹_›)
  rw [hz]
  exact R.w1 (nS) [0,1] [] rfl Tryz.results81 (RV.tmp rfl) rfl rfl rfl rfl
 ·
  refine R.q (q.zb (congrArg Value.bool h1) (q.mU (fun _=>Wd.aT 0 rfl) rfl rfl Tryz.underlying30)) rfl<|R.nil ?_
  refine R.aI rfl rfl ?_
  refine R.reg rfl<|R.s rfl (s.bs (l:=([]:List Note)) dW dC rfl rfl rfl rfl rfl rfl rfl) fun b1=>R.u 1 rfl<|R.s rfl (s.app (l2:=l) 0 _ rfl rfl rfl (fun _=>Wd.aT 0 rfl) gj (by simp;omega) (by simp;omega) (fun _=>rfl) rfl) fun v1=>R.u 1 rfl<|R.nil ?_
  have hz:l=(([])++l):=by (first|rfl|exact (List.nil_append _).symm|exact Sl.j6 (H.aT 0 rfl) ‹_›)
  rw [hz]
  exact R.w1 v1 [0,1] [] rfl Tryz.results81 (RV.tmp rfl) rfl rfl rfl rfl
theorem kl (bm:Value)(l:List Note)(i:Nat)(j:Nat)(w:World)(own:List Nat)(H:Wd w (blks [ag.row 72 bm (l:List Note)]++own) ([ag.row 72 bm (l:List Note)]++[ag.held w own]) [] w)(hij:i≤j∧j≤l.length):Calls Tryz.prog 85 #[bm,iV (i:Int),iV (j:Int)] w fun e w' => ∃z:Value,e = .returned (z)∧Wd w (blks [ag.row 72 bm (l:List Note)]++own) ([ag.row 72 z ((l.take i++l.drop j):List Note)]++[ag.held w own]) [] w':=by
 have wm:=H.cap 0 rfl;have uP:=H.om 0 rfl
 refine R.dc (n:=33) (vs:=[bm,iV (i:Int),iV (j:Int)]) (B:=[ag.row 72 bm (l:List Note),ag.held w own]) [(0,bm),(1,iV (i:Int)),(2,iV (j:Int))] Tryz.func85 rfl rfl rfl rfl H ?_
 refine R.reg rfl<|R.u 1 rfl<|R.nil ?_
 refine R.reg rfl<|R.u 4 rfl<|R.q (q.len' (fun _=>Wd.row 0 rfl) rfl Tryz.underlying30) rfl<|R.q (q.BD (i:=i) (j:=j) (q':=l.length) (fun _=>Wd.row 0 rfl) rfl rfl rfl rfl dW rfl rfl rfl (by omega) (by omega) (by omega)) rfl<|R.nil ?_
 refine R.reg rfl<|R.u 2 rfl<|?_
 by_cases h1:i=j
 ·
  refine R.q (q.eql rfl rfl (beq_iff_eq.2 (by omega))) rfl<|R.nil ?_
  refine R.aD rfl rfl ?_
  refine R.reg rfl<|R.u 2 rfl<|R.nil ?_
  have hz:l.take i++l.drop j=l:=by (first|rfl|exact i6 (by omega))
  rw [hz]
  exact R.w1 bm [0,1] [] rfl Tryz.results85 (RV.tmp rfl) rfl rfl rfl rfl
 ·
  refine R.q (q.eql rfl rfl (beq_eq_false_iff_ne.2 (by omega))) rfl<|R.nil ?_
  refine R.aI rfl rfl ?_
  refine R.reg rfl<|R.u 1 rfl<|R.q (q.len' (fun _=>Wd.row 0 rfl) rfl Tryz.underlying30) rfl<|R.u 1 rfl<|R.nil ?_
  refine R.gN (fuel:=8) (Wd w (blks [ag.row 72 bm (l:List Note)]++own) [ag.held w own] []) rfl mixed rfl ?_
  refine D.q (i:=0) rfl (by kernel_rfl) (fun _=>Wd.aM [1] [] rfl rfl rfl) rfl (q.mv rfl) rfl<|D.q (i:=1) rfl (by kernel_rfl) (fun _=>Wd.aM [1] [] rfl rfl rfl) rfl (q.mv rfl) rfl<|D.q (i:=3) rfl (by kernel_rfl) (fun _=>Wd.aM [1] [] rfl rfl rfl) rfl (q.mv rfl) rfl<|D.q (i:=4) rfl (by kernel_rfl) (fun _=>Wd.aM [1] [] rfl rfl rfl) rfl (q.mv rfl) rfl<|D.two (i:=2) (j:=5) (by kernel_rfl) rfl rfl ?_ ?_
  ·
   refine Do.s (s.c (Qt.a (q.hY (i:=i) (fun _=>Wd.row 0 rfl) rfl rfl Tryz.underlying30 tK rfl (by first|omega|(simp;omega)))) rfl) (fun _=>(fun _=>Wd.aM [1] [] rfl rfl rfl)) rfl fun _=>D.one (i:=5) (by kernel_rfl) rfl ?_
   refine Do.s (s.c (Qt.a (q.dI (i:=j) (fun _=>Wd.row 0 rfl) rfl rfl dW rfl (by first|omega|(simp;omega)))) rfl) (fun _=>(fun _=>Wd.aM [1] [] rfl rfl rfl)) rfl fun _=>D.one (i:=6) (by kernel_rfl) rfl ?_
   refine Do.s (s.qc (a:=i) (l2:=(l.drop j)) 0 _ rfl rfl rfl (fun w hw=>Sl.from (hw.row 0 rfl) (by omega)) gj (by omega) (by simp;omega) rfl rfl) (fun _=>(fun _=>Wd.aM [1] [] rfl rfl rfl)) rfl fun _=>D.q (i:=7) rfl (by kernel_rfl) (fun _=>Wd.aM [1] [] rfl rfl rfl) rfl (q.as rfl) rfl<|D.done (by kernel_rfl)<|R.reg rfl<|R.u 2 rfl<|R.q (q.len' (fun _=>Wd.row 0 rfl) rfl Tryz.underlying30) rfl<|R.u 1 rfl<|R.q (q.sl2 (i:=(l.take i++(l.drop j)).length) (j:=l.length) (fun _=>Wd.row 0 rfl) rfl rfl rfl dW rfl rfl (by first|omega|(simp;omega)) (by first|assumption|omega|(simp;omega)|(simp [eR];omega))) rfl<|R.s rfl (s.tH (lo:=(l.take i++(l.drop j)).length) (hi:=l.length) (z0:=(⟨0,⟨#[]⟩,0,0⟩:Note)) 0 rfl rfl dW dC rfl (by first|omega|(simp;omega)) (by first|omega|(simp;omega)) (by first|assumption|omega|(simp;omega)|(simp [eR];omega))) fun _=>R.nil ?_
   refine R.reg rfl<|R.u 2 rfl<|R.nil ?_
   have hz:l.take i++l.drop j=(l.take i++(l.drop j)):=by (first|rfl|exact i6 (by omega))
   rw [hz]
   exact R.w1 (hY bm (i+(l.drop j).length)) [0,1] [] rfl Tryz.results85 (RV.tmp rfl) rfl rfl rfl rfl
  ·
   refine Do.s (s.c (Qt.a (q.dI (i:=j) (fun _=>Wd.row 0 rfl) rfl rfl dW rfl (by first|omega|(simp;omega)))) rfl) (fun _=>(fun _=>Wd.aM [1] [] rfl rfl rfl)) rfl fun _=>D.one (i:=2) (by kernel_rfl) rfl ?_
   refine Do.s (s.c (Qt.a (q.hY (i:=i) (fun _=>Wd.row 0 rfl) rfl rfl Tryz.underlying30 tK rfl (by first|omega|(simp;omega)))) rfl) (fun _=>(fun _=>Wd.aM [1] [] rfl rfl rfl)) rfl fun _=>D.one (i:=6) (by kernel_rfl) rfl ?_
   refine Do.s (s.qc (a:=i) (l2:=(l.drop j)) 0 _ rfl rfl rfl (fun w hw=>Sl.from (hw.row 0 rfl) (by omega)) gj (by omega) (by simp;omega) rfl rfl) (fun _=>(fun _=>Wd.aM [1] [] rfl rfl rfl)) rfl fun _=>D.q (i:=7) rfl (by kernel_rfl) (fun _=>Wd.aM [1] [] rfl rfl rfl) rfl (q.as rfl) rfl<|D.done (by kernel_rfl)<|R.reg rfl<|R.u 2 rfl<|R.q (q.len' (fun _=>Wd.row 0 rfl) rfl Tryz.underlying30) rfl<|R.u 1 rfl<|R.q (q.sl2 (i:=(l.take i++(l.drop j)).length) (j:=l.length) (fun _=>Wd.row 0 rfl) rfl rfl rfl dW rfl rfl (by first|omega|(simp;omega)) (by first|assumption|omega|(simp;omega)|(simp [eR];omega))) rfl<|R.s rfl (s.tH (lo:=(l.take i++(l.drop j)).length) (hi:=l.length) (z0:=(⟨0,⟨#[]⟩,0,0⟩:Note)) 0 rfl rfl dW dC rfl (by first|omega|(simp;omega)) (by first|omega|(simp;omega)) (by first|assumption|omega|(simp;omega)|(simp [eR];omega))) fun _=>R.nil ?_
   refine R.reg rfl<|R.u 2 rfl<|R.nil ?_
   have hz:l.take i++l.drop j=(l.take i++(l.drop j)):=by (first|rfl|exact i6 (by omega))
   rw [hz]
   exact R.w1 (hY bm (i+(l.drop j).length)) [0,1] [] rfl Tryz.results85 (RV.tmp rfl) rfl rfl rfl rfl
theorem fc (bm:Value)(l:List ah)(pr:ah→Bool)(ez:Nat)(fE:List Value)(fF:∀args w,(callFunc ez args).run Tryz.prog w = .ok (.enter ez args) w)(w:World)(cp:Sl w bm l)(iu:∀W (x1:ah),Ext w W→Calls Tryz.prog ez ([x1.val]++fE).toArray W fun e w'=>e = .returned (.bool (pr x1))∧Ext W w'):Calls Tryz.prog 120 #[bm,.func (.func ez) #[] fE.toArray] w fun e w'=>e = .returned (iV (idxOf pr l))∧Ext w w':=by
 have ql:=cp.dH
 refine R.enter (n:=19) (vs:=[bm,.func (.func ez) #[] fE.toArray]) [] [(0,bm),(1,.func (.func ez) #[] fE.toArray)] Tryz.func120 rfl rfl rfl rfl ?_
 refine R.reg rfl<|R.u 1 rfl<|R.nil ?_
 refine R.reg rfl<|R.u 1 rfl<|R.q (q.len' (fun _=>Wd.old cp) rfl Tryz.underlying28) rfl<|R.u 1 rfl<|R.nil ?_
 refine R.loop (fun k:Nat=>[(0,bm),(1,.func (.func ez) #[] fE.toArray),(7,iV (l.length:Int)),(8,iV (k:Int))]) (fun k:Nat=>[]) (fun k:Nat=>[]) (fun k:Nat=>k≤l.length ∧ ∀ (j:Nat) x,j<k→l[j]? = some x→pr x=false) (fun k:Nat=>l.length-k) 0 rfl (by exact ⟨by omega,fun j x hj=>absurd hj (Nat.not_lt_zero _)⟩) ⟨rfl,rfl,rfl,rfl,trivial⟩ (fun _=>Wd.pick [] [] rfl rfl rfl) ?_
 rintro k ⟨hk,HA⟩
 refine R.reg rfl<|?_
 by_cases h1:k<l.length
 ·
  refine R.q (q.lss rfl rfl (decide_eq_true (by omega))) rfl<|R.nil ?_
  refine R.aD rfl rfl ?_
  refine R.reg rfl<|R.u 2 rfl<|R.nil ?_
  refine R.reg rfl<|R.u 3 rfl<|?_
  obtain ⟨x1,hx1⟩:∃z,l[k]? = some z:=⟨_,List.getElem?_eq_getElem (by omega)⟩
  refine R.q (q.idx (i:=k) (fun _=>Wd.old cp) rfl rfl fb rfl hx1) rfl<|R.q (q.dD (ds:=eF x1) (fun _=>Wd.old cp) hx1 rfl ft rfl) rfl<|?_
  rcases Bool.eq_false_or_eq_true (pr x1) with h2|h2
  ·
   refine R.c (q.call fF rfl rfl (fun w hw=>cv (congrArg Value.bool h2) (iu w x1 hw.ext))) rfl<|R.nil ?_
   refine R.aD rfl rfl ?_
   refine R.reg rfl<|R.u 2 rfl<|R.nil ?_
   exact R.rv rfl Tryz.results120 rfl (rI (by (first|exact (idxOf_hit hx1 ‹_› HA).symm|exact (idxOf_miss ‹_› HA).symm)))
  ·
   refine R.c (q.call fF rfl rfl (fun w hw=>cv (congrArg Value.bool h2) (iu w x1 hw.ext))) rfl<|R.nil ?_
   refine R.aI rfl rfl ?_
   refine R.reg rfl<|R.q (q.add (r:=((k+1:Nat):Int)) rfl rfl (wr (by omega))) rfl<|R.u 1 rfl<|R.nil ?_
   refine R.back (k+1) rfl (by (exact ⟨by omega,jc HA hx1 ‹_›⟩)) (by omega) ⟨rfl,rfl,rfl,rfl,trivial⟩ (fun _=>Wd.pick [] [] rfl rfl rfl)
 ·
  refine R.q (q.lss rfl rfl (decide_eq_false (by omega))) rfl<|R.nil ?_
  refine R.aI rfl rfl ?_
  refine R.reg rfl<|R.u 1 rfl<|R.nil ?_
  exact R.rv rfl Tryz.results120 rfl (rI (by (first|exact (idxOf_hit hx1 ‹_› HA).symm|exact (idxOf_miss ‹_› HA).symm)))
theorem iN (bm:Value)(l:List Note)(pr:Note→Bool)(ez:Nat)(fE:List Value)(fF:∀args w,(callFunc ez args).run Tryz.prog w = .ok (.enter ez args) w)(w:World)(cp:Sl w bm l)(iu:∀W (x1:Note),Ext w W→Calls Tryz.prog ez ([x1.val]++fE).toArray W fun e w'=>e = .returned (.bool (pr x1))∧Ext W w'):Calls Tryz.prog 82 #[bm,.func (.func ez) #[] fE.toArray] w fun e w'=>e = .returned (iV (idxOf pr l))∧Ext w w':=by
 have ql:=cp.dH
 refine R.enter (n:=19) (vs:=[bm,.func (.func ez) #[] fE.toArray]) [] [(0,bm),(1,.func (.func ez) #[] fE.toArray)] Tryz.func82 rfl rfl rfl rfl ?_
 refine R.reg rfl<|R.u 1 rfl<|R.nil ?_
 refine R.reg rfl<|R.u 1 rfl<|R.q (q.len' (fun _=>Wd.old cp) rfl Tryz.underlying30) rfl<|R.u 1 rfl<|R.nil ?_
 refine R.loop (fun k:Nat=>[(0,bm),(1,.func (.func ez) #[] fE.toArray),(7,iV (l.length:Int)),(8,iV (k:Int))]) (fun k:Nat=>[]) (fun k:Nat=>[]) (fun k:Nat=>k≤l.length ∧ ∀ (j:Nat) x,j<k→l[j]? = some x→pr x=false) (fun k:Nat=>l.length-k) 0 rfl (by exact ⟨by omega,fun j x hj=>absurd hj (Nat.not_lt_zero _)⟩) ⟨rfl,rfl,rfl,rfl,trivial⟩ (fun _=>Wd.pick [] [] rfl rfl rfl) ?_
 rintro k ⟨hk,HA⟩
 refine R.reg rfl<|?_
 by_cases h1:k<l.length
 ·
  refine R.q (q.lss rfl rfl (decide_eq_true (by omega))) rfl<|R.nil ?_
  refine R.aD rfl rfl ?_
  refine R.reg rfl<|R.u 2 rfl<|R.nil ?_
  refine R.reg rfl<|R.u 3 rfl<|?_
  obtain ⟨x1,hx1⟩:∃z,l[k]? = some z:=⟨_,List.getElem?_eq_getElem (by omega)⟩
  refine R.q (q.idx (i:=k) (fun _=>Wd.old cp) rfl rfl dW rfl hx1) rfl<|R.q (q.dD (ds:=cb x1) (fun _=>Wd.old cp) hx1 rfl cm rfl) rfl<|?_
  rcases Bool.eq_false_or_eq_true (pr x1) with h2|h2
  ·
   refine R.c (q.call fF rfl rfl (fun w hw=>cv (congrArg Value.bool h2) (iu w x1 hw.ext))) rfl<|R.nil ?_
   refine R.aD rfl rfl ?_
   refine R.reg rfl<|R.u 2 rfl<|R.nil ?_
   exact R.rv rfl Tryz.results82 rfl (rI (by (first|exact (idxOf_hit hx1 ‹_› HA).symm|exact (idxOf_miss ‹_› HA).symm)))
  ·
   refine R.c (q.call fF rfl rfl (fun w hw=>cv (congrArg Value.bool h2) (iu w x1 hw.ext))) rfl<|R.nil ?_
   refine R.aI rfl rfl ?_
   refine R.reg rfl<|R.q (q.add (r:=((k+1:Nat):Int)) rfl rfl (wr (by omega))) rfl<|R.u 1 rfl<|R.nil ?_
   refine R.back (k+1) rfl (by (exact ⟨by omega,jc HA hx1 ‹_›⟩)) (by omega) ⟨rfl,rfl,rfl,rfl,trivial⟩ (fun _=>Wd.pick [] [] rfl rfl rfl)
 ·
  refine R.q (q.lss rfl rfl (decide_eq_false (by omega))) rfl<|R.nil ?_
  refine R.aI rfl rfl ?_
  refine R.reg rfl<|R.u 1 rfl<|R.nil ?_
  exact R.rv rfl Tryz.results82 rfl (rI (by (first|exact (idxOf_hit hx1 ‹_› HA).symm|exact (idxOf_miss ‹_› HA).symm)))
theorem iO (bm:Value)(l:List Held)(pr:Held→Bool)(ez:Nat)(fE:List Value)(fF:∀args w,(callFunc ez args).run Tryz.prog w = .ok (.enter ez args) w)(w:World)(cp:Sl w bm l)(iu:∀W (x1:Held),Ext w W→Calls Tryz.prog ez ([x1.val]++fE).toArray W fun e w'=>e = .returned (.bool (pr x1))∧Ext W w'):Calls Tryz.prog 143 #[bm,.func (.func ez) #[] fE.toArray] w fun e w'=>e = .returned (iV (idxOf pr l))∧Ext w w':=by
 have ql:=cp.dH
 refine R.enter (n:=19) (vs:=[bm,.func (.func ez) #[] fE.toArray]) [] [(0,bm),(1,.func (.func ez) #[] fE.toArray)] Tryz.func143 rfl rfl rfl rfl ?_
 refine R.reg rfl<|R.u 1 rfl<|R.nil ?_
 refine R.reg rfl<|R.u 1 rfl<|R.q (q.len' (fun _=>Wd.old cp) rfl Tryz.underlying29) rfl<|R.u 1 rfl<|R.nil ?_
 refine R.loop (fun k:Nat=>[(0,bm),(1,.func (.func ez) #[] fE.toArray),(7,iV (l.length:Int)),(8,iV (k:Int))]) (fun k:Nat=>[]) (fun k:Nat=>[]) (fun k:Nat=>k≤l.length ∧ ∀ (j:Nat) x,j<k→l[j]? = some x→pr x=false) (fun k:Nat=>l.length-k) 0 rfl (by exact ⟨by omega,fun j x hj=>absurd hj (Nat.not_lt_zero _)⟩) ⟨rfl,rfl,rfl,rfl,trivial⟩ (fun _=>Wd.pick [] [] rfl rfl rfl) ?_
 rintro k ⟨hk,HA⟩
 refine R.reg rfl<|?_
 by_cases h1:k<l.length
 ·
  refine R.q (q.lss rfl rfl (decide_eq_true (by omega))) rfl<|R.nil ?_
  refine R.aD rfl rfl ?_
  refine R.reg rfl<|R.u 2 rfl<|R.nil ?_
  refine R.reg rfl<|R.u 3 rfl<|?_
  obtain ⟨x1,hx1⟩:∃z,l[k]? = some z:=⟨_,List.getElem?_eq_getElem (by omega)⟩
  refine R.q (q.idx (i:=k) (fun _=>Wd.old cp) rfl rfl bD rfl hx1) rfl<|R.q (q.dD (ds:=eL x1) (fun _=>Wd.old cp) hx1 rfl eB rfl) rfl<|?_
  rcases Bool.eq_false_or_eq_true (pr x1) with h2|h2
  ·
   refine R.c (q.call fF rfl rfl (fun w hw=>cv (congrArg Value.bool h2) (iu w x1 hw.ext))) rfl<|R.nil ?_
   refine R.aD rfl rfl ?_
   refine R.reg rfl<|R.u 2 rfl<|R.nil ?_
   exact R.rv rfl Tryz.results143 rfl (rI (by (first|exact (idxOf_hit hx1 ‹_› HA).symm|exact (idxOf_miss ‹_› HA).symm)))
  ·
   refine R.c (q.call fF rfl rfl (fun w hw=>cv (congrArg Value.bool h2) (iu w x1 hw.ext))) rfl<|R.nil ?_
   refine R.aI rfl rfl ?_
   refine R.reg rfl<|R.q (q.add (r:=((k+1:Nat):Int)) rfl rfl (wr (by omega))) rfl<|R.u 1 rfl<|R.nil ?_
   refine R.back (k+1) rfl (by (exact ⟨by omega,jc HA hx1 ‹_›⟩)) (by omega) ⟨rfl,rfl,rfl,rfl,trivial⟩ (fun _=>Wd.pick [] [] rfl rfl rfl)
 ·
  refine R.q (q.lss rfl rfl (decide_eq_false (by omega))) rfl<|R.nil ?_
  refine R.aI rfl rfl ?_
  refine R.reg rfl<|R.u 1 rfl<|R.nil ?_
  exact R.rv rfl Tryz.results143 rfl (rI (by (first|exact (idxOf_hit hx1 ‹_› HA).symm|exact (idxOf_miss ‹_› HA).symm)))
theorem mI (bm:Value)(l:List ah)(pr:ah→Bool)(ez:Nat)(fE:List Value)(fF:∀args w,(callFunc ez args).run Tryz.prog w = .ok (.enter ez args) w)(w:World)(own:List Nat)(H:Wd w (blks [ag.row 62 bm (l:List ah)]++own) ([ag.row 62 bm (l:List ah)]++[ag.held w own]) [] w)(iu:∀W (x1:ah),jt (blks [ag.row 62 bm (l:List ah)]) w W→Calls Tryz.prog ez ([x1.val]++fE).toArray W fun e w'=>e = .returned (.bool (pr x1))∧Ext W w')(hl:l.length≤1000000):Calls Tryz.prog 107 #[bm,.func (.func ez) #[] fE.toArray] w fun e w' => ∃z:Value,e = .returned (z)∧Wd w (blks [ag.row 62 bm (l:List ah)]++own) ([ag.row 62 z ((l.filter (fun x => !pr x)):List ah)]++[ag.held w own]) [] w':=by
 have wm:=H.cap 0 rfl;have uP:=H.om 0 rfl
 refine R.dc (n:=42) (vs:=[bm,.func (.func ez) #[] fE.toArray]) (B:=[ag.row 62 bm (l:List ah),ag.held w own]) [(0,bm),(1,.func (.func ez) #[] fE.toArray)] Tryz.func107 rfl rfl rfl rfl H ?_
 refine R.reg rfl<|R.u 1 rfl<|R.nil ?_
 refine R.reg rfl<|R.u 2 rfl<|?_
 rcases f8 pr l with ⟨dF,lp⟩ | ⟨ij,iA,dF,eC,fU,gJ,C8⟩
 ·
  refine R.c (q.call qj rfl rfl (fun w hw=>(cv (congrArg (Value.int .i64) dF) (fc _ (l) pr _ _ fF w (hw.row 0 rfl) (fun W x1 hW=>iu W x1 ((hw.nr 1 rfl).trans ((Ext.upd hW).mono (by simp)))) )))) rfl<|R.u 1 rfl<|R.nil ?_
  refine R.reg rfl<|R.u 1 rfl<|R.q (q.eql (b:=true) rfl rfl (by decide)) rfl<|R.nil ?_
  refine R.aD rfl rfl ?_
  refine R.reg rfl<|R.u 2 rfl<|R.nil ?_
  have hz:l.filter (fun x => !pr x)=l:=by (first|exact je lp|exact HA.done (by omega))
  rw [hz]
  exact R.w1 bm [0,1] [] rfl Tryz.results107 (RV.tmp rfl) rfl rfl rfl rfl
 ·
  refine R.c (q.call qj rfl rfl (fun w hw=>(cv (congrArg (Value.int .i64) dF) (fc _ (l) pr _ _ fF w (hw.row 0 rfl) (fun W x1 hW=>iu W x1 ((hw.nr 1 rfl).trans ((Ext.upd hW).mono (by simp)))) )))) rfl<|R.u 1 rfl<|R.nil ?_
  refine R.reg rfl<|R.u 1 rfl<|R.q (q.eql rfl rfl (beq_eq_false_iff_ne.2 (by omega))) rfl<|R.nil ?_
  refine R.aI rfl rfl ?_
  refine R.reg rfl<|R.u 1 rfl<|R.q (q.add (r:=((ij+1:Nat):Int)) rfl rfl (wr (by omega))) rfl<|R.u 1 rfl<|R.nil ?_
  refine R.loop (fun g_:Nat×Nat×(List ah)=>[(0,bm),(1,.func (.func ez) #[] fE.toArray),(5,iV (g_.1:Int)),(6,iV (g_.2.1:Int))]) (fun g_:Nat×Nat×(List ah)=>[ag.row 62 bm (g_.2.2:List ah),ag.held w own]) (fun g_:Nat×Nat×(List ah)=>[]) (fun g_:Nat×Nat×(List ah)=>jW pr l g_.2.2 g_.1 g_.2.1) (fun g_:Nat×Nat×(List ah)=>l.length-g_.2.1) (ij,(ij+1),l) rfl (by exact jW.start eC fU gJ) ⟨rfl,rfl,rfl,rfl,trivial⟩ (fun _=>Wd.pick [0,1] [] rfl rfl rfl) ?_
  rintro ⟨a,b,acc⟩ HA
  dsimp only at *
  have t1:=HA.1;have t2:=HA.2.1;have t3:=HA.2.2.1
  refine R.reg rfl<|R.u 2 rfl<|R.q (q.len' (fun _=>Wd.row 0 rfl) rfl Tryz.underlying28) rfl<|?_
  by_cases h1:b<acc.length
  ·
   refine R.q (q.lss rfl rfl (decide_eq_true (by omega))) rfl<|R.nil ?_
   refine R.aD rfl rfl ?_
   refine R.reg rfl<|R.u 2 rfl<|?_
   obtain ⟨x1,hx1⟩:∃z,acc[b]? = some z:=⟨_,List.getElem?_eq_getElem (by omega)⟩
   refine R.q (q.idx (i:=b) (fun _=>Wd.row 0 rfl) rfl rfl fb rfl hx1) rfl<|R.q (q.dD (ds:=eF x1) (fun _=>Wd.row 0 rfl) hx1 rfl ft rfl) rfl<|R.s rfl (s.alloc (cs:=[iV 0,iV 0,.string (⟨#[]⟩)]) gi rfl rfl) fun b1=>R.s rfl (s.st (us:=eF x1) (cs':=eF x1) 0 _ rfl rfl rfl rfl (.inl ft) rfl rfl rfl rfl) fun _=>R.nil ?_
   refine R.reg rfl<|R.u 1 rfl<|R.q (q.cT 0 rfl rfl ft) rfl<|?_
   rcases Bool.eq_false_or_eq_true (pr x1) with h2|h2
   ·
    refine R.c (q.call fF rfl rfl (fun w hw=>cv (congrArg Value.bool h2) (iu w x1 (hw.nr 2 rfl)))) rfl<|R.u 1 rfl<|R.nil ?_
    refine R.aI rfl rfl ?_
    refine R.reg rfl<|R.u 1 rfl<|R.q (q.add (r:=((b+1:Nat):Int)) rfl rfl (wr (by omega))) rfl<|R.u 1 rfl<|R.nil ?_
    refine R.back (a,(b+1),acc) rfl (by (first|exact HA.keep hx1 ‹_› | exact HA.skip hx1 ‹_›)) (by dsimp only;omega) ⟨rfl,rfl,rfl,rfl,trivial⟩ (fun _=>Wd.aM [1,2] [] rfl rfl rfl)
   ·
    refine R.c (q.call fF rfl rfl (fun w hw=>cv (congrArg Value.bool h2) (iu w x1 (hw.nr 2 rfl)))) rfl<|R.u 1 rfl<|R.nil ?_
    refine R.aD rfl rfl ?_
    refine R.reg rfl<|R.u 2 rfl<|R.q (q.cT 0 rfl rfl ft) rfl<|?_
    obtain ⟨x2,hx2⟩:∃z,acc[a]? = some z:=⟨_,List.getElem?_eq_getElem (by omega)⟩
    refine R.q (q.idx (i:=a) (fun _=>Wd.row 1 rfl) rfl rfl fb rfl hx2) rfl<|R.s rfl (s.Dd (z:=x1) 1 _ rfl hx2 rfl rfl rfl rfl (.inl ft) rfl) fun _=>R.nil ?_
    refine R.reg rfl<|R.u 1 rfl<|R.q (q.add (r:=((a+1:Nat):Int)) rfl rfl (wr (by omega))) rfl<|R.u 1 rfl<|R.nil ?_
    refine R.reg rfl<|R.u 1 rfl<|R.q (q.add (r:=((b+1:Nat):Int)) rfl rfl (wr (by omega))) rfl<|R.u 1 rfl<|R.nil ?_
    refine R.back ((a+1),(b+1),(acc.set a x1)) rfl (by (first|exact HA.keep hx1 ‹_› | exact HA.skip hx1 ‹_›)) (by dsimp only;omega) ⟨rfl,rfl,rfl,rfl,trivial⟩ (fun _=>Wd.aM [1,2] [] rfl rfl rfl)
  ·
   refine R.q (q.lss rfl rfl (decide_eq_false (by omega))) rfl<|R.nil ?_
   refine R.aI rfl rfl ?_
   refine R.reg rfl<|R.u 2 rfl<|R.q (q.dI (i:=a) (fun _=>Wd.row 0 rfl) rfl rfl fb rfl (by first|omega|(simp;omega))) rfl<|R.s rfl (s.zF (lo:=a) (z0:=(⟨0,0,⟨#[]⟩⟩:ah)) 0 _ rfl rfl fb gi rfl (by first|omega|(simp;omega)) rfl) fun _=>R.nil ?_
   refine R.reg rfl<|R.u 2 rfl<|R.q (q.hY (i:=a) (fun _=>Wd.row 0 rfl) rfl rfl Tryz.underlying28 xZ rfl (by first|omega|(simp;omega))) rfl<|R.u 1 rfl<|R.nil ?_
   refine R.vL 0 a _ rfl (by first|omega|(simp;omega)) rfl ?_
   have hz:l.filter (fun x => !pr x)=((acc.take a++List.replicate (acc.length-a) (⟨0,0,⟨#[]⟩⟩:ah)).take a):=by (first|exact je lp|exact HA.done (by omega))
   rw [hz]
   exact R.w1 (hY bm a) [0,1] [] rfl Tryz.results107 (RV.tmp rfl) rfl rfl rfl rfl
theorem nz (bm:Value)(l:List Held)(pr:Held→Bool)(ez:Nat)(fE:List Value)(fF:∀args w,(callFunc ez args).run Tryz.prog w = .ok (.enter ez args) w)(w:World)(own:List Nat)(H:Wd w (blks [ag.row 85 bm (l:List Held)]++own) ([ag.row 85 bm (l:List Held)]++[ag.held w own]) [] w)(iu:∀W (x1:Held),jt (blks [ag.row 85 bm (l:List Held)]) w W→Calls Tryz.prog ez ([x1.val]++fE).toArray W fun e w'=>e = .returned (.bool (pr x1))∧Ext W w')(hl:l.length≤1000000):Calls Tryz.prog 109 #[bm,.func (.func ez) #[] fE.toArray] w fun e w' => ∃z:Value,e = .returned (z)∧Wd w (blks [ag.row 85 bm (l:List Held)]++own) ([ag.row 85 z ((l.filter (fun x => !pr x)):List Held)]++[ag.held w own]) [] w':=by
 have wm:=H.cap 0 rfl;have uP:=H.om 0 rfl
 refine R.dc (n:=42) (vs:=[bm,.func (.func ez) #[] fE.toArray]) (B:=[ag.row 85 bm (l:List Held),ag.held w own]) [(0,bm),(1,.func (.func ez) #[] fE.toArray)] Tryz.func109 rfl rfl rfl rfl H ?_
 refine R.reg rfl<|R.u 1 rfl<|R.nil ?_
 refine R.reg rfl<|R.u 2 rfl<|?_
 rcases f8 pr l with ⟨dF,lp⟩ | ⟨ij,iA,dF,eC,fU,gJ,C8⟩
 ·
  refine R.c (q.call v8 rfl rfl (fun w hw=>(cv (congrArg (Value.int .i64) dF) (iO _ (l) pr _ _ fF w (hw.row 0 rfl) (fun W x1 hW=>iu W x1 ((hw.nr 1 rfl).trans ((Ext.upd hW).mono (by simp)))) )))) rfl<|R.u 1 rfl<|R.nil ?_
  refine R.reg rfl<|R.u 1 rfl<|R.q (q.eql (b:=true) rfl rfl (by decide)) rfl<|R.nil ?_
  refine R.aD rfl rfl ?_
  refine R.reg rfl<|R.u 2 rfl<|R.nil ?_
  have hz:l.filter (fun x => !pr x)=l:=by (first|exact je lp|exact HA.done (by omega))
  rw [hz]
  exact R.w1 bm [0,1] [] rfl Tryz.results109 (RV.tmp rfl) rfl rfl rfl rfl
 ·
  refine R.c (q.call v8 rfl rfl (fun w hw=>(cv (congrArg (Value.int .i64) dF) (iO _ (l) pr _ _ fF w (hw.row 0 rfl) (fun W x1 hW=>iu W x1 ((hw.nr 1 rfl).trans ((Ext.upd hW).mono (by simp)))) )))) rfl<|R.u 1 rfl<|R.nil ?_
  refine R.reg rfl<|R.u 1 rfl<|R.q (q.eql rfl rfl (beq_eq_false_iff_ne.2 (by omega))) rfl<|R.nil ?_
  refine R.aI rfl rfl ?_
  refine R.reg rfl<|R.u 1 rfl<|R.q (q.add (r:=((ij+1:Nat):Int)) rfl rfl (wr (by omega))) rfl<|R.u 1 rfl<|R.nil ?_
  refine R.loop (fun g_:Nat×Nat×(List Held)=>[(0,bm),(1,.func (.func ez) #[] fE.toArray),(5,iV (g_.1:Int)),(6,iV (g_.2.1:Int))]) (fun g_:Nat×Nat×(List Held)=>[ag.row 85 bm (g_.2.2:List Held),ag.held w own]) (fun g_:Nat×Nat×(List Held)=>[]) (fun g_:Nat×Nat×(List Held)=>jW pr l g_.2.2 g_.1 g_.2.1) (fun g_:Nat×Nat×(List Held)=>l.length-g_.2.1) (ij,(ij+1),l) rfl (by exact jW.start eC fU gJ) ⟨rfl,rfl,rfl,rfl,trivial⟩ (fun _=>Wd.pick [0,1] [] rfl rfl rfl) ?_
  rintro ⟨a,b,acc⟩ HA
  dsimp only at *
  have t1:=HA.1;have t2:=HA.2.1;have t3:=HA.2.2.1
  refine R.reg rfl<|R.u 2 rfl<|R.q (q.len' (fun _=>Wd.row 0 rfl) rfl Tryz.underlying29) rfl<|?_
  by_cases h1:b<acc.length
  ·
   refine R.q (q.lss rfl rfl (decide_eq_true (by omega))) rfl<|R.nil ?_
   refine R.aD rfl rfl ?_
   refine R.reg rfl<|R.u 2 rfl<|?_
   obtain ⟨x1,hx1⟩:∃z,acc[b]? = some z:=⟨_,List.getElem?_eq_getElem (by omega)⟩
   refine R.q (q.idx (i:=b) (fun _=>Wd.row 0 rfl) rfl rfl bD rfl hx1) rfl<|R.q (q.dD (ds:=eL x1) (fun _=>Wd.row 0 rfl) hx1 rfl eB rfl) rfl<|R.s rfl (s.alloc (cs:=zD) fA rfl rfl) fun b1=>R.s rfl (s.st (us:=eL x1) (cs':=eL x1) 0 _ rfl rfl rfl rfl (.inl eB) rfl rfl rfl rfl) fun _=>R.nil ?_
   refine R.reg rfl<|R.u 1 rfl<|R.q (q.cT 0 rfl rfl eB) rfl<|?_
   rcases Bool.eq_false_or_eq_true (pr x1) with h2|h2
   ·
    refine R.c (q.call fF rfl rfl (fun w hw=>cv (congrArg Value.bool h2) (iu w x1 (hw.nr 2 rfl)))) rfl<|R.u 1 rfl<|R.nil ?_
    refine R.aI rfl rfl ?_
    refine R.reg rfl<|R.u 1 rfl<|R.q (q.add (r:=((b+1:Nat):Int)) rfl rfl (wr (by omega))) rfl<|R.u 1 rfl<|R.nil ?_
    refine R.back (a,(b+1),acc) rfl (by (first|exact HA.keep hx1 ‹_› | exact HA.skip hx1 ‹_›)) (by dsimp only;omega) ⟨rfl,rfl,rfl,rfl,trivial⟩ (fun _=>Wd.aM [1,2] [] rfl rfl rfl)
   ·
    refine R.c (q.call fF rfl rfl (fun w hw=>cv (congrArg Value.bool h2) (iu w x1 (hw.nr 2 rfl)))) rfl<|R.u 1 rfl<|R.nil ?_
    refine R.aD rfl rfl ?_
    refine R.reg rfl<|R.u 2 rfl<|R.q (q.cT 0 rfl rfl eB) rfl<|?_
    obtain ⟨x2,hx2⟩:∃z,acc[a]? = some z:=⟨_,List.getElem?_eq_getElem (by omega)⟩
    refine R.q (q.idx (i:=a) (fun _=>Wd.row 1 rfl) rfl rfl bD rfl hx2) rfl<|R.s rfl (s.Dd (z:=x1) 1 _ rfl hx2 rfl rfl rfl rfl (.inl eB) rfl) fun _=>R.nil ?_
    refine R.reg rfl<|R.u 1 rfl<|R.q (q.add (r:=((a+1:Nat):Int)) rfl rfl (wr (by omega))) rfl<|R.u 1 rfl<|R.nil ?_
    refine R.reg rfl<|R.u 1 rfl<|R.q (q.add (r:=((b+1:Nat):Int)) rfl rfl (wr (by omega))) rfl<|R.u 1 rfl<|R.nil ?_
    refine R.back ((a+1),(b+1),(acc.set a x1)) rfl (by (first|exact HA.keep hx1 ‹_› | exact HA.skip hx1 ‹_›)) (by dsimp only;omega) ⟨rfl,rfl,rfl,rfl,trivial⟩ (fun _=>Wd.aM [1,2] [] rfl rfl rfl)
  ·
   refine R.q (q.lss rfl rfl (decide_eq_false (by omega))) rfl<|R.nil ?_
   refine R.aI rfl rfl ?_
   refine R.reg rfl<|R.u 2 rfl<|R.q (q.dI (i:=a) (fun _=>Wd.row 0 rfl) rfl rfl bD rfl (by first|omega|(simp;omega))) rfl<|R.s rfl (s.zF (lo:=a) (z0:=(⟨(⟨0,0⟩:Place),0⟩:Held)) 0 _ rfl rfl bD fA rfl (by first|omega|(simp;omega)) rfl) fun _=>R.nil ?_
   refine R.reg rfl<|R.u 2 rfl<|R.q (q.hY (i:=a) (fun _=>Wd.row 0 rfl) rfl rfl Tryz.underlying29 nD rfl (by first|omega|(simp;omega))) rfl<|R.u 1 rfl<|R.nil ?_
   refine R.vL 0 a _ rfl (by first|omega|(simp;omega)) rfl ?_
   have hz:l.filter (fun x => !pr x)=((acc.take a++List.replicate (acc.length-a) (⟨(⟨0,0⟩:Place),0⟩:Held)).take a):=by (first|exact je lp|exact HA.done (by omega))
   rw [hz]
   exact R.w1 (hY bm a) [0,1] [] rfl Tryz.results109 (RV.tmp rfl) rfl rfl rfl rfl
theorem nA (bm:Value)(l:List aj)(pr:aj→Bool)(ez:Nat)(fE:List Value)(fF:∀args w,(callFunc ez args).run Tryz.prog w = .ok (.enter ez args) w)(w:World)(own:List Nat)(H:Wd w (blks [ag.row 88 bm (l:List aj)]++own) ([ag.row 88 bm (l:List aj)]++[ag.held w own]) [] w)(iu:∀W (x1:aj),jt (blks [ag.row 88 bm (l:List aj)]) w W→Calls Tryz.prog ez ([x1.val]++fE).toArray W fun e w'=>e = .returned (.bool (pr x1))∧Ext W w')(hl:l.length≤1000000):Calls Tryz.prog 76 #[bm,.func (.func ez) #[] fE.toArray] w fun e w' => ∃z:Value,e = .returned (z)∧Wd w (blks [ag.row 88 bm (l:List aj)]++own) ([ag.row 88 z ((l.filter (fun x => !pr x)):List aj)]++[ag.held w own]) [] w':=by
 have wm:=H.cap 0 rfl;have uP:=H.om 0 rfl
 refine R.dc (n:=42) (vs:=[bm,.func (.func ez) #[] fE.toArray]) (B:=[ag.row 88 bm (l:List aj),ag.held w own]) [(0,bm),(1,.func (.func ez) #[] fE.toArray)] Tryz.func76 rfl rfl rfl rfl H ?_
 refine R.reg rfl<|R.u 1 rfl<|R.nil ?_
 refine R.reg rfl<|R.u 2 rfl<|?_
 rcases f8 pr l with ⟨dF,lp⟩ | ⟨ij,iA,dF,eC,fU,gJ,C8⟩
 ·
  refine R.c (q.call su rfl rfl (fun w hw=>(cv (congrArg (Value.int .i64) dF) (ig _ (l) pr _ _ fF w (hw.row 0 rfl) (fun W x1 hW=>iu W x1 ((hw.nr 1 rfl).trans ((Ext.upd hW).mono (by simp)))) )))) rfl<|R.u 1 rfl<|R.nil ?_
  refine R.reg rfl<|R.u 1 rfl<|R.q (q.eql (b:=true) rfl rfl (by decide)) rfl<|R.nil ?_
  refine R.aD rfl rfl ?_
  refine R.reg rfl<|R.u 2 rfl<|R.nil ?_
  have hz:l.filter (fun x => !pr x)=l:=by (first|exact je lp|exact HA.done (by omega))
  rw [hz]
  exact R.w1 bm [0,1] [] rfl Tryz.results76 (RV.tmp rfl) rfl rfl rfl rfl
 ·
  refine R.c (q.call su rfl rfl (fun w hw=>(cv (congrArg (Value.int .i64) dF) (ig _ (l) pr _ _ fF w (hw.row 0 rfl) (fun W x1 hW=>iu W x1 ((hw.nr 1 rfl).trans ((Ext.upd hW).mono (by simp)))) )))) rfl<|R.u 1 rfl<|R.nil ?_
  refine R.reg rfl<|R.u 1 rfl<|R.q (q.eql rfl rfl (beq_eq_false_iff_ne.2 (by omega))) rfl<|R.nil ?_
  refine R.aI rfl rfl ?_
  refine R.reg rfl<|R.u 1 rfl<|R.q (q.add (r:=((ij+1:Nat):Int)) rfl rfl (wr (by omega))) rfl<|R.u 1 rfl<|R.nil ?_
  refine R.loop (fun g_:Nat×Nat×(List aj)=>[(0,bm),(1,.func (.func ez) #[] fE.toArray),(5,iV (g_.1:Int)),(6,iV (g_.2.1:Int))]) (fun g_:Nat×Nat×(List aj)=>[ag.row 88 bm (g_.2.2:List aj),ag.held w own]) (fun g_:Nat×Nat×(List aj)=>[]) (fun g_:Nat×Nat×(List aj)=>jW pr l g_.2.2 g_.1 g_.2.1) (fun g_:Nat×Nat×(List aj)=>l.length-g_.2.1) (ij,(ij+1),l) rfl (by exact jW.start eC fU gJ) ⟨rfl,rfl,rfl,rfl,trivial⟩ (fun _=>Wd.pick [0,1] [] rfl rfl rfl) ?_
  rintro ⟨a,b,acc⟩ HA
  dsimp only at *
  have t1:=HA.1;have t2:=HA.2.1;have t3:=HA.2.2.1
  refine R.reg rfl<|R.u 2 rfl<|R.q (q.len' (fun _=>Wd.row 0 rfl) rfl Tryz.underlying27) rfl<|?_
  by_cases h1:b<acc.length
  ·
   refine R.q (q.lss rfl rfl (decide_eq_true (by omega))) rfl<|R.nil ?_
   refine R.aD rfl rfl ?_
   refine R.reg rfl<|R.u 2 rfl<|?_
   obtain ⟨x1,hx1⟩:∃z,acc[b]? = some z:=⟨_,List.getElem?_eq_getElem (by omega)⟩
   refine R.q (q.idx (i:=b) (fun _=>Wd.row 0 rfl) rfl rfl cK rfl hx1) rfl<|R.q (q.dD (ds:=aA x1) (fun _=>Wd.row 0 rfl) hx1 rfl aQ rfl) rfl<|R.s rfl (s.alloc (cs:=dw) bE rfl rfl) fun b1=>R.s rfl (s.st (us:=aA x1) (cs':=aA x1) 0 _ rfl rfl rfl rfl (.inl aQ) rfl rfl rfl rfl) fun _=>R.nil ?_
   refine R.reg rfl<|R.u 1 rfl<|R.q (q.cT 0 rfl rfl aQ) rfl<|?_
   rcases Bool.eq_false_or_eq_true (pr x1) with h2|h2
   ·
    refine R.c (q.call fF rfl rfl (fun w hw=>cv (congrArg Value.bool h2) (iu w x1 (hw.nr 2 rfl)))) rfl<|R.u 1 rfl<|R.nil ?_
    refine R.aI rfl rfl ?_
    refine R.reg rfl<|R.u 1 rfl<|R.q (q.add (r:=((b+1:Nat):Int)) rfl rfl (wr (by omega))) rfl<|R.u 1 rfl<|R.nil ?_
    refine R.back (a,(b+1),acc) rfl (by (first|exact HA.keep hx1 ‹_› | exact HA.skip hx1 ‹_›)) (by dsimp only;omega) ⟨rfl,rfl,rfl,rfl,trivial⟩ (fun _=>Wd.aM [1,2] [] rfl rfl rfl)
   ·
    refine R.c (q.call fF rfl rfl (fun w hw=>cv (congrArg Value.bool h2) (iu w x1 (hw.nr 2 rfl)))) rfl<|R.u 1 rfl<|R.nil ?_
    refine R.aD rfl rfl ?_
    refine R.reg rfl<|R.u 2 rfl<|R.q (q.cT 0 rfl rfl aQ) rfl<|?_
    obtain ⟨x2,hx2⟩:∃z,acc[a]? = some z:=⟨_,List.getElem?_eq_getElem (by omega)⟩
    refine R.q (q.idx (i:=a) (fun _=>Wd.row 1 rfl) rfl rfl cK rfl hx2) rfl<|R.s rfl (s.Dd (z:=x1) 1 _ rfl hx2 rfl rfl rfl rfl (.inl aQ) rfl) fun _=>R.nil ?_
    refine R.reg rfl<|R.u 1 rfl<|R.q (q.add (r:=((a+1:Nat):Int)) rfl rfl (wr (by omega))) rfl<|R.u 1 rfl<|R.nil ?_
    refine R.reg rfl<|R.u 1 rfl<|R.q (q.add (r:=((b+1:Nat):Int)) rfl rfl (wr (by omega))) rfl<|R.u 1 rfl<|R.nil ?_
    refine R.back ((a+1),(b+1),(acc.set a x1)) rfl (by (first|exact HA.keep hx1 ‹_› | exact HA.skip hx1 ‹_›)) (by dsimp only;omega) ⟨rfl,rfl,rfl,rfl,trivial⟩ (fun _=>Wd.aM [1,2] [] rfl rfl rfl)
  ·
   refine R.q (q.lss rfl rfl (decide_eq_false (by omega))) rfl<|R.nil ?_
   refine R.aI rfl rfl ?_
   refine R.reg rfl<|R.u 2 rfl<|R.q (q.dI (i:=a) (fun _=>Wd.row 0 rfl) rfl rfl cK rfl (by first|omega|(simp;omega))) rfl<|R.s rfl (s.zF (lo:=a) (z0:=(⟨0,0,0,0,0⟩:aj)) 0 _ rfl rfl cK bE rfl (by first|omega|(simp;omega)) rfl) fun _=>R.nil ?_
   refine R.reg rfl<|R.u 2 rfl<|R.q (q.hY (i:=a) (fun _=>Wd.row 0 rfl) rfl rfl Tryz.underlying27 qf rfl (by first|omega|(simp;omega))) rfl<|R.u 1 rfl<|R.nil ?_
   refine R.vL 0 a _ rfl (by first|omega|(simp;omega)) rfl ?_
   have hz:l.filter (fun x => !pr x)=((acc.take a++List.replicate (acc.length-a) (⟨0,0,0,0,0⟩:aj)).take a):=by (first|exact je lp|exact HA.done (by omega))
   rw [hz]
   exact R.w1 (hY bm a) [0,1] [] rfl Tryz.results76 (RV.tmp rfl) rfl rfl rfl rfl
theorem km (bm:Value)(l:List aj)(w:World)(cp:Sl w bm l)(hl:l.length≤1000000):Calls Tryz.prog 29 #[bm] w fun e w' => ∃u,e = .returned u∧Own w.heap.size 3 w' u (aY l)∧Ext w w':=sG bm l w cp hl
theorem sJ (bm:Value)(l:List Int)(x:Int)(w:World)(cp:Sl w bm l):Calls Tryz.prog 119 #[bm,iV x] w fun e w'=>e = .returned (iV (idxOf (fun y=>y==x) l))∧Ext w w':=by
 have ql:=cp.dH
 refine R.enter (n:=19) (vs:=[bm,iV x]) [] [(0,bm),(1,iV x)] Tryz.func119 rfl rfl rfl rfl ?_
 refine R.reg rfl<|R.u 1 rfl<|R.nil ?_
 refine R.reg rfl<|R.u 1 rfl<|R.q (q.len' (fun _=>Wd.old cp) rfl Tryz.underlying60) rfl<|R.u 1 rfl<|R.nil ?_
 refine R.loop (fun k:Nat=>[(0,bm),(1,iV x),(7,iV (l.length:Int)),(8,iV (k:Int))]) (fun k:Nat=>[]) (fun k:Nat=>[]) (fun k:Nat=>k≤l.length ∧ ∀ (j:Nat) y,j<k→l[j]? = some y→(y==x)=false) (fun k:Nat=>l.length-k) 0 rfl (by exact ⟨by omega,fun j x hj=>absurd hj (Nat.not_lt_zero _)⟩) ⟨rfl,rfl,rfl,rfl,trivial⟩ (fun _=>Wd.pick [] [] rfl rfl rfl) ?_
 rintro k ⟨hk,HA⟩
 refine R.reg rfl<|?_
 by_cases h1:k<l.length
 ·
  refine R.q (q.lss rfl rfl (decide_eq_true (by omega))) rfl<|R.nil ?_
  refine R.aD rfl rfl ?_
  refine R.reg rfl<|R.u 2 rfl<|R.nil ?_
  refine R.reg rfl<|R.u 3 rfl<|?_
  obtain ⟨x1,hx1⟩:∃z,l[k]? = some z:=⟨_,List.getElem?_eq_getElem (by omega)⟩
  refine R.q (q.idx (i:=k) (fun _=>Wd.old cp) rfl rfl ct rfl hx1) rfl<|R.q (q.fk (fun _=>Wd.old cp) hx1 rfl av rfl) rfl<|?_
  by_cases h2:x=x1
  ·
   refine R.q (q.eql rfl rfl (beq_iff_eq.2 (by omega))) rfl<|R.nil ?_
   refine R.aD rfl rfl ?_
   refine R.reg rfl<|R.u 2 rfl<|R.nil ?_
   exact R.rv rfl Tryz.results119 rfl (rI (by (first|exact (idxOf_hit (p:=fun y=>y==x) hx1 (beq_iff_eq.2 (by omega)) HA).symm|exact (idxOf_miss ‹_› HA).symm)))
  ·
   refine R.q (q.eql rfl rfl (beq_eq_false_iff_ne.2 (by omega))) rfl<|R.nil ?_
   refine R.aI rfl rfl ?_
   refine R.reg rfl<|R.q (q.add (r:=((k+1:Nat):Int)) rfl rfl (wr (by omega))) rfl<|R.u 1 rfl<|R.nil ?_
   refine R.back (k+1) rfl (by (exact ⟨by omega,jc (p:=fun y=>y==x) HA hx1 (beq_eq_false_iff_ne.2 (by omega))⟩)) (by omega) ⟨rfl,rfl,rfl,rfl,trivial⟩ (fun _=>Wd.pick [] [] rfl rfl rfl)
 ·
  refine R.q (q.lss rfl rfl (decide_eq_false (by omega))) rfl<|R.nil ?_
  refine R.aI rfl rfl ?_
  refine R.reg rfl<|R.u 1 rfl<|R.nil ?_
  exact R.rv rfl Tryz.results119 rfl (rI (by (first|exact (idxOf_hit (p:=fun y=>y==x) hx1 (beq_iff_eq.2 (by omega)) HA).symm|exact (idxOf_miss ‹_› HA).symm)))
theorem t6 {l:List Int}{x:Int}:(0≤idxOf (fun y=>y==x) l)=(x∈l):=by
 rcases f8 (fun y:Int=>y==x) l with ⟨h,hn⟩ | ⟨k,y,h,hy,he,_,_⟩
 ·rw [h];simp;intro hm;have:=hn x hm;simp at this
 ·
  rw [h];simp
  have:y=x:=by simpa using he
  subst this;exact List.mem_of_getElem? hy
theorem eb (bm:Value)(l:List Int)(x:Int)(w:World)(cp:Sl w bm l):Calls Tryz.prog 79 #[bm,iV x] w fun e w'=>e = .returned (.bool (decide (x∈l)))∧Ext w w':=by
 have ql:=cp.dH
 refine R.enter (n:=9) (vs:=[bm,iV x]) [] [(0,bm),(1,iV x)] Tryz.func79 rfl rfl rfl rfl ?_
 refine R.reg rfl<|R.u 1 rfl<|R.nil ?_
 refine R.reg rfl<|R.u 2 rfl<|R.c (q.call Aa rfl rfl (fun w hw=>(sJ _ (l) (x) w ((fun _=>Wd.old cp) w hw) ))) rfl<|?_
 by_cases h1:idxOf (fun y=>y==x) l<0
 ·
  refine R.q (q.geq rfl rfl (decide_eq_false (by omega))) rfl<|R.u 1 rfl<|R.nil ?_
  exact R.rv rfl Tryz.results79 rfl (rB (by (have e:=t6 (l:=l) (x:=x);first|exact (decide_eq_true (e▸(by omega))).symm|exact (decide_eq_false (e▸(by omega))).symm)))
 ·
  refine R.q (q.geq rfl rfl (decide_eq_true (by omega))) rfl<|R.u 1 rfl<|R.nil ?_
  exact R.rv rfl Tryz.results79 rfl (rB (by (have e:=t6 (l:=l) (x:=x);first|exact (decide_eq_true (e▸(by omega))).symm|exact (decide_eq_false (e▸(by omega))).symm)))
theorem jH (aF az aC aB:Value)(r:ap)(p:Place)(w:World)(pj:Sl w aF r.ai)(qw:Sl w az r.Things)(sK:Sl w aC r.Held)(ym:Sl w aB r.Notes)(hk:Ok r):Calls Tryz.prog 61 #[.agg #[aF,az,aC,aB,iV r.ae,iV r.af],.agg #[iV p.ao,iV p.Slot]] w fun e w'=>e = .returned (.tuple #[aj.val ((au r p).1),e6 ((au r p).2)])∧Ext w w':=by
 have b1:=hk.hl
 refine R.enter (n:=30) (vs:=[.agg #[aF,az,aC,aB,iV r.ae,iV r.af],.agg #[iV p.ao,iV p.Slot]]) [] [(0,.agg #[aF,az,aC,aB,iV r.ae,iV r.af]),(1,.agg #[iV p.ao,iV p.Slot])] Tryz.func61 rfl rfl rfl rfl ?_
 refine R.reg rfl<|R.s rfl (s.box (cs:=[aF,az,aC,aB,iV r.ae,iV r.af]) rfl rfl rfl) fun b1=>R.s rfl (s.box (cs:=aE p) rfl rfl rfl) fun b2=>R.s rfl (s.alloc (cs:=dw) bE rfl rfl) fun b3=>R.u 1 rfl<|R.nil ?_
 refine R.reg rfl<|R.q (q.cT 1 rfl rfl br) rfl<|R.c (q.call tQ rfl rfl (fun w hw=>(gk (p) w  ))) rfl<|R.u 1 rfl<|R.nil ?_
 refine R.reg rfl<|R.u 1 rfl<|?_
 by_cases h1:aX p=0
 ·
  refine R.q (q.fr rfl rfl Tryz.underlying35 (by omega)) rfl<|R.nil ?_
  refine R.aI rfl rfl ?_
  rcases dO r.ai (iQ r.Held p) with ⟨dF,lp⟩ | ⟨pd,eC,dF,fU,Cw⟩
  ·
   refine R.dM rfl mixed (by kernel_rfl)<|Q.q (q.a8 (off':=0) rfl bj rfl) rfl<|Q.q (q.ld 2 rfl rfl bA rfl) rfl<|Q.q (q.a8 (off':=2) rfl bP rfl) rfl<|Q.q (q.ld 2 rfl rfl cx rfl) rfl<|Q.q (q.cT 1 rfl rfl br) rfl<|Q.c (q.call qh rfl rfl (fun w hw=>(iJ _ (r.Held) (p) w ((fun _=>Wd.old sK) w hw) (by first|omega|assumption|(simp;done)|(simp;omega))))) rfl<|Q.c (q.call jS rfl rfl (fun w hw=>(cv (congrArg (Value.int .i64) dF) (ff _ (r.ai) (iQ r.Held p) w ((fun _=>Wd.old pj) w hw) )))) rfl<|Q.u 1 rfl<|Q.nil ?_
   refine R.reg rfl<|R.u 1 rfl<|R.q (q.lss (b:=true) rfl rfl (by decide)) rfl<|R.nil ?_
   refine R.aD rfl rfl ?_
   refine R.reg rfl<|R.q (q.build (cs:=dw) gQ rfl rfl) rfl<|R.q (q.iface rfl bI) rfl<|R.s rfl (s.st (us:=dw) (cs':=dw) 0 _ rfl rfl rfl rfl (.inl aQ) rfl rfl rfl rfl) fun _=>R.u 1 rfl<|R.nil ?_
   exact R.vK rfl Tryz.results61 (RV.cell 0 rfl rfl aQ) (RV.tmp rfl) (congrArg aj.val (show (⟨0,0,0,0,0⟩:aj)=(au r p).1 from by (first|(rw [iq ‹_›];first|done|rfl|omega)|(rw [hN ‹_› dF];first|done|rfl|omega)|(rw [jf ‹_› dF (List.getElem?_eq_getElem eC)];first|done|rfl|omega)))) (dP (by decide) (by (first|(rw [iq ‹_›];first|done|rfl|omega)|(rw [hN ‹_› dF];first|done|rfl|omega)|(rw [jf ‹_› dF (List.getElem?_eq_getElem eC)];first|done|rfl|omega))))
  ·
   refine R.dM rfl mixed (by kernel_rfl)<|Q.q (q.a8 (off':=0) rfl bj rfl) rfl<|Q.q (q.ld 2 rfl rfl bA rfl) rfl<|Q.q (q.a8 (off':=2) rfl bP rfl) rfl<|Q.q (q.ld 2 rfl rfl cx rfl) rfl<|Q.q (q.cT 1 rfl rfl br) rfl<|Q.c (q.call qh rfl rfl (fun w hw=>(iJ _ (r.Held) (p) w ((fun _=>Wd.old sK) w hw) (by first|omega|assumption|(simp;done)|(simp;omega))))) rfl<|Q.c (q.call jS rfl rfl (fun w hw=>(cv (congrArg (Value.int .i64) dF) (ff _ (r.ai) (iQ r.Held p) w ((fun _=>Wd.old pj) w hw) )))) rfl<|Q.u 1 rfl<|Q.nil ?_
   refine R.reg rfl<|R.u 1 rfl<|R.q (q.lss rfl rfl (decide_eq_false (by omega))) rfl<|R.nil ?_
   refine R.aI rfl rfl ?_
   refine R.reg rfl<|R.q (q.a8 (off':=0) rfl bj rfl) rfl<|R.q (q.ld 2 rfl rfl bA rfl) rfl<|R.u 1 rfl<|R.q (q.idx (i:=pd) (fun _=>Wd.old pj) rfl rfl cK rfl (List.getElem?_eq_getElem eC)) rfl<|R.q (q.dD (ds:=aA (r.ai[pd])) (fun _=>Wd.old pj) (List.getElem?_eq_getElem eC) rfl aQ rfl) rfl<|?_
   refine R.s rfl (s.st (us:=aA (r.ai[pd])) (cs':=aA (r.ai[pd])) 0 _ rfl rfl rfl rfl (.inl aQ) rfl rfl rfl rfl) fun _=>R.u 1 rfl<|R.nil ?_
   exact R.vK rfl Tryz.results61 (RV.cell 0 rfl rfl aQ) (RV.tmp rfl) (congrArg aj.val (show (r.ai[pd])=(au r p).1 from by (first|(rw [iq ‹_›];first|done|rfl|omega)|(rw [hN ‹_› dF];first|done|rfl|omega)|(rw [jf ‹_› dF (List.getElem?_eq_getElem eC)];first|done|rfl|omega)))) (gO (by (first|(rw [iq ‹_›];first|done|rfl|omega)|(rw [hN ‹_› dF];first|done|rfl|omega)|(rw [jf ‹_› dF (List.getElem?_eq_getElem eC)];first|done|rfl|omega))))
 ·
  refine R.q (q.fw rfl rfl Tryz.underlying35 (by omega)) rfl<|R.nil ?_
  refine R.aD rfl rfl ?_
  refine R.reg rfl<|R.q (q.build (cs:=dw) gQ rfl rfl) rfl<|R.u 1 rfl<|R.s rfl (s.st (us:=dw) (cs':=dw) 0 _ rfl rfl rfl rfl (.inl aQ) rfl rfl rfl rfl) fun _=>R.u 1 rfl<|R.nil ?_
  exact R.vK rfl Tryz.results61 (RV.cell 0 rfl rfl aQ) (RV.tmp rfl) (congrArg aj.val (show (⟨0,0,0,0,0⟩:aj)=(au r p).1 from by (first|(rw [iq ‹_›];first|done|rfl|omega)|(rw [hN ‹_› dF];first|done|rfl|omega)|(rw [jf ‹_› dF (List.getElem?_eq_getElem eC)];first|done|rfl|omega)))) (rE (by (first|(rw [iq ‹_›];first|done|rfl|omega)|(rw [hN ‹_› dF];first|done|rfl|omega)|(rw [jf ‹_› dF (List.getElem?_eq_getElem eC)];first|done|rfl|omega))))
theorem kG (aF az aC aB:Value)(r:ap)(p:Place)(w:World)(pj:Sl w aF r.ai)(qw:Sl w az r.Things)(sK:Sl w aC r.Held)(ym:Sl w aB r.Notes)(hk:Ok r):Calls Tryz.prog 70 #[.agg #[aF,az,aC,aB,iV r.ae,iV r.af],.agg #[iV p.ao,iV p.Slot]] w fun e w'=>e = .returned (e6 (eX r p))∧Ext w w':=by
 have b1:=hk.hl
 refine R.enter (n:=19) (vs:=[.agg #[aF,az,aC,aB,iV r.ae,iV r.af],.agg #[iV p.ao,iV p.Slot]]) [] [(0,.agg #[aF,az,aC,aB,iV r.ae,iV r.af]),(1,.agg #[iV p.ao,iV p.Slot])] Tryz.func70 rfl rfl rfl rfl ?_
 refine R.reg rfl<|R.s rfl (s.box (cs:=[aF,az,aC,aB,iV r.ae,iV r.af]) rfl rfl rfl) fun b1=>R.s rfl (s.box (cs:=aE p) rfl rfl rfl) fun b2=>R.u 1 rfl<|R.nil ?_
 refine R.reg rfl<|R.q (q.cT 0 rfl rfl br) rfl<|R.c (q.call tQ rfl rfl (fun w hw=>(gk (p) w  ))) rfl<|R.u 1 rfl<|R.nil ?_
 refine R.reg rfl<|R.u 1 rfl<|?_
 by_cases h1:aX p=0
 ·
  refine R.q (q.nV rfl rfl Tryz.underlying35 (by omega)) rfl<|R.u 1 rfl<|R.qg rfl (q.a8 (off':=2) rfl bP rfl) rfl<|R.qg rfl (q.ld 1 rfl rfl cx rfl) rfl<|R.qg rfl (q.cT 0 rfl rfl br) rfl<|R.cg rfl (q.call qh rfl rfl (fun w hw=>(iJ _ (r.Held) (p) w ((fun _=>Wd.old sK) w hw) (by first|omega|assumption|(simp;done)|(simp;omega))))) rfl<|?_
  by_cases h2:iQ r.Held p=0
  ·
   refine R.qg rfl (q.neq rfl rfl (bne_eq_false_iff_eq.2 (by omega))) rfl<|R.u 1 rfl<|R.nil ?_
   refine R.aI rfl rfl ?_
   refine R.reg rfl<|R.u 2 rfl<|R.nil ?_
   exact R.rv rfl Tryz.results70 rfl (rE (by (unfold eX;first|(rw [if_pos ‹_›,if_pos ‹_›];first|done|rfl|omega)|(rw [if_pos ‹_›,if_neg ‹_›];first|done|rfl|omega)|(rw [if_neg ‹_›];first|done|rfl|omega))))
  ·
   refine R.qg rfl (q.neq rfl rfl (bne_iff_ne.2 (by omega))) rfl<|R.u 1 rfl<|R.nil ?_
   refine R.aD rfl rfl ?_
   refine R.reg rfl<|R.q (q.iface rfl bI) rfl<|R.u 1 rfl<|R.nil ?_
   refine R.reg rfl<|R.u 2 rfl<|R.nil ?_
   exact R.rv rfl Tryz.results70 rfl (dP (by decide) (by (unfold eX;first|(rw [if_pos ‹_›,if_pos ‹_›];first|done|rfl|omega)|(rw [if_pos ‹_›,if_neg ‹_›];first|done|rfl|omega)|(rw [if_neg ‹_›];first|done|rfl|omega))))
 ·
  refine R.q (q.qM rfl rfl Tryz.underlying35 (by omega)) rfl<|R.u 7 rfl<|R.nil ?_
  refine R.aI rfl rfl ?_
  refine R.reg rfl<|R.u 2 rfl<|R.nil ?_
  exact R.rv rfl Tryz.results70 rfl (rE (by (unfold eX;first|(rw [if_pos ‹_›,if_pos ‹_›];first|done|rfl|omega)|(rw [if_pos ‹_›,if_neg ‹_›];first|done|rfl|omega)|(rw [if_neg ‹_›];first|done|rfl|omega))))
theorem ko (aF az aC aB:Value)(r:ap)(w0:aj)(p:Place)(w:World)(own:List Nat)(H:Wd w (blks []++own) ([]++[ag.held w own]) [ag.ls aF (r.ai:List aj),ag.ls az (r.Things:List ah),ag.ls aC (r.Held:List Held),ag.ls aB (r.Notes:List Note)] w)(hk:r.Held.length≤3000∧r.ai.length≤3000∧0≤r.ae∧r.ae≤3000):Calls Tryz.prog 72 #[.agg #[aF,az,aC,aB,iV r.ae,iV r.af],.agg #[iV w0.ID,iV w0.ah,iV w0.Rights,iV w0.aG,iV w0.From],.agg #[iV p.ao,iV p.Slot]] w fun e w' => ∃z:Value×Value×Value×Value,e = .returned (.agg #[z.1,z.2.1,z.2.2.1,z.2.2.2,iV (((aW r w0 p)).ae),iV (((aW r w0 p)).af)])∧Wd w (blks []++own) ([]++[ag.held w own]) [ag.ls z.1 (((aW r w0 p)).ai:List aj),ag.ls z.2.1 (((aW r w0 p)).Things:List ah),ag.ls z.2.2.1 (((aW r w0 p)).Held:List Held),ag.ls z.2.2.2 (((aW r w0 p)).Notes:List Note)] w':=by
 have dR:=H.cX 0 rfl
 have dq:=H.cX 1 rfl
 have eK:=H.cX 2 rfl
 have dS:=H.cX 3 rfl
 have b1:=hk.1;have b2:=hk.2.1;have b3:=hk.2.2.1;have b4:=hk.2.2.2
 refine R.dc (n:=29) (vs:=[.agg #[aF,az,aC,aB,iV r.ae,iV r.af],.agg #[iV w0.ID,iV w0.ah,iV w0.Rights,iV w0.aG,iV w0.From],.agg #[iV p.ao,iV p.Slot]]) (B:=[ag.held w own]) [(0,.agg #[aF,az,aC,aB,iV r.ae,iV r.af]),(1,.agg #[iV w0.ID,iV w0.ah,iV w0.Rights,iV w0.aG,iV w0.From]),(2,.agg #[iV p.ao,iV p.Slot])] Tryz.func72 rfl rfl rfl rfl H ?_
 refine R.reg rfl<|R.s rfl (s.box (cs:=[aF,az,aC,aB,iV r.ae,iV r.af]) rfl rfl rfl) fun b1=>R.s rfl (s.box (cs:=aA w0) rfl rfl rfl) fun b2=>R.s rfl (s.box (cs:=aE p) rfl rfl rfl) fun b3=>R.s rfl (s.alloc (cs:=aJ) cD rfl rfl) fun b4=>R.nil ?_
 refine R.gN (fuel:=8) (Wd w (blks []++own) [ag.box b4 aJ 32,ag.box b3 (aE p) 39,ag.box b2 (aA w0) 88,ag.held w own] [ag.ls aF (r.ai:List aj),ag.ls az (r.Things:List ah),ag.ls aC (r.Held:List Held),ag.ls aB (r.Notes:List Note)]) rfl mixed rfl ?_
 refine D.q (i:=0) rfl (by kernel_rfl) (fun _=>Wd.aM [0,1,2,4] [0,1,2,3] rfl rfl rfl) rfl (q.a8 (off':=0) rfl bj rfl) rfl<|D.q (i:=3) rfl (by kernel_rfl) (fun _=>Wd.aM [0,1,2,4] [0,1,2,3] rfl rfl rfl) rfl (q.cT 2 rfl rfl aQ) rfl<|D.two (i:=1) (j:=4) (by kernel_rfl) rfl rfl ?_ ?_
 ·
  refine Do.s (s.c (Qt.a (q.ld 3 rfl rfl bA rfl)) rfl) (fun _=>(fun _=>Wd.aM [0,1,2,4] [0,1,2,3] rfl rfl rfl)) rfl fun _=>D.two (i:=2) (j:=4) (by kernel_rfl) rfl rfl ?_ ?_
  ·
   refine Do.s (B':=(fun aH:Value=>[ag.row 88 aH (r.ai:List aj),ag.box b4 aJ 32,ag.box b3 (aE p) 39,ag.box b2 (aA w0) 88,ag.box b1 [aF,az,aC,aB,iV r.ae,iV r.af] 32,ag.held w own])) (F':=(fun aH:Value=>[ag.ls aF (r.ai:List aj),ag.ls az (r.Things:List ah),ag.ls aC (r.Held:List Held),ag.ls aB (r.Notes:List Note)])) (s.bJ (B0:=[]) (Br:=[ag.box b4 aJ 32,ag.box b3 (aE p) 39,ag.box b2 (aA w0) 88,ag.box b1 [aF,az,aC,aB,iV r.ae,iV r.af] 32,ag.held w own]) (F0:=[ag.ls aF (r.ai:List aj)]) [0,1,2,3,4] [0] (fun aH:Value=>aH) (fun aH:Value=>[ag.row 88 aH (r.ai:List aj)]) (fun aH:Value=>[]) rfl rfl rfl tP rfl rfl (fun w own hw H=>gK aF (r.ai) w own H (by first|omega|assumption|(simp;done)|(simp;omega))) rfl) (fun _=>(fun _=>Wd.aM [1,2,3,5] [0,1,2,3] rfl rfl rfl)) rfl fun z2=>D.one (i:=4) (by kernel_rfl) rfl ?_
   refine Do.s (s.bs (l:=([w0]:List aj)) cK bE rfl rfl rfl rfl rfl rfl rfl) (fun _=>(fun _=>Wd.aM [2,3,4,6] [0,1,2,3] rfl rfl rfl)) rfl fun b5=>D.one (i:=5) (by kernel_rfl) rfl ?_
   refine Do.s (s.app (l2:=[w0]) 1 _ rfl rfl rfl (fun _=>Wd.row 0 rfl) gH (by first|omega|(simp;omega)) (by first|omega|(simp;omega)) (fun _=>rfl) rfl) (fun _=>(fun _=>Wd.aM [2,3,4,6] [0,1,2,3] rfl rfl rfl)) rfl fun v1=>D.q (i:=6) rfl (by kernel_rfl) (fun _=>Wd.aM [2,3,4,6] [0,1,2,3] rfl rfl rfl) rfl (q.a8 (off':=0) rfl bj rfl) rfl<|D.one (i:=7) (by kernel_rfl) rfl ?_
   refine Do.s (s.e8 (us:=[v1]) (cs':=[v1,az,aC,aB,iV r.ae,iV r.af]) 5 _ rfl rfl rfl (fun w hw=>Sl.cJ (hw.row 1 rfl)) (.inr ⟨bA,rfl⟩) (fun w hw=>(ak (Sl.one (hw.row 1 rfl)) aS)) rfl rfl rfl) (fun _=>(fun _=>Wd.aM [2,3,4,6] [0,1,2,3] rfl rfl rfl)) rfl fun _=>D.done (by kernel_rfl)<|R.reg rfl<|R.q (q.a8 (off':=4) rfl bW rfl) rfl<|R.q (q.ld 5 rfl rfl av rfl) rfl<|R.q (q.add (r:=r.ae+1) rfl rfl (wr (by omega))) rfl<|R.q (q.a8 (off':=4) rfl bW rfl) rfl<|R.s rfl (s.st (us:=[iV (r.ae+1)]) (cs':=[v1,az,aC,aB,iV (r.ae+1),iV r.af]) 5 _ rfl rfl rfl rfl (.inr ⟨av,rfl⟩) rfl rfl rfl rfl) fun _=>R.nil ?_
   refine R.reg rfl<|R.q (q.a8 (off':=0) rfl bG rfl) rfl<|R.q (q.ld 3 rfl rfl av rfl) rfl<|?_
   by_cases h1:0<p.ao
   ·
    refine R.q (q.gtr rfl rfl (decide_eq_true (by omega))) rfl<|R.nil ?_
    refine R.aD rfl rfl ?_
    refine R.reg rfl<|R.q (q.a8 (off':=2) rfl bP rfl) rfl<|R.q (q.ld 5 rfl rfl cx rfl) rfl<|R.q (q.cT 3 rfl rfl br) rfl<|R.q (q.a8 (off':=0) rfl bH rfl) rfl<|R.q (q.ld 4 rfl rfl av rfl) rfl<|R.s (B':=(fun aH:Value=>[ag.row 85 aH ((cE r.Held p w0.ID):List Held),ag.row 88 (.slice (some ⟨b5,0,none⟩) 1 1) ([w0]:List aj),ag.row 88 v1 ((r.ai++([w0])):List aj),ag.box b4 aJ 32,ag.box b3 (aE p) 39,ag.box b2 (aA w0) 88,ag.box b1 [v1,az,aC,aB,iV (r.ae+1),iV r.af] 32,ag.held w own])) (F':=(fun aH:Value=>[ag.ls aF (r.ai:List aj),ag.ls az (r.Things:List ah),ag.ls aC (r.Held:List Held),ag.ls aB (r.Notes:List Note)])) rfl (s.bJ (B0:=[]) (Br:=[ag.row 88 (.slice (some ⟨b5,0,none⟩) 1 1) ([w0]:List aj),ag.row 88 v1 ((r.ai++([w0])):List aj),ag.box b4 aJ 32,ag.box b3 (aE p) 39,ag.box b2 (aA w0) 88,ag.box b1 [v1,az,aC,aB,iV (r.ae+1),iV r.af] 32,ag.held w own]) (F0:=[ag.ls aC (r.Held:List Held)]) [0,1,2,3,4,5,6] [2] (fun aH:Value=>aH) (fun aH:Value=>[ag.row 85 aH ((cE r.Held p w0.ID):List Held)]) (fun aH:Value=>[]) rfl rfl rfl pI rfl rfl (fun w own hw H=>kB aC (r.Held) (p) (w0.ID) w own H (by first|omega|assumption|(simp;done)|(simp;omega))) rfl) fun z3=>R.q (q.a8 (off':=2) rfl bP rfl) rfl<|R.s rfl (s.e8 (us:=[z3]) (cs':=[v1,az,z3,aB,iV (r.ae+1),iV r.af]) 6 _ rfl rfl rfl (fun w hw=>Sl.cJ (hw.row 0 rfl)) (.inr ⟨cx,rfl⟩) (fun w hw=>(ak (Sl.one (hw.row 0 rfl)) aS)) rfl rfl rfl) fun _=>R.nil ?_
    refine R.reg rfl<|R.q (q.cT 6 rfl rfl ar) rfl<|R.s rfl (s.e8 (us:=[v1,az,z3,aB,iV (r.ae+1),iV r.af]) (cs':=[v1,az,z3,aB,iV (r.ae+1),iV r.af]) 3 _ rfl rfl rfl (fun _ _=>rfl) (.inl ar) (fun w hw=>(ak (Sl.one (hw.row 2 rfl)) (ak (Sl.one (hw.aT 1 rfl)) (ak (Sl.one (hw.row 0 rfl)) (ak (Sl.one (hw.aT 3 rfl)) (ak rfl (ak rfl aS))))))) rfl rfl rfl) fun _=>R.nil ?_
    refine R.mp (B':=[ag.row 85 z3 (cE r.Held p w0.ID:List Held),ag.row 88 (.slice (some ⟨b5,0,none⟩) 1 1) ([w0]:List aj),ag.box b4 [v1,az,z3,aB,iV (r.ae+1),iV r.af] 32,ag.box b3 (aE p) 39,ag.box b2 (aA w0) 88,ag.box b1 [v1,az,z3,aB,iV (r.ae+1),iV r.af] 32,ag.held w own]) (fun _ hw=>hw.di 2 _ rfl rfl) ?_
    refine R.mp (B':=[ag.row 88 (.slice (some ⟨b5,0,none⟩) 1 1) ([w0]:List aj),ag.box b4 [v1,az,z3,aB,iV (r.ae+1),iV r.af] 32,ag.box b3 (aE p) 39,ag.box b2 (aA w0) 88,ag.box b1 [v1,az,z3,aB,iV (r.ae+1),iV r.af] 32,ag.held w own]) (fun _ hw=>hw.di 0 _ rfl rfl) ?_
    have hz:aW r w0 p=(⟨(r.ai++([w0])),r.Things,cE r.Held p w0.ID,r.Notes,(r.ae+1),r.af⟩:ap):=by (unfold aW;first|(rw [if_pos ‹_›];first|done|rfl|omega)|(rw [if_neg ‹_›];first|done|rfl|omega))
    rw [hz]
    exact R.w1 (v1,az,z3,aB) [5] [1,3,0,5] rfl Tryz.results72 (RV.cell 1 rfl rfl ar) rfl rfl rfl rfl
   ·
    refine R.q (q.gtr rfl rfl (decide_eq_false (by omega))) rfl<|R.nil ?_
    refine R.aI rfl rfl ?_
    refine R.reg rfl<|R.q (q.cT 5 rfl rfl ar) rfl<|R.s rfl (s.e8 (us:=[v1,az,aC,aB,iV (r.ae+1),iV r.af]) (cs':=[v1,az,aC,aB,iV (r.ae+1),iV r.af]) 2 _ rfl rfl rfl (fun _ _=>rfl) (.inl ar) (fun w hw=>(ak (Sl.one (hw.row 1 rfl)) (ak (Sl.one (hw.aT 1 rfl)) (ak (Sl.one (hw.aT 2 rfl)) (ak (Sl.one (hw.aT 3 rfl)) (ak rfl (ak rfl aS))))))) rfl rfl rfl) fun _=>R.nil ?_
    refine R.mp (B':=[ag.row 88 (.slice (some ⟨b5,0,none⟩) 1 1) ([w0]:List aj),ag.box b4 [v1,az,aC,aB,iV (r.ae+1),iV r.af] 32,ag.box b3 (aE p) 39,ag.box b2 (aA w0) 88,ag.box b1 [v1,az,aC,aB,iV (r.ae+1),iV r.af] 32,ag.held w own]) (fun _ hw=>hw.di 1 _ rfl rfl) ?_
    have hz:aW r w0 p=(⟨(r.ai++([w0])),r.Things,r.Held,r.Notes,(r.ae+1),r.af⟩:ap):=by (unfold aW;first|(rw [if_pos ‹_›];first|done|rfl|omega)|(rw [if_neg ‹_›];first|done|rfl|omega))
    rw [hz]
    exact R.w1 (v1,az,aC,aB) [5] [0,2,3,4] rfl Tryz.results72 (RV.cell 1 rfl rfl ar) rfl rfl rfl rfl
  ·
   refine Do.s (s.bs (l:=([w0]:List aj)) cK bE rfl rfl rfl rfl rfl rfl rfl) (fun _=>(fun _=>Wd.aM [1,2,3,5] [0,1,2,3] rfl rfl rfl)) rfl fun b6=>D.one (i:=2) (by kernel_rfl) rfl ?_
   refine Do.s (B':=(fun aH:Value=>[ag.row 88 aH (r.ai:List aj),ag.row 88 (.slice (some ⟨b6,0,none⟩) 1 1) ([w0]:List aj),ag.box b4 aJ 32,ag.box b3 (aE p) 39,ag.box b2 (aA w0) 88,ag.box b1 [aF,az,aC,aB,iV r.ae,iV r.af] 32,ag.held w own])) (F':=(fun aH:Value=>[ag.ls aF (r.ai:List aj),ag.ls az (r.Things:List ah),ag.ls aC (r.Held:List Held),ag.ls aB (r.Notes:List Note)])) (s.bJ (B0:=[]) (Br:=[ag.row 88 (.slice (some ⟨b6,0,none⟩) 1 1) ([w0]:List aj),ag.box b4 aJ 32,ag.box b3 (aE p) 39,ag.box b2 (aA w0) 88,ag.box b1 [aF,az,aC,aB,iV r.ae,iV r.af] 32,ag.held w own]) (F0:=[ag.ls aF (r.ai:List aj)]) [0,1,2,3,4,5] [0] (fun aH:Value=>aH) (fun aH:Value=>[ag.row 88 aH (r.ai:List aj)]) (fun aH:Value=>[]) rfl rfl rfl tP rfl rfl (fun w own hw H=>gK aF (r.ai) w own H (by first|omega|assumption|(simp;done)|(simp;omega))) rfl) (fun _=>(fun _=>Wd.aM [2,3,4,6] [0,1,2,3] rfl rfl rfl)) rfl fun z4=>D.one (i:=5) (by kernel_rfl) rfl ?_
   refine Do.s (s.app (l2:=[w0]) 0 _ rfl rfl rfl (fun _=>Wd.row 1 rfl) gH (by first|omega|(simp;omega)) (by first|omega|(simp;omega)) (fun _=>rfl) rfl) (fun _=>(fun _=>Wd.aM [2,3,4,6] [0,1,2,3] rfl rfl rfl)) rfl fun v2=>D.q (i:=6) rfl (by kernel_rfl) (fun _=>Wd.aM [2,3,4,6] [0,1,2,3] rfl rfl rfl) rfl (q.a8 (off':=0) rfl bj rfl) rfl<|D.one (i:=7) (by kernel_rfl) rfl ?_
   refine Do.s (s.e8 (us:=[v2]) (cs':=[v2,az,aC,aB,iV r.ae,iV r.af]) 5 _ rfl rfl rfl (fun w hw=>Sl.cJ (hw.row 0 rfl)) (.inr ⟨bA,rfl⟩) (fun w hw=>(ak (Sl.one (hw.row 0 rfl)) aS)) rfl rfl rfl) (fun _=>(fun _=>Wd.aM [2,3,4,6] [0,1,2,3] rfl rfl rfl)) rfl fun _=>D.done (by kernel_rfl)<|R.reg rfl<|R.q (q.a8 (off':=4) rfl bW rfl) rfl<|R.q (q.ld 5 rfl rfl av rfl) rfl<|R.q (q.add (r:=r.ae+1) rfl rfl (wr (by omega))) rfl<|R.q (q.a8 (off':=4) rfl bW rfl) rfl<|R.s rfl (s.st (us:=[iV (r.ae+1)]) (cs':=[v2,az,aC,aB,iV (r.ae+1),iV r.af]) 5 _ rfl rfl rfl rfl (.inr ⟨av,rfl⟩) rfl rfl rfl rfl) fun _=>R.nil ?_
   refine R.reg rfl<|R.q (q.a8 (off':=0) rfl bG rfl) rfl<|R.q (q.ld 3 rfl rfl av rfl) rfl<|?_
   by_cases h2:0<p.ao
   ·
    refine R.q (q.gtr rfl rfl (decide_eq_true (by omega))) rfl<|R.nil ?_
    refine R.aD rfl rfl ?_
    refine R.reg rfl<|R.q (q.a8 (off':=2) rfl bP rfl) rfl<|R.q (q.ld 5 rfl rfl cx rfl) rfl<|R.q (q.cT 3 rfl rfl br) rfl<|R.q (q.a8 (off':=0) rfl bH rfl) rfl<|R.q (q.ld 4 rfl rfl av rfl) rfl<|R.s (B':=(fun aH:Value=>[ag.row 85 aH ((cE r.Held p w0.ID):List Held),ag.row 88 v2 ((r.ai++([w0])):List aj),ag.row 88 (.slice (some ⟨b6,0,none⟩) 1 1) ([w0]:List aj),ag.box b4 aJ 32,ag.box b3 (aE p) 39,ag.box b2 (aA w0) 88,ag.box b1 [v2,az,aC,aB,iV (r.ae+1),iV r.af] 32,ag.held w own])) (F':=(fun aH:Value=>[ag.ls aF (r.ai:List aj),ag.ls az (r.Things:List ah),ag.ls aC (r.Held:List Held),ag.ls aB (r.Notes:List Note)])) rfl (s.bJ (B0:=[]) (Br:=[ag.row 88 v2 ((r.ai++([w0])):List aj),ag.row 88 (.slice (some ⟨b6,0,none⟩) 1 1) ([w0]:List aj),ag.box b4 aJ 32,ag.box b3 (aE p) 39,ag.box b2 (aA w0) 88,ag.box b1 [v2,az,aC,aB,iV (r.ae+1),iV r.af] 32,ag.held w own]) (F0:=[ag.ls aC (r.Held:List Held)]) [0,1,2,3,4,5,6] [2] (fun aH:Value=>aH) (fun aH:Value=>[ag.row 85 aH ((cE r.Held p w0.ID):List Held)]) (fun aH:Value=>[]) rfl rfl rfl pI rfl rfl (fun w own hw H=>kB aC (r.Held) (p) (w0.ID) w own H (by first|omega|assumption|(simp;done)|(simp;omega))) rfl) fun z5=>R.q (q.a8 (off':=2) rfl bP rfl) rfl<|R.s rfl (s.e8 (us:=[z5]) (cs':=[v2,az,z5,aB,iV (r.ae+1),iV r.af]) 6 _ rfl rfl rfl (fun w hw=>Sl.cJ (hw.row 0 rfl)) (.inr ⟨cx,rfl⟩) (fun w hw=>(ak (Sl.one (hw.row 0 rfl)) aS)) rfl rfl rfl) fun _=>R.nil ?_
    refine R.reg rfl<|R.q (q.cT 6 rfl rfl ar) rfl<|R.s rfl (s.e8 (us:=[v2,az,z5,aB,iV (r.ae+1),iV r.af]) (cs':=[v2,az,z5,aB,iV (r.ae+1),iV r.af]) 3 _ rfl rfl rfl (fun _ _=>rfl) (.inl ar) (fun w hw=>(ak (Sl.one (hw.row 1 rfl)) (ak (Sl.one (hw.aT 1 rfl)) (ak (Sl.one (hw.row 0 rfl)) (ak (Sl.one (hw.aT 3 rfl)) (ak rfl (ak rfl aS))))))) rfl rfl rfl) fun _=>R.nil ?_
    refine R.mp (B':=[ag.row 85 z5 (cE r.Held p w0.ID:List Held),ag.row 88 (.slice (some ⟨b6,0,none⟩) 1 1) ([w0]:List aj),ag.box b4 [v2,az,z5,aB,iV (r.ae+1),iV r.af] 32,ag.box b3 (aE p) 39,ag.box b2 (aA w0) 88,ag.box b1 [v2,az,z5,aB,iV (r.ae+1),iV r.af] 32,ag.held w own]) (fun _ hw=>hw.di 1 _ rfl rfl) ?_
    refine R.mp (B':=[ag.row 88 (.slice (some ⟨b6,0,none⟩) 1 1) ([w0]:List aj),ag.box b4 [v2,az,z5,aB,iV (r.ae+1),iV r.af] 32,ag.box b3 (aE p) 39,ag.box b2 (aA w0) 88,ag.box b1 [v2,az,z5,aB,iV (r.ae+1),iV r.af] 32,ag.held w own]) (fun _ hw=>hw.di 0 _ rfl rfl) ?_
    have hz:aW r w0 p=(⟨(r.ai++([w0])),r.Things,cE r.Held p w0.ID,r.Notes,(r.ae+1),r.af⟩:ap):=by (unfold aW;first|(rw [if_pos ‹_›];first|done|rfl|omega)|(rw [if_neg ‹_›];first|done|rfl|omega))
    rw [hz]
    exact R.w1 (v2,az,z5,aB) [5] [1,3,0,5] rfl Tryz.results72 (RV.cell 1 rfl rfl ar) rfl rfl rfl rfl
   ·
    refine R.q (q.gtr rfl rfl (decide_eq_false (by omega))) rfl<|R.nil ?_
    refine R.aI rfl rfl ?_
    refine R.reg rfl<|R.q (q.cT 5 rfl rfl ar) rfl<|R.s rfl (s.e8 (us:=[v2,az,aC,aB,iV (r.ae+1),iV r.af]) (cs':=[v2,az,aC,aB,iV (r.ae+1),iV r.af]) 2 _ rfl rfl rfl (fun _ _=>rfl) (.inl ar) (fun w hw=>(ak (Sl.one (hw.row 0 rfl)) (ak (Sl.one (hw.aT 1 rfl)) (ak (Sl.one (hw.aT 2 rfl)) (ak (Sl.one (hw.aT 3 rfl)) (ak rfl (ak rfl aS))))))) rfl rfl rfl) fun _=>R.nil ?_
    refine R.mp (B':=[ag.row 88 (.slice (some ⟨b6,0,none⟩) 1 1) ([w0]:List aj),ag.box b4 [v2,az,aC,aB,iV (r.ae+1),iV r.af] 32,ag.box b3 (aE p) 39,ag.box b2 (aA w0) 88,ag.box b1 [v2,az,aC,aB,iV (r.ae+1),iV r.af] 32,ag.held w own]) (fun _ hw=>hw.di 0 _ rfl rfl) ?_
    have hz:aW r w0 p=(⟨(r.ai++([w0])),r.Things,r.Held,r.Notes,(r.ae+1),r.af⟩:ap):=by (unfold aW;first|(rw [if_pos ‹_›];first|done|rfl|omega)|(rw [if_neg ‹_›];first|done|rfl|omega))
    rw [hz]
    exact R.w1 (v2,az,aC,aB) [5] [0,2,3,4] rfl Tryz.results72 (RV.cell 1 rfl rfl ar) rfl rfl rfl rfl
 ·
  refine Do.s (s.bs (l:=([w0]:List aj)) cK bE rfl rfl rfl rfl rfl rfl rfl) (fun _=>(fun _=>Wd.aM [1,2,3,5] [0,1,2,3] rfl rfl rfl)) rfl fun b7=>D.one (i:=1) (by kernel_rfl) rfl ?_
  refine Do.s (s.c (Qt.a (q.ld 4 rfl rfl bA rfl)) rfl) (fun _=>(fun _=>Wd.aM [1,2,3,5] [0,1,2,3] rfl rfl rfl)) rfl fun _=>D.one (i:=2) (by kernel_rfl) rfl ?_
  refine Do.s (B':=(fun aH:Value=>[ag.row 88 aH (r.ai:List aj),ag.row 88 (.slice (some ⟨b7,0,none⟩) 1 1) ([w0]:List aj),ag.box b4 aJ 32,ag.box b3 (aE p) 39,ag.box b2 (aA w0) 88,ag.box b1 [aF,az,aC,aB,iV r.ae,iV r.af] 32,ag.held w own])) (F':=(fun aH:Value=>[ag.ls aF (r.ai:List aj),ag.ls az (r.Things:List ah),ag.ls aC (r.Held:List Held),ag.ls aB (r.Notes:List Note)])) (s.bJ (B0:=[]) (Br:=[ag.row 88 (.slice (some ⟨b7,0,none⟩) 1 1) ([w0]:List aj),ag.box b4 aJ 32,ag.box b3 (aE p) 39,ag.box b2 (aA w0) 88,ag.box b1 [aF,az,aC,aB,iV r.ae,iV r.af] 32,ag.held w own]) (F0:=[ag.ls aF (r.ai:List aj)]) [0,1,2,3,4,5] [0] (fun aH:Value=>aH) (fun aH:Value=>[ag.row 88 aH (r.ai:List aj)]) (fun aH:Value=>[]) rfl rfl rfl tP rfl rfl (fun w own hw H=>gK aF (r.ai) w own H (by first|omega|assumption|(simp;done)|(simp;omega))) rfl) (fun _=>(fun _=>Wd.aM [2,3,4,6] [0,1,2,3] rfl rfl rfl)) rfl fun z6=>D.one (i:=5) (by kernel_rfl) rfl ?_
  refine Do.s (s.app (l2:=[w0]) 0 _ rfl rfl rfl (fun _=>Wd.row 1 rfl) gH (by first|omega|(simp;omega)) (by first|omega|(simp;omega)) (fun _=>rfl) rfl) (fun _=>(fun _=>Wd.aM [2,3,4,6] [0,1,2,3] rfl rfl rfl)) rfl fun v3=>D.q (i:=6) rfl (by kernel_rfl) (fun _=>Wd.aM [2,3,4,6] [0,1,2,3] rfl rfl rfl) rfl (q.a8 (off':=0) rfl bj rfl) rfl<|D.one (i:=7) (by kernel_rfl) rfl ?_
  refine Do.s (s.e8 (us:=[v3]) (cs':=[v3,az,aC,aB,iV r.ae,iV r.af]) 5 _ rfl rfl rfl (fun w hw=>Sl.cJ (hw.row 0 rfl)) (.inr ⟨bA,rfl⟩) (fun w hw=>(ak (Sl.one (hw.row 0 rfl)) aS)) rfl rfl rfl) (fun _=>(fun _=>Wd.aM [2,3,4,6] [0,1,2,3] rfl rfl rfl)) rfl fun _=>D.done (by kernel_rfl)<|R.reg rfl<|R.q (q.a8 (off':=4) rfl bW rfl) rfl<|R.q (q.ld 5 rfl rfl av rfl) rfl<|R.q (q.add (r:=r.ae+1) rfl rfl (wr (by omega))) rfl<|R.q (q.a8 (off':=4) rfl bW rfl) rfl<|R.s rfl (s.st (us:=[iV (r.ae+1)]) (cs':=[v3,az,aC,aB,iV (r.ae+1),iV r.af]) 5 _ rfl rfl rfl rfl (.inr ⟨av,rfl⟩) rfl rfl rfl rfl) fun _=>R.nil ?_
  refine R.reg rfl<|R.q (q.a8 (off':=0) rfl bG rfl) rfl<|R.q (q.ld 3 rfl rfl av rfl) rfl<|?_
  by_cases h3:0<p.ao
  ·
   refine R.q (q.gtr rfl rfl (decide_eq_true (by omega))) rfl<|R.nil ?_
   refine R.aD rfl rfl ?_
   refine R.reg rfl<|R.q (q.a8 (off':=2) rfl bP rfl) rfl<|R.q (q.ld 5 rfl rfl cx rfl) rfl<|R.q (q.cT 3 rfl rfl br) rfl<|R.q (q.a8 (off':=0) rfl bH rfl) rfl<|R.q (q.ld 4 rfl rfl av rfl) rfl<|R.s (B':=(fun aH:Value=>[ag.row 85 aH ((cE r.Held p w0.ID):List Held),ag.row 88 v3 ((r.ai++([w0])):List aj),ag.row 88 (.slice (some ⟨b7,0,none⟩) 1 1) ([w0]:List aj),ag.box b4 aJ 32,ag.box b3 (aE p) 39,ag.box b2 (aA w0) 88,ag.box b1 [v3,az,aC,aB,iV (r.ae+1),iV r.af] 32,ag.held w own])) (F':=(fun aH:Value=>[ag.ls aF (r.ai:List aj),ag.ls az (r.Things:List ah),ag.ls aC (r.Held:List Held),ag.ls aB (r.Notes:List Note)])) rfl (s.bJ (B0:=[]) (Br:=[ag.row 88 v3 ((r.ai++([w0])):List aj),ag.row 88 (.slice (some ⟨b7,0,none⟩) 1 1) ([w0]:List aj),ag.box b4 aJ 32,ag.box b3 (aE p) 39,ag.box b2 (aA w0) 88,ag.box b1 [v3,az,aC,aB,iV (r.ae+1),iV r.af] 32,ag.held w own]) (F0:=[ag.ls aC (r.Held:List Held)]) [0,1,2,3,4,5,6] [2] (fun aH:Value=>aH) (fun aH:Value=>[ag.row 85 aH ((cE r.Held p w0.ID):List Held)]) (fun aH:Value=>[]) rfl rfl rfl pI rfl rfl (fun w own hw H=>kB aC (r.Held) (p) (w0.ID) w own H (by first|omega|assumption|(simp;done)|(simp;omega))) rfl) fun z7=>R.q (q.a8 (off':=2) rfl bP rfl) rfl<|R.s rfl (s.e8 (us:=[z7]) (cs':=[v3,az,z7,aB,iV (r.ae+1),iV r.af]) 6 _ rfl rfl rfl (fun w hw=>Sl.cJ (hw.row 0 rfl)) (.inr ⟨cx,rfl⟩) (fun w hw=>(ak (Sl.one (hw.row 0 rfl)) aS)) rfl rfl rfl) fun _=>R.nil ?_
   refine R.reg rfl<|R.q (q.cT 6 rfl rfl ar) rfl<|R.s rfl (s.e8 (us:=[v3,az,z7,aB,iV (r.ae+1),iV r.af]) (cs':=[v3,az,z7,aB,iV (r.ae+1),iV r.af]) 3 _ rfl rfl rfl (fun _ _=>rfl) (.inl ar) (fun w hw=>(ak (Sl.one (hw.row 1 rfl)) (ak (Sl.one (hw.aT 1 rfl)) (ak (Sl.one (hw.row 0 rfl)) (ak (Sl.one (hw.aT 3 rfl)) (ak rfl (ak rfl aS))))))) rfl rfl rfl) fun _=>R.nil ?_
   refine R.mp (B':=[ag.row 85 z7 (cE r.Held p w0.ID:List Held),ag.row 88 (.slice (some ⟨b7,0,none⟩) 1 1) ([w0]:List aj),ag.box b4 [v3,az,z7,aB,iV (r.ae+1),iV r.af] 32,ag.box b3 (aE p) 39,ag.box b2 (aA w0) 88,ag.box b1 [v3,az,z7,aB,iV (r.ae+1),iV r.af] 32,ag.held w own]) (fun _ hw=>hw.di 1 _ rfl rfl) ?_
   refine R.mp (B':=[ag.row 88 (.slice (some ⟨b7,0,none⟩) 1 1) ([w0]:List aj),ag.box b4 [v3,az,z7,aB,iV (r.ae+1),iV r.af] 32,ag.box b3 (aE p) 39,ag.box b2 (aA w0) 88,ag.box b1 [v3,az,z7,aB,iV (r.ae+1),iV r.af] 32,ag.held w own]) (fun _ hw=>hw.di 0 _ rfl rfl) ?_
   have hz:aW r w0 p=(⟨(r.ai++([w0])),r.Things,cE r.Held p w0.ID,r.Notes,(r.ae+1),r.af⟩:ap):=by (unfold aW;first|(rw [if_pos ‹_›];first|done|rfl|omega)|(rw [if_neg ‹_›];first|done|rfl|omega))
   rw [hz]
   exact R.w1 (v3,az,z7,aB) [5] [1,3,0,5] rfl Tryz.results72 (RV.cell 1 rfl rfl ar) rfl rfl rfl rfl
  ·
   refine R.q (q.gtr rfl rfl (decide_eq_false (by omega))) rfl<|R.nil ?_
   refine R.aI rfl rfl ?_
   refine R.reg rfl<|R.q (q.cT 5 rfl rfl ar) rfl<|R.s rfl (s.e8 (us:=[v3,az,aC,aB,iV (r.ae+1),iV r.af]) (cs':=[v3,az,aC,aB,iV (r.ae+1),iV r.af]) 2 _ rfl rfl rfl (fun _ _=>rfl) (.inl ar) (fun w hw=>(ak (Sl.one (hw.row 0 rfl)) (ak (Sl.one (hw.aT 1 rfl)) (ak (Sl.one (hw.aT 2 rfl)) (ak (Sl.one (hw.aT 3 rfl)) (ak rfl (ak rfl aS))))))) rfl rfl rfl) fun _=>R.nil ?_
   refine R.mp (B':=[ag.row 88 (.slice (some ⟨b7,0,none⟩) 1 1) ([w0]:List aj),ag.box b4 [v3,az,aC,aB,iV (r.ae+1),iV r.af] 32,ag.box b3 (aE p) 39,ag.box b2 (aA w0) 88,ag.box b1 [v3,az,aC,aB,iV (r.ae+1),iV r.af] 32,ag.held w own]) (fun _ hw=>hw.di 0 _ rfl rfl) ?_
   have hz:aW r w0 p=(⟨(r.ai++([w0])),r.Things,r.Held,r.Notes,(r.ae+1),r.af⟩:ap):=by (unfold aW;first|(rw [if_pos ‹_›];first|done|rfl|omega)|(rw [if_neg ‹_›];first|done|rfl|omega))
   rw [hz]
   exact R.w1 (v3,az,aC,aB) [5] [0,2,3,4] rfl Tryz.results72 (RV.cell 1 rfl rfl ar) rfl rfl rfl rfl
theorem ru  (w:World)(own:List Nat)(H:Wd w (blks []++own) ([]++[ag.held w own]) [] w)  : Calls Tryz.prog 9 #[] w fun e w' => ∃z:Value×Value×Value×Value,e = .returned (.agg #[z.1,z.2.1,z.2.2.1,z.2.2.2,iV (((⟨[],[],[],[],1,1⟩:ap)).ae),iV (((⟨[],[],[],[],1,1⟩:ap)).af)])∧Wd w (blks []++own) ([]++[ag.held w own]) [ag.ls z.1 (((⟨[],[],[],[],1,1⟩:ap)).ai:List aj),ag.ls z.2.1 (((⟨[],[],[],[],1,1⟩:ap)).Things:List ah),ag.ls z.2.2.1 (((⟨[],[],[],[],1,1⟩:ap)).Held:List Held),ag.ls z.2.2.2 (((⟨[],[],[],[],1,1⟩:ap)).Notes:List Note)] w':=by
 refine R.dc (n:=2) (vs:=[]) (B:=[ag.held w own]) [] Tryz.func9 rfl rfl rfl rfl H ?_
 refine R.reg rfl<|R.s rfl (s.alloc (cs:=aJ) cD rfl rfl) fun b1=>R.nil ?_
 refine R.reg rfl<|R.q (q.build (cs:=[nS,nS,nS,nS,iV 1,iV 1]) cY rfl rfl) rfl<|R.s rfl (s.st (us:=[nS,nS,nS,nS,iV 1,iV 1]) (cs':=[nS,nS,nS,nS,iV 1,iV 1]) 0 _ rfl rfl rfl rfl (.inl ar) rfl rfl rfl rfl) fun _=>R.nil ?_
 refine R.mp (fun _ hw=>hw.bg (α:=aj)) ?_
 refine R.mp (fun _ hw=>hw.bg (α:=ah)) ?_
 refine R.mp (fun _ hw=>hw.bg (α:=Held)) ?_
 refine R.mp (fun _ hw=>hw.bg (α:=Note)) ?_
 exact R.w1 ((nS),(nS),(nS),(nS)) [1] [3,2,1,0] rfl Tryz.results9 (RV.cell 0 rfl rfl ar) rfl rfl rfl rfl
theorem oE (t:ah)(w0:aj)(oF:Nat)(w:World)(wI:(ag.box oF (aA w0) 88).ok w):Calls Tryz.prog 121 #[.agg #[iV t.ID,iV t.Kind,.string t.Data],.pointer (some ⟨oF,0,none⟩)] w fun e w'=>e = .returned (.bool (t.ID==w0.ah))∧Ext w w':=by
 refine R.enter (n:=9) (vs:=[.agg #[iV t.ID,iV t.Kind,.string t.Data],.pointer (some ⟨oF,0,none⟩)]) [] [(0,.agg #[iV t.ID,iV t.Kind,.string t.Data]),(1,.pointer (some ⟨oF,0,none⟩))] Tryz.func121 rfl rfl rfl rfl ?_
 refine R.nZ (r:=ag.box oF (aA w0) 88) wI (lj wI) ?_
 refine R.reg rfl<|R.s rfl (s.box (cs:=eF t) rfl rfl rfl) fun b1=>R.u 1 rfl<|R.nil ?_
 refine R.reg rfl<|R.q (q.a8 (off':=0) rfl iZ rfl) rfl<|R.q (q.ld 0 rfl rfl av rfl) rfl<|R.q (q.a8 (off':=1) rfl eU rfl) rfl<|R.q (q.A8 0 rfl rfl av rfl) rfl<|?_
 by_cases h1:t.ID=w0.ah
 ·
  refine R.q (q.eql rfl rfl (beq_iff_eq.2 (by omega))) rfl<|R.u 1 rfl<|R.nil ?_
  exact R.rv rfl Tryz.results121 rfl (rB (by (first|exact (beq_iff_eq.2 ‹_›).symm|exact (beq_eq_false_iff_ne.2 ‹_›).symm)))
 ·
  refine R.q (q.eql rfl rfl (beq_eq_false_iff_ne.2 (by omega))) rfl<|R.u 1 rfl<|R.nil ?_
  exact R.rv rfl Tryz.results121 rfl (rB (by (first|exact (beq_iff_eq.2 ‹_›).symm|exact (beq_eq_false_iff_ne.2 ‹_›).symm)))
theorem m9 (t:Note)(w0:aj)(oF:Nat)(w:World)(wI:(ag.box oF (aA w0) 88).ok w):Calls Tryz.prog 83 #[.agg #[iV t.Port,.string t.Data,iV t.aG,iV t.aj],.pointer (some ⟨oF,0,none⟩)] w fun e w'=>e = .returned (.bool (t.Port==w0.ah))∧Ext w w':=by
 refine R.enter (n:=9) (vs:=[.agg #[iV t.Port,.string t.Data,iV t.aG,iV t.aj],.pointer (some ⟨oF,0,none⟩)]) [] [(0,.agg #[iV t.Port,.string t.Data,iV t.aG,iV t.aj]),(1,.pointer (some ⟨oF,0,none⟩))] Tryz.func83 rfl rfl rfl rfl ?_
 refine R.nZ (r:=ag.box oF (aA w0) 88) wI (lj wI) ?_
 refine R.reg rfl<|R.s rfl (s.box (cs:=cb t) rfl rfl rfl) fun b1=>R.u 1 rfl<|R.nil ?_
 refine R.reg rfl<|R.q (q.a8 (off':=0) rfl kz rfl) rfl<|R.q (q.ld 0 rfl rfl av rfl) rfl<|R.q (q.a8 (off':=1) rfl eU rfl) rfl<|R.q (q.A8 0 rfl rfl av rfl) rfl<|?_
 by_cases h1:t.Port=w0.ah
 ·
  refine R.q (q.eql rfl rfl (beq_iff_eq.2 (by omega))) rfl<|R.u 1 rfl<|R.nil ?_
  exact R.rv rfl Tryz.results83 rfl (rB (by (first|exact (beq_iff_eq.2 ‹_›).symm|exact (beq_eq_false_iff_ne.2 ‹_›).symm)))
 ·
  refine R.q (q.eql rfl rfl (beq_eq_false_iff_ne.2 (by omega))) rfl<|R.u 1 rfl<|R.nil ?_
  exact R.rv rfl Tryz.results83 rfl (rB (by (first|exact (beq_iff_eq.2 ‹_›).symm|exact (beq_eq_false_iff_ne.2 ‹_›).symm)))
theorem pk (t:ah)(Am:Value)(ts:List Int)(wJ:Nat)(w:World)(Cz:(ag.box wJ [Am] 60).ok w)(Dt:Sl w Am ts):Calls Tryz.prog 108 #[.agg #[iV t.ID,iV t.Kind,.string t.Data],.pointer (some ⟨wJ,0,none⟩)] w fun e w'=>e = .returned (.bool (!decide (t.ID∈ts)))∧Ext w w':=by
 refine R.enter (n:=9) (vs:=[.agg #[iV t.ID,iV t.Kind,.string t.Data],.pointer (some ⟨wJ,0,none⟩)]) [] [(0,.agg #[iV t.ID,iV t.Kind,.string t.Data]),(1,.pointer (some ⟨wJ,0,none⟩))] Tryz.func108 rfl rfl rfl rfl ?_
 refine R.nZ (r:=ag.box wJ [Am] 60) Cz (lj Cz) ?_
 refine R.reg rfl<|R.s rfl (s.box (cs:=eF t) rfl rfl rfl) fun b1=>R.u 1 rfl<|R.nil ?_
 refine R.reg rfl<|R.q (q.A8 0 rfl rfl ky rfl) rfl<|R.q (q.a8 (off':=0) rfl iZ rfl) rfl<|R.q (q.ld 0 rfl rfl av rfl) rfl<|R.c (q.call mY rfl rfl (fun w hw=>(eb _ (ts) (t.ID) w ((fun _=>Wd.old Dt) w hw) ))) rfl<|R.q (q.not rfl) rfl<|R.u 1 rfl<|R.nil ?_
 exact R.rv rfl Tryz.results108 rfl (rB (by (rfl)))
theorem pn (h:Held)(aF az aC aB:Value)(r:ap)(k6:Nat)(w:World)(D3:(ag.box k6 [aF,az,aC,aB,iV r.ae,iV r.af] 32).ok w)(pj:Sl w aF r.ai)(qw:Sl w az r.Things)(sK:Sl w aC r.Held)(ym:Sl w aB r.Notes):Calls Tryz.prog 111 #[.agg #[iV h.Place.ao,iV h.Place.Slot,iV h.aj],.pointer (some ⟨k6,0,none⟩)] w fun e w'=>e = .returned (.bool (decide (bL r.ai h.aj<0)))∧Ext w w':=by
 refine R.enter (n:=10) (vs:=[.agg #[iV h.Place.ao,iV h.Place.Slot,iV h.aj],.pointer (some ⟨k6,0,none⟩)]) [] [(0,.agg #[iV h.Place.ao,iV h.Place.Slot,iV h.aj]),(1,.pointer (some ⟨k6,0,none⟩))] Tryz.func111 rfl rfl rfl rfl ?_
 refine R.nZ (r:=ag.box k6 [aF,az,aC,aB,iV r.ae,iV r.af] 32) D3 (lj D3) ?_
 refine R.reg rfl<|R.s rfl (s.box (cs:=eL h) rfl rfl rfl) fun b1=>R.u 1 rfl<|R.nil ?_
 refine R.reg rfl<|R.q (q.a8 (off':=0) rfl bj rfl) rfl<|R.q (q.A8 0 rfl rfl bA rfl) rfl<|R.q (q.a8 (off':=2) rfl fZ rfl) rfl<|R.q (q.ld 0 rfl rfl av rfl) rfl<|?_
 rcases dO r.ai h.aj with ⟨dF,lp⟩ | ⟨pd,eC,dF,fU,Cw⟩
 ·
  refine R.c (q.call jS rfl rfl (fun w hw=>(cv (congrArg (Value.int .i64) dF) (ff _ (r.ai) (h.aj) w ((fun _=>Wd.old pj) w hw) )))) rfl<|R.q (q.lss (b:=true) rfl rfl (by decide)) rfl<|R.u 1 rfl<|R.nil ?_
  exact R.rv rfl Tryz.results111 rfl (rB (by (first|exact (decide_eq_true (by omega)).symm|exact (decide_eq_false (by omega)).symm)))
 ·
  refine R.c (q.call jS rfl rfl (fun w hw=>(cv (congrArg (Value.int .i64) dF) (ff _ (r.ai) (h.aj) w ((fun _=>Wd.old pj) w hw) )))) rfl<|R.q (q.lss rfl rfl (decide_eq_false (by omega))) rfl<|R.u 1 rfl<|R.nil ?_
  exact R.rv rfl Tryz.results111 rfl (rB (by (first|exact (decide_eq_true (by omega)).symm|exact (decide_eq_false (by omega)).symm)))
theorem po (x:aj)(Ao:Value)(gs:List Int)(wK:Nat)(w:World)(CB:(ag.box wK [Ao] 60).ok w)(Du:Sl w Ao gs):Calls Tryz.prog 78 #[.agg #[iV x.ID,iV x.ah,iV x.Rights,iV x.aG,iV x.From],.pointer (some ⟨wK,0,none⟩)] w fun e w'=>e = .returned (.bool (decide (x.ID∈gs)))∧Ext w w':=by
 refine R.enter (n:=8) (vs:=[.agg #[iV x.ID,iV x.ah,iV x.Rights,iV x.aG,iV x.From],.pointer (some ⟨wK,0,none⟩)]) [] [(0,.agg #[iV x.ID,iV x.ah,iV x.Rights,iV x.aG,iV x.From]),(1,.pointer (some ⟨wK,0,none⟩))] Tryz.func78 rfl rfl rfl rfl ?_
 refine R.nZ (r:=ag.box wK [Ao] 60) CB (lj CB) ?_
 refine R.reg rfl<|R.s rfl (s.box (cs:=aA x) rfl rfl rfl) fun b1=>R.u 1 rfl<|R.nil ?_
 refine R.reg rfl<|R.q (q.A8 0 rfl rfl ky rfl) rfl<|R.q (q.a8 (off':=0) rfl bH rfl) rfl<|R.q (q.ld 0 rfl rfl av rfl) rfl<|R.c (q.call mY rfl rfl (fun w hw=>(eb _ (gs) (x.ID) w ((fun _=>Wd.old Du) w hw) ))) rfl<|R.u 1 rfl<|R.nil ?_
 exact R.rv rfl Tryz.results78 rfl (rB (by (rfl)))
end Go.Proofs.YtbkfhjaibhnkmaaGreatDoor
