import Derived.Test.YtbkfhjaibhnkmaaGreatDoorTRP15
import Derived.Test.YtbkfhjaibhnkmaaGreatDoorTRP21
import Derived.Test.YtbkfhjaibhnkmaaGreatDoorTRP22
import Derived.Test.YtbkfhjaibhnkmaaGreatDoorTRP24
namespace Go.Proofs.YtbkfhjaibhnkmaaGreatDoor
open Go Go.RowKit
set_option linter.unusedVariables false
set_option linter.unusedSimpArgs false
set_option maxRecDepth 100000
theorem f9 (bf:Value)(l:List ak)(w:World)(own:List Nat)(H:Wd w (blks []++own) ([]++[ah.held w own]) [ah.ls bf (l:List ak)] w)(hl:l.length≤1000000):Calls Tryz.prog 77 #[bf] w fun e w' => ∃z:Value,e = .returned (z)∧Wd w (blks []++own) ([ah.row 88 z (l:List ak)]++[ah.held w own]) [] w':=by
  have uh:=H.cL 0 rfl
  refine R.cQ (n:=8) (vs:=[bf]) (B:=[ah.held w own]) [(0,bf)] Tryz.func77 rfl rfl rfl rfl H ?_
  refine R.reg rfl<|R.u 1 rfl<|R.nil ?_
  refine R.reg rfl<|R.u 1 rfl<|?_
  rcases Bool.eq_false_or_eq_true (jy bf) with h1|h1
  ·
    refine R.q (q.xF (congrArg Value.bool h1) (q.lV (fun _=>Wd.aS 0 rfl) rfl rfl Tryz.underlying27)) rfl<|R.nil ?_
    refine R.aE rfl rfl ?_
    refine R.reg rfl<|R.u 1 rfl<|R.nil ?_
    refine R.row0 (α:=ak) 88 ?_
    have hz:l=[]:=by (first|rfl|exact (List.nil_append _).symm|exact Sl.jy (H.aS 0 rfl) (by assumption))
    rw [hz]
    exact R.w1 (.slice none 0 0) [0,1] [] rfl Tryz.results77 (RV.tmp rfl) rfl rfl rfl rfl
  ·
    refine R.q (q.xF (congrArg Value.bool h1) (q.lV (fun _=>Wd.aS 0 rfl) rfl rfl Tryz.underlying27)) rfl<|R.nil ?_
    refine R.aH rfl rfl ?_
    refine R.reg rfl<|?_
    refine R.s rfl (s.bs (l:=([]:List ak)) ct br rfl rfl rfl rfl rfl rfl rfl) fun b1=>?_
    refine R.u 1 rfl<|?_
    refine R.s rfl (s.app (l2:=l) 0 _ rfl rfl rfl (fun _=>Wd.aS 0 rfl) f6 (by simp;omega) (by simp;omega) (fun _=>rfl) rfl) fun v1=>?_
    refine R.u 1 rfl<|R.nil ?_
    have hz:l=(([])++l):=by (first|rfl|exact (List.nil_append _).symm|exact Sl.jy (H.aS 0 rfl) (by assumption))
    rw [hz]
    exact R.w1 v1 [0,1] [] rfl Tryz.results77 (RV.tmp rfl) rfl rfl rfl rfl
theorem fO (bf:Value)(l:List ai)(w:World)(own:List Nat)(H:Wd w (blks []++own) ([]++[ah.held w own]) [ah.ls bf (l:List ai)] w)(hl:l.length≤1000000):Calls Tryz.prog 71 #[bf] w fun e w' => ∃z:Value,e = .returned (z)∧Wd w (blks []++own) ([ah.row 62 z (l:List ai)]++[ah.held w own]) [] w':=by
  have uh:=H.cL 0 rfl
  refine R.cQ (n:=8) (vs:=[bf]) (B:=[ah.held w own]) [(0,bf)] Tryz.func71 rfl rfl rfl rfl H ?_
  refine R.reg rfl<|R.u 1 rfl<|R.nil ?_
  refine R.reg rfl<|R.u 1 rfl<|?_
  rcases Bool.eq_false_or_eq_true (jy bf) with h1|h1
  ·
    refine R.q (q.xF (congrArg Value.bool h1) (q.lV (fun _=>Wd.aS 0 rfl) rfl rfl Tryz.underlying28)) rfl<|R.nil ?_
    refine R.aE rfl rfl ?_
    refine R.reg rfl<|R.u 1 rfl<|R.nil ?_
    refine R.row0 (α:=ai) 62 ?_
    have hz:l=[]:=by (first|rfl|exact (List.nil_append _).symm|exact Sl.jy (H.aS 0 rfl) (by assumption))
    rw [hz]
    exact R.w1 (.slice none 0 0) [0,1] [] rfl Tryz.results71 (RV.tmp rfl) rfl rfl rfl rfl
  ·
    refine R.q (q.xF (congrArg Value.bool h1) (q.lV (fun _=>Wd.aS 0 rfl) rfl rfl Tryz.underlying28)) rfl<|R.nil ?_
    refine R.aH rfl rfl ?_
    refine R.reg rfl<|?_
    refine R.s rfl (s.bs (l:=([]:List ai)) eQ fE rfl rfl rfl rfl rfl rfl rfl) fun b1=>?_
    refine R.u 1 rfl<|?_
    refine R.s rfl (s.app (l2:=l) 0 _ rfl rfl rfl (fun _=>Wd.aS 0 rfl) kZ (by simp;omega) (by simp;omega) (fun _=>rfl) rfl) fun v1=>?_
    refine R.u 1 rfl<|R.nil ?_
    have hz:l=(([])++l):=by (first|rfl|exact (List.nil_append _).symm|exact Sl.jy (H.aS 0 rfl) (by assumption))
    rw [hz]
    exact R.w1 v1 [0,1] [] rfl Tryz.results71 (RV.tmp rfl) rfl rfl rfl rfl
theorem dN (bf:Value)(l:List Note)(w:World)(own:List Nat)(H:Wd w (blks []++own) ([]++[ah.held w own]) [ah.ls bf (l:List Note)] w)(hl:l.length≤1000000):Calls Tryz.prog 81 #[bf] w fun e w' => ∃z:Value,e = .returned (z)∧Wd w (blks []++own) ([ah.row 72 z (l:List Note)]++[ah.held w own]) [] w':=by
  have uh:=H.cL 0 rfl
  refine R.cQ (n:=8) (vs:=[bf]) (B:=[ah.held w own]) [(0,bf)] Tryz.func81 rfl rfl rfl rfl H ?_
  refine R.reg rfl<|R.u 1 rfl<|R.nil ?_
  refine R.reg rfl<|R.u 1 rfl<|?_
  rcases Bool.eq_false_or_eq_true (jy bf) with h1|h1
  ·
    refine R.q (q.xF (congrArg Value.bool h1) (q.lV (fun _=>Wd.aS 0 rfl) rfl rfl Tryz.underlying30)) rfl<|R.nil ?_
    refine R.aE rfl rfl ?_
    refine R.reg rfl<|R.u 1 rfl<|R.nil ?_
    refine R.row0 (α:=Note) 72 ?_
    have hz:l=[]:=by (first|rfl|exact (List.nil_append _).symm|exact Sl.jy (H.aS 0 rfl) (by assumption))
    rw [hz]
    exact R.w1 (.slice none 0 0) [0,1] [] rfl Tryz.results81 (RV.tmp rfl) rfl rfl rfl rfl
  ·
    refine R.q (q.xF (congrArg Value.bool h1) (q.lV (fun _=>Wd.aS 0 rfl) rfl rfl Tryz.underlying30)) rfl<|R.nil ?_
    refine R.aH rfl rfl ?_
    refine R.reg rfl<|?_
    refine R.s rfl (s.bs (l:=([]:List Note)) dH dq rfl rfl rfl rfl rfl rfl rfl) fun b1=>?_
    refine R.u 1 rfl<|?_
    refine R.s rfl (s.app (l2:=l) 0 _ rfl rfl rfl (fun _=>Wd.aS 0 rfl) fF (by simp;omega) (by simp;omega) (fun _=>rfl) rfl) fun v1=>?_
    refine R.u 1 rfl<|R.nil ?_
    have hz:l=(([])++l):=by (first|rfl|exact (List.nil_append _).symm|exact Sl.jy (H.aS 0 rfl) (by assumption))
    rw [hz]
    exact R.w1 v1 [0,1] [] rfl Tryz.results81 (RV.tmp rfl) rfl rfl rfl rfl
theorem jJ (bf:Value)(l:List Note)(i:Nat)(j:Nat)(w:World)(own:List Nat)(H:Wd w (blks [ah.row 72 bf (l:List Note)]++own) ([ah.row 72 bf (l:List Note)]++[ah.held w own]) [] w)(hij:i≤j∧j≤l.length):Calls Tryz.prog 85 #[bf,.int .i64 (i:Int),.int .i64 (j:Int)] w fun e w' => ∃z:Value,e = .returned (z)∧Wd w (blks [ah.row 72 bf (l:List Note)]++own) ([ah.row 72 z ((l.take i++l.drop j):List Note)]++[ah.held w own]) [] w':=by
  have uS:=H.cap 0 rfl;have uh:=H.nf 0 rfl
  refine R.cQ (n:=33) (vs:=[bf,.int .i64 (i:Int),.int .i64 (j:Int)]) (B:=[ah.row 72 bf (l:List Note),ah.held w own]) [(0,bf),(1,.int .i64 (i:Int)),(2,.int .i64 (j:Int))] Tryz.func85 rfl rfl rfl rfl H ?_
  refine R.reg rfl<|R.u 1 rfl<|R.nil ?_
  refine R.reg rfl<|R.u 4 rfl<|R.q (q.len' (fun _=>Wd.row 0 rfl) rfl Tryz.underlying30) rfl<|R.q (q.zO (i:=i) (j:=j) (q':=l.length) (fun _=>Wd.row 0 rfl) rfl rfl rfl rfl dH rfl rfl rfl (by omega) (by omega) (by omega)) rfl<|R.nil ?_
  refine R.reg rfl<|R.u 2 rfl<|?_
  by_cases h1:i=j
  ·
    refine R.q (q.eql rfl rfl (beq_iff_eq.2 (by omega))) rfl<|R.nil ?_
    refine R.aE rfl rfl ?_
    refine R.reg rfl<|R.u 2 rfl<|R.nil ?_
    have hz:l.take i++l.drop j=l:=by (first|rfl|exact iw (by omega))
    rw [hz]
    exact R.w1 bf [0,1] [] rfl Tryz.results85 (RV.tmp rfl) rfl rfl rfl rfl
  ·
    refine R.q (q.eql rfl rfl (beq_eq_false_iff_ne.2 (by omega))) rfl<|R.nil ?_
    refine R.aH rfl rfl ?_
    refine R.reg rfl<|R.u 1 rfl<|R.q (q.len' (fun _=>Wd.row 0 rfl) rfl Tryz.underlying30) rfl<|R.u 1 rfl<|R.nil ?_
    refine R.fT (fuel:=8) (Wd w (blks [ah.row 72 bf (l:List Note)]++own) [ah.held w own] []) rfl mixed rfl ?_
    refine D.q (i:=0) rfl (by kernel_rfl) (fun _=>Wd.aK [1] [] rfl rfl rfl) rfl (q.mv rfl) rfl<|D.q (i:=1) rfl (by kernel_rfl) (fun _=>Wd.aK [1] [] rfl rfl rfl) rfl (q.mv rfl) rfl<|D.q (i:=3) rfl (by kernel_rfl) (fun _=>Wd.aK [1] [] rfl rfl rfl) rfl (q.mv rfl) rfl<|D.q (i:=4) rfl (by kernel_rfl) (fun _=>Wd.aK [1] [] rfl rfl rfl) rfl (q.mv rfl) rfl<|?_
    refine D.two (i:=2) (j:=5) (by kernel_rfl) rfl rfl ?_ ?_
    ·
      refine Do.s (s.c (Qt.a (q.gJ (i:=i) (fun _=>Wd.row 0 rfl) rfl rfl Tryz.underlying30 si rfl (by first|omega|(simp;omega)))) rfl) (fun _=>(fun _=>Wd.aK [1] [] rfl rfl rfl)) rfl fun _=>?_
      refine D.one (i:=5) (by kernel_rfl) rfl ?_
      refine Do.s (s.c (Qt.a (q.dw (i:=j) (fun _=>Wd.row 0 rfl) rfl rfl dH rfl (by first|omega|(simp;omega)))) rfl) (fun _=>(fun _=>Wd.aK [1] [] rfl rfl rfl)) rfl fun _=>?_
      refine D.one (i:=6) (by kernel_rfl) rfl ?_
      refine Do.s (s.oU (a:=i) (l2:=(l.drop j)) 0 _ rfl rfl rfl (fun w hw=>Sl.from ((fun _=>Wd.row 0 rfl) w hw) (by omega)) fF (by omega) (by simp;omega) rfl rfl) (fun _=>(fun _=>Wd.aK [1] [] rfl rfl rfl)) rfl fun _=>?_
      refine D.q (i:=7) rfl (by kernel_rfl) (fun _=>Wd.aK [1] [] rfl rfl rfl) rfl (q.as rfl) rfl<|D.done (by kernel_rfl)<|?_
      refine R.reg rfl<|R.u 2 rfl<|R.q (q.len' (fun _=>Wd.row 0 rfl) rfl Tryz.underlying30) rfl<|R.u 1 rfl<|R.q (q.sl2 (i:=(l.take i++(l.drop j)).length) (j:=l.length) (fun _=>Wd.row 0 rfl) rfl rfl rfl dH rfl rfl (by first|omega|(simp;omega)) (by first|assumption|omega|(simp;omega)|(simp [eA];omega))) rfl<|?_
      refine R.s rfl (s.sd (lo:=(l.take i++(l.drop j)).length) (hi:=l.length) (z0:=(⟨0,⟨#[]⟩,0,0⟩:Note)) 0 rfl rfl dH dq rfl (by first|omega|(simp;omega)) (by first|omega|(simp;omega)) (by first|assumption|omega|(simp;omega)|(simp [eA];omega))) fun _=>?_
      refine R.nil ?_
      refine R.reg rfl<|R.u 2 rfl<|R.nil ?_
      have hz:l.take i++l.drop j=(l.take i++(l.drop j)):=by (first|rfl|exact iw (by omega))
      rw [hz]
      exact R.w1 (gJ bf (i+(l.drop j).length)) [0,1] [] rfl Tryz.results85 (RV.tmp rfl) rfl rfl rfl rfl
    ·
      refine Do.s (s.c (Qt.a (q.dw (i:=j) (fun _=>Wd.row 0 rfl) rfl rfl dH rfl (by first|omega|(simp;omega)))) rfl) (fun _=>(fun _=>Wd.aK [1] [] rfl rfl rfl)) rfl fun _=>?_
      refine D.one (i:=2) (by kernel_rfl) rfl ?_
      refine Do.s (s.c (Qt.a (q.gJ (i:=i) (fun _=>Wd.row 0 rfl) rfl rfl Tryz.underlying30 si rfl (by first|omega|(simp;omega)))) rfl) (fun _=>(fun _=>Wd.aK [1] [] rfl rfl rfl)) rfl fun _=>?_
      refine D.one (i:=6) (by kernel_rfl) rfl ?_
      refine Do.s (s.oU (a:=i) (l2:=(l.drop j)) 0 _ rfl rfl rfl (fun w hw=>Sl.from ((fun _=>Wd.row 0 rfl) w hw) (by omega)) fF (by omega) (by simp;omega) rfl rfl) (fun _=>(fun _=>Wd.aK [1] [] rfl rfl rfl)) rfl fun _=>?_
      refine D.q (i:=7) rfl (by kernel_rfl) (fun _=>Wd.aK [1] [] rfl rfl rfl) rfl (q.as rfl) rfl<|D.done (by kernel_rfl)<|?_
      refine R.reg rfl<|R.u 2 rfl<|R.q (q.len' (fun _=>Wd.row 0 rfl) rfl Tryz.underlying30) rfl<|R.u 1 rfl<|R.q (q.sl2 (i:=(l.take i++(l.drop j)).length) (j:=l.length) (fun _=>Wd.row 0 rfl) rfl rfl rfl dH rfl rfl (by first|omega|(simp;omega)) (by first|assumption|omega|(simp;omega)|(simp [eA];omega))) rfl<|?_
      refine R.s rfl (s.sd (lo:=(l.take i++(l.drop j)).length) (hi:=l.length) (z0:=(⟨0,⟨#[]⟩,0,0⟩:Note)) 0 rfl rfl dH dq rfl (by first|omega|(simp;omega)) (by first|omega|(simp;omega)) (by first|assumption|omega|(simp;omega)|(simp [eA];omega))) fun _=>?_
      refine R.nil ?_
      refine R.reg rfl<|R.u 2 rfl<|R.nil ?_
      have hz:l.take i++l.drop j=(l.take i++(l.drop j)):=by (first|rfl|exact iw (by omega))
      rw [hz]
      exact R.w1 (gJ bf (i+(l.drop j).length)) [0,1] [] rfl Tryz.results85 (RV.tmp rfl) rfl rfl rfl rfl
theorem eJ (bf:Value)(l:List ai)(pr:ai→Bool)(dU:Nat)(e6:List Value)(e7:∀args w,(callFunc dU args).run Tryz.prog w = .ok (.enter dU args) w)(w:World)(dx:Sl w bf l)(gT:∀W (x1:ai),Ext w W→Calls Tryz.prog dU ([x1.val]++e6).toArray W fun e w'=>e = .returned (.bool (pr x1))∧Ext W w'):Calls Tryz.prog 120 #[bf,.func (.func dU) #[] e6.toArray] w fun e w'=>e = .returned (.int .i64 (idxOf pr l))∧Ext w w':=by
  have pC:=dx.dQ
  refine R.enter (n:=19) (vs:=[bf,.func (.func dU) #[] e6.toArray]) [] [(0,bf),(1,.func (.func dU) #[] e6.toArray)] Tryz.func120 rfl rfl rfl rfl ?_
  refine R.reg rfl<|R.u 1 rfl<|R.nil ?_
  refine R.reg rfl<|R.u 1 rfl<|R.q (q.len' (fun _=>Wd.old dx) rfl Tryz.underlying28) rfl<|R.u 1 rfl<|R.nil ?_
  refine R.loop (fun k:Nat=>[(0,bf),(1,.func (.func dU) #[] e6.toArray),(7,.int .i64 (l.length:Int)),(8,.int .i64 (k:Int))]) (fun k:Nat=>[]) (fun k:Nat=>[]) (fun k:Nat=>k≤l.length ∧ ∀ (j:Nat) x,j<k→l[j]? = some x→pr x=false) (fun k:Nat=>l.length-k) 0 rfl (by exact ⟨by omega,fun j x hj=>absurd hj (Nat.not_lt_zero _)⟩) ⟨rfl,rfl,rfl,rfl,trivial⟩ (fun _=>Wd.pick [] [] rfl rfl rfl) ?_
  rintro k ⟨hk,HA⟩
  refine R.reg rfl<|?_
  by_cases h1:k<l.length
  ·
    refine R.q (q.lss rfl rfl (decide_eq_true (by omega))) rfl<|R.nil ?_
    refine R.aE rfl rfl ?_
    refine R.reg rfl<|R.u 2 rfl<|R.nil ?_
    refine R.reg rfl<|R.u 3 rfl<|?_
    obtain ⟨x1,hx1⟩:∃z,l[k]? = some z:=⟨_,List.getElem?_eq_getElem (by omega)⟩
    refine R.q (q.idx (i:=k) (fun _=>Wd.old dx) rfl rfl eQ rfl hx1) rfl<|R.q (q.dY (ds:=[.int .i64 x1.ID,.int .i64 x1.Kind,.string x1.Data]) (fun _=>Wd.old dx) hx1 rfl eR rfl) rfl<|?_
    rcases Bool.eq_false_or_eq_true (pr x1) with h2|h2
    ·
      refine R.c (q.call e7 rfl rfl (fun w hw=>cv (congrArg Value.bool h2) (gT w x1 hw.ext))) rfl<|R.nil ?_
      refine R.aE rfl rfl ?_
      refine R.reg rfl<|R.u 2 rfl<|R.nil ?_
      exact R.rv rfl Tryz.results120 rfl (rI (by (first|exact (idxOf_hit hx1 (by assumption) HA).symm|exact (idxOf_miss (by assumption) HA).symm)))
    ·
      refine R.c (q.call e7 rfl rfl (fun w hw=>cv (congrArg Value.bool h2) (gT w x1 hw.ext))) rfl<|R.nil ?_
      refine R.aH rfl rfl ?_
      refine R.reg rfl<|R.q (q.add (r:=((k+1:Nat):Int)) rfl rfl (wr (by omega))) rfl<|R.u 1 rfl<|R.nil ?_
      refine R.back (k+1) rfl (by (exact ⟨by omega,iz HA hx1 (by assumption)⟩)) (by omega) ⟨rfl,rfl,rfl,rfl,trivial⟩ (fun _=>Wd.pick [] [] rfl rfl rfl)
  ·
    refine R.q (q.lss rfl rfl (decide_eq_false (by omega))) rfl<|R.nil ?_
    refine R.aH rfl rfl ?_
    refine R.reg rfl<|R.u 1 rfl<|R.nil ?_
    exact R.rv rfl Tryz.results120 rfl (rI (by (first|exact (idxOf_hit hx1 (by assumption) HA).symm|exact (idxOf_miss (by assumption) HA).symm)))
theorem hM (bf:Value)(l:List Note)(pr:Note→Bool)(dU:Nat)(e6:List Value)(e7:∀args w,(callFunc dU args).run Tryz.prog w = .ok (.enter dU args) w)(w:World)(dx:Sl w bf l)(gT:∀W (x1:Note),Ext w W→Calls Tryz.prog dU ([x1.val]++e6).toArray W fun e w'=>e = .returned (.bool (pr x1))∧Ext W w'):Calls Tryz.prog 82 #[bf,.func (.func dU) #[] e6.toArray] w fun e w'=>e = .returned (.int .i64 (idxOf pr l))∧Ext w w':=by
  have pC:=dx.dQ
  refine R.enter (n:=19) (vs:=[bf,.func (.func dU) #[] e6.toArray]) [] [(0,bf),(1,.func (.func dU) #[] e6.toArray)] Tryz.func82 rfl rfl rfl rfl ?_
  refine R.reg rfl<|R.u 1 rfl<|R.nil ?_
  refine R.reg rfl<|R.u 1 rfl<|R.q (q.len' (fun _=>Wd.old dx) rfl Tryz.underlying30) rfl<|R.u 1 rfl<|R.nil ?_
  refine R.loop (fun k:Nat=>[(0,bf),(1,.func (.func dU) #[] e6.toArray),(7,.int .i64 (l.length:Int)),(8,.int .i64 (k:Int))]) (fun k:Nat=>[]) (fun k:Nat=>[]) (fun k:Nat=>k≤l.length ∧ ∀ (j:Nat) x,j<k→l[j]? = some x→pr x=false) (fun k:Nat=>l.length-k) 0 rfl (by exact ⟨by omega,fun j x hj=>absurd hj (Nat.not_lt_zero _)⟩) ⟨rfl,rfl,rfl,rfl,trivial⟩ (fun _=>Wd.pick [] [] rfl rfl rfl) ?_
  rintro k ⟨hk,HA⟩
  refine R.reg rfl<|?_
  by_cases h1:k<l.length
  ·
    refine R.q (q.lss rfl rfl (decide_eq_true (by omega))) rfl<|R.nil ?_
    refine R.aE rfl rfl ?_
    refine R.reg rfl<|R.u 2 rfl<|R.nil ?_
    refine R.reg rfl<|R.u 3 rfl<|?_
    obtain ⟨x1,hx1⟩:∃z,l[k]? = some z:=⟨_,List.getElem?_eq_getElem (by omega)⟩
    refine R.q (q.idx (i:=k) (fun _=>Wd.old dx) rfl rfl dH rfl hx1) rfl<|R.q (q.dY (ds:=[.int .i64 x1.Port,.string x1.Data,.int .i64 x1.ar,.int .i64 x1.ak]) (fun _=>Wd.old dx) hx1 rfl bT rfl) rfl<|?_
    rcases Bool.eq_false_or_eq_true (pr x1) with h2|h2
    ·
      refine R.c (q.call e7 rfl rfl (fun w hw=>cv (congrArg Value.bool h2) (gT w x1 hw.ext))) rfl<|R.nil ?_
      refine R.aE rfl rfl ?_
      refine R.reg rfl<|R.u 2 rfl<|R.nil ?_
      exact R.rv rfl Tryz.results82 rfl (rI (by (first|exact (idxOf_hit hx1 (by assumption) HA).symm|exact (idxOf_miss (by assumption) HA).symm)))
    ·
      refine R.c (q.call e7 rfl rfl (fun w hw=>cv (congrArg Value.bool h2) (gT w x1 hw.ext))) rfl<|R.nil ?_
      refine R.aH rfl rfl ?_
      refine R.reg rfl<|R.q (q.add (r:=((k+1:Nat):Int)) rfl rfl (wr (by omega))) rfl<|R.u 1 rfl<|R.nil ?_
      refine R.back (k+1) rfl (by (exact ⟨by omega,iz HA hx1 (by assumption)⟩)) (by omega) ⟨rfl,rfl,rfl,rfl,trivial⟩ (fun _=>Wd.pick [] [] rfl rfl rfl)
  ·
    refine R.q (q.lss rfl rfl (decide_eq_false (by omega))) rfl<|R.nil ?_
    refine R.aH rfl rfl ?_
    refine R.reg rfl<|R.u 1 rfl<|R.nil ?_
    exact R.rv rfl Tryz.results82 rfl (rI (by (first|exact (idxOf_hit hx1 (by assumption) HA).symm|exact (idxOf_miss (by assumption) HA).symm)))
theorem hN (bf:Value)(l:List Held)(pr:Held→Bool)(dU:Nat)(e6:List Value)(e7:∀args w,(callFunc dU args).run Tryz.prog w = .ok (.enter dU args) w)(w:World)(dx:Sl w bf l)(gT:∀W (x1:Held),Ext w W→Calls Tryz.prog dU ([x1.val]++e6).toArray W fun e w'=>e = .returned (.bool (pr x1))∧Ext W w'):Calls Tryz.prog 143 #[bf,.func (.func dU) #[] e6.toArray] w fun e w'=>e = .returned (.int .i64 (idxOf pr l))∧Ext w w':=by
  have pC:=dx.dQ
  refine R.enter (n:=19) (vs:=[bf,.func (.func dU) #[] e6.toArray]) [] [(0,bf),(1,.func (.func dU) #[] e6.toArray)] Tryz.func143 rfl rfl rfl rfl ?_
  refine R.reg rfl<|R.u 1 rfl<|R.nil ?_
  refine R.reg rfl<|R.u 1 rfl<|R.q (q.len' (fun _=>Wd.old dx) rfl Tryz.underlying29) rfl<|R.u 1 rfl<|R.nil ?_
  refine R.loop (fun k:Nat=>[(0,bf),(1,.func (.func dU) #[] e6.toArray),(7,.int .i64 (l.length:Int)),(8,.int .i64 (k:Int))]) (fun k:Nat=>[]) (fun k:Nat=>[]) (fun k:Nat=>k≤l.length ∧ ∀ (j:Nat) x,j<k→l[j]? = some x→pr x=false) (fun k:Nat=>l.length-k) 0 rfl (by exact ⟨by omega,fun j x hj=>absurd hj (Nat.not_lt_zero _)⟩) ⟨rfl,rfl,rfl,rfl,trivial⟩ (fun _=>Wd.pick [] [] rfl rfl rfl) ?_
  rintro k ⟨hk,HA⟩
  refine R.reg rfl<|?_
  by_cases h1:k<l.length
  ·
    refine R.q (q.lss rfl rfl (decide_eq_true (by omega))) rfl<|R.nil ?_
    refine R.aE rfl rfl ?_
    refine R.reg rfl<|R.u 2 rfl<|R.nil ?_
    refine R.reg rfl<|R.u 3 rfl<|?_
    obtain ⟨x1,hx1⟩:∃z,l[k]? = some z:=⟨_,List.getElem?_eq_getElem (by omega)⟩
    refine R.q (q.idx (i:=k) (fun _=>Wd.old dx) rfl rfl bH rfl hx1) rfl<|R.q (q.dY (ds:=[.int .i64 x1.Place.ag,.int .i64 x1.Place.Slot,.int .i64 x1.ak]) (fun _=>Wd.old dx) hx1 rfl dV rfl) rfl<|?_
    rcases Bool.eq_false_or_eq_true (pr x1) with h2|h2
    ·
      refine R.c (q.call e7 rfl rfl (fun w hw=>cv (congrArg Value.bool h2) (gT w x1 hw.ext))) rfl<|R.nil ?_
      refine R.aE rfl rfl ?_
      refine R.reg rfl<|R.u 2 rfl<|R.nil ?_
      exact R.rv rfl Tryz.results143 rfl (rI (by (first|exact (idxOf_hit hx1 (by assumption) HA).symm|exact (idxOf_miss (by assumption) HA).symm)))
    ·
      refine R.c (q.call e7 rfl rfl (fun w hw=>cv (congrArg Value.bool h2) (gT w x1 hw.ext))) rfl<|R.nil ?_
      refine R.aH rfl rfl ?_
      refine R.reg rfl<|R.q (q.add (r:=((k+1:Nat):Int)) rfl rfl (wr (by omega))) rfl<|R.u 1 rfl<|R.nil ?_
      refine R.back (k+1) rfl (by (exact ⟨by omega,iz HA hx1 (by assumption)⟩)) (by omega) ⟨rfl,rfl,rfl,rfl,trivial⟩ (fun _=>Wd.pick [] [] rfl rfl rfl)
  ·
    refine R.q (q.lss rfl rfl (decide_eq_false (by omega))) rfl<|R.nil ?_
    refine R.aH rfl rfl ?_
    refine R.reg rfl<|R.u 1 rfl<|R.nil ?_
    exact R.rv rfl Tryz.results143 rfl (rI (by (first|exact (idxOf_hit hx1 (by assumption) HA).symm|exact (idxOf_miss (by assumption) HA).symm)))
theorem lK (bf:Value)(l:List ai)(pr:ai→Bool)(dU:Nat)(e6:List Value)(e7:∀args w,(callFunc dU args).run Tryz.prog w = .ok (.enter dU args) w)(w:World)(own:List Nat)(H:Wd w (blks [ah.row 62 bf (l:List ai)]++own) ([ah.row 62 bf (l:List ai)]++[ah.held w own]) [] w)(gT:∀W (x1:ai),iL (blks [ah.row 62 bf (l:List ai)]) w W→Calls Tryz.prog dU ([x1.val]++e6).toArray W fun e w'=>e = .returned (.bool (pr x1))∧Ext W w')(hl:l.length≤1000000):Calls Tryz.prog 107 #[bf,.func (.func dU) #[] e6.toArray] w fun e w' => ∃z:Value,e = .returned (z)∧Wd w (blks [ah.row 62 bf (l:List ai)]++own) ([ah.row 62 z ((l.filter (fun x => !pr x)):List ai)]++[ah.held w own]) [] w':=by
  have uS:=H.cap 0 rfl;have uh:=H.nf 0 rfl
  refine R.cQ (n:=42) (vs:=[bf,.func (.func dU) #[] e6.toArray]) (B:=[ah.row 62 bf (l:List ai),ah.held w own]) [(0,bf),(1,.func (.func dU) #[] e6.toArray)] Tryz.func107 rfl rfl rfl rfl H ?_
  refine R.reg rfl<|R.u 1 rfl<|R.nil ?_
  refine R.reg rfl<|R.u 2 rfl<|?_
  rcases fB pr l with ⟨du,kx⟩ | ⟨gQ,cR,du,dZ,fr,f8,Bi⟩
  ·
    refine R.c (q.call o0 rfl rfl (fun w hw=>(cv (congrArg (Value.int .i64) du) (eJ _ (l) pr _ _ e7 w ((fun _=>Wd.row 0 rfl) w hw) (fun W x1 hW=>gT W x1 ((hw.ml 1 rfl).trans ((Ext.upd hW).mono (by simp)))) )))) rfl<|R.u 1 rfl<|R.nil ?_
    refine R.reg rfl<|R.u 1 rfl<|R.q (q.eql (b:=true) rfl rfl (by decide)) rfl<|R.nil ?_
    refine R.aE rfl rfl ?_
    refine R.reg rfl<|R.u 2 rfl<|R.nil ?_
    have hz:l.filter (fun x => !pr x)=l:=by (first|exact iC kx|exact HA.done (by omega))
    rw [hz]
    exact R.w1 bf [0,1] [] rfl Tryz.results107 (RV.tmp rfl) rfl rfl rfl rfl
  ·
    refine R.c (q.call o0 rfl rfl (fun w hw=>(cv (congrArg (Value.int .i64) du) (eJ _ (l) pr _ _ e7 w ((fun _=>Wd.row 0 rfl) w hw) (fun W x1 hW=>gT W x1 ((hw.ml 1 rfl).trans ((Ext.upd hW).mono (by simp)))) )))) rfl<|R.u 1 rfl<|R.nil ?_
    refine R.reg rfl<|R.u 1 rfl<|R.q (q.eql rfl rfl (beq_eq_false_iff_ne.2 (by omega))) rfl<|R.nil ?_
    refine R.aH rfl rfl ?_
    refine R.reg rfl<|R.u 1 rfl<|R.q (q.add (r:=((gQ+1:Nat):Int)) rfl rfl (wr (by omega))) rfl<|R.u 1 rfl<|R.nil ?_
    refine R.loop (fun g_:Nat×Nat×(List ai)=>[(0,bf),(1,.func (.func dU) #[] e6.toArray),(5,.int .i64 (g_.1:Int)),(6,.int .i64 (g_.2.1:Int))]) (fun g_:Nat×Nat×(List ai)=>[ah.row 62 bf (g_.2.2:List ai),ah.held w own]) (fun g_:Nat×Nat×(List ai)=>[]) (fun g_:Nat×Nat×(List ai)=>jl pr l g_.2.2 g_.1 g_.2.1) (fun g_:Nat×Nat×(List ai)=>l.length-g_.2.1) (gQ,(gQ+1),l) rfl (by exact jl.start dZ fr f8) ⟨rfl,rfl,rfl,rfl,trivial⟩ (fun _=>Wd.pick [0,1] [] rfl rfl rfl) ?_
    rintro ⟨a,b,acc⟩ HA
    dsimp only at *
    have t1:=HA.1;have t2:=HA.2.1;have t3:=HA.2.2.1
    refine R.reg rfl<|R.u 2 rfl<|R.q (q.len' (fun _=>Wd.row 0 rfl) rfl Tryz.underlying28) rfl<|?_
    by_cases h1:b<acc.length
    ·
      refine R.q (q.lss rfl rfl (decide_eq_true (by omega))) rfl<|R.nil ?_
      refine R.aE rfl rfl ?_
      refine R.reg rfl<|R.u 2 rfl<|?_
      obtain ⟨x1,hx1⟩:∃z,acc[b]? = some z:=⟨_,List.getElem?_eq_getElem (by omega)⟩
      refine R.q (q.idx (i:=b) (fun _=>Wd.row 0 rfl) rfl rfl eQ rfl hx1) rfl<|R.q (q.dY (ds:=[.int .i64 x1.ID,.int .i64 x1.Kind,.string x1.Data]) (fun _=>Wd.row 0 rfl) hx1 rfl eR rfl) rfl<|?_
      refine R.s rfl (s.alloc (cs:=[.int .i64 0,.int .i64 0,.string (⟨#[]⟩)]) fE rfl rfl) fun b1=>?_
      refine R.s rfl (s.st (us:=[.int .i64 x1.ID,.int .i64 x1.Kind,.string x1.Data]) (cs':=[.int .i64 x1.ID,.int .i64 x1.Kind,.string x1.Data]) 0 _ rfl rfl rfl rfl (.inl eR) rfl rfl rfl rfl) fun _=>?_
      refine R.nil ?_
      refine R.reg rfl<|R.u 1 rfl<|R.q (q.cF 0 rfl rfl eR) rfl<|?_
      rcases Bool.eq_false_or_eq_true (pr x1) with h2|h2
      ·
        refine R.c (q.call e7 rfl rfl (fun w hw=>cv (congrArg Value.bool h2) (gT w x1 (hw.ml 2 rfl)))) rfl<|R.u 1 rfl<|R.nil ?_
        refine R.aH rfl rfl ?_
        refine R.reg rfl<|R.u 1 rfl<|R.q (q.add (r:=((b+1:Nat):Int)) rfl rfl (wr (by omega))) rfl<|R.u 1 rfl<|R.nil ?_
        refine R.back (a,(b+1),acc) rfl (by (first|exact HA.keep hx1 (by assumption)|exact HA.skip hx1 (by assumption))) (by dsimp only;omega) ⟨rfl,rfl,rfl,rfl,trivial⟩ (fun _=>Wd.aK [1,2] [] rfl rfl rfl)
      ·
        refine R.c (q.call e7 rfl rfl (fun w hw=>cv (congrArg Value.bool h2) (gT w x1 (hw.ml 2 rfl)))) rfl<|R.u 1 rfl<|R.nil ?_
        refine R.aE rfl rfl ?_
        refine R.reg rfl<|R.u 2 rfl<|R.q (q.cF 0 rfl rfl eR) rfl<|?_
        obtain ⟨x2,hx2⟩:∃z,acc[a]? = some z:=⟨_,List.getElem?_eq_getElem (by omega)⟩
        refine R.q (q.idx (i:=a) (fun _=>Wd.row 1 rfl) rfl rfl eQ rfl hx2) rfl<|?_
        refine R.s rfl (s.Bp (z:=x1) 1 _ rfl hx2 rfl rfl rfl rfl (.inl eR) rfl) fun _=>?_
        refine R.nil ?_
        refine R.reg rfl<|R.u 1 rfl<|R.q (q.add (r:=((a+1:Nat):Int)) rfl rfl (wr (by omega))) rfl<|R.u 1 rfl<|R.nil ?_
        refine R.reg rfl<|R.u 1 rfl<|R.q (q.add (r:=((b+1:Nat):Int)) rfl rfl (wr (by omega))) rfl<|R.u 1 rfl<|R.nil ?_
        refine R.back ((a+1),(b+1),(acc.set a x1)) rfl (by (first|exact HA.keep hx1 (by assumption)|exact HA.skip hx1 (by assumption))) (by dsimp only;omega) ⟨rfl,rfl,rfl,rfl,trivial⟩ (fun _=>Wd.aK [1,2] [] rfl rfl rfl)
    ·
      refine R.q (q.lss rfl rfl (decide_eq_false (by omega))) rfl<|R.nil ?_
      refine R.aH rfl rfl ?_
      refine R.reg rfl<|R.u 2 rfl<|R.q (q.dw (i:=a) (fun _=>Wd.row 0 rfl) rfl rfl eQ rfl (by first|omega|(simp;omega))) rfl<|?_
      refine R.s rfl (s.yj (lo:=a) (z0:=(⟨0,0,⟨#[]⟩⟩:ai)) 0 _ rfl rfl eQ fE rfl (by first|omega|(simp;omega)) rfl) fun _=>?_
      refine R.nil ?_
      refine R.reg rfl<|R.u 2 rfl<|R.q (q.gJ (i:=a) (fun _=>Wd.row 0 rfl) rfl rfl Tryz.underlying28 wI rfl (by first|omega|(simp;omega))) rfl<|R.u 1 rfl<|R.nil ?_
      refine R.uv 0 a _ rfl (by first|omega|(simp;omega)) rfl ?_
      have hz:l.filter (fun x => !pr x)=((acc.take a++List.replicate (acc.length-a) (⟨0,0,⟨#[]⟩⟩:ai)).take a):=by (first|exact iC kx|exact HA.done (by omega))
      rw [hz]
      exact R.w1 (gJ bf a) [0,1] [] rfl Tryz.results107 (RV.tmp rfl) rfl rfl rfl rfl
theorem mA (bf:Value)(l:List Held)(pr:Held→Bool)(dU:Nat)(e6:List Value)(e7:∀args w,(callFunc dU args).run Tryz.prog w = .ok (.enter dU args) w)(w:World)(own:List Nat)(H:Wd w (blks [ah.row 85 bf (l:List Held)]++own) ([ah.row 85 bf (l:List Held)]++[ah.held w own]) [] w)(gT:∀W (x1:Held),iL (blks [ah.row 85 bf (l:List Held)]) w W→Calls Tryz.prog dU ([x1.val]++e6).toArray W fun e w'=>e = .returned (.bool (pr x1))∧Ext W w')(hl:l.length≤1000000):Calls Tryz.prog 109 #[bf,.func (.func dU) #[] e6.toArray] w fun e w' => ∃z:Value,e = .returned (z)∧Wd w (blks [ah.row 85 bf (l:List Held)]++own) ([ah.row 85 z ((l.filter (fun x => !pr x)):List Held)]++[ah.held w own]) [] w':=by
  have uS:=H.cap 0 rfl;have uh:=H.nf 0 rfl
  refine R.cQ (n:=42) (vs:=[bf,.func (.func dU) #[] e6.toArray]) (B:=[ah.row 85 bf (l:List Held),ah.held w own]) [(0,bf),(1,.func (.func dU) #[] e6.toArray)] Tryz.func109 rfl rfl rfl rfl H ?_
  refine R.reg rfl<|R.u 1 rfl<|R.nil ?_
  refine R.reg rfl<|R.u 2 rfl<|?_
  rcases fB pr l with ⟨du,kx⟩ | ⟨gQ,cR,du,dZ,fr,f8,Bi⟩
  ·
    refine R.c (q.call uK rfl rfl (fun w hw=>(cv (congrArg (Value.int .i64) du) (hN _ (l) pr _ _ e7 w ((fun _=>Wd.row 0 rfl) w hw) (fun W x1 hW=>gT W x1 ((hw.ml 1 rfl).trans ((Ext.upd hW).mono (by simp)))) )))) rfl<|R.u 1 rfl<|R.nil ?_
    refine R.reg rfl<|R.u 1 rfl<|R.q (q.eql (b:=true) rfl rfl (by decide)) rfl<|R.nil ?_
    refine R.aE rfl rfl ?_
    refine R.reg rfl<|R.u 2 rfl<|R.nil ?_
    have hz:l.filter (fun x => !pr x)=l:=by (first|exact iC kx|exact HA.done (by omega))
    rw [hz]
    exact R.w1 bf [0,1] [] rfl Tryz.results109 (RV.tmp rfl) rfl rfl rfl rfl
  ·
    refine R.c (q.call uK rfl rfl (fun w hw=>(cv (congrArg (Value.int .i64) du) (hN _ (l) pr _ _ e7 w ((fun _=>Wd.row 0 rfl) w hw) (fun W x1 hW=>gT W x1 ((hw.ml 1 rfl).trans ((Ext.upd hW).mono (by simp)))) )))) rfl<|R.u 1 rfl<|R.nil ?_
    refine R.reg rfl<|R.u 1 rfl<|R.q (q.eql rfl rfl (beq_eq_false_iff_ne.2 (by omega))) rfl<|R.nil ?_
    refine R.aH rfl rfl ?_
    refine R.reg rfl<|R.u 1 rfl<|R.q (q.add (r:=((gQ+1:Nat):Int)) rfl rfl (wr (by omega))) rfl<|R.u 1 rfl<|R.nil ?_
    refine R.loop (fun g_:Nat×Nat×(List Held)=>[(0,bf),(1,.func (.func dU) #[] e6.toArray),(5,.int .i64 (g_.1:Int)),(6,.int .i64 (g_.2.1:Int))]) (fun g_:Nat×Nat×(List Held)=>[ah.row 85 bf (g_.2.2:List Held),ah.held w own]) (fun g_:Nat×Nat×(List Held)=>[]) (fun g_:Nat×Nat×(List Held)=>jl pr l g_.2.2 g_.1 g_.2.1) (fun g_:Nat×Nat×(List Held)=>l.length-g_.2.1) (gQ,(gQ+1),l) rfl (by exact jl.start dZ fr f8) ⟨rfl,rfl,rfl,rfl,trivial⟩ (fun _=>Wd.pick [0,1] [] rfl rfl rfl) ?_
    rintro ⟨a,b,acc⟩ HA
    dsimp only at *
    have t1:=HA.1;have t2:=HA.2.1;have t3:=HA.2.2.1
    refine R.reg rfl<|R.u 2 rfl<|R.q (q.len' (fun _=>Wd.row 0 rfl) rfl Tryz.underlying29) rfl<|?_
    by_cases h1:b<acc.length
    ·
      refine R.q (q.lss rfl rfl (decide_eq_true (by omega))) rfl<|R.nil ?_
      refine R.aE rfl rfl ?_
      refine R.reg rfl<|R.u 2 rfl<|?_
      obtain ⟨x1,hx1⟩:∃z,acc[b]? = some z:=⟨_,List.getElem?_eq_getElem (by omega)⟩
      refine R.q (q.idx (i:=b) (fun _=>Wd.row 0 rfl) rfl rfl bH rfl hx1) rfl<|R.q (q.dY (ds:=[.int .i64 x1.Place.ag,.int .i64 x1.Place.Slot,.int .i64 x1.ak]) (fun _=>Wd.row 0 rfl) hx1 rfl dV rfl) rfl<|?_
      refine R.s rfl (s.alloc (cs:=[.int .i64 0,.int .i64 0,.int .i64 0]) eV rfl rfl) fun b1=>?_
      refine R.s rfl (s.st (us:=[.int .i64 x1.Place.ag,.int .i64 x1.Place.Slot,.int .i64 x1.ak]) (cs':=[.int .i64 x1.Place.ag,.int .i64 x1.Place.Slot,.int .i64 x1.ak]) 0 _ rfl rfl rfl rfl (.inl dV) rfl rfl rfl rfl) fun _=>?_
      refine R.nil ?_
      refine R.reg rfl<|R.u 1 rfl<|R.q (q.cF 0 rfl rfl dV) rfl<|?_
      rcases Bool.eq_false_or_eq_true (pr x1) with h2|h2
      ·
        refine R.c (q.call e7 rfl rfl (fun w hw=>cv (congrArg Value.bool h2) (gT w x1 (hw.ml 2 rfl)))) rfl<|R.u 1 rfl<|R.nil ?_
        refine R.aH rfl rfl ?_
        refine R.reg rfl<|R.u 1 rfl<|R.q (q.add (r:=((b+1:Nat):Int)) rfl rfl (wr (by omega))) rfl<|R.u 1 rfl<|R.nil ?_
        refine R.back (a,(b+1),acc) rfl (by (first|exact HA.keep hx1 (by assumption)|exact HA.skip hx1 (by assumption))) (by dsimp only;omega) ⟨rfl,rfl,rfl,rfl,trivial⟩ (fun _=>Wd.aK [1,2] [] rfl rfl rfl)
      ·
        refine R.c (q.call e7 rfl rfl (fun w hw=>cv (congrArg Value.bool h2) (gT w x1 (hw.ml 2 rfl)))) rfl<|R.u 1 rfl<|R.nil ?_
        refine R.aE rfl rfl ?_
        refine R.reg rfl<|R.u 2 rfl<|R.q (q.cF 0 rfl rfl dV) rfl<|?_
        obtain ⟨x2,hx2⟩:∃z,acc[a]? = some z:=⟨_,List.getElem?_eq_getElem (by omega)⟩
        refine R.q (q.idx (i:=a) (fun _=>Wd.row 1 rfl) rfl rfl bH rfl hx2) rfl<|?_
        refine R.s rfl (s.Bp (z:=x1) 1 _ rfl hx2 rfl rfl rfl rfl (.inl dV) rfl) fun _=>?_
        refine R.nil ?_
        refine R.reg rfl<|R.u 1 rfl<|R.q (q.add (r:=((a+1:Nat):Int)) rfl rfl (wr (by omega))) rfl<|R.u 1 rfl<|R.nil ?_
        refine R.reg rfl<|R.u 1 rfl<|R.q (q.add (r:=((b+1:Nat):Int)) rfl rfl (wr (by omega))) rfl<|R.u 1 rfl<|R.nil ?_
        refine R.back ((a+1),(b+1),(acc.set a x1)) rfl (by (first|exact HA.keep hx1 (by assumption)|exact HA.skip hx1 (by assumption))) (by dsimp only;omega) ⟨rfl,rfl,rfl,rfl,trivial⟩ (fun _=>Wd.aK [1,2] [] rfl rfl rfl)
    ·
      refine R.q (q.lss rfl rfl (decide_eq_false (by omega))) rfl<|R.nil ?_
      refine R.aH rfl rfl ?_
      refine R.reg rfl<|R.u 2 rfl<|R.q (q.dw (i:=a) (fun _=>Wd.row 0 rfl) rfl rfl bH rfl (by first|omega|(simp;omega))) rfl<|?_
      refine R.s rfl (s.yj (lo:=a) (z0:=(⟨(⟨0,0⟩:Place),0⟩:Held)) 0 _ rfl rfl bH eV rfl (by first|omega|(simp;omega)) rfl) fun _=>?_
      refine R.nil ?_
      refine R.reg rfl<|R.u 2 rfl<|R.q (q.gJ (i:=a) (fun _=>Wd.row 0 rfl) rfl rfl Tryz.underlying29 mG rfl (by first|omega|(simp;omega))) rfl<|R.u 1 rfl<|R.nil ?_
      refine R.uv 0 a _ rfl (by first|omega|(simp;omega)) rfl ?_
      have hz:l.filter (fun x => !pr x)=((acc.take a++List.replicate (acc.length-a) (⟨(⟨0,0⟩:Place),0⟩:Held)).take a):=by (first|exact iC kx|exact HA.done (by omega))
      rw [hz]
      exact R.w1 (gJ bf a) [0,1] [] rfl Tryz.results109 (RV.tmp rfl) rfl rfl rfl rfl
theorem mB (bf:Value)(l:List ak)(pr:ak→Bool)(dU:Nat)(e6:List Value)(e7:∀args w,(callFunc dU args).run Tryz.prog w = .ok (.enter dU args) w)(w:World)(own:List Nat)(H:Wd w (blks [ah.row 88 bf (l:List ak)]++own) ([ah.row 88 bf (l:List ak)]++[ah.held w own]) [] w)(gT:∀W (x1:ak),iL (blks [ah.row 88 bf (l:List ak)]) w W→Calls Tryz.prog dU ([x1.val]++e6).toArray W fun e w'=>e = .returned (.bool (pr x1))∧Ext W w')(hl:l.length≤1000000):Calls Tryz.prog 76 #[bf,.func (.func dU) #[] e6.toArray] w fun e w' => ∃z:Value,e = .returned (z)∧Wd w (blks [ah.row 88 bf (l:List ak)]++own) ([ah.row 88 z ((l.filter (fun x => !pr x)):List ak)]++[ah.held w own]) [] w':=by
  have uS:=H.cap 0 rfl;have uh:=H.nf 0 rfl
  refine R.cQ (n:=42) (vs:=[bf,.func (.func dU) #[] e6.toArray]) (B:=[ah.row 88 bf (l:List ak),ah.held w own]) [(0,bf),(1,.func (.func dU) #[] e6.toArray)] Tryz.func76 rfl rfl rfl rfl H ?_
  refine R.reg rfl<|R.u 1 rfl<|R.nil ?_
  refine R.reg rfl<|R.u 2 rfl<|?_
  rcases fB pr l with ⟨du,kx⟩ | ⟨gQ,cR,du,dZ,fr,f8,Bi⟩
  ·
    refine R.c (q.call qM rfl rfl (fun w hw=>(cv (congrArg (Value.int .i64) du) (gP _ (l) pr _ _ e7 w ((fun _=>Wd.row 0 rfl) w hw) (fun W x1 hW=>gT W x1 ((hw.ml 1 rfl).trans ((Ext.upd hW).mono (by simp)))) )))) rfl<|R.u 1 rfl<|R.nil ?_
    refine R.reg rfl<|R.u 1 rfl<|R.q (q.eql (b:=true) rfl rfl (by decide)) rfl<|R.nil ?_
    refine R.aE rfl rfl ?_
    refine R.reg rfl<|R.u 2 rfl<|R.nil ?_
    have hz:l.filter (fun x => !pr x)=l:=by (first|exact iC kx|exact HA.done (by omega))
    rw [hz]
    exact R.w1 bf [0,1] [] rfl Tryz.results76 (RV.tmp rfl) rfl rfl rfl rfl
  ·
    refine R.c (q.call qM rfl rfl (fun w hw=>(cv (congrArg (Value.int .i64) du) (gP _ (l) pr _ _ e7 w ((fun _=>Wd.row 0 rfl) w hw) (fun W x1 hW=>gT W x1 ((hw.ml 1 rfl).trans ((Ext.upd hW).mono (by simp)))) )))) rfl<|R.u 1 rfl<|R.nil ?_
    refine R.reg rfl<|R.u 1 rfl<|R.q (q.eql rfl rfl (beq_eq_false_iff_ne.2 (by omega))) rfl<|R.nil ?_
    refine R.aH rfl rfl ?_
    refine R.reg rfl<|R.u 1 rfl<|R.q (q.add (r:=((gQ+1:Nat):Int)) rfl rfl (wr (by omega))) rfl<|R.u 1 rfl<|R.nil ?_
    refine R.loop (fun g_:Nat×Nat×(List ak)=>[(0,bf),(1,.func (.func dU) #[] e6.toArray),(5,.int .i64 (g_.1:Int)),(6,.int .i64 (g_.2.1:Int))]) (fun g_:Nat×Nat×(List ak)=>[ah.row 88 bf (g_.2.2:List ak),ah.held w own]) (fun g_:Nat×Nat×(List ak)=>[]) (fun g_:Nat×Nat×(List ak)=>jl pr l g_.2.2 g_.1 g_.2.1) (fun g_:Nat×Nat×(List ak)=>l.length-g_.2.1) (gQ,(gQ+1),l) rfl (by exact jl.start dZ fr f8) ⟨rfl,rfl,rfl,rfl,trivial⟩ (fun _=>Wd.pick [0,1] [] rfl rfl rfl) ?_
    rintro ⟨a,b,acc⟩ HA
    dsimp only at *
    have t1:=HA.1;have t2:=HA.2.1;have t3:=HA.2.2.1
    refine R.reg rfl<|R.u 2 rfl<|R.q (q.len' (fun _=>Wd.row 0 rfl) rfl Tryz.underlying27) rfl<|?_
    by_cases h1:b<acc.length
    ·
      refine R.q (q.lss rfl rfl (decide_eq_true (by omega))) rfl<|R.nil ?_
      refine R.aE rfl rfl ?_
      refine R.reg rfl<|R.u 2 rfl<|?_
      obtain ⟨x1,hx1⟩:∃z,acc[b]? = some z:=⟨_,List.getElem?_eq_getElem (by omega)⟩
      refine R.q (q.idx (i:=b) (fun _=>Wd.row 0 rfl) rfl rfl ct rfl hx1) rfl<|R.q (q.dY (ds:=[.int .i64 x1.ID,.int .i64 x1.ai,.int .i64 x1.Rights,.int .i64 x1.ar,.int .i64 x1.From]) (fun _=>Wd.row 0 rfl) hx1 rfl aN rfl) rfl<|?_
      refine R.s rfl (s.alloc (cs:=[.int .i64 0,.int .i64 0,.int .i64 0,.int .i64 0,.int .i64 0]) br rfl rfl) fun b1=>?_
      refine R.s rfl (s.st (us:=[.int .i64 x1.ID,.int .i64 x1.ai,.int .i64 x1.Rights,.int .i64 x1.ar,.int .i64 x1.From]) (cs':=[.int .i64 x1.ID,.int .i64 x1.ai,.int .i64 x1.Rights,.int .i64 x1.ar,.int .i64 x1.From]) 0 _ rfl rfl rfl rfl (.inl aN) rfl rfl rfl rfl) fun _=>?_
      refine R.nil ?_
      refine R.reg rfl<|R.u 1 rfl<|R.q (q.cF 0 rfl rfl aN) rfl<|?_
      rcases Bool.eq_false_or_eq_true (pr x1) with h2|h2
      ·
        refine R.c (q.call e7 rfl rfl (fun w hw=>cv (congrArg Value.bool h2) (gT w x1 (hw.ml 2 rfl)))) rfl<|R.u 1 rfl<|R.nil ?_
        refine R.aH rfl rfl ?_
        refine R.reg rfl<|R.u 1 rfl<|R.q (q.add (r:=((b+1:Nat):Int)) rfl rfl (wr (by omega))) rfl<|R.u 1 rfl<|R.nil ?_
        refine R.back (a,(b+1),acc) rfl (by (first|exact HA.keep hx1 (by assumption)|exact HA.skip hx1 (by assumption))) (by dsimp only;omega) ⟨rfl,rfl,rfl,rfl,trivial⟩ (fun _=>Wd.aK [1,2] [] rfl rfl rfl)
      ·
        refine R.c (q.call e7 rfl rfl (fun w hw=>cv (congrArg Value.bool h2) (gT w x1 (hw.ml 2 rfl)))) rfl<|R.u 1 rfl<|R.nil ?_
        refine R.aE rfl rfl ?_
        refine R.reg rfl<|R.u 2 rfl<|R.q (q.cF 0 rfl rfl aN) rfl<|?_
        obtain ⟨x2,hx2⟩:∃z,acc[a]? = some z:=⟨_,List.getElem?_eq_getElem (by omega)⟩
        refine R.q (q.idx (i:=a) (fun _=>Wd.row 1 rfl) rfl rfl ct rfl hx2) rfl<|?_
        refine R.s rfl (s.Bp (z:=x1) 1 _ rfl hx2 rfl rfl rfl rfl (.inl aN) rfl) fun _=>?_
        refine R.nil ?_
        refine R.reg rfl<|R.u 1 rfl<|R.q (q.add (r:=((a+1:Nat):Int)) rfl rfl (wr (by omega))) rfl<|R.u 1 rfl<|R.nil ?_
        refine R.reg rfl<|R.u 1 rfl<|R.q (q.add (r:=((b+1:Nat):Int)) rfl rfl (wr (by omega))) rfl<|R.u 1 rfl<|R.nil ?_
        refine R.back ((a+1),(b+1),(acc.set a x1)) rfl (by (first|exact HA.keep hx1 (by assumption)|exact HA.skip hx1 (by assumption))) (by dsimp only;omega) ⟨rfl,rfl,rfl,rfl,trivial⟩ (fun _=>Wd.aK [1,2] [] rfl rfl rfl)
    ·
      refine R.q (q.lss rfl rfl (decide_eq_false (by omega))) rfl<|R.nil ?_
      refine R.aH rfl rfl ?_
      refine R.reg rfl<|R.u 2 rfl<|R.q (q.dw (i:=a) (fun _=>Wd.row 0 rfl) rfl rfl ct rfl (by first|omega|(simp;omega))) rfl<|?_
      refine R.s rfl (s.yj (lo:=a) (z0:=(⟨0,0,0,0,0⟩:ak)) 0 _ rfl rfl ct br rfl (by first|omega|(simp;omega)) rfl) fun _=>?_
      refine R.nil ?_
      refine R.reg rfl<|R.u 2 rfl<|R.q (q.gJ (i:=a) (fun _=>Wd.row 0 rfl) rfl rfl Tryz.underlying27 oX rfl (by first|omega|(simp;omega))) rfl<|R.u 1 rfl<|R.nil ?_
      refine R.uv 0 a _ rfl (by first|omega|(simp;omega)) rfl ?_
      have hz:l.filter (fun x => !pr x)=((acc.take a++List.replicate (acc.length-a) (⟨0,0,0,0,0⟩:ak)).take a):=by (first|exact iC kx|exact HA.done (by omega))
      rw [hz]
      exact R.w1 (gJ bf a) [0,1] [] rfl Tryz.results76 (RV.tmp rfl) rfl rfl rfl rfl
theorem l9 (bf:Value)(l:List ak)(w:World)(dx:Sl w bf l)(hl:l.length≤1000000):Calls Tryz.prog 29 #[bf] w fun e w' => ∃u,e = .returned u∧Own w.heap.size 3 w' u (aR l)∧Ext w w':=qV bf l w dx hl
theorem qY (bf:Value)(l:List Int)(x:Int)(w:World)(dx:Sl w bf l):Calls Tryz.prog 119 #[bf,.int .i64 x] w fun e w'=>e = .returned (.int .i64 (idxOf (fun y=>y==x) l))∧Ext w w':=by
  have pC:=dx.dQ
  refine R.enter (n:=19) (vs:=[bf,.int .i64 x]) [] [(0,bf),(1,.int .i64 x)] Tryz.func119 rfl rfl rfl rfl ?_
  refine R.reg rfl<|R.u 1 rfl<|R.nil ?_
  refine R.reg rfl<|R.u 1 rfl<|R.q (q.len' (fun _=>Wd.old dx) rfl Tryz.underlying60) rfl<|R.u 1 rfl<|R.nil ?_
  refine R.loop (fun k:Nat=>[(0,bf),(1,.int .i64 x),(7,.int .i64 (l.length:Int)),(8,.int .i64 (k:Int))]) (fun k:Nat=>[]) (fun k:Nat=>[]) (fun k:Nat=>k≤l.length ∧ ∀ (j:Nat) y,j<k→l[j]? = some y→(y==x)=false) (fun k:Nat=>l.length-k) 0 rfl (by exact ⟨by omega,fun j x hj=>absurd hj (Nat.not_lt_zero _)⟩) ⟨rfl,rfl,rfl,rfl,trivial⟩ (fun _=>Wd.pick [] [] rfl rfl rfl) ?_
  rintro k ⟨hk,HA⟩
  refine R.reg rfl<|?_
  by_cases h1:k<l.length
  ·
    refine R.q (q.lss rfl rfl (decide_eq_true (by omega))) rfl<|R.nil ?_
    refine R.aE rfl rfl ?_
    refine R.reg rfl<|R.u 2 rfl<|R.nil ?_
    refine R.reg rfl<|R.u 3 rfl<|?_
    obtain ⟨x1,hx1⟩:∃z,l[k]? = some z:=⟨_,List.getElem?_eq_getElem (by omega)⟩
    refine R.q (q.idx (i:=k) (fun _=>Wd.old dx) rfl rfl cG rfl hx1) rfl<|R.q (q.hZ (fun _=>Wd.old dx) hx1 rfl aA rfl) rfl<|?_
    by_cases h2:x=x1
    ·
      refine R.q (q.eql rfl rfl (beq_iff_eq.2 (by omega))) rfl<|R.nil ?_
      refine R.aE rfl rfl ?_
      refine R.reg rfl<|R.u 2 rfl<|R.nil ?_
      exact R.rv rfl Tryz.results119 rfl (rI (by (first|exact (idxOf_hit (p:=fun y=>y==x) hx1 (beq_iff_eq.2 (by omega)) HA).symm|exact (idxOf_miss (by assumption) HA).symm)))
    ·
      refine R.q (q.eql rfl rfl (beq_eq_false_iff_ne.2 (by omega))) rfl<|R.nil ?_
      refine R.aH rfl rfl ?_
      refine R.reg rfl<|R.q (q.add (r:=((k+1:Nat):Int)) rfl rfl (wr (by omega))) rfl<|R.u 1 rfl<|R.nil ?_
      refine R.back (k+1) rfl (by (exact ⟨by omega,iz (p:=fun y=>y==x) HA hx1 (beq_eq_false_iff_ne.2 (by omega))⟩)) (by omega) ⟨rfl,rfl,rfl,rfl,trivial⟩ (fun _=>Wd.pick [] [] rfl rfl rfl)
  ·
    refine R.q (q.lss rfl rfl (decide_eq_false (by omega))) rfl<|R.nil ?_
    refine R.aH rfl rfl ?_
    refine R.reg rfl<|R.u 1 rfl<|R.nil ?_
    exact R.rv rfl Tryz.results119 rfl (rI (by (first|exact (idxOf_hit (p:=fun y=>y==x) hx1 (beq_iff_eq.2 (by omega)) HA).symm|exact (idxOf_miss (by assumption) HA).symm)))
theorem sE {l:List Int}{x:Int}:(0≤idxOf (fun y=>y==x) l)=(x∈l):=by
  rcases fB (fun y:Int=>y==x) l with ⟨h,hn⟩ | ⟨k,y,h,hy,he,_,_⟩
  · rw [h];simp;intro hm;have:=hn x hm;simp at this
  ·
    rw [h];simp
    have:y=x:=by simpa using he
    subst this;exact List.mem_of_getElem? hy
theorem dO (bf:Value)(l:List Int)(x:Int)(w:World)(dx:Sl w bf l):Calls Tryz.prog 79 #[bf,.int .i64 x] w fun e w'=>e = .returned (.bool (decide (x∈l)))∧Ext w w':=by
  have pC:=dx.dQ
  refine R.enter (n:=9) (vs:=[bf,.int .i64 x]) [] [(0,bf),(1,.int .i64 x)] Tryz.func79 rfl rfl rfl rfl ?_
  refine R.reg rfl<|R.u 1 rfl<|R.nil ?_
  refine R.reg rfl<|R.u 2 rfl<|R.c (q.call yz rfl rfl (fun w hw=>(qY _ (l) (x) w ((fun _=>Wd.old dx) w hw) ))) rfl<|?_
  by_cases h1:idxOf (fun y=>y==x) l<0
  ·
    refine R.q (q.geq rfl rfl (decide_eq_false (by omega))) rfl<|R.u 1 rfl<|R.nil ?_
    exact R.rv rfl Tryz.results79 rfl (rB (by (have e:=sE (l:=l) (x:=x);first|exact (decide_eq_true (e▸(by omega))).symm|exact (decide_eq_false (e▸(by omega))).symm)))
  ·
    refine R.q (q.geq rfl rfl (decide_eq_true (by omega))) rfl<|R.u 1 rfl<|R.nil ?_
    exact R.rv rfl Tryz.results79 rfl (rB (by (have e:=sE (l:=l) (x:=x);first|exact (decide_eq_true (e▸(by omega))).symm|exact (decide_eq_false (e▸(by omega))).symm)))
theorem i6 (aD az aC aB:Value)(r:au)(p:Place)(w:World)(nV:Sl w aD r.aj)(pj:Sl w az r.Things)(qZ:Sl w aC r.Held)(wU:Sl w aB r.Notes)(hk:Ok r):Calls Tryz.prog 61 #[.agg #[aD,az,aC,aB,.int .i64 r.ae,.int .i64 r.af],.agg #[.int .i64 p.ag,.int .i64 p.Slot]] w fun e w'=>e = .returned (.tuple #[ak.val ((ap r p).1),eG ((ap r p).2)])∧Ext w w':=by
  have b1:=hk.hl
  refine R.enter (n:=30) (vs:=[.agg #[aD,az,aC,aB,.int .i64 r.ae,.int .i64 r.af],.agg #[.int .i64 p.ag,.int .i64 p.Slot]]) [] [(0,.agg #[aD,az,aC,aB,.int .i64 r.ae,.int .i64 r.af]),(1,.agg #[.int .i64 p.ag,.int .i64 p.Slot])] Tryz.func61 rfl rfl rfl rfl ?_
  refine R.reg rfl<|?_
  refine R.s rfl (s.box (cs:=[aD,az,aC,aB,.int .i64 r.ae,.int .i64 r.af]) rfl rfl rfl) fun b1=>?_
  refine R.s rfl (s.box (cs:=[.int .i64 p.ag,.int .i64 p.Slot]) rfl rfl rfl) fun b2=>?_
  refine R.s rfl (s.alloc (cs:=[.int .i64 0,.int .i64 0,.int .i64 0,.int .i64 0,.int .i64 0]) br rfl rfl) fun b3=>?_
  refine R.u 1 rfl<|R.nil ?_
  refine R.reg rfl<|R.q (q.cF 1 rfl rfl bk) rfl<|R.c (q.call su rfl rfl (fun w hw=>(fI (p) w  ))) rfl<|R.u 1 rfl<|R.nil ?_
  refine R.reg rfl<|R.u 1 rfl<|?_
  by_cases h1:aW p=0
  ·
    refine R.q (q.fa rfl rfl Tryz.underlying35 (by omega)) rfl<|R.nil ?_
    refine R.aH rfl rfl ?_
    rcases dB r.aj (hY r.Held p) with ⟨du,kx⟩ | ⟨jV,dZ,du,fr,AB⟩
    ·
      refine R.eU rfl mixed (by kernel_rfl)<|Q.q (q.aX (off':=0) rfl aY rfl) rfl<|Q.q (q.ld 2 rfl rfl bq rfl) rfl<|Q.q (q.aX (off':=2) rfl bJ rfl) rfl<|Q.q (q.ld 2 rfl rfl cw rfl) rfl<|Q.q (q.cF 1 rfl rfl bk) rfl<|Q.c (q.call oY rfl rfl (fun w hw=>(g9 _ (r.Held) (p) w ((fun _=>Wd.old qZ) w hw) (by first|omega|assumption|(simp;done)|(simp;omega))))) rfl<|Q.c (q.call jh rfl rfl (fun w hw=>(cv (congrArg (Value.int .i64) du) (eL _ (r.aj) (hY r.Held p) w ((fun _=>Wd.old nV) w hw) )))) rfl<|Q.u 1 rfl<|Q.nil ?_
      refine R.reg rfl<|R.u 1 rfl<|R.q (q.lss (b:=true) rfl rfl (by decide)) rfl<|R.nil ?_
      refine R.aE rfl rfl ?_
      refine R.reg rfl<|R.q (q.build (cs:=[.int .i64 0,.int .i64 0,.int .i64 0,.int .i64 0,.int .i64 0]) gk rfl rfl) rfl<|R.q (q.iface rfl bz) rfl<|?_
      refine R.s rfl (s.st (us:=[.int .i64 0,.int .i64 0,.int .i64 0,.int .i64 0,.int .i64 0]) (cs':=[.int .i64 0,.int .i64 0,.int .i64 0,.int .i64 0,.int .i64 0]) 0 _ rfl rfl rfl rfl (.inl aN) rfl rfl rfl rfl) fun _=>?_
      refine R.u 1 rfl<|R.nil ?_
      exact R.uu rfl Tryz.results61 (RV.cell 0 rfl rfl aN) (RV.tmp rfl) (congrArg ak.val (show (⟨0,0,0,0,0⟩:ak)=(ap r p).1 from by (first|(rw [gS (by assumption)];first|done|rfl|omega)|(rw [gH (by assumption) du];first|done|rfl|omega)|(rw [iD (by assumption) du (List.getElem?_eq_getElem dZ)];first|done|rfl|omega)))) (dC (by decide) (by (first|(rw [gS (by assumption)];first|done|rfl|omega)|(rw [gH (by assumption) du];first|done|rfl|omega)|(rw [iD (by assumption) du (List.getElem?_eq_getElem dZ)];first|done|rfl|omega))))
    ·
      refine R.eU rfl mixed (by kernel_rfl)<|Q.q (q.aX (off':=0) rfl aY rfl) rfl<|Q.q (q.ld 2 rfl rfl bq rfl) rfl<|Q.q (q.aX (off':=2) rfl bJ rfl) rfl<|Q.q (q.ld 2 rfl rfl cw rfl) rfl<|Q.q (q.cF 1 rfl rfl bk) rfl<|Q.c (q.call oY rfl rfl (fun w hw=>(g9 _ (r.Held) (p) w ((fun _=>Wd.old qZ) w hw) (by first|omega|assumption|(simp;done)|(simp;omega))))) rfl<|Q.c (q.call jh rfl rfl (fun w hw=>(cv (congrArg (Value.int .i64) du) (eL _ (r.aj) (hY r.Held p) w ((fun _=>Wd.old nV) w hw) )))) rfl<|Q.u 1 rfl<|Q.nil ?_
      refine R.reg rfl<|R.u 1 rfl<|R.q (q.lss rfl rfl (decide_eq_false (by omega))) rfl<|R.nil ?_
      refine R.aH rfl rfl ?_
      refine R.reg rfl<|R.q (q.aX (off':=0) rfl aY rfl) rfl<|R.q (q.ld 2 rfl rfl bq rfl) rfl<|R.u 1 rfl<|R.q (q.idx (i:=jV) (fun _=>Wd.old nV) rfl rfl ct rfl (List.getElem?_eq_getElem dZ)) rfl<|R.q (q.dY (ds:=[.int .i64 ((r.aj[jV]).ID),.int .i64 ((r.aj[jV]).ai),.int .i64 ((r.aj[jV]).Rights),.int .i64 ((r.aj[jV]).ar),.int .i64 ((r.aj[jV]).From)]) (fun _=>Wd.old nV) (List.getElem?_eq_getElem dZ) rfl aN rfl) rfl<|?_
      refine R.s rfl (s.st (us:=[.int .i64 ((r.aj[jV]).ID),.int .i64 ((r.aj[jV]).ai),.int .i64 ((r.aj[jV]).Rights),.int .i64 ((r.aj[jV]).ar),.int .i64 ((r.aj[jV]).From)]) (cs':=[.int .i64 ((r.aj[jV]).ID),.int .i64 ((r.aj[jV]).ai),.int .i64 ((r.aj[jV]).Rights),.int .i64 ((r.aj[jV]).ar),.int .i64 ((r.aj[jV]).From)]) 0 _ rfl rfl rfl rfl (.inl aN) rfl rfl rfl rfl) fun _=>?_
      refine R.u 1 rfl<|R.nil ?_
      exact R.uu rfl Tryz.results61 (RV.cell 0 rfl rfl aN) (RV.tmp rfl) (congrArg ak.val (show (r.aj[jV])=(ap r p).1 from by (first|(rw [gS (by assumption)];first|done|rfl|omega)|(rw [gH (by assumption) du];first|done|rfl|omega)|(rw [iD (by assumption) du (List.getElem?_eq_getElem dZ)];first|done|rfl|omega)))) (gj (by (first|(rw [gS (by assumption)];first|done|rfl|omega)|(rw [gH (by assumption) du];first|done|rfl|omega)|(rw [iD (by assumption) du (List.getElem?_eq_getElem dZ)];first|done|rfl|omega))))
  ·
    refine R.q (q.fb rfl rfl Tryz.underlying35 (by omega)) rfl<|R.nil ?_
    refine R.aE rfl rfl ?_
    refine R.reg rfl<|R.q (q.build (cs:=[.int .i64 0,.int .i64 0,.int .i64 0,.int .i64 0,.int .i64 0]) gk rfl rfl) rfl<|R.u 1 rfl<|?_
    refine R.s rfl (s.st (us:=[.int .i64 0,.int .i64 0,.int .i64 0,.int .i64 0,.int .i64 0]) (cs':=[.int .i64 0,.int .i64 0,.int .i64 0,.int .i64 0,.int .i64 0]) 0 _ rfl rfl rfl rfl (.inl aN) rfl rfl rfl rfl) fun _=>?_
    refine R.u 1 rfl<|R.nil ?_
    exact R.uu rfl Tryz.results61 (RV.cell 0 rfl rfl aN) (RV.tmp rfl) (congrArg ak.val (show (⟨0,0,0,0,0⟩:ak)=(ap r p).1 from by (first|(rw [gS (by assumption)];first|done|rfl|omega)|(rw [gH (by assumption) du];first|done|rfl|omega)|(rw [iD (by assumption) du (List.getElem?_eq_getElem dZ)];first|done|rfl|omega)))) (rE (by (first|(rw [gS (by assumption)];first|done|rfl|omega)|(rw [gH (by assumption) du];first|done|rfl|omega)|(rw [iD (by assumption) du (List.getElem?_eq_getElem dZ)];first|done|rfl|omega))))
theorem j0 (aD az aC aB:Value)(r:au)(p:Place)(w:World)(nV:Sl w aD r.aj)(pj:Sl w az r.Things)(qZ:Sl w aC r.Held)(wU:Sl w aB r.Notes)(hk:Ok r):Calls Tryz.prog 70 #[.agg #[aD,az,aC,aB,.int .i64 r.ae,.int .i64 r.af],.agg #[.int .i64 p.ag,.int .i64 p.Slot]] w fun e w'=>e = .returned (eG (eE r p))∧Ext w w':=by
  have b1:=hk.hl
  refine R.enter (n:=19) (vs:=[.agg #[aD,az,aC,aB,.int .i64 r.ae,.int .i64 r.af],.agg #[.int .i64 p.ag,.int .i64 p.Slot]]) [] [(0,.agg #[aD,az,aC,aB,.int .i64 r.ae,.int .i64 r.af]),(1,.agg #[.int .i64 p.ag,.int .i64 p.Slot])] Tryz.func70 rfl rfl rfl rfl ?_
  refine R.reg rfl<|?_
  refine R.s rfl (s.box (cs:=[aD,az,aC,aB,.int .i64 r.ae,.int .i64 r.af]) rfl rfl rfl) fun b1=>?_
  refine R.s rfl (s.box (cs:=[.int .i64 p.ag,.int .i64 p.Slot]) rfl rfl rfl) fun b2=>?_
  refine R.u 1 rfl<|R.nil ?_
  refine R.reg rfl<|R.q (q.cF 0 rfl rfl bk) rfl<|R.c (q.call su rfl rfl (fun w hw=>(fI (p) w  ))) rfl<|R.u 1 rfl<|R.nil ?_
  refine R.reg rfl<|R.u 1 rfl<|?_
  by_cases h1:aW p=0
  ·
    refine R.q (q.lU rfl rfl Tryz.underlying35 (by omega)) rfl<|R.u 1 rfl<|R.qg rfl (q.aX (off':=2) rfl bJ rfl) rfl<|R.qg rfl (q.ld 1 rfl rfl cw rfl) rfl<|R.qg rfl (q.cF 0 rfl rfl bk) rfl<|R.cg rfl (q.call oY rfl rfl (fun w hw=>(g9 _ (r.Held) (p) w ((fun _=>Wd.old qZ) w hw) (by first|omega|assumption|(simp;done)|(simp;omega))))) rfl<|?_
    by_cases h2:hY r.Held p=0
    ·
      refine R.qg rfl (q.neq rfl rfl (bne_eq_false_iff_eq.2 (by omega))) rfl<|R.u 1 rfl<|R.nil ?_
      refine R.aH rfl rfl ?_
      refine R.reg rfl<|R.u 2 rfl<|R.nil ?_
      exact R.rv rfl Tryz.results70 rfl (rE (by (unfold eE;first|(rw [if_pos (by assumption),if_pos (by assumption)];first|done|rfl|omega)|(rw [if_pos (by assumption),if_neg (by assumption)];first|done|rfl|omega)|(rw [if_neg (by assumption)];first|done|rfl|omega))))
    ·
      refine R.qg rfl (q.neq rfl rfl (bne_iff_ne.2 (by omega))) rfl<|R.u 1 rfl<|R.nil ?_
      refine R.aE rfl rfl ?_
      refine R.reg rfl<|R.q (q.iface rfl bz) rfl<|R.u 1 rfl<|R.nil ?_
      refine R.reg rfl<|R.u 2 rfl<|R.nil ?_
      exact R.rv rfl Tryz.results70 rfl (dC (by decide) (by (unfold eE;first|(rw [if_pos (by assumption),if_pos (by assumption)];first|done|rfl|omega)|(rw [if_pos (by assumption),if_neg (by assumption)];first|done|rfl|omega)|(rw [if_neg (by assumption)];first|done|rfl|omega))))
  ·
    refine R.q (q.pF rfl rfl Tryz.underlying35 (by omega)) rfl<|R.u 7 rfl<|R.nil ?_
    refine R.aH rfl rfl ?_
    refine R.reg rfl<|R.u 2 rfl<|R.nil ?_
    exact R.rv rfl Tryz.results70 rfl (rE (by (unfold eE;first|(rw [if_pos (by assumption),if_pos (by assumption)];first|done|rfl|omega)|(rw [if_pos (by assumption),if_neg (by assumption)];first|done|rfl|omega)|(rw [if_neg (by assumption)];first|done|rfl|omega))))
theorem jK (aD az aC aB:Value)(r:au)(w0:ak)(p:Place)(w:World)(own:List Nat)(H:Wd w (blks []++own) ([]++[ah.held w own]) [ah.ls aD (r.aj:List ak),ah.ls az (r.Things:List ai),ah.ls aC (r.Held:List Held),ah.ls aB (r.Notes:List Note)] w)(hk:r.Held.length≤3000∧r.aj.length≤3000∧0≤r.ae∧r.ae≤3000):Calls Tryz.prog 72 #[.agg #[aD,az,aC,aB,.int .i64 r.ae,.int .i64 r.af],.agg #[.int .i64 w0.ID,.int .i64 w0.ai,.int .i64 w0.Rights,.int .i64 w0.ar,.int .i64 w0.From],.agg #[.int .i64 p.ag,.int .i64 p.Slot]] w fun e w' => ∃z:Value×Value×Value×Value,e = .returned (.agg #[z.1,z.2.1,z.2.2.1,z.2.2.2,.int .i64 (((aQ r w0 p)).ae),.int .i64 (((aQ r w0 p)).af)])∧Wd w (blks []++own) ([]++[ah.held w own]) [ah.ls z.1 (((aQ r w0 p)).aj:List ak),ah.ls z.2.1 (((aQ r w0 p)).Things:List ai),ah.ls z.2.2.1 (((aQ r w0 p)).Held:List Held),ah.ls z.2.2.2 (((aQ r w0 p)).Notes:List Note)] w':=by
  have dF:=H.cL 0 rfl
  have cX:=H.cL 1 rfl
  have ej:=H.cL 2 rfl
  have dG:=H.cL 3 rfl
  have b1:=hk.1;have b2:=hk.2.1;have b3:=hk.2.2.1;have b4:=hk.2.2.2
  refine R.cQ (n:=29) (vs:=[.agg #[aD,az,aC,aB,.int .i64 r.ae,.int .i64 r.af],.agg #[.int .i64 w0.ID,.int .i64 w0.ai,.int .i64 w0.Rights,.int .i64 w0.ar,.int .i64 w0.From],.agg #[.int .i64 p.ag,.int .i64 p.Slot]]) (B:=[ah.held w own]) [(0,.agg #[aD,az,aC,aB,.int .i64 r.ae,.int .i64 r.af]),(1,.agg #[.int .i64 w0.ID,.int .i64 w0.ai,.int .i64 w0.Rights,.int .i64 w0.ar,.int .i64 w0.From]),(2,.agg #[.int .i64 p.ag,.int .i64 p.Slot])] Tryz.func72 rfl rfl rfl rfl H ?_
  refine R.reg rfl<|?_
  refine R.s rfl (s.box (cs:=[aD,az,aC,aB,.int .i64 r.ae,.int .i64 r.af]) rfl rfl rfl) fun b1=>?_
  refine R.s rfl (s.box (cs:=[.int .i64 w0.ID,.int .i64 w0.ai,.int .i64 w0.Rights,.int .i64 w0.ar,.int .i64 w0.From]) rfl rfl rfl) fun b2=>?_
  refine R.s rfl (s.box (cs:=[.int .i64 p.ag,.int .i64 p.Slot]) rfl rfl rfl) fun b3=>?_
  refine R.s rfl (s.alloc (cs:=[.slice none 0 0,.slice none 0 0,.slice none 0 0,.slice none 0 0,.int .i64 0,.int .i64 0]) cj rfl rfl) fun b4=>?_
  refine R.nil ?_
  refine R.fT (fuel:=8) (Wd w (blks []++own) [ah.box b4 [.slice none 0 0,.slice none 0 0,.slice none 0 0,.slice none 0 0,.int .i64 0,.int .i64 0] 32,ah.box b3 [.int .i64 p.ag,.int .i64 p.Slot] 39,ah.box b2 [.int .i64 w0.ID,.int .i64 w0.ai,.int .i64 w0.Rights,.int .i64 w0.ar,.int .i64 w0.From] 88,ah.held w own] [ah.ls aD (r.aj:List ak),ah.ls az (r.Things:List ai),ah.ls aC (r.Held:List Held),ah.ls aB (r.Notes:List Note)]) rfl mixed rfl ?_
  refine D.q (i:=0) rfl (by kernel_rfl) (fun _=>Wd.aK [0,1,2,4] [0,1,2,3] rfl rfl rfl) rfl (q.aX (off':=0) rfl aY rfl) rfl<|D.q (i:=3) rfl (by kernel_rfl) (fun _=>Wd.aK [0,1,2,4] [0,1,2,3] rfl rfl rfl) rfl (q.cF 2 rfl rfl aN) rfl<|?_
  refine D.two (i:=1) (j:=4) (by kernel_rfl) rfl rfl ?_ ?_
  ·
    refine Do.s (s.c (Qt.a (q.ld 3 rfl rfl bq rfl)) rfl) (fun _=>(fun _=>Wd.aK [0,1,2,4] [0,1,2,3] rfl rfl rfl)) rfl fun _=>?_
    refine D.two (i:=2) (j:=4) (by kernel_rfl) rfl rfl ?_ ?_
    ·
      refine Do.s (B':=(fun aG:Value=>[ah.row 88 aG (r.aj:List ak),ah.box b4 [.slice none 0 0,.slice none 0 0,.slice none 0 0,.slice none 0 0,.int .i64 0,.int .i64 0] 32,ah.box b3 [.int .i64 p.ag,.int .i64 p.Slot] 39,ah.box b2 [.int .i64 w0.ID,.int .i64 w0.ai,.int .i64 w0.Rights,.int .i64 w0.ar,.int .i64 w0.From] 88,ah.box b1 [aD,az,aC,aB,.int .i64 r.ae,.int .i64 r.af] 32,ah.held w own])) (F':=(fun aG:Value=>[ah.ls aD (r.aj:List ak),ah.ls az (r.Things:List ai),ah.ls aC (r.Held:List Held),ah.ls aB (r.Notes:List Note)])) (s.bA (B0:=[]) (Br:=[ah.box b4 [.slice none 0 0,.slice none 0 0,.slice none 0 0,.slice none 0 0,.int .i64 0,.int .i64 0] 32,ah.box b3 [.int .i64 p.ag,.int .i64 p.Slot] 39,ah.box b2 [.int .i64 w0.ID,.int .i64 w0.ai,.int .i64 w0.Rights,.int .i64 w0.ar,.int .i64 w0.From] 88,ah.box b1 [aD,az,aC,aB,.int .i64 r.ae,.int .i64 r.af] 32,ah.held w own]) (F0:=[ah.ls aD (r.aj:List ak)]) [0,1,2,3,4] [0] (fun aG:Value=>aG) (fun aG:Value=>[ah.row 88 aG (r.aj:List ak)]) (fun aG:Value=>[]) rfl rfl rfl sr rfl rfl (fun w own hw H=>f9 aD (r.aj) w own H (by first|omega|assumption|(simp;done)|(simp;omega))) rfl) (fun _=>(fun _=>Wd.aK [1,2,3,5] [0,1,2,3] rfl rfl rfl)) rfl fun z2=>?_
      refine D.one (i:=4) (by kernel_rfl) rfl ?_
      refine Do.s (s.bs (l:=([w0]:List ak)) ct br rfl rfl rfl rfl rfl rfl rfl) (fun _=>(fun _=>Wd.aK [2,3,4,6] [0,1,2,3] rfl rfl rfl)) rfl fun b5=>?_
      refine D.one (i:=5) (by kernel_rfl) rfl ?_
      refine Do.s (s.app (l2:=[w0]) 1 _ rfl rfl rfl (fun _=>Wd.row 0 rfl) f6 (by first|omega|(simp;omega)) (by first|omega|(simp;omega)) (fun _=>rfl) rfl) (fun _=>(fun _=>Wd.aK [2,3,4,6] [0,1,2,3] rfl rfl rfl)) rfl fun v1=>?_
      refine D.q (i:=6) rfl (by kernel_rfl) (fun _=>Wd.aK [2,3,4,6] [0,1,2,3] rfl rfl rfl) rfl (q.aX (off':=0) rfl aY rfl) rfl<|?_
      refine D.one (i:=7) (by kernel_rfl) rfl ?_
      refine Do.s (s.eH (us:=[v1]) (cs':=[v1,az,aC,aB,.int .i64 r.ae,.int .i64 r.af]) 5 _ rfl rfl rfl (fun w hw=>Sl.cr ((fun _=>Wd.row 1 rfl) w hw)) (.inr ⟨bq,rfl⟩) (fun w hw=>(ao (Sl.one ((fun _=>Wd.row 1 rfl) w hw)) aO)) rfl rfl rfl) (fun _=>(fun _=>Wd.aK [2,3,4,6] [0,1,2,3] rfl rfl rfl)) rfl fun _=>?_
      refine D.done (by kernel_rfl)<|?_
      refine R.reg rfl<|R.q (q.aX (off':=4) rfl bL rfl) rfl<|R.q (q.ld 5 rfl rfl aA rfl) rfl<|R.q (q.add (r:=r.ae+1) rfl rfl (wr (by omega))) rfl<|R.q (q.aX (off':=4) rfl bL rfl) rfl<|?_
      refine R.s rfl (s.st (us:=[.int .i64 (r.ae+1)]) (cs':=[v1,az,aC,aB,.int .i64 (r.ae+1),.int .i64 r.af]) 5 _ rfl rfl rfl rfl (.inr ⟨aA,rfl⟩) rfl rfl rfl rfl) fun _=>?_
      refine R.nil ?_
      refine R.reg rfl<|R.q (q.aX (off':=0) rfl dE rfl) rfl<|R.q (q.ld 3 rfl rfl aA rfl) rfl<|?_
      by_cases h1:0<p.ag
      ·
        refine R.q (q.gtr rfl rfl (decide_eq_true (by omega))) rfl<|R.nil ?_
        refine R.aE rfl rfl ?_
        refine R.reg rfl<|R.q (q.aX (off':=2) rfl bJ rfl) rfl<|R.q (q.ld 5 rfl rfl cw rfl) rfl<|R.q (q.cF 3 rfl rfl bk) rfl<|R.q (q.aX (off':=0) rfl bu rfl) rfl<|R.q (q.ld 4 rfl rfl aA rfl) rfl<|?_
        refine R.s (B':=(fun aG:Value=>[ah.row 85 aG ((ck r.Held p w0.ID):List Held),ah.row 88 (.slice (some ⟨b5,0,none⟩) 1 1) ([w0]:List ak),ah.row 88 v1 ((r.aj++([w0])):List ak),ah.box b4 [.slice none 0 0,.slice none 0 0,.slice none 0 0,.slice none 0 0,.int .i64 0,.int .i64 0] 32,ah.box b3 [.int .i64 p.ag,.int .i64 p.Slot] 39,ah.box b2 [.int .i64 w0.ID,.int .i64 w0.ai,.int .i64 w0.Rights,.int .i64 w0.ar,.int .i64 w0.From] 88,ah.box b1 [v1,az,aC,aB,.int .i64 (r.ae+1),.int .i64 r.af] 32,ah.held w own])) (F':=(fun aG:Value=>[ah.ls aD (r.aj:List ak),ah.ls az (r.Things:List ai),ah.ls aC (r.Held:List Held),ah.ls aB (r.Notes:List Note)])) rfl (s.bA (B0:=[]) (Br:=[ah.row 88 (.slice (some ⟨b5,0,none⟩) 1 1) ([w0]:List ak),ah.row 88 v1 ((r.aj++([w0])):List ak),ah.box b4 [.slice none 0 0,.slice none 0 0,.slice none 0 0,.slice none 0 0,.int .i64 0,.int .i64 0] 32,ah.box b3 [.int .i64 p.ag,.int .i64 p.Slot] 39,ah.box b2 [.int .i64 w0.ID,.int .i64 w0.ai,.int .i64 w0.Rights,.int .i64 w0.ar,.int .i64 w0.From] 88,ah.box b1 [v1,az,aC,aB,.int .i64 (r.ae+1),.int .i64 r.af] 32,ah.held w own]) (F0:=[ah.ls aC (r.Held:List Held)]) [0,1,2,3,4,5,6] [2] (fun aG:Value=>aG) (fun aG:Value=>[ah.row 85 aG ((ck r.Held p w0.ID):List Held)]) (fun aG:Value=>[]) rfl rfl rfl ow rfl rfl (fun w own hw H=>jU aC (r.Held) (p) (w0.ID) w own H (by first|omega|assumption|(simp;done)|(simp;omega))) rfl) fun z3=>?_
        refine R.q (q.aX (off':=2) rfl bJ rfl) rfl<|?_
        refine R.s rfl (s.eH (us:=[z3]) (cs':=[v1,az,z3,aB,.int .i64 (r.ae+1),.int .i64 r.af]) 6 _ rfl rfl rfl (fun w hw=>Sl.cr ((fun _=>Wd.row 0 rfl) w hw)) (.inr ⟨cw,rfl⟩) (fun w hw=>(ao (Sl.one ((fun _=>Wd.row 0 rfl) w hw)) aO)) rfl rfl rfl) fun _=>?_
        refine R.nil ?_
        refine R.reg rfl<|R.q (q.cF 6 rfl rfl av) rfl<|?_
        refine R.s rfl (s.eH (us:=[v1,az,z3,aB,.int .i64 (r.ae+1),.int .i64 r.af]) (cs':=[v1,az,z3,aB,.int .i64 (r.ae+1),.int .i64 r.af]) 3 _ rfl rfl rfl (fun _ _=>rfl) (.inl av) (fun w hw=>(ao (Sl.one ((fun _=>Wd.row 2 rfl) w hw)) (ao (Sl.one ((fun _=>Wd.aS 1 rfl) w hw)) (ao (Sl.one ((fun _=>Wd.row 0 rfl) w hw)) (ao (Sl.one ((fun _=>Wd.aS 3 rfl) w hw)) (ao rfl (ao rfl aO))))))) rfl rfl rfl) fun _=>?_
        refine R.nil ?_
        refine R.mp (B':=[ah.row 85 z3 (ck r.Held p w0.ID:List Held),ah.row 88 (.slice (some ⟨b5,0,none⟩) 1 1) ([w0]:List ak),ah.box b4 [v1,az,z3,aB,.int .i64 (r.ae+1),.int .i64 r.af] 32,ah.box b3 [.int .i64 p.ag,.int .i64 p.Slot] 39,ah.box b2 [.int .i64 w0.ID,.int .i64 w0.ai,.int .i64 w0.Rights,.int .i64 w0.ar,.int .i64 w0.From] 88,ah.box b1 [v1,az,z3,aB,.int .i64 (r.ae+1),.int .i64 r.af] 32,ah.held w own]) (fun _ hw=>hw.dh 2 _ rfl rfl) ?_
        refine R.mp (B':=[ah.row 88 (.slice (some ⟨b5,0,none⟩) 1 1) ([w0]:List ak),ah.box b4 [v1,az,z3,aB,.int .i64 (r.ae+1),.int .i64 r.af] 32,ah.box b3 [.int .i64 p.ag,.int .i64 p.Slot] 39,ah.box b2 [.int .i64 w0.ID,.int .i64 w0.ai,.int .i64 w0.Rights,.int .i64 w0.ar,.int .i64 w0.From] 88,ah.box b1 [v1,az,z3,aB,.int .i64 (r.ae+1),.int .i64 r.af] 32,ah.held w own]) (fun _ hw=>hw.dh 0 _ rfl rfl) ?_
        have hz:aQ r w0 p=(⟨(r.aj++([w0])),r.Things,ck r.Held p w0.ID,r.Notes,(r.ae+1),r.af⟩:au):=by (unfold aQ;first|(rw [if_pos (by assumption)];first|done|rfl|omega)|(rw [if_neg (by assumption)];first|done|rfl|omega))
        rw [hz]
        exact R.w1 (v1,az,z3,aB) [5] [1,3,0,5] rfl Tryz.results72 (RV.cell 1 rfl rfl av) rfl rfl rfl rfl
      ·
        refine R.q (q.gtr rfl rfl (decide_eq_false (by omega))) rfl<|R.nil ?_
        refine R.aH rfl rfl ?_
        refine R.reg rfl<|R.q (q.cF 5 rfl rfl av) rfl<|?_
        refine R.s rfl (s.eH (us:=[v1,az,aC,aB,.int .i64 (r.ae+1),.int .i64 r.af]) (cs':=[v1,az,aC,aB,.int .i64 (r.ae+1),.int .i64 r.af]) 2 _ rfl rfl rfl (fun _ _=>rfl) (.inl av) (fun w hw=>(ao (Sl.one ((fun _=>Wd.row 1 rfl) w hw)) (ao (Sl.one ((fun _=>Wd.aS 1 rfl) w hw)) (ao (Sl.one ((fun _=>Wd.aS 2 rfl) w hw)) (ao (Sl.one ((fun _=>Wd.aS 3 rfl) w hw)) (ao rfl (ao rfl aO))))))) rfl rfl rfl) fun _=>?_
        refine R.nil ?_
        refine R.mp (B':=[ah.row 88 (.slice (some ⟨b5,0,none⟩) 1 1) ([w0]:List ak),ah.box b4 [v1,az,aC,aB,.int .i64 (r.ae+1),.int .i64 r.af] 32,ah.box b3 [.int .i64 p.ag,.int .i64 p.Slot] 39,ah.box b2 [.int .i64 w0.ID,.int .i64 w0.ai,.int .i64 w0.Rights,.int .i64 w0.ar,.int .i64 w0.From] 88,ah.box b1 [v1,az,aC,aB,.int .i64 (r.ae+1),.int .i64 r.af] 32,ah.held w own]) (fun _ hw=>hw.dh 1 _ rfl rfl) ?_
        have hz:aQ r w0 p=(⟨(r.aj++([w0])),r.Things,r.Held,r.Notes,(r.ae+1),r.af⟩:au):=by (unfold aQ;first|(rw [if_pos (by assumption)];first|done|rfl|omega)|(rw [if_neg (by assumption)];first|done|rfl|omega))
        rw [hz]
        exact R.w1 (v1,az,aC,aB) [5] [0,2,3,4] rfl Tryz.results72 (RV.cell 1 rfl rfl av) rfl rfl rfl rfl
    ·
      refine Do.s (s.bs (l:=([w0]:List ak)) ct br rfl rfl rfl rfl rfl rfl rfl) (fun _=>(fun _=>Wd.aK [1,2,3,5] [0,1,2,3] rfl rfl rfl)) rfl fun b6=>?_
      refine D.one (i:=2) (by kernel_rfl) rfl ?_
      refine Do.s (B':=(fun aG:Value=>[ah.row 88 aG (r.aj:List ak),ah.row 88 (.slice (some ⟨b6,0,none⟩) 1 1) ([w0]:List ak),ah.box b4 [.slice none 0 0,.slice none 0 0,.slice none 0 0,.slice none 0 0,.int .i64 0,.int .i64 0] 32,ah.box b3 [.int .i64 p.ag,.int .i64 p.Slot] 39,ah.box b2 [.int .i64 w0.ID,.int .i64 w0.ai,.int .i64 w0.Rights,.int .i64 w0.ar,.int .i64 w0.From] 88,ah.box b1 [aD,az,aC,aB,.int .i64 r.ae,.int .i64 r.af] 32,ah.held w own])) (F':=(fun aG:Value=>[ah.ls aD (r.aj:List ak),ah.ls az (r.Things:List ai),ah.ls aC (r.Held:List Held),ah.ls aB (r.Notes:List Note)])) (s.bA (B0:=[]) (Br:=[ah.row 88 (.slice (some ⟨b6,0,none⟩) 1 1) ([w0]:List ak),ah.box b4 [.slice none 0 0,.slice none 0 0,.slice none 0 0,.slice none 0 0,.int .i64 0,.int .i64 0] 32,ah.box b3 [.int .i64 p.ag,.int .i64 p.Slot] 39,ah.box b2 [.int .i64 w0.ID,.int .i64 w0.ai,.int .i64 w0.Rights,.int .i64 w0.ar,.int .i64 w0.From] 88,ah.box b1 [aD,az,aC,aB,.int .i64 r.ae,.int .i64 r.af] 32,ah.held w own]) (F0:=[ah.ls aD (r.aj:List ak)]) [0,1,2,3,4,5] [0] (fun aG:Value=>aG) (fun aG:Value=>[ah.row 88 aG (r.aj:List ak)]) (fun aG:Value=>[]) rfl rfl rfl sr rfl rfl (fun w own hw H=>f9 aD (r.aj) w own H (by first|omega|assumption|(simp;done)|(simp;omega))) rfl) (fun _=>(fun _=>Wd.aK [2,3,4,6] [0,1,2,3] rfl rfl rfl)) rfl fun z4=>?_
      refine D.one (i:=5) (by kernel_rfl) rfl ?_
      refine Do.s (s.app (l2:=[w0]) 0 _ rfl rfl rfl (fun _=>Wd.row 1 rfl) f6 (by first|omega|(simp;omega)) (by first|omega|(simp;omega)) (fun _=>rfl) rfl) (fun _=>(fun _=>Wd.aK [2,3,4,6] [0,1,2,3] rfl rfl rfl)) rfl fun v2=>?_
      refine D.q (i:=6) rfl (by kernel_rfl) (fun _=>Wd.aK [2,3,4,6] [0,1,2,3] rfl rfl rfl) rfl (q.aX (off':=0) rfl aY rfl) rfl<|?_
      refine D.one (i:=7) (by kernel_rfl) rfl ?_
      refine Do.s (s.eH (us:=[v2]) (cs':=[v2,az,aC,aB,.int .i64 r.ae,.int .i64 r.af]) 5 _ rfl rfl rfl (fun w hw=>Sl.cr ((fun _=>Wd.row 0 rfl) w hw)) (.inr ⟨bq,rfl⟩) (fun w hw=>(ao (Sl.one ((fun _=>Wd.row 0 rfl) w hw)) aO)) rfl rfl rfl) (fun _=>(fun _=>Wd.aK [2,3,4,6] [0,1,2,3] rfl rfl rfl)) rfl fun _=>?_
      refine D.done (by kernel_rfl)<|?_
      refine R.reg rfl<|R.q (q.aX (off':=4) rfl bL rfl) rfl<|R.q (q.ld 5 rfl rfl aA rfl) rfl<|R.q (q.add (r:=r.ae+1) rfl rfl (wr (by omega))) rfl<|R.q (q.aX (off':=4) rfl bL rfl) rfl<|?_
      refine R.s rfl (s.st (us:=[.int .i64 (r.ae+1)]) (cs':=[v2,az,aC,aB,.int .i64 (r.ae+1),.int .i64 r.af]) 5 _ rfl rfl rfl rfl (.inr ⟨aA,rfl⟩) rfl rfl rfl rfl) fun _=>?_
      refine R.nil ?_
      refine R.reg rfl<|R.q (q.aX (off':=0) rfl dE rfl) rfl<|R.q (q.ld 3 rfl rfl aA rfl) rfl<|?_
      by_cases h2:0<p.ag
      ·
        refine R.q (q.gtr rfl rfl (decide_eq_true (by omega))) rfl<|R.nil ?_
        refine R.aE rfl rfl ?_
        refine R.reg rfl<|R.q (q.aX (off':=2) rfl bJ rfl) rfl<|R.q (q.ld 5 rfl rfl cw rfl) rfl<|R.q (q.cF 3 rfl rfl bk) rfl<|R.q (q.aX (off':=0) rfl bu rfl) rfl<|R.q (q.ld 4 rfl rfl aA rfl) rfl<|?_
        refine R.s (B':=(fun aG:Value=>[ah.row 85 aG ((ck r.Held p w0.ID):List Held),ah.row 88 v2 ((r.aj++([w0])):List ak),ah.row 88 (.slice (some ⟨b6,0,none⟩) 1 1) ([w0]:List ak),ah.box b4 [.slice none 0 0,.slice none 0 0,.slice none 0 0,.slice none 0 0,.int .i64 0,.int .i64 0] 32,ah.box b3 [.int .i64 p.ag,.int .i64 p.Slot] 39,ah.box b2 [.int .i64 w0.ID,.int .i64 w0.ai,.int .i64 w0.Rights,.int .i64 w0.ar,.int .i64 w0.From] 88,ah.box b1 [v2,az,aC,aB,.int .i64 (r.ae+1),.int .i64 r.af] 32,ah.held w own])) (F':=(fun aG:Value=>[ah.ls aD (r.aj:List ak),ah.ls az (r.Things:List ai),ah.ls aC (r.Held:List Held),ah.ls aB (r.Notes:List Note)])) rfl (s.bA (B0:=[]) (Br:=[ah.row 88 v2 ((r.aj++([w0])):List ak),ah.row 88 (.slice (some ⟨b6,0,none⟩) 1 1) ([w0]:List ak),ah.box b4 [.slice none 0 0,.slice none 0 0,.slice none 0 0,.slice none 0 0,.int .i64 0,.int .i64 0] 32,ah.box b3 [.int .i64 p.ag,.int .i64 p.Slot] 39,ah.box b2 [.int .i64 w0.ID,.int .i64 w0.ai,.int .i64 w0.Rights,.int .i64 w0.ar,.int .i64 w0.From] 88,ah.box b1 [v2,az,aC,aB,.int .i64 (r.ae+1),.int .i64 r.af] 32,ah.held w own]) (F0:=[ah.ls aC (r.Held:List Held)]) [0,1,2,3,4,5,6] [2] (fun aG:Value=>aG) (fun aG:Value=>[ah.row 85 aG ((ck r.Held p w0.ID):List Held)]) (fun aG:Value=>[]) rfl rfl rfl ow rfl rfl (fun w own hw H=>jU aC (r.Held) (p) (w0.ID) w own H (by first|omega|assumption|(simp;done)|(simp;omega))) rfl) fun z5=>?_
        refine R.q (q.aX (off':=2) rfl bJ rfl) rfl<|?_
        refine R.s rfl (s.eH (us:=[z5]) (cs':=[v2,az,z5,aB,.int .i64 (r.ae+1),.int .i64 r.af]) 6 _ rfl rfl rfl (fun w hw=>Sl.cr ((fun _=>Wd.row 0 rfl) w hw)) (.inr ⟨cw,rfl⟩) (fun w hw=>(ao (Sl.one ((fun _=>Wd.row 0 rfl) w hw)) aO)) rfl rfl rfl) fun _=>?_
        refine R.nil ?_
        refine R.reg rfl<|R.q (q.cF 6 rfl rfl av) rfl<|?_
        refine R.s rfl (s.eH (us:=[v2,az,z5,aB,.int .i64 (r.ae+1),.int .i64 r.af]) (cs':=[v2,az,z5,aB,.int .i64 (r.ae+1),.int .i64 r.af]) 3 _ rfl rfl rfl (fun _ _=>rfl) (.inl av) (fun w hw=>(ao (Sl.one ((fun _=>Wd.row 1 rfl) w hw)) (ao (Sl.one ((fun _=>Wd.aS 1 rfl) w hw)) (ao (Sl.one ((fun _=>Wd.row 0 rfl) w hw)) (ao (Sl.one ((fun _=>Wd.aS 3 rfl) w hw)) (ao rfl (ao rfl aO))))))) rfl rfl rfl) fun _=>?_
        refine R.nil ?_
        refine R.mp (B':=[ah.row 85 z5 (ck r.Held p w0.ID:List Held),ah.row 88 (.slice (some ⟨b6,0,none⟩) 1 1) ([w0]:List ak),ah.box b4 [v2,az,z5,aB,.int .i64 (r.ae+1),.int .i64 r.af] 32,ah.box b3 [.int .i64 p.ag,.int .i64 p.Slot] 39,ah.box b2 [.int .i64 w0.ID,.int .i64 w0.ai,.int .i64 w0.Rights,.int .i64 w0.ar,.int .i64 w0.From] 88,ah.box b1 [v2,az,z5,aB,.int .i64 (r.ae+1),.int .i64 r.af] 32,ah.held w own]) (fun _ hw=>hw.dh 1 _ rfl rfl) ?_
        refine R.mp (B':=[ah.row 88 (.slice (some ⟨b6,0,none⟩) 1 1) ([w0]:List ak),ah.box b4 [v2,az,z5,aB,.int .i64 (r.ae+1),.int .i64 r.af] 32,ah.box b3 [.int .i64 p.ag,.int .i64 p.Slot] 39,ah.box b2 [.int .i64 w0.ID,.int .i64 w0.ai,.int .i64 w0.Rights,.int .i64 w0.ar,.int .i64 w0.From] 88,ah.box b1 [v2,az,z5,aB,.int .i64 (r.ae+1),.int .i64 r.af] 32,ah.held w own]) (fun _ hw=>hw.dh 0 _ rfl rfl) ?_
        have hz:aQ r w0 p=(⟨(r.aj++([w0])),r.Things,ck r.Held p w0.ID,r.Notes,(r.ae+1),r.af⟩:au):=by (unfold aQ;first|(rw [if_pos (by assumption)];first|done|rfl|omega)|(rw [if_neg (by assumption)];first|done|rfl|omega))
        rw [hz]
        exact R.w1 (v2,az,z5,aB) [5] [1,3,0,5] rfl Tryz.results72 (RV.cell 1 rfl rfl av) rfl rfl rfl rfl
      ·
        refine R.q (q.gtr rfl rfl (decide_eq_false (by omega))) rfl<|R.nil ?_
        refine R.aH rfl rfl ?_
        refine R.reg rfl<|R.q (q.cF 5 rfl rfl av) rfl<|?_
        refine R.s rfl (s.eH (us:=[v2,az,aC,aB,.int .i64 (r.ae+1),.int .i64 r.af]) (cs':=[v2,az,aC,aB,.int .i64 (r.ae+1),.int .i64 r.af]) 2 _ rfl rfl rfl (fun _ _=>rfl) (.inl av) (fun w hw=>(ao (Sl.one ((fun _=>Wd.row 0 rfl) w hw)) (ao (Sl.one ((fun _=>Wd.aS 1 rfl) w hw)) (ao (Sl.one ((fun _=>Wd.aS 2 rfl) w hw)) (ao (Sl.one ((fun _=>Wd.aS 3 rfl) w hw)) (ao rfl (ao rfl aO))))))) rfl rfl rfl) fun _=>?_
        refine R.nil ?_
        refine R.mp (B':=[ah.row 88 (.slice (some ⟨b6,0,none⟩) 1 1) ([w0]:List ak),ah.box b4 [v2,az,aC,aB,.int .i64 (r.ae+1),.int .i64 r.af] 32,ah.box b3 [.int .i64 p.ag,.int .i64 p.Slot] 39,ah.box b2 [.int .i64 w0.ID,.int .i64 w0.ai,.int .i64 w0.Rights,.int .i64 w0.ar,.int .i64 w0.From] 88,ah.box b1 [v2,az,aC,aB,.int .i64 (r.ae+1),.int .i64 r.af] 32,ah.held w own]) (fun _ hw=>hw.dh 0 _ rfl rfl) ?_
        have hz:aQ r w0 p=(⟨(r.aj++([w0])),r.Things,r.Held,r.Notes,(r.ae+1),r.af⟩:au):=by (unfold aQ;first|(rw [if_pos (by assumption)];first|done|rfl|omega)|(rw [if_neg (by assumption)];first|done|rfl|omega))
        rw [hz]
        exact R.w1 (v2,az,aC,aB) [5] [0,2,3,4] rfl Tryz.results72 (RV.cell 1 rfl rfl av) rfl rfl rfl rfl
  ·
    refine Do.s (s.bs (l:=([w0]:List ak)) ct br rfl rfl rfl rfl rfl rfl rfl) (fun _=>(fun _=>Wd.aK [1,2,3,5] [0,1,2,3] rfl rfl rfl)) rfl fun b7=>?_
    refine D.one (i:=1) (by kernel_rfl) rfl ?_
    refine Do.s (s.c (Qt.a (q.ld 4 rfl rfl bq rfl)) rfl) (fun _=>(fun _=>Wd.aK [1,2,3,5] [0,1,2,3] rfl rfl rfl)) rfl fun _=>?_
    refine D.one (i:=2) (by kernel_rfl) rfl ?_
    refine Do.s (B':=(fun aG:Value=>[ah.row 88 aG (r.aj:List ak),ah.row 88 (.slice (some ⟨b7,0,none⟩) 1 1) ([w0]:List ak),ah.box b4 [.slice none 0 0,.slice none 0 0,.slice none 0 0,.slice none 0 0,.int .i64 0,.int .i64 0] 32,ah.box b3 [.int .i64 p.ag,.int .i64 p.Slot] 39,ah.box b2 [.int .i64 w0.ID,.int .i64 w0.ai,.int .i64 w0.Rights,.int .i64 w0.ar,.int .i64 w0.From] 88,ah.box b1 [aD,az,aC,aB,.int .i64 r.ae,.int .i64 r.af] 32,ah.held w own])) (F':=(fun aG:Value=>[ah.ls aD (r.aj:List ak),ah.ls az (r.Things:List ai),ah.ls aC (r.Held:List Held),ah.ls aB (r.Notes:List Note)])) (s.bA (B0:=[]) (Br:=[ah.row 88 (.slice (some ⟨b7,0,none⟩) 1 1) ([w0]:List ak),ah.box b4 [.slice none 0 0,.slice none 0 0,.slice none 0 0,.slice none 0 0,.int .i64 0,.int .i64 0] 32,ah.box b3 [.int .i64 p.ag,.int .i64 p.Slot] 39,ah.box b2 [.int .i64 w0.ID,.int .i64 w0.ai,.int .i64 w0.Rights,.int .i64 w0.ar,.int .i64 w0.From] 88,ah.box b1 [aD,az,aC,aB,.int .i64 r.ae,.int .i64 r.af] 32,ah.held w own]) (F0:=[ah.ls aD (r.aj:List ak)]) [0,1,2,3,4,5] [0] (fun aG:Value=>aG) (fun aG:Value=>[ah.row 88 aG (r.aj:List ak)]) (fun aG:Value=>[]) rfl rfl rfl sr rfl rfl (fun w own hw H=>f9 aD (r.aj) w own H (by first|omega|assumption|(simp;done)|(simp;omega))) rfl) (fun _=>(fun _=>Wd.aK [2,3,4,6] [0,1,2,3] rfl rfl rfl)) rfl fun z6=>?_
    refine D.one (i:=5) (by kernel_rfl) rfl ?_
    refine Do.s (s.app (l2:=[w0]) 0 _ rfl rfl rfl (fun _=>Wd.row 1 rfl) f6 (by first|omega|(simp;omega)) (by first|omega|(simp;omega)) (fun _=>rfl) rfl) (fun _=>(fun _=>Wd.aK [2,3,4,6] [0,1,2,3] rfl rfl rfl)) rfl fun v3=>?_
    refine D.q (i:=6) rfl (by kernel_rfl) (fun _=>Wd.aK [2,3,4,6] [0,1,2,3] rfl rfl rfl) rfl (q.aX (off':=0) rfl aY rfl) rfl<|?_
    refine D.one (i:=7) (by kernel_rfl) rfl ?_
    refine Do.s (s.eH (us:=[v3]) (cs':=[v3,az,aC,aB,.int .i64 r.ae,.int .i64 r.af]) 5 _ rfl rfl rfl (fun w hw=>Sl.cr ((fun _=>Wd.row 0 rfl) w hw)) (.inr ⟨bq,rfl⟩) (fun w hw=>(ao (Sl.one ((fun _=>Wd.row 0 rfl) w hw)) aO)) rfl rfl rfl) (fun _=>(fun _=>Wd.aK [2,3,4,6] [0,1,2,3] rfl rfl rfl)) rfl fun _=>?_
    refine D.done (by kernel_rfl)<|?_
    refine R.reg rfl<|R.q (q.aX (off':=4) rfl bL rfl) rfl<|R.q (q.ld 5 rfl rfl aA rfl) rfl<|R.q (q.add (r:=r.ae+1) rfl rfl (wr (by omega))) rfl<|R.q (q.aX (off':=4) rfl bL rfl) rfl<|?_
    refine R.s rfl (s.st (us:=[.int .i64 (r.ae+1)]) (cs':=[v3,az,aC,aB,.int .i64 (r.ae+1),.int .i64 r.af]) 5 _ rfl rfl rfl rfl (.inr ⟨aA,rfl⟩) rfl rfl rfl rfl) fun _=>?_
    refine R.nil ?_
    refine R.reg rfl<|R.q (q.aX (off':=0) rfl dE rfl) rfl<|R.q (q.ld 3 rfl rfl aA rfl) rfl<|?_
    by_cases h3:0<p.ag
    ·
      refine R.q (q.gtr rfl rfl (decide_eq_true (by omega))) rfl<|R.nil ?_
      refine R.aE rfl rfl ?_
      refine R.reg rfl<|R.q (q.aX (off':=2) rfl bJ rfl) rfl<|R.q (q.ld 5 rfl rfl cw rfl) rfl<|R.q (q.cF 3 rfl rfl bk) rfl<|R.q (q.aX (off':=0) rfl bu rfl) rfl<|R.q (q.ld 4 rfl rfl aA rfl) rfl<|?_
      refine R.s (B':=(fun aG:Value=>[ah.row 85 aG ((ck r.Held p w0.ID):List Held),ah.row 88 v3 ((r.aj++([w0])):List ak),ah.row 88 (.slice (some ⟨b7,0,none⟩) 1 1) ([w0]:List ak),ah.box b4 [.slice none 0 0,.slice none 0 0,.slice none 0 0,.slice none 0 0,.int .i64 0,.int .i64 0] 32,ah.box b3 [.int .i64 p.ag,.int .i64 p.Slot] 39,ah.box b2 [.int .i64 w0.ID,.int .i64 w0.ai,.int .i64 w0.Rights,.int .i64 w0.ar,.int .i64 w0.From] 88,ah.box b1 [v3,az,aC,aB,.int .i64 (r.ae+1),.int .i64 r.af] 32,ah.held w own])) (F':=(fun aG:Value=>[ah.ls aD (r.aj:List ak),ah.ls az (r.Things:List ai),ah.ls aC (r.Held:List Held),ah.ls aB (r.Notes:List Note)])) rfl (s.bA (B0:=[]) (Br:=[ah.row 88 v3 ((r.aj++([w0])):List ak),ah.row 88 (.slice (some ⟨b7,0,none⟩) 1 1) ([w0]:List ak),ah.box b4 [.slice none 0 0,.slice none 0 0,.slice none 0 0,.slice none 0 0,.int .i64 0,.int .i64 0] 32,ah.box b3 [.int .i64 p.ag,.int .i64 p.Slot] 39,ah.box b2 [.int .i64 w0.ID,.int .i64 w0.ai,.int .i64 w0.Rights,.int .i64 w0.ar,.int .i64 w0.From] 88,ah.box b1 [v3,az,aC,aB,.int .i64 (r.ae+1),.int .i64 r.af] 32,ah.held w own]) (F0:=[ah.ls aC (r.Held:List Held)]) [0,1,2,3,4,5,6] [2] (fun aG:Value=>aG) (fun aG:Value=>[ah.row 85 aG ((ck r.Held p w0.ID):List Held)]) (fun aG:Value=>[]) rfl rfl rfl ow rfl rfl (fun w own hw H=>jU aC (r.Held) (p) (w0.ID) w own H (by first|omega|assumption|(simp;done)|(simp;omega))) rfl) fun z7=>?_
      refine R.q (q.aX (off':=2) rfl bJ rfl) rfl<|?_
      refine R.s rfl (s.eH (us:=[z7]) (cs':=[v3,az,z7,aB,.int .i64 (r.ae+1),.int .i64 r.af]) 6 _ rfl rfl rfl (fun w hw=>Sl.cr ((fun _=>Wd.row 0 rfl) w hw)) (.inr ⟨cw,rfl⟩) (fun w hw=>(ao (Sl.one ((fun _=>Wd.row 0 rfl) w hw)) aO)) rfl rfl rfl) fun _=>?_
      refine R.nil ?_
      refine R.reg rfl<|R.q (q.cF 6 rfl rfl av) rfl<|?_
      refine R.s rfl (s.eH (us:=[v3,az,z7,aB,.int .i64 (r.ae+1),.int .i64 r.af]) (cs':=[v3,az,z7,aB,.int .i64 (r.ae+1),.int .i64 r.af]) 3 _ rfl rfl rfl (fun _ _=>rfl) (.inl av) (fun w hw=>(ao (Sl.one ((fun _=>Wd.row 1 rfl) w hw)) (ao (Sl.one ((fun _=>Wd.aS 1 rfl) w hw)) (ao (Sl.one ((fun _=>Wd.row 0 rfl) w hw)) (ao (Sl.one ((fun _=>Wd.aS 3 rfl) w hw)) (ao rfl (ao rfl aO))))))) rfl rfl rfl) fun _=>?_
      refine R.nil ?_
      refine R.mp (B':=[ah.row 85 z7 (ck r.Held p w0.ID:List Held),ah.row 88 (.slice (some ⟨b7,0,none⟩) 1 1) ([w0]:List ak),ah.box b4 [v3,az,z7,aB,.int .i64 (r.ae+1),.int .i64 r.af] 32,ah.box b3 [.int .i64 p.ag,.int .i64 p.Slot] 39,ah.box b2 [.int .i64 w0.ID,.int .i64 w0.ai,.int .i64 w0.Rights,.int .i64 w0.ar,.int .i64 w0.From] 88,ah.box b1 [v3,az,z7,aB,.int .i64 (r.ae+1),.int .i64 r.af] 32,ah.held w own]) (fun _ hw=>hw.dh 1 _ rfl rfl) ?_
      refine R.mp (B':=[ah.row 88 (.slice (some ⟨b7,0,none⟩) 1 1) ([w0]:List ak),ah.box b4 [v3,az,z7,aB,.int .i64 (r.ae+1),.int .i64 r.af] 32,ah.box b3 [.int .i64 p.ag,.int .i64 p.Slot] 39,ah.box b2 [.int .i64 w0.ID,.int .i64 w0.ai,.int .i64 w0.Rights,.int .i64 w0.ar,.int .i64 w0.From] 88,ah.box b1 [v3,az,z7,aB,.int .i64 (r.ae+1),.int .i64 r.af] 32,ah.held w own]) (fun _ hw=>hw.dh 0 _ rfl rfl) ?_
      have hz:aQ r w0 p=(⟨(r.aj++([w0])),r.Things,ck r.Held p w0.ID,r.Notes,(r.ae+1),r.af⟩:au):=by (unfold aQ;first|(rw [if_pos (by assumption)];first|done|rfl|omega)|(rw [if_neg (by assumption)];first|done|rfl|omega))
      rw [hz]
      exact R.w1 (v3,az,z7,aB) [5] [1,3,0,5] rfl Tryz.results72 (RV.cell 1 rfl rfl av) rfl rfl rfl rfl
    ·
      refine R.q (q.gtr rfl rfl (decide_eq_false (by omega))) rfl<|R.nil ?_
      refine R.aH rfl rfl ?_
      refine R.reg rfl<|R.q (q.cF 5 rfl rfl av) rfl<|?_
      refine R.s rfl (s.eH (us:=[v3,az,aC,aB,.int .i64 (r.ae+1),.int .i64 r.af]) (cs':=[v3,az,aC,aB,.int .i64 (r.ae+1),.int .i64 r.af]) 2 _ rfl rfl rfl (fun _ _=>rfl) (.inl av) (fun w hw=>(ao (Sl.one ((fun _=>Wd.row 0 rfl) w hw)) (ao (Sl.one ((fun _=>Wd.aS 1 rfl) w hw)) (ao (Sl.one ((fun _=>Wd.aS 2 rfl) w hw)) (ao (Sl.one ((fun _=>Wd.aS 3 rfl) w hw)) (ao rfl (ao rfl aO))))))) rfl rfl rfl) fun _=>?_
      refine R.nil ?_
      refine R.mp (B':=[ah.row 88 (.slice (some ⟨b7,0,none⟩) 1 1) ([w0]:List ak),ah.box b4 [v3,az,aC,aB,.int .i64 (r.ae+1),.int .i64 r.af] 32,ah.box b3 [.int .i64 p.ag,.int .i64 p.Slot] 39,ah.box b2 [.int .i64 w0.ID,.int .i64 w0.ai,.int .i64 w0.Rights,.int .i64 w0.ar,.int .i64 w0.From] 88,ah.box b1 [v3,az,aC,aB,.int .i64 (r.ae+1),.int .i64 r.af] 32,ah.held w own]) (fun _ hw=>hw.dh 0 _ rfl rfl) ?_
      have hz:aQ r w0 p=(⟨(r.aj++([w0])),r.Things,r.Held,r.Notes,(r.ae+1),r.af⟩:au):=by (unfold aQ;first|(rw [if_pos (by assumption)];first|done|rfl|omega)|(rw [if_neg (by assumption)];first|done|rfl|omega))
      rw [hz]
      exact R.w1 (v3,az,aC,aB) [5] [0,2,3,4] rfl Tryz.results72 (RV.cell 1 rfl rfl av) rfl rfl rfl rfl
theorem p7  (w:World)(own:List Nat)(H:Wd w (blks []++own) ([]++[ah.held w own]) [] w)  : Calls Tryz.prog 9 #[] w fun e w' => ∃z:Value×Value×Value×Value,e = .returned (.agg #[z.1,z.2.1,z.2.2.1,z.2.2.2,.int .i64 (((⟨[],[],[],[],1,1⟩:au)).ae),.int .i64 (((⟨[],[],[],[],1,1⟩:au)).af)])∧Wd w (blks []++own) ([]++[ah.held w own]) [ah.ls z.1 (((⟨[],[],[],[],1,1⟩:au)).aj:List ak),ah.ls z.2.1 (((⟨[],[],[],[],1,1⟩:au)).Things:List ai),ah.ls z.2.2.1 (((⟨[],[],[],[],1,1⟩:au)).Held:List Held),ah.ls z.2.2.2 (((⟨[],[],[],[],1,1⟩:au)).Notes:List Note)] w':=by
  refine R.cQ (n:=2) (vs:=[]) (B:=[ah.held w own]) [] Tryz.func9 rfl rfl rfl rfl H ?_
  refine R.reg rfl<|?_
  refine R.s rfl (s.alloc (cs:=[.slice none 0 0,.slice none 0 0,.slice none 0 0,.slice none 0 0,.int .i64 0,.int .i64 0]) cj rfl rfl) fun b1=>?_
  refine R.nil ?_
  refine R.reg rfl<|R.q (q.build (cs:=[.slice none 0 0,.slice none 0 0,.slice none 0 0,.slice none 0 0,.int .i64 1,.int .i64 1]) cJ rfl rfl) rfl<|?_
  refine R.s rfl (s.st (us:=[.slice none 0 0,.slice none 0 0,.slice none 0 0,.slice none 0 0,.int .i64 1,.int .i64 1]) (cs':=[.slice none 0 0,.slice none 0 0,.slice none 0 0,.slice none 0 0,.int .i64 1,.int .i64 1]) 0 _ rfl rfl rfl rfl (.inl av) rfl rfl rfl rfl) fun _=>?_
  refine R.nil ?_
  refine R.mp (fun _ hw=>hw.aU (α:=ak)) ?_
  refine R.mp (fun _ hw=>hw.aU (α:=ai)) ?_
  refine R.mp (fun _ hw=>hw.aU (α:=Held)) ?_
  refine R.mp (fun _ hw=>hw.aU (α:=Note)) ?_
  exact R.w1 ((.slice none 0 0),(.slice none 0 0),(.slice none 0 0),(.slice none 0 0)) [1] [3,2,1,0] rfl Tryz.results9 (RV.cell 0 rfl rfl av) rfl rfl rfl rfl
theorem nx (t:ai)(w0:ak)(ny:Nat)(w:World)(vk:(ah.box ny [.int .i64 w0.ID,.int .i64 w0.ai,.int .i64 w0.Rights,.int .i64 w0.ar,.int .i64 w0.From] 88).ok w):Calls Tryz.prog 121 #[.agg #[.int .i64 t.ID,.int .i64 t.Kind,.string t.Data],.pointer (some ⟨ny,0,none⟩)] w fun e w'=>e = .returned (.bool (t.ID==w0.ai))∧Ext w w':=by
  refine R.enter (n:=9) (vs:=[.agg #[.int .i64 t.ID,.int .i64 t.Kind,.string t.Data],.pointer (some ⟨ny,0,none⟩)]) [] [(0,.agg #[.int .i64 t.ID,.int .i64 t.Kind,.string t.Data]),(1,.pointer (some ⟨ny,0,none⟩))] Tryz.func121 rfl rfl rfl rfl ?_
  refine R.m0 (r:=ah.box ny [.int .i64 w0.ID,.int .i64 w0.ai,.int .i64 w0.Rights,.int .i64 w0.ar,.int .i64 w0.From] 88) vk (ku vk) ?_
  refine R.reg rfl<|?_
  refine R.s rfl (s.box (cs:=[.int .i64 t.ID,.int .i64 t.Kind,.string t.Data]) rfl rfl rfl) fun b1=>?_
  refine R.u 1 rfl<|R.nil ?_
  refine R.reg rfl<|R.q (q.aX (off':=0) rfl jR rfl) rfl<|R.q (q.ld 0 rfl rfl aA rfl) rfl<|R.q (q.aX (off':=1) rfl eB rfl) rfl<|R.q (q.zr 0 rfl rfl aA rfl) rfl<|?_
  by_cases h1:t.ID=w0.ai
  ·
    refine R.q (q.eql rfl rfl (beq_iff_eq.2 (by omega))) rfl<|R.u 1 rfl<|R.nil ?_
    exact R.rv rfl Tryz.results121 rfl (rB (by (first|exact (beq_iff_eq.2 (by assumption)).symm|exact (beq_eq_false_iff_ne.2 (by assumption)).symm)))
  ·
    refine R.q (q.eql rfl rfl (beq_eq_false_iff_ne.2 (by omega))) rfl<|R.u 1 rfl<|R.nil ?_
    exact R.rv rfl Tryz.results121 rfl (rB (by (first|exact (beq_iff_eq.2 (by assumption)).symm|exact (beq_eq_false_iff_ne.2 (by assumption)).symm)))
theorem ma (t:Note)(w0:ak)(ny:Nat)(w:World)(vk:(ah.box ny [.int .i64 w0.ID,.int .i64 w0.ai,.int .i64 w0.Rights,.int .i64 w0.ar,.int .i64 w0.From] 88).ok w):Calls Tryz.prog 83 #[.agg #[.int .i64 t.Port,.string t.Data,.int .i64 t.ar,.int .i64 t.ak],.pointer (some ⟨ny,0,none⟩)] w fun e w'=>e = .returned (.bool (t.Port==w0.ai))∧Ext w w':=by
  refine R.enter (n:=9) (vs:=[.agg #[.int .i64 t.Port,.string t.Data,.int .i64 t.ar,.int .i64 t.ak],.pointer (some ⟨ny,0,none⟩)]) [] [(0,.agg #[.int .i64 t.Port,.string t.Data,.int .i64 t.ar,.int .i64 t.ak]),(1,.pointer (some ⟨ny,0,none⟩))] Tryz.func83 rfl rfl rfl rfl ?_
  refine R.m0 (r:=ah.box ny [.int .i64 w0.ID,.int .i64 w0.ai,.int .i64 w0.Rights,.int .i64 w0.ar,.int .i64 w0.From] 88) vk (ku vk) ?_
  refine R.reg rfl<|?_
  refine R.s rfl (s.box (cs:=[.int .i64 t.Port,.string t.Data,.int .i64 t.ar,.int .i64 t.ak]) rfl rfl rfl) fun b1=>?_
  refine R.u 1 rfl<|R.nil ?_
  refine R.reg rfl<|R.q (q.aX (off':=0) rfl jS rfl) rfl<|R.q (q.ld 0 rfl rfl aA rfl) rfl<|R.q (q.aX (off':=1) rfl eB rfl) rfl<|R.q (q.zr 0 rfl rfl aA rfl) rfl<|?_
  by_cases h1:t.Port=w0.ai
  ·
    refine R.q (q.eql rfl rfl (beq_iff_eq.2 (by omega))) rfl<|R.u 1 rfl<|R.nil ?_
    exact R.rv rfl Tryz.results83 rfl (rB (by (first|exact (beq_iff_eq.2 (by assumption)).symm|exact (beq_eq_false_iff_ne.2 (by assumption)).symm)))
  ·
    refine R.q (q.eql rfl rfl (beq_eq_false_iff_ne.2 (by omega))) rfl<|R.u 1 rfl<|R.nil ?_
    exact R.rv rfl Tryz.results83 rfl (rB (by (first|exact (beq_iff_eq.2 (by assumption)).symm|exact (beq_eq_false_iff_ne.2 (by assumption)).symm)))
theorem nW (t:ai)(yP:Value)(ts:List Int)(vm:Nat)(w:World)(AG:(ah.box vm [yP] 60).ok w)(BK:Sl w yP ts):Calls Tryz.prog 108 #[.agg #[.int .i64 t.ID,.int .i64 t.Kind,.string t.Data],.pointer (some ⟨vm,0,none⟩)] w fun e w'=>e = .returned (.bool (!decide (t.ID∈ts)))∧Ext w w':=by
  refine R.enter (n:=9) (vs:=[.agg #[.int .i64 t.ID,.int .i64 t.Kind,.string t.Data],.pointer (some ⟨vm,0,none⟩)]) [] [(0,.agg #[.int .i64 t.ID,.int .i64 t.Kind,.string t.Data]),(1,.pointer (some ⟨vm,0,none⟩))] Tryz.func108 rfl rfl rfl rfl ?_
  refine R.m0 (r:=ah.box vm [yP] 60) AG (ku AG) ?_
  refine R.reg rfl<|?_
  refine R.s rfl (s.box (cs:=[.int .i64 t.ID,.int .i64 t.Kind,.string t.Data]) rfl rfl rfl) fun b1=>?_
  refine R.u 1 rfl<|R.nil ?_
  refine R.reg rfl<|R.q (q.zr 0 rfl rfl jQ rfl) rfl<|R.q (q.aX (off':=0) rfl jR rfl) rfl<|R.q (q.ld 0 rfl rfl aA rfl) rfl<|R.c (q.call lY rfl rfl (fun w hw=>(dO _ (ts) (t.ID) w ((fun _=>Wd.old BK) w hw) ))) rfl<|R.q (q.not rfl) rfl<|R.u 1 rfl<|R.nil ?_
  exact R.rv rfl Tryz.results108 rfl (rB (by (rfl)))
theorem nX (h:Held)(aD az aC aB:Value)(r:au)(ki:Nat)(w:World)(Cc:(ah.box ki [aD,az,aC,aB,.int .i64 r.ae,.int .i64 r.af] 32).ok w)(nV:Sl w aD r.aj)(pj:Sl w az r.Things)(qZ:Sl w aC r.Held)(wU:Sl w aB r.Notes):Calls Tryz.prog 111 #[.agg #[.int .i64 h.Place.ag,.int .i64 h.Place.Slot,.int .i64 h.ak],.pointer (some ⟨ki,0,none⟩)] w fun e w'=>e = .returned (.bool (decide (bC r.aj h.ak<0)))∧Ext w w':=by
  refine R.enter (n:=10) (vs:=[.agg #[.int .i64 h.Place.ag,.int .i64 h.Place.Slot,.int .i64 h.ak],.pointer (some ⟨ki,0,none⟩)]) [] [(0,.agg #[.int .i64 h.Place.ag,.int .i64 h.Place.Slot,.int .i64 h.ak]),(1,.pointer (some ⟨ki,0,none⟩))] Tryz.func111 rfl rfl rfl rfl ?_
  refine R.m0 (r:=ah.box ki [aD,az,aC,aB,.int .i64 r.ae,.int .i64 r.af] 32) Cc (ku Cc) ?_
  refine R.reg rfl<|?_
  refine R.s rfl (s.box (cs:=[.int .i64 h.Place.ag,.int .i64 h.Place.Slot,.int .i64 h.ak]) rfl rfl rfl) fun b1=>?_
  refine R.u 1 rfl<|R.nil ?_
  refine R.reg rfl<|R.q (q.aX (off':=0) rfl aY rfl) rfl<|R.q (q.zr 0 rfl rfl bq rfl) rfl<|R.q (q.aX (off':=2) rfl fV rfl) rfl<|R.q (q.ld 0 rfl rfl aA rfl) rfl<|?_
  rcases dB r.aj h.ak with ⟨du,kx⟩ | ⟨jV,dZ,du,fr,AB⟩
  ·
    refine R.c (q.call jh rfl rfl (fun w hw=>(cv (congrArg (Value.int .i64) du) (eL _ (r.aj) (h.ak) w ((fun _=>Wd.old nV) w hw) )))) rfl<|R.q (q.lss (b:=true) rfl rfl (by decide)) rfl<|R.u 1 rfl<|R.nil ?_
    exact R.rv rfl Tryz.results111 rfl (rB (by (first|exact (decide_eq_true (by omega)).symm|exact (decide_eq_false (by omega)).symm)))
  ·
    refine R.c (q.call jh rfl rfl (fun w hw=>(cv (congrArg (Value.int .i64) du) (eL _ (r.aj) (h.ak) w ((fun _=>Wd.old nV) w hw) )))) rfl<|R.q (q.lss rfl rfl (decide_eq_false (by omega))) rfl<|R.u 1 rfl<|R.nil ?_
    exact R.rv rfl Tryz.results111 rfl (rB (by (first|exact (decide_eq_true (by omega)).symm|exact (decide_eq_false (by omega)).symm)))
theorem nY (x:ak)(yQ:Value)(gs:List Int)(vo:Nat)(w:World)(AH:(ah.box vo [yQ] 60).ok w)(BL:Sl w yQ gs):Calls Tryz.prog 78 #[.agg #[.int .i64 x.ID,.int .i64 x.ai,.int .i64 x.Rights,.int .i64 x.ar,.int .i64 x.From],.pointer (some ⟨vo,0,none⟩)] w fun e w'=>e = .returned (.bool (decide (x.ID∈gs)))∧Ext w w':=by
  refine R.enter (n:=8) (vs:=[.agg #[.int .i64 x.ID,.int .i64 x.ai,.int .i64 x.Rights,.int .i64 x.ar,.int .i64 x.From],.pointer (some ⟨vo,0,none⟩)]) [] [(0,.agg #[.int .i64 x.ID,.int .i64 x.ai,.int .i64 x.Rights,.int .i64 x.ar,.int .i64 x.From]),(1,.pointer (some ⟨vo,0,none⟩))] Tryz.func78 rfl rfl rfl rfl ?_
  refine R.m0 (r:=ah.box vo [yQ] 60) AH (ku AH) ?_
  refine R.reg rfl<|?_
  refine R.s rfl (s.box (cs:=[.int .i64 x.ID,.int .i64 x.ai,.int .i64 x.Rights,.int .i64 x.ar,.int .i64 x.From]) rfl rfl rfl) fun b1=>?_
  refine R.u 1 rfl<|R.nil ?_
  refine R.reg rfl<|R.q (q.zr 0 rfl rfl jQ rfl) rfl<|R.q (q.aX (off':=0) rfl bu rfl) rfl<|R.q (q.ld 0 rfl rfl aA rfl) rfl<|R.c (q.call lY rfl rfl (fun w hw=>(dO _ (gs) (x.ID) w ((fun _=>Wd.old BL) w hw) ))) rfl<|R.u 1 rfl<|R.nil ?_
  exact R.rv rfl Tryz.results78 rfl (rB (by (rfl)))
end Go.Proofs.YtbkfhjaibhnkmaaGreatDoor
