/-
  The walk of the law of chapter 3.
-/
import Derived.Test.YtgmnmibejamneaaThingsW
import Derived.Test.YtgmnmibejamneaaThingsLaw
import Derived.Test.YtgmnmibejamneaaTreeLawW
namespace Go.Proofs.Ytgmnmibejamneaa
open Go Go.RowKit
set_option linter.unusedVariables false
set_option linter.unusedSimpArgs false
set_option maxRecDepth 100000

theorem same_any (err : Int) (f : Int) (w : World) (h0 : 0 ≤ err) : Calls Try.prog 16 #[errv err, .int .i64 f] w fun e w' => e = .returned (.bool (decide (err = f))) ∧ Ext w w' := by
  refine R.enter (n := 26) (vs := [errv err, .int .i64 f]) [] [(0, errv err), (1, .int .i64 f)] Try.func16 rfl rfl rfl rfl ?_
  refine R.reg rfl <| R.u 1 rfl <| R.nil ?_
  refine R.reg rfl <| R.u 1 rfl <| ?_
  by_cases h1 : err = 0
  · refine R.q (q.eqlE0 rfl rfl Try.underlying26 (by omega)) rfl <| R.nil ?_
    refine R.condT rfl rfl ?_
    refine R.reg rfl <| R.u 1 rfl <| ?_
    by_cases h2 : f = 0
    · refine R.q (q.eql rfl rfl (beq_iff_eq.2 (by omega))) rfl <| R.u 1 rfl <| R.nil ?_
      exact R.rv rfl Try.results16 rfl (rB (by (first | exact (decide_eq_true (by omega)).symm | exact (decide_eq_false (by omega)).symm)))
    · refine R.q (q.eql rfl rfl (beq_eq_false_iff_ne.2 (by omega))) rfl <| R.u 1 rfl <| R.nil ?_
      exact R.rv rfl Try.results16 rfl (rB (by (first | exact (decide_eq_true (by omega)).symm | exact (decide_eq_false (by omega)).symm)))
  · refine R.q (q.eqlE1 rfl rfl Try.underlying26 (by omega)) rfl <| R.nil ?_
    refine R.condF rfl rfl ?_
    refine R.reg rfl <| R.u 1 rfl <| R.q (q.tasE rfl (by omega) Try.underlying119) rfl <| R.u 5 rfl <| R.nil ?_
    refine R.reg rfl <| R.u 3 rfl <| ?_
    by_cases h3 : 0 < f
    · refine R.qg rfl (q.gtr rfl rfl (decide_eq_true (by omega))) rfl <| R.u 4 rfl <| ?_
      by_cases h4 : err = f
      · refine R.qg rfl (q.eql rfl rfl (beq_iff_eq.2 (by omega))) rfl <| R.u 2 rfl <| R.nil ?_
        exact R.rv rfl Try.results16 rfl (rB (by (first | exact (decide_eq_true (by omega)).symm | exact (decide_eq_false (by omega)).symm)))
      · refine R.qg rfl (q.eql rfl rfl (beq_eq_false_iff_ne.2 (by omega))) rfl <| R.u 2 rfl <| R.nil ?_
        exact R.rv rfl Try.results16 rfl (rB (by (first | exact (decide_eq_true (by omega)).symm | exact (decide_eq_false (by omega)).symm)))
    · refine R.qg rfl (q.gtr rfl rfl (decide_eq_false (by omega))) rfl <| R.u 7 rfl <| R.nil ?_
      exact R.rv rfl Try.results16 rfl (rB (by (first | exact (decide_eq_true (by omega)).symm | exact (decide_eq_false (by omega)).symm)))

theorem trees_1 : TreeOk [(⟨1, 1, 7, 0, 0⟩ : Writ), (⟨2, 1, 3, 0, 1⟩ : Writ), (⟨3, 1, 1, 0, 2⟩ : Writ)] := by unfold TreeOk; decide
theorem trees_2 : benG 1 [(⟨1, 1, 7, 0, 0⟩ : Writ), (⟨2, 1, 3, 0, 1⟩ : Writ), (⟨3, 1, 1, 0, 2⟩ : Writ)] = [2, 3] := by decide
theorem trees_3 : above [(⟨1, 1, 7, 0, 0⟩ : Writ), (⟨2, 1, 3, 0, 1⟩ : Writ), (⟨3, 1, 1, 0, 2⟩ : Writ)] 3 = [2, 1] := by
  rw [above, show fromOf [(⟨1, 1, 7, 0, 0⟩ : Writ), (⟨2, 1, 3, 0, 1⟩ : Writ), (⟨3, 1, 1, 0, 2⟩ : Writ)] 3 = 2 from by decide, chain_some trees_1 (by decide), show fromOf [(⟨1, 1, 7, 0, 0⟩ : Writ), (⟨2, 1, 3, 0, 1⟩ : Writ), (⟨3, 1, 1, 0, 2⟩ : Writ)] 2 = 1 from by decide, chain_some trees_1 (by decide), show fromOf [(⟨1, 1, 7, 0, 0⟩ : Writ), (⟨2, 1, 3, 0, 1⟩ : Writ), (⟨3, 1, 1, 0, 2⟩ : Writ)] 1 = 0 from by decide, chain_none (by decide)]

theorem trees_any  (w : World)  : Calls Try.prog 68 #[] w fun e w' => e = .returned (.bool true) ∧ Ext w w' := by
  have k1 := trees_1
  have k4 : treeFault [(⟨1, 1, 7, 0, 0⟩ : Writ), (⟨2, 1, 3, 0, 1⟩ : Writ), (⟨3, 1, 1, 0, 2⟩ : Writ)] = 0 := trees_1
  have e2 := decide_eq_true trees_2; have e3 := decide_eq_true trees_3
  refine R.enter (n := 21) (vs := []) [] [] Try.func68 rfl rfl rfl rfl ?_
  refine R.reg rfl <| R.u 1 rfl <| R.nil ?_
  refine R.reg rfl <| R.q (q.build (cs := [.int .i64 1, .int .i64 1, .int .i64 7, .int .i64 0, .int .i64 0]) tB_23 rfl rfl) rfl <| R.q (q.build (cs := [.int .i64 2, .int .i64 1, .int .i64 3, .int .i64 0, .int .i64 1]) tB_23 rfl rfl) rfl <| R.q (q.build (cs := [.int .i64 3, .int .i64 1, .int .i64 1, .int .i64 0, .int .i64 2]) tB_23 rfl rfl) rfl <| ?_
  refine R.s rfl (s.bs (l := ([(⟨1, 1, 7, 0, 0⟩ : Writ), (⟨2, 1, 3, 0, 1⟩ : Writ), (⟨3, 1, 1, 0, 2⟩ : Writ)] : List Writ)) tSl_24 tZero_23 rfl rfl rfl rfl rfl rfl rfl) fun b1 => ?_
  refine R.u 1 rfl <| R.nil ?_
  refine R.reg rfl <| R.u 1 rfl <| R.c (q.call eg_70 rfl rfl (fun w hw => (treeCheck_any _ ([(⟨1, 1, 7, 0, 0⟩ : Writ), (⟨2, 1, 3, 0, 1⟩ : Writ), (⟨3, 1, 1, 0, 2⟩ : Writ)]) w ((fun _ => Wd.row 0 rfl) w hw) ))) rfl <| R.q (q.eqlE0 rfl rfl Try.underlying26 (by omega)) rfl <| R.u 2 rfl <| ?_
  refine R.s rfl (s.callO eg_72 rfl rfl (fun w hw => beneathG_any _ ([(⟨1, 1, 7, 0, 0⟩ : Writ), (⟨2, 1, 3, 0, 1⟩ : Writ), (⟨3, 1, 1, 0, 2⟩ : Writ)]) (1) w ((fun _ => Wd.row 0 rfl) w hw) (by first | omega | decide)) rfl) fun v1 => ?_
  refine R.s rfl (s.bs (l := ([2, 3] : List Int)) tSl_105 tZero_3 rfl rfl rfl rfl rfl rfl rfl) fun b2 => ?_
  refine R.cg rfl (q.call eg_71 rfl rfl (fun w hw => (cv (congrArg Value.bool e2) (sameNumbers_any _ ((benG 1 ([(⟨1, 1, 7, 0, 0⟩ : Writ), (⟨2, 1, 3, 0, 1⟩ : Writ), (⟨3, 1, 1, 0, 2⟩ : Writ)]))) _ ([2, 3]) w ((fun _ => Wd.row 1 rfl) w hw) ((fun _ => Wd.row 0 rfl) w hw) )))) rfl <| R.u 3 rfl <| ?_
  refine R.s rfl (s.callO eg_74 rfl rfl (fun w hw => above_any _ ([(⟨1, 1, 7, 0, 0⟩ : Writ), (⟨2, 1, 3, 0, 1⟩ : Writ), (⟨3, 1, 1, 0, 2⟩ : Writ)]) (3) w ((fun _ => Wd.row 2 rfl) w hw) (by assumption)) rfl) fun v2 => ?_
  refine R.s rfl (s.bs (l := ([2, 1] : List Int)) tSl_105 tZero_3 rfl rfl rfl rfl rfl rfl rfl) fun b3 => ?_
  refine R.cg rfl (q.call eg_71 rfl rfl (fun w hw => (cv (congrArg Value.bool e3) (sameNumbers_any _ ((above ([(⟨1, 1, 7, 0, 0⟩ : Writ), (⟨2, 1, 3, 0, 1⟩ : Writ), (⟨3, 1, 1, 0, 2⟩ : Writ)]) 3)) _ ([2, 1]) w ((fun _ => Wd.row 1 rfl) w hw) ((fun _ => Wd.row 0 rfl) w hw) )))) rfl <| R.u 2 rfl <| R.nil ?_
  exact R.rv rfl Try.results68 rfl (rB (by (first | omega | rfl)))

theorem treeSays_any (v_l : Value) (l : List Writ) (id : Int) (w : World) (s_l : Sl w v_l l) : Calls Try.prog 8 #[v_l, .int .i64 id] w fun e w' => e = .returned (.bool true) ∧ Ext w w' := by
  have b_l := s_l.lenle
  have e0 : decide (treeFault l = treeFault l) = true := decide_eq_true rfl
  have hn := treeFault_nonneg l
  refine R.enter (n := 59) (vs := [v_l, .int .i64 id]) [] [(0, v_l), (1, .int .i64 id)] Try.func8 rfl rfl rfl rfl ?_
  refine R.reg rfl <| R.u 1 rfl <| R.nil ?_
  refine R.reg rfl <| R.c (q.call eg_68 rfl rfl (fun w hw => (cv (congrArg Value.bool rfl) (trees_any  w  )))) rfl <| R.u 1 rfl <| R.nil ?_
  refine R.reg rfl <| R.u 4 rfl <| R.qg rfl (q.len' (fun _ => Wd.old s_l) rfl Try.underlying24) rfl <| ?_
  by_cases h1 : 40 < l.length
  · refine R.qg rfl (q.gtr rfl rfl (decide_eq_true (by omega))) rfl <| R.u 1 rfl <| R.nil ?_
    refine R.condT rfl rfl ?_
    refine R.reg rfl <| R.u 2 rfl <| R.nil ?_
    exact R.rv rfl Try.results8 rfl (rB (by (first | omega | rfl)))
  · refine R.qg rfl (q.gtr rfl rfl (decide_eq_false (by omega))) rfl <| R.u 1 rfl <| R.nil ?_
    refine R.condF rfl rfl ?_
    refine R.reg rfl <| R.u 1 rfl <| R.c (q.call eg_69 rfl rfl (fun w hw => (treeFaultRef_any _ (l) w ((fun _ => Wd.old s_l) w hw) ))) rfl <| R.u 1 rfl <| R.nil ?_
    refine R.reg rfl <| R.u 1 rfl <| R.c (q.call eg_70 rfl rfl (fun w hw => (treeCheck_any _ (l) w ((fun _ => Wd.old s_l) w hw) ))) rfl <| R.u 1 rfl <| R.c (q.call eg_16 rfl rfl (fun w hw => (cv (congrArg Value.bool e0) (same_any (treeFault l) (treeFault l) w  (by first | omega | exact treeFault_nonneg _))))) rfl <| R.u 1 rfl <| R.nil ?_
    refine R.condF rfl rfl ?_
    refine R.reg rfl <| R.u 1 rfl <| ?_
    by_cases h2 : 0 < treeFault l
    · refine R.q (q.gtr rfl rfl (decide_eq_true (by omega))) rfl <| R.u 35 rfl <| R.nil ?_
      exact R.rv rfl Try.results8 rfl (rB (by (first | omega | rfl)))
    · have hT : TreeOk l := Int.le_antisymm (Int.not_lt.1 h2) hn
      have e1 := decide_eq_true (show (benG id l) = (beneath l id) from benG_eq hT id)
      have e2 := decide_eq_true (show (above l id) = (above l id) from rfl)
      have e3 := decide_eq_true (show (without l id) = (woRef l id) from (woRef_eq hT id).symm)
      have e4 := decide_eq_true (show (Lib.compact (sortI ((l).map Writ.Thing))) = (thingsOf l) from things_eq hT)
      refine R.q (q.gtr rfl rfl (decide_eq_false (by omega))) rfl <| R.u 3 rfl <| ?_
      refine R.s rfl (s.callO eg_72 rfl rfl (fun w hw => beneathG_any _ (l) (id) w ((fun _ => Wd.old s_l) w hw) (by first | omega | decide)) rfl) fun v1 => ?_
      refine R.u 2 rfl <| ?_
      refine R.s rfl (s.callO eg_73 rfl rfl (fun w hw => beneathRef_any _ (l) (id) w ((fun _ => Wd.old s_l) w hw) (by assumption) (by first | omega | decide)) rfl) fun v2 => ?_
      refine R.cg rfl (q.call eg_71 rfl rfl (fun w hw => (cv (congrArg Value.bool e1) (sameNumbers_any _ ((benG id l)) _ ((beneath l id)) w ((fun _ => Wd.row 1 rfl) w hw) ((fun _ => Wd.row 0 rfl) w hw) )))) rfl <| R.u 3 rfl <| ?_
      refine R.s rfl (s.callO eg_74 rfl rfl (fun w hw => above_any _ (l) (id) w ((fun _ => Wd.old s_l) w hw) (by assumption)) rfl) fun v3 => ?_
      refine R.u 2 rfl <| ?_
      refine R.s rfl (s.callO eg_75 rfl rfl (fun w hw => aboveRef_any _ (l) (id) w ((fun _ => Wd.old s_l) w hw) (by assumption)) rfl) fun v4 => ?_
      refine R.cg rfl (q.call eg_71 rfl rfl (fun w hw => (cv (congrArg Value.bool e2) (sameNumbers_any _ ((above l id)) _ ((above l id)) w ((fun _ => Wd.row 1 rfl) w hw) ((fun _ => Wd.row 0 rfl) w hw) )))) rfl <| R.u 4 rfl <| ?_
      refine R.s rfl (s.callO eg_77 rfl rfl (fun w hw => without_any _ (l) (id) w ((fun _ => Wd.old s_l) w hw) (by first | omega | decide)) rfl) fun v5 => ?_
      refine R.u 2 rfl <| ?_
      refine R.s rfl (s.callO eg_78 rfl rfl (fun w hw => withoutRef_any _ (l) (id) w ((fun _ => Wd.old s_l) w hw) (by first | omega | decide)) rfl) fun v6 => ?_
      refine R.cg rfl (q.call eg_76 rfl rfl (fun w hw => (cv (congrArg Value.bool e3) (sameWrits_any _ ((without l id)) _ ((woRef l id)) w ((fun _ => Wd.row 1 rfl) w hw) ((fun _ => Wd.row 0 rfl) w hw) )))) rfl <| R.u 3 rfl <| ?_
      refine R.s rfl (s.callO eg_79 rfl rfl (fun w hw => things_any _ (l) w ((fun _ => Wd.old s_l) w hw) (by first | omega | decide)) rfl) fun v7 => ?_
      refine R.u 1 rfl <| ?_
      refine R.s rfl (s.callO eg_80 rfl rfl (fun w hw => thingsRef_any _ (l) w ((fun _ => Wd.old s_l) w hw) ) rfl) fun v8 => ?_
      refine R.cg rfl (q.call eg_71 rfl rfl (fun w hw => (cv (congrArg Value.bool e4) (sameNumbers_any _ ((Lib.compact (sortI ((l).map Writ.Thing)))) _ ((thingsOf l)) w ((fun _ => Wd.row 1 rfl) w hw) ((fun _ => Wd.row 0 rfl) w hw) )))) rfl <| R.u 3 rfl <| R.nil ?_
      exact R.rv rfl Try.results8 rfl (rB (by (first | omega | rfl)))

end Go.Proofs.Ytgmnmibejamneaa
