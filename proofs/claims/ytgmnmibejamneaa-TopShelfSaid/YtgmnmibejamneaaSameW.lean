/-
  The walks of telling an error by its number.
-/
import Derived.Test.YtgmnmibejamneaaEq
import Derived.Test.YtgmnmibejamneaaR6
namespace Go.Proofs.Ytgmnmibejamneaa
open Go Go.RowKit
set_option linter.unusedVariables false
set_option maxRecDepth 100000

theorem same_any (err : Int) (f : Int) (w : World) (h0 : 0 ≤ err) : Calls Try.prog 16 #[errv err, .int .i64 f] w fun e w' => e = .returned (.bool (decide (err = f))) ∧ Ext w w' := by
  refine R.enter (n := 26) (vs := [errv err, .int .i64 f]) [] [(0, errv err), (1, .int .i64 f)] Try.func16 rfl rfl rfl rfl ?_
  refine R.reg rfl <| R.u 1 rfl <| R.nil ?_
  refine R.reg rfl <| R.u 1 rfl <| ?_
  by_cases h1 : err = 0
  · refine R.q (q.eqlE0 rfl rfl Try.underlying26 (by omega)) rfl <| R.nil ?_
    refine R.condT rfl rfl ?_
    refine R.reg rfl <| R.u 1 rfl <| ?_
    by_cases h2 : f = 0
    · refine R.q (q.eql rfl rfl (beq_iff_eq.2 (by omega))) rfl <| R.u 1 rfl <| R.nil ?_
      exact R.rv rfl Try.results16 rfl (rB (by (first | exact (decide_eq_true (by omega)).symm | exact (decide_eq_false (by omega)).symm)))
    · refine R.q (q.eql rfl rfl (beq_eq_false_iff_ne.2 (by omega))) rfl <| R.u 1 rfl <| R.nil ?_
      exact R.rv rfl Try.results16 rfl (rB (by (first | exact (decide_eq_true (by omega)).symm | exact (decide_eq_false (by omega)).symm)))
  · refine R.q (q.eqlE1 rfl rfl Try.underlying26 (by omega)) rfl <| R.nil ?_
    refine R.condF rfl rfl ?_
    refine R.reg rfl <| R.u 1 rfl <| R.q (q.tasE rfl (by omega) Try.underlying119) rfl <| R.u 5 rfl <| R.nil ?_
    refine R.reg rfl <| R.u 3 rfl <| ?_
    by_cases h3 : 0 < f
    · refine R.qg rfl (q.gtr rfl rfl (decide_eq_true (by omega))) rfl <| R.u 4 rfl <| ?_
      by_cases h4 : err = f
      · refine R.qg rfl (q.eql rfl rfl (beq_iff_eq.2 (by omega))) rfl <| R.u 2 rfl <| R.nil ?_
        exact R.rv rfl Try.results16 rfl (rB (by (first | exact (decide_eq_true (by omega)).symm | exact (decide_eq_false (by omega)).symm)))
      · refine R.qg rfl (q.eql rfl rfl (beq_eq_false_iff_ne.2 (by omega))) rfl <| R.u 2 rfl <| R.nil ?_
        exact R.rv rfl Try.results16 rfl (rB (by (first | exact (decide_eq_true (by omega)).symm | exact (decide_eq_false (by omega)).symm)))
    · refine R.qg rfl (q.gtr rfl rfl (decide_eq_false (by omega))) rfl <| R.u 7 rfl <| R.nil ?_
      exact R.rv rfl Try.results16 rfl (rB (by (first | exact (decide_eq_true (by omega)).symm | exact (decide_eq_false (by omega)).symm)))

end Go.Proofs.Ytgmnmibejamneaa
