/-
  The walk of 'same': an error told by its number.
-/
import Derived.Test.YtgmnmibejamneaaKind
import Derived.Test.YtgmnmibejamneaaProg
import Derived.WideLaws
namespace Go.Proofs.Ytgmnmibejamneaa
open Go.RowKit
set_option linter.unusedVariables false

theorem assertErrno (n : Int) (w : World) : (Instr.typeAssert (.iface 119 (.int .i64 n)) 26 119 true).run Try.prog w = .ok (.tuple #[.int .i64 n, .bool true]) w := by kernel_rfl

set_option maxHeartbeats 1000000 in
theorem same_any (n : Int) (w : World) (h0 : 0 ≤ n) : Calls Try.prog 16 #[errv n, .int .i64 n] w fun e w' => e = .returned (.bool true) ∧ w = w' := by
  by_cases h : n = 0
  · subst h
    rw [errv_zero]
    go_enter Try.func16, Try.ntmps16
    go_wp2
    go_ret
    exact ⟨rfl, rfl⟩
  · rw [errv_pos h]
    have h1 : 0 < n := by omega
    clear h
    have hta := fun w => assertErrno n w
    go_enter Try.func16, Try.ntmps16
    go_wp2
    go_ret
    exact ⟨rfl, rfl⟩
end Go.Proofs.Ytgmnmibejamneaa
