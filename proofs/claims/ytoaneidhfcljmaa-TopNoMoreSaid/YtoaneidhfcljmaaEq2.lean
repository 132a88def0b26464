/-
  Things, notes held against each other by '=='.
-/
import Derived.Test.YtoaneidhfcljmaaEq
namespace Go.Proofs.Ytoaneidhfcljmaa
open Go Go.RowKit
set_option linter.unusedVariables false
set_option linter.unusedSimpArgs false
set_option linter.unusedSectionVars false
set_option maxRecDepth 100000

theorem eq_75 : EqT Try.prog 75 Thing.val := by
  have hS : Try.prog.underlying 75 = some (.struct (Try.prog.fieldsOf 75)) := by kernel_rfl
  have hp : Try.prog.stoodInHeld 75 = false := by kernel_rfl
  refine eqT_of (cs := Thing.cs) (by kernel_rfl) fun x y w => ?_
  have u3 := Try.underlying9; have a3 := Try.isAgg9; have z3 := Try.sizeOf9; have u4 := Try.underlying3; have a4 := Try.isAgg3; have z4 := Try.sizeOf3
  obtain ⟨x1, x2, x3⟩ := x; obtain ⟨y1, y2, y3⟩ := y
  rw [Op.equal, Op.maxDepth, show (10000 : Nat) = 9999 + 1 from rfl, run_equalIn_agg w 9999 75 _ _ hS hp]
  simp only [Program.fieldsOf, Try.underlying75]
  go_simp
  have tl : ∀ a b : ByteArray, a.toList = b.toList ↔ a = b := fun a b => by have := bytes_eq a b; rw [Bool.eq_iff_iff] at this; simpa using this
  by_cases h1 : x1 = y1 <;> by_cases h2 : x2 = y2 <;> by_cases h3 : x3 = y3 <;> simp [h1, h2, h3, tl]
theorem eq_71 : EqT Try.prog 71 Note.val := by
  have hS : Try.prog.underlying 71 = some (.struct (Try.prog.fieldsOf 71)) := by kernel_rfl
  have hp : Try.prog.stoodInHeld 71 = false := by kernel_rfl
  refine eqT_of (cs := Note.cs) (by kernel_rfl) fun x y w => ?_
  have u3 := Try.underlying9; have a3 := Try.isAgg9; have z3 := Try.sizeOf9; have u4 := Try.underlying3; have a4 := Try.isAgg3; have z4 := Try.sizeOf3
  obtain ⟨x1, x2, x3, x4⟩ := x; obtain ⟨y1, y2, y3, y4⟩ := y
  rw [Op.equal, Op.maxDepth, show (10000 : Nat) = 9999 + 1 from rfl, run_equalIn_agg w 9999 71 _ _ hS hp]
  simp only [Program.fieldsOf, Try.underlying71]
  go_simp
  have tl : ∀ a b : ByteArray, a.toList = b.toList ↔ a = b := fun a b => by have := bytes_eq a b; rw [Bool.eq_iff_iff] at this; simpa using this
  by_cases h1 : x1 = y1 <;> by_cases h2 : x2 = y2 <;> by_cases h3 : x3 = y3 <;> by_cases h4 : x4 = y4 <;> simp [h1, h2, h3, h4, tl]
end Go.Proofs.Ytoaneidhfcljmaa
