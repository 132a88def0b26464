/-
  The closed facts of chapter 4. No program.
-/
import Derived.Test.YtoaneidhfcljmaaShelfLaw
namespace Go.Proofs.Ytoaneidhfcljmaa
theorem one_put : putH [] ⟨1, 2⟩ 5 = [⟨⟨1, 2⟩, 5⟩] := by rw [put_eq List.Pairwise.nil]; decide
theorem one_rise : Rise [⟨⟨1, 2⟩, 5⟩] := List.pairwise_singleton _ _
theorem one_at : atH (putH [] ⟨1, 2⟩ 5) ⟨1, 2⟩ = 5 := by rw [one_put, at_eq one_rise]; decide
theorem one_free : freeH (putH [] ⟨1, 2⟩ 5) 1 = 0 := by rw [one_put, free_eq one_rise]; decide
end Go.Proofs.Ytoaneidhfcljmaa
