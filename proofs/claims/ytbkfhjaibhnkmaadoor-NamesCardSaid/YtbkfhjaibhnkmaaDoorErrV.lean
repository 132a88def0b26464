/-
  Errors as elements of a slice.
-/
import Derived.Test.YtbkfhjaibhnkmaaDoorR10
namespace Go.Proofs.YtbkfhjaibhnkmaaDoor
open Go Go.RowKit
set_option linter.unusedVariables false

structure ErrV where
  k : Int
instance : Enc ErrV := ⟨1, fun x => [errv x.k], fun _ => rfl, fun x u hu => by rw [List.mem_singleton.1 hu]; unfold errv; split <;> rfl, by decide⟩
end Go.Proofs.YtbkfhjaibhnkmaaDoor
