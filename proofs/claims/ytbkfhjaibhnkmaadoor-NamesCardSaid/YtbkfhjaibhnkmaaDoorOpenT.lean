/-
  The readings of this seat's own types: a writ, and the like, out of its cells.
-/
import Derived.Test.YtbkfhjaibhnkmaaDoorOpen
import Derived.Test.YtbkfhjaibhnkmaaDoorProg
namespace Go.Proofs.YtbkfhjaibhnkmaaDoor
open Go.ChangeShapes Go.WideShapes Go.ChangeAt Go.RowKit Go.Deep
set_option linter.unusedVariables false
set_option maxRecDepth 100000

/-- a field of one cell, cut out of a struct's cells -/
theorem cut1 {cs : List Value} {i : Nat} (h : i < cs.length) : (cs.drop i).take 1 = [cs[i]] := by
  rw [List.drop_eq_getElem_cons h]; rfl

def Writ.Fit (x : Writ) : Prop := InI x.ID ∧ InI x.Thing ∧ InI x.Rights ∧ InI x.Badge ∧ InI x.From
section
variable {H : Type} {enc : TypeId × Value → H} {w : World} {base : Nat} {spare : Nat → Bool} {held : Bool}
theorem rd_int {m : Nat} {c : Value} {y : DataW H × List MemPlace} (h : DataW.trod enc Tryd.prog w base spare held m 3 [c] = some y) : ∃ n, c = .int .i64 n ∧ InI n := by
  obtain ⟨n, hn, _, hw⟩ := DataW.trod_int Tryd.underlying3 h
  injection hn with hn _
  exact ⟨n, hn, inI_of_wf hw⟩
theorem field_of {P : Program} {fs : Array Field} {n : Nat} {cs : List Value} {xs : List (DataW H × List MemPlace)}
    (hf : ∀ (i : Nat) (f : Field), fs[i]? = some f → DataW.trod enc P w base spare held n f.type ((cs.drop f.offset).take (P.cellsOf f.type)) = xs[i]?)
    (i : Nat) (f : Field) (hi : fs[i]? = some f) (t o k : Nat) (ht : f.type = t) (ho : f.offset = o) (hk : P.cellsOf t = k) : DataW.trod enc P w base spare held n t ((cs.drop o).take k) = xs[i]? := by
  subst ht ho hk; exact hf i f hi
theorem cellsInt : Tryd.prog.cellsOf 3 = 1 := by kernel_rfl
/-- an argument of a whole number -/
theorem arg_int {r : Reach} {b0 : Nat} {v : Value} {d : DataW H} {p : List MemPlace} (hv : Value.okWide Tryd.prog w r b0 3 v) (h : DataW.Trod enc Tryd.prog w base spare held 3 v d p) : ∃ n, v = .int .i64 n ∧ InI n := by
  obtain ⟨n, hn, _, _, hw⟩ := open_int Tryd.underlying3 hv h
  exact ⟨n, hn, inI_of_wf hw⟩
/-- an argument that is a text -/
theorem arg_string {r : Reach} {b0 : Nat} {v : Value} {d : DataW H} {p : List MemPlace} (hv : Value.okWide Tryd.prog w r b0 9 v) (h : DataW.Trod enc Tryd.prog w base spare held 9 v d p) : ∃ s : ByteArray, v = .string s ∧ s.size ≤ maxLen := by
  obtain ⟨s, hs, _, _, hw⟩ := Go.ChangeMaps.open_string Tryd.underlying9 hv h
  exact ⟨s, hs, hw⟩
end
end Go.Proofs.YtbkfhjaibhnkmaaDoor
