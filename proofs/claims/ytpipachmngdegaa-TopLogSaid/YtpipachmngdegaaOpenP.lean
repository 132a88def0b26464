/-
  The readings of a place, and of what is held, out of their cells.
-/
import Derived.Test.YtpipachmngdegaaOpenT
namespace Go.Proofs.Ytpipachmngdegaa
open Go.ChangeShapes Go.WideShapes Go.ChangeAt Go.RowKit Go.Deep
set_option linter.unusedVariables false
set_option maxRecDepth 100000
def Place.Fit (x : Place) : Prop := InI x.Holder ∧ InI x.Slot
def Held.Fit (x : Held) : Prop := x.Place.Fit ∧ InI x.Writ
section
variable {H : Type} {enc : TypeId × Value → H} {w : World} {base : Nat} {spare : Nat → Bool} {held : Bool}
theorem cellsPlace : Try.prog.cellsOf 44 = 2 := by kernel_rfl
theorem rd_place {m : Nat} {cs : List Value} {y : DataW H × List MemPlace} (hl : cs.length = 2) (h : DataW.trod enc Try.prog w base spare held m 44 cs = some y) : ∃ z : Place, cs = [.int .i64 z.Holder, .int .i64 z.Slot] ∧ z.Fit := by
  match cs, hl with
  | [c0, c1], _ =>
    obtain ⟨xs, n, _, _, _, hlen, hf⟩ := DataW.trod_struct Try.underlying44 h
    match xs, hlen with
    | [y0, y1], _ =>
      have g0 := field_of hf 0 _ rfl 3 0 1 rfl rfl cellsInt; have g1 := field_of hf 1 _ rfl 3 1 1 rfl rfl cellsInt
      obtain ⟨n0, rfl, w0⟩ := rd_int (c := c0) (by simpa using g0)
      obtain ⟨n1, rfl, w1⟩ := rd_int (c := c1) (by simpa using g1)
      exact ⟨⟨n0, n1⟩, rfl, w0, w1⟩
theorem arg_place {r : Reach} {b0 : Nat} {v : Value} {d : DataW H} {p : List MemPlace} (hv : Value.okWide Try.prog w r b0 44 v) (h : DataW.Trod enc Try.prog w base spare held 44 v d p) : ∃ x : Place, v = x.val ∧ x.Fit := by
  obtain ⟨cs, rfl, hsz⟩ := okWide_struct Try.underlying44 hv
  obtain ⟨m, hm⟩ := h
  obtain ⟨z, hz, hg⟩ := rd_place (cs := cs.toList) (by simpa using hsz.trans cellsPlace) (by simpa [Value.cells] using hm)
  refine ⟨z, ?_, hg⟩
  have : cs = #[.int .i64 z.Holder, .int .i64 z.Slot] := by rw [← Array.toArray_toList (xs := cs), hz]
  rw [this]
end
end Go.Proofs.Ytpipachmngdegaa
