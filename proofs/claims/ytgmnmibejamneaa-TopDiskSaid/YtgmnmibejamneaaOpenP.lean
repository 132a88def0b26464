/-
  The readings of a place, and of what is held, out of their cells.
-/
import Derived.Test.YtgmnmibejamneaaOpenT
namespace Go.Proofs.Ytgmnmibejamneaa
open Go.ChangeShapes Go.WideShapes Go.ChangeAt Go.RowKit Go.Deep
set_option linter.unusedVariables false
set_option maxRecDepth 100000
def Place.Fit (x : Place) : Prop := InI x.Holder ∧ InI x.Slot
def Held.Fit (x : Held) : Prop := x.Place.Fit ∧ InI x.Writ
section
variable {H : Type} {enc : TypeId × Value → H} {w : World} {base : Nat} {spare : Nat → Bool} {held : Bool}
theorem cellsPlace : Try.prog.cellsOf 47 = 2 := by kernel_rfl
theorem cellsHeld : Try.prog.cellsOf 99 = 3 := by kernel_rfl
theorem rd_place {m : Nat} {cs : List Value} {y : DataW H × List MemPlace} (hl : cs.length = 2) (h : DataW.trod enc Try.prog w base spare held m 47 cs = some y) : ∃ z : Place, cs = [.int .i64 z.Holder, .int .i64 z.Slot] ∧ z.Fit := by
  match cs, hl with
  | [c0, c1], _ =>
    obtain ⟨xs, n, _, _, _, hlen, hf⟩ := DataW.trod_struct Try.underlying47 h
    match xs, hlen with
    | [y0, y1], _ =>
      have g0 := field_of hf 0 _ rfl 3 0 1 rfl rfl cellsInt; have g1 := field_of hf 1 _ rfl 3 1 1 rfl rfl cellsInt
      obtain ⟨n0, rfl, w0⟩ := rd_int (c := c0) (by simpa using g0)
      obtain ⟨n1, rfl, w1⟩ := rd_int (c := c1) (by simpa using g1)
      exact ⟨⟨n0, n1⟩, rfl, w0, w1⟩
theorem rd_held {m : Nat} {cs : List Value} {y : DataW H × List MemPlace} (hl : cs.length = 3) (h : DataW.trod enc Try.prog w base spare held m 99 cs = some y) : ∃ z : Held, cs = Enc.cells z ∧ z.Fit := by
  match cs, hl with
  | [c0, c1, c2], _ =>
    obtain ⟨xs, n, _, _, _, hlen, hf⟩ := DataW.trod_struct Try.underlying99 h
    match xs, hlen with
    | [y0, y1], _ =>
      have g0 := field_of hf 0 _ rfl 47 0 2 rfl rfl cellsPlace; have g1 := field_of hf 1 _ rfl 3 2 1 rfl rfl cellsInt
      obtain ⟨z0, e0, w0⟩ := rd_place (cs := [c0, c1]) rfl (by simpa using g0)
      simp only [List.cons.injEq, and_true] at e0
      obtain ⟨rfl, rfl⟩ := e0
      obtain ⟨n1, rfl, w1⟩ := rd_int (c := c2) (by simpa using g1)
      exact ⟨⟨z0, n1⟩, rfl, w0, w1⟩
theorem arg_place {r : Reach} {b0 : Nat} {v : Value} {d : DataW H} {p : List MemPlace} (hv : Value.okWide Try.prog w r b0 47 v) (h : DataW.Trod enc Try.prog w base spare held 47 v d p) : ∃ x : Place, v = x.val ∧ x.Fit := by
  obtain ⟨cs, rfl, hsz⟩ := okWide_struct Try.underlying47 hv
  obtain ⟨m, hm⟩ := h
  obtain ⟨z, hz, hg⟩ := rd_place (cs := cs.toList) (by simpa using hsz.trans cellsPlace) (by simpa [Value.cells] using hm)
  refine ⟨z, ?_, hg⟩
  have : cs = #[.int .i64 z.Holder, .int .i64 z.Slot] := by rw [← Array.toArray_toList (xs := cs), hz]
  rw [this]
theorem arg_helds {r : Reach} {b0 : Nat} {v : Value} {d : DataW H} {p : List MemPlace} (hv : Value.okWide Try.prog w r b0 89 v) (h : DataW.Trod enc Try.prog w base spare held 89 v d p) : ∃ l : List Held, Sl w v l ∧ ∀ z ∈ l, z.Fit := by
  obtain ⟨a, len, cap, rfl⟩ := okWide_slice Try.underlying89 hv
  obtain ⟨m, hm⟩ := h
  exact open_list Try.underlying89 cellsHeld Held.Fit (fun _ _ _ hl hy => rd_held hl hy) hm
end
end Go.Proofs.Ytgmnmibejamneaa
