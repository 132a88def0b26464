/-
  The readings of texts, and of lists of changes, out of their cells.
-/
import Derived.Test.YtpipachmngdegaaOpenA
import Derived.Test.YtpipachmngdegaaBat
namespace Go.Proofs.Ytpipachmngdegaa
open Go.ChangeShapes Go.WideShapes Go.ChangeAt Go.RowKit Go.Deep
set_option linter.unusedVariables false
set_option maxRecDepth 100000
section
variable {H : Type} {enc : TypeId × Value → H} {w : World} {base : Nat} {spare : Nat → Bool} {held : Bool}
theorem rd_strE {m : Nat} {cs : List Value} {y : DataW H × List MemPlace} (hl : cs.length = 1) (h : DataW.trod enc Try.prog w base spare held m 9 cs = some y) : ∃ z : ByteArray, cs = Enc.cells z ∧ z.size ≤ maxLen := by
  match cs, hl with
  | [c], _ =>
    obtain ⟨s, rfl, hs⟩ := rd_str h
    exact ⟨s, rfl, hs⟩
theorem rd_bat {m : Nat} {cs : List Value} {y : DataW H × List MemPlace} (hl : cs.length = 1) (h : DataW.trod enc Try.prog w base spare held m 46 cs = some y) : ∃ z : Bat, cs = Enc.cells z ∧ (Sl w z.cv z.L ∧ ∀ q ∈ z.L, q.Fit) := by
  match cs, hl with
  | [c], _ =>
    obtain ⟨l, hs, hf⟩ := open_list (v := c) Try.underlying46 cellsChange Change.Fit (fun _ _ _ hl hy => rd_change hl hy) h
    refine ⟨⟨c, l⟩, ?_, ?_, hf⟩
    · show [c] = [slOf c]; rw [hs.slOf]
    · show Sl w (slOf c) l; rw [hs.slOf]; exact hs
theorem arg_strings {r : Reach} {b0 : Nat} {v : Value} {d : DataW H} {p : List MemPlace} (hv : Value.okWide Try.prog w r b0 22 v) (h : DataW.Trod enc Try.prog w base spare held 22 v d p) : ∃ l : List ByteArray, Sl w v l ∧ ∀ z ∈ l, z.size ≤ maxLen := by
  obtain ⟨a, len, cap, rfl⟩ := okWide_slice Try.underlying22 hv
  obtain ⟨m, hm⟩ := h
  exact open_list Try.underlying22 cellsString (fun z : ByteArray => z.size ≤ maxLen) (fun _ _ _ hl hy => rd_strE hl hy) hm
theorem arg_deeds {r : Reach} {b0 : Nat} {v : Value} {d : DataW H} {p : List MemPlace} (hv : Value.okWide Try.prog w r b0 33 v) (h : DataW.Trod enc Try.prog w base spare held 33 v d p) : ∃ l : List Bat, Sl w v l ∧ (∀ z ∈ l, Sl w z.cv z.L) ∧ ∀ z ∈ l, ∀ q ∈ z.L, q.Fit := by
  obtain ⟨a, len, cap, rfl⟩ := okWide_slice Try.underlying33 hv
  obtain ⟨m, hm⟩ := h
  obtain ⟨l, h1, h2⟩ := open_list Try.underlying33 cellsChanges (fun z : Bat => Sl w z.cv z.L ∧ ∀ q ∈ z.L, q.Fit) (fun _ _ _ hl hy => rd_bat hl hy) hm
  exact ⟨l, h1, fun z hz => (h2 z hz).1, fun z hz => (h2 z hz).2⟩
end
end Go.Proofs.Ytpipachmngdegaa
