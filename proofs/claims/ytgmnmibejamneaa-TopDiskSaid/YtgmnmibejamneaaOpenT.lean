/-
  The readings of this seat's own types: a writ, and the like, out of its cells.
-/
import Derived.Test.YtgmnmibejamneaaOpen
import Derived.Test.YtgmnmibejamneaaProg
namespace Go.Proofs.Ytgmnmibejamneaa
open Go.ChangeShapes Go.WideShapes Go.ChangeAt Go.RowKit Go.Deep
set_option linter.unusedVariables false
set_option maxRecDepth 100000

/-- a field of one cell, cut out of a struct's cells -/
theorem cut1 {cs : List Value} {i : Nat} (h : i < cs.length) : (cs.drop i).take 1 = [cs[i]] := by
  rw [List.drop_eq_getElem_cons h]; rfl

def Writ.Fit (x : Writ) : Prop := InI x.ID ∧ InI x.Thing ∧ InI x.Rights ∧ InI x.Badge ∧ InI x.From
section
variable {H : Type} {enc : TypeId × Value → H} {w : World} {base : Nat} {spare : Nat → Bool} {held : Bool}
theorem rd_int {m : Nat} {c : Value} {y : DataW H × List MemPlace} (h : DataW.trod enc Try.prog w base spare held m 3 [c] = some y) : ∃ n, c = .int .i64 n ∧ InI n := by
  obtain ⟨n, hn, _, hw⟩ := DataW.trod_int Try.underlying3 h
  injection hn with hn _
  exact ⟨n, hn, inI_of_wf hw⟩
theorem field_of {P : Program} {fs : Array Field} {n : Nat} {cs : List Value} {xs : List (DataW H × List MemPlace)}
    (hf : ∀ (i : Nat) (f : Field), fs[i]? = some f → DataW.trod enc P w base spare held n f.type ((cs.drop f.offset).take (P.cellsOf f.type)) = xs[i]?)
    (i : Nat) (f : Field) (hi : fs[i]? = some f) (t o k : Nat) (ht : f.type = t) (ho : f.offset = o) (hk : P.cellsOf t = k) : DataW.trod enc P w base spare held n t ((cs.drop o).take k) = xs[i]? := by
  subst ht ho hk; exact hf i f hi
theorem cellsInt : Try.prog.cellsOf 3 = 1 := by kernel_rfl
theorem cellsWrit : Try.prog.cellsOf 23 = 5 := by kernel_rfl
theorem rd_writ {m : Nat} {cs : List Value} {y : DataW H × List MemPlace} (hl : cs.length = 5) (h : DataW.trod enc Try.prog w base spare held m 23 cs = some y) : ∃ z : Writ, cs = Enc.cells z ∧ z.Fit := by
  match cs, hl with
  | [c0, c1, c2, c3, c4], _ =>
    obtain ⟨xs, n, _, _, _, hlen, hf⟩ := DataW.trod_struct Try.underlying23 h
    match xs, hlen with
    | [y0, y1, y2, y3, y4], _ =>
      have g0 := field_of hf 0 _ rfl 3 0 1 rfl rfl cellsInt; have g1 := field_of hf 1 _ rfl 3 1 1 rfl rfl cellsInt; have g2 := field_of hf 2 _ rfl 3 2 1 rfl rfl cellsInt; have g3 := field_of hf 3 _ rfl 3 3 1 rfl rfl cellsInt; have g4 := field_of hf 4 _ rfl 3 4 1 rfl rfl cellsInt
      obtain ⟨n0, rfl, w0⟩ := rd_int (c := c0) (by simpa using g0)
      obtain ⟨n1, rfl, w1⟩ := rd_int (c := c1) (by simpa using g1)
      obtain ⟨n2, rfl, w2⟩ := rd_int (c := c2) (by simpa using g2)
      obtain ⟨n3, rfl, w3⟩ := rd_int (c := c3) (by simpa using g3)
      obtain ⟨n4, rfl, w4⟩ := rd_int (c := c4) (by simpa using g4)
      exact ⟨⟨n0, n1, n2, n3, n4⟩, rfl, w0, w1, w2, w3, w4⟩
/-- an argument of a whole number -/
theorem arg_int {r : Reach} {b0 : Nat} {v : Value} {d : DataW H} {p : List MemPlace} (hv : Value.okWide Try.prog w r b0 3 v) (h : DataW.Trod enc Try.prog w base spare held 3 v d p) : ∃ n, v = .int .i64 n ∧ InI n := by
  obtain ⟨n, hn, _, _, hw⟩ := open_int Try.underlying3 hv h
  exact ⟨n, hn, inI_of_wf hw⟩
/-- an argument that is a text -/
theorem arg_string {r : Reach} {b0 : Nat} {v : Value} {d : DataW H} {p : List MemPlace} (hv : Value.okWide Try.prog w r b0 9 v) (h : DataW.Trod enc Try.prog w base spare held 9 v d p) : ∃ s : ByteArray, v = .string s ∧ s.size ≤ maxLen := by
  obtain ⟨s, hs, _, _, hw⟩ := Go.ChangeMaps.open_string Try.underlying9 hv h
  exact ⟨s, hs, hw⟩
/-- an argument that is a writ -/
theorem arg_writ {r : Reach} {b0 : Nat} {v : Value} {d : DataW H} {p : List MemPlace} (hv : Value.okWide Try.prog w r b0 23 v) (h : DataW.Trod enc Try.prog w base spare held 23 v d p) : ∃ x : Writ, v = x.val ∧ x.Fit := by
  obtain ⟨cs, rfl, hsz⟩ := okWide_struct Try.underlying23 hv
  obtain ⟨m, hm⟩ := h
  obtain ⟨z, hz, hg⟩ := rd_writ (cs := cs.toList) (by simpa using hsz.trans cellsWrit) (by simpa [Value.cells] using hm)
  refine ⟨z, ?_, hg⟩
  have : cs = (Enc.cells z).toArray := by rw [← hz]
  rw [this]; rfl
/-- an argument that is a slice of writs -/
theorem arg_writs {r : Reach} {b0 : Nat} {v : Value} {d : DataW H} {p : List MemPlace} (hv : Value.okWide Try.prog w r b0 24 v) (h : DataW.Trod enc Try.prog w base spare held 24 v d p) : ∃ l : List Writ, Sl w v l ∧ ∀ z ∈ l, z.Fit := by
  obtain ⟨a, len, cap, rfl⟩ := okWide_slice Try.underlying24 hv
  obtain ⟨m, hm⟩ := h
  exact open_list Try.underlying24 cellsWrit Writ.Fit (fun _ _ _ hl hy => rd_writ hl hy) hm
end
end Go.Proofs.Ytgmnmibejamneaa
