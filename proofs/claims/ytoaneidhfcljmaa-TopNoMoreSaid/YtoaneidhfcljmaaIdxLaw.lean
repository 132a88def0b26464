/-
  Lists searched, and thinned out. No program.
-/
import Derived.Test.YtoaneidhfcljmaaWritSpec2
namespace Go.Proofs.Ytoaneidhfcljmaa
set_option linter.unusedVariables false
theorem idx_cases {α : Type} (p : α → Bool) (l : List α) : (idxOf p l = -1 ∧ ∀ x ∈ l, p x = false) ∨ ∃ (k : Nat) (x : α), idxOf p l = k ∧ l[k]? = some x ∧ p x = true ∧ (∀ (j : Nat) y, j < k → l[j]? = some y → p y = false) ∧ k < l.length := by
  unfold idxOf
  cases h : l.findIdx? p with
  | none => exact .inl ⟨rfl, fun x hx => by have := List.findIdx?_eq_none_iff.1 h x hx; simpa using this⟩
  | some k =>
    obtain ⟨hk, hp, hb⟩ := List.findIdx?_eq_some_iff_getElem.1 h
    refine .inr ⟨k, l[k], rfl, List.getElem?_eq_getElem hk, hp, fun j y hj hy => ?_, hk⟩
    have := hb j hj
    have e := (List.getElem?_eq_some_iff.1 hy).2
    rw [e] at this; simpa using this
section
variable {α : Type} {p : α → Bool} {l acc : List α} {i j k : Nat} {x : α}
theorem fil_none (h : ∀ x ∈ l, p x = false) : l.filter (fun x => !p x) = l := List.filter_eq_self.2 (fun x hx => by simp [h x hx])
/-- what holds while a list is thinned out in place -/
def Thin (p : α → Bool) (l acc : List α) (i j : Nat) : Prop := i ≤ j ∧ j ≤ l.length ∧ acc.length = l.length ∧ acc.take i = (l.take j).filter (fun x => !p x) ∧ acc.drop j = l.drop j
theorem Thin.start (hx : l[k]? = some x) (hp : p x = true) (hb : ∀ (j : Nat) y, j < k → l[j]? = some y → p y = false) : Thin p l l k (k + 1) := by
  have hk := (List.getElem?_eq_some_iff.1 hx).1
  refine ⟨by omega, by omega, rfl, ?_, rfl⟩
  rw [List.take_add_one, hx, List.filter_append]
  have : (l.take k).filter (fun x => !p x) = l.take k := List.filter_eq_self.2 (fun y hy => by
    obtain ⟨q, hq⟩ := List.mem_iff_getElem?.1 hy
    rw [List.getElem?_take] at hq
    split at hq
    · simp [hb q y (by assumption) hq]
    · cases hq)
  rw [this]; simp [hp]
theorem Thin.at (h : Thin p l acc i j) : acc[j]? = l[j]? := by
  have := congrArg (·[0]?) h.2.2.2.2
  simpa using this
theorem Thin.skip (h : Thin p l acc i j) (hx : acc[j]? = some x) (hp : p x = true) : Thin p l acc i (j + 1) := by
  rw [h.at] at hx
  have hk := (List.getElem?_eq_some_iff.1 hx).1
  obtain ⟨h1, h2, h3, h4, h5⟩ := h
  refine ⟨by omega, by omega, h3, ?_, ?_⟩
  · rw [List.take_add_one, hx, List.filter_append, ← h4]; simp [hp]
  · rw [← List.drop_drop, ← List.drop_drop, h5]
theorem Thin.keep (h : Thin p l acc i j) (hx : acc[j]? = some x) (hp : p x = false) : Thin p l (acc.set i x) (i + 1) (j + 1) := by
  rw [h.at] at hx
  have hk := (List.getElem?_eq_some_iff.1 hx).1
  obtain ⟨h1, h2, h3, h4, h5⟩ := h
  refine ⟨by omega, by omega, by rw [List.length_set, h3], ?_, ?_⟩
  · rw [List.take_add_one (l := l), hx, List.filter_append, ← h4, List.take_add_one, List.getElem?_set_self (by omega), List.take_set_of_le (Nat.le_refl _)]
    simp [hp]
  · rw [List.drop_set_of_lt (by omega), ← List.drop_drop, ← List.drop_drop, h5]
theorem Thin.done (h : Thin p l acc i j) (hj : ¬ j < l.length) {z : α} {m : Nat} : l.filter (fun x => !p x) = (acc.take i ++ List.replicate m z).take i := by
  obtain ⟨h1, h2, h3, h4, h5⟩ := h
  have hl : (acc.take i).length = i := by rw [List.length_take]; omega
  rw [List.take_append_of_le_length (by omega), List.take_of_length_le (by omega), h4, List.take_of_length_le (l := l) (by omega)]
end
end Go.Proofs.Ytoaneidhfcljmaa
