/-
  Chapter 3 as plain functions: which writs were made of which. No program.
-/
import Derived.Test.YtoaneidhfcljmaaWritSpec
namespace Go.Proofs.Ytoaneidhfcljmaa
open Go.RowKit
set_option linter.unusedVariables false

theorem take_getElem {α : Type} {l : List α} {k j : Nat} (hk : k ≤ l.length) (hj : j < k) : (l.take k)[j]'(by rw [List.length_take]; omega) = l[j]'(by omega) := List.getElem_take

/-- the fault of the writ at place i, all ahead of it being right (C3) -/
def stepF (l : List Writ) (i : Nat) : Int :=
  match l[i]? with
  | none => 0
  | some x =>
    if writFault x = 1 then 1
    else if 0 < i ∧ ∃ y, l[i - 1]? = some y ∧ x.ID ≤ y.ID then 3
    else if x.From = 0 then 0
    else match (l.take i).find? (fun y => y.ID == x.From) with
      | none => 5
      | some y => if (derived y x.ID x.Rights x.Badge).2 ≠ 0 then (derived y x.ID x.Rights x.Badge).2 else if (derived y x.ID x.Rights x.Badge).1 ≠ x then 7 else 0
def treeFault (l : List Writ) : Int := match (List.range l.length).find? (fun i => stepF l i != 0) with | some i => stepF l i | none => 0
theorem treeFault_hit {l : List Writ} {k : Nat} {f : Int} (hk : k < l.length) (h : stepF l k = f) (hf : f ≠ 0) (h0 : ∀ j, j < k → stepF l j = 0) : treeFault l = f := by
  unfold treeFault
  have : (List.range l.length).find? (fun i => stepF l i != 0) = some k := by
    rw [List.find?_range_eq_some]
    refine ⟨by simpa [h] using hf, by simpa using hk, fun j hj => by simp [h0 j hj]⟩
  rw [this]; exact h
theorem treeFault_zero {l : List Writ} (h0 : ∀ j, j < l.length → stepF l j = 0) : treeFault l = 0 := by
  unfold treeFault
  have : (List.range l.length).find? (fun i => stepF l i != 0) = none := by
    rw [List.find?_eq_none]
    intro i hi
    simp [h0 i (List.mem_range.1 hi)]
  rw [this]
theorem treeFault_steps {l : List Writ} (h : treeFault l = 0) : ∀ j, j < l.length → stepF l j = 0 := by
  unfold treeFault at h
  cases hf : (List.range l.length).find? (fun i => stepF l i != 0) with
  | none =>
    intro j hj
    have := List.find?_eq_none.1 hf j (List.mem_range.2 hj)
    simpa using this
  | some i =>
    rw [hf] at h
    have := List.find?_some hf
    simp at this; exact absurd h this
theorem derived_nonneg (x : Writ) (id r b : Int) : 0 ≤ (derived x id r b).2 := by unfold derived; (repeat' split) <;> simp
theorem stepF_nonneg (l : List Writ) (i : Nat) : 0 ≤ stepF l i := by
  unfold stepF
  cases l[i]? with
  | none => simp
  | some x =>
    simp only []
    split; decide
    split; decide
    split; decide
    split; decide
    split; exact derived_nonneg _ _ _ _
    split <;> decide
theorem treeFault_nonneg (l : List Writ) : 0 ≤ treeFault l := by
  unfold treeFault; split; exact stepF_nonneg _ _; decide

theorem find_findW {l : List Writ} {id : Int} : (findW l id = -1 ∧ l.find? (fun y => y.ID == id) = none) ∨ ∃ (k : Nat) (h : k < l.length), findW l id = k ∧ l.find? (fun y => y.ID == id) = some l[k] := by
  rcases findW_cases l id with ⟨h, h2⟩ | ⟨k, hk, h1, h2, h3⟩
  · exact .inl ⟨h, by rw [List.find?_eq_none]; intro x hx; simpa using h2 x hx⟩
  · refine .inr ⟨k, hk, h1, ?_⟩
    rw [List.find?_eq_some_iff_getElem]
    exact ⟨by simpa using h2, k, hk, rfl, fun j hj => by simpa using h3 j hj⟩

/-- What may be wrong with the writ at place k: the ways, as a walk meets them. -/
theorem stepF_ways {l : List Writ} {k : Nat} (hk : k < l.length) :
    (writFault l[k] = 1 ∧ stepF l k = 1) ∨
    (writFault l[k] = 0 ∧ 0 ≤ (l[k]).Rights ∧ (l[k]).Rights ≤ 7 ∧
      ((∃ h : 0 < k, (l[k]).ID ≤ (l[k - 1]'(by omega)).ID ∧ stepF l k = 3) ∨
       ((k = 0 ∨ ∃ h : 0 < k, (l[k - 1]'(by omega)).ID < (l[k]).ID) ∧
         (((l[k]).From = 0 ∧ stepF l k = 0) ∨
          ((l[k]).From ≠ 0 ∧
            ((findW (l.take k) (l[k]).From = -1 ∧ stepF l k = 5) ∨
             ∃ (j : Nat) (hj : j < k), findW (l.take k) (l[k]).From = j ∧
               (((derived (l[j]'(by omega)) (l[k]).ID (l[k]).Rights (l[k]).Badge).2 ≠ 0 ∧ stepF l k = (derived (l[j]'(by omega)) (l[k]).ID (l[k]).Rights (l[k]).Badge).2) ∨
                ((derived (l[j]'(by omega)) (l[k]).ID (l[k]).Rights (l[k]).Badge).2 = 0 ∧
                  (((derived (l[j]'(by omega)) (l[k]).ID (l[k]).Rights (l[k]).Badge).1 ≠ l[k] ∧ stepF l k = 7) ∨
                   ((derived (l[j]'(by omega)) (l[k]).ID (l[k]).Rights (l[k]).Badge).1 = l[k] ∧ stepF l k = 0)))))))))) := by
  have hg : l[k]? = some l[k] := List.getElem?_eq_getElem hk
  have hs : stepF l k = (if writFault l[k] = 1 then 1
    else if 0 < k ∧ ∃ y, l[k - 1]? = some y ∧ (l[k]).ID ≤ y.ID then 3
    else if (l[k]).From = 0 then 0
    else match (l.take k).find? (fun y => y.ID == (l[k]).From) with
      | none => 5
      | some y => if (derived y (l[k]).ID (l[k]).Rights (l[k]).Badge).2 ≠ 0 then (derived y (l[k]).ID (l[k]).Rights (l[k]).Badge).2 else if (derived y (l[k]).ID (l[k]).Rights (l[k]).Badge).1 ≠ l[k] then 7 else 0) := by
    unfold stepF; rw [hg]
  rcases writFault_cases l[k] with ⟨h, -⟩ | ⟨h, -, -, -, -, -, -, -, -, r0, r7⟩
  · left; rw [hs, if_pos h]; exact ⟨h, rfl⟩
  · right
    refine ⟨h, r0, r7, ?_⟩
    rw [if_neg (by rw [h]; decide)] at hs
    by_cases hp : 0 < k ∧ ∃ y, l[k - 1]? = some y ∧ (l[k]).ID ≤ y.ID
    · left
      rw [if_pos hp] at hs
      obtain ⟨h0, y, hy, hle⟩ := hp
      rw [List.getElem?_eq_getElem (by omega)] at hy
      injection hy with hy
      exact ⟨h0, by rw [hy]; exact hle, hs⟩
    · right
      rw [if_neg hp] at hs
      refine ⟨?_, ?_⟩
      · by_cases h0 : k = 0
        · exact .inl h0
        · right
          have h0' : 0 < k := by omega
          refine ⟨h0', ?_⟩
          have : ¬ (l[k]).ID ≤ (l[k - 1]'(by omega)).ID := fun hle => hp ⟨h0', _, List.getElem?_eq_getElem (by omega), hle⟩
          omega
      · by_cases hf : (l[k]).From = 0
        · left; rw [if_pos hf] at hs; exact ⟨hf, hs⟩
        · right
          rw [if_neg hf] at hs
          refine ⟨hf, ?_⟩
          rcases find_findW (l := l.take k) (id := (l[k]).From) with ⟨h1, h2⟩ | ⟨j, hj, h1, h2⟩
          · left; rw [h2] at hs; exact ⟨h1, hs⟩
          · right
            have hjk : j < k := by rw [List.length_take] at hj; omega
            refine ⟨j, hjk, h1, ?_⟩
            rw [h2] at hs
            simp only [List.getElem_take] at hs
            by_cases hd : (derived (l[j]'(by omega)) (l[k]).ID (l[k]).Rights (l[k]).Badge).2 ≠ 0
            · left; rw [if_pos hd] at hs; exact ⟨hd, hs⟩
            · right
              rw [if_neg hd] at hs
              refine ⟨by simpa using hd, ?_⟩
              by_cases he : (derived (l[j]'(by omega)) (l[k]).ID (l[k]).Rights (l[k]).Badge).1 ≠ l[k]
              · left; rw [if_pos he] at hs; exact ⟨he, hs⟩
              · right; rw [if_neg he] at hs; exact ⟨by simpa using he, hs⟩
theorem stepF_rights {l : List Writ} {j : Nat} (hj : j < l.length) (h : stepF l j = 0) : 0 ≤ (l[j]).Rights ∧ (l[j]).Rights ≤ 7 := by
  rcases stepF_ways hj with ⟨_, hs⟩ | ⟨_, r0, r7, _⟩
  · rw [hs] at h; cases h
  · exact ⟨r0, r7⟩
end Go.Proofs.Ytoaneidhfcljmaa
