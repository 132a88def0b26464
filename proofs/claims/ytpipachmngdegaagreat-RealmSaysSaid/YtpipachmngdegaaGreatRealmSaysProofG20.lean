import Derived.Test.YtpipachmngdegaaGreatRealmSaysProofG18
section
/-
  Chapter 3 as plain functions: which writs were made of which. No program.
-/
namespace Go.Proofs.YtpipachmngdegaaGreat
open Go.RowKit
set_option linter.unusedVariables false

theorem take_getElem {α : Type} {l : List α} {k j : Nat} (hk : k ≤ l.length) (hj : j < k) : (l.take k)[j]'(by rw [List.length_take]; omega) = l[j]'(by omega) := List.getElem_take

/-- the fault of the writ at place i, all ahead of it being right (C3) -/
def stepF (l : List Writ) (i : Nat) : Int :=
  match l[i]? with
  | none => 0
  | some x =>
    if writFault x = 1 then 1
    else if 0 < i ∧ ∃ y, l[i - 1]? = some y ∧ x.ID ≤ y.ID then 3
    else if x.From = 0 then 0
    else match (l.take i).find? (fun y => y.ID == x.From) with
      | none => 5
      | some y => if (derived y x.ID x.Rights x.Badge).2 ≠ 0 then (derived y x.ID x.Rights x.Badge).2 else if (derived y x.ID x.Rights x.Badge).1 ≠ x then 7 else 0
def treeFault (l : List Writ) : Int := match (List.range l.length).find? (fun i => stepF l i != 0) with | some i => stepF l i | none => 0
theorem treeFault_hit {l : List Writ} {k : Nat} {f : Int} (hk : k < l.length) (h : stepF l k = f) (hf : f ≠ 0) (h0 : ∀ j, j < k → stepF l j = 0) : treeFault l = f := by
  unfold treeFault
  have : (List.range l.length).find? (fun i => stepF l i != 0) = some k := by
    rw [List.find?_range_eq_some]
    refine ⟨by simpa [h] using hf, by simpa using hk, fun j hj => by simp [h0 j hj]⟩
  rw [this]; exact h
theorem treeFault_zero {l : List Writ} (h0 : ∀ j, j < l.length → stepF l j = 0) : treeFault l = 0 := by
  unfold treeFault
  have : (List.range l.length).find? (fun i => stepF l i != 0) = none := by
    rw [List.find?_eq_none]
    intro i hi
    simp [h0 i (List.mem_range.1 hi)]
  rw [this]
theorem treeFault_steps {l : List Writ} (h : treeFault l = 0) : ∀ j, j < l.length → stepF l j = 0 := by
  unfold treeFault at h
  cases hf : (List.range l.length).find? (fun i => stepF l i != 0) with
  | none =>
    intro j hj
    have := List.find?_eq_none.1 hf j (List.mem_range.2 hj)
    simpa using this
  | some i =>
    rw [hf] at h
    have := List.find?_some hf
    simp at this; exact absurd h this
theorem derived_nonneg (x : Writ) (id r b : Int) : 0 ≤ (derived x id r b).2 := by unfold derived; (repeat' split) <;> simp
theorem stepF_nonneg (l : List Writ) (i : Nat) : 0 ≤ stepF l i := by
  unfold stepF
  cases l[i]? with
  | none => simp
  | some x =>
    simp only []
    split; decide
    split; decide
    split; decide
    split; decide
    split; exact derived_nonneg _ _ _ _
    split <;> decide
theorem treeFault_nonneg (l : List Writ) : 0 ≤ treeFault l := by
  unfold treeFault; split; exact stepF_nonneg _ _; decide

theorem find_findW {l : List Writ} {id : Int} : (findW l id = -1 ∧ l.find? (fun y => y.ID == id) = none) ∨ ∃ (k : Nat) (h : k < l.length), findW l id = k ∧ l.find? (fun y => y.ID == id) = some l[k] := by
  rcases findW_cases l id with ⟨h, h2⟩ | ⟨k, hk, h1, h2, h3⟩
  · exact .inl ⟨h, by rw [List.find?_eq_none]; intro x hx; simpa using h2 x hx⟩
  · refine .inr ⟨k, hk, h1, ?_⟩
    rw [List.find?_eq_some_iff_getElem]
    exact ⟨by simpa using h2, k, hk, rfl, fun j hj => by simpa using h3 j hj⟩

/-- What may be wrong with the writ at place k: the ways, as a walk meets them. -/
theorem stepF_ways {l : List Writ} {k : Nat} (hk : k < l.length) :
    (writFault l[k] = 1 ∧ stepF l k = 1) ∨
    (writFault l[k] = 0 ∧ 0 ≤ (l[k]).Rights ∧ (l[k]).Rights ≤ 7 ∧
      ((∃ h : 0 < k, (l[k]).ID ≤ (l[k - 1]'(by omega)).ID ∧ stepF l k = 3) ∨
       ((k = 0 ∨ ∃ h : 0 < k, (l[k - 1]'(by omega)).ID < (l[k]).ID) ∧
         (((l[k]).From = 0 ∧ stepF l k = 0) ∨
          ((l[k]).From ≠ 0 ∧
            ((findW (l.take k) (l[k]).From = -1 ∧ stepF l k = 5) ∨
             ∃ (j : Nat) (hj : j < k), findW (l.take k) (l[k]).From = j ∧
               (((derived (l[j]'(by omega)) (l[k]).ID (l[k]).Rights (l[k]).Badge).2 ≠ 0 ∧ stepF l k = (derived (l[j]'(by omega)) (l[k]).ID (l[k]).Rights (l[k]).Badge).2) ∨
                ((derived (l[j]'(by omega)) (l[k]).ID (l[k]).Rights (l[k]).Badge).2 = 0 ∧
                  (((derived (l[j]'(by omega)) (l[k]).ID (l[k]).Rights (l[k]).Badge).1 ≠ l[k] ∧ stepF l k = 7) ∨
                   ((derived (l[j]'(by omega)) (l[k]).ID (l[k]).Rights (l[k]).Badge).1 = l[k] ∧ stepF l k = 0)))))))))) := by
  have hg : l[k]? = some l[k] := List.getElem?_eq_getElem hk
  have hs : stepF l k = (if writFault l[k] = 1 then 1
    else if 0 < k ∧ ∃ y, l[k - 1]? = some y ∧ (l[k]).ID ≤ y.ID then 3
    else if (l[k]).From = 0 then 0
    else match (l.take k).find? (fun y => y.ID == (l[k]).From) with
      | none => 5
      | some y => if (derived y (l[k]).ID (l[k]).Rights (l[k]).Badge).2 ≠ 0 then (derived y (l[k]).ID (l[k]).Rights (l[k]).Badge).2 else if (derived y (l[k]).ID (l[k]).Rights (l[k]).Badge).1 ≠ l[k] then 7 else 0) := by
    unfold stepF; rw [hg]
  rcases writFault_cases l[k] with ⟨h, -⟩ | ⟨h, -, -, -, -, -, -, -, -, r0, r7⟩
  · left; rw [hs, if_pos h]; exact ⟨h, rfl⟩
  · right
    refine ⟨h, r0, r7, ?_⟩
    rw [if_neg (by rw [h]; decide)] at hs
    by_cases hp : 0 < k ∧ ∃ y, l[k - 1]? = some y ∧ (l[k]).ID ≤ y.ID
    · left
      rw [if_pos hp] at hs
      obtain ⟨h0, y, hy, hle⟩ := hp
      rw [List.getElem?_eq_getElem (by omega)] at hy
      injection hy with hy
      exact ⟨h0, by rw [hy]; exact hle, hs⟩
    · right
      rw [if_neg hp] at hs
      refine ⟨?_, ?_⟩
      · by_cases h0 : k = 0
        · exact .inl h0
        · right
          have h0' : 0 < k := by omega
          refine ⟨h0', ?_⟩
          have : ¬ (l[k]).ID ≤ (l[k - 1]'(by omega)).ID := fun hle => hp ⟨h0', _, List.getElem?_eq_getElem (by omega), hle⟩
          omega
      · by_cases hf : (l[k]).From = 0
        · left; rw [if_pos hf] at hs; exact ⟨hf, hs⟩
        · right
          rw [if_neg hf] at hs
          refine ⟨hf, ?_⟩
          rcases find_findW (l := l.take k) (id := (l[k]).From) with ⟨h1, h2⟩ | ⟨j, hj, h1, h2⟩
          · left; rw [h2] at hs; exact ⟨h1, hs⟩
          · right
            have hjk : j < k := by rw [List.length_take] at hj; omega
            refine ⟨j, hjk, h1, ?_⟩
            rw [h2] at hs
            simp only [List.getElem_take] at hs
            by_cases hd : (derived (l[j]'(by omega)) (l[k]).ID (l[k]).Rights (l[k]).Badge).2 ≠ 0
            · left; rw [if_pos hd] at hs; exact ⟨hd, hs⟩
            · right
              rw [if_neg hd] at hs
              refine ⟨by simpa using hd, ?_⟩
              by_cases he : (derived (l[j]'(by omega)) (l[k]).ID (l[k]).Rights (l[k]).Badge).1 ≠ l[k]
              · left; rw [if_pos he] at hs; exact ⟨he, hs⟩
              · right; rw [if_neg he] at hs; exact ⟨by simpa using he, hs⟩
theorem stepF_rights {l : List Writ} {j : Nat} (hj : j < l.length) (h : stepF l j = 0) : 0 ≤ (l[j]).Rights ∧ (l[j]).Rights ≤ 7 := by
  rcases stepF_ways hj with ⟨_, hs⟩ | ⟨_, r0, r7, _⟩
  · rw [hs] at h; cases h
  · exact ⟨r0, r7⟩
end Go.Proofs.YtpipachmngdegaaGreat
end

section
/-
  Chapter 3 as plain functions, on. No program.
-/
namespace Go.Proofs.YtpipachmngdegaaGreat
open Go.RowKit
set_option linter.unusedVariables false

/-! ### what is right of a writ of a tree -/
structure WOk (x : Writ) : Prop where
  id1 : 1 ≤ x.ID
  id9 : x.ID ≤ 999
  th1 : 1 ≤ x.Thing
  th9 : x.Thing ≤ 999
  ba0 : 0 ≤ x.Badge
  ba9 : x.Badge ≤ 99
  fr0 : 0 ≤ x.From
  frl : x.From < x.ID
  ri0 : 0 ≤ x.Rights
  ri7 : x.Rights ≤ 7
theorem wOk_of {x : Writ} (h : writFault x = 0) : WOk x := by
  rcases writFault_cases x with ⟨h1, _⟩ | ⟨_, h2⟩
  · omega
  · obtain ⟨a, b, c, d, e, f, g, i, j, k⟩ := h2; exact ⟨a, b, c, d, e, f, g, i, j, k⟩
theorem writFault_01 (x : Writ) : writFault x = 0 ∨ writFault x = 1 := by
  rcases writFault_cases x with ⟨h1, _⟩ | ⟨h1, _⟩
  · exact .inr h1
  · exact .inl h1
theorem stepF_fault {l : List Writ} {k : Nat} {x : Writ} (hx : l[k]? = some x) (h : ¬ writFault x = 0) : stepF l k = 1 := by
  have : writFault x = 1 := by rcases writFault_cases x with ⟨h1, _⟩ | ⟨h1, _⟩; exact h1; exact absurd h1 h
  unfold stepF; rw [hx]; simp only []; rw [if_pos this]
theorem stepF_shape {l : List Writ} {k : Nat} {x y : Writ} (hx : l[k]? = some x) (h : writFault x = 0) (hk : 0 < k) (hy : l[k - 1]? = some y) (hle : ¬ y.ID < x.ID) : stepF l k = 3 := by
  unfold stepF; rw [hx]; simp only []; rw [if_neg (by omega), if_pos ⟨hk, y, hy, by omega⟩]
theorem stepF_root {l : List Writ} {k : Nat} {x : Writ} (hx : l[k]? = some x) (h : writFault x = 0) (hs : ¬ 0 < k ∨ ∃ y, l[k - 1]? = some y ∧ y.ID < x.ID) (h0 : x.From = 0) : stepF l k = 0 := by
  unfold stepF; rw [hx]; simp only []; rw [if_neg (by omega), if_neg, if_pos h0]
  rintro ⟨hk, y, hy, hle⟩
  rcases hs with hs | ⟨z, hz, hlt⟩
  · exact hs hk
  · rw [hy] at hz; injection hz with hz; subst hz; omega
theorem stepF_none {l : List Writ} {k : Nat} {x : Writ} (hx : l[k]? = some x) (h : writFault x = 0) (hs : ¬ 0 < k ∨ ∃ y, l[k - 1]? = some y ∧ y.ID < x.ID) (h0 : ¬ x.From = 0) (hf : findW (l.take k) x.From = -1) : stepF l k = 5 := by
  have hn : (l.take k).find? (fun y => y.ID == x.From) = none := by
    rcases find_findW (l := l.take k) (id := x.From) with ⟨_, h2⟩ | ⟨j, hj, h1, h2⟩
    · exact h2
    · omega
  unfold stepF; rw [hx]; simp only []; rw [if_neg (by omega), if_neg, if_neg h0, hn]
  rintro ⟨hk, y, hy, hle⟩
  rcases hs with hs | ⟨z, hz, hlt⟩
  · exact hs hk
  · rw [hy] at hz; injection hz with hz; subst hz; omega
theorem stepF_some {l : List Writ} {k j : Nat} {x y : Writ} (hx : l[k]? = some x) (h : writFault x = 0) (hs : ¬ 0 < k ∨ ∃ y, l[k - 1]? = some y ∧ y.ID < x.ID) (h0 : ¬ x.From = 0) (hf : findW (l.take k) x.From = (j : Int)) (hj : j < k) (hy : l[j]? = some y) :
    stepF l k = if (derived y x.ID x.Rights x.Badge).2 ≠ 0 then (derived y x.ID x.Rights x.Badge).2 else if (derived y x.ID x.Rights x.Badge).1 ≠ x then 7 else 0 := by
  have hn : (l.take k).find? (fun y => y.ID == x.From) = some y := by
    rcases find_findW (l := l.take k) (id := x.From) with ⟨h1, h2⟩ | ⟨i, hi, h1, h2⟩
    · omega
    · have : i = j := by omega
      subst this
      rw [h2, List.getElem_take, (List.getElem?_eq_some_iff.1 hy).2]
  unfold stepF; rw [hx]; simp only []; rw [if_neg (by omega), if_neg, if_neg h0, hn]
  rintro ⟨hk, y, hy, hle⟩
  rcases hs with hs | ⟨z, hz, hlt⟩
  · exact hs hk
  · rw [hy] at hz; injection hz with hz; subst hz; omega
theorem stepF_ok {l : List Writ} {k : Nat} {x : Writ} (hx : l[k]? = some x) (h : stepF l k = 0) : WOk x := by
  by_cases h1 : writFault x = 0
  · exact wOk_of h1
  · rw [stepF_fault hx h1] at h; omega
theorem derived_cases (x : Writ) (id r b : Int) : (derived x id r b).2 = 0 ∨ (derived x id r b).2 = 1 ∨ (derived x id r b).2 = 7 := by
  unfold derived; (repeat' split) <;> simp
def TreeOk (l : List Writ) : Prop := treeFault l = 0
theorem TreeOk.steps {l : List Writ} (h : TreeOk l) : ∀ j, j < l.length → stepF l j = 0 := treeFault_steps h
theorem TreeOk.mem {l : List Writ} (h : TreeOk l) {x : Writ} (hx : x ∈ l) : WOk x := by
  obtain ⟨j, hj⟩ := List.mem_iff_getElem?.1 hx
  exact stepF_ok hj (h.steps j (List.getElem?_eq_some_iff.1 hj).1)
/-- the steps so far are right, and one more -/
theorem steps_more {l : List Writ} {k : Nat} (h : ∀ j, j < k → stepF l j = 0) (hk : stepF l k = 0) : ∀ j, j < k + 1 → stepF l j = 0 := by
  intro j hj
  rcases Nat.lt_or_ge j k with h1 | h1
  · exact h j h1
  · have : j = k := by omega
    subst this; exact hk
theorem findW_at (l : List Writ) (c : Int) (h : 0 ≤ findW l c) : ∃ x, l[(findW l c).toNat]? = some x ∧ x.ID = c ∧ x ∈ l := by
  rcases findW_cases l c with ⟨h1, _⟩ | ⟨k, hk, h1, h2, _⟩
  · omega
  · refine ⟨l[k], ?_, h2, List.getElem_mem hk⟩
    rw [h1]; simp

/-! ### without -/
def woRe (id from' : Int) (x : Writ) : Writ := if x.From = id then { x with From := from' } else x
def woG (id from' : Int) (l : List Writ) : List Writ := (l.filter (fun x => decide (x.ID ≠ id))).map (woRe id from')
theorem woG_hit {id f : Int} {l : List Writ} {k : Nat} {x : Writ} (hx : l[k]? = some x) (h : x.ID = id) : woG id f (l.take (k + 1)) = woG id f (l.take k) := by
  unfold woG
  rw [List.take_add_one, hx, List.filter_append]; simp [h]
theorem woG_miss {id f : Int} {l : List Writ} {k : Nat} {x : Writ} (hx : l[k]? = some x) (h : ¬ x.ID = id) : woG id f (l.take (k + 1)) = woG id f (l.take k) ++ [woRe id f x] := by
  unfold woG
  rw [List.take_add_one, hx, List.filter_append]; simp [h]
theorem woG_len (id f : Int) (l : List Writ) : (woG id f l).length ≤ l.length := by unfold woG; simp; exact List.length_filter_le _ _
theorem woRe_hit {id f : Int} {x : Writ} (h : x.From = id) : woRe id f x = ⟨x.ID, x.Thing, x.Rights, x.Badge, f⟩ := by unfold woRe; rw [if_pos h]
theorem woRe_miss {id f : Int} {x : Writ} (h : ¬ x.From = id) : woRe id f x = x := by unfold woRe; rw [if_neg h]
/-- of what the writ of that number was made; 0: of none, or there is none -/
def fromOf (l : List Writ) (id : Int) : Int := match l.find? (fun y => y.ID == id) with | some y => y.From | none => 0
theorem fromOf_some {l : List Writ} {id : Int} {j : Nat} {y : Writ} (hf : findW l id = (j : Int)) (hy : l[j]? = some y) : fromOf l id = y.From := by
  unfold fromOf
  rcases find_findW (l := l) (id := id) with ⟨h1, _⟩ | ⟨i, hi, h1, h2⟩
  · omega
  · have : i = j := by omega
    subst this; rw [h2, (List.getElem?_eq_some_iff.1 hy).2]
theorem fromOf_none {l : List Writ} {id : Int} (hf : findW l id = -1) : fromOf l id = 0 := by
  unfold fromOf
  rcases find_findW (l := l) (id := id) with ⟨_, h2⟩ | ⟨i, hi, h1, h2⟩
  · rw [h2]
  · omega
def without (l : List Writ) (id : Int) : List Writ := woG id (fromOf l id) l
/-- the document's: where there is none, nothing is made anew -/
def woRef (l : List Writ) (id : Int) : List Writ := if findW l id < 0 then l.filter (fun x => decide (x.ID ≠ id)) else without l id
def woS (l : List Writ) (id : Int) (x : Writ) : Writ := if findW l id < 0 then x else woRe id (fromOf l id) x
def woRG (l : List Writ) (id : Int) (m : List Writ) : List Writ := (m.filter (fun x => decide (x.ID ≠ id))).map (woS l id)
theorem woRG_hit {l0 : List Writ} {id : Int} {l : List Writ} {k : Nat} {x : Writ} (hx : l[k]? = some x) (h : x.ID = id) : woRG l0 id (l.take (k + 1)) = woRG l0 id (l.take k) := by
  unfold woRG
  rw [List.take_add_one, hx, List.filter_append]; simp [h]
theorem woRG_miss {l0 : List Writ} {id : Int} {l : List Writ} {k : Nat} {x : Writ} (hx : l[k]? = some x) (h : ¬ x.ID = id) : woRG l0 id (l.take (k + 1)) = woRG l0 id (l.take k) ++ [woS l0 id x] := by
  unfold woRG
  rw [List.take_add_one, hx, List.filter_append]; simp [h]
theorem woRG_len (l0 : List Writ) (id : Int) (l : List Writ) : (woRG l0 id l).length ≤ l.length := by unfold woRG; simp; exact List.length_filter_le _ _
theorem woRG_all (l : List Writ) (wid : Int) : woRG l wid l = woRef l wid := by
  unfold woRG woRef without woG
  split
  · rename_i h
    have : woS l wid = fun x => x := by funext x; unfold woS; rw [if_pos h]
    rw [this]; exact List.map_id' _
  · rename_i h
    congr 1; funext x; unfold woS; rw [if_neg h]
end Go.Proofs.YtpipachmngdegaaGreat
end
