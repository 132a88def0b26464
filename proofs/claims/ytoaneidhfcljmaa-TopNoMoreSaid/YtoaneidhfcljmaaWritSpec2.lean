/-
  Chapters 1 and 2 as plain functions, on: what the walks ask of them.
-/
import Derived.Test.YtoaneidhfcljmaaWritSpec
import Derived.Laws.BitsAllLaws
namespace Go.Proofs.Ytoaneidhfcljmaa
open Go.RowKit
set_option linter.unusedVariables false

theorem ofInt_i64 (a : Nat) (ha : a < 9223372036854775808) : (BitVec.ofInt 64 (a : Int)).toNat = a := by
  rw [BitVec.ofInt_natCast, BitVec.toNat_ofNat]; exact Nat.mod_eq_of_lt (by omega)
theorem i64_and_nat (a b : Nat) (ha : a < 9223372036854775808) (hb : b < 9223372036854775808) : bits .and .i64 (a : Int) (b : Int) = ((a &&& b : Nat) : Int) := by
  have hx : a &&& b < 2 ^ 63 := Nat.and_lt_two_pow _ (by omega)
  show IntKind.i64.wrap ((BitVec.ofInt 64 (a : Int) &&& BitVec.ofInt 64 (b : Int)).toNat : Int) = _
  rw [BitVec.toNat_and, ofInt_i64 a ha, ofInt_i64 b hb, IntKind.wrap_i64]
  omega
theorem has_and {r n : Int} {b : Bool} (r0 : 0 ≤ r) (r7 : r ≤ 7) (n0 : 0 ≤ n) (n7 : n ≤ 7) (h : (bits .and .i64 r n == n) = b) : b = hasR r n := by
  rw [← h]
  obtain ⟨a, rfl⟩ := Int.eq_ofNat_of_zero_le r0
  obtain ⟨b, rfl⟩ := Int.eq_ofNat_of_zero_le n0
  rw [i64_and_nat a b (by omega) (by omega)]
  unfold hasR
  simp only [Int.toNat_natCast]
  rw [Bool.eq_iff_iff]; simp only [beq_iff_eq]; omega
theorem rightFault_zero {r : Int} (h : rightFault r = 0) : 0 ≤ r ∧ r ≤ 7 := by
  rcases rightFault_cases r with ⟨h1, _⟩ | ⟨_, h2⟩
  · omega
  · exact h2
theorem rightFault_one {r : Int} (h : ¬ rightFault r = 0) : rightFault r = 1 := by
  rcases rightFault_cases r with ⟨h1, _⟩ | ⟨h1, _⟩
  · exact h1
  · exact absurd h1 h
theorem writFault_bad {x : Writ} (h : x.ID < 1 ∨ 999 < x.ID ∨ x.Thing < 1 ∨ 999 < x.Thing ∨ x.Badge < 0 ∨ 99 < x.Badge ∨ x.From < 0 ∨ x.ID ≤ x.From ∨ x.Rights < 0 ∨ 7 < x.Rights) : writFault x = 1 := by
  rcases writFault_cases x with ⟨h1, _⟩ | ⟨_, h2⟩
  · exact h1
  · omega
theorem writFault_ok {x : Writ} (h : 1 ≤ x.ID ∧ x.ID ≤ 999 ∧ 1 ≤ x.Thing ∧ x.Thing ≤ 999 ∧ 0 ≤ x.Badge ∧ x.Badge ≤ 99 ∧ 0 ≤ x.From ∧ x.From < x.ID ∧ 0 ≤ x.Rights ∧ x.Rights ≤ 7) : writFault x = 0 := by
  rcases writFault_cases x with ⟨_, h2⟩ | ⟨h1, _⟩
  · omega
  · exact h1
theorem writFault_last {x : Writ} (h : 1 ≤ x.ID ∧ x.ID ≤ 999 ∧ 1 ≤ x.Thing ∧ x.Thing ≤ 999 ∧ 0 ≤ x.Badge ∧ x.Badge ≤ 99 ∧ 0 ≤ x.From ∧ x.From < x.ID) : writFault x = rightFault x.Rights := by
  rcases rightFault_cases x.Rights with ⟨h1, h2⟩ | ⟨h1, h2⟩
  · rw [h1, writFault_bad (by omega)]
  · rw [h1, writFault_ok (by omega)]
theorem derived_w1 {x : Writ} {id r b : Int} (h : ¬ rightFault r = 0) : derived x id r b = (zeroW, 1) := by
  have : rightFault r = 1 := by rcases rightFault_cases r with ⟨h1, _⟩ | ⟨h1, _⟩; exact h1; exact absurd h1 h
  unfold derived; rw [if_pos this]
theorem derived_b {x : Writ} {id r b : Int} (h : r < 0 ∨ 7 < r ∨ b < 0 ∨ 99 < b) : derived x id r b = (zeroW, 1) := by
  by_cases h1 : rightFault r = 0
  · have := rightFault_zero h1
    unfold derived; rw [if_neg (by rw [h1]; decide)]; split; rfl; rw [if_pos (by omega)]
  · exact derived_w1 h1
theorem derived_w2 {x : Writ} {id r b : Int} (h : rightFault r = 0) (hb : b < 0 ∨ 99 < b) : derived x id r b = (zeroW, 1) := by
  unfold derived; rw [if_neg (by rw [h]; decide)]; split; rfl; rw [if_pos (by omega)]
theorem derived_w3 {x : Writ} {id r b : Int} (h : 0 ≤ r ∧ r ≤ 7 ∧ 0 ≤ b ∧ b ≤ 99) (hh : hasR x.Rights r = false) : derived x id r b = (zeroW, 7) := by
  unfold derived; rw [if_neg (by rw [rightFault_ok h.1 h.2.1]; decide), if_neg (by omega), if_neg (by omega), if_pos hh]
theorem derived_w4 {x : Writ} {id r b : Int} (h : 0 ≤ r ∧ r ≤ 7 ∧ 0 ≤ b ∧ b ≤ 99) (hh : hasR x.Rights r = true) (hc : ¬ b = 0 ∧ ¬ x.Badge = 0 ∧ ¬ b = x.Badge) : derived x id r b = (zeroW, 7) := by
  unfold derived; rw [if_neg (by rw [rightFault_ok h.1 h.2.1]; decide), if_neg (by omega), if_neg (by omega), if_neg (by rw [hh]; decide), if_pos hc]
theorem derived_w5 {x : Writ} {id r b : Int} (h : 0 ≤ r ∧ r ≤ 7 ∧ 0 ≤ b ∧ b ≤ 99) (hh : hasR x.Rights r = true) (hc : b = 0) : derived x id r b = (⟨id, x.Thing, r, x.Badge, x.ID⟩, 0) := by
  unfold derived; rw [if_neg (by rw [rightFault_ok h.1 h.2.1]; decide), if_neg (by omega), if_neg (by omega), if_neg (by rw [hh]; decide), if_neg (by omega), if_pos hc]
theorem derived_w6 {x : Writ} {id r b : Int} (h : 0 ≤ r ∧ r ≤ 7 ∧ 0 ≤ b ∧ b ≤ 99) (hh : hasR x.Rights r = true) (hc : ¬ b = 0) (hc2 : x.Badge = 0 ∨ b = x.Badge) : derived x id r b = (⟨id, x.Thing, r, b, x.ID⟩, 0) := by
  unfold derived; rw [if_neg (by rw [rightFault_ok h.1 h.2.1]; decide), if_neg (by omega), if_neg (by omega), if_neg (by rw [hh]; decide), if_neg (by omega), if_neg hc]
theorem derived_w7 {x : Writ} {id r b : Int} (h : 0 ≤ r ∧ r ≤ 7 ∧ 0 ≤ b ∧ b ≤ 99) (hh : hasR x.Rights r = true) (hc : ¬ x.Badge = 0) (hc2 : b = 0 ∨ b = x.Badge) : derived x id r b = (⟨id, x.Thing, r, x.Badge, x.ID⟩, 0) := by
  by_cases hb : b = 0
  · exact derived_w5 h hh hb
  · rw [derived_w6 h hh hb (by omega), show b = x.Badge by omega]

/-- the first place at which p holds; -1: none -/
def idxOf {α : Type} (p : α → Bool) (l : List α) : Int := match l.findIdx? p with | some i => i | none => -1
theorem idxOf_hit {α : Type} {p : α → Bool} {l : List α} {k : Nat} {x : α} (hk : l[k]? = some x) (h1 : p x = true) (h2 : ∀ (j : Nat) x, j < k → l[j]? = some x → p x = false) : idxOf p l = k := by
  obtain ⟨hk', rfl⟩ := List.getElem?_eq_some_iff.1 hk
  unfold idxOf
  rw [List.findIdx?_eq_some_iff_getElem.2 ⟨hk', h1, fun j hj => by
    have := h2 j l[j] hj (List.getElem?_eq_getElem (by omega)); simp [this]⟩]
theorem idxOf_miss {α : Type} {p : α → Bool} {l : List α} {k : Nat} (hk : ¬ k < l.length) (h : ∀ (j : Nat) x, j < k → l[j]? = some x → p x = false) : idxOf p l = -1 := by
  unfold idxOf
  rw [List.findIdx?_eq_none_iff.2 (fun x hx => by obtain ⟨j, hj⟩ := List.mem_iff_getElem?.1 hx; exact h j x (by have := (List.getElem?_eq_some_iff.1 hj).1; omega) hj)]
theorem findW_idx (l : List Writ) (id : Int) : findW l id = idxOf (fun x => x.ID == id) l := rfl
theorem none_step {α : Type} {p : α → Bool} {l : List α} {k : Nat} {x : α} (h : ∀ (j : Nat) x, j < k → l[j]? = some x → p x = false) (hx : l[k]? = some x) (hp : p x = false) : ∀ (j : Nat) x, j < k + 1 → l[j]? = some x → p x = false := by
  intro j y hj hy
  rcases Nat.lt_or_ge j k with h1 | h1
  · exact h j y h1 hy
  · have : j = k := by omega
    subst this; rw [hx] at hy; injection hy with hy; subst hy; exact hp
end Go.Proofs.Ytoaneidhfcljmaa
