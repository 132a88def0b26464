import Derived.Test.YtpipachmngdegaaGreatRealmSaysProofG2
import Derived.Laws.BitsAllLaws
section
/-
  Chapters 1 and 2 as plain functions: rights, and writs. No program.
-/
namespace Go.Proofs.YtpipachmngdegaaGreat
open Go.RowKit
set_option linter.unusedVariables false

def rightFault (r : Int) : Int := if r < 0 then 1 else if 7 < r then 1 else 0
theorem rightFault_ok {r : Int} (h0 : 0 ≤ r) (h7 : r ≤ 7) : rightFault r = 0 := by unfold rightFault; rw [if_neg (by omega), if_neg (by omega)]
theorem rightFault_bad {r : Int} (h : r < 0 ∨ 7 < r) : rightFault r = 1 := by unfold rightFault; split; rfl; rw [if_pos (by omega)]
theorem rightFault_cases (r : Int) : (rightFault r = 1 ∧ (r < 0 ∨ 7 < r)) ∨ (rightFault r = 0 ∧ 0 ≤ r ∧ r ≤ 7) := by
  by_cases h : r < 0 ∨ 7 < r
  · exact .inl ⟨rightFault_bad h, h⟩
  · exact .inr ⟨rightFault_ok (by omega) (by omega), by omega, by omega⟩

/-- has r all of need? (of rights from 0 to 7) -/
def hasR (r need : Int) : Bool := (r.toNat &&& need.toNat) == need.toNat
/-- the same, as it is asked bit by bit -/
def hasB (r need : Int) : Bool := !(need % 2 == 1 && r % 2 == 0) && !(need / 2 % 2 == 1 && r / 2 % 2 == 0) && !(need / 4 % 2 == 1 && r / 4 % 2 == 0)
theorem hasB_fin : ∀ r n : Fin 8, hasB ((r : Nat) : Int) ((n : Nat) : Int) = hasR ((r : Nat) : Int) ((n : Nat) : Int) := by decide
theorem fin_of {r : Int} (h0 : 0 ≤ r) (h7 : r ≤ 7) : ∃ x : Fin 8, r = ((x : Nat) : Int) := ⟨⟨r.toNat, by omega⟩, by simp; omega⟩
theorem hasB_eq {r n : Int} (r0 : 0 ≤ r) (r7 : r ≤ 7) (n0 : 0 ≤ n) (n7 : n ≤ 7) : hasB r n = hasR r n := by
  obtain ⟨x, rfl⟩ := fin_of r0 r7; obtain ⟨y, rfl⟩ := fin_of n0 n7; exact hasB_fin x y

theorem hasB_false {r n : Int} (h : (n % 2 = 1 ∧ r % 2 = 0) ∨ (n / 2 % 2 = 1 ∧ r / 2 % 2 = 0) ∨ (n / 4 % 2 = 1 ∧ r / 4 % 2 = 0)) : hasB r n = false := by
  unfold hasB
  rcases h with ⟨a, b⟩ | ⟨a, b⟩ | ⟨a, b⟩ <;> simp [a, b]
theorem hasB_true {r n : Int} (h0 : ¬(n % 2 = 1 ∧ r % 2 = 0)) (h1 : ¬ (n / 2 % 2 = 1 ∧ r / 2 % 2 = 0)) (h2 : ¬ (n / 4 % 2 = 1 ∧ r / 4 % 2 = 0)) : hasB r n = true := by
  unfold hasB; simp only [Bool.and_eq_true, Bool.not_eq_true', Bool.and_eq_false_iff, beq_eq_false_iff_ne]
  refine ⟨⟨?_, ?_⟩, ?_⟩ <;> omega

def writFault (w : Writ) : Int :=
  if w.ID < 1 then 1 else if 999 < w.ID then 1 else if w.Thing < 1 then 1 else if 999 < w.Thing then 1 else if w.Badge < 0 then 1 else if 99 < w.Badge then 1 else
  if w.From < 0 then 1 else if w.ID ≤ w.From then 1 else rightFault w.Rights
theorem writFault_cases (x : Writ) : (writFault x = 1 ∧ (x.ID < 1 ∨ 999 < x.ID ∨ x.Thing < 1 ∨ 999 < x.Thing ∨ x.Badge < 0 ∨ 99 < x.Badge ∨ x.From < 0 ∨ x.ID ≤ x.From ∨ x.Rights < 0 ∨ 7 < x.Rights)) ∨
    (writFault x = 0 ∧ 1 ≤ x.ID ∧ x.ID ≤ 999 ∧ 1 ≤ x.Thing ∧ x.Thing ≤ 999 ∧ 0 ≤ x.Badge ∧ x.Badge ≤ 99 ∧ 0 ≤ x.From ∧ x.From < x.ID ∧ 0 ≤ x.Rights ∧ x.Rights ≤ 7) := by
  unfold writFault rightFault; (repeat' split) <;> first | (left; exact ⟨rfl, by omega⟩) | (right; exact ⟨rfl, by omega⟩)

def zeroW : Writ := ⟨0, 0, 0, 0, 0⟩
def derived (w : Writ) (id rights badge : Int) : Writ × Int :=
  if rightFault rights = 1 then (zeroW, 1) else if badge < 0 then (zeroW, 1) else if 99 < badge then (zeroW, 1) else
  if hasR w.Rights rights = false then (zeroW, 7) else
  if badge ≠ 0 ∧ w.Badge ≠ 0 ∧ badge ≠ w.Badge then (zeroW, 7) else
  (⟨id, w.Thing, rights, if badge = 0 then w.Badge else badge, w.ID⟩, 0)

def findW (l : List Writ) (id : Int) : Int := match l.findIdx? (fun w => w.ID == id) with | some i => i | none => -1
theorem findW_cases (l : List Writ) (id : Int) : (findW l id = -1 ∧ ∀ x ∈ l, ¬ x.ID = id) ∨ ∃ (k : Nat) (h : k < l.length), findW l id = k ∧ l[k].ID = id ∧ ∀ j (hj : j < k), ¬ (l[j]'(by omega)).ID = id := by
  unfold findW
  cases h : l.findIdx? (fun w => w.ID == id) with
  | none =>
    left
    refine ⟨rfl, fun x hx => ?_⟩
    have := List.findIdx?_eq_none_iff.1 h x hx
    simpa using this
  | some k =>
    right
    obtain ⟨hk, h1, h2⟩ := List.findIdx?_eq_some_iff_getElem.1 h
    exact ⟨k, hk, rfl, by simpa using h1, fun j hj => by simpa using h2 j hj⟩
theorem findW_eq {l : List Writ} {id : Int} {k : Nat} (hk : k < l.length) (h1 : l[k].ID = id) (h2 : ∀ j x, j < k → l[j]? = some x → ¬ x.ID = id) : findW l id = k := by
  unfold findW
  rw [List.findIdx?_eq_some_iff_getElem.2 ⟨hk, by simpa using h1, fun j hj => by
    have := h2 j l[j] hj (List.getElem?_eq_getElem (by omega)); simpa using this⟩]
theorem findW_none {l : List Writ} {id : Int} (h : ∀ x ∈ l, ¬ x.ID = id) : findW l id = -1 := by
  unfold findW
  rw [List.findIdx?_eq_none_iff.2 (fun x hx => by simpa using h x hx)]
end Go.Proofs.YtpipachmngdegaaGreat
end

section
/-
  Chapters 1 and 2 as plain functions, on: what the walks ask of them.
-/
namespace Go.Proofs.YtpipachmngdegaaGreat
open Go.RowKit
set_option linter.unusedVariables false

theorem ofInt_i64 (a : Nat) (ha : a < 9223372036854775808) : (BitVec.ofInt 64 (a : Int)).toNat = a := by
  rw [BitVec.ofInt_natCast, BitVec.toNat_ofNat]; exact Nat.mod_eq_of_lt (by omega)
theorem i64_and_nat (a b : Nat) (ha : a < 9223372036854775808) (hb : b < 9223372036854775808) : bits .and .i64 (a : Int) (b : Int) = ((a &&& b : Nat) : Int) := by
  have hx : a &&& b < 2 ^ 63 := Nat.and_lt_two_pow _ (by omega)
  show IntKind.i64.wrap ((BitVec.ofInt 64 (a : Int) &&& BitVec.ofInt 64 (b : Int)).toNat : Int) = _
  rw [BitVec.toNat_and, ofInt_i64 a ha, ofInt_i64 b hb, IntKind.wrap_i64]
  omega
theorem has_and {r n : Int} {b : Bool} (r0 : 0 ≤ r) (r7 : r ≤ 7) (n0 : 0 ≤ n) (n7 : n ≤ 7) (h : (bits .and .i64 r n == n) = b) : b = hasR r n := by
  rw [← h]
  obtain ⟨a, rfl⟩ := Int.eq_ofNat_of_zero_le r0
  obtain ⟨b, rfl⟩ := Int.eq_ofNat_of_zero_le n0
  rw [i64_and_nat a b (by omega) (by omega)]
  unfold hasR
  simp only [Int.toNat_natCast]
  rw [Bool.eq_iff_iff]; simp only [beq_iff_eq]; omega
theorem rightFault_zero {r : Int} (h : rightFault r = 0) : 0 ≤ r ∧ r ≤ 7 := by
  rcases rightFault_cases r with ⟨h1, _⟩ | ⟨_, h2⟩
  · omega
  · exact h2
theorem rightFault_one {r : Int} (h : ¬ rightFault r = 0) : rightFault r = 1 := by
  rcases rightFault_cases r with ⟨h1, _⟩ | ⟨h1, _⟩
  · exact h1
  · exact absurd h1 h
theorem writFault_bad {x : Writ} (h : x.ID < 1 ∨ 999 < x.ID ∨ x.Thing < 1 ∨ 999 < x.Thing ∨ x.Badge < 0 ∨ 99 < x.Badge ∨ x.From < 0 ∨ x.ID ≤ x.From ∨ x.Rights < 0 ∨ 7 < x.Rights) : writFault x = 1 := by
  rcases writFault_cases x with ⟨h1, _⟩ | ⟨_, h2⟩
  · exact h1
  · omega
theorem writFault_ok {x : Writ} (h : 1 ≤ x.ID ∧ x.ID ≤ 999 ∧ 1 ≤ x.Thing ∧ x.Thing ≤ 999 ∧ 0 ≤ x.Badge ∧ x.Badge ≤ 99 ∧ 0 ≤ x.From ∧ x.From < x.ID ∧ 0 ≤ x.Rights ∧ x.Rights ≤ 7) : writFault x = 0 := by
  rcases writFault_cases x with ⟨_, h2⟩ | ⟨h1, _⟩
  · omega
  · exact h1
theorem writFault_last {x : Writ} (h : 1 ≤ x.ID ∧ x.ID ≤ 999 ∧ 1 ≤ x.Thing ∧ x.Thing ≤ 999 ∧ 0 ≤ x.Badge ∧ x.Badge ≤ 99 ∧ 0 ≤ x.From ∧ x.From < x.ID) : writFault x = rightFault x.Rights := by
  rcases rightFault_cases x.Rights with ⟨h1, h2⟩ | ⟨h1, h2⟩
  · rw [h1, writFault_bad (by omega)]
  · rw [h1, writFault_ok (by omega)]
theorem derived_w1 {x : Writ} {id r b : Int} (h : ¬ rightFault r = 0) : derived x id r b = (zeroW, 1) := by
  have : rightFault r = 1 := by rcases rightFault_cases r with ⟨h1, _⟩ | ⟨h1, _⟩; exact h1; exact absurd h1 h
  unfold derived; rw [if_pos this]
theorem derived_b {x : Writ} {id r b : Int} (h : r < 0 ∨ 7 < r ∨ b < 0 ∨ 99 < b) : derived x id r b = (zeroW, 1) := by
  by_cases h1 : rightFault r = 0
  · have := rightFault_zero h1
    unfold derived; rw [if_neg (by rw [h1]; decide)]; split; rfl; rw [if_pos (by omega)]
  · exact derived_w1 h1
theorem derived_w2 {x : Writ} {id r b : Int} (h : rightFault r = 0) (hb : b < 0 ∨ 99 < b) : derived x id r b = (zeroW, 1) := by
  unfold derived; rw [if_neg (by rw [h]; decide)]; split; rfl; rw [if_pos (by omega)]
theorem derived_w3 {x : Writ} {id r b : Int} (h : 0 ≤ r ∧ r ≤ 7 ∧ 0 ≤ b ∧ b ≤ 99) (hh : hasR x.Rights r = false) : derived x id r b = (zeroW, 7) := by
  unfold derived; rw [if_neg (by rw [rightFault_ok h.1 h.2.1]; decide), if_neg (by omega), if_neg (by omega), if_pos hh]
theorem derived_w4 {x : Writ} {id r b : Int} (h : 0 ≤ r ∧ r ≤ 7 ∧ 0 ≤ b ∧ b ≤ 99) (hh : hasR x.Rights r = true) (hc : ¬ b = 0 ∧ ¬ x.Badge = 0 ∧ ¬ b = x.Badge) : derived x id r b = (zeroW, 7) := by
  unfold derived; rw [if_neg (by rw [rightFault_ok h.1 h.2.1]; decide), if_neg (by omega), if_neg (by omega), if_neg (by rw [hh]; decide), if_pos hc]
theorem derived_w5 {x : Writ} {id r b : Int} (h : 0 ≤ r ∧ r ≤ 7 ∧ 0 ≤ b ∧ b ≤ 99) (hh : hasR x.Rights r = true) (hc : b = 0) : derived x id r b = (⟨id, x.Thing, r, x.Badge, x.ID⟩, 0) := by
  unfold derived; rw [if_neg (by rw [rightFault_ok h.1 h.2.1]; decide), if_neg (by omega), if_neg (by omega), if_neg (by rw [hh]; decide), if_neg (by omega), if_pos hc]
theorem derived_w6 {x : Writ} {id r b : Int} (h : 0 ≤ r ∧ r ≤ 7 ∧ 0 ≤ b ∧ b ≤ 99) (hh : hasR x.Rights r = true) (hc : ¬ b = 0) (hc2 : x.Badge = 0 ∨ b = x.Badge) : derived x id r b = (⟨id, x.Thing, r, b, x.ID⟩, 0) := by
  unfold derived; rw [if_neg (by rw [rightFault_ok h.1 h.2.1]; decide), if_neg (by omega), if_neg (by omega), if_neg (by rw [hh]; decide), if_neg (by omega), if_neg hc]
theorem derived_w7 {x : Writ} {id r b : Int} (h : 0 ≤ r ∧ r ≤ 7 ∧ 0 ≤ b ∧ b ≤ 99) (hh : hasR x.Rights r = true) (hc : ¬ x.Badge = 0) (hc2 : b = 0 ∨ b = x.Badge) : derived x id r b = (⟨id, x.Thing, r, x.Badge, x.ID⟩, 0) := by
  by_cases hb : b = 0
  · exact derived_w5 h hh hb
  · rw [derived_w6 h hh hb (by omega), show b = x.Badge by omega]

/-- the first place at which p holds; -1: none -/
def idxOf {α : Type} (p : α → Bool) (l : List α) : Int := match l.findIdx? p with | some i => i | none => -1
theorem idxOf_hit {α : Type} {p : α → Bool} {l : List α} {k : Nat} {x : α} (hk : l[k]? = some x) (h1 : p x = true) (h2 : ∀ (j : Nat) x, j < k → l[j]? = some x → p x = false) : idxOf p l = k := by
  obtain ⟨hk', rfl⟩ := List.getElem?_eq_some_iff.1 hk
  unfold idxOf
  rw [List.findIdx?_eq_some_iff_getElem.2 ⟨hk', h1, fun j hj => by
    have := h2 j l[j] hj (List.getElem?_eq_getElem (by omega)); simp [this]⟩]
theorem idxOf_miss {α : Type} {p : α → Bool} {l : List α} {k : Nat} (hk : ¬ k < l.length) (h : ∀ (j : Nat) x, j < k → l[j]? = some x → p x = false) : idxOf p l = -1 := by
  unfold idxOf
  rw [List.findIdx?_eq_none_iff.2 (fun x hx => by obtain ⟨j, hj⟩ := List.mem_iff_getElem?.1 hx; exact h j x (by have := (List.getElem?_eq_some_iff.1 hj).1; omega) hj)]
theorem findW_idx (l : List Writ) (id : Int) : findW l id = idxOf (fun x => x.ID == id) l := rfl
theorem none_step {α : Type} {p : α → Bool} {l : List α} {k : Nat} {x : α} (h : ∀ (j : Nat) x, j < k → l[j]? = some x → p x = false) (hx : l[k]? = some x) (hp : p x = false) : ∀ (j : Nat) x, j < k + 1 → l[j]? = some x → p x = false := by
  intro j y hj hy
  rcases Nat.lt_or_ge j k with h1 | h1
  · exact h j y h1 hy
  · have : j = k := by omega
    subst this; rw [hx] at hy; injection hy with hy; subst hy; exact hp
end Go.Proofs.YtpipachmngdegaaGreat
end
