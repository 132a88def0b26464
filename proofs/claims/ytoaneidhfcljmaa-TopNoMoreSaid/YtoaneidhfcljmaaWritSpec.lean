/-
  Chapters 1 and 2 as plain functions: rights, and writs. No program.
-/
import Derived.Test.YtoaneidhfcljmaaKind
namespace Go.Proofs.Ytoaneidhfcljmaa
open Go.RowKit
set_option linter.unusedVariables false

def rightFault (r : Int) : Int := if r < 0 then 1 else if 7 < r then 1 else 0
theorem rightFault_ok {r : Int} (h0 : 0 ≤ r) (h7 : r ≤ 7) : rightFault r = 0 := by unfold rightFault; rw [if_neg (by omega), if_neg (by omega)]
theorem rightFault_bad {r : Int} (h : r < 0 ∨ 7 < r) : rightFault r = 1 := by unfold rightFault; split; rfl; rw [if_pos (by omega)]
theorem rightFault_cases (r : Int) : (rightFault r = 1 ∧ (r < 0 ∨ 7 < r)) ∨ (rightFault r = 0 ∧ 0 ≤ r ∧ r ≤ 7) := by
  by_cases h : r < 0 ∨ 7 < r
  · exact .inl ⟨rightFault_bad h, h⟩
  · exact .inr ⟨rightFault_ok (by omega) (by omega), by omega, by omega⟩

/-- has r all of need? (of rights from 0 to 7) -/
def hasR (r need : Int) : Bool := (r.toNat &&& need.toNat) == need.toNat
/-- the same, as it is asked bit by bit -/
def hasB (r need : Int) : Bool := !(need % 2 == 1 && r % 2 == 0) && !(need / 2 % 2 == 1 && r / 2 % 2 == 0) && !(need / 4 % 2 == 1 && r / 4 % 2 == 0)
theorem hasB_fin : ∀ r n : Fin 8, hasB ((r : Nat) : Int) ((n : Nat) : Int) = hasR ((r : Nat) : Int) ((n : Nat) : Int) := by decide
theorem fin_of {r : Int} (h0 : 0 ≤ r) (h7 : r ≤ 7) : ∃ x : Fin 8, r = ((x : Nat) : Int) := ⟨⟨r.toNat, by omega⟩, by simp; omega⟩
theorem hasB_eq {r n : Int} (r0 : 0 ≤ r) (r7 : r ≤ 7) (n0 : 0 ≤ n) (n7 : n ≤ 7) : hasB r n = hasR r n := by
  obtain ⟨x, rfl⟩ := fin_of r0 r7; obtain ⟨y, rfl⟩ := fin_of n0 n7; exact hasB_fin x y

theorem hasB_false {r n : Int} (h : (n % 2 = 1 ∧ r % 2 = 0) ∨ (n / 2 % 2 = 1 ∧ r / 2 % 2 = 0) ∨ (n / 4 % 2 = 1 ∧ r / 4 % 2 = 0)) : hasB r n = false := by
  unfold hasB
  rcases h with ⟨a, b⟩ | ⟨a, b⟩ | ⟨a, b⟩ <;> simp [a, b]
theorem hasB_true {r n : Int} (h0 : ¬(n % 2 = 1 ∧ r % 2 = 0)) (h1 : ¬ (n / 2 % 2 = 1 ∧ r / 2 % 2 = 0)) (h2 : ¬ (n / 4 % 2 = 1 ∧ r / 4 % 2 = 0)) : hasB r n = true := by
  unfold hasB; simp only [Bool.and_eq_true, Bool.not_eq_true', Bool.and_eq_false_iff, beq_eq_false_iff_ne]
  refine ⟨⟨?_, ?_⟩, ?_⟩ <;> omega

def writFault (w : Writ) : Int :=
  if w.ID < 1 then 1 else if 999 < w.ID then 1 else if w.Thing < 1 then 1 else if 999 < w.Thing then 1 else if w.Badge < 0 then 1 else if 99 < w.Badge then 1 else
  if w.From < 0 then 1 else if w.ID ≤ w.From then 1 else rightFault w.Rights
theorem writFault_cases (x : Writ) : (writFault x = 1 ∧ (x.ID < 1 ∨ 999 < x.ID ∨ x.Thing < 1 ∨ 999 < x.Thing ∨ x.Badge < 0 ∨ 99 < x.Badge ∨ x.From < 0 ∨ x.ID ≤ x.From ∨ x.Rights < 0 ∨ 7 < x.Rights)) ∨
    (writFault x = 0 ∧ 1 ≤ x.ID ∧ x.ID ≤ 999 ∧ 1 ≤ x.Thing ∧ x.Thing ≤ 999 ∧ 0 ≤ x.Badge ∧ x.Badge ≤ 99 ∧ 0 ≤ x.From ∧ x.From < x.ID ∧ 0 ≤ x.Rights ∧ x.Rights ≤ 7) := by
  unfold writFault rightFault; (repeat' split) <;> first | (left; exact ⟨rfl, by omega⟩) | (right; exact ⟨rfl, by omega⟩)

def zeroW : Writ := ⟨0, 0, 0, 0, 0⟩
def derived (w : Writ) (id rights badge : Int) : Writ × Int :=
  if rightFault rights = 1 then (zeroW, 1) else if badge < 0 then (zeroW, 1) else if 99 < badge then (zeroW, 1) else
  if hasR w.Rights rights = false then (zeroW, 7) else
  if badge ≠ 0 ∧ w.Badge ≠ 0 ∧ badge ≠ w.Badge then (zeroW, 7) else
  (⟨id, w.Thing, rights, if badge = 0 then w.Badge else badge, w.ID⟩, 0)

def findW (l : List Writ) (id : Int) : Int := match l.findIdx? (fun w => w.ID == id) with | some i => i | none => -1
theorem findW_cases (l : List Writ) (id : Int) : (findW l id = -1 ∧ ∀ x ∈ l, ¬ x.ID = id) ∨ ∃ (k : Nat) (h : k < l.length), findW l id = k ∧ l[k].ID = id ∧ ∀ j (hj : j < k), ¬ (l[j]'(by omega)).ID = id := by
  unfold findW
  cases h : l.findIdx? (fun w => w.ID == id) with
  | none =>
    left
    refine ⟨rfl, fun x hx => ?_⟩
    have := List.findIdx?_eq_none_iff.1 h x hx
    simpa using this
  | some k =>
    right
    obtain ⟨hk, h1, h2⟩ := List.findIdx?_eq_some_iff_getElem.1 h
    exact ⟨k, hk, rfl, by simpa using h1, fun j hj => by simpa using h2 j hj⟩
theorem findW_eq {l : List Writ} {id : Int} {k : Nat} (hk : k < l.length) (h1 : l[k].ID = id) (h2 : ∀ j x, j < k → l[j]? = some x → ¬ x.ID = id) : findW l id = k := by
  unfold findW
  rw [List.findIdx?_eq_some_iff_getElem.2 ⟨hk, by simpa using h1, fun j hj => by
    have := h2 j l[j] hj (List.getElem?_eq_getElem (by omega)); simpa using this⟩]
theorem findW_none {l : List Writ} {id : Int} (h : ∀ x ∈ l, ¬ x.ID = id) : findW l id = -1 := by
  unfold findW
  rw [List.findIdx?_eq_none_iff.2 (fun x hx => by simpa using h x hx)]
end Go.Proofs.Ytoaneidhfcljmaa
