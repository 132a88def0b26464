/-
  The things that writs are of: plain functions. No program.
-/
import Derived.Test.YtoaneidhfcljmaaTreeLaw
import Derived.Lib.SlicesCompact
namespace Go.Proofs.Ytoaneidhfcljmaa
open Go.RowKit
set_option linter.unusedVariables false

def hasT? (l : List Writ) (t : Int) : Bool := l.any (fun x => x.Thing == t)
/-- 1, 2 .. below n + 1, of those that are -/
def thingsTo (l : List Writ) : Nat → List Int
  | 0 => []
  | n + 1 => if hasT? l ((n + 1 : Nat) : Int) then thingsTo l n ++ [((n + 1 : Nat) : Int)] else thingsTo l n
def thingsOf (l : List Writ) : List Int := thingsTo l 999
theorem thingsTo_len (l : List Writ) : ∀ n, (thingsTo l n).length ≤ n
  | 0 => by simp [thingsTo]
  | n + 1 => by
    have := thingsTo_len l n
    simp only [thingsTo]; split
    · simp; omega
    · omega
theorem thingsTo_hit {l : List Writ} {n : Nat} {t : Int} {x : Writ} {j : Nat} (hn : 0 < n) (ht : t = (n : Int)) (hx : l[j]? = some x) (h : x.Thing = t) : thingsTo l n = thingsTo l (n - 1) ++ [t] := by
  obtain ⟨m, rfl⟩ : ∃ m, n = m + 1 := ⟨n - 1, by omega⟩
  simp only [thingsTo, Nat.add_sub_cancel]
  have : hasT? l ((m + 1 : Nat) : Int) = true := by
    unfold hasT?; rw [List.any_eq_true]; exact ⟨x, List.mem_of_getElem? hx, by simp [h, ht]⟩
  rw [if_pos this, ht]
theorem thingsTo_miss {l : List Writ} {n : Nat} (hn : 0 < n) (h : ∀ (j : Nat) x, j < l.length → l[j]? = some x → ¬ x.Thing = (n : Int)) : thingsTo l n = thingsTo l (n - 1) := by
  obtain ⟨m, rfl⟩ : ∃ m, n = m + 1 := ⟨n - 1, by omega⟩
  simp only [thingsTo, Nat.add_sub_cancel]
  have : hasT? l ((m + 1 : Nat) : Int) = false := by
    unfold hasT?; rw [List.any_eq_false]; intro x hx
    obtain ⟨j, hj⟩ := List.mem_iff_getElem?.1 hx
    have := h j x (List.getElem?_eq_some_iff.1 hj).1 hj
    simpa using this
  rw [if_neg (by rw [this]; simp)]
end Go.Proofs.Ytoaneidhfcljmaa
