/-
  Few, and not too much: as plain tests. No program.
-/
import Derived.Test.YtpipachmngdegaaAct
namespace Go.Proofs.Ytpipachmngdegaa
set_option linter.unusedVariables false

def lightC1 (c : Change) : Bool := decide (c.Key.size ≤ 20) && decide (c.Val.size ≤ 40)
def lightC (l : List Change) (most : Int) : Bool := decide ((l.length : Int) ≤ most) && l.all lightC1
def lightA1 (a : Deed) : Bool := decide (a.S.size ≤ 100) && lightC a.Changes 70
def lightA (l : List Deed) (most : Int) : Bool := decide ((l.length : Int) ≤ most) && l.all lightA1
theorem all_hit {α : Type} {p : α → Bool} {l : List α} {k : Nat} {x : α} (hx : l[k]? = some x) (h : p x = false) : l.all p = false := by
  rw [Bool.eq_false_iff]; intro h'
  have := List.all_eq_true.1 h' x (List.mem_of_getElem? hx)
  rw [h] at this; simp at this
theorem all_up {α : Type} {p : α → Bool} {l : List α} {k : Nat} (hk : ¬ k < l.length) (h : (l.take k).all p = true) : l.all p = true := by
  rwa [List.take_of_length_le (by omega)] at h
theorem all_snoc {α : Type} {p : α → Bool} {l : List α} {k : Nat} {x : α} (hx : l[k]? = some x) (h : (l.take k).all p = true) (hp : p x = true) : (l.take (k + 1)).all p = true := by
  rw [List.take_add_one, hx]; simp [List.all_append, h, hp]
theorem lightA_len {l : List Deed} {most : Int} (h : lightA l most = true) : (l.length : Int) ≤ most := by
  unfold lightA at h; simp only [Bool.and_eq_true, decide_eq_true_eq] at h; exact h.1
theorem lightC_len {l : List Change} {m : Int} (h : lightC l m = true) : (l.length : Int) ≤ m := by
  unfold lightC at h; simp only [Bool.and_eq_true, decide_eq_true_eq] at h; exact h.1
theorem lightC_all {l : List Change} {m : Int} (h : lightC l m = true) : ∀ x ∈ l, x.Key.size ≤ 20 ∧ x.Val.size ≤ 40 := fun x hx => by
  unfold lightC at h; simp only [Bool.and_eq_true, decide_eq_true_eq] at h
  have := List.all_eq_true.1 h.2 x hx
  unfold lightC1 at this; simp only [Bool.and_eq_true, decide_eq_true_eq] at this; exact this
theorem lightA_all {l : List Deed} {m : Int} (h : lightA l m = true) : ∀ a ∈ l, a.S.size ≤ 100 ∧ lightC a.Changes 70 = true := fun a ha => by
  unfold lightA at h; simp only [Bool.and_eq_true, decide_eq_true_eq] at h
  have := List.all_eq_true.1 h.2 a ha
  unfold lightA1 at this; simp only [Bool.and_eq_true, decide_eq_true_eq] at this; exact this
end Go.Proofs.Ytpipachmngdegaa
