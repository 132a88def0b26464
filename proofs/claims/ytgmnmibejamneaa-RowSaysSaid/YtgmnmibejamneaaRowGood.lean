/-
  Rows that rise and may each be, as a test of one after the other. No program.
-/
import Derived.Test.YtgmnmibejamneaaRowSpec
namespace Go.Proofs.Ytgmnmibejamneaa
open Go
set_option linter.unusedVariables false
def goodAt (l : List Change) (j : Nat) : Bool :=
  match l[j]? with
  | some x => decide (chF x = 0) && !x.Gone && (decide (j = 0) || (match l[j - 1]? with | some y => ltS y.Key x.Key | none => true))
  | none => true
def goodC (l : List Change) : Bool := (List.range l.length).all (goodAt l)
section
variable {l : List Change} {k : Nat} {x y : Change}
theorem goodC_no (hx : l[k]? = some x) (h : goodAt l k = false) : goodC l = false := by
  rw [Bool.eq_false_iff]; intro hg
  have := List.all_eq_true.1 hg k (List.mem_range.2 (List.getElem?_eq_some_iff.1 hx).1)
  rw [h] at this; cases this
theorem goodC_yes (h : ∀ j, j < l.length → goodAt l j = true) : goodC l = true := List.all_eq_true.2 fun j hj => h j (List.mem_range.1 hj)
theorem good_next (h : ∀ j, j < k → goodAt l j = true) (hk : goodAt l k = true) : ∀ j, j < k + 1 → goodAt l j = true := fun j hj => by
  rcases Nat.lt_or_ge j k with h1 | h1
  · exact h j h1
  · have : j = k := by omega
    subst this; exact hk
theorem at_fault (hx : l[k]? = some x) (h : 0 < chF x) : goodAt l k = false := by unfold goodAt; rw [hx]; dsimp only; rw [decide_eq_false (by omega)]; rfl
theorem at_gone (hx : l[k]? = some x) (h : x.Gone = true) : goodAt l k = false := by unfold goodAt; rw [hx]; dsimp only; rw [h]; simp
theorem leq_yes {a b : ByteArray} (h : (ltS a b || decide (a = b)) = true) : ltS b a = false := by
  rcases Bool.or_eq_true_iff.1 h with h | h
  · exact ltS_asymm h
  · have e := of_decide_eq_true h; subst e; exact ltS_irr _
theorem leq_no {a b : ByteArray} (h : (ltS a b || decide (a = b)) = false) : ltS b a = true := by
  obtain ⟨h1, h2⟩ := Bool.or_eq_false_iff.1 h
  exact ltS_le h1 (of_decide_eq_false h2)
theorem at_leq (hx : l[k]? = some x) (hy : l[k - 1]? = some y) (h0 : 0 < k) (h : (ltS x.Key y.Key || decide (x.Key = y.Key)) = true) : goodAt l k = false := by
  unfold goodAt; rw [hx]; dsimp only; rw [hy]; dsimp only; rw [leq_yes h, decide_eq_false (by omega : ¬ k = 0)]; simp
theorem at_yes (hx : l[k]? = some x) (hy : l[k - 1]? = some y) (h1 : chF x = 0) (h2 : x.Gone = false) (h : (ltS x.Key y.Key || decide (x.Key = y.Key)) = false) : goodAt l k = true := by
  unfold goodAt; rw [hx]; dsimp only; rw [hy]; dsimp only; rw [leq_no h, decide_eq_true h1, h2]; simp
theorem at_yes0 (hx : l[k]? = some x) (h0 : k = 0) (h1 : chF x = 0) (h2 : x.Gone = false) : goodAt l k = true := by
  subst h0; unfold goodAt; rw [hx]; dsimp only; rw [decide_eq_true h1, h2]; simp
theorem goodAt_ok (h : goodAt l k = true) (hx : l[k]? = some x) : chF x = 0 ∧ x.Gone = false ∧ ∀ y, 0 < k → l[k - 1]? = some y → ltS y.Key x.Key = true := by
  unfold goodAt at h; rw [hx] at h; dsimp only at h
  simp only [Bool.and_eq_true, Bool.or_eq_true, decide_eq_true_eq, Bool.not_eq_true'] at h
  refine ⟨h.1.1, h.1.2, fun y h0 hy => ?_⟩
  rw [hy] at h; dsimp only at h
  exact h.2.resolve_left (by omega)
theorem goodC_all (h : goodC l = true) : ∀ x ∈ l, chF x = 0 ∧ x.Gone = false := fun x hx => by
  obtain ⟨k, hk⟩ := List.mem_iff_getElem?.1 hx
  have := goodAt_ok (List.all_eq_true.1 h k (List.mem_range.2 (List.getElem?_eq_some_iff.1 hk).1)) hk
  exact ⟨this.1, this.2.1⟩
theorem goodC_rise (h : goodC l = true) : RiseC l := by
  have step : ∀ (d i : Nat) x y, l[i]? = some x → l[i + d + 1]? = some y → ltS x.Key y.Key = true := by
    intro d
    induction d with
    | zero => intro i x y hx hy; exact (goodAt_ok (List.all_eq_true.1 h (i + 0 + 1) (List.mem_range.2 (List.getElem?_eq_some_iff.1 hy).1)) hy).2.2 x (by omega) (by simpa using hx)
    | succ d ih =>
      intro i x y hx hy
      have hlt := (List.getElem?_eq_some_iff.1 hy).1
      have hz : l[i + d + 1]? = some l[i + d + 1] := List.getElem?_eq_getElem (by omega)
      exact ltS_trans (ih i x _ hx hz) ((goodAt_ok (List.all_eq_true.1 h (i + (d + 1) + 1) (List.mem_range.2 hlt)) hy).2.2 _ (by omega) (by rw [show i + (d + 1) + 1 - 1 = i + d + 1 by omega]; exact hz))
  refine List.pairwise_iff_getElem.2 fun i j hi hj hij => ?_
  have e : j = i + (j - i - 1) + 1 := by omega
  exact step (j - i - 1) i _ _ (List.getElem?_eq_getElem hi) (by rw [← e]; exact List.getElem?_eq_getElem hj)
end
end Go.Proofs.Ytgmnmibejamneaa
