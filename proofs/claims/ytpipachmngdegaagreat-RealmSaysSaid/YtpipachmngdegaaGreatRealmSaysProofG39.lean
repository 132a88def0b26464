import Derived.Test.YtpipachmngdegaaGreatRealmSaysProofG23
import Derived.Test.YtpipachmngdegaaGreatRealmSaysProofG24
import Derived.Test.YtpipachmngdegaaGreatRealmSaysProofG16
section
/-
  The walks of the laws of chapter 3.
-/
namespace Go.Proofs.YtpipachmngdegaaGreat
open Go Go.RowKit
set_option linter.unusedVariables false
set_option maxRecDepth 100000

theorem in_hit {l : List Int} {n x : Int} {k : Nat} (hx : l[k]? = some x) (h : x = n) : true = decide (n ∈ l) := by
  subst h; exact (decide_eq_true (List.mem_of_getElem? hx)).symm
theorem in_none {l : List Int} {n : Int} (h : ∀ (j : Nat) x, j < l.length → l[j]? = some x → ¬ x = n) : false = decide (n ∈ l) := by
  refine (decide_eq_false fun hm => ?_).symm
  obtain ⟨j, hj⟩ := List.mem_iff_getElem?.1 hm
  exact h j _ (List.getElem?_eq_some_iff.1 hj).1 hj rfl
theorem treed_1 : TreeOk [(⟨1, 1, 7, 0, 0⟩ : Writ), (⟨2, 1, 3, 0, 1⟩ : Writ)] := by unfold TreeOk; decide
theorem treed_2 : benG 1 [(⟨1, 1, 7, 0, 0⟩ : Writ), (⟨2, 1, 3, 0, 1⟩ : Writ)] = [2] := by decide
theorem treed_3 : above [(⟨1, 1, 7, 0, 0⟩ : Writ), (⟨2, 1, 3, 0, 1⟩ : Writ)] 2 = [1] := by
  rw [above, show fromOf [(⟨1, 1, 7, 0, 0⟩ : Writ), (⟨2, 1, 3, 0, 1⟩ : Writ)] 2 = 1 from by decide, chain_some treed_1 (by decide), show fromOf [(⟨1, 1, 7, 0, 0⟩ : Writ), (⟨2, 1, 3, 0, 1⟩ : Writ)] 1 = 0 from by decide, chain_none (by decide)]

theorem wo_back {id f : Int} {x y : Writ} (h : y = woRe id f x) : (⟨y.ID, y.Thing, y.Rights, y.Badge, x.From⟩ : Writ) = x := by subst h; unfold woRe; split <;> rfl
section
variable {α : Type} {p : α → Bool} {l : List α} {j : Nat} {x : α}
theorem fl_hit (h : l[j]? = some x) (hp : p x = true) : ((l.take (j + 1)).filter p).length = ((l.take j).filter p).length + 1 := by
  rw [List.take_add_one, h, List.filter_append]; simp [hp]
theorem fl_miss (h : l[j]? = some x) (hp : p x = false) : ((l.take (j + 1)).filter p).length = ((l.take j).filter p).length := by
  rw [List.take_add_one, h, List.filter_append]; simp [hp]
theorem fl_at (h : l[j]? = some x) (hp : p x = true) : (l.filter p)[((l.take j).filter p).length]? = some x := by
  have e : l.filter p = (l.take j).filter p ++ (x :: (l.drop (j + 1)).filter p) := by
    have hj := (List.getElem?_eq_some_iff.1 h)
    conv => lhs; rw [← List.take_append_drop j l, List.drop_eq_getElem_cons hj.1, hj.2, List.filter_append, List.filter_cons, if_pos hp]
  rw [e, List.getElem?_append_right (Nat.le_refl _)]; simp
theorem fl_all (h : l.length ≤ j) : ((l.take j).filter p).length = (l.filter p).length := by rw [List.take_of_length_le h]
theorem fl_le : ((l.take j).filter p).length ≤ j := Nat.le_trans (List.length_filter_le _ _) (by rw [List.length_take]; omega)
end

end Go.Proofs.YtpipachmngdegaaGreat
end
