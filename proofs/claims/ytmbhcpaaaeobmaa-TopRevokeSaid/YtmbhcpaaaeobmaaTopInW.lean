/-
  The walk of looking for a number in a list.
-/
import Derived.Test.YtmbhcpaaaeobmaaTree2
namespace Go.Proofs.Ytmbhcpaaaeobmaa
open Go Go.RowKit
set_option linter.unusedVariables false
set_option maxRecDepth 100000

theorem inn_hit {l : List Int} {n x : Int} {k : Nat} (hx : l[k]? = some x) (h : x = n) : true = decide (n ∈ l) := by
  subst h; exact (decide_eq_true (List.mem_of_getElem? hx)).symm
theorem inn_none {l : List Int} {n : Int} (h : ∀ (j : Nat) x, j < l.length → l[j]? = some x → ¬ x = n) : false = decide (n ∈ l) := by
  refine (decide_eq_false fun hm => ?_).symm
  obtain ⟨j, hj⟩ := List.mem_iff_getElem?.1 hm
  exact h j _ (List.getElem?_eq_some_iff.1 hj).1 hj rfl
theorem in_any (v_l : Value) (l : List Int) (n : Int) (w : World) (s_l : Sl w v_l l) : Calls Try.prog 29 #[v_l, .int .i64 n] w fun e w' => e = .returned (.bool (decide (n ∈ l))) ∧ Ext w w' := by
  have b_l := s_l.lenle
  refine R.enter (n := 18) (vs := [v_l, .int .i64 n]) [] [(0, v_l), (1, .int .i64 n)] Try.func29 rfl rfl rfl rfl ?_
  refine R.reg rfl <| R.u 1 rfl <| R.nil ?_
  refine R.reg rfl <| R.u 1 rfl <| R.nil ?_
  refine R.loop (fun k : Nat => [(0, v_l), (1, .int .i64 n), (5, .int .i64 (k : Int))]) (fun k : Nat => []) (fun k : Nat => []) (fun k : Nat => k ≤ l.length ∧ ∀ (j : Nat) x, j < k → l[j]? = some x → ¬ x = n) (fun k : Nat => l.length - k) 0 rfl (by exact ⟨by omega, fun j x hj => absurd hj (Nat.not_lt_zero _)⟩) ⟨rfl, rfl, rfl, trivial⟩ (fun _ => Wd.pick [] [] rfl rfl rfl) ?_
  rintro k ⟨hk, HA⟩
  refine R.reg rfl <| R.u 2 rfl <| R.q (q.len' (fun _ => Wd.old s_l) rfl Try.underlying45) rfl <| ?_
  by_cases h1 : k < l.length
  · refine R.q (q.lss rfl rfl (decide_eq_true (by omega))) rfl <| R.nil ?_
    refine R.condT rfl rfl ?_
    refine R.reg rfl <| R.u 2 rfl <| ?_
    obtain ⟨x1, hx1⟩ : ∃ z, l[k]? = some z := ⟨_, List.getElem?_eq_getElem (by omega)⟩
    refine R.q (q.idx (i := k) (fun _ => Wd.old s_l) rfl rfl tSl_45 rfl hx1) rfl <| R.q (q.ldE (fun _ => Wd.old s_l) hx1 rfl tOne_3 rfl) rfl <| R.u 1 rfl <| ?_
    by_cases h2 : x1 = n
    · refine R.q (q.eql rfl rfl (beq_iff_eq.2 (by omega))) rfl <| R.nil ?_
      refine R.condT rfl rfl ?_
      refine R.reg rfl <| R.u 1 rfl <| R.nil ?_
      exact R.rv rfl Try.results29 rfl (rB (by (exact inn_hit hx1 (by assumption))))
    · refine R.q (q.eql rfl rfl (beq_eq_false_iff_ne.2 (by omega))) rfl <| R.nil ?_
      refine R.condF rfl rfl ?_
      refine R.reg rfl <| R.u 1 rfl <| R.q (q.add (r := ((k + 1 : Nat) : Int)) rfl rfl (wr (by omega))) rfl <| R.u 1 rfl <| R.nil ?_
      refine R.back (k + 1) rfl (by (exact ⟨by omega, fun j x hj hx => if e : j = k then by subst e; rw [hx1] at hx; injection hx with hx; subst hx; exact (by assumption) else HA j x (by omega) hx⟩)) (by omega) ⟨rfl, rfl, rfl, trivial⟩ (fun _ => Wd.pick [] [] rfl rfl rfl)
  · refine R.q (q.lss rfl rfl (decide_eq_false (by omega))) rfl <| R.nil ?_
    refine R.condF rfl rfl ?_
    refine R.reg rfl <| R.u 1 rfl <| R.nil ?_
    exact R.rv rfl Try.results29 rfl (rB (by (exact inn_none (fun j x hj => HA j x (by omega)))))

end Go.Proofs.Ytmbhcpaaaeobmaa
