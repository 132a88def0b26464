/-
  The walks of holding two lists against each other.
-/
import Derived.Test.YtpipachmngdegaaEq
namespace Go.Proofs.Ytpipachmngdegaa
open Go Go.RowKit
set_option linter.unusedVariables false

theorem sameChanges_any (v_a : Value) (a : List Change) (v_b : Value) (b : List Change) (w : World) (s_a : Sl w v_a a) (s_b : Sl w v_b b) : Calls Try.prog 28 #[v_a, v_b] w fun e w' => e = .returned (.bool (decide (a = b))) ∧ Ext w w' := by
  have b_a := s_a.lenle
  have b_b := s_b.lenle
  refine R.enter (n := 26) (vs := [v_a, v_b]) [] [(0, v_a), (1, v_b)] Try.func28 rfl rfl rfl rfl ?_
  refine R.reg rfl <| R.u 1 rfl <| R.nil ?_
  refine R.reg rfl <| R.u 1 rfl <| R.q (q.len' (fun _ => Wd.old s_a) rfl Try.underlying46) rfl <| R.u 1 rfl <| R.q (q.len' (fun _ => Wd.old s_b) rfl Try.underlying46) rfl <| ?_
  by_cases h1 : a.length = b.length
  · refine R.q (q.neq rfl rfl (bne_eq_false_iff_eq.2 (by omega))) rfl <| R.nil ?_
    refine R.condF rfl rfl ?_
    refine R.reg rfl <| R.u 1 rfl <| R.nil ?_
    refine R.loop (fun k : Nat => [(0, v_a), (1, v_b), (5, .int .i64 (k : Int))]) (fun k : Nat => []) (fun k : Nat => []) (fun k : Nat => k ≤ a.length ∧ ∀ j, j < k → a[j]? = b[j]?) (fun k : Nat => a.length - k) 0 rfl (by exact ⟨by omega, fun j hj => absurd hj (Nat.not_lt_zero _)⟩) ⟨rfl, rfl, rfl, trivial⟩ (fun _ => Wd.pick [] [] rfl rfl rfl) ?_
    rintro k ⟨hk, HA⟩
    refine R.reg rfl <| R.u 2 rfl <| R.q (q.len' (fun _ => Wd.old s_a) rfl Try.underlying46) rfl <| ?_
    by_cases h2 : k < a.length
    · refine R.q (q.lss rfl rfl (decide_eq_true (by omega))) rfl <| R.nil ?_
      refine R.condT rfl rfl ?_
      obtain ⟨x1, hx1⟩ : ∃ z, a[k]? = some z := ⟨_, List.getElem?_eq_getElem (by omega)⟩
      obtain ⟨x2, hx2⟩ : ∃ z, b[k]? = some z := ⟨_, List.getElem?_eq_getElem (by omega)⟩
      by_cases h3 : x1 = x2
      · refine R.regQ rfl mixed (by kernel_rfl) <| Q.u 2 rfl <| Q.q (q.idx (i := k) (fun _ => Wd.old s_a) rfl rfl tSl_46 rfl hx1) rfl <| Q.q (q.ldES (ds := [.string x1.Key, .string x1.Val, .bool x1.Gone]) (fun _ => Wd.old s_a) hx1 rfl tAgg_51 rfl) rfl <| Q.u 2 rfl <| Q.q (q.idx (i := k) (fun _ => Wd.old s_b) rfl rfl tSl_46 rfl hx2) rfl <| Q.q (q.ldES (ds := [.string x2.Key, .string x2.Val, .bool x2.Gone]) (fun _ => Wd.old s_b) hx2 rfl tAgg_51 rfl) rfl <| Q.q (q.neqT1 (x := x1) (y := x2) eq_51 rfl rfl h3) rfl <| Q.nil ?_
        refine R.condF rfl rfl ?_
        refine R.reg rfl <| R.u 1 rfl <| R.q (q.add (r := ((k + 1 : Nat) : Int)) rfl rfl (wr (by omega))) rfl <| R.u 1 rfl <| R.nil ?_
        refine R.back (k + 1) rfl (by (exact ⟨by omega, same_step HA hx1 hx2 (by assumption)⟩)) (by omega) ⟨rfl, rfl, rfl, trivial⟩ (fun _ => Wd.pick [] [] rfl rfl rfl)
      · refine R.regQ rfl mixed (by kernel_rfl) <| Q.u 2 rfl <| Q.q (q.idx (i := k) (fun _ => Wd.old s_a) rfl rfl tSl_46 rfl hx1) rfl <| Q.q (q.ldES (ds := [.string x1.Key, .string x1.Val, .bool x1.Gone]) (fun _ => Wd.old s_a) hx1 rfl tAgg_51 rfl) rfl <| Q.u 2 rfl <| Q.q (q.idx (i := k) (fun _ => Wd.old s_b) rfl rfl tSl_46 rfl hx2) rfl <| Q.q (q.ldES (ds := [.string x2.Key, .string x2.Val, .bool x2.Gone]) (fun _ => Wd.old s_b) hx2 rfl tAgg_51 rfl) rfl <| Q.q (q.neqT0 (x := x1) (y := x2) eq_51 rfl rfl h3) rfl <| Q.nil ?_
        refine R.condT rfl rfl ?_
        refine R.reg rfl <| R.u 1 rfl <| R.nil ?_
        exact R.rv rfl Try.results28 rfl (rB (by (first | exact same_len (by assumption) | exact same_all (by assumption) (by assumption) HA | exact same_hit hx1 hx2 (by assumption))))
    · refine R.q (q.lss rfl rfl (decide_eq_false (by omega))) rfl <| R.nil ?_
      refine R.condF rfl rfl ?_
      refine R.reg rfl <| R.u 1 rfl <| R.nil ?_
      exact R.rv rfl Try.results28 rfl (rB (by (first | exact same_len (by assumption) | exact same_all (by assumption) (by assumption) HA | exact same_hit hx1 hx2 (by assumption))))
  · refine R.q (q.neq rfl rfl (bne_iff_ne.2 (by omega))) rfl <| R.nil ?_
    refine R.condT rfl rfl ?_
    refine R.reg rfl <| R.u 1 rfl <| R.nil ?_
    exact R.rv rfl Try.results28 rfl (rB (by (first | exact same_len (by assumption) | exact same_all (by assumption) (by assumption) HA | exact same_hit hx1 hx2 (by assumption))))

end Go.Proofs.Ytpipachmngdegaa
