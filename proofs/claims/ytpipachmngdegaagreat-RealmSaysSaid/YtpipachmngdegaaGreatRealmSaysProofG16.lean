import Derived.Test.YtpipachmngdegaaGreatRealmSaysProofG14
section
/-
  The walks of holding two lists against each other.
-/
namespace Go.Proofs.YtpipachmngdegaaGreat
open Go Go.RowKit
set_option linter.unusedVariables false

theorem sameWrits_any (v_a : Value) (a : List Writ) (v_b : Value) (b : List Writ) (w : World) (s_a : Sl w v_a a) (s_b : Sl w v_b b) : Calls Tryz.prog 38 #[v_a, v_b] w fun e w' => e = .returned (.bool (decide (a = b))) ∧ Ext w w' := by
  have b_a := s_a.lenle
  have b_b := s_b.lenle
  refine R.enter (n := 26) (vs := [v_a, v_b]) [] [(0, v_a), (1, v_b)] Tryz.func38 rfl rfl rfl rfl ?_
  refine R.reg rfl <| R.u 1 rfl <| R.nil ?_
  refine R.reg rfl <| R.u 1 rfl <| R.q (q.len' (fun _ => Wd.old s_a) rfl Tryz.underlying25) rfl <| R.u 1 rfl <| R.q (q.len' (fun _ => Wd.old s_b) rfl Tryz.underlying25) rfl <| ?_
  by_cases h1 : a.length = b.length
  · refine R.q (q.neq rfl rfl (bne_eq_false_iff_eq.2 (by omega))) rfl <| R.nil ?_
    refine R.condF rfl rfl ?_
    refine R.reg rfl <| R.u 1 rfl <| R.nil ?_
    refine R.loop (fun k : Nat => [(0, v_a), (1, v_b), (5, .int .i64 (k : Int))]) (fun k : Nat => []) (fun k : Nat => []) (fun k : Nat => k ≤ a.length ∧ ∀ j, j < k → a[j]? = b[j]?) (fun k : Nat => a.length - k) 0 rfl (by exact ⟨by omega, fun j hj => absurd hj (Nat.not_lt_zero _)⟩) ⟨rfl, rfl, rfl, trivial⟩ (fun _ => Wd.pick [] [] rfl rfl rfl) ?_
    rintro k ⟨hk, HA⟩
    refine R.reg rfl <| R.u 2 rfl <| R.q (q.len' (fun _ => Wd.old s_a) rfl Tryz.underlying25) rfl <| ?_
    by_cases h2 : k < a.length
    · refine R.q (q.lss rfl rfl (decide_eq_true (by omega))) rfl <| R.nil ?_
      refine R.condT rfl rfl ?_
      obtain ⟨x1, hx1⟩ : ∃ z, a[k]? = some z := ⟨_, List.getElem?_eq_getElem (by omega)⟩
      obtain ⟨x2, hx2⟩ : ∃ z, b[k]? = some z := ⟨_, List.getElem?_eq_getElem (by omega)⟩
      by_cases h3 : x1 = x2
      · refine R.regQ rfl mixed (by kernel_rfl) <| Q.u 2 rfl <| Q.q (q.idx (i := k) (fun _ => Wd.old s_a) rfl rfl tSl_25 rfl hx1) rfl <| Q.q (q.ldES (ds := [.int .i64 x1.ID, .int .i64 x1.Thing, .int .i64 x1.Rights, .int .i64 x1.Badge, .int .i64 x1.From]) (fun _ => Wd.old s_a) hx1 rfl tAgg_39 rfl) rfl <| Q.u 2 rfl <| Q.q (q.idx (i := k) (fun _ => Wd.old s_b) rfl rfl tSl_25 rfl hx2) rfl <| Q.q (q.ldES (ds := [.int .i64 x2.ID, .int .i64 x2.Thing, .int .i64 x2.Rights, .int .i64 x2.Badge, .int .i64 x2.From]) (fun _ => Wd.old s_b) hx2 rfl tAgg_39 rfl) rfl <| Q.q (q.neqT1 (x := x1) (y := x2) eq_39 rfl rfl h3) rfl <| Q.nil ?_
        refine R.condF rfl rfl ?_
        refine R.reg rfl <| R.u 1 rfl <| R.q (q.add (r := ((k + 1 : Nat) : Int)) rfl rfl (wr (by omega))) rfl <| R.u 1 rfl <| R.nil ?_
        refine R.back (k + 1) rfl (by (exact ⟨by omega, same_step HA hx1 hx2 (by assumption)⟩)) (by omega) ⟨rfl, rfl, rfl, trivial⟩ (fun _ => Wd.pick [] [] rfl rfl rfl)
      · refine R.regQ rfl mixed (by kernel_rfl) <| Q.u 2 rfl <| Q.q (q.idx (i := k) (fun _ => Wd.old s_a) rfl rfl tSl_25 rfl hx1) rfl <| Q.q (q.ldES (ds := [.int .i64 x1.ID, .int .i64 x1.Thing, .int .i64 x1.Rights, .int .i64 x1.Badge, .int .i64 x1.From]) (fun _ => Wd.old s_a) hx1 rfl tAgg_39 rfl) rfl <| Q.u 2 rfl <| Q.q (q.idx (i := k) (fun _ => Wd.old s_b) rfl rfl tSl_25 rfl hx2) rfl <| Q.q (q.ldES (ds := [.int .i64 x2.ID, .int .i64 x2.Thing, .int .i64 x2.Rights, .int .i64 x2.Badge, .int .i64 x2.From]) (fun _ => Wd.old s_b) hx2 rfl tAgg_39 rfl) rfl <| Q.q (q.neqT0 (x := x1) (y := x2) eq_39 rfl rfl h3) rfl <| Q.nil ?_
        refine R.condT rfl rfl ?_
        refine R.reg rfl <| R.u 1 rfl <| R.nil ?_
        exact R.rv rfl Tryz.results38 rfl (rB (by (first | exact same_len (by assumption) | exact same_all (by assumption) (by assumption) HA | exact same_hit hx1 hx2 (by assumption))))
    · refine R.q (q.lss rfl rfl (decide_eq_false (by omega))) rfl <| R.nil ?_
      refine R.condF rfl rfl ?_
      refine R.reg rfl <| R.u 1 rfl <| R.nil ?_
      exact R.rv rfl Tryz.results38 rfl (rB (by (first | exact same_len (by assumption) | exact same_all (by assumption) (by assumption) HA | exact same_hit hx1 hx2 (by assumption))))
  · refine R.q (q.neq rfl rfl (bne_iff_ne.2 (by omega))) rfl <| R.nil ?_
    refine R.condT rfl rfl ?_
    refine R.reg rfl <| R.u 1 rfl <| R.nil ?_
    exact R.rv rfl Tryz.results38 rfl (rB (by (first | exact same_len (by assumption) | exact same_all (by assumption) (by assumption) HA | exact same_hit hx1 hx2 (by assumption))))

theorem sameHeld_any (v_a : Value) (a : List Held) (v_b : Value) (b : List Held) (w : World) (s_a : Sl w v_a a) (s_b : Sl w v_b b) : Calls Tryz.prog 39 #[v_a, v_b] w fun e w' => e = .returned (.bool (decide (a = b))) ∧ Ext w w' := by
  have b_a := s_a.lenle
  have b_b := s_b.lenle
  refine R.enter (n := 26) (vs := [v_a, v_b]) [] [(0, v_a), (1, v_b)] Tryz.func39 rfl rfl rfl rfl ?_
  refine R.reg rfl <| R.u 1 rfl <| R.nil ?_
  refine R.reg rfl <| R.u 1 rfl <| R.q (q.len' (fun _ => Wd.old s_a) rfl Tryz.underlying27) rfl <| R.u 1 rfl <| R.q (q.len' (fun _ => Wd.old s_b) rfl Tryz.underlying27) rfl <| ?_
  by_cases h1 : a.length = b.length
  · refine R.q (q.neq rfl rfl (bne_eq_false_iff_eq.2 (by omega))) rfl <| R.nil ?_
    refine R.condF rfl rfl ?_
    refine R.reg rfl <| R.u 1 rfl <| R.nil ?_
    refine R.loop (fun k : Nat => [(0, v_a), (1, v_b), (5, .int .i64 (k : Int))]) (fun k : Nat => []) (fun k : Nat => []) (fun k : Nat => k ≤ a.length ∧ ∀ j, j < k → a[j]? = b[j]?) (fun k : Nat => a.length - k) 0 rfl (by exact ⟨by omega, fun j hj => absurd hj (Nat.not_lt_zero _)⟩) ⟨rfl, rfl, rfl, trivial⟩ (fun _ => Wd.pick [] [] rfl rfl rfl) ?_
    rintro k ⟨hk, HA⟩
    refine R.reg rfl <| R.u 2 rfl <| R.q (q.len' (fun _ => Wd.old s_a) rfl Tryz.underlying27) rfl <| ?_
    by_cases h2 : k < a.length
    · refine R.q (q.lss rfl rfl (decide_eq_true (by omega))) rfl <| R.nil ?_
      refine R.condT rfl rfl ?_
      obtain ⟨x1, hx1⟩ : ∃ z, a[k]? = some z := ⟨_, List.getElem?_eq_getElem (by omega)⟩
      obtain ⟨x2, hx2⟩ : ∃ z, b[k]? = some z := ⟨_, List.getElem?_eq_getElem (by omega)⟩
      by_cases h3 : x1 = x2
      · refine R.regQ rfl mixed (by kernel_rfl) <| Q.u 2 rfl <| Q.q (q.idx (i := k) (fun _ => Wd.old s_a) rfl rfl tSl_27 rfl hx1) rfl <| Q.q (q.ldES (ds := [.int .i64 x1.Place.Holder, .int .i64 x1.Place.Slot, .int .i64 x1.Writ]) (fun _ => Wd.old s_a) hx1 rfl tAgg_93 rfl) rfl <| Q.u 2 rfl <| Q.q (q.idx (i := k) (fun _ => Wd.old s_b) rfl rfl tSl_27 rfl hx2) rfl <| Q.q (q.ldES (ds := [.int .i64 x2.Place.Holder, .int .i64 x2.Place.Slot, .int .i64 x2.Writ]) (fun _ => Wd.old s_b) hx2 rfl tAgg_93 rfl) rfl <| Q.q (q.neqT1 (x := x1) (y := x2) eq_93 rfl rfl h3) rfl <| Q.nil ?_
        refine R.condF rfl rfl ?_
        refine R.reg rfl <| R.u 1 rfl <| R.q (q.add (r := ((k + 1 : Nat) : Int)) rfl rfl (wr (by omega))) rfl <| R.u 1 rfl <| R.nil ?_
        refine R.back (k + 1) rfl (by (exact ⟨by omega, same_step HA hx1 hx2 (by assumption)⟩)) (by omega) ⟨rfl, rfl, rfl, trivial⟩ (fun _ => Wd.pick [] [] rfl rfl rfl)
      · refine R.regQ rfl mixed (by kernel_rfl) <| Q.u 2 rfl <| Q.q (q.idx (i := k) (fun _ => Wd.old s_a) rfl rfl tSl_27 rfl hx1) rfl <| Q.q (q.ldES (ds := [.int .i64 x1.Place.Holder, .int .i64 x1.Place.Slot, .int .i64 x1.Writ]) (fun _ => Wd.old s_a) hx1 rfl tAgg_93 rfl) rfl <| Q.u 2 rfl <| Q.q (q.idx (i := k) (fun _ => Wd.old s_b) rfl rfl tSl_27 rfl hx2) rfl <| Q.q (q.ldES (ds := [.int .i64 x2.Place.Holder, .int .i64 x2.Place.Slot, .int .i64 x2.Writ]) (fun _ => Wd.old s_b) hx2 rfl tAgg_93 rfl) rfl <| Q.q (q.neqT0 (x := x1) (y := x2) eq_93 rfl rfl h3) rfl <| Q.nil ?_
        refine R.condT rfl rfl ?_
        refine R.reg rfl <| R.u 1 rfl <| R.nil ?_
        exact R.rv rfl Tryz.results39 rfl (rB (by (first | exact same_len (by assumption) | exact same_all (by assumption) (by assumption) HA | exact same_hit hx1 hx2 (by assumption))))
    · refine R.q (q.lss rfl rfl (decide_eq_false (by omega))) rfl <| R.nil ?_
      refine R.condF rfl rfl ?_
      refine R.reg rfl <| R.u 1 rfl <| R.nil ?_
      exact R.rv rfl Tryz.results39 rfl (rB (by (first | exact same_len (by assumption) | exact same_all (by assumption) (by assumption) HA | exact same_hit hx1 hx2 (by assumption))))
  · refine R.q (q.neq rfl rfl (bne_iff_ne.2 (by omega))) rfl <| R.nil ?_
    refine R.condT rfl rfl ?_
    refine R.reg rfl <| R.u 1 rfl <| R.nil ?_
    exact R.rv rfl Tryz.results39 rfl (rB (by (first | exact same_len (by assumption) | exact same_all (by assumption) (by assumption) HA | exact same_hit hx1 hx2 (by assumption))))

end Go.Proofs.YtpipachmngdegaaGreat
end
