/-
  The walk of the law of chapter 8.
-/
import Derived.Test.YtgmnmibejamneaaRowW
import Derived.Test.YtgmnmibejamneaaRowGood
import Derived.Test.YtgmnmibejamneaaLight
namespace Go.Proofs.Ytgmnmibejamneaa
open Go Go.RowKit
set_option linter.unusedVariables false
set_option linter.unusedSimpArgs false
set_option maxRecDepth 100000

theorem lightC_any (v_l : Value) (l : List Change) (most : Int) (w : World) (s_l : Sl w v_l l) : Calls Try.prog 46 #[v_l, .int .i64 most] w fun e w' => e = .returned (.bool (lightC l most)) ∧ Ext w w' := by
  have b_l := s_l.lenle
  refine R.enter (n := 32) (vs := [v_l, .int .i64 most]) [] [(0, v_l), (1, .int .i64 most)] Try.func46 rfl rfl rfl rfl ?_
  refine R.oldL s_l ?_
  refine R.reg rfl <| R.u 1 rfl <| R.nil ?_
  refine R.reg rfl <| R.u 1 rfl <| R.q (q.len' (fun _ => Wd.fls 0 rfl) rfl Try.underlying49) rfl <| R.u 1 rfl <| ?_
  by_cases h1 : most < (l.length : Int)
  · refine R.q (q.gtr rfl rfl (decide_eq_true (by omega))) rfl <| R.nil ?_
    refine R.condT rfl rfl ?_
    refine R.reg rfl <| R.u 1 rfl <| R.nil ?_
    exact R.rv rfl Try.results46 rfl (rB (by (unfold lightC; first | (rw [decide_eq_false (by omega)]; rfl) | (rw [decide_eq_true (by omega), all_up (by omega) HA]; rfl) | (rw [all_hit hx1 (show lightC1 _ = false from by unfold lightC1; simp; omega)]; simp) | (rw [all_hit hx1 (show lightC1 _ = false from by unfold lightC1; simp_all)]; simp))))
  · refine R.q (q.gtr rfl rfl (decide_eq_false (by omega))) rfl <| R.nil ?_
    refine R.condF rfl rfl ?_
    refine R.reg rfl <| R.u 1 rfl <| R.nil ?_
    refine R.loop (fun k : Nat => [(0, v_l), (5, .int .i64 (k : Int))]) (fun k : Nat => []) (fun k : Nat => [Res.ls v_l (l : List Change)]) (fun k : Nat => k ≤ l.length ∧ (l.take k).all lightC1 = true) (fun k : Nat => l.length - k) 0 rfl (by exact ⟨by omega, rfl⟩) ⟨rfl, rfl, trivial⟩ (fun _ => Wd.pick [] [0] rfl rfl rfl) ?_
    rintro k ⟨hk, HA⟩
    refine R.reg rfl <| R.u 2 rfl <| R.q (q.len' (fun _ => Wd.fls 0 rfl) rfl Try.underlying49) rfl <| ?_
    by_cases h2 : k < l.length
    · refine R.q (q.lss rfl rfl (decide_eq_true (by omega))) rfl <| R.nil ?_
      refine R.condT rfl rfl ?_
      refine R.reg rfl <| R.u 2 rfl <| ?_
      obtain ⟨x1, hx1⟩ : ∃ z, l[k]? = some z := ⟨_, List.getElem?_eq_getElem (by omega)⟩
      refine R.q (q.idx (i := k) (fun _ => Wd.fls 0 rfl) rfl rfl tSl_49 rfl hx1) rfl <| R.q (q.fldE (j' := 0) (fun _ => Wd.fls 0 rfl) hx1 rfl tFld_75_0 rfl) rfl <| R.q (q.ldE (fun _ => Wd.fls 0 rfl) hx1 rfl tOne_9 rfl) rfl <| R.q (q.lenS rfl Try.underlying9) rfl <| ?_
      by_cases h3 : 20 < x1.Key.size
      · refine R.q (q.gtr rfl rfl (decide_eq_true (by omega))) rfl <| R.u 9 rfl <| R.nil ?_
        refine R.condT rfl rfl ?_
        refine R.reg rfl <| R.u 1 rfl <| R.nil ?_
        exact R.rv rfl Try.results46 rfl (rB (by (unfold lightC; first | (rw [decide_eq_false (by omega)]; rfl) | (rw [decide_eq_true (by omega), all_up (by omega) HA]; rfl) | (rw [all_hit hx1 (show lightC1 _ = false from by unfold lightC1; simp; omega)]; simp) | (rw [all_hit hx1 (show lightC1 _ = false from by unfold lightC1; simp_all)]; simp))))
      · refine R.q (q.gtr rfl rfl (decide_eq_false (by omega))) rfl <| R.u 3 rfl <| R.qg rfl (q.idx (i := k) (fun _ => Wd.fls 0 rfl) rfl rfl tSl_49 rfl hx1) rfl <| R.qg rfl (q.fldE (j' := 1) (fun _ => Wd.fls 0 rfl) hx1 rfl tFld_75_1 rfl) rfl <| R.qg rfl (q.ldE (fun _ => Wd.fls 0 rfl) hx1 rfl tOne_9 rfl) rfl <| R.qg rfl (q.lenS rfl Try.underlying9) rfl <| ?_
        by_cases h4 : 40 < x1.Val.size
        · refine R.qg rfl (q.gtr rfl rfl (decide_eq_true (by omega))) rfl <| R.u 1 rfl <| R.nil ?_
          refine R.condT rfl rfl ?_
          refine R.reg rfl <| R.u 1 rfl <| R.nil ?_
          exact R.rv rfl Try.results46 rfl (rB (by (unfold lightC; first | (rw [decide_eq_false (by omega)]; rfl) | (rw [decide_eq_true (by omega), all_up (by omega) HA]; rfl) | (rw [all_hit hx1 (show lightC1 _ = false from by unfold lightC1; simp; omega)]; simp) | (rw [all_hit hx1 (show lightC1 _ = false from by unfold lightC1; simp_all)]; simp))))
        · refine R.qg rfl (q.gtr rfl rfl (decide_eq_false (by omega))) rfl <| R.u 1 rfl <| R.nil ?_
          refine R.condF rfl rfl ?_
          refine R.reg rfl <| R.u 1 rfl <| R.q (q.add (r := ((k + 1 : Nat) : Int)) rfl rfl (wr (by omega))) rfl <| R.u 1 rfl <| R.nil ?_
          refine R.back (k + 1) rfl (by (exact ⟨by omega, all_snoc hx1 HA (by unfold lightC1; simp_all)⟩)) (by omega) ⟨rfl, rfl, trivial⟩ (fun _ => Wd.pik [] [0] rfl rfl rfl)
    · refine R.q (q.lss rfl rfl (decide_eq_false (by omega))) rfl <| R.nil ?_
      refine R.condF rfl rfl ?_
      refine R.reg rfl <| R.u 1 rfl <| R.nil ?_
      exact R.rv rfl Try.results46 rfl (rB (by (unfold lightC; first | (rw [decide_eq_false (by omega)]; rfl) | (rw [decide_eq_true (by omega), all_up (by omega) HA]; rfl) | (rw [all_hit hx1 (show lightC1 _ = false from by unfold lightC1; simp; omega)]; simp) | (rw [all_hit hx1 (show lightC1 _ = false from by unfold lightC1; simp_all)]; simp))))

theorem same_any (err : Int) (f : Int) (w : World) (h0 : 0 ≤ err) : Calls Try.prog 16 #[errv err, .int .i64 f] w fun e w' => e = .returned (.bool (decide (err = f))) ∧ Ext w w' := by
  refine R.enter (n := 26) (vs := [errv err, .int .i64 f]) [] [(0, errv err), (1, .int .i64 f)] Try.func16 rfl rfl rfl rfl ?_
  refine R.reg rfl <| R.u 1 rfl <| R.nil ?_
  refine R.reg rfl <| R.u 1 rfl <| ?_
  by_cases h1 : err = 0
  · refine R.q (q.eqlE0 rfl rfl Try.underlying26 (by omega)) rfl <| R.nil ?_
    refine R.condT rfl rfl ?_
    refine R.reg rfl <| R.u 1 rfl <| ?_
    by_cases h2 : f = 0
    · refine R.q (q.eql rfl rfl (beq_iff_eq.2 (by omega))) rfl <| R.u 1 rfl <| R.nil ?_
      exact R.rv rfl Try.results16 rfl (rB (by (first | exact (decide_eq_true (by omega)).symm | exact (decide_eq_false (by omega)).symm)))
    · refine R.q (q.eql rfl rfl (beq_eq_false_iff_ne.2 (by omega))) rfl <| R.u 1 rfl <| R.nil ?_
      exact R.rv rfl Try.results16 rfl (rB (by (first | exact (decide_eq_true (by omega)).symm | exact (decide_eq_false (by omega)).symm)))
  · refine R.q (q.eqlE1 rfl rfl Try.underlying26 (by omega)) rfl <| R.nil ?_
    refine R.condF rfl rfl ?_
    refine R.reg rfl <| R.u 1 rfl <| R.q (q.tasE rfl (by omega) Try.underlying119) rfl <| R.u 5 rfl <| R.nil ?_
    refine R.reg rfl <| R.u 3 rfl <| ?_
    by_cases h3 : 0 < f
    · refine R.qg rfl (q.gtr rfl rfl (decide_eq_true (by omega))) rfl <| R.u 4 rfl <| ?_
      by_cases h4 : err = f
      · refine R.qg rfl (q.eql rfl rfl (beq_iff_eq.2 (by omega))) rfl <| R.u 2 rfl <| R.nil ?_
        exact R.rv rfl Try.results16 rfl (rB (by (first | exact (decide_eq_true (by omega)).symm | exact (decide_eq_false (by omega)).symm)))
      · refine R.qg rfl (q.eql rfl rfl (beq_eq_false_iff_ne.2 (by omega))) rfl <| R.u 2 rfl <| R.nil ?_
        exact R.rv rfl Try.results16 rfl (rB (by (first | exact (decide_eq_true (by omega)).symm | exact (decide_eq_false (by omega)).symm)))
    · refine R.qg rfl (q.gtr rfl rfl (decide_eq_false (by omega))) rfl <| R.u 7 rfl <| R.nil ?_
      exact R.rv rfl Try.results16 rfl (rB (by (first | exact (decide_eq_true (by omega)).symm | exact (decide_eq_false (by omega)).symm)))

theorem goodRows_any (v_l : Value) (l : List Change) (w : World) (s_l : Sl w v_l l) : Calls Try.prog 53 #[v_l] w fun e w' => e = .returned (.bool (goodC l)) ∧ Ext w w' := by
  have b_l := s_l.lenle
  refine R.enter (n := 41) (vs := [v_l]) [] [(0, v_l)] Try.func53 rfl rfl rfl rfl ?_
  refine R.reg rfl <| R.u 1 rfl <| R.nil ?_
  refine R.reg rfl <| R.u 1 rfl <| R.nil ?_
  refine R.loop (fun k : Nat => [(0, v_l), (3, .int .i64 (k : Int))]) (fun k : Nat => []) (fun k : Nat => []) (fun k : Nat => k ≤ l.length ∧ ∀ j, j < k → goodAt l j = true) (fun k : Nat => l.length - k) 0 rfl (by exact ⟨by omega, fun j hj => absurd hj (Nat.not_lt_zero _)⟩) ⟨rfl, rfl, trivial⟩ (fun _ => Wd.pick [] [] rfl rfl rfl) ?_
  rintro k ⟨hk, HA⟩
  refine R.reg rfl <| R.u 2 rfl <| R.q (q.len' (fun _ => Wd.old s_l) rfl Try.underlying49) rfl <| ?_
  by_cases h1 : k < l.length
  · refine R.q (q.lss rfl rfl (decide_eq_true (by omega))) rfl <| R.nil ?_
    refine R.condT rfl rfl ?_
    obtain ⟨x1, hx1⟩ : ∃ z, l[k]? = some z := ⟨_, List.getElem?_eq_getElem (by omega)⟩
    have fx1 := chF_023 x1
    by_cases h2 : 0 < chF x1
    · refine R.regQ rfl mixed (by kernel_rfl) <| Q.u 2 rfl <| Q.q (q.idx (i := k) (fun _ => Wd.old s_l) rfl rfl tSl_49 rfl hx1) rfl <| Q.q (q.ldES (ds := [.string x1.Key, .string x1.Val, .bool x1.Gone]) (fun _ => Wd.old s_l) hx1 rfl tAgg_75 rfl) rfl <| Q.c (q.call eg_52 rfl rfl (fun w hw => (changeFault_any (x1) w  ))) rfl <| Q.q (q.gtr rfl rfl (decide_eq_true (by omega))) rfl <| Q.u 25 rfl <| Q.nil ?_
      refine R.condT rfl rfl ?_
      refine R.reg rfl <| R.u 1 rfl <| R.nil ?_
      exact R.rv rfl Try.results53 rfl (rB (by (first | exact (goodC_no hx1 (at_fault hx1 (by omega))).symm | exact (goodC_no hx1 (at_gone hx1 (by assumption))).symm | exact (goodC_no hx1 (at_leq hx1 rfl (by omega) (by assumption))).symm)))
    · rcases Bool.eq_false_or_eq_true (x1.Gone) with h3 | h3
      · refine R.regQ rfl mixed (by kernel_rfl) <| Q.u 2 rfl <| Q.q (q.idx (i := k) (fun _ => Wd.old s_l) rfl rfl tSl_49 rfl hx1) rfl <| Q.q (q.ldES (ds := [.string x1.Key, .string x1.Val, .bool x1.Gone]) (fun _ => Wd.old s_l) hx1 rfl tAgg_75 rfl) rfl <| Q.c (q.call eg_52 rfl rfl (fun w hw => (changeFault_any (x1) w  ))) rfl <| Q.q (q.gtr rfl rfl (decide_eq_false (by omega))) rfl <| Q.u 3 rfl <| Q.qg rfl (q.idx (i := k) (fun _ => Wd.old s_l) rfl rfl tSl_49 rfl hx1) rfl <| Q.qg rfl (q.fldE (j' := 2) (fun _ => Wd.old s_l) hx1 rfl tFld_75_2 rfl) rfl <| Q.qg rfl (q.cvb (congrArg Value.bool h3) (q.ldE (fun _ => Wd.old s_l) hx1 rfl tOne_4 rfl)) rfl <| Q.u 19 rfl <| Q.nil ?_
        refine R.condT rfl rfl ?_
        refine R.reg rfl <| R.u 1 rfl <| R.nil ?_
        exact R.rv rfl Try.results53 rfl (rB (by (first | exact (goodC_no hx1 (at_fault hx1 (by omega))).symm | exact (goodC_no hx1 (at_gone hx1 (by assumption))).symm | exact (goodC_no hx1 (at_leq hx1 rfl (by omega) (by assumption))).symm)))
      · by_cases h4 : 0 < k
        · obtain ⟨x2, hx2⟩ : ∃ z, l[(k - 1)]? = some z := ⟨_, List.getElem?_eq_getElem (by omega)⟩
          have fx2 := chF_023 x2
          rcases Bool.eq_false_or_eq_true ((ltS x1.Key x2.Key || decide (x1.Key = x2.Key))) with h5 | h5
          · refine R.regQ rfl mixed (by kernel_rfl) <| Q.u 2 rfl <| Q.q (q.idx (i := k) (fun _ => Wd.old s_l) rfl rfl tSl_49 rfl hx1) rfl <| Q.q (q.ldES (ds := [.string x1.Key, .string x1.Val, .bool x1.Gone]) (fun _ => Wd.old s_l) hx1 rfl tAgg_75 rfl) rfl <| Q.c (q.call eg_52 rfl rfl (fun w hw => (changeFault_any (x1) w  ))) rfl <| Q.q (q.gtr rfl rfl (decide_eq_false (by omega))) rfl <| Q.u 3 rfl <| Q.qg rfl (q.idx (i := k) (fun _ => Wd.old s_l) rfl rfl tSl_49 rfl hx1) rfl <| Q.qg rfl (q.fldE (j' := 2) (fun _ => Wd.old s_l) hx1 rfl tFld_75_2 rfl) rfl <| Q.qg rfl (q.cvb (congrArg Value.bool h3) (q.ldE (fun _ => Wd.old s_l) hx1 rfl tOne_4 rfl)) rfl <| Q.u 3 rfl <| Q.qg rfl (q.gtr rfl rfl (decide_eq_true (by omega))) rfl <| Q.u 3 rfl <| Q.qg rfl (q.idx (i := k) (fun _ => Wd.old s_l) rfl rfl tSl_49 rfl hx1) rfl <| Q.qg rfl (q.fldE (j' := 0) (fun _ => Wd.old s_l) hx1 rfl tFld_75_0 rfl) rfl <| Q.qg rfl (q.ldE (fun _ => Wd.old s_l) hx1 rfl tOne_9 rfl) rfl <| Q.u 2 rfl <| Q.qg rfl (q.sub (r := ((k - 1 : Nat) : Int)) rfl rfl (wr (by omega))) rfl <| Q.qg rfl (q.idx (i := (k - 1)) (fun _ => Wd.old s_l) rfl rfl tSl_49 rfl hx2) rfl <| Q.qg rfl (q.fldE (j' := 0) (fun _ => Wd.old s_l) hx2 rfl tFld_75_0 rfl) rfl <| Q.qg rfl (q.ldE (fun _ => Wd.old s_l) hx2 rfl tOne_9 rfl) rfl <| Q.qg rfl (q.leqS rfl rfl h5) rfl <| Q.u 2 rfl <| Q.nil ?_
            refine R.condT rfl rfl ?_
            refine R.reg rfl <| R.u 1 rfl <| R.nil ?_
            exact R.rv rfl Try.results53 rfl (rB (by (first | exact (goodC_no hx1 (at_fault hx1 (by omega))).symm | exact (goodC_no hx1 (at_gone hx1 (by assumption))).symm | exact (goodC_no hx1 (at_leq hx1 hx2 (by omega) (by assumption))).symm)))
          · refine R.regQ rfl mixed (by kernel_rfl) <| Q.u 2 rfl <| Q.q (q.idx (i := k) (fun _ => Wd.old s_l) rfl rfl tSl_49 rfl hx1) rfl <| Q.q (q.ldES (ds := [.string x1.Key, .string x1.Val, .bool x1.Gone]) (fun _ => Wd.old s_l) hx1 rfl tAgg_75 rfl) rfl <| Q.c (q.call eg_52 rfl rfl (fun w hw => (changeFault_any (x1) w  ))) rfl <| Q.q (q.gtr rfl rfl (decide_eq_false (by omega))) rfl <| Q.u 3 rfl <| Q.qg rfl (q.idx (i := k) (fun _ => Wd.old s_l) rfl rfl tSl_49 rfl hx1) rfl <| Q.qg rfl (q.fldE (j' := 2) (fun _ => Wd.old s_l) hx1 rfl tFld_75_2 rfl) rfl <| Q.qg rfl (q.cvb (congrArg Value.bool h3) (q.ldE (fun _ => Wd.old s_l) hx1 rfl tOne_4 rfl)) rfl <| Q.u 3 rfl <| Q.qg rfl (q.gtr rfl rfl (decide_eq_true (by omega))) rfl <| Q.u 3 rfl <| Q.qg rfl (q.idx (i := k) (fun _ => Wd.old s_l) rfl rfl tSl_49 rfl hx1) rfl <| Q.qg rfl (q.fldE (j' := 0) (fun _ => Wd.old s_l) hx1 rfl tFld_75_0 rfl) rfl <| Q.qg rfl (q.ldE (fun _ => Wd.old s_l) hx1 rfl tOne_9 rfl) rfl <| Q.u 2 rfl <| Q.qg rfl (q.sub (r := ((k - 1 : Nat) : Int)) rfl rfl (wr (by omega))) rfl <| Q.qg rfl (q.idx (i := (k - 1)) (fun _ => Wd.old s_l) rfl rfl tSl_49 rfl hx2) rfl <| Q.qg rfl (q.fldE (j' := 0) (fun _ => Wd.old s_l) hx2 rfl tFld_75_0 rfl) rfl <| Q.qg rfl (q.ldE (fun _ => Wd.old s_l) hx2 rfl tOne_9 rfl) rfl <| Q.qg rfl (q.leqS rfl rfl h5) rfl <| Q.u 2 rfl <| Q.nil ?_
            refine R.condF rfl rfl ?_
            refine R.reg rfl <| R.u 1 rfl <| R.q (q.add (r := ((k + 1 : Nat) : Int)) rfl rfl (wr (by omega))) rfl <| R.u 1 rfl <| R.nil ?_
            refine R.back (k + 1) rfl (by (first | exact ⟨by omega, good_next HA (at_yes0 hx1 (by omega) (by omega) (by assumption))⟩ | exact ⟨by omega, good_next HA (at_yes hx1 hx2 (by omega) (by assumption) (by assumption))⟩)) (by omega) ⟨rfl, rfl, trivial⟩ (fun _ => Wd.pick [] [] rfl rfl rfl)
        · refine R.regQ rfl mixed (by kernel_rfl) <| Q.u 2 rfl <| Q.q (q.idx (i := k) (fun _ => Wd.old s_l) rfl rfl tSl_49 rfl hx1) rfl <| Q.q (q.ldES (ds := [.string x1.Key, .string x1.Val, .bool x1.Gone]) (fun _ => Wd.old s_l) hx1 rfl tAgg_75 rfl) rfl <| Q.c (q.call eg_52 rfl rfl (fun w hw => (changeFault_any (x1) w  ))) rfl <| Q.q (q.gtr rfl rfl (decide_eq_false (by omega))) rfl <| Q.u 3 rfl <| Q.qg rfl (q.idx (i := k) (fun _ => Wd.old s_l) rfl rfl tSl_49 rfl hx1) rfl <| Q.qg rfl (q.fldE (j' := 2) (fun _ => Wd.old s_l) hx1 rfl tFld_75_2 rfl) rfl <| Q.qg rfl (q.cvb (congrArg Value.bool h3) (q.ldE (fun _ => Wd.old s_l) hx1 rfl tOne_4 rfl)) rfl <| Q.u 3 rfl <| Q.qg rfl (q.gtr rfl rfl (decide_eq_false (by omega))) rfl <| Q.u 15 rfl <| Q.nil ?_
          refine R.condF rfl rfl ?_
          refine R.reg rfl <| R.u 1 rfl <| R.q (q.add (r := ((k + 1 : Nat) : Int)) rfl rfl (wr (by omega))) rfl <| R.u 1 rfl <| R.nil ?_
          refine R.back (k + 1) rfl (by (first | exact ⟨by omega, good_next HA (at_yes0 hx1 (by omega) (by omega) (by assumption))⟩ | exact ⟨by omega, good_next HA (at_yes hx1 rfl (by omega) (by assumption) (by assumption))⟩)) (by omega) ⟨rfl, rfl, trivial⟩ (fun _ => Wd.pick [] [] rfl rfl rfl)
  · refine R.q (q.lss rfl rfl (decide_eq_false (by omega))) rfl <| R.nil ?_
    refine R.condF rfl rfl ?_
    refine R.reg rfl <| R.u 1 rfl <| R.nil ?_
    exact R.rv rfl Try.results53 rfl (rB (by (exact (goodC_yes fun j hj => HA j (by omega)).symm)))

theorem rows_1 : (chB (⟨⟨#[107]⟩, ⟨#[120]⟩, false⟩ : Change)).2 = 0 := by decide +kernel
theorem rows_2 : (chB (⟨⟨#[107]⟩, ⟨#[120]⟩, false⟩ : Change)).1 = ⟨#[0, 1, 107, 120]⟩ := by decide +kernel

theorem rowsLaw_any  (w : World)  : Calls Try.prog 45 #[] w fun e w' => e = .returned (.bool true) ∧ Ext w w' := by
  have k1 := rows_1; have k2 := rows_2; have k3 : decide ((chB (⟨⟨#[107]⟩, ⟨#[120]⟩, false⟩ : Change)).2 = 0) = true := decide_eq_true k1
  refine R.enter (n := 14) (vs := []) [] [] Try.func45 rfl rfl rfl rfl ?_
  refine R.reg rfl <| R.u 1 rfl <| R.nil ?_
  refine R.reg rfl <| R.q (q.build (cs := [.string (⟨#[107]⟩), .string (⟨#[120]⟩), .bool false]) tB_75 rfl rfl) rfl <| R.c (q.call eg_47 rfl rfl (fun w hw => (rowBytes_any ((⟨⟨#[107]⟩, ⟨#[120]⟩, false⟩ : Change)) w  ))) rfl <| R.u 5 rfl <| R.nil ?_
  refine R.reg rfl <| R.u 1 rfl <| R.c (q.call eg_16 rfl rfl (fun w hw => (cv (congrArg Value.bool k3) (same_any ((chB (⟨⟨#[107]⟩, ⟨#[120]⟩, false⟩ : Change)).2) (0) w  (by first | omega | decide | (have := chF_023 c; omega) | assumption))))) rfl <| R.u 2 rfl <| R.qg rfl (q.eqlS1 rfl rfl ‹_›) rfl <| R.u 2 rfl <| R.nil ?_
  exact R.rv rfl Try.results45 rfl (rB (by (rfl)))

set_option maxRecDepth 100000 in
theorem rowSays_any (v_l : Value) (l : List Change) (v_cs : Value) (cs : List Change) (c : Change) (sb : ByteArray) (w : World) (s_l : Sl w v_l l) (s_cs : Sl w v_cs cs) : Calls Try.prog 6 #[v_l, v_cs, .agg #[.string c.Key, .string c.Val, .bool c.Gone], .string sb] w fun e w' => e = .returned (.bool true) ∧ Ext w w' := by
  have b_l := s_l.lenle
  have b_cs := s_cs.lenle
  have e0 : decide (chF c = chF c) = true := decide_eq_true rfl; have e1 : decide ((chB c).2 = (chB c).2) = true := decide_eq_true rfl; have e2 : decide ((chP sb).2 = (chP sb).2) = true := decide_eq_true rfl; have e3 : (chB c).1 = (chB c).1 := rfl; have e4 : (chP sb).1 = (chP sb).1 := rfl; have f0 := chF_023 c; have f1 := chB_nonneg c; have f2 := chP_04 sb
  refine R.enter (n := 116) (vs := [v_l, v_cs, .agg #[.string c.Key, .string c.Val, .bool c.Gone], .string sb]) [] [(0, v_l), (1, v_cs), (2, .agg #[.string c.Key, .string c.Val, .bool c.Gone]), (3, .string sb)] Try.func6 rfl rfl rfl rfl ?_
  refine R.oldL s_l ?_
  refine R.oldL s_cs ?_
  refine R.reg rfl <| ?_
  refine R.s rfl (s.box (cs := [.string c.Key, .string c.Val, .bool c.Gone]) rfl rfl rfl) fun b1 => ?_
  refine R.u 1 rfl <| R.nil ?_
  refine R.reg rfl <| R.c (q.call eg_45 rfl rfl (fun w hw => (rowsLaw_any  w  ))) rfl <| R.u 1 rfl <| R.nil ?_
  refine R.reg rfl <| R.u 4 rfl <| ?_
  rcases Bool.eq_false_or_eq_true (lightC l 70) with h1 | h1
  · refine R.cg rfl (q.call eg_46 rfl rfl (fun w hw => (cv (congrArg Value.bool h1) (lightC_any _ (l) (70) w ((fun _ => Wd.fls 1 rfl) w hw) )))) rfl <| R.u 4 rfl <| ?_
    rcases Bool.eq_false_or_eq_true (lightC cs 20) with h2 | h2
    · refine R.cg rfl (q.call eg_46 rfl rfl (fun w hw => (cv (congrArg Value.bool h2) (lightC_any _ (cs) (20) w ((fun _ => Wd.fls 0 rfl) w hw) )))) rfl <| R.u 3 rfl <| R.qg rfl (q.ldS 0 rfl rfl tAgg_75) rfl <| ?_
      refine R.s rfl (s.bs (l := ([c] : List Change)) tSl_49 tZero_75 rfl rfl rfl rfl rfl rfl rfl) fun b2 => ?_
      rcases Bool.eq_false_or_eq_true (lightC ([c]) 1) with h3 | h3
      · refine R.cg rfl (q.call eg_46 rfl rfl (fun w hw => (cv (congrArg Value.bool h3) (lightC_any _ ([c]) (1) w ((fun _ => Wd.row 0 rfl) w hw) )))) rfl <| R.u 4 rfl <| R.qg rfl (q.lenS rfl Try.underlying9) rfl <| ?_
        by_cases h4 : 200 < sb.size
        · refine R.qg rfl (q.gtr rfl rfl (decide_eq_true (by omega))) rfl <| R.u 1 rfl <| R.nil ?_
          refine R.condT rfl rfl ?_
          refine R.reg rfl <| R.u 2 rfl <| R.nil ?_
          exact R.rv rfl Try.results6 rfl (rB (by (first | rfl | assumption)))
        · refine R.qg rfl (q.gtr rfl rfl (decide_eq_false (by omega))) rfl <| R.u 1 rfl <| R.nil ?_
          refine R.condF rfl rfl ?_
          refine R.reg rfl <| R.q (q.ldS 1 rfl rfl tAgg_75) rfl <| R.c (q.call eg_47 rfl rfl (fun w hw => (rowBytes_any (c) w  ))) rfl <| R.u 5 rfl <| R.nil ?_
          refine R.reg rfl <| R.q (q.ldS 1 rfl rfl tAgg_75) rfl <| R.c (q.call eg_48 rfl rfl (fun w hw => (changeBytes_any (c) w  ))) rfl <| R.u 5 rfl <| R.nil ?_
          refine R.reg rfl <| R.u 1 rfl <| R.c (q.call eg_49 rfl rfl (fun w hw => (rowParse_any (sb) w  (by omega)))) rfl <| R.u 3 rfl <| ?_
          refine R.s rfl (s.alloc (cs := [.string (⟨#[]⟩), .string (⟨#[]⟩), .bool false]) tZero_75 rfl rfl) fun b3 => ?_
          refine R.s rfl (s.st (us := [.string (((chP sb).1).Key), .string (((chP sb).1).Val), .bool (((chP sb).1).Gone)]) (cs' := [.string (((chP sb).1).Key), .string (((chP sb).1).Val), .bool (((chP sb).1).Gone)]) 0 _ rfl rfl rfl rfl (.inl tAgg_75) rfl rfl rfl rfl) fun _ => ?_
          refine R.u 1 rfl <| R.nil ?_
          refine R.reg rfl <| R.u 1 rfl <| R.c (q.call eg_50 rfl rfl (fun w hw => (changeOf_any (sb) w  (by omega)))) rfl <| R.u 3 rfl <| ?_
          refine R.s rfl (s.alloc (cs := [.string (⟨#[]⟩), .string (⟨#[]⟩), .bool false]) tZero_75 rfl rfl) fun b4 => ?_
          refine R.s rfl (s.st (us := [.string (((chP sb).1).Key), .string (((chP sb).1).Val), .bool (((chP sb).1).Gone)]) (cs' := [.string (((chP sb).1).Key), .string (((chP sb).1).Val), .bool (((chP sb).1).Gone)]) 0 _ rfl rfl rfl rfl (.inl tAgg_75) rfl rfl rfl rfl) fun _ => ?_
          refine R.u 1 rfl <| R.nil ?_
          refine R.regQ rfl mixed (by kernel_rfl) <| Q.q (q.ldS 3 rfl rfl tAgg_75) rfl <| Q.c (q.call eg_51 rfl rfl (fun w hw => (rowCheck_any (c) w  ))) rfl <| Q.q (q.ldS 3 rfl rfl tAgg_75) rfl <| Q.c (q.call eg_52 rfl rfl (fun w hw => (changeFault_any (c) w  ))) rfl <| Q.c (q.call eg_16 rfl rfl (fun w hw => (cv (congrArg Value.bool e0) (same_any (chF c) (chF c) w  (by first | omega | decide | (have := chF_023 c; omega) | assumption))))) rfl <| Q.u 4 rfl <| Q.qg rfl (q.neqS1 rfl rfl ‹_›) rfl <| Q.u 2 rfl <| Q.qg rfl (q.ldS 1 rfl rfl tAgg_75) rfl <| Q.qg rfl (q.ldS 0 rfl rfl tAgg_75) rfl <| Q.qg rfl (q.neqT1 (x := ((chP sb).1)) (y := ((chP sb).1)) eq_75 rfl rfl ‹_›) rfl <| Q.u 4 rfl <| Q.cg rfl (q.call eg_16 rfl rfl (fun w hw => (cv (congrArg Value.bool e1) (same_any ((chB c).2) ((chB c).2) w  (by first | omega | decide | (have := chF_023 c; omega) | assumption))))) rfl <| Q.u 5 rfl <| Q.cg rfl (q.call eg_16 rfl rfl (fun w hw => (cv (congrArg Value.bool e2) (same_any ((chP sb).2) ((chP sb).2) w  (by first | omega | decide | (have := chF_023 c; omega) | assumption))))) rfl <| Q.u 2 rfl <| Q.nil ?_
          refine R.condF rfl rfl ?_
          have g1 := lightC_len (l := l) (m := 70) (by assumption); have g2 := lightC_len (l := cs) (m := 20) (by assumption)
          refine R.reg rfl <| R.u 1 rfl <| R.nil ?_
          refine R.loop (fun k : Nat => [(0, v_l), (1, v_cs), (18, .int .i64 (k : Int))]) (fun k : Nat => [Res.box b4 [.string (((chP sb).1).Key), .string (((chP sb).1).Val), .bool (((chP sb).1).Gone)] 75, Res.box b3 [.string (((chP sb).1).Key), .string (((chP sb).1).Val), .bool (((chP sb).1).Gone)] 75, Res.row 75 (.slice (some ⟨b2, 0, none⟩) 1 1) ([c] : List Change), Res.box b1 [.string c.Key, .string c.Val, .bool c.Gone] 75]) (fun k : Nat => [Res.ls v_cs (cs : List Change), Res.ls v_l (l : List Change)]) (fun k : Nat => k ≤ cs.length) (fun k : Nat => cs.length - k) 0 rfl (by omega) ⟨rfl, rfl, rfl, trivial⟩ (fun _ => Wd.pick [0, 1, 2, 3] [0, 1] rfl rfl rfl) ?_
          rintro k hk
          refine R.reg rfl <| R.u 2 rfl <| R.q (q.len' (fun _ => Wd.fls 0 rfl) rfl Try.underlying49) rfl <| ?_
          by_cases h5 : k < cs.length
          · refine R.q (q.lss rfl rfl (decide_eq_true (by omega))) rfl <| R.nil ?_
            refine R.condT rfl rfl ?_
            refine R.reg rfl <| R.u 2 rfl <| ?_
            obtain ⟨x1, hx1⟩ : ∃ z, cs[k]? = some z := ⟨_, List.getElem?_eq_getElem (by omega)⟩
            refine R.q (q.idx (i := k) (fun _ => Wd.fls 0 rfl) rfl rfl tSl_49 rfl hx1) rfl <| R.q (q.ldES (ds := [.string x1.Key, .string x1.Val, .bool x1.Gone]) (fun _ => Wd.fls 0 rfl) hx1 rfl tAgg_75 rfl) rfl <| R.c (q.call eg_52 rfl rfl (fun w hw => (changeFault_any (x1) w  ))) rfl <| ?_
            by_cases h6 : 0 < chF x1
            · refine R.q (q.gtr rfl rfl (decide_eq_true (by omega))) rfl <| R.nil ?_
              refine R.condT rfl rfl ?_
              refine R.reg rfl <| R.u 1 rfl <| R.nil ?_
              exact R.rv rfl Try.results6 rfl (rB (by (first | rfl | assumption)))
            · refine R.q (q.gtr rfl rfl (decide_eq_false (by omega))) rfl <| R.nil ?_
              refine R.condF rfl rfl ?_
              refine R.reg rfl <| R.u 1 rfl <| R.q (q.add (r := ((k + 1 : Nat) : Int)) rfl rfl (wr (by omega))) rfl <| R.u 1 rfl <| R.nil ?_
              refine R.back (k + 1) rfl (by (omega)) (by omega) ⟨rfl, rfl, rfl, trivial⟩ (fun _ => Wd.pik [0, 1, 2, 3] [0, 1] rfl rfl rfl)
          · refine R.q (q.lss rfl rfl (decide_eq_false (by omega))) rfl <| R.nil ?_
            refine R.condF rfl rfl ?_
            refine R.reg rfl <| R.u 1 rfl <| ?_
            rcases Bool.eq_false_or_eq_true (goodC l) with h7 | h7
            · refine R.c (q.call eg_53 rfl rfl (fun w hw => (cv (congrArg Value.bool h7) (goodRows_any _ (l) w ((fun _ => Wd.fls 1 rfl) w hw) )))) rfl <| R.u 4 rfl <| ?_
              refine R.s (B' := (fun bz0_ : Value => [Res.row 75 bz0_ ((applyR l cs) : List Change), Res.box b4 [.string (((chP sb).1).Key), .string (((chP sb).1).Val), .bool (((chP sb).1).Gone)] 75, Res.box b3 [.string (((chP sb).1).Key), .string (((chP sb).1).Val), .bool (((chP sb).1).Gone)] 75, Res.row 75 (.slice (some ⟨b2, 0, none⟩) 1 1) ([c] : List Change), Res.box b1 [.string c.Key, .string c.Val, .bool c.Gone] 75])) (F' := (fun bz0_ : Value => [Res.ls v_cs (cs : List Change), Res.ls v_l (l : List Change)])) rfl (s.callV (B0 := []) (Br := [Res.box b4 [.string (((chP sb).1).Key), .string (((chP sb).1).Val), .bool (((chP sb).1).Gone)] 75, Res.box b3 [.string (((chP sb).1).Key), .string (((chP sb).1).Val), .bool (((chP sb).1).Gone)] 75, Res.row 75 (.slice (some ⟨b2, 0, none⟩) 1 1) ([c] : List Change), Res.box b1 [.string c.Key, .string c.Val, .bool c.Gone] 75]) (F0 := [Res.ls v_l (l : List Change), Res.ls v_cs (cs : List Change)]) [0, 1, 2, 3] [1, 0] (fun bz0_ : Value => bz0_) (fun bz0_ : Value => [Res.row 75 bz0_ ((applyR l cs) : List Change)]) (fun bz0_ : Value => []) rfl rfl rfl eg_55 rfl rfl (fun w own hw H => rowApply_any v_l (l) v_cs (cs) w own H (by first | omega | assumption | (simp; done) | (simp; omega))) rfl) fun z1 => ?_
              refine R.u 2 rfl <| ?_
              refine R.s (B' := (fun bz0_ : Value => [Res.row 75 bz0_ ((appliedR l cs) : List Change), Res.row 75 z1 (applyR l cs : List Change), Res.box b4 [.string (((chP sb).1).Key), .string (((chP sb).1).Val), .bool (((chP sb).1).Gone)] 75, Res.box b3 [.string (((chP sb).1).Key), .string (((chP sb).1).Val), .bool (((chP sb).1).Gone)] 75, Res.row 75 (.slice (some ⟨b2, 0, none⟩) 1 1) ([c] : List Change), Res.box b1 [.string c.Key, .string c.Val, .bool c.Gone] 75])) (F' := (fun bz0_ : Value => [Res.ls v_cs (cs : List Change), Res.ls v_l (l : List Change)])) rfl (s.callV (B0 := []) (Br := [Res.row 75 z1 (applyR l cs : List Change), Res.box b4 [.string (((chP sb).1).Key), .string (((chP sb).1).Val), .bool (((chP sb).1).Gone)] 75, Res.box b3 [.string (((chP sb).1).Key), .string (((chP sb).1).Val), .bool (((chP sb).1).Gone)] 75, Res.row 75 (.slice (some ⟨b2, 0, none⟩) 1 1) ([c] : List Change), Res.box b1 [.string c.Key, .string c.Val, .bool c.Gone] 75]) (F0 := [Res.ls v_l (l : List Change), Res.ls v_cs (cs : List Change)]) [0, 1, 2, 3, 4] [1, 0] (fun bz0_ : Value => bz0_) (fun bz0_ : Value => [Res.row 75 bz0_ ((appliedR l cs) : List Change)]) (fun bz0_ : Value => []) rfl rfl rfl eg_56 rfl rfl (fun w own hw H => applied_any v_l (l) v_cs (cs) w own H (by first | omega | assumption | (simp; done) | (simp; omega))) rfl) fun z2 => ?_
              refine R.cg rfl (q.call eg_54 rfl rfl (fun w hw => (cv (congrArg Value.bool (decide_eq_true (apply_eq cs (goodC_rise (by assumption))))) (sameChanges_any _ (applyR l cs) _ (appliedR l cs) w ((fun _ => Wd.row 1 rfl) w hw) ((fun _ => Wd.row 0 rfl) w hw) )))) rfl <| R.u 2 rfl <| R.nil ?_
              exact R.rv rfl Try.results6 rfl (rB (by (first | rfl | assumption)))
            · refine R.c (q.call eg_53 rfl rfl (fun w hw => (cv (congrArg Value.bool h7) (goodRows_any _ (l) w ((fun _ => Wd.fls 1 rfl) w hw) )))) rfl <| R.u 11 rfl <| R.nil ?_
              exact R.rv rfl Try.results6 rfl (rB (by (first | rfl | assumption)))
      · refine R.cg rfl (q.call eg_46 rfl rfl (fun w hw => (cv (congrArg Value.bool h3) (lightC_any _ ([c]) (1) w ((fun _ => Wd.row 0 rfl) w hw) )))) rfl <| R.u 7 rfl <| R.nil ?_
        refine R.condT rfl rfl ?_
        refine R.reg rfl <| R.u 2 rfl <| R.nil ?_
        exact R.rv rfl Try.results6 rfl (rB (by (first | rfl | assumption)))
    · refine R.cg rfl (q.call eg_46 rfl rfl (fun w hw => (cv (congrArg Value.bool h2) (lightC_any _ (cs) (20) w ((fun _ => Wd.fls 0 rfl) w hw) )))) rfl <| R.u 13 rfl <| R.nil ?_
      refine R.condT rfl rfl ?_
      refine R.reg rfl <| R.u 2 rfl <| R.nil ?_
      exact R.rv rfl Try.results6 rfl (rB (by (first | rfl | assumption)))
  · refine R.cg rfl (q.call eg_46 rfl rfl (fun w hw => (cv (congrArg Value.bool h1) (lightC_any _ (l) (70) w ((fun _ => Wd.fls 1 rfl) w hw) )))) rfl <| R.u 18 rfl <| R.nil ?_
    refine R.condT rfl rfl ?_
    refine R.reg rfl <| R.u 2 rfl <| R.nil ?_
    exact R.rv rfl Try.results6 rfl (rB (by (first | rfl | assumption)))

end Go.Proofs.Ytgmnmibejamneaa
