/-
  The walks of chapters 1 and 2: rights, and writs. The program's and the document's.
-/
import Derived.Test.YtoaneidhfcljmaaEq
import Derived.Test.YtoaneidhfcljmaaWritSpec2
namespace Go.Proofs.Ytoaneidhfcljmaa
open Go Go.RowKit
set_option linter.unusedVariables false
set_option maxRecDepth 100000

theorem rightCheck_any (r : Int) (w : World)  : Calls Try.prog 53 #[.int .i64 r] w fun e w' => e = .returned (errv (rightFault r)) ∧ Ext w w' := by
  refine R.enter (n := 10) (vs := [.int .i64 r]) [] [(0, .int .i64 r)] Try.func53 rfl rfl rfl rfl ?_
  refine R.reg rfl <| R.u 1 rfl <| R.nil ?_
  refine R.reg rfl <| R.u 1 rfl <| ?_
  by_cases h1 : r < 0
  · refine R.q (q.lss rfl rfl (decide_eq_true (by omega))) rfl <| R.u 4 rfl <| R.nil ?_
    refine R.condT rfl rfl ?_
    refine R.reg rfl <| R.q (q.iface rfl con_62) rfl <| R.u 1 rfl <| R.nil ?_
    exact R.rv rfl Try.results53 rfl (errk (by decide) (by (first | exact rightFault_bad (by omega) | exact rightFault_ok (by omega) (by omega))))
  · refine R.q (q.lss rfl rfl (decide_eq_false (by omega))) rfl <| R.u 2 rfl <| ?_
    by_cases h2 : 7 < r
    · refine R.qg rfl (q.gtr rfl rfl (decide_eq_true (by omega))) rfl <| R.u 1 rfl <| R.nil ?_
      refine R.condT rfl rfl ?_
      refine R.reg rfl <| R.q (q.iface rfl con_62) rfl <| R.u 1 rfl <| R.nil ?_
      exact R.rv rfl Try.results53 rfl (errk (by decide) (by (first | exact rightFault_bad (by omega) | exact rightFault_ok (by omega) (by omega))))
    · refine R.qg rfl (q.gtr rfl rfl (decide_eq_false (by omega))) rfl <| R.u 1 rfl <| R.nil ?_
      refine R.condF rfl rfl ?_
      refine R.reg rfl <| R.u 1 rfl <| R.nil ?_
      exact R.rv rfl Try.results53 rfl (err0 (by (first | exact rightFault_bad (by omega) | exact rightFault_ok (by omega) (by omega))))

theorem rightHas_any (r : Int) (n : Int) (w : World) (r0 : 0 ≤ r ∧ r ≤ 7) (n0 : 0 ≤ n ∧ n ≤ 7) : Calls Try.prog 13 #[.int .i64 r, .int .i64 n] w fun e w' => e = .returned (.bool (hasR r n)) ∧ Ext w w' := by
  refine R.enter (n := 10) (vs := [.int .i64 r, .int .i64 n]) [] [(0, .int .i64 r), (1, .int .i64 n)] Try.func13 rfl rfl rfl rfl ?_
  refine R.reg rfl <| R.u 1 rfl <| R.nil ?_
  refine R.reg rfl <| R.u 2 rfl <| R.q (q.and rfl rfl rfl) rfl <| R.u 1 rfl <| ?_
  by_cases h1 : (bits .and .i64 r n) = n
  · refine R.q (q.eql rfl rfl (beq_iff_eq.2 (by omega))) rfl <| R.u 1 rfl <| R.nil ?_
    exact R.rv rfl Try.results13 rfl (rB (by (exact has_and r0.1 r0.2 n0.1 n0.2 (by first | exact beq_iff_eq.2 (by assumption) | exact beq_eq_false_iff_ne.2 (by assumption)))))
  · refine R.q (q.eql rfl rfl (beq_eq_false_iff_ne.2 (by omega))) rfl <| R.u 1 rfl <| R.nil ?_
    exact R.rv rfl Try.results13 rfl (rB (by (exact has_and r0.1 r0.2 n0.1 n0.2 (by first | exact beq_iff_eq.2 (by assumption) | exact beq_eq_false_iff_ne.2 (by assumption)))))

theorem writCheck_any (x : Writ) (w : World)  : Calls Try.prog 31 #[.agg #[.int .i64 x.ID, .int .i64 x.Thing, .int .i64 x.Rights, .int .i64 x.Badge, .int .i64 x.From]] w fun e w' => e = .returned (errv (writFault x)) ∧ Ext w w' := by
  refine R.enter (n := 47) (vs := [.agg #[.int .i64 x.ID, .int .i64 x.Thing, .int .i64 x.Rights, .int .i64 x.Badge, .int .i64 x.From]]) [] [(0, .agg #[.int .i64 x.ID, .int .i64 x.Thing, .int .i64 x.Rights, .int .i64 x.Badge, .int .i64 x.From])] Try.func31 rfl rfl rfl rfl ?_
  refine R.reg rfl <| ?_
  refine R.s rfl (s.box (cs := [.int .i64 x.ID, .int .i64 x.Thing, .int .i64 x.Rights, .int .i64 x.Badge, .int .i64 x.From]) rfl rfl rfl) fun b1 => ?_
  refine R.u 1 rfl <| R.nil ?_
  refine R.reg rfl <| R.q (q.fld (off' := 0) rfl tFld_35_0 rfl) rfl <| R.q (q.ld 0 rfl rfl tOne_3 rfl) rfl <| ?_
  by_cases h1 : x.ID < 1
  · refine R.q (q.lss rfl rfl (decide_eq_true (by omega))) rfl <| R.u 37 rfl <| R.nil ?_
    refine R.condT rfl rfl ?_
    refine R.reg rfl <| R.q (q.iface rfl con_62) rfl <| R.u 1 rfl <| R.nil ?_
    exact R.rv rfl Try.results31 rfl (errk (by decide) (by (first | exact writFault_bad (by omega) | exact (writFault_last (by omega)).symm)))
  · refine R.q (q.lss rfl rfl (decide_eq_false (by omega))) rfl <| R.u 1 rfl <| R.qg rfl (q.fld (off' := 0) rfl tFld_35_0 rfl) rfl <| R.qg rfl (q.ld 0 rfl rfl tOne_3 rfl) rfl <| ?_
    by_cases h2 : 999 < x.ID
    · refine R.qg rfl (q.gtr rfl rfl (decide_eq_true (by omega))) rfl <| R.u 33 rfl <| R.nil ?_
      refine R.condT rfl rfl ?_
      refine R.reg rfl <| R.q (q.iface rfl con_62) rfl <| R.u 1 rfl <| R.nil ?_
      exact R.rv rfl Try.results31 rfl (errk (by decide) (by (first | exact writFault_bad (by omega) | exact (writFault_last (by omega)).symm)))
    · refine R.qg rfl (q.gtr rfl rfl (decide_eq_false (by omega))) rfl <| R.u 2 rfl <| R.qg rfl (q.fld (off' := 1) rfl tFld_35_1 rfl) rfl <| R.qg rfl (q.ld 0 rfl rfl tOne_3 rfl) rfl <| ?_
      by_cases h3 : x.Thing < 1
      · refine R.qg rfl (q.lss rfl rfl (decide_eq_true (by omega))) rfl <| R.u 28 rfl <| R.nil ?_
        refine R.condT rfl rfl ?_
        refine R.reg rfl <| R.q (q.iface rfl con_62) rfl <| R.u 1 rfl <| R.nil ?_
        exact R.rv rfl Try.results31 rfl (errk (by decide) (by (first | exact writFault_bad (by omega) | exact (writFault_last (by omega)).symm)))
      · refine R.qg rfl (q.lss rfl rfl (decide_eq_false (by omega))) rfl <| R.u 2 rfl <| R.qg rfl (q.fld (off' := 1) rfl tFld_35_1 rfl) rfl <| R.qg rfl (q.ld 0 rfl rfl tOne_3 rfl) rfl <| ?_
        by_cases h4 : 999 < x.Thing
        · refine R.qg rfl (q.gtr rfl rfl (decide_eq_true (by omega))) rfl <| R.u 23 rfl <| R.nil ?_
          refine R.condT rfl rfl ?_
          refine R.reg rfl <| R.q (q.iface rfl con_62) rfl <| R.u 1 rfl <| R.nil ?_
          exact R.rv rfl Try.results31 rfl (errk (by decide) (by (first | exact writFault_bad (by omega) | exact (writFault_last (by omega)).symm)))
        · refine R.qg rfl (q.gtr rfl rfl (decide_eq_false (by omega))) rfl <| R.u 2 rfl <| R.qg rfl (q.fld (off' := 3) rfl tFld_35_3 rfl) rfl <| R.qg rfl (q.ld 0 rfl rfl tOne_3 rfl) rfl <| ?_
          by_cases h5 : x.Badge < 0
          · refine R.qg rfl (q.lss rfl rfl (decide_eq_true (by omega))) rfl <| R.u 18 rfl <| R.nil ?_
            refine R.condT rfl rfl ?_
            refine R.reg rfl <| R.q (q.iface rfl con_62) rfl <| R.u 1 rfl <| R.nil ?_
            exact R.rv rfl Try.results31 rfl (errk (by decide) (by (first | exact writFault_bad (by omega) | exact (writFault_last (by omega)).symm)))
          · refine R.qg rfl (q.lss rfl rfl (decide_eq_false (by omega))) rfl <| R.u 2 rfl <| R.qg rfl (q.fld (off' := 3) rfl tFld_35_3 rfl) rfl <| R.qg rfl (q.ld 0 rfl rfl tOne_3 rfl) rfl <| ?_
            by_cases h6 : 99 < x.Badge
            · refine R.qg rfl (q.gtr rfl rfl (decide_eq_true (by omega))) rfl <| R.u 13 rfl <| R.nil ?_
              refine R.condT rfl rfl ?_
              refine R.reg rfl <| R.q (q.iface rfl con_62) rfl <| R.u 1 rfl <| R.nil ?_
              exact R.rv rfl Try.results31 rfl (errk (by decide) (by (first | exact writFault_bad (by omega) | exact (writFault_last (by omega)).symm)))
            · refine R.qg rfl (q.gtr rfl rfl (decide_eq_false (by omega))) rfl <| R.u 2 rfl <| R.qg rfl (q.fld (off' := 4) rfl tFld_35_4 rfl) rfl <| R.qg rfl (q.ld 0 rfl rfl tOne_3 rfl) rfl <| ?_
              by_cases h7 : x.From < 0
              · refine R.qg rfl (q.lss rfl rfl (decide_eq_true (by omega))) rfl <| R.u 8 rfl <| R.nil ?_
                refine R.condT rfl rfl ?_
                refine R.reg rfl <| R.q (q.iface rfl con_62) rfl <| R.u 1 rfl <| R.nil ?_
                exact R.rv rfl Try.results31 rfl (errk (by decide) (by (first | exact writFault_bad (by omega) | exact (writFault_last (by omega)).symm)))
              · refine R.qg rfl (q.lss rfl rfl (decide_eq_false (by omega))) rfl <| R.u 2 rfl <| R.qg rfl (q.fld (off' := 4) rfl tFld_35_4 rfl) rfl <| R.qg rfl (q.ld 0 rfl rfl tOne_3 rfl) rfl <| R.qg rfl (q.fld (off' := 0) rfl tFld_35_0 rfl) rfl <| R.qg rfl (q.ld 0 rfl rfl tOne_3 rfl) rfl <| ?_
                by_cases h8 : x.From < x.ID
                · refine R.qg rfl (q.geq rfl rfl (decide_eq_false (by omega))) rfl <| R.u 1 rfl <| R.nil ?_
                  refine R.condF rfl rfl ?_
                  refine R.reg rfl <| R.q (q.fld (off' := 2) rfl tFld_35_2 rfl) rfl <| R.q (q.ld 0 rfl rfl tOne_3 rfl) rfl <| R.c (q.call eg_53 rfl rfl (fun w hw => (rightCheck_any (x.Rights) w  ))) rfl <| R.u 1 rfl <| R.nil ?_
                  exact R.rv rfl Try.results31 rfl (rE (by (first | exact writFault_bad (by omega) | exact (writFault_last (by omega)).symm)))
                · refine R.qg rfl (q.geq rfl rfl (decide_eq_true (by omega))) rfl <| R.u 1 rfl <| R.nil ?_
                  refine R.condT rfl rfl ?_
                  refine R.reg rfl <| R.q (q.iface rfl con_62) rfl <| R.u 1 rfl <| R.nil ?_
                  exact R.rv rfl Try.results31 rfl (errk (by decide) (by (first | exact writFault_bad (by omega) | exact (writFault_last (by omega)).symm)))

theorem derive_any (x : Writ) (id : Int) (r : Int) (b : Int) (w : World) (x0 : 0 ≤ x.Rights ∧ x.Rights ≤ 7) : Calls Try.prog 32 #[.agg #[.int .i64 x.ID, .int .i64 x.Thing, .int .i64 x.Rights, .int .i64 x.Badge, .int .i64 x.From], .int .i64 id, .int .i64 r, .int .i64 b] w fun e w' => e = .returned (.tuple #[Writ.val ((derived x id r b).1), errv ((derived x id r b).2)]) ∧ Ext w w' := by
  refine R.enter (n := 63) (vs := [.agg #[.int .i64 x.ID, .int .i64 x.Thing, .int .i64 x.Rights, .int .i64 x.Badge, .int .i64 x.From], .int .i64 id, .int .i64 r, .int .i64 b]) [] [(0, .agg #[.int .i64 x.ID, .int .i64 x.Thing, .int .i64 x.Rights, .int .i64 x.Badge, .int .i64 x.From]), (1, .int .i64 id), (2, .int .i64 r), (3, .int .i64 b)] Try.func32 rfl rfl rfl rfl ?_
  refine R.reg rfl <| ?_
  refine R.s rfl (s.box (cs := [.int .i64 x.ID, .int .i64 x.Thing, .int .i64 x.Rights, .int .i64 x.Badge, .int .i64 x.From]) rfl rfl rfl) fun b1 => ?_
  refine R.s rfl (s.alloc (cs := [.int .i64 0, .int .i64 0, .int .i64 0, .int .i64 0, .int .i64 0]) tZero_35 rfl rfl) fun b2 => ?_
  refine R.u 1 rfl <| R.nil ?_
  refine R.reg rfl <| R.u 1 rfl <| R.c (q.call eg_53 rfl rfl (fun w hw => (rightCheck_any (r) w  ))) rfl <| R.u 1 rfl <| R.nil ?_
  refine R.reg rfl <| R.u 1 rfl <| ?_
  by_cases h1 : rightFault r = 0
  · refine R.q (q.neqE0 rfl rfl Try.underlying37 (by omega)) rfl <| R.u 1 rfl <| R.nil ?_
    refine R.condF rfl rfl ?_
    have hr := rightFault_zero (by assumption)
    refine R.reg rfl <| R.u 1 rfl <| ?_
    by_cases h2 : b < 0
    · refine R.q (q.lss rfl rfl (decide_eq_true (by omega))) rfl <| R.u 5 rfl <| R.nil ?_
      refine R.condT rfl rfl ?_
      refine R.reg rfl <| R.q (q.build (cs := [.int .i64 0, .int .i64 0, .int .i64 0, .int .i64 0, .int .i64 0]) tB_35 rfl rfl) rfl <| R.q (q.iface rfl con_62) rfl <| ?_
      refine R.s rfl (s.st (us := [.int .i64 0, .int .i64 0, .int .i64 0, .int .i64 0, .int .i64 0]) (cs' := [.int .i64 0, .int .i64 0, .int .i64 0, .int .i64 0, .int .i64 0]) 0 _ rfl rfl rfl rfl (.inl tAgg_35) rfl rfl rfl rfl) fun _ => ?_
      refine R.u 1 rfl <| R.nil ?_
      exact R.rr2 rfl Try.results32 (RV.cell 0 rfl rfl tAgg_35) (RV.tmp rfl) (congrArg Writ.val (show (⟨0, 0, 0, 0, 0⟩ : Writ) = (derived x id r b).1 from by ((first | (rw [derived_w1 (by assumption)]) | (rw [derived_b (by omega)]) | (rw [derived_w3 (by omega) (by assumption)]) | (rw [derived_w4 (by omega) (by assumption) (by omega)]) | (rw [derived_w7 (by omega) (by assumption) (by omega) (by omega)]) | (rw [derived_w6 (by omega) (by assumption) (by omega) (by omega)]) | (rw [derived_w5 (by omega) (by assumption) (by omega)])) <;> first | rfl | exact rightFault_one (by assumption) | (simp; omega)))) (errk (by decide) (by ((first | (rw [derived_w1 (by assumption)]) | (rw [derived_b (by omega)]) | (rw [derived_w3 (by omega) (by assumption)]) | (rw [derived_w4 (by omega) (by assumption) (by omega)]) | (rw [derived_w7 (by omega) (by assumption) (by omega) (by omega)]) | (rw [derived_w6 (by omega) (by assumption) (by omega) (by omega)]) | (rw [derived_w5 (by omega) (by assumption) (by omega)])) <;> first | rfl | exact rightFault_one (by assumption) | (simp; omega))))
    · refine R.q (q.lss rfl rfl (decide_eq_false (by omega))) rfl <| R.u 2 rfl <| ?_
      by_cases h3 : 99 < b
      · refine R.qg rfl (q.gtr rfl rfl (decide_eq_true (by omega))) rfl <| R.u 2 rfl <| R.nil ?_
        refine R.condT rfl rfl ?_
        refine R.reg rfl <| R.q (q.build (cs := [.int .i64 0, .int .i64 0, .int .i64 0, .int .i64 0, .int .i64 0]) tB_35 rfl rfl) rfl <| R.q (q.iface rfl con_62) rfl <| ?_
        refine R.s rfl (s.st (us := [.int .i64 0, .int .i64 0, .int .i64 0, .int .i64 0, .int .i64 0]) (cs' := [.int .i64 0, .int .i64 0, .int .i64 0, .int .i64 0, .int .i64 0]) 0 _ rfl rfl rfl rfl (.inl tAgg_35) rfl rfl rfl rfl) fun _ => ?_
        refine R.u 1 rfl <| R.nil ?_
        exact R.rr2 rfl Try.results32 (RV.cell 0 rfl rfl tAgg_35) (RV.tmp rfl) (congrArg Writ.val (show (⟨0, 0, 0, 0, 0⟩ : Writ) = (derived x id r b).1 from by ((first | (rw [derived_w1 (by assumption)]) | (rw [derived_b (by omega)]) | (rw [derived_w3 (by omega) (by assumption)]) | (rw [derived_w4 (by omega) (by assumption) (by omega)]) | (rw [derived_w7 (by omega) (by assumption) (by omega) (by omega)]) | (rw [derived_w6 (by omega) (by assumption) (by omega) (by omega)]) | (rw [derived_w5 (by omega) (by assumption) (by omega)])) <;> first | rfl | exact rightFault_one (by assumption) | (simp; omega)))) (errk (by decide) (by ((first | (rw [derived_w1 (by assumption)]) | (rw [derived_b (by omega)]) | (rw [derived_w3 (by omega) (by assumption)]) | (rw [derived_w4 (by omega) (by assumption) (by omega)]) | (rw [derived_w7 (by omega) (by assumption) (by omega) (by omega)]) | (rw [derived_w6 (by omega) (by assumption) (by omega) (by omega)]) | (rw [derived_w5 (by omega) (by assumption) (by omega)])) <;> first | rfl | exact rightFault_one (by assumption) | (simp; omega))))
      · refine R.qg rfl (q.gtr rfl rfl (decide_eq_false (by omega))) rfl <| R.u 2 rfl <| R.nil ?_
        refine R.condF rfl rfl ?_
        refine R.reg rfl <| R.q (q.fld (off' := 2) rfl tFld_35_2 rfl) rfl <| R.q (q.ld 1 rfl rfl tOne_3 rfl) rfl <| R.u 1 rfl <| ?_
        rcases Bool.eq_false_or_eq_true (hasR x.Rights r) with h4 | h4
        · refine R.c (q.call eg_13 rfl rfl (fun w hw => (cv (congrArg Value.bool h4) (rightHas_any (x.Rights) (r) w  (by omega) (by omega))))) rfl <| R.u 2 rfl <| R.nil ?_
          refine R.condF rfl rfl ?_
          refine R.reg rfl <| R.u 1 rfl <| ?_
          by_cases h5 : b = 0
          · refine R.q (q.neq rfl rfl (bne_eq_false_iff_eq.2 (by omega))) rfl <| R.u 12 rfl <| R.nil ?_
            refine R.condF rfl rfl ?_
            refine R.reg rfl <| R.u 1 rfl <| R.q (q.eql rfl rfl (beq_iff_eq.2 (by omega))) rfl <| R.nil ?_
            refine R.condT rfl rfl ?_
            refine R.reg rfl <| R.q (q.fld (off' := 3) rfl tFld_35_3 rfl) rfl <| R.q (q.ld 1 rfl rfl tOne_3 rfl) rfl <| R.u 1 rfl <| R.nil ?_
            refine R.reg rfl <| R.u 1 rfl <| R.q (q.fld (off' := 1) rfl tFld_35_1 rfl) rfl <| R.q (q.ld 1 rfl rfl tOne_3 rfl) rfl <| R.u 2 rfl <| R.q (q.fld (off' := 0) rfl tFld_35_0 rfl) rfl <| R.q (q.ld 1 rfl rfl tOne_3 rfl) rfl <| R.q (q.build (cs := [.int .i64 id, .int .i64 x.Thing, .int .i64 r, .int .i64 x.Badge, .int .i64 x.ID]) tB_35 rfl rfl) rfl <| ?_
            refine R.s rfl (s.st (us := [.int .i64 id, .int .i64 x.Thing, .int .i64 r, .int .i64 x.Badge, .int .i64 x.ID]) (cs' := [.int .i64 id, .int .i64 x.Thing, .int .i64 r, .int .i64 x.Badge, .int .i64 x.ID]) 0 _ rfl rfl rfl rfl (.inl tAgg_35) rfl rfl rfl rfl) fun _ => ?_
            refine R.u 1 rfl <| R.nil ?_
            exact R.rr2 rfl Try.results32 (RV.cell 0 rfl rfl tAgg_35) (RV.tmp rfl) (congrArg Writ.val (show (⟨id, x.Thing, r, x.Badge, x.ID⟩ : Writ) = (derived x id r b).1 from by ((first | (rw [derived_w1 (by assumption)]) | (rw [derived_b (by omega)]) | (rw [derived_w3 (by omega) (by assumption)]) | (rw [derived_w4 (by omega) (by assumption) (by omega)]) | (rw [derived_w7 (by omega) (by assumption) (by omega) (by omega)]) | (rw [derived_w6 (by omega) (by assumption) (by omega) (by omega)]) | (rw [derived_w5 (by omega) (by assumption) (by omega)])) <;> first | rfl | exact rightFault_one (by assumption) | (simp; omega)))) (err0 (by ((first | (rw [derived_w1 (by assumption)]) | (rw [derived_b (by omega)]) | (rw [derived_w3 (by omega) (by assumption)]) | (rw [derived_w4 (by omega) (by assumption) (by omega)]) | (rw [derived_w7 (by omega) (by assumption) (by omega) (by omega)]) | (rw [derived_w6 (by omega) (by assumption) (by omega) (by omega)]) | (rw [derived_w5 (by omega) (by assumption) (by omega)])) <;> first | rfl | exact rightFault_one (by assumption) | (simp; omega))))
          · refine R.q (q.neq rfl rfl (bne_iff_ne.2 (by omega))) rfl <| R.u 1 rfl <| R.qg rfl (q.fld (off' := 3) rfl tFld_35_3 rfl) rfl <| R.qg rfl (q.ld 1 rfl rfl tOne_3 rfl) rfl <| ?_
            by_cases h6 : x.Badge = 0
            · refine R.qg rfl (q.neq rfl rfl (bne_eq_false_iff_eq.2 (by omega))) rfl <| R.u 8 rfl <| R.nil ?_
              refine R.condF rfl rfl ?_
              refine R.reg rfl <| R.u 1 rfl <| R.q (q.eql rfl rfl (beq_eq_false_iff_ne.2 (by omega))) rfl <| R.nil ?_
              refine R.condF rfl rfl ?_
              refine R.reg rfl <| R.u 1 rfl <| R.q (q.fld (off' := 1) rfl tFld_35_1 rfl) rfl <| R.q (q.ld 1 rfl rfl tOne_3 rfl) rfl <| R.u 2 rfl <| R.q (q.fld (off' := 0) rfl tFld_35_0 rfl) rfl <| R.q (q.ld 1 rfl rfl tOne_3 rfl) rfl <| R.q (q.build (cs := [.int .i64 id, .int .i64 x.Thing, .int .i64 r, .int .i64 b, .int .i64 x.ID]) tB_35 rfl rfl) rfl <| ?_
              refine R.s rfl (s.st (us := [.int .i64 id, .int .i64 x.Thing, .int .i64 r, .int .i64 b, .int .i64 x.ID]) (cs' := [.int .i64 id, .int .i64 x.Thing, .int .i64 r, .int .i64 b, .int .i64 x.ID]) 0 _ rfl rfl rfl rfl (.inl tAgg_35) rfl rfl rfl rfl) fun _ => ?_
              refine R.u 1 rfl <| R.nil ?_
              exact R.rr2 rfl Try.results32 (RV.cell 0 rfl rfl tAgg_35) (RV.tmp rfl) (congrArg Writ.val (show (⟨id, x.Thing, r, b, x.ID⟩ : Writ) = (derived x id r b).1 from by ((first | (rw [derived_w1 (by assumption)]) | (rw [derived_b (by omega)]) | (rw [derived_w3 (by omega) (by assumption)]) | (rw [derived_w4 (by omega) (by assumption) (by omega)]) | (rw [derived_w7 (by omega) (by assumption) (by omega) (by omega)]) | (rw [derived_w6 (by omega) (by assumption) (by omega) (by omega)]) | (rw [derived_w5 (by omega) (by assumption) (by omega)])) <;> first | rfl | exact rightFault_one (by assumption) | (simp; omega)))) (err0 (by ((first | (rw [derived_w1 (by assumption)]) | (rw [derived_b (by omega)]) | (rw [derived_w3 (by omega) (by assumption)]) | (rw [derived_w4 (by omega) (by assumption) (by omega)]) | (rw [derived_w7 (by omega) (by assumption) (by omega) (by omega)]) | (rw [derived_w6 (by omega) (by assumption) (by omega) (by omega)]) | (rw [derived_w5 (by omega) (by assumption) (by omega)])) <;> first | rfl | exact rightFault_one (by assumption) | (simp; omega))))
            · refine R.qg rfl (q.neq rfl rfl (bne_iff_ne.2 (by omega))) rfl <| R.u 3 rfl <| R.qg rfl (q.fld (off' := 3) rfl tFld_35_3 rfl) rfl <| R.qg rfl (q.ld 1 rfl rfl tOne_3 rfl) rfl <| ?_
              by_cases h7 : b = x.Badge
              · refine R.qg rfl (q.neq rfl rfl (bne_eq_false_iff_eq.2 (by omega))) rfl <| R.u 2 rfl <| R.nil ?_
                refine R.condF rfl rfl ?_
                refine R.reg rfl <| R.u 1 rfl <| R.q (q.eql rfl rfl (beq_eq_false_iff_ne.2 (by omega))) rfl <| R.nil ?_
                refine R.condF rfl rfl ?_
                refine R.reg rfl <| R.u 1 rfl <| R.q (q.fld (off' := 1) rfl tFld_35_1 rfl) rfl <| R.q (q.ld 1 rfl rfl tOne_3 rfl) rfl <| R.u 2 rfl <| R.q (q.fld (off' := 0) rfl tFld_35_0 rfl) rfl <| R.q (q.ld 1 rfl rfl tOne_3 rfl) rfl <| R.q (q.build (cs := [.int .i64 id, .int .i64 x.Thing, .int .i64 r, .int .i64 b, .int .i64 x.ID]) tB_35 rfl rfl) rfl <| ?_
                refine R.s rfl (s.st (us := [.int .i64 id, .int .i64 x.Thing, .int .i64 r, .int .i64 b, .int .i64 x.ID]) (cs' := [.int .i64 id, .int .i64 x.Thing, .int .i64 r, .int .i64 b, .int .i64 x.ID]) 0 _ rfl rfl rfl rfl (.inl tAgg_35) rfl rfl rfl rfl) fun _ => ?_
                refine R.u 1 rfl <| R.nil ?_
                exact R.rr2 rfl Try.results32 (RV.cell 0 rfl rfl tAgg_35) (RV.tmp rfl) (congrArg Writ.val (show (⟨id, x.Thing, r, b, x.ID⟩ : Writ) = (derived x id r b).1 from by ((first | (rw [derived_w1 (by assumption)]) | (rw [derived_b (by omega)]) | (rw [derived_w3 (by omega) (by assumption)]) | (rw [derived_w4 (by omega) (by assumption) (by omega)]) | (rw [derived_w7 (by omega) (by assumption) (by omega) (by omega)]) | (rw [derived_w6 (by omega) (by assumption) (by omega) (by omega)]) | (rw [derived_w5 (by omega) (by assumption) (by omega)])) <;> first | rfl | exact rightFault_one (by assumption) | (simp; omega)))) (err0 (by ((first | (rw [derived_w1 (by assumption)]) | (rw [derived_b (by omega)]) | (rw [derived_w3 (by omega) (by assumption)]) | (rw [derived_w4 (by omega) (by assumption) (by omega)]) | (rw [derived_w7 (by omega) (by assumption) (by omega) (by omega)]) | (rw [derived_w6 (by omega) (by assumption) (by omega) (by omega)]) | (rw [derived_w5 (by omega) (by assumption) (by omega)])) <;> first | rfl | exact rightFault_one (by assumption) | (simp; omega))))
              · refine R.qg rfl (q.neq rfl rfl (bne_iff_ne.2 (by omega))) rfl <| R.u 2 rfl <| R.nil ?_
                refine R.condT rfl rfl ?_
                refine R.reg rfl <| R.q (q.build (cs := [.int .i64 0, .int .i64 0, .int .i64 0, .int .i64 0, .int .i64 0]) tB_35 rfl rfl) rfl <| R.q (q.iface rfl con_62) rfl <| ?_
                refine R.s rfl (s.st (us := [.int .i64 0, .int .i64 0, .int .i64 0, .int .i64 0, .int .i64 0]) (cs' := [.int .i64 0, .int .i64 0, .int .i64 0, .int .i64 0, .int .i64 0]) 0 _ rfl rfl rfl rfl (.inl tAgg_35) rfl rfl rfl rfl) fun _ => ?_
                refine R.u 1 rfl <| R.nil ?_
                exact R.rr2 rfl Try.results32 (RV.cell 0 rfl rfl tAgg_35) (RV.tmp rfl) (congrArg Writ.val (show (⟨0, 0, 0, 0, 0⟩ : Writ) = (derived x id r b).1 from by ((first | (rw [derived_w1 (by assumption)]) | (rw [derived_b (by omega)]) | (rw [derived_w3 (by omega) (by assumption)]) | (rw [derived_w4 (by omega) (by assumption) (by omega)]) | (rw [derived_w7 (by omega) (by assumption) (by omega) (by omega)]) | (rw [derived_w6 (by omega) (by assumption) (by omega) (by omega)]) | (rw [derived_w5 (by omega) (by assumption) (by omega)])) <;> first | rfl | exact rightFault_one (by assumption) | (simp; omega)))) (errk (by decide) (by ((first | (rw [derived_w1 (by assumption)]) | (rw [derived_b (by omega)]) | (rw [derived_w3 (by omega) (by assumption)]) | (rw [derived_w4 (by omega) (by assumption) (by omega)]) | (rw [derived_w7 (by omega) (by assumption) (by omega) (by omega)]) | (rw [derived_w6 (by omega) (by assumption) (by omega) (by omega)]) | (rw [derived_w5 (by omega) (by assumption) (by omega)])) <;> first | rfl | exact rightFault_one (by assumption) | (simp; omega))))
        · refine R.c (q.call eg_13 rfl rfl (fun w hw => (cv (congrArg Value.bool h4) (rightHas_any (x.Rights) (r) w  (by omega) (by omega))))) rfl <| R.u 2 rfl <| R.nil ?_
          refine R.condT rfl rfl ?_
          refine R.reg rfl <| R.q (q.build (cs := [.int .i64 0, .int .i64 0, .int .i64 0, .int .i64 0, .int .i64 0]) tB_35 rfl rfl) rfl <| R.q (q.iface rfl con_62) rfl <| ?_
          refine R.s rfl (s.st (us := [.int .i64 0, .int .i64 0, .int .i64 0, .int .i64 0, .int .i64 0]) (cs' := [.int .i64 0, .int .i64 0, .int .i64 0, .int .i64 0, .int .i64 0]) 0 _ rfl rfl rfl rfl (.inl tAgg_35) rfl rfl rfl rfl) fun _ => ?_
          refine R.u 1 rfl <| R.nil ?_
          exact R.rr2 rfl Try.results32 (RV.cell 0 rfl rfl tAgg_35) (RV.tmp rfl) (congrArg Writ.val (show (⟨0, 0, 0, 0, 0⟩ : Writ) = (derived x id r b).1 from by ((first | (rw [derived_w1 (by assumption)]) | (rw [derived_b (by omega)]) | (rw [derived_w3 (by omega) (by assumption)]) | (rw [derived_w4 (by omega) (by assumption) (by omega)]) | (rw [derived_w7 (by omega) (by assumption) (by omega) (by omega)]) | (rw [derived_w6 (by omega) (by assumption) (by omega) (by omega)]) | (rw [derived_w5 (by omega) (by assumption) (by omega)])) <;> first | rfl | exact rightFault_one (by assumption) | (simp; omega)))) (errk (by decide) (by ((first | (rw [derived_w1 (by assumption)]) | (rw [derived_b (by omega)]) | (rw [derived_w3 (by omega) (by assumption)]) | (rw [derived_w4 (by omega) (by assumption) (by omega)]) | (rw [derived_w7 (by omega) (by assumption) (by omega) (by omega)]) | (rw [derived_w6 (by omega) (by assumption) (by omega) (by omega)]) | (rw [derived_w5 (by omega) (by assumption) (by omega)])) <;> first | rfl | exact rightFault_one (by assumption) | (simp; omega))))
  · refine R.q (q.neqE1 rfl rfl Try.underlying37 (by omega)) rfl <| R.u 1 rfl <| R.nil ?_
    refine R.condT rfl rfl ?_
    refine R.reg rfl <| R.q (q.build (cs := [.int .i64 0, .int .i64 0, .int .i64 0, .int .i64 0, .int .i64 0]) tB_35 rfl rfl) rfl <| R.u 1 rfl <| ?_
    refine R.s rfl (s.st (us := [.int .i64 0, .int .i64 0, .int .i64 0, .int .i64 0, .int .i64 0]) (cs' := [.int .i64 0, .int .i64 0, .int .i64 0, .int .i64 0, .int .i64 0]) 0 _ rfl rfl rfl rfl (.inl tAgg_35) rfl rfl rfl rfl) fun _ => ?_
    refine R.u 1 rfl <| R.nil ?_
    exact R.rr2 rfl Try.results32 (RV.cell 0 rfl rfl tAgg_35) (RV.tmp rfl) (congrArg Writ.val (show (⟨0, 0, 0, 0, 0⟩ : Writ) = (derived x id r b).1 from by ((first | (rw [derived_w1 (by assumption)]) | (rw [derived_b (by omega)]) | (rw [derived_w3 (by omega) (by assumption)]) | (rw [derived_w4 (by omega) (by assumption) (by omega)]) | (rw [derived_w7 (by omega) (by assumption) (by omega) (by omega)]) | (rw [derived_w6 (by omega) (by assumption) (by omega) (by omega)]) | (rw [derived_w5 (by omega) (by assumption) (by omega)])) <;> first | rfl | exact rightFault_one (by assumption) | (simp; omega)))) (rE (by ((first | (rw [derived_w1 (by assumption)]) | (rw [derived_b (by omega)]) | (rw [derived_w3 (by omega) (by assumption)]) | (rw [derived_w4 (by omega) (by assumption) (by omega)]) | (rw [derived_w7 (by omega) (by assumption) (by omega) (by omega)]) | (rw [derived_w6 (by omega) (by assumption) (by omega) (by omega)]) | (rw [derived_w5 (by omega) (by assumption) (by omega)])) <;> first | rfl | exact rightFault_one (by assumption) | (simp; omega))))

theorem findLit_any (x : Writ) (id : Int) (b_id : Nat) (w : World) (k_id : (Res.box b_id [.int .i64 id] 3).ok w) : Calls Try.prog 30 #[.agg #[.int .i64 x.ID, .int .i64 x.Thing, .int .i64 x.Rights, .int .i64 x.Badge, .int .i64 x.From], .pointer (some ⟨b_id, 0, none⟩)] w fun e w' => e = .returned (.bool (x.ID == id)) ∧ Ext w w' := by
  refine R.enter (n := 8) (vs := [.agg #[.int .i64 x.ID, .int .i64 x.Thing, .int .i64 x.Rights, .int .i64 x.Badge, .int .i64 x.From], .pointer (some ⟨b_id, 0, none⟩)]) [] [(0, .agg #[.int .i64 x.ID, .int .i64 x.Thing, .int .i64 x.Rights, .int .i64 x.Badge, .int .i64 x.From]), (1, .pointer (some ⟨b_id, 0, none⟩))] Try.func30 rfl rfl rfl rfl ?_
  refine R.oldF (r := Res.box b_id [.int .i64 id] 3) k_id (box_lt k_id) ?_
  refine R.reg rfl <| ?_
  refine R.s rfl (s.box (cs := [.int .i64 x.ID, .int .i64 x.Thing, .int .i64 x.Rights, .int .i64 x.Badge, .int .i64 x.From]) rfl rfl rfl) fun b1 => ?_
  refine R.u 1 rfl <| R.nil ?_
  refine R.reg rfl <| R.q (q.fld (off' := 0) rfl tFld_35_0 rfl) rfl <| R.q (q.ld 0 rfl rfl tOne_3 rfl) rfl <| R.q (q.ldF 0 rfl rfl tOne_3 rfl) rfl <| ?_
  by_cases h1 : x.ID = id
  · refine R.q (q.eql rfl rfl (beq_iff_eq.2 (by omega))) rfl <| R.u 1 rfl <| R.nil ?_
    exact R.rv rfl Try.results30 rfl (rB (by (first | exact (beq_iff_eq.2 (by assumption)).symm | exact (beq_eq_false_iff_ne.2 (by assumption)).symm)))
  · refine R.q (q.eql rfl rfl (beq_eq_false_iff_ne.2 (by omega))) rfl <| R.u 1 rfl <| R.nil ?_
    exact R.rv rfl Try.results30 rfl (rB (by (first | exact (beq_iff_eq.2 (by assumption)).symm | exact (beq_eq_false_iff_ne.2 (by assumption)).symm)))

theorem indexFuncW_any (v_l : Value) (l : List Writ) (p : Writ → Bool) (g_p : Nat) (c_p : List Value) (eg_p : ∀ args w, (callFunc g_p args).run Try.prog w = .ok (.enter g_p args) w) (w : World) (s_l : Sl w v_l l) (H_p : ∀ W (x1 : Writ), Ext w W → Calls Try.prog g_p ([x1.val] ++ c_p).toArray W fun e w' => e = .returned (.bool (p x1)) ∧ Ext W w') : Calls Try.prog 29 #[v_l, .func (.func g_p) #[] c_p.toArray] w fun e w' => e = .returned (.int .i64 (idxOf p l)) ∧ Ext w w' := by
  have b_l := s_l.lenle
  refine R.enter (n := 19) (vs := [v_l, .func (.func g_p) #[] c_p.toArray]) [] [(0, v_l), (1, .func (.func g_p) #[] c_p.toArray)] Try.func29 rfl rfl rfl rfl ?_
  refine R.reg rfl <| R.u 1 rfl <| R.nil ?_
  refine R.reg rfl <| R.u 1 rfl <| R.q (q.len' (fun _ => Wd.old s_l) rfl Try.underlying26) rfl <| R.u 1 rfl <| R.nil ?_
  refine R.loop (fun k : Nat => [(0, v_l), (1, .func (.func g_p) #[] c_p.toArray), (7, .int .i64 (l.length : Int)), (8, .int .i64 (k : Int))]) (fun k : Nat => []) (fun k : Nat => []) (fun k : Nat => k ≤ l.length ∧ ∀ (j : Nat) x, j < k → l[j]? = some x → p x = false) (fun k : Nat => l.length - k) 0 rfl (by exact ⟨by omega, fun j x hj => absurd hj (Nat.not_lt_zero _)⟩) ⟨rfl, rfl, rfl, rfl, trivial⟩ (fun _ => Wd.pick [] [] rfl rfl rfl) ?_
  rintro k ⟨hk, HA⟩
  refine R.reg rfl <| ?_
  by_cases h1 : k < l.length
  · refine R.q (q.lss rfl rfl (decide_eq_true (by omega))) rfl <| R.nil ?_
    refine R.condT rfl rfl ?_
    refine R.reg rfl <| R.u 2 rfl <| R.nil ?_
    refine R.reg rfl <| R.u 3 rfl <| ?_
    obtain ⟨x1, hx1⟩ : ∃ z, l[k]? = some z := ⟨_, List.getElem?_eq_getElem (by omega)⟩
    refine R.q (q.idx (i := k) (fun _ => Wd.old s_l) rfl rfl tSl_26 rfl hx1) rfl <| R.q (q.ldES (ds := [.int .i64 x1.ID, .int .i64 x1.Thing, .int .i64 x1.Rights, .int .i64 x1.Badge, .int .i64 x1.From]) (fun _ => Wd.old s_l) hx1 rfl tAgg_35 rfl) rfl <| ?_
    rcases Bool.eq_false_or_eq_true (p x1) with h2 | h2
    · refine R.c (q.call eg_p rfl rfl (fun w hw => cv (congrArg Value.bool h2) (H_p w x1 hw.ext))) rfl <| R.nil ?_
      refine R.condT rfl rfl ?_
      refine R.reg rfl <| R.u 2 rfl <| R.nil ?_
      exact R.rv rfl Try.results29 rfl (rI (by (first | exact (idxOf_hit hx1 (by assumption) HA).symm | exact (idxOf_miss (by assumption) HA).symm)))
    · refine R.c (q.call eg_p rfl rfl (fun w hw => cv (congrArg Value.bool h2) (H_p w x1 hw.ext))) rfl <| R.nil ?_
      refine R.condF rfl rfl ?_
      refine R.reg rfl <| R.q (q.add (r := ((k + 1 : Nat) : Int)) rfl rfl (wr (by omega))) rfl <| R.u 1 rfl <| R.nil ?_
      refine R.back (k + 1) rfl (by (exact ⟨by omega, none_step HA hx1 (by assumption)⟩)) (by omega) ⟨rfl, rfl, rfl, rfl, trivial⟩ (fun _ => Wd.pick [] [] rfl rfl rfl)
  · refine R.q (q.lss rfl rfl (decide_eq_false (by omega))) rfl <| R.nil ?_
    refine R.condF rfl rfl ?_
    refine R.reg rfl <| R.u 1 rfl <| R.nil ?_
    exact R.rv rfl Try.results29 rfl (rI (by (first | exact (idxOf_hit hx1 (by assumption) HA).symm | exact (idxOf_miss (by assumption) HA).symm)))

theorem find_any (v_l : Value) (l : List Writ) (id : Int) (w : World) (s_l : Sl w v_l l) : Calls Try.prog 11 #[v_l, .int .i64 id] w fun e w' => e = .returned (.int .i64 (findW l id)) ∧ Ext w w' := by
  have b_l := s_l.lenle
  refine R.enter (n := 8) (vs := [v_l, .int .i64 id]) [] [(0, v_l), (1, .int .i64 id)] Try.func11 rfl rfl rfl rfl ?_
  refine R.reg rfl <| ?_
  refine R.s rfl (s.box (cs := [.int .i64 id]) rfl rfl rfl) fun b1 => ?_
  refine R.u 1 rfl <| R.nil ?_
  refine R.reg rfl <| R.u 1 rfl <| R.q (q.mkf (cap := [.pointer (some ⟨b1, 0, none⟩)]) rfl rfl) rfl <| R.c (q.call eg_29 rfl rfl (fun w hw => (indexFuncW_any _ (l) (fun (x : Writ) => x.ID == id) _ _ eg_30 w ((fun _ => Wd.old s_l) w hw) (fun W x hW => findLit_any x (id) _ W (box_ext (hw.b 0 rfl) hW) ) ))) rfl <| R.u 1 rfl <| R.nil ?_
  exact R.rv rfl Try.results11 rfl (rI (by (rfl)))

end Go.Proofs.Ytoaneidhfcljmaa
