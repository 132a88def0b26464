import Derived.Test.YtpipachmngdegaaGreatRealmSaysProofG14
import Derived.Test.YtpipachmngdegaaGreatRealmSaysProofG18
section
/-
  The walks of chapters 1 and 2: rights, and writs. The program's and the document's.
-/
namespace Go.Proofs.YtpipachmngdegaaGreat
open Go Go.RowKit
set_option linter.unusedVariables false
set_option maxRecDepth 100000
set_option hygiene false
local macro:max "§0" : term => `((by ((first | (rw [derived_w1 (by assumption)]) | (rw [derived_b (by omega)]) | (rw [derived_w3 (by omega) (by assumption)]) | (rw [derived_w4 (by omega) (by assumption) (by omega)]) | (rw [derived_w7 (by omega) (by assumption) (by omega) (by omega)]) | (rw [derived_w6 (by omega) (by assumption) (by omega) (by omega)]) | (rw [derived_w5 (by omega) (by assumption) (by omega)])) <;> first | rfl | exact rightFault_one (by assumption) | (simp; omega))))
local macro:max "§1" : term => `([.int .i64 0, .int .i64 0, .int .i64 0, .int .i64 0, .int .i64 0])
local macro:max "§2" : term => `((by (rw [← hasB_eq r0.1 r0.2 n0.1 n0.2]; first | exact (hasB_false (by omega)).symm | exact (hasB_true (by omega) (by omega) (by omega)).symm)))
local macro:max "§3" : term => `((by assumption))
local macro:max "§4" : term => `((q.eql rfl rfl (beq_eq_false_iff_ne.2 (by omega))))
local macro:max "§5" : term => `((s.st (us := §1) (cs' := §1) 0 _ rfl rfl rfl rfl (.inl tAgg_39) rfl rfl rfl rfl))
local macro:max "§6" : term => `([.int .i64 id, .int .i64 x.Thing, .int .i64 r, .int .i64 b, .int .i64 x.ID])
local macro:max "§7" : term => `((q.eql rfl rfl (beq_iff_eq.2 (by omega))))
local macro:max "§8" : term => `([.int .i64 id, .int .i64 x.Thing, .int .i64 r, .int .i64 x.Badge, .int .i64 x.ID])
local macro:max "§9" : term => `((q.ld 1 rfl rfl tOne_3 rfl))
local macro:max "§10" : term => `((q.neq rfl rfl (bne_eq_false_iff_eq.2 (by omega))))
local macro:max "§11" : term => `((q.build (cs := §1) tB_39 rfl rfl))
local macro:max "§12" : term => `((q.fld (off' := 3) rfl tFld_39_3 rfl))
local macro:max "§13" : term => `((derived x id r b))
local macro:max "§14" : term => `((q.neq rfl rfl (bne_iff_ne.2 (by omega))))
local macro:max "§15" : term => `((q.lss (b := false) rfl rfl (by decide)))
local macro:max "§16" : term => `((s.st (us := §6) (cs' := §6) 0 _ rfl rfl rfl rfl (.inl tAgg_39) rfl rfl rfl rfl))
local macro:max "§17" : term => `((s.box (cs := [.int .i64 x.ID, .int .i64 x.Thing, .int .i64 x.Rights, .int .i64 x.Badge, .int .i64 x.From]) rfl rfl rfl))
local macro:max "§18" : term => `((⟨0, 0, 0, 0, 0⟩ : Writ))
local macro:max "§19" : term => `((q.fld (off' := 0) rfl tFld_39_0 rfl))

theorem rightCheck_any (r : Int) (w : World)  : Calls Tryz.prog 99 #[.int .i64 r] w fun e w' => e = .returned (errv (rightFault r)) ∧ Ext w w' := by
  refine R.enter (n := 10) (vs := [.int .i64 r]) [] [(0, .int .i64 r)] Tryz.func99 rfl rfl rfl rfl ?_
  refine R.reg rfl <| R.u 1 rfl <| R.nil ?_
  refine R.reg rfl <| R.u 1 rfl <| ?_
  by_cases h1 : r < 0
  · refine R.q (q.lss rfl rfl (decide_eq_true (by omega))) rfl <| R.u 4 rfl <| R.nil ?_
    refine R.condT rfl rfl ?_
    refine R.reg rfl <| R.q (q.iface rfl con_69) rfl <| R.u 1 rfl <| R.nil ?_
    exact R.rv rfl Tryz.results99 rfl (errk (by decide) (by (first | exact rightFault_bad (by omega) | exact rightFault_ok (by omega) (by omega))))
  · refine R.q (q.lss rfl rfl (decide_eq_false (by omega))) rfl <| R.u 2 rfl <| ?_
    by_cases h2 : 7 < r
    · refine R.qg rfl (q.gtr rfl rfl (decide_eq_true (by omega))) rfl <| R.u 1 rfl <| R.nil ?_
      refine R.condT rfl rfl ?_
      refine R.reg rfl <| R.q (q.iface rfl con_69) rfl <| R.u 1 rfl <| R.nil ?_
      exact R.rv rfl Tryz.results99 rfl (errk (by decide) (by (first | exact rightFault_bad (by omega) | exact rightFault_ok (by omega) (by omega))))
    · refine R.qg rfl (q.gtr rfl rfl (decide_eq_false (by omega))) rfl <| R.u 1 rfl <| R.nil ?_
      refine R.condF rfl rfl ?_
      refine R.reg rfl <| R.u 1 rfl <| R.nil ?_
      exact R.rv rfl Tryz.results99 rfl (err0 (by (first | exact rightFault_bad (by omega) | exact rightFault_ok (by omega) (by omega))))

theorem rightHas_any (r : Int) (n : Int) (w : World) (r0 : 0 ≤ r ∧ r ≤ 7) (n0 : 0 ≤ n ∧ n ≤ 7) : Calls Tryz.prog 67 #[.int .i64 r, .int .i64 n] w fun e w' => e = .returned (.bool (hasR r n)) ∧ Ext w w' := by
  refine R.enter (n := 10) (vs := [.int .i64 r, .int .i64 n]) [] [(0, .int .i64 r), (1, .int .i64 n)] Tryz.func67 rfl rfl rfl rfl ?_
  refine R.reg rfl <| R.u 1 rfl <| R.nil ?_
  refine R.reg rfl <| R.u 2 rfl <| R.q (q.and rfl rfl rfl) rfl <| R.u 1 rfl <| ?_
  by_cases h1 : (bits .and .i64 r n) = n
  · refine R.q §7 rfl <| R.u 1 rfl <| R.nil ?_
    exact R.rv rfl Tryz.results67 rfl (rB (by (exact has_and r0.1 r0.2 n0.1 n0.2 (by first | exact beq_iff_eq.2 §3 | exact beq_eq_false_iff_ne.2 §3))))
  · refine R.q §4 rfl <| R.u 1 rfl <| R.nil ?_
    exact R.rv rfl Tryz.results67 rfl (rB (by (exact has_and r0.1 r0.2 n0.1 n0.2 (by first | exact beq_iff_eq.2 §3 | exact beq_eq_false_iff_ne.2 §3))))

theorem hasRef_any (r : Int) (n : Int) (w : World) (r0 : 0 ≤ r ∧ r ≤ 7) (n0 : 0 ≤ n ∧ n ≤ 7) : Calls Tryz.prog 68 #[.int .i64 r, .int .i64 n] w fun e w' => e = .returned (.bool (hasR r n)) ∧ Ext w w' := by
  refine R.enter (n := 22) (vs := [.int .i64 r, .int .i64 n]) [] [(0, .int .i64 r), (1, .int .i64 n)] Tryz.func68 rfl rfl rfl rfl ?_
  refine R.reg rfl <| R.u 1 rfl <| R.nil ?_
  refine R.reg rfl <| R.u 1 rfl <| R.nil ?_
  refine R.unroll 3 rfl ?_
  refine R.reg rfl <| R.u 1 rfl <| R.q (q.lss (b := true) rfl rfl (by decide)) rfl <| R.nil ?_
  refine R.condT rfl rfl ?_
  refine R.reg rfl <| R.u 2 rfl <| R.q (q.quo (r := n / 1) rfl rfl (by omega) (quoI (by omega))) rfl <| R.q (q.rem (r := (n / 1) % 2) rfl rfl (by omega) (remI (by omega))) rfl <| ?_
  by_cases h1 : ((n / 1) % 2) = 1
  · refine R.q §7 rfl <| R.u 3 rfl <| R.qg rfl (q.quo (r := r / 1) rfl rfl (by omega) (quoI (by omega))) rfl <| R.qg rfl (q.rem (r := (r / 1) % 2) rfl rfl (by omega) (remI (by omega))) rfl <| ?_
    by_cases h2 : ((r / 1) % 2) = 0
    · refine R.qg rfl §7 rfl <| R.u 1 rfl <| R.nil ?_
      refine R.condT rfl rfl ?_
      refine R.reg rfl <| R.u 1 rfl <| R.nil ?_
      exact R.rv rfl Tryz.results68 rfl (rB §2)
    · refine R.qg rfl §4 rfl <| R.u 1 rfl <| R.nil ?_
      refine R.condF rfl rfl ?_
      refine R.reg rfl <| R.u 1 rfl <| R.q (q.mul (r := 2) rfl rfl (by decide)) rfl <| R.u 1 rfl <| R.nil ?_
      refine R.again rfl rfl ?_
      refine R.reg rfl <| R.u 1 rfl <| R.q (q.lss (b := true) rfl rfl (by decide)) rfl <| R.nil ?_
      refine R.condT rfl rfl ?_
      refine R.reg rfl <| R.u 2 rfl <| R.q (q.quo (r := n / 2) rfl rfl (by omega) (quoI (by omega))) rfl <| R.q (q.rem (r := (n / 2) % 2) rfl rfl (by omega) (remI (by omega))) rfl <| ?_
      by_cases h3 : ((n / 2) % 2) = 1
      · refine R.q §7 rfl <| R.u 3 rfl <| R.qg rfl (q.quo (r := r / 2) rfl rfl (by omega) (quoI (by omega))) rfl <| R.qg rfl (q.rem (r := (r / 2) % 2) rfl rfl (by omega) (remI (by omega))) rfl <| ?_
        by_cases h4 : ((r / 2) % 2) = 0
        · refine R.qg rfl §7 rfl <| R.u 1 rfl <| R.nil ?_
          refine R.condT rfl rfl ?_
          refine R.reg rfl <| R.u 1 rfl <| R.nil ?_
          exact R.rv rfl Tryz.results68 rfl (rB §2)
        · refine R.qg rfl §4 rfl <| R.u 1 rfl <| R.nil ?_
          refine R.condF rfl rfl ?_
          refine R.reg rfl <| R.u 1 rfl <| R.q (q.mul (r := 4) rfl rfl (by decide)) rfl <| R.u 1 rfl <| R.nil ?_
          refine R.again rfl rfl ?_
          refine R.reg rfl <| R.u 1 rfl <| R.q (q.lss (b := true) rfl rfl (by decide)) rfl <| R.nil ?_
          refine R.condT rfl rfl ?_
          refine R.reg rfl <| R.u 2 rfl <| R.q (q.quo (r := n / 4) rfl rfl (by omega) (quoI (by omega))) rfl <| R.q (q.rem (r := (n / 4) % 2) rfl rfl (by omega) (remI (by omega))) rfl <| ?_
          by_cases h5 : ((n / 4) % 2) = 1
          · refine R.q §7 rfl <| R.u 3 rfl <| R.qg rfl (q.quo (r := r / 4) rfl rfl (by omega) (quoI (by omega))) rfl <| R.qg rfl (q.rem (r := (r / 4) % 2) rfl rfl (by omega) (remI (by omega))) rfl <| ?_
            by_cases h6 : ((r / 4) % 2) = 0
            · refine R.qg rfl §7 rfl <| R.u 1 rfl <| R.nil ?_
              refine R.condT rfl rfl ?_
              refine R.reg rfl <| R.u 1 rfl <| R.nil ?_
              exact R.rv rfl Tryz.results68 rfl (rB §2)
            · refine R.qg rfl §4 rfl <| R.u 1 rfl <| R.nil ?_
              refine R.condF rfl rfl ?_
              refine R.reg rfl <| R.u 1 rfl <| R.q (q.mul (r := 8) rfl rfl (by decide)) rfl <| R.u 1 rfl <| R.nil ?_
              refine R.again rfl rfl ?_
              refine R.reg rfl <| R.u 1 rfl <| R.q §15 rfl <| R.nil ?_
              refine R.condF rfl rfl ?_
              refine R.reg rfl <| R.u 1 rfl <| R.nil ?_
              exact R.rv rfl Tryz.results68 rfl (rB §2)
          · refine R.q §4 rfl <| R.u 7 rfl <| R.nil ?_
            refine R.condF rfl rfl ?_
            refine R.reg rfl <| R.u 1 rfl <| R.q (q.mul (r := 8) rfl rfl (by decide)) rfl <| R.u 1 rfl <| R.nil ?_
            refine R.again rfl rfl ?_
            refine R.reg rfl <| R.u 1 rfl <| R.q §15 rfl <| R.nil ?_
            refine R.condF rfl rfl ?_
            refine R.reg rfl <| R.u 1 rfl <| R.nil ?_
            exact R.rv rfl Tryz.results68 rfl (rB §2)
      · refine R.q §4 rfl <| R.u 7 rfl <| R.nil ?_
        refine R.condF rfl rfl ?_
        refine R.reg rfl <| R.u 1 rfl <| R.q (q.mul (r := 4) rfl rfl (by decide)) rfl <| R.u 1 rfl <| R.nil ?_
        refine R.again rfl rfl ?_
        refine R.reg rfl <| R.u 1 rfl <| R.q (q.lss (b := true) rfl rfl (by decide)) rfl <| R.nil ?_
        refine R.condT rfl rfl ?_
        refine R.reg rfl <| R.u 2 rfl <| R.q (q.quo (r := n / 4) rfl rfl (by omega) (quoI (by omega))) rfl <| R.q (q.rem (r := (n / 4) % 2) rfl rfl (by omega) (remI (by omega))) rfl <| ?_
        by_cases h7 : ((n / 4) % 2) = 1
        · refine R.q §7 rfl <| R.u 3 rfl <| R.qg rfl (q.quo (r := r / 4) rfl rfl (by omega) (quoI (by omega))) rfl <| R.qg rfl (q.rem (r := (r / 4) % 2) rfl rfl (by omega) (remI (by omega))) rfl <| ?_
          by_cases h8 : ((r / 4) % 2) = 0
          · refine R.qg rfl §7 rfl <| R.u 1 rfl <| R.nil ?_
            refine R.condT rfl rfl ?_
            refine R.reg rfl <| R.u 1 rfl <| R.nil ?_
            exact R.rv rfl Tryz.results68 rfl (rB §2)
          · refine R.qg rfl §4 rfl <| R.u 1 rfl <| R.nil ?_
            refine R.condF rfl rfl ?_
            refine R.reg rfl <| R.u 1 rfl <| R.q (q.mul (r := 8) rfl rfl (by decide)) rfl <| R.u 1 rfl <| R.nil ?_
            refine R.again rfl rfl ?_
            refine R.reg rfl <| R.u 1 rfl <| R.q §15 rfl <| R.nil ?_
            refine R.condF rfl rfl ?_
            refine R.reg rfl <| R.u 1 rfl <| R.nil ?_
            exact R.rv rfl Tryz.results68 rfl (rB §2)
        · refine R.q §4 rfl <| R.u 7 rfl <| R.nil ?_
          refine R.condF rfl rfl ?_
          refine R.reg rfl <| R.u 1 rfl <| R.q (q.mul (r := 8) rfl rfl (by decide)) rfl <| R.u 1 rfl <| R.nil ?_
          refine R.again rfl rfl ?_
          refine R.reg rfl <| R.u 1 rfl <| R.q §15 rfl <| R.nil ?_
          refine R.condF rfl rfl ?_
          refine R.reg rfl <| R.u 1 rfl <| R.nil ?_
          exact R.rv rfl Tryz.results68 rfl (rB §2)
  · refine R.q §4 rfl <| R.u 7 rfl <| R.nil ?_
    refine R.condF rfl rfl ?_
    refine R.reg rfl <| R.u 1 rfl <| R.q (q.mul (r := 2) rfl rfl (by decide)) rfl <| R.u 1 rfl <| R.nil ?_
    refine R.again rfl rfl ?_
    refine R.reg rfl <| R.u 1 rfl <| R.q (q.lss (b := true) rfl rfl (by decide)) rfl <| R.nil ?_
    refine R.condT rfl rfl ?_
    refine R.reg rfl <| R.u 2 rfl <| R.q (q.quo (r := n / 2) rfl rfl (by omega) (quoI (by omega))) rfl <| R.q (q.rem (r := (n / 2) % 2) rfl rfl (by omega) (remI (by omega))) rfl <| ?_
    by_cases h9 : ((n / 2) % 2) = 1
    · refine R.q §7 rfl <| R.u 3 rfl <| R.qg rfl (q.quo (r := r / 2) rfl rfl (by omega) (quoI (by omega))) rfl <| R.qg rfl (q.rem (r := (r / 2) % 2) rfl rfl (by omega) (remI (by omega))) rfl <| ?_
      by_cases h10 : ((r / 2) % 2) = 0
      · refine R.qg rfl §7 rfl <| R.u 1 rfl <| R.nil ?_
        refine R.condT rfl rfl ?_
        refine R.reg rfl <| R.u 1 rfl <| R.nil ?_
        exact R.rv rfl Tryz.results68 rfl (rB §2)
      · refine R.qg rfl §4 rfl <| R.u 1 rfl <| R.nil ?_
        refine R.condF rfl rfl ?_
        refine R.reg rfl <| R.u 1 rfl <| R.q (q.mul (r := 4) rfl rfl (by decide)) rfl <| R.u 1 rfl <| R.nil ?_
        refine R.again rfl rfl ?_
        refine R.reg rfl <| R.u 1 rfl <| R.q (q.lss (b := true) rfl rfl (by decide)) rfl <| R.nil ?_
        refine R.condT rfl rfl ?_
        refine R.reg rfl <| R.u 2 rfl <| R.q (q.quo (r := n / 4) rfl rfl (by omega) (quoI (by omega))) rfl <| R.q (q.rem (r := (n / 4) % 2) rfl rfl (by omega) (remI (by omega))) rfl <| ?_
        by_cases h11 : ((n / 4) % 2) = 1
        · refine R.q §7 rfl <| R.u 3 rfl <| R.qg rfl (q.quo (r := r / 4) rfl rfl (by omega) (quoI (by omega))) rfl <| R.qg rfl (q.rem (r := (r / 4) % 2) rfl rfl (by omega) (remI (by omega))) rfl <| ?_
          by_cases h12 : ((r / 4) % 2) = 0
          · refine R.qg rfl §7 rfl <| R.u 1 rfl <| R.nil ?_
            refine R.condT rfl rfl ?_
            refine R.reg rfl <| R.u 1 rfl <| R.nil ?_
            exact R.rv rfl Tryz.results68 rfl (rB §2)
          · refine R.qg rfl §4 rfl <| R.u 1 rfl <| R.nil ?_
            refine R.condF rfl rfl ?_
            refine R.reg rfl <| R.u 1 rfl <| R.q (q.mul (r := 8) rfl rfl (by decide)) rfl <| R.u 1 rfl <| R.nil ?_
            refine R.again rfl rfl ?_
            refine R.reg rfl <| R.u 1 rfl <| R.q §15 rfl <| R.nil ?_
            refine R.condF rfl rfl ?_
            refine R.reg rfl <| R.u 1 rfl <| R.nil ?_
            exact R.rv rfl Tryz.results68 rfl (rB §2)
        · refine R.q §4 rfl <| R.u 7 rfl <| R.nil ?_
          refine R.condF rfl rfl ?_
          refine R.reg rfl <| R.u 1 rfl <| R.q (q.mul (r := 8) rfl rfl (by decide)) rfl <| R.u 1 rfl <| R.nil ?_
          refine R.again rfl rfl ?_
          refine R.reg rfl <| R.u 1 rfl <| R.q §15 rfl <| R.nil ?_
          refine R.condF rfl rfl ?_
          refine R.reg rfl <| R.u 1 rfl <| R.nil ?_
          exact R.rv rfl Tryz.results68 rfl (rB §2)
    · refine R.q §4 rfl <| R.u 7 rfl <| R.nil ?_
      refine R.condF rfl rfl ?_
      refine R.reg rfl <| R.u 1 rfl <| R.q (q.mul (r := 4) rfl rfl (by decide)) rfl <| R.u 1 rfl <| R.nil ?_
      refine R.again rfl rfl ?_
      refine R.reg rfl <| R.u 1 rfl <| R.q (q.lss (b := true) rfl rfl (by decide)) rfl <| R.nil ?_
      refine R.condT rfl rfl ?_
      refine R.reg rfl <| R.u 2 rfl <| R.q (q.quo (r := n / 4) rfl rfl (by omega) (quoI (by omega))) rfl <| R.q (q.rem (r := (n / 4) % 2) rfl rfl (by omega) (remI (by omega))) rfl <| ?_
      by_cases h13 : ((n / 4) % 2) = 1
      · refine R.q §7 rfl <| R.u 3 rfl <| R.qg rfl (q.quo (r := r / 4) rfl rfl (by omega) (quoI (by omega))) rfl <| R.qg rfl (q.rem (r := (r / 4) % 2) rfl rfl (by omega) (remI (by omega))) rfl <| ?_
        by_cases h14 : ((r / 4) % 2) = 0
        · refine R.qg rfl §7 rfl <| R.u 1 rfl <| R.nil ?_
          refine R.condT rfl rfl ?_
          refine R.reg rfl <| R.u 1 rfl <| R.nil ?_
          exact R.rv rfl Tryz.results68 rfl (rB §2)
        · refine R.qg rfl §4 rfl <| R.u 1 rfl <| R.nil ?_
          refine R.condF rfl rfl ?_
          refine R.reg rfl <| R.u 1 rfl <| R.q (q.mul (r := 8) rfl rfl (by decide)) rfl <| R.u 1 rfl <| R.nil ?_
          refine R.again rfl rfl ?_
          refine R.reg rfl <| R.u 1 rfl <| R.q §15 rfl <| R.nil ?_
          refine R.condF rfl rfl ?_
          refine R.reg rfl <| R.u 1 rfl <| R.nil ?_
          exact R.rv rfl Tryz.results68 rfl (rB §2)
      · refine R.q §4 rfl <| R.u 7 rfl <| R.nil ?_
        refine R.condF rfl rfl ?_
        refine R.reg rfl <| R.u 1 rfl <| R.q (q.mul (r := 8) rfl rfl (by decide)) rfl <| R.u 1 rfl <| R.nil ?_
        refine R.again rfl rfl ?_
        refine R.reg rfl <| R.u 1 rfl <| R.q §15 rfl <| R.nil ?_
        refine R.condF rfl rfl ?_
        refine R.reg rfl <| R.u 1 rfl <| R.nil ?_
        exact R.rv rfl Tryz.results68 rfl (rB §2)

theorem derive_any (x : Writ) (id : Int) (r : Int) (b : Int) (w : World) (x0 : 0 ≤ x.Rights ∧ x.Rights ≤ 7) : Calls Tryz.prog 82 #[.agg #[.int .i64 x.ID, .int .i64 x.Thing, .int .i64 x.Rights, .int .i64 x.Badge, .int .i64 x.From], .int .i64 id, .int .i64 r, .int .i64 b] w fun e w' => e = .returned (.tuple #[Writ.val (§13.1), errv (§13.2)]) ∧ Ext w w' := by
  refine R.enter (n := 63) (vs := [.agg #[.int .i64 x.ID, .int .i64 x.Thing, .int .i64 x.Rights, .int .i64 x.Badge, .int .i64 x.From], .int .i64 id, .int .i64 r, .int .i64 b]) [] [(0, .agg #[.int .i64 x.ID, .int .i64 x.Thing, .int .i64 x.Rights, .int .i64 x.Badge, .int .i64 x.From]), (1, .int .i64 id), (2, .int .i64 r), (3, .int .i64 b)] Tryz.func82 rfl rfl rfl rfl ?_
  refine R.reg rfl <| ?_
  refine R.s rfl §17 fun b1 => ?_
  refine R.s rfl (s.alloc (cs := §1) tZero_39 rfl rfl) fun b2 => ?_
  refine R.u 1 rfl <| R.nil ?_
  refine R.reg rfl <| R.u 1 rfl <| R.c (q.call eg_99 rfl rfl (fun w hw => (rightCheck_any (r) w  ))) rfl <| R.u 1 rfl <| R.nil ?_
  refine R.reg rfl <| R.u 1 rfl <| ?_
  by_cases h1 : rightFault r = 0
  · refine R.q (q.neqE0 rfl rfl Tryz.underlying41 (by omega)) rfl <| R.u 1 rfl <| R.nil ?_
    refine R.condF rfl rfl ?_
    have hr := rightFault_zero §3
    refine R.reg rfl <| R.u 1 rfl <| ?_
    by_cases h2 : b < 0
    · refine R.q (q.lss rfl rfl (decide_eq_true (by omega))) rfl <| R.u 5 rfl <| R.nil ?_
      refine R.condT rfl rfl ?_
      refine R.reg rfl <| R.q §11 rfl <| R.q (q.iface rfl con_69) rfl <| ?_
      refine R.s rfl §5 fun _ => ?_
      refine R.u 1 rfl <| R.nil ?_
      exact R.rr2 rfl Tryz.results82 (RV.cell 0 rfl rfl tAgg_39) (RV.tmp rfl) (congrArg Writ.val (show §18 = §13.1 from by ((first | (rw [derived_w1 §3]) | (rw [derived_b (by omega)]) | (rw [derived_w3 (by omega) §3]) | (rw [derived_w4 (by omega) §3 (by omega)]) | (rw [derived_w7 (by omega) §3 (by omega) (by omega)]) | (rw [derived_w6 (by omega) §3 (by omega) (by omega)]) | (rw [derived_w5 (by omega) §3 (by omega)])) <;> first | rfl | exact rightFault_one §3 | (simp; omega)))) (errk (by decide) §0)
    · refine R.q (q.lss rfl rfl (decide_eq_false (by omega))) rfl <| R.u 2 rfl <| ?_
      by_cases h3 : 99 < b
      · refine R.qg rfl (q.gtr rfl rfl (decide_eq_true (by omega))) rfl <| R.u 2 rfl <| R.nil ?_
        refine R.condT rfl rfl ?_
        refine R.reg rfl <| R.q §11 rfl <| R.q (q.iface rfl con_69) rfl <| ?_
        refine R.s rfl §5 fun _ => ?_
        refine R.u 1 rfl <| R.nil ?_
        exact R.rr2 rfl Tryz.results82 (RV.cell 0 rfl rfl tAgg_39) (RV.tmp rfl) (congrArg Writ.val (show §18 = §13.1 from by ((first | (rw [derived_w1 §3]) | (rw [derived_b (by omega)]) | (rw [derived_w3 (by omega) §3]) | (rw [derived_w4 (by omega) §3 (by omega)]) | (rw [derived_w7 (by omega) §3 (by omega) (by omega)]) | (rw [derived_w6 (by omega) §3 (by omega) (by omega)]) | (rw [derived_w5 (by omega) §3 (by omega)])) <;> first | rfl | exact rightFault_one §3 | (simp; omega)))) (errk (by decide) §0)
      · refine R.qg rfl (q.gtr rfl rfl (decide_eq_false (by omega))) rfl <| R.u 2 rfl <| R.nil ?_
        refine R.condF rfl rfl ?_
        refine R.reg rfl <| R.q (q.fld (off' := 2) rfl tFld_39_2 rfl) rfl <| R.q §9 rfl <| R.u 1 rfl <| ?_
        rcases Bool.eq_false_or_eq_true (hasR x.Rights r) with h4 | h4
        · refine R.c (q.call eg_67 rfl rfl (fun w hw => (cv (congrArg Value.bool h4) (rightHas_any (x.Rights) (r) w  (by omega) (by omega))))) rfl <| R.u 2 rfl <| R.nil ?_
          refine R.condF rfl rfl ?_
          refine R.reg rfl <| R.u 1 rfl <| ?_
          by_cases h5 : b = 0
          · refine R.q §10 rfl <| R.u 12 rfl <| R.nil ?_
            refine R.condF rfl rfl ?_
            refine R.reg rfl <| R.u 1 rfl <| R.q §7 rfl <| R.nil ?_
            refine R.condT rfl rfl ?_
            refine R.reg rfl <| R.q §12 rfl <| R.q §9 rfl <| R.u 1 rfl <| R.nil ?_
            refine R.reg rfl <| R.u 1 rfl <| R.q (q.fld (off' := 1) rfl tFld_39_1 rfl) rfl <| R.q §9 rfl <| R.u 2 rfl <| R.q §19 rfl <| R.q §9 rfl <| R.q (q.build (cs := §8) tB_39 rfl rfl) rfl <| ?_
            refine R.s rfl (s.st (us := §8) (cs' := §8) 0 _ rfl rfl rfl rfl (.inl tAgg_39) rfl rfl rfl rfl) fun _ => ?_
            refine R.u 1 rfl <| R.nil ?_
            exact R.rr2 rfl Tryz.results82 (RV.cell 0 rfl rfl tAgg_39) (RV.tmp rfl) (congrArg Writ.val (show (⟨id, x.Thing, r, x.Badge, x.ID⟩ : Writ) = §13.1 from by ((first | (rw [derived_w1 §3]) | (rw [derived_b (by omega)]) | (rw [derived_w3 (by omega) §3]) | (rw [derived_w4 (by omega) §3 (by omega)]) | (rw [derived_w7 (by omega) §3 (by omega) (by omega)]) | (rw [derived_w6 (by omega) §3 (by omega) (by omega)]) | (rw [derived_w5 (by omega) §3 (by omega)])) <;> first | rfl | exact rightFault_one §3 | (simp; omega)))) (err0 §0)
          · refine R.q §14 rfl <| R.u 1 rfl <| R.qg rfl §12 rfl <| R.qg rfl §9 rfl <| ?_
            by_cases h6 : x.Badge = 0
            · refine R.qg rfl §10 rfl <| R.u 8 rfl <| R.nil ?_
              refine R.condF rfl rfl ?_
              refine R.reg rfl <| R.u 1 rfl <| R.q §4 rfl <| R.nil ?_
              refine R.condF rfl rfl ?_
              refine R.reg rfl <| R.u 1 rfl <| R.q (q.fld (off' := 1) rfl tFld_39_1 rfl) rfl <| R.q §9 rfl <| R.u 2 rfl <| R.q §19 rfl <| R.q §9 rfl <| R.q (q.build (cs := §6) tB_39 rfl rfl) rfl <| ?_
              refine R.s rfl §16 fun _ => ?_
              refine R.u 1 rfl <| R.nil ?_
              exact R.rr2 rfl Tryz.results82 (RV.cell 0 rfl rfl tAgg_39) (RV.tmp rfl) (congrArg Writ.val (show (⟨id, x.Thing, r, b, x.ID⟩ : Writ) = §13.1 from by ((first | (rw [derived_w1 §3]) | (rw [derived_b (by omega)]) | (rw [derived_w3 (by omega) §3]) | (rw [derived_w4 (by omega) §3 (by omega)]) | (rw [derived_w7 (by omega) §3 (by omega) (by omega)]) | (rw [derived_w6 (by omega) §3 (by omega) (by omega)]) | (rw [derived_w5 (by omega) §3 (by omega)])) <;> first | rfl | exact rightFault_one §3 | (simp; omega)))) (err0 §0)
            · refine R.qg rfl §14 rfl <| R.u 3 rfl <| R.qg rfl §12 rfl <| R.qg rfl §9 rfl <| ?_
              by_cases h7 : b = x.Badge
              · refine R.qg rfl §10 rfl <| R.u 2 rfl <| R.nil ?_
                refine R.condF rfl rfl ?_
                refine R.reg rfl <| R.u 1 rfl <| R.q §4 rfl <| R.nil ?_
                refine R.condF rfl rfl ?_
                refine R.reg rfl <| R.u 1 rfl <| R.q (q.fld (off' := 1) rfl tFld_39_1 rfl) rfl <| R.q §9 rfl <| R.u 2 rfl <| R.q §19 rfl <| R.q §9 rfl <| R.q (q.build (cs := §6) tB_39 rfl rfl) rfl <| ?_
                refine R.s rfl §16 fun _ => ?_
                refine R.u 1 rfl <| R.nil ?_
                exact R.rr2 rfl Tryz.results82 (RV.cell 0 rfl rfl tAgg_39) (RV.tmp rfl) (congrArg Writ.val (show (⟨id, x.Thing, r, b, x.ID⟩ : Writ) = §13.1 from by ((first | (rw [derived_w1 §3]) | (rw [derived_b (by omega)]) | (rw [derived_w3 (by omega) §3]) | (rw [derived_w4 (by omega) §3 (by omega)]) | (rw [derived_w7 (by omega) §3 (by omega) (by omega)]) | (rw [derived_w6 (by omega) §3 (by omega) (by omega)]) | (rw [derived_w5 (by omega) §3 (by omega)])) <;> first | rfl | exact rightFault_one §3 | (simp; omega)))) (err0 §0)
              · refine R.qg rfl §14 rfl <| R.u 2 rfl <| R.nil ?_
                refine R.condT rfl rfl ?_
                refine R.reg rfl <| R.q §11 rfl <| R.q (q.iface rfl con_69) rfl <| ?_
                refine R.s rfl §5 fun _ => ?_
                refine R.u 1 rfl <| R.nil ?_
                exact R.rr2 rfl Tryz.results82 (RV.cell 0 rfl rfl tAgg_39) (RV.tmp rfl) (congrArg Writ.val (show §18 = §13.1 from by ((first | (rw [derived_w1 §3]) | (rw [derived_b (by omega)]) | (rw [derived_w3 (by omega) §3]) | (rw [derived_w4 (by omega) §3 (by omega)]) | (rw [derived_w7 (by omega) §3 (by omega) (by omega)]) | (rw [derived_w6 (by omega) §3 (by omega) (by omega)]) | (rw [derived_w5 (by omega) §3 (by omega)])) <;> first | rfl | exact rightFault_one §3 | (simp; omega)))) (errk (by decide) §0)
        · refine R.c (q.call eg_67 rfl rfl (fun w hw => (cv (congrArg Value.bool h4) (rightHas_any (x.Rights) (r) w  (by omega) (by omega))))) rfl <| R.u 2 rfl <| R.nil ?_
          refine R.condT rfl rfl ?_
          refine R.reg rfl <| R.q §11 rfl <| R.q (q.iface rfl con_69) rfl <| ?_
          refine R.s rfl §5 fun _ => ?_
          refine R.u 1 rfl <| R.nil ?_
          exact R.rr2 rfl Tryz.results82 (RV.cell 0 rfl rfl tAgg_39) (RV.tmp rfl) (congrArg Writ.val (show §18 = §13.1 from by ((first | (rw [derived_w1 §3]) | (rw [derived_b (by omega)]) | (rw [derived_w3 (by omega) §3]) | (rw [derived_w4 (by omega) §3 (by omega)]) | (rw [derived_w7 (by omega) §3 (by omega) (by omega)]) | (rw [derived_w6 (by omega) §3 (by omega) (by omega)]) | (rw [derived_w5 (by omega) §3 (by omega)])) <;> first | rfl | exact rightFault_one §3 | (simp; omega)))) (errk (by decide) §0)
  · refine R.q (q.neqE1 rfl rfl Tryz.underlying41 (by omega)) rfl <| R.u 1 rfl <| R.nil ?_
    refine R.condT rfl rfl ?_
    refine R.reg rfl <| R.q §11 rfl <| R.u 1 rfl <| ?_
    refine R.s rfl §5 fun _ => ?_
    refine R.u 1 rfl <| R.nil ?_
    exact R.rr2 rfl Tryz.results82 (RV.cell 0 rfl rfl tAgg_39) (RV.tmp rfl) (congrArg Writ.val (show §18 = §13.1 from by ((first | (rw [derived_w1 §3]) | (rw [derived_b (by omega)]) | (rw [derived_w3 (by omega) §3]) | (rw [derived_w4 (by omega) §3 (by omega)]) | (rw [derived_w7 (by omega) §3 (by omega) (by omega)]) | (rw [derived_w6 (by omega) §3 (by omega) (by omega)]) | (rw [derived_w5 (by omega) §3 (by omega)])) <;> first | rfl | exact rightFault_one §3 | (simp; omega)))) (rE §0)

theorem derivedRef_any (x : Writ) (id : Int) (r : Int) (b : Int) (w : World) (x0 : 0 ≤ x.Rights ∧ x.Rights ≤ 7) : Calls Tryz.prog 88 #[.agg #[.int .i64 x.ID, .int .i64 x.Thing, .int .i64 x.Rights, .int .i64 x.Badge, .int .i64 x.From], .int .i64 id, .int .i64 r, .int .i64 b] w fun e w' => e = .returned (.tuple #[Writ.val (§13.1), .int .i64 (§13.2)]) ∧ Ext w w' := by
  refine R.enter (n := 61) (vs := [.agg #[.int .i64 x.ID, .int .i64 x.Thing, .int .i64 x.Rights, .int .i64 x.Badge, .int .i64 x.From], .int .i64 id, .int .i64 r, .int .i64 b]) [] [(0, .agg #[.int .i64 x.ID, .int .i64 x.Thing, .int .i64 x.Rights, .int .i64 x.Badge, .int .i64 x.From]), (1, .int .i64 id), (2, .int .i64 r), (3, .int .i64 b)] Tryz.func88 rfl rfl rfl rfl ?_
  refine R.reg rfl <| ?_
  refine R.s rfl §17 fun b1 => ?_
  refine R.s rfl (s.alloc (cs := §1) tZero_39 rfl rfl) fun b2 => ?_
  refine R.u 1 rfl <| R.nil ?_
  refine R.reg rfl <| R.u 1 rfl <| ?_
  by_cases h1 : r < 0
  · refine R.q (q.lss rfl rfl (decide_eq_true (by omega))) rfl <| R.u 12 rfl <| R.nil ?_
    refine R.condT rfl rfl ?_
    refine R.reg rfl <| R.q §11 rfl <| ?_
    refine R.s rfl §5 fun _ => ?_
    refine R.u 1 rfl <| R.nil ?_
    exact R.rr2 rfl Tryz.results88 (RV.cell 0 rfl rfl tAgg_39) (RV.tmp rfl) (congrArg Writ.val (show §18 = §13.1 from by ((first | (rw [derived_w1 §3]) | (rw [derived_b (by omega)]) | (rw [derived_w3 (by omega) §3]) | (rw [derived_w4 (by omega) §3 (by omega)]) | (rw [derived_w7 (by omega) §3 (by omega) (by omega)]) | (rw [derived_w6 (by omega) §3 (by omega) (by omega)]) | (rw [derived_w5 (by omega) §3 (by omega)])) <;> first | rfl | exact rightFault_one §3 | (simp; omega)))) (rI §0)
  · refine R.q (q.lss rfl rfl (decide_eq_false (by omega))) rfl <| R.u 2 rfl <| ?_
    by_cases h2 : 7 < r
    · refine R.qg rfl (q.gtr rfl rfl (decide_eq_true (by omega))) rfl <| R.u 9 rfl <| R.nil ?_
      refine R.condT rfl rfl ?_
      refine R.reg rfl <| R.q §11 rfl <| ?_
      refine R.s rfl §5 fun _ => ?_
      refine R.u 1 rfl <| R.nil ?_
      exact R.rr2 rfl Tryz.results88 (RV.cell 0 rfl rfl tAgg_39) (RV.tmp rfl) (congrArg Writ.val (show §18 = §13.1 from by ((first | (rw [derived_w1 §3]) | (rw [derived_b (by omega)]) | (rw [derived_w3 (by omega) §3]) | (rw [derived_w4 (by omega) §3 (by omega)]) | (rw [derived_w7 (by omega) §3 (by omega) (by omega)]) | (rw [derived_w6 (by omega) §3 (by omega) (by omega)]) | (rw [derived_w5 (by omega) §3 (by omega)])) <;> first | rfl | exact rightFault_one §3 | (simp; omega)))) (rI §0)
    · refine R.qg rfl (q.gtr rfl rfl (decide_eq_false (by omega))) rfl <| R.u 3 rfl <| ?_
      by_cases h3 : b < 0
      · refine R.qg rfl (q.lss rfl rfl (decide_eq_true (by omega))) rfl <| R.u 5 rfl <| R.nil ?_
        refine R.condT rfl rfl ?_
        refine R.reg rfl <| R.q §11 rfl <| ?_
        refine R.s rfl §5 fun _ => ?_
        refine R.u 1 rfl <| R.nil ?_
        exact R.rr2 rfl Tryz.results88 (RV.cell 0 rfl rfl tAgg_39) (RV.tmp rfl) (congrArg Writ.val (show §18 = §13.1 from by ((first | (rw [derived_w1 §3]) | (rw [derived_b (by omega)]) | (rw [derived_w3 (by omega) §3]) | (rw [derived_w4 (by omega) §3 (by omega)]) | (rw [derived_w7 (by omega) §3 (by omega) (by omega)]) | (rw [derived_w6 (by omega) §3 (by omega) (by omega)]) | (rw [derived_w5 (by omega) §3 (by omega)])) <;> first | rfl | exact rightFault_one §3 | (simp; omega)))) (rI §0)
      · refine R.qg rfl (q.lss rfl rfl (decide_eq_false (by omega))) rfl <| R.u 3 rfl <| ?_
        by_cases h4 : 99 < b
        · refine R.qg rfl (q.gtr rfl rfl (decide_eq_true (by omega))) rfl <| R.u 1 rfl <| R.nil ?_
          refine R.condT rfl rfl ?_
          refine R.reg rfl <| R.q §11 rfl <| ?_
          refine R.s rfl §5 fun _ => ?_
          refine R.u 1 rfl <| R.nil ?_
          exact R.rr2 rfl Tryz.results88 (RV.cell 0 rfl rfl tAgg_39) (RV.tmp rfl) (congrArg Writ.val (show §18 = §13.1 from by ((first | (rw [derived_w1 §3]) | (rw [derived_b (by omega)]) | (rw [derived_w3 (by omega) §3]) | (rw [derived_w4 (by omega) §3 (by omega)]) | (rw [derived_w7 (by omega) §3 (by omega) (by omega)]) | (rw [derived_w6 (by omega) §3 (by omega) (by omega)]) | (rw [derived_w5 (by omega) §3 (by omega)])) <;> first | rfl | exact rightFault_one §3 | (simp; omega)))) (rI §0)
        · refine R.qg rfl (q.gtr rfl rfl (decide_eq_false (by omega))) rfl <| R.u 1 rfl <| R.nil ?_
          refine R.condF rfl rfl ?_
          refine R.reg rfl <| R.q (q.fld (off' := 2) rfl tFld_39_2 rfl) rfl <| R.q §9 rfl <| R.u 1 rfl <| ?_
          rcases Bool.eq_false_or_eq_true (hasR x.Rights r) with h5 | h5
          · refine R.c (q.call eg_68 rfl rfl (fun w hw => (cv (congrArg Value.bool h5) (hasRef_any (x.Rights) (r) w  (by omega) (by omega))))) rfl <| R.u 1 rfl <| R.nil ?_
            refine R.reg rfl <| R.u 4 rfl <| ?_
            by_cases h6 : b = 0
            · refine R.qg rfl §10 rfl <| R.u 12 rfl <| R.nil ?_
              refine R.condF rfl rfl ?_
              refine R.reg rfl <| R.q §12 rfl <| R.q §9 rfl <| ?_
              by_cases h7 : x.Badge = 0
              · refine R.q §10 rfl <| R.nil ?_
                refine R.condF rfl rfl ?_
                refine R.reg rfl <| R.u 1 rfl <| R.q (q.fld (off' := 1) rfl tFld_39_1 rfl) rfl <| R.q §9 rfl <| R.u 2 rfl <| R.q §19 rfl <| R.q §9 rfl <| R.q (q.build (cs := §6) tB_39 rfl rfl) rfl <| ?_
                refine R.s rfl §16 fun _ => ?_
                refine R.u 1 rfl <| R.nil ?_
                exact R.rr2 rfl Tryz.results88 (RV.cell 0 rfl rfl tAgg_39) (RV.tmp rfl) (congrArg Writ.val (show (⟨id, x.Thing, r, b, x.ID⟩ : Writ) = §13.1 from by ((first | (rw [derived_w1 §3]) | (rw [derived_b (by omega)]) | (rw [derived_w3 (by omega) §3]) | (rw [derived_w4 (by omega) §3 (by omega)]) | (rw [derived_w7 (by omega) §3 (by omega) (by omega)]) | (rw [derived_w6 (by omega) §3 (by omega) (by omega)]) | (rw [derived_w5 (by omega) §3 (by omega)])) <;> first | rfl | exact rightFault_one §3 | (simp; omega)))) (rI §0)
              · refine R.q §14 rfl <| R.nil ?_
                refine R.condT rfl rfl ?_
                refine R.reg rfl <| R.q §12 rfl <| R.q §9 rfl <| R.u 1 rfl <| R.nil ?_
                refine R.reg rfl <| R.u 1 rfl <| R.q (q.fld (off' := 1) rfl tFld_39_1 rfl) rfl <| R.q §9 rfl <| R.u 2 rfl <| R.q §19 rfl <| R.q §9 rfl <| R.q (q.build (cs := §8) tB_39 rfl rfl) rfl <| ?_
                refine R.s rfl (s.st (us := §8) (cs' := §8) 0 _ rfl rfl rfl rfl (.inl tAgg_39) rfl rfl rfl rfl) fun _ => ?_
                refine R.u 1 rfl <| R.nil ?_
                exact R.rr2 rfl Tryz.results88 (RV.cell 0 rfl rfl tAgg_39) (RV.tmp rfl) (congrArg Writ.val (show (⟨id, x.Thing, r, x.Badge, x.ID⟩ : Writ) = §13.1 from by ((first | (rw [derived_w1 §3]) | (rw [derived_b (by omega)]) | (rw [derived_w3 (by omega) §3]) | (rw [derived_w4 (by omega) §3 (by omega)]) | (rw [derived_w7 (by omega) §3 (by omega) (by omega)]) | (rw [derived_w6 (by omega) §3 (by omega) (by omega)]) | (rw [derived_w5 (by omega) §3 (by omega)])) <;> first | rfl | exact rightFault_one §3 | (simp; omega)))) (rI §0)
            · refine R.qg rfl §14 rfl <| R.u 1 rfl <| R.qg rfl §12 rfl <| R.qg rfl §9 rfl <| ?_
              by_cases h8 : x.Badge = 0
              · refine R.qg rfl §10 rfl <| R.u 8 rfl <| R.nil ?_
                refine R.condF rfl rfl ?_
                refine R.reg rfl <| R.q §12 rfl <| R.q §9 rfl <| R.q §10 rfl <| R.nil ?_
                refine R.condF rfl rfl ?_
                refine R.reg rfl <| R.u 1 rfl <| R.q (q.fld (off' := 1) rfl tFld_39_1 rfl) rfl <| R.q §9 rfl <| R.u 2 rfl <| R.q §19 rfl <| R.q §9 rfl <| R.q (q.build (cs := §6) tB_39 rfl rfl) rfl <| ?_
                refine R.s rfl §16 fun _ => ?_
                refine R.u 1 rfl <| R.nil ?_
                exact R.rr2 rfl Tryz.results88 (RV.cell 0 rfl rfl tAgg_39) (RV.tmp rfl) (congrArg Writ.val (show (⟨id, x.Thing, r, b, x.ID⟩ : Writ) = §13.1 from by ((first | (rw [derived_w1 §3]) | (rw [derived_b (by omega)]) | (rw [derived_w3 (by omega) §3]) | (rw [derived_w4 (by omega) §3 (by omega)]) | (rw [derived_w7 (by omega) §3 (by omega) (by omega)]) | (rw [derived_w6 (by omega) §3 (by omega) (by omega)]) | (rw [derived_w5 (by omega) §3 (by omega)])) <;> first | rfl | exact rightFault_one §3 | (simp; omega)))) (rI §0)
              · refine R.qg rfl §14 rfl <| R.u 3 rfl <| R.qg rfl §12 rfl <| R.qg rfl §9 rfl <| ?_
                by_cases h9 : b = x.Badge
                · refine R.qg rfl §10 rfl <| R.u 2 rfl <| R.nil ?_
                  refine R.condF rfl rfl ?_
                  refine R.reg rfl <| R.q §12 rfl <| R.q §9 rfl <| R.q §14 rfl <| R.nil ?_
                  refine R.condT rfl rfl ?_
                  refine R.reg rfl <| R.q §12 rfl <| R.q §9 rfl <| R.u 1 rfl <| R.nil ?_
                  refine R.reg rfl <| R.u 1 rfl <| R.q (q.fld (off' := 1) rfl tFld_39_1 rfl) rfl <| R.q §9 rfl <| R.u 2 rfl <| R.q §19 rfl <| R.q §9 rfl <| R.q (q.build (cs := §8) tB_39 rfl rfl) rfl <| ?_
                  refine R.s rfl (s.st (us := §8) (cs' := §8) 0 _ rfl rfl rfl rfl (.inl tAgg_39) rfl rfl rfl rfl) fun _ => ?_
                  refine R.u 1 rfl <| R.nil ?_
                  exact R.rr2 rfl Tryz.results88 (RV.cell 0 rfl rfl tAgg_39) (RV.tmp rfl) (congrArg Writ.val (show (⟨id, x.Thing, r, x.Badge, x.ID⟩ : Writ) = §13.1 from by ((first | (rw [derived_w1 §3]) | (rw [derived_b (by omega)]) | (rw [derived_w3 (by omega) §3]) | (rw [derived_w4 (by omega) §3 (by omega)]) | (rw [derived_w7 (by omega) §3 (by omega) (by omega)]) | (rw [derived_w6 (by omega) §3 (by omega) (by omega)]) | (rw [derived_w5 (by omega) §3 (by omega)])) <;> first | rfl | exact rightFault_one §3 | (simp; omega)))) (rI §0)
                · refine R.qg rfl §14 rfl <| R.u 2 rfl <| R.nil ?_
                  refine R.condT rfl rfl ?_
                  refine R.reg rfl <| R.q §11 rfl <| ?_
                  refine R.s rfl §5 fun _ => ?_
                  refine R.u 1 rfl <| R.nil ?_
                  exact R.rr2 rfl Tryz.results88 (RV.cell 0 rfl rfl tAgg_39) (RV.tmp rfl) (congrArg Writ.val (show §18 = §13.1 from by ((first | (rw [derived_w1 §3]) | (rw [derived_b (by omega)]) | (rw [derived_w3 (by omega) §3]) | (rw [derived_w4 (by omega) §3 (by omega)]) | (rw [derived_w7 (by omega) §3 (by omega) (by omega)]) | (rw [derived_w6 (by omega) §3 (by omega) (by omega)]) | (rw [derived_w5 (by omega) §3 (by omega)])) <;> first | rfl | exact rightFault_one §3 | (simp; omega)))) (rI §0)
          · refine R.c (q.call eg_68 rfl rfl (fun w hw => (cv (congrArg Value.bool h5) (hasRef_any (x.Rights) (r) w  (by omega) (by omega))))) rfl <| R.u 1 rfl <| R.nil ?_
            refine R.reg rfl <| R.u 17 rfl <| R.nil ?_
            refine R.condT rfl rfl ?_
            refine R.reg rfl <| R.q §11 rfl <| ?_
            refine R.s rfl §5 fun _ => ?_
            refine R.u 1 rfl <| R.nil ?_
            exact R.rr2 rfl Tryz.results88 (RV.cell 0 rfl rfl tAgg_39) (RV.tmp rfl) (congrArg Writ.val (show §18 = §13.1 from by ((first | (rw [derived_w1 §3]) | (rw [derived_b (by omega)]) | (rw [derived_w3 (by omega) §3]) | (rw [derived_w4 (by omega) §3 (by omega)]) | (rw [derived_w7 (by omega) §3 (by omega) (by omega)]) | (rw [derived_w6 (by omega) §3 (by omega) (by omega)]) | (rw [derived_w5 (by omega) §3 (by omega)])) <;> first | rfl | exact rightFault_one §3 | (simp; omega)))) (rI §0)

theorem findLit_any (x : Writ) (id : Int) (b_id : Nat) (w : World) (k_id : (Res.box b_id [.int .i64 id] 3).ok w) : Calls Tryz.prog 63 #[.agg #[.int .i64 x.ID, .int .i64 x.Thing, .int .i64 x.Rights, .int .i64 x.Badge, .int .i64 x.From], .pointer (some ⟨b_id, 0, none⟩)] w fun e w' => e = .returned (.bool (x.ID == id)) ∧ Ext w w' := by
  refine R.enter (n := 8) (vs := [.agg #[.int .i64 x.ID, .int .i64 x.Thing, .int .i64 x.Rights, .int .i64 x.Badge, .int .i64 x.From], .pointer (some ⟨b_id, 0, none⟩)]) [] [(0, .agg #[.int .i64 x.ID, .int .i64 x.Thing, .int .i64 x.Rights, .int .i64 x.Badge, .int .i64 x.From]), (1, .pointer (some ⟨b_id, 0, none⟩))] Tryz.func63 rfl rfl rfl rfl ?_
  refine R.oldF (r := Res.box b_id [.int .i64 id] 3) k_id (box_lt k_id) ?_
  refine R.reg rfl <| ?_
  refine R.s rfl §17 fun b1 => ?_
  refine R.u 1 rfl <| R.nil ?_
  refine R.reg rfl <| R.q §19 rfl <| R.q (q.ld 0 rfl rfl tOne_3 rfl) rfl <| R.q (q.ldF 0 rfl rfl tOne_3 rfl) rfl <| ?_
  by_cases h1 : x.ID = id
  · refine R.q §7 rfl <| R.u 1 rfl <| R.nil ?_
    exact R.rv rfl Tryz.results63 rfl (rB (by (first | exact (beq_iff_eq.2 §3).symm | exact (beq_eq_false_iff_ne.2 §3).symm)))
  · refine R.q §4 rfl <| R.u 1 rfl <| R.nil ?_
    exact R.rv rfl Tryz.results63 rfl (rB (by (first | exact (beq_iff_eq.2 §3).symm | exact (beq_eq_false_iff_ne.2 §3).symm)))

theorem indexFuncW_any (v_l : Value) (l : List Writ) (p : Writ → Bool) (g_p : Nat) (c_p : List Value) (eg_p : ∀ args w, (callFunc g_p args).run Tryz.prog w = .ok (.enter g_p args) w) (w : World) (s_l : Sl w v_l l) (H_p : ∀ W (x1 : Writ), Ext w W → Calls Tryz.prog g_p ([x1.val] ++ c_p).toArray W fun e w' => e = .returned (.bool (p x1)) ∧ Ext W w') : Calls Tryz.prog 62 #[v_l, .func (.func g_p) #[] c_p.toArray] w fun e w' => e = .returned (.int .i64 (idxOf p l)) ∧ Ext w w' := by
  have b_l := s_l.lenle
  refine R.enter (n := 19) (vs := [v_l, .func (.func g_p) #[] c_p.toArray]) [] [(0, v_l), (1, .func (.func g_p) #[] c_p.toArray)] Tryz.func62 rfl rfl rfl rfl ?_
  refine R.reg rfl <| R.u 1 rfl <| R.nil ?_
  refine R.reg rfl <| R.u 1 rfl <| R.q (q.len' (fun _ => Wd.old s_l) rfl Tryz.underlying25) rfl <| R.u 1 rfl <| R.nil ?_
  refine R.loop (fun k : Nat => [(0, v_l), (1, .func (.func g_p) #[] c_p.toArray), (7, .int .i64 (l.length : Int)), (8, .int .i64 (k : Int))]) (fun k : Nat => []) (fun k : Nat => []) (fun k : Nat => k ≤ l.length ∧ ∀ (j : Nat) x, j < k → l[j]? = some x → p x = false) (fun k : Nat => l.length - k) 0 rfl (by exact ⟨by omega, fun j x hj => absurd hj (Nat.not_lt_zero _)⟩) ⟨rfl, rfl, rfl, rfl, trivial⟩ (fun _ => Wd.pick [] [] rfl rfl rfl) ?_
  rintro k ⟨hk, HA⟩
  refine R.reg rfl <| ?_
  by_cases h1 : k < l.length
  · refine R.q (q.lss rfl rfl (decide_eq_true (by omega))) rfl <| R.nil ?_
    refine R.condT rfl rfl ?_
    refine R.reg rfl <| R.u 2 rfl <| R.nil ?_
    refine R.reg rfl <| R.u 3 rfl <| ?_
    obtain ⟨x1, hx1⟩ : ∃ z, l[k]? = some z := ⟨_, List.getElem?_eq_getElem (by omega)⟩
    refine R.q (q.idx (i := k) (fun _ => Wd.old s_l) rfl rfl tSl_25 rfl hx1) rfl <| R.q (q.ldES (ds := [.int .i64 x1.ID, .int .i64 x1.Thing, .int .i64 x1.Rights, .int .i64 x1.Badge, .int .i64 x1.From]) (fun _ => Wd.old s_l) hx1 rfl tAgg_39 rfl) rfl <| ?_
    rcases Bool.eq_false_or_eq_true (p x1) with h2 | h2
    · refine R.c (q.call eg_p rfl rfl (fun w hw => cv (congrArg Value.bool h2) (H_p w x1 hw.ext))) rfl <| R.nil ?_
      refine R.condT rfl rfl ?_
      refine R.reg rfl <| R.u 2 rfl <| R.nil ?_
      exact R.rv rfl Tryz.results62 rfl (rI (by (first | exact (idxOf_hit hx1 §3 HA).symm | exact (idxOf_miss §3 HA).symm)))
    · refine R.c (q.call eg_p rfl rfl (fun w hw => cv (congrArg Value.bool h2) (H_p w x1 hw.ext))) rfl <| R.nil ?_
      refine R.condF rfl rfl ?_
      refine R.reg rfl <| R.q (q.add (r := ((k + 1 : Nat) : Int)) rfl rfl (wr (by omega))) rfl <| R.u 1 rfl <| R.nil ?_
      refine R.back (k + 1) rfl (by (exact ⟨by omega, none_step HA hx1 §3⟩)) (by omega) ⟨rfl, rfl, rfl, rfl, trivial⟩ (fun _ => Wd.pick [] [] rfl rfl rfl)
  · refine R.q (q.lss rfl rfl (decide_eq_false (by omega))) rfl <| R.nil ?_
    refine R.condF rfl rfl ?_
    refine R.reg rfl <| R.u 1 rfl <| R.nil ?_
    exact R.rv rfl Tryz.results62 rfl (rI (by (first | exact (idxOf_hit hx1 §3 HA).symm | exact (idxOf_miss §3 HA).symm)))

theorem find_any (v_l : Value) (l : List Writ) (id : Int) (w : World) (s_l : Sl w v_l l) : Calls Tryz.prog 24 #[v_l, .int .i64 id] w fun e w' => e = .returned (.int .i64 (findW l id)) ∧ Ext w w' := by
  have b_l := s_l.lenle
  refine R.enter (n := 8) (vs := [v_l, .int .i64 id]) [] [(0, v_l), (1, .int .i64 id)] Tryz.func24 rfl rfl rfl rfl ?_
  refine R.reg rfl <| ?_
  refine R.s rfl (s.box (cs := [.int .i64 id]) rfl rfl rfl) fun b1 => ?_
  refine R.u 1 rfl <| R.nil ?_
  refine R.reg rfl <| R.u 1 rfl <| R.q (q.mkf (cap := [.pointer (some ⟨b1, 0, none⟩)]) rfl rfl) rfl <| R.c (q.call eg_62 rfl rfl (fun w hw => (indexFuncW_any _ (l) (fun (x : Writ) => x.ID == id) _ _ eg_63 w ((fun _ => Wd.old s_l) w hw) (fun W x hW => findLit_any x (id) _ W (box_ext (hw.b 0 rfl) hW) ) ))) rfl <| R.u 1 rfl <| R.nil ?_
  exact R.rv rfl Tryz.results24 rfl (rI (by (rfl)))

theorem findRef_any (v_l : Value) (l : List Writ) (id : Int) (w : World) (s_l : Sl w v_l l) : Calls Tryz.prog 27 #[v_l, .int .i64 id] w fun e w' => e = .returned (.int .i64 (findW l id)) ∧ Ext w w' := by
  have b_l := s_l.lenle
  refine R.enter (n := 20) (vs := [v_l, .int .i64 id]) [] [(0, v_l), (1, .int .i64 id)] Tryz.func27 rfl rfl rfl rfl ?_
  refine R.reg rfl <| R.u 1 rfl <| R.nil ?_
  refine R.reg rfl <| R.u 1 rfl <| R.nil ?_
  refine R.loop (fun k : Nat => [(0, v_l), (1, .int .i64 id), (5, .int .i64 (k : Int))]) (fun k : Nat => []) (fun k : Nat => []) (fun k : Nat => k ≤ l.length ∧ ∀ (j : Nat) x, j < k → l[j]? = some x → (x.ID == id) = false) (fun k : Nat => l.length - k) 0 rfl (by exact ⟨by omega, fun j x hj => absurd hj (Nat.not_lt_zero _)⟩) ⟨rfl, rfl, rfl, trivial⟩ (fun _ => Wd.pick [] [] rfl rfl rfl) ?_
  rintro k ⟨hk, HA⟩
  refine R.reg rfl <| R.u 2 rfl <| R.q (q.len' (fun _ => Wd.old s_l) rfl Tryz.underlying25) rfl <| ?_
  by_cases h1 : k < l.length
  · refine R.q (q.lss rfl rfl (decide_eq_true (by omega))) rfl <| R.nil ?_
    refine R.condT rfl rfl ?_
    refine R.reg rfl <| R.u 2 rfl <| ?_
    obtain ⟨x1, hx1⟩ : ∃ z, l[k]? = some z := ⟨_, List.getElem?_eq_getElem (by omega)⟩
    refine R.q (q.idx (i := k) (fun _ => Wd.old s_l) rfl rfl tSl_25 rfl hx1) rfl <| R.q (q.fldE (j' := 0) (fun _ => Wd.old s_l) hx1 rfl tFld_39_0 rfl) rfl <| R.q (q.ldE (fun _ => Wd.old s_l) hx1 rfl tOne_3 rfl) rfl <| R.u 1 rfl <| ?_
    by_cases h2 : x1.ID = id
    · refine R.q §7 rfl <| R.nil ?_
      refine R.condT rfl rfl ?_
      refine R.reg rfl <| R.u 2 rfl <| R.nil ?_
      exact R.rv rfl Tryz.results27 rfl (rI (by (rw [findW_idx]; first | exact (idxOf_hit (p := fun x => x.ID == id) hx1 (beq_iff_eq.2 h2) HA).symm | exact (idxOf_miss h1 HA).symm)))
    · refine R.q §4 rfl <| R.nil ?_
      refine R.condF rfl rfl ?_
      refine R.reg rfl <| R.u 1 rfl <| R.q (q.add (r := ((k + 1 : Nat) : Int)) rfl rfl (wr (by omega))) rfl <| R.u 1 rfl <| R.nil ?_
      refine R.back (k + 1) rfl (by (exact ⟨by omega, none_step (p := fun x => x.ID == id) HA hx1 (beq_eq_false_iff_ne.2 h2)⟩)) (by omega) ⟨rfl, rfl, rfl, trivial⟩ (fun _ => Wd.pick [] [] rfl rfl rfl)
  · refine R.q (q.lss rfl rfl (decide_eq_false (by omega))) rfl <| R.nil ?_
    refine R.condF rfl rfl ?_
    refine R.reg rfl <| R.u 1 rfl <| R.nil ?_
    exact R.rv rfl Tryz.results27 rfl (rI (by (rw [findW_idx]; first | exact (idxOf_hit (p := fun x => x.ID == id) hx1 (beq_iff_eq.2 h2) HA).symm | exact (idxOf_miss h1 HA).symm)))

end Go.Proofs.YtpipachmngdegaaGreat
end
