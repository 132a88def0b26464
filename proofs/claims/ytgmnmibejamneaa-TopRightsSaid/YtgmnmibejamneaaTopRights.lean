/-
  The walk of the statement TopRights: it returns true; the world is as it was.
-/
import Derived.Test.YtgmnmibejamneaaRightOf
namespace Go.Proofs.Ytgmnmibejamneaa
open Go.RowKit
set_option linter.unusedVariables false

theorem parse_int (a : Int) (w : World) (a0 : 0 ≤ a) (a7 : a ≤ 7) : Calls Try.prog 40 #[.string ⟨(textL a.toNat).toArray⟩] w fun e w' => e = .returned (.tuple #[.int .i64 a, .nilIface]) ∧ w = w' := by
  have h := parse_hit a.toNat (by omega) w
  rw [show ((a.toNat : Nat) : Int) = a by omega] at h
  exact h
theorem text_ne {a b : Int} (a0 : 0 ≤ a) (a7 : a ≤ 7) (b0 : 0 ≤ b) (b7 : b ≤ 7) (h : ¬ a = b) : (textL a.toNat == textL b.toNat) = false := by
  rw [beq_eq_false_iff_ne]
  intro e
  have h1 := textB_inj (i := a.toNat) (j := b.toNat) (by omega) (by omega) (by unfold textB; rw [e])
  omega

set_option maxRecDepth 100000 in
set_option maxHeartbeats 4000000 in
theorem tr_a (a b c : Int) (ha : a < 0 ∨ 7 < a) (w : World) :
    Calls Try.prog 13 #[.int .i64 a, .int .i64 b, .int .i64 c] w fun e w' => e = .returned (.bool true) ∧ w = w' := by
  have HCA := Lib.hid (rightFault_bad (r := a) ha)
  have ht0 : (textL 0 == [45]) = true := by decide
  go_enter Try.func13, Try.ntmps13
  go_wp2_with (first
      | (go_at_call 42; (with_reducible refine (both_any 7 5 _ (by decide) (by decide) (by decide) (by decide)).mono ?_); rintro e w' ⟨rfl, rfl⟩; rw [show bothR 7 5 = 5 from by decide])
      | (go_at_call 37; (with_reducible refine (text_0 _).mono ?_); rintro e w' ⟨rfl, rfl⟩)
      | (go_at_call 39; (with_reducible refine (rightCheck_any a _).mono ?_); rintro e w' ⟨rfl, rfl⟩; rw [HCA.out, errv_pos (by decide)]))
  go_ret
  exact ⟨rfl, rfl⟩

set_option maxRecDepth 100000 in
set_option maxHeartbeats 4000000 in
theorem tr_b (a b c : Int) (a0 : 0 ≤ a) (a7 : a ≤ 7) (hb : b < 0 ∨ 7 < b) (w : World) :
    Calls Try.prog 13 #[.int .i64 a, .int .i64 b, .int .i64 c] w fun e w' => e = .returned (.bool true) ∧ w = w' := by
  have HCA := Lib.hid (rightFault_ok (r := a) a0 a7)
  have HCB := Lib.hid (rightFault_bad (r := b) hb)
  have ht0 : (textL 0 == [45]) = true := by decide
  go_enter Try.func13, Try.ntmps13
  go_wp2_with (first
      | (go_at_call 42; (with_reducible refine (both_any 7 5 _ (by decide) (by decide) (by decide) (by decide)).mono ?_); rintro e w' ⟨rfl, rfl⟩; rw [show bothR 7 5 = 5 from by decide])
      | (go_at_call 37; (with_reducible refine (text_0 _).mono ?_); rintro e w' ⟨rfl, rfl⟩)
      | (go_at_call 39; (with_reducible refine (rightCheck_any a _).mono ?_); rintro e w' ⟨rfl, rfl⟩; rw [HCA.out, errv_zero])
      | (go_at_call 39; (with_reducible refine (rightCheck_any b _).mono ?_); rintro e w' ⟨rfl, rfl⟩; rw [HCB.out, errv_pos (by decide)]))
  go_ret
  exact ⟨rfl, rfl⟩

set_option maxRecDepth 100000 in
set_option maxHeartbeats 4000000 in
theorem tr_c (a b c : Int) (a0 : 0 ≤ a) (a7 : a ≤ 7) (b0 : 0 ≤ b) (b7 : b ≤ 7) (hc : c < 0 ∨ 7 < c) (w : World) :
    Calls Try.prog 13 #[.int .i64 a, .int .i64 b, .int .i64 c] w fun e w' => e = .returned (.bool true) ∧ w = w' := by
  have HCA := Lib.hid (rightFault_ok (r := a) a0 a7)
  have HCB := Lib.hid (rightFault_ok (r := b) b0 b7)
  have HCC := Lib.hid (rightFault_bad (r := c) hc)
  have ht0 : (textL 0 == [45]) = true := by decide
  go_enter Try.func13, Try.ntmps13
  go_wp2_with (first
      | (go_at_call 42; (with_reducible refine (both_any 7 5 _ (by decide) (by decide) (by decide) (by decide)).mono ?_); rintro e w' ⟨rfl, rfl⟩; rw [show bothR 7 5 = 5 from by decide])
      | (go_at_call 37; (with_reducible refine (text_0 _).mono ?_); rintro e w' ⟨rfl, rfl⟩)
      | (go_at_call 39; (with_reducible refine (rightCheck_any a _).mono ?_); rintro e w' ⟨rfl, rfl⟩; rw [HCA.out, errv_zero])
      | (go_at_call 39; (with_reducible refine (rightCheck_any b _).mono ?_); rintro e w' ⟨rfl, rfl⟩; rw [HCB.out, errv_zero])
      | (go_at_call 39; (with_reducible refine (rightCheck_any c _).mono ?_); rintro e w' ⟨rfl, rfl⟩; rw [HCC.out, errv_pos (by decide)]))
  go_ret
  exact ⟨rfl, rfl⟩

set_option maxRecDepth 100000 in
set_option maxHeartbeats 4000000 in
theorem tr_00 (a b c : Int) (a0 : 0 ≤ a) (a7 : a ≤ 7) (b0 : 0 ≤ b) (b7 : b ≤ 7) (c0 : 0 ≤ c) (c7 : c ≤ 7) (hac : hasR a c = false) (he1 : (textL a.toNat == textL b.toNat) = true) (he2 : (a == b) = true) (w : World) :
    Calls Try.prog 13 #[.int .i64 a, .int .i64 b, .int .i64 c] w fun e w' => e = .returned (.bool true) ∧ w = w' := by
  have HCA := Lib.hid (rightFault_ok (r := a) a0 a7)
  have HCB := Lib.hid (rightFault_ok (r := b) b0 b7)
  have HCC := Lib.hid (rightFault_ok (r := c) c0 c7)
  obtain ⟨m0, m7⟩ := bothR_range (b := b) a0 a7
  have HB1 := Lib.hid (has_both a0 a7 b0 b7).1
  have HB2 := Lib.hid (has_both a0 a7 b0 b7).2
  have HE1 := Lib.hid (has_ends a0 a7).1
  have HE2 := Lib.hid (has_ends a0 a7).2
  have HAC := Lib.hid hac; clear hac
  have ht0 : (textL 0 == [45]) = true := by decide
  go_enter Try.func13, Try.ntmps13
  go_wp2_with (first
      | (go_at_call 42; (with_reducible refine (both_any 7 5 _ (by decide) (by decide) (by decide) (by decide)).mono ?_); rintro e w' ⟨rfl, rfl⟩; rw [show bothR 7 5 = 5 from by decide])
      | (go_at_call 37; (with_reducible refine (text_0 _).mono ?_); rintro e w' ⟨rfl, rfl⟩)
      | (go_at_call 39; (with_reducible refine (rightCheck_any a _).mono ?_); rintro e w' ⟨rfl, rfl⟩; rw [HCA.out, errv_zero])
      | (go_at_call 39; (with_reducible refine (rightCheck_any b _).mono ?_); rintro e w' ⟨rfl, rfl⟩; rw [HCB.out, errv_zero])
      | (go_at_call 39; (with_reducible refine (rightCheck_any c _).mono ?_); rintro e w' ⟨rfl, rfl⟩; rw [HCC.out, errv_zero])
      | (go_at_call 42; refine (both_any a b _ a0 a7 b0 b7).mono ?_; rintro e w' ⟨rfl, rfl⟩)
      | (go_at_call 38; (with_reducible refine (rightHas_any a (bothR a b) _ a0 a7 m0 m7).mono ?_); rintro e w' ⟨rfl, rfl⟩; rw [HB1.out])
      | (go_at_call 38; (with_reducible refine (rightHas_any b (bothR a b) _ b0 b7 m0 m7).mono ?_); rintro e w' ⟨rfl, rfl⟩; rw [HB2.out])
      | (go_at_call 38; (with_reducible refine (rightHas_any a c _ a0 a7 c0 c7).mono ?_); rintro e w' ⟨rfl, rfl⟩; rw [HAC.out])
      | (go_at_call 38; (with_reducible refine (rightHas_any a 0 _ a0 a7 (by decide) (by decide)).mono ?_); rintro e w' ⟨rfl, rfl⟩; rw [HE1.out])
      | (go_at_call 38; (with_reducible refine (rightHas_any 7 a _ (by decide) (by decide) a0 a7).mono ?_); rintro e w' ⟨rfl, rfl⟩; rw [HE2.out])
      | (go_at_call 37; (with_reducible refine (text_any a _ a0 a7).mono ?_); rintro e w' ⟨rfl, rfl⟩)
      | (go_at_call 37; (with_reducible refine (text_any b _ b0 b7).mono ?_); rintro e w' ⟨rfl, rfl⟩)
      | (go_at_call 40; refine (parse_int a _ a0 a7).mono ?_; rintro e w' ⟨rfl, rfl⟩))
  go_ret
  exact ⟨rfl, rfl⟩

set_option maxRecDepth 100000 in
set_option maxHeartbeats 4000000 in
theorem tr_01 (a b c : Int) (a0 : 0 ≤ a) (a7 : a ≤ 7) (b0 : 0 ≤ b) (b7 : b ≤ 7) (c0 : 0 ≤ c) (c7 : c ≤ 7) (hac : hasR a c = true) (hbc : hasR b c = false) (he1 : (textL a.toNat == textL b.toNat) = true) (he2 : (a == b) = true) (w : World) :
    Calls Try.prog 13 #[.int .i64 a, .int .i64 b, .int .i64 c] w fun e w' => e = .returned (.bool true) ∧ w = w' := by
  have HCA := Lib.hid (rightFault_ok (r := a) a0 a7)
  have HCB := Lib.hid (rightFault_ok (r := b) b0 b7)
  have HCC := Lib.hid (rightFault_ok (r := c) c0 c7)
  obtain ⟨m0, m7⟩ := bothR_range (b := b) a0 a7
  have HB1 := Lib.hid (has_both a0 a7 b0 b7).1
  have HB2 := Lib.hid (has_both a0 a7 b0 b7).2
  have HE1 := Lib.hid (has_ends a0 a7).1
  have HE2 := Lib.hid (has_ends a0 a7).2
  have HAC := Lib.hid hac; clear hac
  have HBC := Lib.hid hbc; clear hbc
  have ht0 : (textL 0 == [45]) = true := by decide
  go_enter Try.func13, Try.ntmps13
  go_wp2_with (first
      | (go_at_call 42; (with_reducible refine (both_any 7 5 _ (by decide) (by decide) (by decide) (by decide)).mono ?_); rintro e w' ⟨rfl, rfl⟩; rw [show bothR 7 5 = 5 from by decide])
      | (go_at_call 37; (with_reducible refine (text_0 _).mono ?_); rintro e w' ⟨rfl, rfl⟩)
      | (go_at_call 39; (with_reducible refine (rightCheck_any a _).mono ?_); rintro e w' ⟨rfl, rfl⟩; rw [HCA.out, errv_zero])
      | (go_at_call 39; (with_reducible refine (rightCheck_any b _).mono ?_); rintro e w' ⟨rfl, rfl⟩; rw [HCB.out, errv_zero])
      | (go_at_call 39; (with_reducible refine (rightCheck_any c _).mono ?_); rintro e w' ⟨rfl, rfl⟩; rw [HCC.out, errv_zero])
      | (go_at_call 42; refine (both_any a b _ a0 a7 b0 b7).mono ?_; rintro e w' ⟨rfl, rfl⟩)
      | (go_at_call 38; (with_reducible refine (rightHas_any a (bothR a b) _ a0 a7 m0 m7).mono ?_); rintro e w' ⟨rfl, rfl⟩; rw [HB1.out])
      | (go_at_call 38; (with_reducible refine (rightHas_any b (bothR a b) _ b0 b7 m0 m7).mono ?_); rintro e w' ⟨rfl, rfl⟩; rw [HB2.out])
      | (go_at_call 38; (with_reducible refine (rightHas_any a c _ a0 a7 c0 c7).mono ?_); rintro e w' ⟨rfl, rfl⟩; rw [HAC.out])
      | (go_at_call 38; (with_reducible refine (rightHas_any b c _ b0 b7 c0 c7).mono ?_); rintro e w' ⟨rfl, rfl⟩; rw [HBC.out])
      | (go_at_call 38; (with_reducible refine (rightHas_any a 0 _ a0 a7 (by decide) (by decide)).mono ?_); rintro e w' ⟨rfl, rfl⟩; rw [HE1.out])
      | (go_at_call 38; (with_reducible refine (rightHas_any 7 a _ (by decide) (by decide) a0 a7).mono ?_); rintro e w' ⟨rfl, rfl⟩; rw [HE2.out])
      | (go_at_call 37; (with_reducible refine (text_any a _ a0 a7).mono ?_); rintro e w' ⟨rfl, rfl⟩)
      | (go_at_call 37; (with_reducible refine (text_any b _ b0 b7).mono ?_); rintro e w' ⟨rfl, rfl⟩)
      | (go_at_call 40; refine (parse_int a _ a0 a7).mono ?_; rintro e w' ⟨rfl, rfl⟩))
  go_ret
  exact ⟨rfl, rfl⟩

set_option maxRecDepth 100000 in
set_option maxHeartbeats 4000000 in
theorem tr_02 (a b c : Int) (a0 : 0 ≤ a) (a7 : a ≤ 7) (b0 : 0 ≤ b) (b7 : b ≤ 7) (c0 : 0 ≤ c) (c7 : c ≤ 7) (hac : hasR a c = true) (hbc : hasR b c = true) (hmc : hasR (bothR a b) c = true) (he1 : (textL a.toNat == textL b.toNat) = true) (he2 : (a == b) = true) (w : World) :
    Calls Try.prog 13 #[.int .i64 a, .int .i64 b, .int .i64 c] w fun e w' => e = .returned (.bool true) ∧ w = w' := by
  have HCA := Lib.hid (rightFault_ok (r := a) a0 a7)
  have HCB := Lib.hid (rightFault_ok (r := b) b0 b7)
  have HCC := Lib.hid (rightFault_ok (r := c) c0 c7)
  obtain ⟨m0, m7⟩ := bothR_range (b := b) a0 a7
  have HB1 := Lib.hid (has_both a0 a7 b0 b7).1
  have HB2 := Lib.hid (has_both a0 a7 b0 b7).2
  have HE1 := Lib.hid (has_ends a0 a7).1
  have HE2 := Lib.hid (has_ends a0 a7).2
  have HAC := Lib.hid hac; clear hac
  have HBC := Lib.hid hbc; clear hbc
  have HMC := Lib.hid hmc; clear hmc
  have ht0 : (textL 0 == [45]) = true := by decide
  go_enter Try.func13, Try.ntmps13
  go_wp2_with (first
      | (go_at_call 42; (with_reducible refine (both_any 7 5 _ (by decide) (by decide) (by decide) (by decide)).mono ?_); rintro e w' ⟨rfl, rfl⟩; rw [show bothR 7 5 = 5 from by decide])
      | (go_at_call 37; (with_reducible refine (text_0 _).mono ?_); rintro e w' ⟨rfl, rfl⟩)
      | (go_at_call 39; (with_reducible refine (rightCheck_any a _).mono ?_); rintro e w' ⟨rfl, rfl⟩; rw [HCA.out, errv_zero])
      | (go_at_call 39; (with_reducible refine (rightCheck_any b _).mono ?_); rintro e w' ⟨rfl, rfl⟩; rw [HCB.out, errv_zero])
      | (go_at_call 39; (with_reducible refine (rightCheck_any c _).mono ?_); rintro e w' ⟨rfl, rfl⟩; rw [HCC.out, errv_zero])
      | (go_at_call 42; refine (both_any a b _ a0 a7 b0 b7).mono ?_; rintro e w' ⟨rfl, rfl⟩)
      | (go_at_call 38; (with_reducible refine (rightHas_any a (bothR a b) _ a0 a7 m0 m7).mono ?_); rintro e w' ⟨rfl, rfl⟩; rw [HB1.out])
      | (go_at_call 38; (with_reducible refine (rightHas_any b (bothR a b) _ b0 b7 m0 m7).mono ?_); rintro e w' ⟨rfl, rfl⟩; rw [HB2.out])
      | (go_at_call 38; (with_reducible refine (rightHas_any a c _ a0 a7 c0 c7).mono ?_); rintro e w' ⟨rfl, rfl⟩; rw [HAC.out])
      | (go_at_call 38; (with_reducible refine (rightHas_any b c _ b0 b7 c0 c7).mono ?_); rintro e w' ⟨rfl, rfl⟩; rw [HBC.out])
      | (go_at_call 38; (with_reducible refine (rightHas_any (bothR a b) c _ m0 m7 c0 c7).mono ?_); rintro e w' ⟨rfl, rfl⟩; rw [HMC.out])
      | (go_at_call 38; (with_reducible refine (rightHas_any a 0 _ a0 a7 (by decide) (by decide)).mono ?_); rintro e w' ⟨rfl, rfl⟩; rw [HE1.out])
      | (go_at_call 38; (with_reducible refine (rightHas_any 7 a _ (by decide) (by decide) a0 a7).mono ?_); rintro e w' ⟨rfl, rfl⟩; rw [HE2.out])
      | (go_at_call 37; (with_reducible refine (text_any a _ a0 a7).mono ?_); rintro e w' ⟨rfl, rfl⟩)
      | (go_at_call 37; (with_reducible refine (text_any b _ b0 b7).mono ?_); rintro e w' ⟨rfl, rfl⟩)
      | (go_at_call 40; refine (parse_int a _ a0 a7).mono ?_; rintro e w' ⟨rfl, rfl⟩))
  go_ret
  exact ⟨rfl, rfl⟩

set_option maxRecDepth 100000 in
set_option maxHeartbeats 4000000 in
theorem tr_10 (a b c : Int) (a0 : 0 ≤ a) (a7 : a ≤ 7) (b0 : 0 ≤ b) (b7 : b ≤ 7) (c0 : 0 ≤ c) (c7 : c ≤ 7) (hac : hasR a c = false) (he1 : (textL a.toNat == textL b.toNat) = false) (he2 : (a == b) = false) (w : World) :
    Calls Try.prog 13 #[.int .i64 a, .int .i64 b, .int .i64 c] w fun e w' => e = .returned (.bool true) ∧ w = w' := by
  have HCA := Lib.hid (rightFault_ok (r := a) a0 a7)
  have HCB := Lib.hid (rightFault_ok (r := b) b0 b7)
  have HCC := Lib.hid (rightFault_ok (r := c) c0 c7)
  obtain ⟨m0, m7⟩ := bothR_range (b := b) a0 a7
  have HB1 := Lib.hid (has_both a0 a7 b0 b7).1
  have HB2 := Lib.hid (has_both a0 a7 b0 b7).2
  have HE1 := Lib.hid (has_ends a0 a7).1
  have HE2 := Lib.hid (has_ends a0 a7).2
  have HAC := Lib.hid hac; clear hac
  have ht0 : (textL 0 == [45]) = true := by decide
  go_enter Try.func13, Try.ntmps13
  go_wp2_with (first
      | (go_at_call 42; (with_reducible refine (both_any 7 5 _ (by decide) (by decide) (by decide) (by decide)).mono ?_); rintro e w' ⟨rfl, rfl⟩; rw [show bothR 7 5 = 5 from by decide])
      | (go_at_call 37; (with_reducible refine (text_0 _).mono ?_); rintro e w' ⟨rfl, rfl⟩)
      | (go_at_call 39; (with_reducible refine (rightCheck_any a _).mono ?_); rintro e w' ⟨rfl, rfl⟩; rw [HCA.out, errv_zero])
      | (go_at_call 39; (with_reducible refine (rightCheck_any b _).mono ?_); rintro e w' ⟨rfl, rfl⟩; rw [HCB.out, errv_zero])
      | (go_at_call 39; (with_reducible refine (rightCheck_any c _).mono ?_); rintro e w' ⟨rfl, rfl⟩; rw [HCC.out, errv_zero])
      | (go_at_call 42; refine (both_any a b _ a0 a7 b0 b7).mono ?_; rintro e w' ⟨rfl, rfl⟩)
      | (go_at_call 38; (with_reducible refine (rightHas_any a (bothR a b) _ a0 a7 m0 m7).mono ?_); rintro e w' ⟨rfl, rfl⟩; rw [HB1.out])
      | (go_at_call 38; (with_reducible refine (rightHas_any b (bothR a b) _ b0 b7 m0 m7).mono ?_); rintro e w' ⟨rfl, rfl⟩; rw [HB2.out])
      | (go_at_call 38; (with_reducible refine (rightHas_any a c _ a0 a7 c0 c7).mono ?_); rintro e w' ⟨rfl, rfl⟩; rw [HAC.out])
      | (go_at_call 38; (with_reducible refine (rightHas_any a 0 _ a0 a7 (by decide) (by decide)).mono ?_); rintro e w' ⟨rfl, rfl⟩; rw [HE1.out])
      | (go_at_call 38; (with_reducible refine (rightHas_any 7 a _ (by decide) (by decide) a0 a7).mono ?_); rintro e w' ⟨rfl, rfl⟩; rw [HE2.out])
      | (go_at_call 37; (with_reducible refine (text_any a _ a0 a7).mono ?_); rintro e w' ⟨rfl, rfl⟩)
      | (go_at_call 37; (with_reducible refine (text_any b _ b0 b7).mono ?_); rintro e w' ⟨rfl, rfl⟩)
      | (go_at_call 40; refine (parse_int a _ a0 a7).mono ?_; rintro e w' ⟨rfl, rfl⟩))
  go_ret
  exact ⟨rfl, rfl⟩

set_option maxRecDepth 100000 in
set_option maxHeartbeats 4000000 in
theorem tr_11 (a b c : Int) (a0 : 0 ≤ a) (a7 : a ≤ 7) (b0 : 0 ≤ b) (b7 : b ≤ 7) (c0 : 0 ≤ c) (c7 : c ≤ 7) (hac : hasR a c = true) (hbc : hasR b c = false) (he1 : (textL a.toNat == textL b.toNat) = false) (he2 : (a == b) = false) (w : World) :
    Calls Try.prog 13 #[.int .i64 a, .int .i64 b, .int .i64 c] w fun e w' => e = .returned (.bool true) ∧ w = w' := by
  have HCA := Lib.hid (rightFault_ok (r := a) a0 a7)
  have HCB := Lib.hid (rightFault_ok (r := b) b0 b7)
  have HCC := Lib.hid (rightFault_ok (r := c) c0 c7)
  obtain ⟨m0, m7⟩ := bothR_range (b := b) a0 a7
  have HB1 := Lib.hid (has_both a0 a7 b0 b7).1
  have HB2 := Lib.hid (has_both a0 a7 b0 b7).2
  have HE1 := Lib.hid (has_ends a0 a7).1
  have HE2 := Lib.hid (has_ends a0 a7).2
  have HAC := Lib.hid hac; clear hac
  have HBC := Lib.hid hbc; clear hbc
  have ht0 : (textL 0 == [45]) = true := by decide
  go_enter Try.func13, Try.ntmps13
  go_wp2_with (first
      | (go_at_call 42; (with_reducible refine (both_any 7 5 _ (by decide) (by decide) (by decide) (by decide)).mono ?_); rintro e w' ⟨rfl, rfl⟩; rw [show bothR 7 5 = 5 from by decide])
      | (go_at_call 37; (with_reducible refine (text_0 _).mono ?_); rintro e w' ⟨rfl, rfl⟩)
      | (go_at_call 39; (with_reducible refine (rightCheck_any a _).mono ?_); rintro e w' ⟨rfl, rfl⟩; rw [HCA.out, errv_zero])
      | (go_at_call 39; (with_reducible refine (rightCheck_any b _).mono ?_); rintro e w' ⟨rfl, rfl⟩; rw [HCB.out, errv_zero])
      | (go_at_call 39; (with_reducible refine (rightCheck_any c _).mono ?_); rintro e w' ⟨rfl, rfl⟩; rw [HCC.out, errv_zero])
      | (go_at_call 42; refine (both_any a b _ a0 a7 b0 b7).mono ?_; rintro e w' ⟨rfl, rfl⟩)
      | (go_at_call 38; (with_reducible refine (rightHas_any a (bothR a b) _ a0 a7 m0 m7).mono ?_); rintro e w' ⟨rfl, rfl⟩; rw [HB1.out])
      | (go_at_call 38; (with_reducible refine (rightHas_any b (bothR a b) _ b0 b7 m0 m7).mono ?_); rintro e w' ⟨rfl, rfl⟩; rw [HB2.out])
      | (go_at_call 38; (with_reducible refine (rightHas_any a c _ a0 a7 c0 c7).mono ?_); rintro e w' ⟨rfl, rfl⟩; rw [HAC.out])
      | (go_at_call 38; (with_reducible refine (rightHas_any b c _ b0 b7 c0 c7).mono ?_); rintro e w' ⟨rfl, rfl⟩; rw [HBC.out])
      | (go_at_call 38; (with_reducible refine (rightHas_any a 0 _ a0 a7 (by decide) (by decide)).mono ?_); rintro e w' ⟨rfl, rfl⟩; rw [HE1.out])
      | (go_at_call 38; (with_reducible refine (rightHas_any 7 a _ (by decide) (by decide) a0 a7).mono ?_); rintro e w' ⟨rfl, rfl⟩; rw [HE2.out])
      | (go_at_call 37; (with_reducible refine (text_any a _ a0 a7).mono ?_); rintro e w' ⟨rfl, rfl⟩)
      | (go_at_call 37; (with_reducible refine (text_any b _ b0 b7).mono ?_); rintro e w' ⟨rfl, rfl⟩)
      | (go_at_call 40; refine (parse_int a _ a0 a7).mono ?_; rintro e w' ⟨rfl, rfl⟩))
  go_ret
  exact ⟨rfl, rfl⟩

set_option maxRecDepth 100000 in
set_option maxHeartbeats 4000000 in
theorem tr_12 (a b c : Int) (a0 : 0 ≤ a) (a7 : a ≤ 7) (b0 : 0 ≤ b) (b7 : b ≤ 7) (c0 : 0 ≤ c) (c7 : c ≤ 7) (hac : hasR a c = true) (hbc : hasR b c = true) (hmc : hasR (bothR a b) c = true) (he1 : (textL a.toNat == textL b.toNat) = false) (he2 : (a == b) = false) (w : World) :
    Calls Try.prog 13 #[.int .i64 a, .int .i64 b, .int .i64 c] w fun e w' => e = .returned (.bool true) ∧ w = w' := by
  have HCA := Lib.hid (rightFault_ok (r := a) a0 a7)
  have HCB := Lib.hid (rightFault_ok (r := b) b0 b7)
  have HCC := Lib.hid (rightFault_ok (r := c) c0 c7)
  obtain ⟨m0, m7⟩ := bothR_range (b := b) a0 a7
  have HB1 := Lib.hid (has_both a0 a7 b0 b7).1
  have HB2 := Lib.hid (has_both a0 a7 b0 b7).2
  have HE1 := Lib.hid (has_ends a0 a7).1
  have HE2 := Lib.hid (has_ends a0 a7).2
  have HAC := Lib.hid hac; clear hac
  have HBC := Lib.hid hbc; clear hbc
  have HMC := Lib.hid hmc; clear hmc
  have ht0 : (textL 0 == [45]) = true := by decide
  go_enter Try.func13, Try.ntmps13
  go_wp2_with (first
      | (go_at_call 42; (with_reducible refine (both_any 7 5 _ (by decide) (by decide) (by decide) (by decide)).mono ?_); rintro e w' ⟨rfl, rfl⟩; rw [show bothR 7 5 = 5 from by decide])
      | (go_at_call 37; (with_reducible refine (text_0 _).mono ?_); rintro e w' ⟨rfl, rfl⟩)
      | (go_at_call 39; (with_reducible refine (rightCheck_any a _).mono ?_); rintro e w' ⟨rfl, rfl⟩; rw [HCA.out, errv_zero])
      | (go_at_call 39; (with_reducible refine (rightCheck_any b _).mono ?_); rintro e w' ⟨rfl, rfl⟩; rw [HCB.out, errv_zero])
      | (go_at_call 39; (with_reducible refine (rightCheck_any c _).mono ?_); rintro e w' ⟨rfl, rfl⟩; rw [HCC.out, errv_zero])
      | (go_at_call 42; refine (both_any a b _ a0 a7 b0 b7).mono ?_; rintro e w' ⟨rfl, rfl⟩)
      | (go_at_call 38; (with_reducible refine (rightHas_any a (bothR a b) _ a0 a7 m0 m7).mono ?_); rintro e w' ⟨rfl, rfl⟩; rw [HB1.out])
      | (go_at_call 38; (with_reducible refine (rightHas_any b (bothR a b) _ b0 b7 m0 m7).mono ?_); rintro e w' ⟨rfl, rfl⟩; rw [HB2.out])
      | (go_at_call 38; (with_reducible refine (rightHas_any a c _ a0 a7 c0 c7).mono ?_); rintro e w' ⟨rfl, rfl⟩; rw [HAC.out])
      | (go_at_call 38; (with_reducible refine (rightHas_any b c _ b0 b7 c0 c7).mono ?_); rintro e w' ⟨rfl, rfl⟩; rw [HBC.out])
      | (go_at_call 38; (with_reducible refine (rightHas_any (bothR a b) c _ m0 m7 c0 c7).mono ?_); rintro e w' ⟨rfl, rfl⟩; rw [HMC.out])
      | (go_at_call 38; (with_reducible refine (rightHas_any a 0 _ a0 a7 (by decide) (by decide)).mono ?_); rintro e w' ⟨rfl, rfl⟩; rw [HE1.out])
      | (go_at_call 38; (with_reducible refine (rightHas_any 7 a _ (by decide) (by decide) a0 a7).mono ?_); rintro e w' ⟨rfl, rfl⟩; rw [HE2.out])
      | (go_at_call 37; (with_reducible refine (text_any a _ a0 a7).mono ?_); rintro e w' ⟨rfl, rfl⟩)
      | (go_at_call 37; (with_reducible refine (text_any b _ b0 b7).mono ?_); rintro e w' ⟨rfl, rfl⟩)
      | (go_at_call 40; refine (parse_int a _ a0 a7).mono ?_; rintro e w' ⟨rfl, rfl⟩))
  go_ret
  exact ⟨rfl, rfl⟩

theorem topRights_walk (a b c : Int) (w : World) :
    Calls Try.prog 13 #[.int .i64 a, .int .i64 b, .int .i64 c] w fun e w' => e = .returned (.bool true) ∧ w = w' := by
  by_cases ha : a < 0 ∨ 7 < a
  · exact tr_a a b c ha w
  by_cases hb : b < 0 ∨ 7 < b
  · exact tr_b a b c (by omega) (by omega) hb w
  by_cases hc : c < 0 ∨ 7 < c
  · exact tr_c a b c (by omega) (by omega) (by omega) (by omega) hc w
  have a0 : 0 ≤ a := by omega
  have a7 : a ≤ 7 := by omega
  have b0 : 0 ≤ b := by omega
  have b7 : b ≤ 7 := by omega
  have c0 : 0 ≤ c := by omega
  have c7 : c ≤ 7 := by omega
  by_cases he : a = b
  · have e1 : (textL a.toNat == textL b.toNat) = true := by rw [he]; simp
    have e2 : (a == b) = true := by simpa using he
    cases hac : hasR a c with
    | false => exact tr_00 a b c a0 a7 b0 b7 c0 c7 hac e1 e2 w
    | true =>
      cases hbc : hasR b c with
      | false => exact tr_01 a b c a0 a7 b0 b7 c0 c7 hac hbc e1 e2 w
      | true => exact tr_02 a b c a0 a7 b0 b7 c0 c7 hac hbc (has_all a0 a7 b0 b7 c0 c7 hac hbc) e1 e2 w
  · have e1 := text_ne a0 a7 b0 b7 he
    have e2 : (a == b) = false := by simpa using he
    cases hac : hasR a c with
    | false => exact tr_10 a b c a0 a7 b0 b7 c0 c7 hac e1 e2 w
    | true =>
      cases hbc : hasR b c with
      | false => exact tr_11 a b c a0 a7 b0 b7 c0 c7 hac hbc e1 e2 w
      | true => exact tr_12 a b c a0 a7 b0 b7 c0 c7 hac hbc (has_all a0 a7 b0 b7 c0 c7 hac hbc) e1 e2 w
theorem topRights_ext (a b c : Int) (w : World) :
    Calls Try.prog 13 #[.int .i64 a, .int .i64 b, .int .i64 c] w fun e w' => e = .returned (.bool true) ∧ Ext w w' :=
  (topRights_walk a b c w).mono fun e w' ⟨he, hw⟩ => ⟨he, by rw [← hw]; exact Ext.refl _⟩
end Go.Proofs.Ytgmnmibejamneaa
