/-
  The walk of the statement RightSays: it returns true; the world is as it was.
-/
import Derived.Test.YtgmnmibejamneaaRightOf
import Derived.Test.YtgmnmibejamneaaSame
namespace Go.Proofs.Ytgmnmibejamneaa
open Go.RowKit
set_option linter.unusedVariables false

theorem rightOfS_text {k : Nat} (hk : k < 8) : rightOfS (textB k) = k := rightOfS_hit hk rfl fun j hj e => by have := textB_inj (by omega) hk e; omega
theorem same_one (w : World) : Calls Try.prog 16 #[.iface 119 (.int .i64 1), .int .i64 1] w fun e w' => e = .returned (.bool true) ∧ w = w' := same_any 1 w (by decide)
theorem same_four (w : World) : Calls Try.prog 16 #[.iface 119 (.int .i64 4), .int .i64 4] w fun e w' => e = .returned (.bool true) ∧ w = w' := same_any 4 w (by decide)

set_option maxRecDepth 100000 in
set_option maxHeartbeats 4000000 in
theorem rs_badL_long (a b : Int) (s : ByteArray) (ha : a < 0) (hs : 20 < s.size) (w : World) :
    Calls Try.prog 5 #[.int .i64 a, .int .i64 b, .string s] w fun e w' => e = .returned (.bool true) ∧ w = w' := by
  have HC := Lib.hid (rightFault_bad (r := a) (by omega))
  have ht5 : (textL 5 == [108, 103]) = true := by decide
  go_enter Try.func5, Try.ntmps5
  go_wp2_with (first
      | (go_at_call 37; (with_reducible refine (text_5 _).mono ?_); rintro e w' ⟨rfl, rfl⟩)
      | (go_at_call 38; (with_reducible refine (rightHas_any 7 5 _ (by decide) (by decide) (by decide) (by decide)).mono ?_); rintro e w' ⟨rfl, rfl⟩; rw [show hasR 7 5 = true from by decide])
      | (go_at_call 39; refine (rightCheck_any _ _).mono ?_; rintro e w' ⟨rfl, rfl⟩; rw [HC.out, errv_pos (by decide)])
      | (go_at_call 16; (with_reducible refine (same_one _).mono ?_); rintro e w' ⟨rfl, rfl⟩)
      | (go_at_call 16; (with_reducible refine (same_four _).mono ?_); rintro e w' ⟨rfl, rfl⟩))
  go_ret
  exact ⟨rfl, rfl⟩

set_option maxRecDepth 100000 in
set_option maxHeartbeats 4000000 in
theorem rs_badL_hit (a b : Int) (k : Nat) (hk : k < 8) (ha : a < 0) (hs : (textB k).size ≤ 20) (w : World) :
    Calls Try.prog 5 #[.int .i64 a, .int .i64 b, .string (textB k)] w fun e w' => e = .returned (.bool true) ∧ w = w' := by
  have HC := Lib.hid (rightFault_bad (r := a) (by omega))
  have HR := Lib.hid (rightOfS_text hk)
  have ht5 : (textL 5 == [108, 103]) = true := by decide
  go_enter Try.func5, Try.ntmps5
  go_wp2_with (first
      | (go_at_call 37; (with_reducible refine (text_5 _).mono ?_); rintro e w' ⟨rfl, rfl⟩)
      | (go_at_call 38; (with_reducible refine (rightHas_any 7 5 _ (by decide) (by decide) (by decide) (by decide)).mono ?_); rintro e w' ⟨rfl, rfl⟩; rw [show hasR 7 5 = true from by decide])
      | (go_at_call 39; refine (rightCheck_any _ _).mono ?_; rintro e w' ⟨rfl, rfl⟩; rw [HC.out, errv_pos (by decide)])
      | (go_at_call 16; (with_reducible refine (same_one _).mono ?_); rintro e w' ⟨rfl, rfl⟩)
      | (go_at_call 16; (with_reducible refine (same_four _).mono ?_); rintro e w' ⟨rfl, rfl⟩)
      | (go_at_call 40; refine (parse_hit k hk _).mono ?_; rintro e w' ⟨rfl, rfl⟩)
      | (go_at_call 41; refine (rightOfRef_any _ _).mono ?_; rintro e w' ⟨rfl, rfl⟩; rw [HR.out]))
  go_ret
  exact ⟨rfl, rfl⟩

set_option maxRecDepth 100000 in
set_option maxHeartbeats 4000000 in
theorem rs_badL_miss (a b : Int) (s : ByteArray) (ha : a < 0) (hs : s.size ≤ 20) (hr : rightOfS s = -1) (hm : ∀ j, j < 8 → ¬ textB j = s) (w : World) :
    Calls Try.prog 5 #[.int .i64 a, .int .i64 b, .string s] w fun e w' => e = .returned (.bool true) ∧ w = w' := by
  have HC := Lib.hid (rightFault_bad (r := a) (by omega))
  have HR := Lib.hid hr; clear hr
  have HM := Lib.hid hm; clear hm
  have ht5 : (textL 5 == [108, 103]) = true := by decide
  go_enter Try.func5, Try.ntmps5
  go_wp2_with (first
      | (go_at_call 37; (with_reducible refine (text_5 _).mono ?_); rintro e w' ⟨rfl, rfl⟩)
      | (go_at_call 38; (with_reducible refine (rightHas_any 7 5 _ (by decide) (by decide) (by decide) (by decide)).mono ?_); rintro e w' ⟨rfl, rfl⟩; rw [show hasR 7 5 = true from by decide])
      | (go_at_call 39; refine (rightCheck_any _ _).mono ?_; rintro e w' ⟨rfl, rfl⟩; rw [HC.out, errv_pos (by decide)])
      | (go_at_call 16; (with_reducible refine (same_one _).mono ?_); rintro e w' ⟨rfl, rfl⟩)
      | (go_at_call 16; (with_reducible refine (same_four _).mono ?_); rintro e w' ⟨rfl, rfl⟩)
      | (go_at_call 40; refine (parse_miss s HM.out _).mono ?_; rintro e w' ⟨rfl, rfl⟩; rw [errv_pos (by decide)])
      | (go_at_call 41; refine (rightOfRef_any _ _).mono ?_; rintro e w' ⟨rfl, rfl⟩; rw [HR.out]))
  go_ret
  exact ⟨rfl, rfl⟩

set_option maxRecDepth 100000 in
set_option maxHeartbeats 4000000 in
theorem rs_badG_long (a b : Int) (s : ByteArray) (ha : 7 < a) (hs : 20 < s.size) (w : World) :
    Calls Try.prog 5 #[.int .i64 a, .int .i64 b, .string s] w fun e w' => e = .returned (.bool true) ∧ w = w' := by
  have HC := Lib.hid (rightFault_bad (r := a) (by omega))
  have ht5 : (textL 5 == [108, 103]) = true := by decide
  go_enter Try.func5, Try.ntmps5
  go_wp2_with (first
      | (go_at_call 37; (with_reducible refine (text_5 _).mono ?_); rintro e w' ⟨rfl, rfl⟩)
      | (go_at_call 38; (with_reducible refine (rightHas_any 7 5 _ (by decide) (by decide) (by decide) (by decide)).mono ?_); rintro e w' ⟨rfl, rfl⟩; rw [show hasR 7 5 = true from by decide])
      | (go_at_call 39; refine (rightCheck_any _ _).mono ?_; rintro e w' ⟨rfl, rfl⟩; rw [HC.out, errv_pos (by decide)])
      | (go_at_call 16; (with_reducible refine (same_one _).mono ?_); rintro e w' ⟨rfl, rfl⟩)
      | (go_at_call 16; (with_reducible refine (same_four _).mono ?_); rintro e w' ⟨rfl, rfl⟩))
  go_ret
  exact ⟨rfl, rfl⟩

set_option maxRecDepth 100000 in
set_option maxHeartbeats 4000000 in
theorem rs_badG_hit (a b : Int) (k : Nat) (hk : k < 8) (ha : 7 < a) (hs : (textB k).size ≤ 20) (w : World) :
    Calls Try.prog 5 #[.int .i64 a, .int .i64 b, .string (textB k)] w fun e w' => e = .returned (.bool true) ∧ w = w' := by
  have HC := Lib.hid (rightFault_bad (r := a) (by omega))
  have HR := Lib.hid (rightOfS_text hk)
  have ht5 : (textL 5 == [108, 103]) = true := by decide
  go_enter Try.func5, Try.ntmps5
  go_wp2_with (first
      | (go_at_call 37; (with_reducible refine (text_5 _).mono ?_); rintro e w' ⟨rfl, rfl⟩)
      | (go_at_call 38; (with_reducible refine (rightHas_any 7 5 _ (by decide) (by decide) (by decide) (by decide)).mono ?_); rintro e w' ⟨rfl, rfl⟩; rw [show hasR 7 5 = true from by decide])
      | (go_at_call 39; refine (rightCheck_any _ _).mono ?_; rintro e w' ⟨rfl, rfl⟩; rw [HC.out, errv_pos (by decide)])
      | (go_at_call 16; (with_reducible refine (same_one _).mono ?_); rintro e w' ⟨rfl, rfl⟩)
      | (go_at_call 16; (with_reducible refine (same_four _).mono ?_); rintro e w' ⟨rfl, rfl⟩)
      | (go_at_call 40; refine (parse_hit k hk _).mono ?_; rintro e w' ⟨rfl, rfl⟩)
      | (go_at_call 41; refine (rightOfRef_any _ _).mono ?_; rintro e w' ⟨rfl, rfl⟩; rw [HR.out]))
  go_ret
  exact ⟨rfl, rfl⟩

set_option maxRecDepth 100000 in
set_option maxHeartbeats 4000000 in
theorem rs_badG_miss (a b : Int) (s : ByteArray) (ha : 7 < a) (hs : s.size ≤ 20) (hr : rightOfS s = -1) (hm : ∀ j, j < 8 → ¬ textB j = s) (w : World) :
    Calls Try.prog 5 #[.int .i64 a, .int .i64 b, .string s] w fun e w' => e = .returned (.bool true) ∧ w = w' := by
  have HC := Lib.hid (rightFault_bad (r := a) (by omega))
  have HR := Lib.hid hr; clear hr
  have HM := Lib.hid hm; clear hm
  have ht5 : (textL 5 == [108, 103]) = true := by decide
  go_enter Try.func5, Try.ntmps5
  go_wp2_with (first
      | (go_at_call 37; (with_reducible refine (text_5 _).mono ?_); rintro e w' ⟨rfl, rfl⟩)
      | (go_at_call 38; (with_reducible refine (rightHas_any 7 5 _ (by decide) (by decide) (by decide) (by decide)).mono ?_); rintro e w' ⟨rfl, rfl⟩; rw [show hasR 7 5 = true from by decide])
      | (go_at_call 39; refine (rightCheck_any _ _).mono ?_; rintro e w' ⟨rfl, rfl⟩; rw [HC.out, errv_pos (by decide)])
      | (go_at_call 16; (with_reducible refine (same_one _).mono ?_); rintro e w' ⟨rfl, rfl⟩)
      | (go_at_call 16; (with_reducible refine (same_four _).mono ?_); rintro e w' ⟨rfl, rfl⟩)
      | (go_at_call 40; refine (parse_miss s HM.out _).mono ?_; rintro e w' ⟨rfl, rfl⟩; rw [errv_pos (by decide)])
      | (go_at_call 41; refine (rightOfRef_any _ _).mono ?_; rintro e w' ⟨rfl, rfl⟩; rw [HR.out]))
  go_ret
  exact ⟨rfl, rfl⟩

set_option maxRecDepth 100000 in
set_option maxHeartbeats 4000000 in
theorem rs_good_long (a b : Int) (s : ByteArray) (a0 : 0 ≤ a) (a7 : a ≤ 7) (hs : 20 < s.size) (w : World) :
    Calls Try.prog 5 #[.int .i64 a, .int .i64 b, .string s] w fun e w' => e = .returned (.bool true) ∧ w = w' := by
  have HC := Lib.hid (rightFault_ok a0 a7)
  have ht5 : (textL 5 == [108, 103]) = true := by decide
  go_enter Try.func5, Try.ntmps5
  go_wp2_with (first
      | (go_at_call 37; (with_reducible refine (text_5 _).mono ?_); rintro e w' ⟨rfl, rfl⟩)
      | (go_at_call 38; (with_reducible refine (rightHas_any 7 5 _ (by decide) (by decide) (by decide) (by decide)).mono ?_); rintro e w' ⟨rfl, rfl⟩; rw [show hasR 7 5 = true from by decide])
      | (go_at_call 39; refine (rightCheck_any _ _).mono ?_; rintro e w' ⟨rfl, rfl⟩; rw [HC.out, errv_zero])
      | (go_at_call 16; (with_reducible refine (same_one _).mono ?_); rintro e w' ⟨rfl, rfl⟩)
      | (go_at_call 16; (with_reducible refine (same_four _).mono ?_); rintro e w' ⟨rfl, rfl⟩))
  go_ret
  exact ⟨ret_bool (by simp; omega), rfl⟩

set_option maxRecDepth 100000 in
set_option maxHeartbeats 4000000 in
theorem rs_good_hit_bL (a b : Int) (k : Nat) (hk : k < 8) (a0 : 0 ≤ a) (a7 : a ≤ 7) (hb : b < 0) (hs : (textB k).size ≤ 20) (w : World) :
    Calls Try.prog 5 #[.int .i64 a, .int .i64 b, .string (textB k)] w fun e w' => e = .returned (.bool true) ∧ w = w' := by
  have HC := Lib.hid (rightFault_ok a0 a7)
  have HR := Lib.hid (rightOfS_text hk)
  have ht5 : (textL 5 == [108, 103]) = true := by decide
  go_enter Try.func5, Try.ntmps5
  go_wp2_with (first
      | (go_at_call 37; (with_reducible refine (text_5 _).mono ?_); rintro e w' ⟨rfl, rfl⟩)
      | (go_at_call 38; (with_reducible refine (rightHas_any 7 5 _ (by decide) (by decide) (by decide) (by decide)).mono ?_); rintro e w' ⟨rfl, rfl⟩; rw [show hasR 7 5 = true from by decide])
      | (go_at_call 39; refine (rightCheck_any _ _).mono ?_; rintro e w' ⟨rfl, rfl⟩; rw [HC.out, errv_zero])
      | (go_at_call 16; (with_reducible refine (same_one _).mono ?_); rintro e w' ⟨rfl, rfl⟩)
      | (go_at_call 16; (with_reducible refine (same_four _).mono ?_); rintro e w' ⟨rfl, rfl⟩)
      | (go_at_call 40; refine (parse_hit k hk _).mono ?_; rintro e w' ⟨rfl, rfl⟩)
      | (go_at_call 41; refine (rightOfRef_any _ _).mono ?_; rintro e w' ⟨rfl, rfl⟩; rw [HR.out]))
  go_ret
  exact ⟨rfl, rfl⟩

set_option maxRecDepth 100000 in
set_option maxHeartbeats 4000000 in
theorem rs_good_miss_bL (a b : Int) (s : ByteArray) (a0 : 0 ≤ a) (a7 : a ≤ 7) (hb : b < 0) (hs : s.size ≤ 20) (hr : rightOfS s = -1) (hm : ∀ j, j < 8 → ¬ textB j = s) (w : World) :
    Calls Try.prog 5 #[.int .i64 a, .int .i64 b, .string s] w fun e w' => e = .returned (.bool true) ∧ w = w' := by
  have HC := Lib.hid (rightFault_ok a0 a7)
  have HR := Lib.hid hr; clear hr
  have HM := Lib.hid hm; clear hm
  have ht5 : (textL 5 == [108, 103]) = true := by decide
  go_enter Try.func5, Try.ntmps5
  go_wp2_with (first
      | (go_at_call 37; (with_reducible refine (text_5 _).mono ?_); rintro e w' ⟨rfl, rfl⟩)
      | (go_at_call 38; (with_reducible refine (rightHas_any 7 5 _ (by decide) (by decide) (by decide) (by decide)).mono ?_); rintro e w' ⟨rfl, rfl⟩; rw [show hasR 7 5 = true from by decide])
      | (go_at_call 39; refine (rightCheck_any _ _).mono ?_; rintro e w' ⟨rfl, rfl⟩; rw [HC.out, errv_zero])
      | (go_at_call 16; (with_reducible refine (same_one _).mono ?_); rintro e w' ⟨rfl, rfl⟩)
      | (go_at_call 16; (with_reducible refine (same_four _).mono ?_); rintro e w' ⟨rfl, rfl⟩)
      | (go_at_call 40; refine (parse_miss s HM.out _).mono ?_; rintro e w' ⟨rfl, rfl⟩; rw [errv_pos (by decide)])
      | (go_at_call 41; refine (rightOfRef_any _ _).mono ?_; rintro e w' ⟨rfl, rfl⟩; rw [HR.out]))
  go_ret
  exact ⟨rfl, rfl⟩

set_option maxRecDepth 100000 in
set_option maxHeartbeats 4000000 in
theorem rs_good_hit_bG (a b : Int) (k : Nat) (hk : k < 8) (a0 : 0 ≤ a) (a7 : a ≤ 7) (hb : 7 < b) (hs : (textB k).size ≤ 20) (w : World) :
    Calls Try.prog 5 #[.int .i64 a, .int .i64 b, .string (textB k)] w fun e w' => e = .returned (.bool true) ∧ w = w' := by
  have HC := Lib.hid (rightFault_ok a0 a7)
  have HR := Lib.hid (rightOfS_text hk)
  have ht5 : (textL 5 == [108, 103]) = true := by decide
  go_enter Try.func5, Try.ntmps5
  go_wp2_with (first
      | (go_at_call 37; (with_reducible refine (text_5 _).mono ?_); rintro e w' ⟨rfl, rfl⟩)
      | (go_at_call 38; (with_reducible refine (rightHas_any 7 5 _ (by decide) (by decide) (by decide) (by decide)).mono ?_); rintro e w' ⟨rfl, rfl⟩; rw [show hasR 7 5 = true from by decide])
      | (go_at_call 39; refine (rightCheck_any _ _).mono ?_; rintro e w' ⟨rfl, rfl⟩; rw [HC.out, errv_zero])
      | (go_at_call 16; (with_reducible refine (same_one _).mono ?_); rintro e w' ⟨rfl, rfl⟩)
      | (go_at_call 16; (with_reducible refine (same_four _).mono ?_); rintro e w' ⟨rfl, rfl⟩)
      | (go_at_call 40; refine (parse_hit k hk _).mono ?_; rintro e w' ⟨rfl, rfl⟩)
      | (go_at_call 41; refine (rightOfRef_any _ _).mono ?_; rintro e w' ⟨rfl, rfl⟩; rw [HR.out]))
  go_ret
  exact ⟨rfl, rfl⟩

set_option maxRecDepth 100000 in
set_option maxHeartbeats 4000000 in
theorem rs_good_miss_bG (a b : Int) (s : ByteArray) (a0 : 0 ≤ a) (a7 : a ≤ 7) (hb : 7 < b) (hs : s.size ≤ 20) (hr : rightOfS s = -1) (hm : ∀ j, j < 8 → ¬ textB j = s) (w : World) :
    Calls Try.prog 5 #[.int .i64 a, .int .i64 b, .string s] w fun e w' => e = .returned (.bool true) ∧ w = w' := by
  have HC := Lib.hid (rightFault_ok a0 a7)
  have HR := Lib.hid hr; clear hr
  have HM := Lib.hid hm; clear hm
  have ht5 : (textL 5 == [108, 103]) = true := by decide
  go_enter Try.func5, Try.ntmps5
  go_wp2_with (first
      | (go_at_call 37; (with_reducible refine (text_5 _).mono ?_); rintro e w' ⟨rfl, rfl⟩)
      | (go_at_call 38; (with_reducible refine (rightHas_any 7 5 _ (by decide) (by decide) (by decide) (by decide)).mono ?_); rintro e w' ⟨rfl, rfl⟩; rw [show hasR 7 5 = true from by decide])
      | (go_at_call 39; refine (rightCheck_any _ _).mono ?_; rintro e w' ⟨rfl, rfl⟩; rw [HC.out, errv_zero])
      | (go_at_call 16; (with_reducible refine (same_one _).mono ?_); rintro e w' ⟨rfl, rfl⟩)
      | (go_at_call 16; (with_reducible refine (same_four _).mono ?_); rintro e w' ⟨rfl, rfl⟩)
      | (go_at_call 40; refine (parse_miss s HM.out _).mono ?_; rintro e w' ⟨rfl, rfl⟩; rw [errv_pos (by decide)])
      | (go_at_call 41; refine (rightOfRef_any _ _).mono ?_; rintro e w' ⟨rfl, rfl⟩; rw [HR.out]))
  go_ret
  exact ⟨rfl, rfl⟩

set_option maxRecDepth 100000 in
set_option maxHeartbeats 4000000 in
theorem rs_good_hit (a b : Int) (k : Nat) (hk : k < 8) (a0 : 0 ≤ a) (a7 : a ≤ 7) (b0 : 0 ≤ b) (b7 : b ≤ 7) (hs : (textB k).size ≤ 20) (w : World) :
    Calls Try.prog 5 #[.int .i64 a, .int .i64 b, .string (textB k)] w fun e w' => e = .returned (.bool true) ∧ w = w' := by
  have HC := Lib.hid (rightFault_ok a0 a7)
  obtain ⟨m0, m7⟩ := bothR_range (b := b) a0 a7
  have HB1 := Lib.hid (has_both a0 a7 b0 b7).1
  have HB2 := Lib.hid (has_both a0 a7 b0 b7).2
  have HR := Lib.hid (rightOfS_text hk)
  have ht5 : (textL 5 == [108, 103]) = true := by decide
  go_enter Try.func5, Try.ntmps5
  go_wp2_with (first
      | (go_at_call 37; (with_reducible refine (text_5 _).mono ?_); rintro e w' ⟨rfl, rfl⟩)
      | (go_at_call 38; (with_reducible refine (rightHas_any 7 5 _ (by decide) (by decide) (by decide) (by decide)).mono ?_); rintro e w' ⟨rfl, rfl⟩; rw [show hasR 7 5 = true from by decide])
      | (go_at_call 39; refine (rightCheck_any _ _).mono ?_; rintro e w' ⟨rfl, rfl⟩; rw [HC.out, errv_zero])
      | (go_at_call 16; (with_reducible refine (same_one _).mono ?_); rintro e w' ⟨rfl, rfl⟩)
      | (go_at_call 16; (with_reducible refine (same_four _).mono ?_); rintro e w' ⟨rfl, rfl⟩)
      | (go_at_call 40; refine (parse_hit k hk _).mono ?_; rintro e w' ⟨rfl, rfl⟩)
      | (go_at_call 41; refine (rightOfRef_any _ _).mono ?_; rintro e w' ⟨rfl, rfl⟩; rw [HR.out])
      | (go_at_call 42; refine (both_any _ _ _ a0 a7 b0 b7).mono ?_; rintro e w' ⟨rfl, rfl⟩)
      | (go_at_call 38; refine (rightHas_any _ _ _ a0 a7 b0 b7).mono ?_; rintro e w' ⟨rfl, rfl⟩)
      | (go_at_call 43; (with_reducible refine (hasRef_any a b _ a0 a7 b0 b7).mono ?_); rintro e w' ⟨rfl, rfl⟩)
      | (go_at_call 43; (with_reducible refine (hasRef_any a (bothR a b) _ a0 a7 m0 m7).mono ?_); rintro e w' ⟨rfl, rfl⟩; rw [HB1.out])
      | (go_at_call 43; (with_reducible refine (hasRef_any b (bothR a b) _ b0 b7 m0 m7).mono ?_); rintro e w' ⟨rfl, rfl⟩; rw [HB2.out])
      | (go_at_call 37; refine (text_any _ _ a0 a7).mono ?_; rintro e w' ⟨rfl, rfl⟩)
      | (go_at_call 44; refine (textRef_any _ _ a0 a7).mono ?_; rintro e w' ⟨rfl, rfl⟩))
  go_ret
  exact ⟨ret_bool (by rw [beq_iff_eq]; omega), rfl⟩

set_option maxRecDepth 100000 in
set_option maxHeartbeats 4000000 in
theorem rs_good_miss (a b : Int) (s : ByteArray) (a0 : 0 ≤ a) (a7 : a ≤ 7) (b0 : 0 ≤ b) (b7 : b ≤ 7) (hs : s.size ≤ 20) (hr : rightOfS s = -1) (hm : ∀ j, j < 8 → ¬ textB j = s) (w : World) :
    Calls Try.prog 5 #[.int .i64 a, .int .i64 b, .string s] w fun e w' => e = .returned (.bool true) ∧ w = w' := by
  have HC := Lib.hid (rightFault_ok a0 a7)
  obtain ⟨m0, m7⟩ := bothR_range (b := b) a0 a7
  have HB1 := Lib.hid (has_both a0 a7 b0 b7).1
  have HB2 := Lib.hid (has_both a0 a7 b0 b7).2
  have HR := Lib.hid hr; clear hr
  have HM := Lib.hid hm; clear hm
  have ht5 : (textL 5 == [108, 103]) = true := by decide
  go_enter Try.func5, Try.ntmps5
  go_wp2_with (first
      | (go_at_call 37; (with_reducible refine (text_5 _).mono ?_); rintro e w' ⟨rfl, rfl⟩)
      | (go_at_call 38; (with_reducible refine (rightHas_any 7 5 _ (by decide) (by decide) (by decide) (by decide)).mono ?_); rintro e w' ⟨rfl, rfl⟩; rw [show hasR 7 5 = true from by decide])
      | (go_at_call 39; refine (rightCheck_any _ _).mono ?_; rintro e w' ⟨rfl, rfl⟩; rw [HC.out, errv_zero])
      | (go_at_call 16; (with_reducible refine (same_one _).mono ?_); rintro e w' ⟨rfl, rfl⟩)
      | (go_at_call 16; (with_reducible refine (same_four _).mono ?_); rintro e w' ⟨rfl, rfl⟩)
      | (go_at_call 40; refine (parse_miss s HM.out _).mono ?_; rintro e w' ⟨rfl, rfl⟩; rw [errv_pos (by decide)])
      | (go_at_call 41; refine (rightOfRef_any _ _).mono ?_; rintro e w' ⟨rfl, rfl⟩; rw [HR.out])
      | (go_at_call 42; refine (both_any _ _ _ a0 a7 b0 b7).mono ?_; rintro e w' ⟨rfl, rfl⟩)
      | (go_at_call 38; refine (rightHas_any _ _ _ a0 a7 b0 b7).mono ?_; rintro e w' ⟨rfl, rfl⟩)
      | (go_at_call 43; (with_reducible refine (hasRef_any a b _ a0 a7 b0 b7).mono ?_); rintro e w' ⟨rfl, rfl⟩)
      | (go_at_call 43; (with_reducible refine (hasRef_any a (bothR a b) _ a0 a7 m0 m7).mono ?_); rintro e w' ⟨rfl, rfl⟩; rw [HB1.out])
      | (go_at_call 43; (with_reducible refine (hasRef_any b (bothR a b) _ b0 b7 m0 m7).mono ?_); rintro e w' ⟨rfl, rfl⟩; rw [HB2.out])
      | (go_at_call 37; refine (text_any _ _ a0 a7).mono ?_; rintro e w' ⟨rfl, rfl⟩)
      | (go_at_call 44; refine (textRef_any _ _ a0 a7).mono ?_; rintro e w' ⟨rfl, rfl⟩))
  go_ret
  exact ⟨ret_bool (by rw [beq_iff_eq]; omega), rfl⟩

theorem rightSays_walk (a b : Int) (s : ByteArray) (w : World) :
    Calls Try.prog 5 #[.int .i64 a, .int .i64 b, .string s] w fun e w' => e = .returned (.bool true) ∧ w = w' := by
  have hsz : ∀ k, k < 8 → (textB k).size ≤ 20 := by decide
  by_cases hs : 20 < s.size
  · by_cases h1 : a < 0
    · exact rs_badL_long a b s h1 hs w
    · by_cases h2 : 7 < a
      · exact rs_badG_long a b s h2 hs w
      · exact rs_good_long a b s (by omega) (by omega) hs w
  · rcases rightOfS_cases s with ⟨hr, hm⟩ | ⟨k, hk, hr, rfl⟩
    · by_cases h1 : a < 0
      · exact rs_badL_miss a b s h1 (by omega) hr hm w
      · by_cases h2 : 7 < a
        · exact rs_badG_miss a b s h2 (by omega) hr hm w
        · by_cases h3 : b < 0
          · exact rs_good_miss_bL a b s (by omega) (by omega) h3 (by omega) hr hm w
          · by_cases h4 : 7 < b
            · exact rs_good_miss_bG a b s (by omega) (by omega) h4 (by omega) hr hm w
            · exact rs_good_miss a b s (by omega) (by omega) (by omega) (by omega) (by omega) hr hm w
    · by_cases h1 : a < 0
      · exact rs_badL_hit a b k hk h1 (hsz k hk) w
      · by_cases h2 : 7 < a
        · exact rs_badG_hit a b k hk h2 (hsz k hk) w
        · by_cases h3 : b < 0
          · exact rs_good_hit_bL a b k hk (by omega) (by omega) h3 (hsz k hk) w
          · by_cases h4 : 7 < b
            · exact rs_good_hit_bG a b k hk (by omega) (by omega) h4 (hsz k hk) w
            · exact rs_good_hit a b k hk (by omega) (by omega) (by omega) (by omega) (hsz k hk) w
theorem rightSays_ext (a b : Int) (s : ByteArray) (w : World) :
    Calls Try.prog 5 #[.int .i64 a, .int .i64 b, .string s] w fun e w' => e = .returned (.bool true) ∧ Ext w w' :=
  (rightSays_walk a b s w).mono fun e w' ⟨he, hw⟩ => ⟨he, by rw [← hw]; exact Ext.refl _⟩
end Go.Proofs.Ytgmnmibejamneaa
