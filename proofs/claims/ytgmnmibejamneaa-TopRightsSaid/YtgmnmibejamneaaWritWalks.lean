/-
  The walks of chapters 1 and 2: what rights and writs compute.
-/
import Derived.Test.YtgmnmibejamneaaWritSpec
import Derived.Test.YtgmnmibejamneaaProg
import Derived.Laws.BitsAllLaws
import Derived.Laws.BitsLemmas
import Derived.WideLaws
namespace Go.Proofs.Ytgmnmibejamneaa
open Go.RowKit
set_option linter.unusedVariables false

theorem ofInt_i64 (a : Nat) (ha : a < 9223372036854775808) : (BitVec.ofInt 64 (a : Int)).toNat = a := by
  rw [BitVec.ofInt_natCast, BitVec.toNat_ofNat]; exact Nat.mod_eq_of_lt (by omega)
theorem i64_and_nat (a b : Nat) (ha : a < 9223372036854775808) (hb : b < 9223372036854775808) : bits .and .i64 (a : Int) (b : Int) = ((a &&& b : Nat) : Int) := by
  have hx : a &&& b < 2 ^ 63 := Nat.and_lt_two_pow _ (by omega)
  show IntKind.i64.wrap ((BitVec.ofInt 64 (a : Int) &&& BitVec.ofInt 64 (b : Int)).toNat : Int) = _
  rw [BitVec.toNat_and, ofInt_i64 a ha, ofInt_i64 b hb, IntKind.wrap_i64]
  omega
theorem and_hasR {r n : Int} (r0 : 0 ≤ r) (r7 : r ≤ 7) (n0 : 0 ≤ n) (n7 : n ≤ 7) : (bits .and .i64 r n == n) = hasR r n := by
  obtain ⟨a, rfl⟩ := Int.eq_ofNat_of_zero_le r0
  obtain ⟨b, rfl⟩ := Int.eq_ofNat_of_zero_le n0
  rw [i64_and_nat a b (by omega) (by omega)]
  unfold hasR
  simp only [Int.toNat_natCast]
  rw [Bool.eq_iff_iff]; simp only [beq_iff_eq]; omega

theorem rightCheck_any (r : Int) (w : World) : Calls Try.prog 39 #[.int .i64 r] w fun e w' => e = .returned (errv (rightFault r)) ∧ w = w' := by
  rcases rightFault_cases r with ⟨h, hr⟩ | ⟨h, h0, h7⟩
  · rw [h]; clear h
    go_enter Try.func39, Try.ntmps39
    go_wp2
    all_goals (go_ret; exact ⟨rfl, rfl⟩)
  · rw [h]; clear h
    go_enter Try.func39, Try.ntmps39
    go_wp2
    all_goals (go_ret; exact ⟨rfl, rfl⟩)

theorem rightHas_any (r n : Int) (w : World) (r0 : 0 ≤ r) (r7 : r ≤ 7) (n0 : 0 ≤ n) (n7 : n ≤ 7) :
    Calls Try.prog 38 #[.int .i64 r, .int .i64 n] w fun e w' => e = .returned (.bool (hasR r n)) ∧ w = w' := by
  go_enter Try.func38, Try.ntmps38
  go_wp2
  go_ret
  exact ⟨ret_bool (and_hasR r0 r7 n0 n7), rfl⟩
set_option maxRecDepth 100000 in
set_option maxHeartbeats 1000000 in
theorem hasRef_any (r n : Int) (w : World) (r0 : 0 ≤ r) (r7 : r ≤ 7) (n0 : 0 ≤ n) (n7 : n ≤ 7) :
    Calls Try.prog 43 #[.int .i64 r, .int .i64 n] w fun e w' => e = .returned (.bool (hasR r n)) ∧ w = w' := by
  rw [← hasB_eq r0 r7 n0 n7]
  go_enter Try.func43, Try.ntmps43
  go_wp2
  refine wp_loop_rounds 4 ?_
  rw [rounds_succ]
  go_wp2
  iterate 3 (all_goals (try (rw [rounds_succ]; go_wp2)))
  all_goals (go_ret; refine ⟨ret_bool ?_, rfl⟩)
  all_goals (try simp only [beq_iff_eq, beq_eq_false_iff_ne] at *)
  all_goals first
    | exact (hasB_false (by omega)).symm
    | exact (hasB_true (by omega) (by omega) (by omega)).symm

set_option maxHeartbeats 1000000 in
theorem writCheck_any (x : Writ) (w : World) : Calls Try.prog 17 #[x.val] w fun e w' => e = .returned (errv (writFault x)) ∧ Ext w w' := by
  obtain ⟨a, b, c, d, e⟩ := x
  rcases writFault_cases ⟨a, b, c, d, e⟩ with ⟨h, hr⟩ | ⟨h, hr⟩
  all_goals
    rw [h]; clear h
    simp only [] at hr
    go_enter Try.func17, Try.ntmps17
    go_wp2_with (go_at_call 39; refine (rightCheck_any _ _).mono ?_; rintro e w' ⟨rfl, rfl⟩)
    all_goals (go_ret; refine ⟨?_, (Ext.refl _).alloc _⟩)
    all_goals first
      | rfl
      | exact congrArg (fun n => Ending.returned (errv n)) (rightFault_bad (by omega))
      | exact congrArg (fun n => Ending.returned (errv n)) (rightFault_ok (by omega) (by omega))

set_option maxHeartbeats 1000000 in
theorem writFaultRef_any (x : Writ) (w : World) : Calls Try.prog 18 #[x.val] w fun e w' => e = .returned (.int .i64 (writFault x)) ∧ Ext w w' := by
  obtain ⟨a, b, c, d, e⟩ := x
  rcases writFault_cases ⟨a, b, c, d, e⟩ with ⟨h, hr⟩ | ⟨h, hr⟩
  all_goals
    rw [h]; clear h
    simp only [] at hr
    go_enter Try.func18, Try.ntmps18
    go_wp2
    all_goals (go_ret; refine ⟨?_, (Ext.refl _).alloc _⟩)
    all_goals rfl

end Go.Proofs.Ytgmnmibejamneaa
