/-
  The walks of chapter 1's texts: what rights are written as, and read as.
-/
import Derived.Test.YtgmnmibejamneaaWritWalks
import Derived.Test.YtgmnmibejamneaaShelfC
import Derived.Laws.Bits64
namespace Go.Proofs.Ytgmnmibejamneaa
open Go.RowKit
set_option linter.unusedVariables false

def textL (r : Nat) : List UInt8 := match r with | 0 => [45] | 1 => [108] | 2 => [97] | 3 => [108, 97] | 4 => [103] | 5 => [108, 103] | 6 => [97, 103] | _ => [108, 97, 103]

set_option maxRecDepth 100000 in
set_option maxHeartbeats 1000000 in
theorem text_0 (w : World) : Calls Try.prog 37 #[.int .i64 0] w fun e w' => e = .returned (.string ⟨(textL 0).toArray⟩) ∧ w = w' := by
  go_enter Try.func37, Try.ntmps37
  go_wp2
  refine wp_loop_rounds 4 ?_
  iterate 4 (rw [rounds_succ]; go_wp2)
  all_goals (go_ret; refine ⟨?_, rfl⟩)
  all_goals first | rfl | (exact congrArg (fun s => Ending.returned (.string s)) (by decide)) | (exfalso; rename_i h; exact absurd h (by decide +kernel))
set_option maxRecDepth 100000 in
set_option maxHeartbeats 1000000 in
theorem textRef_0 (w : World) : Calls Try.prog 44 #[.int .i64 0] w fun e w' => e = .returned (.string ⟨(textL 0).toArray⟩) ∧ w = w' := by
  go_enter Try.func44, Try.ntmps44
  go_wp2
  all_goals (go_ret; refine ⟨?_, rfl⟩)
  all_goals first | rfl | (exact congrArg (fun s => Ending.returned (.string s)) (by decide)) | (exfalso; rename_i h; exact absurd h (by decide +kernel))
set_option maxRecDepth 100000 in
set_option maxHeartbeats 1000000 in
theorem text_1 (w : World) : Calls Try.prog 37 #[.int .i64 1] w fun e w' => e = .returned (.string ⟨(textL 1).toArray⟩) ∧ w = w' := by
  go_enter Try.func37, Try.ntmps37
  go_wp2
  refine wp_loop_rounds 4 ?_
  iterate 4 (rw [rounds_succ]; go_wp2)
  all_goals (go_ret; refine ⟨?_, rfl⟩)
  all_goals first | rfl | (exact congrArg (fun s => Ending.returned (.string s)) (by decide)) | (exfalso; rename_i h; exact absurd h (by decide +kernel))
set_option maxRecDepth 100000 in
set_option maxHeartbeats 1000000 in
theorem textRef_1 (w : World) : Calls Try.prog 44 #[.int .i64 1] w fun e w' => e = .returned (.string ⟨(textL 1).toArray⟩) ∧ w = w' := by
  go_enter Try.func44, Try.ntmps44
  go_wp2
  all_goals (go_ret; refine ⟨?_, rfl⟩)
  all_goals first | rfl | (exact congrArg (fun s => Ending.returned (.string s)) (by decide)) | (exfalso; rename_i h; exact absurd h (by decide +kernel))
set_option maxRecDepth 100000 in
set_option maxHeartbeats 1000000 in
theorem text_2 (w : World) : Calls Try.prog 37 #[.int .i64 2] w fun e w' => e = .returned (.string ⟨(textL 2).toArray⟩) ∧ w = w' := by
  go_enter Try.func37, Try.ntmps37
  go_wp2
  refine wp_loop_rounds 4 ?_
  iterate 4 (rw [rounds_succ]; go_wp2)
  all_goals (go_ret; refine ⟨?_, rfl⟩)
  all_goals first | rfl | (exact congrArg (fun s => Ending.returned (.string s)) (by decide)) | (exfalso; rename_i h; exact absurd h (by decide +kernel))
set_option maxRecDepth 100000 in
set_option maxHeartbeats 1000000 in
theorem textRef_2 (w : World) : Calls Try.prog 44 #[.int .i64 2] w fun e w' => e = .returned (.string ⟨(textL 2).toArray⟩) ∧ w = w' := by
  go_enter Try.func44, Try.ntmps44
  go_wp2
  all_goals (go_ret; refine ⟨?_, rfl⟩)
  all_goals first | rfl | (exact congrArg (fun s => Ending.returned (.string s)) (by decide)) | (exfalso; rename_i h; exact absurd h (by decide +kernel))
set_option maxRecDepth 100000 in
set_option maxHeartbeats 1000000 in
theorem text_3 (w : World) : Calls Try.prog 37 #[.int .i64 3] w fun e w' => e = .returned (.string ⟨(textL 3).toArray⟩) ∧ w = w' := by
  go_enter Try.func37, Try.ntmps37
  go_wp2
  refine wp_loop_rounds 4 ?_
  iterate 4 (rw [rounds_succ]; go_wp2)
  all_goals (go_ret; refine ⟨?_, rfl⟩)
  all_goals first | rfl | (exact congrArg (fun s => Ending.returned (.string s)) (by decide)) | (exfalso; rename_i h; exact absurd h (by decide +kernel))
set_option maxRecDepth 100000 in
set_option maxHeartbeats 1000000 in
theorem textRef_3 (w : World) : Calls Try.prog 44 #[.int .i64 3] w fun e w' => e = .returned (.string ⟨(textL 3).toArray⟩) ∧ w = w' := by
  go_enter Try.func44, Try.ntmps44
  go_wp2
  all_goals (go_ret; refine ⟨?_, rfl⟩)
  all_goals first | rfl | (exact congrArg (fun s => Ending.returned (.string s)) (by decide)) | (exfalso; rename_i h; exact absurd h (by decide +kernel))
set_option maxRecDepth 100000 in
set_option maxHeartbeats 1000000 in
theorem text_4 (w : World) : Calls Try.prog 37 #[.int .i64 4] w fun e w' => e = .returned (.string ⟨(textL 4).toArray⟩) ∧ w = w' := by
  go_enter Try.func37, Try.ntmps37
  go_wp2
  refine wp_loop_rounds 4 ?_
  iterate 4 (rw [rounds_succ]; go_wp2)
  all_goals (go_ret; refine ⟨?_, rfl⟩)
  all_goals first | rfl | (exact congrArg (fun s => Ending.returned (.string s)) (by decide)) | (exfalso; rename_i h; exact absurd h (by decide +kernel))
set_option maxRecDepth 100000 in
set_option maxHeartbeats 1000000 in
theorem textRef_4 (w : World) : Calls Try.prog 44 #[.int .i64 4] w fun e w' => e = .returned (.string ⟨(textL 4).toArray⟩) ∧ w = w' := by
  go_enter Try.func44, Try.ntmps44
  go_wp2
  all_goals (go_ret; refine ⟨?_, rfl⟩)
  all_goals first | rfl | (exact congrArg (fun s => Ending.returned (.string s)) (by decide)) | (exfalso; rename_i h; exact absurd h (by decide +kernel))
set_option maxRecDepth 100000 in
set_option maxHeartbeats 1000000 in
theorem text_5 (w : World) : Calls Try.prog 37 #[.int .i64 5] w fun e w' => e = .returned (.string ⟨(textL 5).toArray⟩) ∧ w = w' := by
  go_enter Try.func37, Try.ntmps37
  go_wp2
  refine wp_loop_rounds 4 ?_
  iterate 4 (rw [rounds_succ]; go_wp2)
  all_goals (go_ret; refine ⟨?_, rfl⟩)
  all_goals first | rfl | (exact congrArg (fun s => Ending.returned (.string s)) (by decide)) | (exfalso; rename_i h; exact absurd h (by decide +kernel))
set_option maxRecDepth 100000 in
set_option maxHeartbeats 1000000 in
theorem textRef_5 (w : World) : Calls Try.prog 44 #[.int .i64 5] w fun e w' => e = .returned (.string ⟨(textL 5).toArray⟩) ∧ w = w' := by
  go_enter Try.func44, Try.ntmps44
  go_wp2
  all_goals (go_ret; refine ⟨?_, rfl⟩)
  all_goals first | rfl | (exact congrArg (fun s => Ending.returned (.string s)) (by decide)) | (exfalso; rename_i h; exact absurd h (by decide +kernel))
set_option maxRecDepth 100000 in
set_option maxHeartbeats 1000000 in
theorem text_6 (w : World) : Calls Try.prog 37 #[.int .i64 6] w fun e w' => e = .returned (.string ⟨(textL 6).toArray⟩) ∧ w = w' := by
  go_enter Try.func37, Try.ntmps37
  go_wp2
  refine wp_loop_rounds 4 ?_
  iterate 4 (rw [rounds_succ]; go_wp2)
  all_goals (go_ret; refine ⟨?_, rfl⟩)
  all_goals first | rfl | (exact congrArg (fun s => Ending.returned (.string s)) (by decide)) | (exfalso; rename_i h; exact absurd h (by decide +kernel))
set_option maxRecDepth 100000 in
set_option maxHeartbeats 1000000 in
theorem textRef_6 (w : World) : Calls Try.prog 44 #[.int .i64 6] w fun e w' => e = .returned (.string ⟨(textL 6).toArray⟩) ∧ w = w' := by
  go_enter Try.func44, Try.ntmps44
  go_wp2
  all_goals (go_ret; refine ⟨?_, rfl⟩)
  all_goals first | rfl | (exact congrArg (fun s => Ending.returned (.string s)) (by decide)) | (exfalso; rename_i h; exact absurd h (by decide +kernel))
set_option maxRecDepth 100000 in
set_option maxHeartbeats 1000000 in
theorem text_7 (w : World) : Calls Try.prog 37 #[.int .i64 7] w fun e w' => e = .returned (.string ⟨(textL 7).toArray⟩) ∧ w = w' := by
  go_enter Try.func37, Try.ntmps37
  go_wp2
  refine wp_loop_rounds 4 ?_
  iterate 4 (rw [rounds_succ]; go_wp2)
  all_goals (go_ret; refine ⟨?_, rfl⟩)
  all_goals first | rfl | (exact congrArg (fun s => Ending.returned (.string s)) (by decide)) | (exfalso; rename_i h; exact absurd h (by decide +kernel))
set_option maxRecDepth 100000 in
set_option maxHeartbeats 1000000 in
theorem textRef_7 (w : World) : Calls Try.prog 44 #[.int .i64 7] w fun e w' => e = .returned (.string ⟨(textL 7).toArray⟩) ∧ w = w' := by
  go_enter Try.func44, Try.ntmps44
  go_wp2
  all_goals (go_ret; refine ⟨?_, rfl⟩)
  all_goals first | rfl | (exact congrArg (fun s => Ending.returned (.string s)) (by decide)) | (exfalso; rename_i h; exact absurd h (by decide +kernel))
theorem text_any (r : Int) (w : World) (r0 : 0 ≤ r) (r7 : r ≤ 7) : Calls Try.prog 37 #[.int .i64 r] w fun e w' => e = .returned (.string ⟨(textL r.toNat).toArray⟩) ∧ w = w' := by
  have h : r = 0 ∨ r = 1 ∨ r = 2 ∨ r = 3 ∨ r = 4 ∨ r = 5 ∨ r = 6 ∨ r = 7 := by omega
  rcases h with rfl | rfl | rfl | rfl | rfl | rfl | rfl | rfl
  · exact text_0 w
  · exact text_1 w
  · exact text_2 w
  · exact text_3 w
  · exact text_4 w
  · exact text_5 w
  · exact text_6 w
  · exact text_7 w
theorem textRef_any (r : Int) (w : World) (r0 : 0 ≤ r) (r7 : r ≤ 7) : Calls Try.prog 44 #[.int .i64 r] w fun e w' => e = .returned (.string ⟨(textL r.toNat).toArray⟩) ∧ w = w' := by
  have h : r = 0 ∨ r = 1 ∨ r = 2 ∨ r = 3 ∨ r = 4 ∨ r = 5 ∨ r = 6 ∨ r = 7 := by omega
  rcases h with rfl | rfl | rfl | rfl | rfl | rfl | rfl | rfl
  · exact textRef_0 w
  · exact textRef_1 w
  · exact textRef_2 w
  · exact textRef_3 w
  · exact textRef_4 w
  · exact textRef_5 w
  · exact textRef_6 w
  · exact textRef_7 w

theorem list_ne {l : List UInt8} {b : ByteArray} (h : ¬ (⟨l.toArray⟩ : ByteArray) = b) : (l == b.toList) = false := by
  rw [beq_eq_false_iff_ne]
  intro e
  apply h
  rw [ByteArray.toList_eq] at e
  subst e
  rfl
/-- the text that rights have -/
def textB (r : Nat) : ByteArray := ⟨(textL r).toArray⟩
theorem contains_at (s sub : ByteArray) (c : UInt8) (w : World) (h : sub = ⟨#[c]⟩) :
    Calls Try.prog 92 #[.string s, .string sub] w fun e w' => e = .returned (.bool (decide (0 ≤ Lib.indexByte s.data.toList c))) ∧ w = w' := by
  subst h
  exact (Try.strings_Contains_one s c w).mono fun e w' ⟨h1, h2⟩ => ⟨h1, h2.symm⟩
set_option maxRecDepth 100000 in
set_option maxHeartbeats 1000000 in
theorem parse_0 (w : World) : Calls Try.prog 40 #[.string ⟨(textL 0).toArray⟩] w fun e w' => e = .returned (.tuple #[.int .i64 0, .nilIface]) ∧ w = w' := by
  go_enter Try.func40, Try.ntmps40
  go_wp2
  refine wp_loop_rounds 4 ?_
  iterate 4 (rw [rounds_succ]; go_wp2_with (first | (go_at_call 92; refine (contains_at ⟨(textL 0).toArray⟩ _ 108 _ (by decide +kernel)).mono ?_; rintro e w' ⟨rfl, rfl⟩; rw [show decide (0 ≤ Lib.indexByte (⟨(textL 0).toArray⟩ : ByteArray).data.toList 108) = false from by decide +kernel]) | (go_at_call 92; refine (contains_at ⟨(textL 0).toArray⟩ _ 97 _ (by decide +kernel)).mono ?_; rintro e w' ⟨rfl, rfl⟩; rw [show decide (0 ≤ Lib.indexByte (⟨(textL 0).toArray⟩ : ByteArray).data.toList 97) = false from by decide +kernel]) | (go_at_call 92; refine (contains_at ⟨(textL 0).toArray⟩ _ 103 _ (by decide +kernel)).mono ?_; rintro e w' ⟨rfl, rfl⟩; rw [show decide (0 ≤ Lib.indexByte (⟨(textL 0).toArray⟩ : ByteArray).data.toList 103) = false from by decide +kernel])))
  refine (text_0 _).mono ?_
  rintro e w' ⟨rfl, rfl⟩
  go_wp2
  go_ret2
  exact ⟨rfl, rfl⟩
set_option maxRecDepth 100000 in
set_option maxHeartbeats 1000000 in
theorem parseBad_0 (s : ByteArray) (w : World) (h0 : decide (0 ≤ Lib.indexByte s.data.toList 108) = false) (h1 : decide (0 ≤ Lib.indexByte s.data.toList 97) = false) (h2 : decide (0 ≤ Lib.indexByte s.data.toList 103) = false) (hne : ¬ textB 0 = s) : Calls Try.prog 40 #[.string s] w fun e w' => e = .returned (.tuple #[.int .i64 0, errv 4]) ∧ w = w' := by
  have H0 := Lib.hid h0; clear h0
  have H1 := Lib.hid h1; clear h1
  have H2 := Lib.hid h2; clear h2
  have hq : (textL 0 == s.toList) = false := list_ne hne
  clear hne
  go_enter Try.func40, Try.ntmps40
  go_wp2
  refine wp_loop_rounds 4 ?_
  iterate 4 (rw [rounds_succ]; go_wp2_with (first | (go_at_call 92; refine (contains_at s _ 108 _ (by decide +kernel)).mono ?_; rintro e w' ⟨rfl, rfl⟩; rw [H0.out]) | (go_at_call 92; refine (contains_at s _ 97 _ (by decide +kernel)).mono ?_; rintro e w' ⟨rfl, rfl⟩; rw [H1.out]) | (go_at_call 92; refine (contains_at s _ 103 _ (by decide +kernel)).mono ?_; rintro e w' ⟨rfl, rfl⟩; rw [H2.out])))
  refine (text_0 _).mono ?_
  rintro e w' ⟨rfl, rfl⟩
  go_wp2
  go_ret2
  exact ⟨rfl, rfl⟩
set_option maxRecDepth 100000 in
set_option maxHeartbeats 1000000 in
theorem parse_1 (w : World) : Calls Try.prog 40 #[.string ⟨(textL 1).toArray⟩] w fun e w' => e = .returned (.tuple #[.int .i64 1, .nilIface]) ∧ w = w' := by
  go_enter Try.func40, Try.ntmps40
  go_wp2
  refine wp_loop_rounds 4 ?_
  iterate 4 (rw [rounds_succ]; go_wp2_with (first | (go_at_call 92; refine (contains_at ⟨(textL 1).toArray⟩ _ 108 _ (by decide +kernel)).mono ?_; rintro e w' ⟨rfl, rfl⟩; rw [show decide (0 ≤ Lib.indexByte (⟨(textL 1).toArray⟩ : ByteArray).data.toList 108) = true from by decide +kernel]) | (go_at_call 92; refine (contains_at ⟨(textL 1).toArray⟩ _ 97 _ (by decide +kernel)).mono ?_; rintro e w' ⟨rfl, rfl⟩; rw [show decide (0 ≤ Lib.indexByte (⟨(textL 1).toArray⟩ : ByteArray).data.toList 97) = false from by decide +kernel]) | (go_at_call 92; refine (contains_at ⟨(textL 1).toArray⟩ _ 103 _ (by decide +kernel)).mono ?_; rintro e w' ⟨rfl, rfl⟩; rw [show decide (0 ≤ Lib.indexByte (⟨(textL 1).toArray⟩ : ByteArray).data.toList 103) = false from by decide +kernel])))
  rw [show (bits .or .i64 0 1) = (1 : Int) from by decide +kernel]
  refine (text_1 _).mono ?_
  rintro e w' ⟨rfl, rfl⟩
  go_wp2
  go_ret2
  exact ⟨rfl, rfl⟩
set_option maxRecDepth 100000 in
set_option maxHeartbeats 1000000 in
theorem parseBad_1 (s : ByteArray) (w : World) (h0 : decide (0 ≤ Lib.indexByte s.data.toList 108) = true) (h1 : decide (0 ≤ Lib.indexByte s.data.toList 97) = false) (h2 : decide (0 ≤ Lib.indexByte s.data.toList 103) = false) (hne : ¬ textB 1 = s) : Calls Try.prog 40 #[.string s] w fun e w' => e = .returned (.tuple #[.int .i64 0, errv 4]) ∧ w = w' := by
  have H0 := Lib.hid h0; clear h0
  have H1 := Lib.hid h1; clear h1
  have H2 := Lib.hid h2; clear h2
  have hq : (textL 1 == s.toList) = false := list_ne hne
  clear hne
  go_enter Try.func40, Try.ntmps40
  go_wp2
  refine wp_loop_rounds 4 ?_
  iterate 4 (rw [rounds_succ]; go_wp2_with (first | (go_at_call 92; refine (contains_at s _ 108 _ (by decide +kernel)).mono ?_; rintro e w' ⟨rfl, rfl⟩; rw [H0.out]) | (go_at_call 92; refine (contains_at s _ 97 _ (by decide +kernel)).mono ?_; rintro e w' ⟨rfl, rfl⟩; rw [H1.out]) | (go_at_call 92; refine (contains_at s _ 103 _ (by decide +kernel)).mono ?_; rintro e w' ⟨rfl, rfl⟩; rw [H2.out])))
  rw [show (bits .or .i64 0 1) = (1 : Int) from by decide +kernel]
  refine (text_1 _).mono ?_
  rintro e w' ⟨rfl, rfl⟩
  go_wp2
  go_ret2
  exact ⟨rfl, rfl⟩
set_option maxRecDepth 100000 in
set_option maxHeartbeats 1000000 in
theorem parse_2 (w : World) : Calls Try.prog 40 #[.string ⟨(textL 2).toArray⟩] w fun e w' => e = .returned (.tuple #[.int .i64 2, .nilIface]) ∧ w = w' := by
  go_enter Try.func40, Try.ntmps40
  go_wp2
  refine wp_loop_rounds 4 ?_
  iterate 4 (rw [rounds_succ]; go_wp2_with (first | (go_at_call 92; refine (contains_at ⟨(textL 2).toArray⟩ _ 108 _ (by decide +kernel)).mono ?_; rintro e w' ⟨rfl, rfl⟩; rw [show decide (0 ≤ Lib.indexByte (⟨(textL 2).toArray⟩ : ByteArray).data.toList 108) = false from by decide +kernel]) | (go_at_call 92; refine (contains_at ⟨(textL 2).toArray⟩ _ 97 _ (by decide +kernel)).mono ?_; rintro e w' ⟨rfl, rfl⟩; rw [show decide (0 ≤ Lib.indexByte (⟨(textL 2).toArray⟩ : ByteArray).data.toList 97) = true from by decide +kernel]) | (go_at_call 92; refine (contains_at ⟨(textL 2).toArray⟩ _ 103 _ (by decide +kernel)).mono ?_; rintro e w' ⟨rfl, rfl⟩; rw [show decide (0 ≤ Lib.indexByte (⟨(textL 2).toArray⟩ : ByteArray).data.toList 103) = false from by decide +kernel])))
  rw [show (bits .or .i64 0 2) = (2 : Int) from by decide +kernel]
  refine (text_2 _).mono ?_
  rintro e w' ⟨rfl, rfl⟩
  go_wp2
  go_ret2
  exact ⟨rfl, rfl⟩
set_option maxRecDepth 100000 in
set_option maxHeartbeats 1000000 in
theorem parseBad_2 (s : ByteArray) (w : World) (h0 : decide (0 ≤ Lib.indexByte s.data.toList 108) = false) (h1 : decide (0 ≤ Lib.indexByte s.data.toList 97) = true) (h2 : decide (0 ≤ Lib.indexByte s.data.toList 103) = false) (hne : ¬ textB 2 = s) : Calls Try.prog 40 #[.string s] w fun e w' => e = .returned (.tuple #[.int .i64 0, errv 4]) ∧ w = w' := by
  have H0 := Lib.hid h0; clear h0
  have H1 := Lib.hid h1; clear h1
  have H2 := Lib.hid h2; clear h2
  have hq : (textL 2 == s.toList) = false := list_ne hne
  clear hne
  go_enter Try.func40, Try.ntmps40
  go_wp2
  refine wp_loop_rounds 4 ?_
  iterate 4 (rw [rounds_succ]; go_wp2_with (first | (go_at_call 92; refine (contains_at s _ 108 _ (by decide +kernel)).mono ?_; rintro e w' ⟨rfl, rfl⟩; rw [H0.out]) | (go_at_call 92; refine (contains_at s _ 97 _ (by decide +kernel)).mono ?_; rintro e w' ⟨rfl, rfl⟩; rw [H1.out]) | (go_at_call 92; refine (contains_at s _ 103 _ (by decide +kernel)).mono ?_; rintro e w' ⟨rfl, rfl⟩; rw [H2.out])))
  rw [show (bits .or .i64 0 2) = (2 : Int) from by decide +kernel]
  refine (text_2 _).mono ?_
  rintro e w' ⟨rfl, rfl⟩
  go_wp2
  go_ret2
  exact ⟨rfl, rfl⟩
set_option maxRecDepth 100000 in
set_option maxHeartbeats 1000000 in
theorem parse_3 (w : World) : Calls Try.prog 40 #[.string ⟨(textL 3).toArray⟩] w fun e w' => e = .returned (.tuple #[.int .i64 3, .nilIface]) ∧ w = w' := by
  go_enter Try.func40, Try.ntmps40
  go_wp2
  refine wp_loop_rounds 4 ?_
  iterate 4 (rw [rounds_succ]; go_wp2_with (first | (go_at_call 92; refine (contains_at ⟨(textL 3).toArray⟩ _ 108 _ (by decide +kernel)).mono ?_; rintro e w' ⟨rfl, rfl⟩; rw [show decide (0 ≤ Lib.indexByte (⟨(textL 3).toArray⟩ : ByteArray).data.toList 108) = true from by decide +kernel]) | (go_at_call 92; refine (contains_at ⟨(textL 3).toArray⟩ _ 97 _ (by decide +kernel)).mono ?_; rintro e w' ⟨rfl, rfl⟩; rw [show decide (0 ≤ Lib.indexByte (⟨(textL 3).toArray⟩ : ByteArray).data.toList 97) = true from by decide +kernel]) | (go_at_call 92; refine (contains_at ⟨(textL 3).toArray⟩ _ 103 _ (by decide +kernel)).mono ?_; rintro e w' ⟨rfl, rfl⟩; rw [show decide (0 ≤ Lib.indexByte (⟨(textL 3).toArray⟩ : ByteArray).data.toList 103) = false from by decide +kernel])))
  rw [show (bits .or .i64 (bits .or .i64 0 1) 2) = (3 : Int) from by decide +kernel]
  refine (text_3 _).mono ?_
  rintro e w' ⟨rfl, rfl⟩
  go_wp2
  go_ret2
  exact ⟨rfl, rfl⟩
set_option maxRecDepth 100000 in
set_option maxHeartbeats 1000000 in
theorem parseBad_3 (s : ByteArray) (w : World) (h0 : decide (0 ≤ Lib.indexByte s.data.toList 108) = true) (h1 : decide (0 ≤ Lib.indexByte s.data.toList 97) = true) (h2 : decide (0 ≤ Lib.indexByte s.data.toList 103) = false) (hne : ¬ textB 3 = s) : Calls Try.prog 40 #[.string s] w fun e w' => e = .returned (.tuple #[.int .i64 0, errv 4]) ∧ w = w' := by
  have H0 := Lib.hid h0; clear h0
  have H1 := Lib.hid h1; clear h1
  have H2 := Lib.hid h2; clear h2
  have hq : (textL 3 == s.toList) = false := list_ne hne
  clear hne
  go_enter Try.func40, Try.ntmps40
  go_wp2
  refine wp_loop_rounds 4 ?_
  iterate 4 (rw [rounds_succ]; go_wp2_with (first | (go_at_call 92; refine (contains_at s _ 108 _ (by decide +kernel)).mono ?_; rintro e w' ⟨rfl, rfl⟩; rw [H0.out]) | (go_at_call 92; refine (contains_at s _ 97 _ (by decide +kernel)).mono ?_; rintro e w' ⟨rfl, rfl⟩; rw [H1.out]) | (go_at_call 92; refine (contains_at s _ 103 _ (by decide +kernel)).mono ?_; rintro e w' ⟨rfl, rfl⟩; rw [H2.out])))
  rw [show (bits .or .i64 (bits .or .i64 0 1) 2) = (3 : Int) from by decide +kernel]
  refine (text_3 _).mono ?_
  rintro e w' ⟨rfl, rfl⟩
  go_wp2
  go_ret2
  exact ⟨rfl, rfl⟩
set_option maxRecDepth 100000 in
set_option maxHeartbeats 1000000 in
theorem parse_4 (w : World) : Calls Try.prog 40 #[.string ⟨(textL 4).toArray⟩] w fun e w' => e = .returned (.tuple #[.int .i64 4, .nilIface]) ∧ w = w' := by
  go_enter Try.func40, Try.ntmps40
  go_wp2
  refine wp_loop_rounds 4 ?_
  iterate 4 (rw [rounds_succ]; go_wp2_with (first | (go_at_call 92; refine (contains_at ⟨(textL 4).toArray⟩ _ 108 _ (by decide +kernel)).mono ?_; rintro e w' ⟨rfl, rfl⟩; rw [show decide (0 ≤ Lib.indexByte (⟨(textL 4).toArray⟩ : ByteArray).data.toList 108) = false from by decide +kernel]) | (go_at_call 92; refine (contains_at ⟨(textL 4).toArray⟩ _ 97 _ (by decide +kernel)).mono ?_; rintro e w' ⟨rfl, rfl⟩; rw [show decide (0 ≤ Lib.indexByte (⟨(textL 4).toArray⟩ : ByteArray).data.toList 97) = false from by decide +kernel]) | (go_at_call 92; refine (contains_at ⟨(textL 4).toArray⟩ _ 103 _ (by decide +kernel)).mono ?_; rintro e w' ⟨rfl, rfl⟩; rw [show decide (0 ≤ Lib.indexByte (⟨(textL 4).toArray⟩ : ByteArray).data.toList 103) = true from by decide +kernel])))
  rw [show (bits .or .i64 0 4) = (4 : Int) from by decide +kernel]
  refine (text_4 _).mono ?_
  rintro e w' ⟨rfl, rfl⟩
  go_wp2
  go_ret2
  exact ⟨rfl, rfl⟩
set_option maxRecDepth 100000 in
set_option maxHeartbeats 1000000 in
theorem parseBad_4 (s : ByteArray) (w : World) (h0 : decide (0 ≤ Lib.indexByte s.data.toList 108) = false) (h1 : decide (0 ≤ Lib.indexByte s.data.toList 97) = false) (h2 : decide (0 ≤ Lib.indexByte s.data.toList 103) = true) (hne : ¬ textB 4 = s) : Calls Try.prog 40 #[.string s] w fun e w' => e = .returned (.tuple #[.int .i64 0, errv 4]) ∧ w = w' := by
  have H0 := Lib.hid h0; clear h0
  have H1 := Lib.hid h1; clear h1
  have H2 := Lib.hid h2; clear h2
  have hq : (textL 4 == s.toList) = false := list_ne hne
  clear hne
  go_enter Try.func40, Try.ntmps40
  go_wp2
  refine wp_loop_rounds 4 ?_
  iterate 4 (rw [rounds_succ]; go_wp2_with (first | (go_at_call 92; refine (contains_at s _ 108 _ (by decide +kernel)).mono ?_; rintro e w' ⟨rfl, rfl⟩; rw [H0.out]) | (go_at_call 92; refine (contains_at s _ 97 _ (by decide +kernel)).mono ?_; rintro e w' ⟨rfl, rfl⟩; rw [H1.out]) | (go_at_call 92; refine (contains_at s _ 103 _ (by decide +kernel)).mono ?_; rintro e w' ⟨rfl, rfl⟩; rw [H2.out])))
  rw [show (bits .or .i64 0 4) = (4 : Int) from by decide +kernel]
  refine (text_4 _).mono ?_
  rintro e w' ⟨rfl, rfl⟩
  go_wp2
  go_ret2
  exact ⟨rfl, rfl⟩
set_option maxRecDepth 100000 in
set_option maxHeartbeats 1000000 in
theorem parse_5 (w : World) : Calls Try.prog 40 #[.string ⟨(textL 5).toArray⟩] w fun e w' => e = .returned (.tuple #[.int .i64 5, .nilIface]) ∧ w = w' := by
  go_enter Try.func40, Try.ntmps40
  go_wp2
  refine wp_loop_rounds 4 ?_
  iterate 4 (rw [rounds_succ]; go_wp2_with (first | (go_at_call 92; refine (contains_at ⟨(textL 5).toArray⟩ _ 108 _ (by decide +kernel)).mono ?_; rintro e w' ⟨rfl, rfl⟩; rw [show decide (0 ≤ Lib.indexByte (⟨(textL 5).toArray⟩ : ByteArray).data.toList 108) = true from by decide +kernel]) | (go_at_call 92; refine (contains_at ⟨(textL 5).toArray⟩ _ 97 _ (by decide +kernel)).mono ?_; rintro e w' ⟨rfl, rfl⟩; rw [show decide (0 ≤ Lib.indexByte (⟨(textL 5).toArray⟩ : ByteArray).data.toList 97) = false from by decide +kernel]) | (go_at_call 92; refine (contains_at ⟨(textL 5).toArray⟩ _ 103 _ (by decide +kernel)).mono ?_; rintro e w' ⟨rfl, rfl⟩; rw [show decide (0 ≤ Lib.indexByte (⟨(textL 5).toArray⟩ : ByteArray).data.toList 103) = true from by decide +kernel])))
  rw [show (bits .or .i64 (bits .or .i64 0 1) 4) = (5 : Int) from by decide +kernel]
  refine (text_5 _).mono ?_
  rintro e w' ⟨rfl, rfl⟩
  go_wp2
  go_ret2
  exact ⟨rfl, rfl⟩
set_option maxRecDepth 100000 in
set_option maxHeartbeats 1000000 in
theorem parseBad_5 (s : ByteArray) (w : World) (h0 : decide (0 ≤ Lib.indexByte s.data.toList 108) = true) (h1 : decide (0 ≤ Lib.indexByte s.data.toList 97) = false) (h2 : decide (0 ≤ Lib.indexByte s.data.toList 103) = true) (hne : ¬ textB 5 = s) : Calls Try.prog 40 #[.string s] w fun e w' => e = .returned (.tuple #[.int .i64 0, errv 4]) ∧ w = w' := by
  have H0 := Lib.hid h0; clear h0
  have H1 := Lib.hid h1; clear h1
  have H2 := Lib.hid h2; clear h2
  have hq : (textL 5 == s.toList) = false := list_ne hne
  clear hne
  go_enter Try.func40, Try.ntmps40
  go_wp2
  refine wp_loop_rounds 4 ?_
  iterate 4 (rw [rounds_succ]; go_wp2_with (first | (go_at_call 92; refine (contains_at s _ 108 _ (by decide +kernel)).mono ?_; rintro e w' ⟨rfl, rfl⟩; rw [H0.out]) | (go_at_call 92; refine (contains_at s _ 97 _ (by decide +kernel)).mono ?_; rintro e w' ⟨rfl, rfl⟩; rw [H1.out]) | (go_at_call 92; refine (contains_at s _ 103 _ (by decide +kernel)).mono ?_; rintro e w' ⟨rfl, rfl⟩; rw [H2.out])))
  rw [show (bits .or .i64 (bits .or .i64 0 1) 4) = (5 : Int) from by decide +kernel]
  refine (text_5 _).mono ?_
  rintro e w' ⟨rfl, rfl⟩
  go_wp2
  go_ret2
  exact ⟨rfl, rfl⟩
set_option maxRecDepth 100000 in
set_option maxHeartbeats 1000000 in
theorem parse_6 (w : World) : Calls Try.prog 40 #[.string ⟨(textL 6).toArray⟩] w fun e w' => e = .returned (.tuple #[.int .i64 6, .nilIface]) ∧ w = w' := by
  go_enter Try.func40, Try.ntmps40
  go_wp2
  refine wp_loop_rounds 4 ?_
  iterate 4 (rw [rounds_succ]; go_wp2_with (first | (go_at_call 92; refine (contains_at ⟨(textL 6).toArray⟩ _ 108 _ (by decide +kernel)).mono ?_; rintro e w' ⟨rfl, rfl⟩; rw [show decide (0 ≤ Lib.indexByte (⟨(textL 6).toArray⟩ : ByteArray).data.toList 108) = false from by decide +kernel]) | (go_at_call 92; refine (contains_at ⟨(textL 6).toArray⟩ _ 97 _ (by decide +kernel)).mono ?_; rintro e w' ⟨rfl, rfl⟩; rw [show decide (0 ≤ Lib.indexByte (⟨(textL 6).toArray⟩ : ByteArray).data.toList 97) = true from by decide +kernel]) | (go_at_call 92; refine (contains_at ⟨(textL 6).toArray⟩ _ 103 _ (by decide +kernel)).mono ?_; rintro e w' ⟨rfl, rfl⟩; rw [show decide (0 ≤ Lib.indexByte (⟨(textL 6).toArray⟩ : ByteArray).data.toList 103) = true from by decide +kernel])))
  rw [show (bits .or .i64 (bits .or .i64 0 2) 4) = (6 : Int) from by decide +kernel]
  refine (text_6 _).mono ?_
  rintro e w' ⟨rfl, rfl⟩
  go_wp2
  go_ret2
  exact ⟨rfl, rfl⟩
set_option maxRecDepth 100000 in
set_option maxHeartbeats 1000000 in
theorem parseBad_6 (s : ByteArray) (w : World) (h0 : decide (0 ≤ Lib.indexByte s.data.toList 108) = false) (h1 : decide (0 ≤ Lib.indexByte s.data.toList 97) = true) (h2 : decide (0 ≤ Lib.indexByte s.data.toList 103) = true) (hne : ¬ textB 6 = s) : Calls Try.prog 40 #[.string s] w fun e w' => e = .returned (.tuple #[.int .i64 0, errv 4]) ∧ w = w' := by
  have H0 := Lib.hid h0; clear h0
  have H1 := Lib.hid h1; clear h1
  have H2 := Lib.hid h2; clear h2
  have hq : (textL 6 == s.toList) = false := list_ne hne
  clear hne
  go_enter Try.func40, Try.ntmps40
  go_wp2
  refine wp_loop_rounds 4 ?_
  iterate 4 (rw [rounds_succ]; go_wp2_with (first | (go_at_call 92; refine (contains_at s _ 108 _ (by decide +kernel)).mono ?_; rintro e w' ⟨rfl, rfl⟩; rw [H0.out]) | (go_at_call 92; refine (contains_at s _ 97 _ (by decide +kernel)).mono ?_; rintro e w' ⟨rfl, rfl⟩; rw [H1.out]) | (go_at_call 92; refine (contains_at s _ 103 _ (by decide +kernel)).mono ?_; rintro e w' ⟨rfl, rfl⟩; rw [H2.out])))
  rw [show (bits .or .i64 (bits .or .i64 0 2) 4) = (6 : Int) from by decide +kernel]
  refine (text_6 _).mono ?_
  rintro e w' ⟨rfl, rfl⟩
  go_wp2
  go_ret2
  exact ⟨rfl, rfl⟩
set_option maxRecDepth 100000 in
set_option maxHeartbeats 1000000 in
theorem parse_7 (w : World) : Calls Try.prog 40 #[.string ⟨(textL 7).toArray⟩] w fun e w' => e = .returned (.tuple #[.int .i64 7, .nilIface]) ∧ w = w' := by
  go_enter Try.func40, Try.ntmps40
  go_wp2
  refine wp_loop_rounds 4 ?_
  iterate 4 (rw [rounds_succ]; go_wp2_with (first | (go_at_call 92; refine (contains_at ⟨(textL 7).toArray⟩ _ 108 _ (by decide +kernel)).mono ?_; rintro e w' ⟨rfl, rfl⟩; rw [show decide (0 ≤ Lib.indexByte (⟨(textL 7).toArray⟩ : ByteArray).data.toList 108) = true from by decide +kernel]) | (go_at_call 92; refine (contains_at ⟨(textL 7).toArray⟩ _ 97 _ (by decide +kernel)).mono ?_; rintro e w' ⟨rfl, rfl⟩; rw [show decide (0 ≤ Lib.indexByte (⟨(textL 7).toArray⟩ : ByteArray).data.toList 97) = true from by decide +kernel]) | (go_at_call 92; refine (contains_at ⟨(textL 7).toArray⟩ _ 103 _ (by decide +kernel)).mono ?_; rintro e w' ⟨rfl, rfl⟩; rw [show decide (0 ≤ Lib.indexByte (⟨(textL 7).toArray⟩ : ByteArray).data.toList 103) = true from by decide +kernel])))
  rw [show (bits .or .i64 (bits .or .i64 (bits .or .i64 0 1) 2) 4) = (7 : Int) from by decide +kernel]
  refine (text_7 _).mono ?_
  rintro e w' ⟨rfl, rfl⟩
  go_wp2
  go_ret2
  exact ⟨rfl, rfl⟩
set_option maxRecDepth 100000 in
set_option maxHeartbeats 1000000 in
theorem parseBad_7 (s : ByteArray) (w : World) (h0 : decide (0 ≤ Lib.indexByte s.data.toList 108) = true) (h1 : decide (0 ≤ Lib.indexByte s.data.toList 97) = true) (h2 : decide (0 ≤ Lib.indexByte s.data.toList 103) = true) (hne : ¬ textB 7 = s) : Calls Try.prog 40 #[.string s] w fun e w' => e = .returned (.tuple #[.int .i64 0, errv 4]) ∧ w = w' := by
  have H0 := Lib.hid h0; clear h0
  have H1 := Lib.hid h1; clear h1
  have H2 := Lib.hid h2; clear h2
  have hq : (textL 7 == s.toList) = false := list_ne hne
  clear hne
  go_enter Try.func40, Try.ntmps40
  go_wp2
  refine wp_loop_rounds 4 ?_
  iterate 4 (rw [rounds_succ]; go_wp2_with (first | (go_at_call 92; refine (contains_at s _ 108 _ (by decide +kernel)).mono ?_; rintro e w' ⟨rfl, rfl⟩; rw [H0.out]) | (go_at_call 92; refine (contains_at s _ 97 _ (by decide +kernel)).mono ?_; rintro e w' ⟨rfl, rfl⟩; rw [H1.out]) | (go_at_call 92; refine (contains_at s _ 103 _ (by decide +kernel)).mono ?_; rintro e w' ⟨rfl, rfl⟩; rw [H2.out])))
  rw [show (bits .or .i64 (bits .or .i64 (bits .or .i64 0 1) 2) 4) = (7 : Int) from by decide +kernel]
  refine (text_7 _).mono ?_
  rintro e w' ⟨rfl, rfl⟩
  go_wp2
  go_ret2
  exact ⟨rfl, rfl⟩
end Go.Proofs.Ytgmnmibejamneaa
