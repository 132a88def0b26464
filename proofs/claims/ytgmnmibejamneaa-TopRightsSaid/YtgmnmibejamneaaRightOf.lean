/-
  The walks of reading rights out of a text: the program's, over every text, and the document's.
-/
import Derived.Test.YtgmnmibejamneaaRightText
namespace Go.Proofs.Ytgmnmibejamneaa
open Go.RowKit
set_option linter.unusedVariables false

/-- which rights have this text; below 0: none -/
def rightOfS (s : ByteArray) : Int := match (List.range 8).find? (fun r => decide (textB r = s)) with | some r => r | none => -1
theorem rightOfS_hit {s : ByteArray} {k : Nat} (hk : k < 8) (h : textB k = s) (h0 : ∀ j, j < k → ¬ textB j = s) : rightOfS s = k := by
  unfold rightOfS
  have : (List.range 8).find? (fun r => decide (textB r = s)) = some k := by
    rw [List.find?_range_eq_some]
    exact ⟨by simpa using h, by simpa using hk, fun j hj => by simpa using h0 j hj⟩
  rw [this]
theorem rightOfS_miss {s : ByteArray} (h0 : ∀ j, j < 8 → ¬ textB j = s) : rightOfS s = -1 := by
  unfold rightOfS
  have : (List.range 8).find? (fun r => decide (textB r = s)) = none := by
    rw [List.find?_eq_none]
    intro i hi; simpa using h0 i (List.mem_range.1 hi)
  rw [this]
theorem textB_inj_fin : ∀ i j : Fin 8, textL i.val = textL j.val → i = j := by decide
theorem textB_inj {i j : Nat} (hi : i < 8) (hj : j < 8) (h : textB i = textB j) : i = j := by
  have h1 : textL i = textL j := by
    have := congrArg (fun b : ByteArray => b.data.toList) h
    simpa [textB] using this
  have := textB_inj_fin ⟨i, hi⟩ ⟨j, hj⟩ h1
  injection this
theorem rightOfS_cases (s : ByteArray) : (rightOfS s = -1 ∧ ∀ j, j < 8 → ¬ textB j = s) ∨ ∃ k, k < 8 ∧ rightOfS s = (k : Nat) ∧ s = textB k := by
  by_cases h : ∃ k, k < 8 ∧ textB k = s
  · obtain ⟨k, hk, rfl⟩ := h
    exact .inr ⟨k, hk, rightOfS_hit hk rfl fun j hj e => by have := textB_inj (by omega) hk e; omega, rfl⟩
  · exact .inl ⟨rightOfS_miss fun j hj e => h ⟨j, hj, e⟩, fun j hj e => h ⟨j, hj, e⟩⟩

set_option maxRecDepth 100000 in
set_option maxHeartbeats 1000000 in
theorem rightOfRef_any (s : ByteArray) (w : World) : Calls Try.prog 41 #[.string s] w fun e w' => e = .returned (.int .i64 (rightOfS s)) ∧ w = w' := by
  go_enter Try.func41, Try.ntmps41
  go_wp2
  go_loop [3] (fun i => ∃ k : Nat, k ≤ 8 ∧ i = .int .i64 k ∧ Hid (∀ j, j < k → ¬ textB j = s)) (fun i => 8 - (intOf i).toNat)
  case atStart => exact ⟨0, by decide, rfl, fun j hj => absurd hj (Nat.not_lt_zero _)⟩
  case round =>
    obtain ⟨k, hk, rfl, HA⟩ := hrel
    by_cases hlt : k < 8
    · by_cases hq : textB k = s
      · have hb : (textL k == s.toList) = true := by rw [← hq, ByteArray.toList_eq]; simp [textB]
        have HQ := Lib.hid hq; clear hq
        go_wp2_with (go_at_call 44; refine (textRef_any _ _ (by omega) (by omega)).mono ?_; rintro e w' ⟨rfl, rfl⟩; rw [Int.toNat_natCast])
        go_ret
        exact ⟨ret_int (rightOfS_hit hlt HQ.out HA.out).symm, rfl⟩
      · have hb : (textL k == s.toList) = false := list_ne hq
        have HQ := Lib.hid hq; clear hq
        go_wp2_with (go_at_call 44; refine (textRef_any _ _ (by omega) (by omega)).mono ?_; rintro e w' ⟨rfl, rfl⟩; rw [Int.toNat_natCast])
        go_round
        case rel =>
          refine ⟨k + 1, by omega, by go_num, Lib.hid fun j hj => ?_⟩
          by_cases e : j = k
          · subst e; exact HQ.out
          · exact HA.out j (by omega)
        case measure => simp [intOf]; omega
    · have : k = 8 := by omega
      subst this
      go_wp2
      go_ret
      exact ⟨ret_int (rightOfS_miss HA.out).symm, rfl⟩

theorem parse_hit (k : Nat) (hk : k < 8) (w : World) : Calls Try.prog 40 #[.string (textB k)] w fun e w' => e = .returned (.tuple #[.int .i64 k, .nilIface]) ∧ w = w' := by
  have h : k = 0 ∨ k = 1 ∨ k = 2 ∨ k = 3 ∨ k = 4 ∨ k = 5 ∨ k = 6 ∨ k = 7 := by omega
  rcases h with rfl | rfl | rfl | rfl | rfl | rfl | rfl | rfl
  · exact parse_0 w
  · exact parse_1 w
  · exact parse_2 w
  · exact parse_3 w
  · exact parse_4 w
  · exact parse_5 w
  · exact parse_6 w
  · exact parse_7 w
theorem parse_miss (s : ByteArray) (h : ∀ j, j < 8 → ¬ textB j = s) (w : World) : Calls Try.prog 40 #[.string s] w fun e w' => e = .returned (.tuple #[.int .i64 0, errv 4]) ∧ w = w' := by
  cases h0 : decide (0 ≤ Lib.indexByte s.data.toList 108) <;> cases h1 : decide (0 ≤ Lib.indexByte s.data.toList 97) <;> cases h2 : decide (0 ≤ Lib.indexByte s.data.toList 103)
  · exact parseBad_0 s w h0 h1 h2 (h 0 (by decide))
  · exact parseBad_4 s w h0 h1 h2 (h 4 (by decide))
  · exact parseBad_2 s w h0 h1 h2 (h 2 (by decide))
  · exact parseBad_6 s w h0 h1 h2 (h 6 (by decide))
  · exact parseBad_1 s w h0 h1 h2 (h 1 (by decide))
  · exact parseBad_5 s w h0 h1 h2 (h 5 (by decide))
  · exact parseBad_3 s w h0 h1 h2 (h 3 (by decide))
  · exact parseBad_7 s w h0 h1 h2 (h 7 (by decide))

/-- the rights that both have -/
def bothR (a b : Int) : Int := ((a.toNat &&& b.toNat : Nat) : Int)
theorem bothR_range {a b : Int} (a0 : 0 ≤ a) (a7 : a ≤ 7) : 0 ≤ bothR a b ∧ bothR a b ≤ 7 := by
  have h := @Nat.and_le_left a.toNat b.toNat
  unfold bothR; omega
theorem both_any (a b : Int) (w : World) (a0 : 0 ≤ a) (a7 : a ≤ 7) (b0 : 0 ≤ b) (b7 : b ≤ 7) : Calls Try.prog 42 #[.int .i64 a, .int .i64 b] w fun e w' => e = .returned (.int .i64 (bothR a b)) ∧ w = w' := by
  go_enter Try.func42, Try.ntmps42
  go_wp2
  go_ret
  refine ⟨ret_int ?_, rfl⟩
  obtain ⟨x, rfl⟩ := Int.eq_ofNat_of_zero_le a0
  obtain ⟨y, rfl⟩ := Int.eq_ofNat_of_zero_le b0
  rw [i64_and_nat x y (by omega) (by omega)]
  rfl
theorem has_both_fin : ∀ a b : Fin 8, hasR ((a : Nat) : Int) (bothR ((a : Nat) : Int) ((b : Nat) : Int)) = true ∧ hasR ((b : Nat) : Int) (bothR ((a : Nat) : Int) ((b : Nat) : Int)) = true := by decide
theorem has_both {a b : Int} (a0 : 0 ≤ a) (a7 : a ≤ 7) (b0 : 0 ≤ b) (b7 : b ≤ 7) : hasR a (bothR a b) = true ∧ hasR b (bothR a b) = true := by
  obtain ⟨x, rfl⟩ := fin_of a0 a7; obtain ⟨y, rfl⟩ := fin_of b0 b7; exact has_both_fin x y
theorem has_all_fin : ∀ a b c : Fin 8, hasR ((a : Nat) : Int) ((c : Nat) : Int) = true → hasR ((b : Nat) : Int) ((c : Nat) : Int) = true → hasR (bothR ((a : Nat) : Int) ((b : Nat) : Int)) ((c : Nat) : Int) = true := by decide
theorem has_all {a b c : Int} (a0 : 0 ≤ a) (a7 : a ≤ 7) (b0 : 0 ≤ b) (b7 : b ≤ 7) (c0 : 0 ≤ c) (c7 : c ≤ 7) (h : hasR a c = true) (k : hasR b c = true) : hasR (bothR a b) c = true := by
  obtain ⟨x, rfl⟩ := fin_of a0 a7; obtain ⟨y, rfl⟩ := fin_of b0 b7; obtain ⟨z, rfl⟩ := fin_of c0 c7; exact has_all_fin x y z h k
theorem has_ends_fin : ∀ a : Fin 8, hasR ((a : Nat) : Int) 0 = true ∧ hasR 7 ((a : Nat) : Int) = true := by decide
theorem has_ends {a : Int} (a0 : 0 ≤ a) (a7 : a ≤ 7) : hasR a 0 = true ∧ hasR 7 a = true := by
  obtain ⟨x, rfl⟩ := fin_of a0 a7; exact has_ends_fin x
end Go.Proofs.Ytgmnmibejamneaa
