/-
  The walks of what may be made of a writ: the program's and the document's.
-/
import Derived.Test.YtgmnmibejamneaaWritWalks
namespace Go.Proofs.Ytgmnmibejamneaa
open Go.RowKit
set_option linter.unusedVariables false

theorem derived_w1 {x : Writ} {id r b : Int} (h : rightFault r = 1) : derived x id r b = (zeroW, 1) := by unfold derived; rw [if_pos h]
theorem derived_w2 {x : Writ} {id r b : Int} (h : rightFault r = 0) (hb : b < 0 ∨ 99 < b) : derived x id r b = (zeroW, 1) := by
  unfold derived; rw [if_neg (by rw [h]; decide)]; split; rfl; rw [if_pos (by omega)]
theorem derived_w3 {x : Writ} {id r b : Int} (h : rightFault r = 0) (h0 : 0 ≤ b) (h9 : b ≤ 99) (hh : hasR x.Rights r = false) : derived x id r b = (zeroW, 7) := by
  unfold derived; rw [if_neg (by rw [h]; decide), if_neg (by omega), if_neg (by omega), if_pos hh]
theorem derived_w4 {x : Writ} {id r b : Int} (h : rightFault r = 0) (h0 : 0 ≤ b) (h9 : b ≤ 99) (hh : hasR x.Rights r = true) (hc : b ≠ 0 ∧ x.Badge ≠ 0 ∧ b ≠ x.Badge) : derived x id r b = (zeroW, 7) := by
  unfold derived; rw [if_neg (by rw [h]; decide), if_neg (by omega), if_neg (by omega), if_neg (by rw [hh]; decide), if_pos hc]
theorem derived_w5 {x : Writ} {id r b : Int} (h : rightFault r = 0) (h0 : 0 ≤ b) (h9 : b ≤ 99) (hh : hasR x.Rights r = true) (hc : b = 0) : derived x id r b = (⟨id, x.Thing, r, x.Badge, x.ID⟩, 0) := by
  unfold derived; rw [if_neg (by rw [h]; decide), if_neg (by omega), if_neg (by omega), if_neg (by rw [hh]; decide), if_neg (by omega), if_pos hc]
theorem derived_w6 {x : Writ} {id r b : Int} (h : rightFault r = 0) (h0 : 0 ≤ b) (h9 : b ≤ 99) (hh : hasR x.Rights r = true) (hc : b ≠ 0) (hc2 : x.Badge = 0 ∨ b = x.Badge) : derived x id r b = (⟨id, x.Thing, r, b, x.ID⟩, 0) := by
  unfold derived; rw [if_neg (by rw [h]; decide), if_neg (by omega), if_neg (by omega), if_neg (by rw [hh]; decide), if_neg (by omega), if_neg hc]

set_option maxHeartbeats 2000000 in
theorem derive_any (x : Writ) (id r b : Int) (w : World) (r0 : 0 ≤ x.Rights) (r7 : x.Rights ≤ 7) :
    Calls Try.prog 15 #[x.val, .int .i64 id, .int .i64 r, .int .i64 b] w fun e w' => e = .returned (.tuple #[(derived x id r b).1.val, errv (derived x id r b).2]) ∧ Ext w w' := by
  rcases rightFault_cases r with ⟨h, hr⟩ | ⟨h, h0, h7⟩
  · rw [derived_w1 h]
    have H := Lib.hid h; clear h
    obtain ⟨xa, xb, xc, xd, xe⟩ := x
    simp only [] at r0 r7
    go_enter Try.func15, Try.ntmps15
    go_wp2_with (go_at_call 39; refine (rightCheck_any _ _).mono ?_; rintro e w' ⟨rfl, rfl⟩; rw [H.out, errv_pos (by decide)])
    exact bodyPost_ret (v := .tuple #[.agg #[.int .i64 0, .int .i64 0, .int .i64 0, .int .i64 0, .int .i64 0], .iface 119 (.int .i64 1)]) (by simp [results, Try.results15, go_sem]) rfl ⟨rfl, ((Ext.refl _).alloc _).alloc _⟩
  · by_cases hb : b < 0 ∨ 99 < b
    · rw [derived_w2 h hb]
      have H := Lib.hid h; clear h
      obtain ⟨xa, xb, xc, xd, xe⟩ := x
      simp only [] at r0 r7
      go_enter Try.func15, Try.ntmps15
      go_wp2_with (go_at_call 39; refine (rightCheck_any _ _).mono ?_; rintro e w' ⟨rfl, rfl⟩; rw [H.out, errv_zero])
      all_goals first | (exfalso; omega) | (exfalso; simp_all; done) | exact bodyPost_ret (v := .tuple #[.agg #[.int .i64 0, .int .i64 0, .int .i64 0, .int .i64 0, .int .i64 0], .iface 119 (.int .i64 1)]) (by simp [results, Try.results15, go_sem]) rfl ⟨rfl, ((Ext.refl _).alloc _).alloc _⟩
    · have hb0 : 0 ≤ b := by omega
      have hb9 : b ≤ 99 := by omega
      clear hb
      cases hh : hasR x.Rights r with
      | false =>
        rw [derived_w3 h hb0 hb9 hh]
        have H := Lib.hid h; clear h
        have HH := Lib.hid hh; clear hh
        obtain ⟨xa, xb, xc, xd, xe⟩ := x
        simp only [] at r0 r7
        go_enter Try.func15, Try.ntmps15
        go_wp2_with (first | (go_at_call 39; refine (rightCheck_any _ _).mono ?_; rintro e w' ⟨rfl, rfl⟩; rw [H.out, errv_zero]) | (go_at_call 38; refine (rightHas_any _ _ _ r0 r7 h0 h7).mono ?_; rintro e w' ⟨rfl, rfl⟩; rw [HH.out]))
        all_goals first | (exfalso; omega) | (exfalso; simp_all; done) | exact bodyPost_ret (v := .tuple #[.agg #[.int .i64 0, .int .i64 0, .int .i64 0, .int .i64 0, .int .i64 0], .iface 119 (.int .i64 7)]) (by simp [results, Try.results15, go_sem]) rfl ⟨rfl, ((Ext.refl _).alloc _).alloc _⟩
      | true =>
        by_cases hc : b ≠ 0 ∧ x.Badge ≠ 0 ∧ b ≠ x.Badge
        · rw [derived_w4 h hb0 hb9 hh hc]
          have H := Lib.hid h; clear h
          have HH := Lib.hid hh; clear hh
          obtain ⟨xa, xb, xc, xd, xe⟩ := x
          simp only [] at r0 r7 hc
          obtain ⟨hc1, hc2, hc3⟩ := hc
          go_enter Try.func15, Try.ntmps15
          go_wp2_with (first | (go_at_call 39; refine (rightCheck_any _ _).mono ?_; rintro e w' ⟨rfl, rfl⟩; rw [H.out, errv_zero]) | (go_at_call 38; refine (rightHas_any _ _ _ r0 r7 h0 h7).mono ?_; rintro e w' ⟨rfl, rfl⟩; rw [HH.out]))
          all_goals first | (exfalso; omega) | (exfalso; simp_all; done) | exact bodyPost_ret (v := .tuple #[.agg #[.int .i64 0, .int .i64 0, .int .i64 0, .int .i64 0, .int .i64 0], .iface 119 (.int .i64 7)]) (by simp [results, Try.results15, go_sem]) rfl ⟨rfl, ((Ext.refl _).alloc _).alloc _⟩
        · by_cases hz : b = 0
          · rw [derived_w5 h hb0 hb9 hh hz]
            subst hz
            have H := Lib.hid h; clear h
            have HH := Lib.hid hh; clear hh
            obtain ⟨xa, xb, xc, xd, xe⟩ := x
            simp only [] at r0 r7 hc
            clear hc
            go_enter Try.func15, Try.ntmps15
            go_wp2_with (first | (go_at_call 39; refine (rightCheck_any _ _).mono ?_; rintro e w' ⟨rfl, rfl⟩; rw [H.out, errv_zero]) | (go_at_call 38; refine (rightHas_any _ _ _ r0 r7 h0 h7).mono ?_; rintro e w' ⟨rfl, rfl⟩; rw [HH.out]))
            all_goals first | (exfalso; omega) | (exfalso; simp_all; done) | exact bodyPost_ret (v := .tuple #[.agg #[.int .i64 id, .int .i64 xb, .int .i64 r, .int .i64 xd, .int .i64 xa], .nilIface]) (by simp [results, Try.results15, go_sem]) rfl ⟨rfl, ((Ext.refl _).alloc _).alloc _⟩
          · have hc2 : x.Badge = 0 ∨ b = x.Badge := by omega
            rw [derived_w6 h hb0 hb9 hh hz hc2]
            have H := Lib.hid h; clear h
            have HH := Lib.hid hh; clear hh
            obtain ⟨xa, xb, xc, xd, xe⟩ := x
            simp only [] at r0 r7 hc hc2
            clear hc
            rcases hc2 with rfl | rfl
            all_goals
              go_enter Try.func15, Try.ntmps15
              go_wp2_with (first | (go_at_call 39; refine (rightCheck_any _ _).mono ?_; rintro e w' ⟨rfl, rfl⟩; rw [H.out, errv_zero]) | (go_at_call 38; refine (rightHas_any _ _ _ r0 r7 h0 h7).mono ?_; rintro e w' ⟨rfl, rfl⟩; rw [HH.out]))
            · exact bodyPost_ret (v := .tuple #[.agg #[.int .i64 id, .int .i64 xb, .int .i64 r, .int .i64 b, .int .i64 xa], .nilIface]) (by simp [results, Try.results15, go_sem]) rfl ⟨rfl, ((Ext.refl _).alloc _).alloc _⟩
            · exact bodyPost_ret (v := .tuple #[.agg #[.int .i64 id, .int .i64 xb, .int .i64 r, .int .i64 b, .int .i64 xa], .nilIface]) (by simp [results, Try.results15, go_sem]) rfl ⟨rfl, ((Ext.refl _).alloc _).alloc _⟩

end Go.Proofs.Ytgmnmibejamneaa
