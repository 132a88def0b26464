/-
  The walk of the document's answer on what may be made of a writ.
-/
import Derived.Test.YtgmnmibejamneaaWritDerive
namespace Go.Proofs.Ytgmnmibejamneaa
open Go.RowKit
set_option linter.unusedVariables false
set_option maxHeartbeats 2000000 in
theorem derivedRef_any (x : Writ) (id r b : Int) (w : World) (r0 : 0 ≤ x.Rights) (r7 : x.Rights ≤ 7) :
    Calls Try.prog 21 #[x.val, .int .i64 id, .int .i64 r, .int .i64 b] w fun e w' => e = .returned (.tuple #[(derived x id r b).1.val, .int .i64 (derived x id r b).2]) ∧ Ext w w' := by
  rcases rightFault_cases r with ⟨h, hr⟩ | ⟨h, h0, h7⟩
  · rw [derived_w1 h]
    clear h
    obtain ⟨xa, xb, xc, xd, xe⟩ := x
    simp only [] at r0 r7
    go_enter Try.func21, Try.ntmps21
    go_wp2_with fail
    all_goals first | (exfalso; omega) | exact bodyPost_ret (v := .tuple #[.agg #[.int .i64 0, .int .i64 0, .int .i64 0, .int .i64 0, .int .i64 0], .int .i64 1]) (by simp [results, Try.results21, go_sem]) rfl ⟨rfl, ((Ext.refl _).alloc _).alloc _⟩
  · by_cases hb : b < 0 ∨ 99 < b
    · rw [derived_w2 h hb]
      clear h
      obtain ⟨xa, xb, xc, xd, xe⟩ := x
      simp only [] at r0 r7
      go_enter Try.func21, Try.ntmps21
      go_wp2_with fail
      all_goals first | (exfalso; omega) | exact bodyPost_ret (v := .tuple #[.agg #[.int .i64 0, .int .i64 0, .int .i64 0, .int .i64 0, .int .i64 0], .int .i64 1]) (by simp [results, Try.results21, go_sem]) rfl ⟨rfl, ((Ext.refl _).alloc _).alloc _⟩
    · have hb0 : 0 ≤ b := by omega
      have hb9 : b ≤ 99 := by omega
      clear hb
      cases hh : hasR x.Rights r with
      | false =>
        rw [derived_w3 h hb0 hb9 hh]
        clear h
        have HH := Lib.hid hh; clear hh
        obtain ⟨xa, xb, xc, xd, xe⟩ := x
        simp only [] at r0 r7
        go_enter Try.func21, Try.ntmps21
        go_wp2_with (go_at_call 43; refine (hasRef_any _ _ _ r0 r7 h0 h7).mono ?_; rintro e w' ⟨rfl, rfl⟩; rw [HH.out])
        all_goals first | (exfalso; omega) | exact bodyPost_ret (v := .tuple #[.agg #[.int .i64 0, .int .i64 0, .int .i64 0, .int .i64 0, .int .i64 0], .int .i64 7]) (by simp [results, Try.results21, go_sem]) rfl ⟨rfl, ((Ext.refl _).alloc _).alloc _⟩
      | true =>
        by_cases hc : b ≠ 0 ∧ x.Badge ≠ 0 ∧ b ≠ x.Badge
        · rw [derived_w4 h hb0 hb9 hh hc]
          clear h
          have HH := Lib.hid hh; clear hh
          obtain ⟨xa, xb, xc, xd, xe⟩ := x
          simp only [] at r0 r7 hc
          obtain ⟨hc1, hc2, hc3⟩ := hc
          go_enter Try.func21, Try.ntmps21
          go_wp2_with (go_at_call 43; refine (hasRef_any _ _ _ r0 r7 h0 h7).mono ?_; rintro e w' ⟨rfl, rfl⟩; rw [HH.out])
          all_goals first | (exfalso; omega) | (exfalso; simp_all; done) | exact bodyPost_ret (v := .tuple #[.agg #[.int .i64 0, .int .i64 0, .int .i64 0, .int .i64 0, .int .i64 0], .int .i64 7]) (by simp [results, Try.results21, go_sem]) rfl ⟨rfl, ((Ext.refl _).alloc _).alloc _⟩
        · have HD : Hid (derived x id r b = (⟨id, x.Thing, r, if x.Badge = 0 then b else x.Badge, x.ID⟩, 0)) := by
            by_cases hz : b = 0
            · refine (derived_w5 h hb0 hb9 hh hz).trans ?_; subst hz; split <;> simp_all
            · have hc2 : x.Badge = 0 ∨ b = x.Badge := by omega
              refine (derived_w6 h hb0 hb9 hh hz hc2).trans ?_; split <;> simp_all
          rw [HD.out]; clear HD h
          have HH := Lib.hid hh; clear hh
          obtain ⟨xa, xb, xc, xd, xe⟩ := x
          simp only [] at r0 r7 hc ⊢
          by_cases hx : xd = 0
          · rw [if_pos hx]
            subst hx
            clear hc
            go_enter Try.func21, Try.ntmps21
            go_wp2_with (go_at_call 43; refine (hasRef_any _ _ _ r0 r7 h0 h7).mono ?_; rintro e w' ⟨rfl, rfl⟩; rw [HH.out])
            all_goals first | (exfalso; omega) | exact bodyPost_ret (v := .tuple #[.agg #[.int .i64 id, .int .i64 xb, .int .i64 r, .int .i64 b, .int .i64 xa], .int .i64 0]) (by simp [results, Try.results21, go_sem] <;> omega) rfl ⟨rfl, ((Ext.refl _).alloc _).alloc _⟩
          · rw [if_neg hx]
            have hbx : b = 0 ∨ b = xd := by omega
            clear hc
            have hx1 : (xd != 0) = true := by simpa using hx
            rcases hbx with rfl | rfl
            all_goals
              go_enter Try.func21, Try.ntmps21
              go_wp2_with (go_at_call 43; refine (hasRef_any _ _ _ r0 r7 h0 h7).mono ?_; rintro e w' ⟨rfl, rfl⟩; rw [HH.out])
              all_goals first | (exfalso; omega) | (exact bodyPost_ret (v := .tuple #[.agg #[.int .i64 id, .int .i64 xb, .int .i64 r, .int .i64 xd, .int .i64 xa], .int .i64 0]) (by simp [results, Try.results21, go_sem]) rfl ⟨rfl, ((Ext.refl _).alloc _).alloc _⟩) | (exact bodyPost_ret (v := .tuple #[.agg #[.int .i64 id, .int .i64 xb, .int .i64 r, .int .i64 b, .int .i64 xa], .int .i64 0]) (by simp [results, Try.results21, go_sem] <;> omega) rfl ⟨rfl, ((Ext.refl _).alloc _).alloc _⟩)
end Go.Proofs.Ytgmnmibejamneaa
