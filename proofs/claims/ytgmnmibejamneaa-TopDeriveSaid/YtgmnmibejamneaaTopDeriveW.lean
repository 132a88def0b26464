/-
  The walk of the statement TopDerive: it returns true, and nothing that was there is changed.
-/
import Derived.Test.YtgmnmibejamneaaWritDerive
import Derived.Test.YtgmnmibejamneaaSame
namespace Go.Proofs.Ytgmnmibejamneaa
open Go.RowKit
set_option linter.unusedVariables false

theorem hasR_trans_fin : ∀ a b c : Fin 8, hasR ((a : Nat) : Int) ((b : Nat) : Int) = true → hasR ((b : Nat) : Int) ((c : Nat) : Int) = true → hasR ((a : Nat) : Int) ((c : Nat) : Int) = true := by decide
theorem hasR_trans {a b c : Int} (a0 : 0 ≤ a) (a7 : a ≤ 7) (b0 : 0 ≤ b) (b7 : b ≤ 7) (c0 : 0 ≤ c) (c7 : c ≤ 7) (h : hasR a b = true) (k : hasR b c = true) : hasR a c = true := by
  obtain ⟨x, rfl⟩ := fin_of a0 a7; obtain ⟨y, rfl⟩ := fin_of b0 b7; obtain ⟨z, rfl⟩ := fin_of c0 c7; exact hasR_trans_fin x y z h k

/-- What Derive gives: a fault and nothing, or a writ of the same thing. -/
theorem derived_form (x : Writ) (id r b : Int) : (∃ e, 0 < e ∧ derived x id r b = (zeroW, e)) ∨
    ∃ bb, derived x id r b = (⟨id, x.Thing, r, bb, x.ID⟩, 0) ∧ 0 ≤ r ∧ r ≤ 7 ∧ hasR x.Rights r = true ∧ (x.Badge ≠ 0 → bb = x.Badge) ∧ (bb = b ∨ bb = x.Badge) ∧ 0 ≤ b ∧ b ≤ 99 := by
  rcases rightFault_cases r with ⟨h, hr⟩ | ⟨h, h0, h7⟩
  · exact .inl ⟨1, by decide, derived_w1 h⟩
  · by_cases hb : b < 0 ∨ 99 < b
    · exact .inl ⟨1, by decide, derived_w2 h hb⟩
    · have hb0 : 0 ≤ b := by omega
      have hb9 : b ≤ 99 := by omega
      cases hh : hasR x.Rights r with
      | false => exact .inl ⟨7, by decide, derived_w3 h hb0 hb9 hh⟩
      | true =>
        by_cases hc : b ≠ 0 ∧ x.Badge ≠ 0 ∧ b ≠ x.Badge
        · exact .inl ⟨7, by decide, derived_w4 h hb0 hb9 hh hc⟩
        · by_cases hz : b = 0
          · exact .inr ⟨x.Badge, derived_w5 h hb0 hb9 hh hz, h0, h7, rfl, fun _ => rfl, .inr rfl, hb0, hb9⟩
          · exact .inr ⟨b, derived_w6 h hb0 hb9 hh hz (by omega), h0, h7, rfl, fun hx => by omega, .inl rfl, hb0, hb9⟩
theorem derived_good {x : Writ} {id r b : Int} (r0 : 0 ≤ r) (r7 : r ≤ 7) (b0 : 0 ≤ b) (b9 : b ≤ 99) (hh : hasR x.Rights r = true) (hb : x.Badge = 0 ∨ b = x.Badge) : derived x id r b = (⟨id, x.Thing, r, b, x.ID⟩, 0) := by
  have h := rightFault_ok r0 r7
  by_cases hz : b = 0
  · rw [derived_w5 h b0 b9 hh hz]; subst hz
    rcases hb with hb | hb <;> rw [show x.Badge = 0 by omega]
  · exact derived_w6 h b0 b9 hh hz hb

set_option maxHeartbeats 1000000 in
theorem number_any (n : Int) (w : World) : Calls Try.prog 81 #[errv n] w fun e w' => e = .returned (.int .i64 n) ∧ w = w' := by
  by_cases h : n = 0
  · subst h
    rw [errv_zero]
    go_enter Try.func81, Try.ntmps81
    go_wp2
    go_ret
    exact ⟨rfl, rfl⟩
  · rw [errv_pos h]
    clear h
    have hta := fun w => assertErrno n w
    go_enter Try.func81, Try.ntmps81
    go_wp2
    go_ret
    exact ⟨rfl, rfl⟩

theorem derive_one2 : derived ⟨1, 1, 1, 0, 0⟩ 2 3 0 = (zeroW, 7) := by decide

set_option maxRecDepth 100000 in
set_option maxHeartbeats 1000000 in
theorem topDerive_A (xa xb xc xd xe id r b i2 r2 q2 : Int) (w : World) (hf : writFault ⟨xa, xb, xc, xd, xe⟩ = 1) :
    Calls Try.prog 9 #[.agg #[.int .i64 xa, .int .i64 xb, .int .i64 xc, .int .i64 xd, .int .i64 xe], .int .i64 id, .int .i64 r, .int .i64 b, .int .i64 i2, .int .i64 r2, .int .i64 q2] w fun e w' => e = .returned (.bool true) ∧ Ext w w' := by
  have HF := Lib.hid hf; clear hf
  have HB := Lib.hid (BoxW.new w ⟨xa, xb, xc, xd, xe⟩ 23)
  go_enter Try.func9, Try.ntmps9
  go_wp2_with fail
  refine (derive_any ⟨1, 1, 1, 0, 0⟩ 2 3 0 _ (by decide) (by decide)).mono ?_
  rintro e w1 ⟨rfl, hx1⟩; rw [derive_one2]
  obtain ⟨a0, a1, a2, a3, a4⟩ := HB.out.ext hx1; have n1 := cell_ne a0; have m1 := cell_lt a0
  go_wp2_with fail
  refine (number_any 7 _).mono ?_
  rintro e w' ⟨rfl, rfl⟩
  go_wp2_with fail
  refine (writCheck_any ⟨xa, xb, xc, xd, xe⟩ _).mono ?_
  rintro e w2 ⟨rfl, hx2⟩
  have HB2 := Lib.hid ((HB.out.ext (hx1.trans ((Ext.refl _).alloc _))).ext hx2)
  have E2 := Lib.hid ((((Ext.refl _).alloc _).trans hx1).trans (((Ext.refl _).alloc _).trans hx2))
  clear hx1 hx2 a0 a1 a2 a3 a4 n1 m1
  obtain ⟨c0, c1, c2, c3, c4⟩ := HB2.out
  have n2 := cell_ne c0; have m2 := cell_lt c0
  rw [HF.out, errv_pos (by decide)]
  go_wp2_with fail
  go_ret
  exact ⟨rfl, E2.out⟩

set_option maxRecDepth 100000 in
set_option maxHeartbeats 1000000 in
theorem topDerive_B (xa xb xc xd xe id r b i2 r2 q2 : Int) (w : World) (hf : writFault ⟨xa, xb, xc, xd, xe⟩ = 0) (g9 : 0 ≤ xc) (g10 : xc ≤ 7) (f : Int) (hf0 : 0 < f) (hd : derived ⟨xa, xb, xc, xd, xe⟩ id r b = (zeroW, f)) :
    Calls Try.prog 9 #[.agg #[.int .i64 xa, .int .i64 xb, .int .i64 xc, .int .i64 xd, .int .i64 xe], .int .i64 id, .int .i64 r, .int .i64 b, .int .i64 i2, .int .i64 r2, .int .i64 q2] w fun e w' => e = .returned (.bool true) ∧ Ext w w' := by
  have HF := Lib.hid hf; clear hf
  have HD := Lib.hid hd; clear hd
  have HB := Lib.hid (BoxW.new w ⟨xa, xb, xc, xd, xe⟩ 23)
  go_enter Try.func9, Try.ntmps9
  go_wp2_with fail
  refine (derive_any ⟨1, 1, 1, 0, 0⟩ 2 3 0 _ (by decide) (by decide)).mono ?_
  rintro e w1 ⟨rfl, hx1⟩; rw [derive_one2]
  obtain ⟨a0, a1, a2, a3, a4⟩ := HB.out.ext hx1; have n1 := cell_ne a0; have m1 := cell_lt a0
  go_wp2_with fail
  refine (number_any 7 _).mono ?_
  rintro e w' ⟨rfl, rfl⟩
  go_wp2_with fail
  refine (writCheck_any ⟨xa, xb, xc, xd, xe⟩ _).mono ?_
  rintro e w2 ⟨rfl, hx2⟩
  have HB2 := Lib.hid ((HB.out.ext (hx1.trans ((Ext.refl _).alloc _))).ext hx2)
  have E2 := Lib.hid ((((Ext.refl _).alloc _).trans hx1).trans (((Ext.refl _).alloc _).trans hx2))
  clear hx1 hx2 a0 a1 a2 a3 a4 n1 m1
  obtain ⟨c0, c1, c2, c3, c4⟩ := HB2.out
  have n2 := cell_ne c0; have m2 := cell_lt c0
  rw [HF.out, errv_zero]
  go_wp2_with fail
  refine (derive_any ⟨xa, xb, xc, xd, xe⟩ id r b _ g9 g10).mono ?_
  rintro e w3 ⟨rfl, hx3⟩
  have HB3 := Lib.hid (HB2.out.ext hx3)
  have E3 := Lib.hid (E2.out.trans hx3)
  clear c0 c1 c2 c3 c4 n2 m2 hx3
  obtain ⟨p0, p1, p2, p3, p4⟩ := HB3.out
  have n3 := cell_ne p0; have m3 := cell_lt p0
  rw [HD.out, errv_pos (by omega)]
  go_wp2_with fail
  go_ret
  exact ⟨rfl, E3.out.alloc _⟩

set_option maxRecDepth 100000 in
set_option maxHeartbeats 1000000 in
theorem topDerive_C0 (xa xb xc xd xe id r b i2 r2 q2 : Int) (w : World) (hf : writFault ⟨xa, xb, xc, xd, xe⟩ = 0) (g9 : 0 ≤ xc) (g10 : xc ≤ 7) (bb : Int) (hd : derived ⟨xa, xb, xc, xd, xe⟩ id r b = (⟨id, xb, r, bb, xa⟩, 0)) (k0 : 0 ≤ r) (k7 : r ≤ 7) (hk : hasR xc r = true) (hz : (xd != 0) = false) (f : Int) (hf0 : 0 < f) (he : derived ⟨id, xb, r, bb, xa⟩ i2 r2 q2 = (zeroW, f)) :
    Calls Try.prog 9 #[.agg #[.int .i64 xa, .int .i64 xb, .int .i64 xc, .int .i64 xd, .int .i64 xe], .int .i64 id, .int .i64 r, .int .i64 b, .int .i64 i2, .int .i64 r2, .int .i64 q2] w fun e w' => e = .returned (.bool true) ∧ Ext w w' := by
  have HF := Lib.hid hf; clear hf
  have HD := Lib.hid hd; clear hd
  have HK := Lib.hid hk; clear hk
  have HE := Lib.hid he; clear he
  have HB := Lib.hid (BoxW.new w ⟨xa, xb, xc, xd, xe⟩ 23)
  go_enter Try.func9, Try.ntmps9
  go_wp2_with fail
  refine (derive_any ⟨1, 1, 1, 0, 0⟩ 2 3 0 _ (by decide) (by decide)).mono ?_
  rintro e w1 ⟨rfl, hx1⟩; rw [derive_one2]
  obtain ⟨a0, a1, a2, a3, a4⟩ := HB.out.ext hx1; have n1 := cell_ne a0; have m1 := cell_lt a0
  go_wp2_with fail
  refine (number_any 7 _).mono ?_
  rintro e w' ⟨rfl, rfl⟩
  go_wp2_with fail
  refine (writCheck_any ⟨xa, xb, xc, xd, xe⟩ _).mono ?_
  rintro e w2 ⟨rfl, hx2⟩
  have HB2 := Lib.hid ((HB.out.ext (hx1.trans ((Ext.refl _).alloc _))).ext hx2)
  have E2 := Lib.hid ((((Ext.refl _).alloc _).trans hx1).trans (((Ext.refl _).alloc _).trans hx2))
  clear hx1 hx2 a0 a1 a2 a3 a4 n1 m1
  obtain ⟨c0, c1, c2, c3, c4⟩ := HB2.out
  have n2 := cell_ne c0; have m2 := cell_lt c0
  rw [HF.out, errv_zero]
  go_wp2_with fail
  refine (derive_any ⟨xa, xb, xc, xd, xe⟩ id r b _ g9 g10).mono ?_
  rintro e w3 ⟨rfl, hx3⟩
  have HB3 := Lib.hid (HB2.out.ext hx3)
  have E3 := Lib.hid (E2.out.trans hx3)
  clear c0 c1 c2 c3 c4 n2 m2 hx3
  obtain ⟨p0, p1, p2, p3, p4⟩ := HB3.out
  have n3 := cell_ne p0; have m3 := cell_lt p0
  rw [HD.out, errv_zero]
  have HN := Lib.hid (BoxW.new w3 ⟨id, xb, r, bb, xa⟩ 23)
  go_wp2_with fail
  refine (rightHas_any _ _ _ g9 g10 k0 k7).mono ?_
  rintro e w' ⟨rfl, rfl⟩
  rw [HK.out]
  go_wp2_with fail
  refine (derive_any ⟨id, xb, r, bb, xa⟩ i2 r2 q2 _ k0 k7).mono ?_
  rintro e w4 ⟨rfl, hx4⟩
  have E4 := Lib.hid ((E3.out.alloc _).trans hx4)
  have HN4 := Lib.hid (HN.out.ext hx4)
  have HB4 := Lib.hid (HB3.out.ext (((Ext.refl _).alloc _).trans hx4))
  clear p0 p1 p2 p3 p4 n3 m3 hx4
  obtain ⟨s0, s1, s2, s3, s4⟩ := HN4.out
  have n4 := cell_ne s0; have m4 := cell_lt s0
  obtain ⟨t0, t1, t2, t3, t4⟩ := HB4.out
  have n5 := cell_ne t0; have m5 := cell_lt t0
  rw [HE.out, errv_pos (by omega)]
  go_wp2_with fail
  go_ret
  exact ⟨rfl, E4.out.alloc _⟩

set_option maxRecDepth 100000 in
set_option maxHeartbeats 1000000 in
theorem topDerive_C1 (xa xb xc xd xe id r b i2 r2 q2 : Int) (w : World) (hf : writFault ⟨xa, xb, xc, xd, xe⟩ = 0) (g9 : 0 ≤ xc) (g10 : xc ≤ 7) (bb : Int) (hd : derived ⟨xa, xb, xc, xd, xe⟩ id r b = (⟨id, xb, r, bb, xa⟩, 0)) (k0 : 0 ≤ r) (k7 : r ≤ 7) (hk : hasR xc r = true) (hz : (xd != 0) = true) (hz2 : (bb != xd) = false) (f : Int) (hf0 : 0 < f) (he : derived ⟨id, xb, r, bb, xa⟩ i2 r2 q2 = (zeroW, f)) :
    Calls Try.prog 9 #[.agg #[.int .i64 xa, .int .i64 xb, .int .i64 xc, .int .i64 xd, .int .i64 xe], .int .i64 id, .int .i64 r, .int .i64 b, .int .i64 i2, .int .i64 r2, .int .i64 q2] w fun e w' => e = .returned (.bool true) ∧ Ext w w' := by
  have HF := Lib.hid hf; clear hf
  have HD := Lib.hid hd; clear hd
  have HK := Lib.hid hk; clear hk
  have HE := Lib.hid he; clear he
  have HB := Lib.hid (BoxW.new w ⟨xa, xb, xc, xd, xe⟩ 23)
  go_enter Try.func9, Try.ntmps9
  go_wp2_with fail
  refine (derive_any ⟨1, 1, 1, 0, 0⟩ 2 3 0 _ (by decide) (by decide)).mono ?_
  rintro e w1 ⟨rfl, hx1⟩; rw [derive_one2]
  obtain ⟨a0, a1, a2, a3, a4⟩ := HB.out.ext hx1; have n1 := cell_ne a0; have m1 := cell_lt a0
  go_wp2_with fail
  refine (number_any 7 _).mono ?_
  rintro e w' ⟨rfl, rfl⟩
  go_wp2_with fail
  refine (writCheck_any ⟨xa, xb, xc, xd, xe⟩ _).mono ?_
  rintro e w2 ⟨rfl, hx2⟩
  have HB2 := Lib.hid ((HB.out.ext (hx1.trans ((Ext.refl _).alloc _))).ext hx2)
  have E2 := Lib.hid ((((Ext.refl _).alloc _).trans hx1).trans (((Ext.refl _).alloc _).trans hx2))
  clear hx1 hx2 a0 a1 a2 a3 a4 n1 m1
  obtain ⟨c0, c1, c2, c3, c4⟩ := HB2.out
  have n2 := cell_ne c0; have m2 := cell_lt c0
  rw [HF.out, errv_zero]
  go_wp2_with fail
  refine (derive_any ⟨xa, xb, xc, xd, xe⟩ id r b _ g9 g10).mono ?_
  rintro e w3 ⟨rfl, hx3⟩
  have HB3 := Lib.hid (HB2.out.ext hx3)
  have E3 := Lib.hid (E2.out.trans hx3)
  clear c0 c1 c2 c3 c4 n2 m2 hx3
  obtain ⟨p0, p1, p2, p3, p4⟩ := HB3.out
  have n3 := cell_ne p0; have m3 := cell_lt p0
  rw [HD.out, errv_zero]
  have HN := Lib.hid (BoxW.new w3 ⟨id, xb, r, bb, xa⟩ 23)
  go_wp2_with fail
  refine (rightHas_any _ _ _ g9 g10 k0 k7).mono ?_
  rintro e w' ⟨rfl, rfl⟩
  rw [HK.out]
  go_wp2_with fail
  refine (derive_any ⟨id, xb, r, bb, xa⟩ i2 r2 q2 _ k0 k7).mono ?_
  rintro e w4 ⟨rfl, hx4⟩
  have E4 := Lib.hid ((E3.out.alloc _).trans hx4)
  have HN4 := Lib.hid (HN.out.ext hx4)
  have HB4 := Lib.hid (HB3.out.ext (((Ext.refl _).alloc _).trans hx4))
  clear p0 p1 p2 p3 p4 n3 m3 hx4
  obtain ⟨s0, s1, s2, s3, s4⟩ := HN4.out
  have n4 := cell_ne s0; have m4 := cell_lt s0
  obtain ⟨t0, t1, t2, t3, t4⟩ := HB4.out
  have n5 := cell_ne t0; have m5 := cell_lt t0
  rw [HE.out, errv_pos (by omega)]
  go_wp2_with fail
  go_ret
  exact ⟨rfl, E4.out.alloc _⟩

set_option maxRecDepth 100000 in
set_option maxHeartbeats 1000000 in
theorem topDerive_D0 (xa xb xc xd xe id r b i2 r2 q2 : Int) (w : World) (hf : writFault ⟨xa, xb, xc, xd, xe⟩ = 0) (g9 : 0 ≤ xc) (g10 : xc ≤ 7) (bb : Int) (hd : derived ⟨xa, xb, xc, xd, xe⟩ id r b = (⟨id, xb, r, bb, xa⟩, 0)) (k0 : 0 ≤ r) (k7 : r ≤ 7) (hk : hasR xc r = true) (hz : (xd != 0) = false) (bc : Int) (he : derived ⟨id, xb, r, bb, xa⟩ i2 r2 q2 = (⟨i2, xb, r2, bc, id⟩, 0)) (hg : derived ⟨xa, xb, xc, xd, xe⟩ i2 r2 bc = (⟨i2, xb, r2, bc, xa⟩, 0)) :
    Calls Try.prog 9 #[.agg #[.int .i64 xa, .int .i64 xb, .int .i64 xc, .int .i64 xd, .int .i64 xe], .int .i64 id, .int .i64 r, .int .i64 b, .int .i64 i2, .int .i64 r2, .int .i64 q2] w fun e w' => e = .returned (.bool true) ∧ Ext w w' := by
  have HF := Lib.hid hf; clear hf
  have HD := Lib.hid hd; clear hd
  have HK := Lib.hid hk; clear hk
  have HE := Lib.hid he; clear he
  have HG := Lib.hid hg; clear hg
  have HB := Lib.hid (BoxW.new w ⟨xa, xb, xc, xd, xe⟩ 23)
  go_enter Try.func9, Try.ntmps9
  go_wp2_with fail
  refine (derive_any ⟨1, 1, 1, 0, 0⟩ 2 3 0 _ (by decide) (by decide)).mono ?_
  rintro e w1 ⟨rfl, hx1⟩; rw [derive_one2]
  obtain ⟨a0, a1, a2, a3, a4⟩ := HB.out.ext hx1; have n1 := cell_ne a0; have m1 := cell_lt a0
  go_wp2_with fail
  refine (number_any 7 _).mono ?_
  rintro e w' ⟨rfl, rfl⟩
  go_wp2_with fail
  refine (writCheck_any ⟨xa, xb, xc, xd, xe⟩ _).mono ?_
  rintro e w2 ⟨rfl, hx2⟩
  have HB2 := Lib.hid ((HB.out.ext (hx1.trans ((Ext.refl _).alloc _))).ext hx2)
  have E2 := Lib.hid ((((Ext.refl _).alloc _).trans hx1).trans (((Ext.refl _).alloc _).trans hx2))
  clear hx1 hx2 a0 a1 a2 a3 a4 n1 m1
  obtain ⟨c0, c1, c2, c3, c4⟩ := HB2.out
  have n2 := cell_ne c0; have m2 := cell_lt c0
  rw [HF.out, errv_zero]
  go_wp2_with fail
  refine (derive_any ⟨xa, xb, xc, xd, xe⟩ id r b _ g9 g10).mono ?_
  rintro e w3 ⟨rfl, hx3⟩
  have HB3 := Lib.hid (HB2.out.ext hx3)
  have E3 := Lib.hid (E2.out.trans hx3)
  clear c0 c1 c2 c3 c4 n2 m2 hx3
  obtain ⟨p0, p1, p2, p3, p4⟩ := HB3.out
  have n3 := cell_ne p0; have m3 := cell_lt p0
  rw [HD.out, errv_zero]
  have HN := Lib.hid (BoxW.new w3 ⟨id, xb, r, bb, xa⟩ 23)
  go_wp2_with fail
  refine (rightHas_any _ _ _ g9 g10 k0 k7).mono ?_
  rintro e w' ⟨rfl, rfl⟩
  rw [HK.out]
  go_wp2_with fail
  refine (derive_any ⟨id, xb, r, bb, xa⟩ i2 r2 q2 _ k0 k7).mono ?_
  rintro e w4 ⟨rfl, hx4⟩
  have E4 := Lib.hid ((E3.out.alloc _).trans hx4)
  have HN4 := Lib.hid (HN.out.ext hx4)
  have HB4 := Lib.hid (HB3.out.ext (((Ext.refl _).alloc _).trans hx4))
  clear p0 p1 p2 p3 p4 n3 m3 hx4
  obtain ⟨s0, s1, s2, s3, s4⟩ := HN4.out
  have n4 := cell_ne s0; have m4 := cell_lt s0
  obtain ⟨t0, t1, t2, t3, t4⟩ := HB4.out
  have n5 := cell_ne t0; have m5 := cell_lt t0
  rw [HE.out, errv_zero]
  have HM := Lib.hid (BoxW.new w4 ⟨i2, xb, r2, bc, id⟩ 23)
  go_wp2_with fail
  refine (derive_any ⟨xa, xb, xc, xd, xe⟩ i2 r2 bc _ g9 g10).mono ?_
  rintro e w5 ⟨rfl, hx5⟩
  have E5 := Lib.hid ((E4.out.alloc _).trans hx5)
  have HM5 := Lib.hid (HM.out.ext hx5)
  clear s0 s1 s2 s3 s4 n4 m4 t0 t1 t2 t3 t4 n5 m5 hx5
  obtain ⟨v0, v1, v2, v3, v4⟩ := HM5.out
  have n6 := cell_ne v0; have m6 := cell_lt v0
  rw [HG.out, errv_zero]
  go_wp2_with fail
  go_ret
  exact ⟨rfl, E5.out.alloc _⟩

set_option maxRecDepth 100000 in
set_option maxHeartbeats 1000000 in
theorem topDerive_D1 (xa xb xc xd xe id r b i2 r2 q2 : Int) (w : World) (hf : writFault ⟨xa, xb, xc, xd, xe⟩ = 0) (g9 : 0 ≤ xc) (g10 : xc ≤ 7) (bb : Int) (hd : derived ⟨xa, xb, xc, xd, xe⟩ id r b = (⟨id, xb, r, bb, xa⟩, 0)) (k0 : 0 ≤ r) (k7 : r ≤ 7) (hk : hasR xc r = true) (hz : (xd != 0) = true) (hz2 : (bb != xd) = false) (bc : Int) (he : derived ⟨id, xb, r, bb, xa⟩ i2 r2 q2 = (⟨i2, xb, r2, bc, id⟩, 0)) (hg : derived ⟨xa, xb, xc, xd, xe⟩ i2 r2 bc = (⟨i2, xb, r2, bc, xa⟩, 0)) :
    Calls Try.prog 9 #[.agg #[.int .i64 xa, .int .i64 xb, .int .i64 xc, .int .i64 xd, .int .i64 xe], .int .i64 id, .int .i64 r, .int .i64 b, .int .i64 i2, .int .i64 r2, .int .i64 q2] w fun e w' => e = .returned (.bool true) ∧ Ext w w' := by
  have HF := Lib.hid hf; clear hf
  have HD := Lib.hid hd; clear hd
  have HK := Lib.hid hk; clear hk
  have HE := Lib.hid he; clear he
  have HG := Lib.hid hg; clear hg
  have HB := Lib.hid (BoxW.new w ⟨xa, xb, xc, xd, xe⟩ 23)
  go_enter Try.func9, Try.ntmps9
  go_wp2_with fail
  refine (derive_any ⟨1, 1, 1, 0, 0⟩ 2 3 0 _ (by decide) (by decide)).mono ?_
  rintro e w1 ⟨rfl, hx1⟩; rw [derive_one2]
  obtain ⟨a0, a1, a2, a3, a4⟩ := HB.out.ext hx1; have n1 := cell_ne a0; have m1 := cell_lt a0
  go_wp2_with fail
  refine (number_any 7 _).mono ?_
  rintro e w' ⟨rfl, rfl⟩
  go_wp2_with fail
  refine (writCheck_any ⟨xa, xb, xc, xd, xe⟩ _).mono ?_
  rintro e w2 ⟨rfl, hx2⟩
  have HB2 := Lib.hid ((HB.out.ext (hx1.trans ((Ext.refl _).alloc _))).ext hx2)
  have E2 := Lib.hid ((((Ext.refl _).alloc _).trans hx1).trans (((Ext.refl _).alloc _).trans hx2))
  clear hx1 hx2 a0 a1 a2 a3 a4 n1 m1
  obtain ⟨c0, c1, c2, c3, c4⟩ := HB2.out
  have n2 := cell_ne c0; have m2 := cell_lt c0
  rw [HF.out, errv_zero]
  go_wp2_with fail
  refine (derive_any ⟨xa, xb, xc, xd, xe⟩ id r b _ g9 g10).mono ?_
  rintro e w3 ⟨rfl, hx3⟩
  have HB3 := Lib.hid (HB2.out.ext hx3)
  have E3 := Lib.hid (E2.out.trans hx3)
  clear c0 c1 c2 c3 c4 n2 m2 hx3
  obtain ⟨p0, p1, p2, p3, p4⟩ := HB3.out
  have n3 := cell_ne p0; have m3 := cell_lt p0
  rw [HD.out, errv_zero]
  have HN := Lib.hid (BoxW.new w3 ⟨id, xb, r, bb, xa⟩ 23)
  go_wp2_with fail
  refine (rightHas_any _ _ _ g9 g10 k0 k7).mono ?_
  rintro e w' ⟨rfl, rfl⟩
  rw [HK.out]
  go_wp2_with fail
  refine (derive_any ⟨id, xb, r, bb, xa⟩ i2 r2 q2 _ k0 k7).mono ?_
  rintro e w4 ⟨rfl, hx4⟩
  have E4 := Lib.hid ((E3.out.alloc _).trans hx4)
  have HN4 := Lib.hid (HN.out.ext hx4)
  have HB4 := Lib.hid (HB3.out.ext (((Ext.refl _).alloc _).trans hx4))
  clear p0 p1 p2 p3 p4 n3 m3 hx4
  obtain ⟨s0, s1, s2, s3, s4⟩ := HN4.out
  have n4 := cell_ne s0; have m4 := cell_lt s0
  obtain ⟨t0, t1, t2, t3, t4⟩ := HB4.out
  have n5 := cell_ne t0; have m5 := cell_lt t0
  rw [HE.out, errv_zero]
  have HM := Lib.hid (BoxW.new w4 ⟨i2, xb, r2, bc, id⟩ 23)
  go_wp2_with fail
  refine (derive_any ⟨xa, xb, xc, xd, xe⟩ i2 r2 bc _ g9 g10).mono ?_
  rintro e w5 ⟨rfl, hx5⟩
  have E5 := Lib.hid ((E4.out.alloc _).trans hx5)
  have HM5 := Lib.hid (HM.out.ext hx5)
  clear s0 s1 s2 s3 s4 n4 m4 t0 t1 t2 t3 t4 n5 m5 hx5
  obtain ⟨v0, v1, v2, v3, v4⟩ := HM5.out
  have n6 := cell_ne v0; have m6 := cell_lt v0
  rw [HG.out, errv_zero]
  go_wp2_with fail
  go_ret
  exact ⟨rfl, E5.out.alloc _⟩

theorem topDerive_walk (x : Writ) (id r b i2 r2 q2 : Int) (w : World) :
    Calls Try.prog 9 #[x.val, .int .i64 id, .int .i64 r, .int .i64 b, .int .i64 i2, .int .i64 r2, .int .i64 q2] w fun e w' => e = .returned (.bool true) ∧ Ext w w' := by
  obtain ⟨xa, xb, xc, xd, xe⟩ := x
  rcases writFault_cases ⟨xa, xb, xc, xd, xe⟩ with ⟨h, -⟩ | ⟨h, g1, g2, g3, g4, g5, g6, g7, g8, g9, g10⟩
  · exact topDerive_A xa xb xc xd xe id r b i2 r2 q2 w h
  · rcases derived_form ⟨xa, xb, xc, xd, xe⟩ id r b with ⟨f, hf, hd⟩ | ⟨bb, hd, k0, k7, hk, hk2, hk3, kb0, kb9⟩
    · exact topDerive_B xa xb xc xd xe id r b i2 r2 q2 w h g9 g10 f hf hd
    · simp only [] at hk2 hk3 g5 g6
      rcases derived_form ⟨id, xb, r, bb, xa⟩ i2 r2 q2 with ⟨f, hf, he⟩ | ⟨bc, he, l0, l7, hl, hl2, hl3, lb0, lb9⟩
      · by_cases hz : xd = 0
        · exact topDerive_C0 xa xb xc xd xe id r b i2 r2 q2 w h g9 g10 bb hd k0 k7 hk (by simpa using hz) f hf he
        · exact topDerive_C1 xa xb xc xd xe id r b i2 r2 q2 w h g9 g10 bb hd k0 k7 hk (by simpa using hz) (by simpa using hk2 hz) f hf he
      · simp only [] at hl2 hl3 hl
        have hg : derived ⟨xa, xb, xc, xd, xe⟩ i2 r2 bc = (⟨i2, xb, r2, bc, xa⟩, 0) := derived_good l0 l7 (by omega) (by omega) (hasR_trans g9 g10 k0 k7 l0 l7 hk hl) (by simp only []; omega)
        by_cases hz : xd = 0
        · exact topDerive_D0 xa xb xc xd xe id r b i2 r2 q2 w h g9 g10 bb hd k0 k7 hk (by simpa using hz) bc he hg
        · exact topDerive_D1 xa xb xc xd xe id r b i2 r2 q2 w h g9 g10 bb hd k0 k7 hk (by simpa using hz) (by simpa using hk2 hz) bc he hg
end Go.Proofs.Ytgmnmibejamneaa
