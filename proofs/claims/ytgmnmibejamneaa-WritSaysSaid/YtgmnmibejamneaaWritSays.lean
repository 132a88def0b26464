/-
  The walk of the statement WritSays: it returns true, and nothing that was there is changed.
-/
import Derived.Test.YtgmnmibejamneaaWritDerRef
import Derived.Test.YtgmnmibejamneaaWritFind
import Derived.Test.YtgmnmibejamneaaSame
import Derived.Deep.RegionHeld3
namespace Go.Proofs.Ytgmnmibejamneaa
open Go.RowKit
set_option linter.unusedVariables false

theorem writFault_nonneg (x : Writ) : 0 ≤ writFault x := by rcases writFault_cases x with ⟨h, -⟩ | ⟨h, -⟩ <;> rw [h] <;> decide
theorem derived_nonneg (x : Writ) (id r b : Int) : 0 ≤ (derived x id r b).2 := by unfold derived; (repeat' split) <;> simp
theorem derive_one : derived ⟨1, 1, 7, 0, 0⟩ 2 3 5 = (⟨2, 1, 3, 5, 1⟩, 0) := by decide

set_option maxRecDepth 100000 in
set_option maxHeartbeats 2000000 in
theorem writSays_walk (x : Writ) (id r b : Int) (v : Value) (l : List Writ) (w : World) (hv : Sl w v l) :
    Calls Try.prog 3 #[x.val, .int .i64 id, .int .i64 r, .int .i64 b, v] w fun e w' => e = .returned (.bool true) ∧ Ext w w' := by
  obtain ⟨A, c, rfl, hcc, hcm⟩ := hv.form
  have HV := Lib.hid hv; clear hv
  by_cases hl : 40 < l.length
  · obtain ⟨xa, xb, xc, xd, xe⟩ := x
    go_enter Try.func3, Try.ntmps3
    go_wp2_with (go_at_call 15; refine (derive_any ⟨1, 1, 7, 0, 0⟩ 2 3 5 _ (by decide) (by decide)).mono ?_; rintro e w1 ⟨rfl, hx1⟩; rw [derive_one, errv_zero]; have hc1 := hx1.cell; have hz1 := hx1.size)
    go_ret
    exact ⟨rfl, (((Ext.refl _).alloc _).trans hx1).alloc _⟩
  · have hl' : l.length ≤ 40 := by omega
    obtain ⟨xa, xb, xc, xd, xe⟩ := x
    go_enter Try.func3, Try.ntmps3
    go_wp2_with (go_at_call 15; refine (derive_any ⟨1, 1, 7, 0, 0⟩ 2 3 5 _ (by decide) (by decide)).mono ?_; rintro e w1 ⟨rfl, hx1⟩; rw [derive_one, errv_zero]; have hc1 := hx1.cell; have hz1 := hx1.size)
    go_region_held3 (fun w' => (w'.cell? ⟨w.heap.size, 0, none⟩ = some (.int .i64 xa) ∧ w'.cell? ⟨w.heap.size, 1, none⟩ = some (.int .i64 xb) ∧ w'.cell? ⟨w.heap.size, 2, none⟩ = some (.int .i64 xc) ∧ w'.cell? ⟨w.heap.size, 3, none⟩ = some (.int .i64 xd) ∧ w'.cell? ⟨w.heap.size, 4, none⟩ = some (.int .i64 xe)) ∧ Ext w w')
      ((go_split_ands; refine ⟨⟨?_, ?_, ?_, ?_, ?_⟩, ?_⟩ <;> first | assumption | (exact Ext.cellSome (by assumption) (by assumption)) | (exact Ext.cellSome ((hx1.alloc _).drew) (by simp)) | (repeat (first | assumption | with_reducible exact Ext.refl _ | with_reducible apply Ext.alloc | with_reducible apply Ext.drew | with_reducible apply Ext.drewN | with_reducible refine Ext.trans ?_ (by assumption)))))
      (first
        | (go_at_call 17; refine (writCheck_any ⟨xa, xb, xc, xd, xe⟩ _).mono ?_; rintro e w2 ⟨rfl, hxn⟩)
        | (go_at_call 18; refine (writFaultRef_any ⟨xa, xb, xc, xd, xe⟩ _).mono ?_; rintro e w2 ⟨rfl, hxn⟩)
        | (go_at_call 16; refine (same_any _ _ (writFault_nonneg _)).mono ?_; rintro e w2 ⟨rfl, rfl⟩)
        | (go_at_call 19; refine (find_any _ l _ _ (HV.out.ext (by (repeat (first | assumption | with_reducible exact Ext.refl _ | with_reducible apply Ext.alloc | with_reducible apply Ext.drew | with_reducible apply Ext.drewN | with_reducible refine Ext.trans ?_ (by assumption)))))).mono ?_; rintro e w2 ⟨rfl, hxn⟩)
        | (go_at_call 20; refine (findRef_any _ l _ _ (HV.out.ext (by (repeat (first | assumption | with_reducible exact Ext.refl _ | with_reducible apply Ext.alloc | with_reducible apply Ext.drew | with_reducible apply Ext.drewN | with_reducible refine Ext.trans ?_ (by assumption)))))).mono ?_; rintro e w2 ⟨rfl, rfl⟩))
    have hS : BoxW w2 w.heap.size ⟨xa, xb, xc, xd, xe⟩ ∧ Ext w w2 := by assumption
    obtain ⟨hb2, hw2⟩ := hS
    have HB := Lib.hid hb2; clear hb2
    rcases writFault_cases ⟨xa, xb, xc, xd, xe⟩ with ⟨h, hr⟩ | ⟨h, hr⟩
    · have H := Lib.hid h; clear h hr
      go_wp2_with (go_at_call 18; refine (writFaultRef_any ⟨xa, xb, xc, xd, xe⟩ _).mono ?_; rintro e w3 ⟨rfl, hx3⟩; rw [H.out])
      go_ret
      exact ⟨rfl, hw2.trans hx3⟩
    · have H := Lib.hid h; clear h
      simp only [] at hr
      obtain ⟨-, -, -, -, -, -, -, -, r0, r7⟩ := hr
      obtain ⟨dd, HD⟩ : ∃ d, Hid (derived ⟨xa, xb, xc, xd, xe⟩ id r b = d) := ⟨_, Lib.hid rfl⟩
      have h20 : 0 ≤ dd.2 := by rw [← HD.out]; exact derived_nonneg _ _ _ _
      go_wp2_with (first
        | (go_at_call 18; refine (writFaultRef_any ⟨xa, xb, xc, xd, xe⟩ _).mono ?_; rintro e w3 ⟨rfl, hx3⟩; rw [H.out]; obtain ⟨a0, a1, a2, a3, a4⟩ := HB.out.ext hx3; have n3 := cell_ne a0; have m3 := cell_lt a0)
        | (go_at_call 15; refine (derive_any ⟨xa, xb, xc, xd, xe⟩ id r b _ r0 r7).mono ?_; rintro e w4 ⟨rfl, hx4⟩; rw [HD.out]; obtain ⟨e0, e1, e2, e3, e4⟩ := (HB.out.ext hx3).ext hx4; have n4 := cell_ne e0; have m4 := cell_lt e0)
        | (go_at_call 21; refine (derivedRef_any ⟨xa, xb, xc, xd, xe⟩ id r b _ r0 r7).mono ?_; rintro e w5 ⟨rfl, hx5⟩; rw [HD.out]; obtain ⟨f0, f1, f2, f3, f4⟩ := (BoxW.new w4 dd.1 23).ext hx5; have n5 := cell_ne f0; have m5 := cell_lt f0)
        | (go_at_call 16; refine (same_any _ _ h20).mono ?_; rintro e w6 ⟨rfl, rfl⟩))
      go_ret
      exact ⟨rfl, ((((hw2.trans hx3).trans hx4).alloc _).trans hx5).alloc _⟩
end Go.Proofs.Ytgmnmibejamneaa
