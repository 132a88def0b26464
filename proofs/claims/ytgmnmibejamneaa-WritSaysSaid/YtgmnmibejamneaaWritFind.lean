/-
  The walks of looking for a writ by its number: the program's, by a closure handed to the library, and the document's.
-/
import Derived.Test.YtgmnmibejamneaaWritWalks
import Derived.Shelf.Abstract
namespace Go.Proofs.Ytgmnmibejamneaa
open Go.RowKit
set_option linter.unusedVariables false

/-- the first place at which p holds; -1: none -/
def idxOf {α : Type} (p : α → Bool) (l : List α) : Int := match l.findIdx? p with | some i => i | none => -1
theorem idxOf_hit {α : Type} {p : α → Bool} {l : List α} {k : Nat} (hk : k < l.length) (h1 : p l[k] = true) (h2 : ∀ (j : Nat) x, j < k → l[j]? = some x → p x = false) : idxOf p l = k := by
  unfold idxOf
  rw [List.findIdx?_eq_some_iff_getElem.2 ⟨hk, h1, fun j hj => by
    have := h2 j l[j] hj (List.getElem?_eq_getElem (by omega)); simp [this]⟩]
theorem idxOf_miss {α : Type} {p : α → Bool} {l : List α} (h : ∀ (j : Nat) x, l[j]? = some x → p x = false) : idxOf p l = -1 := by
  unfold idxOf
  rw [List.findIdx?_eq_none_iff.2 (fun x hx => by obtain ⟨j, hj⟩ := List.mem_iff_getElem?.1 hx; exact h j x hj)]

set_option maxRecDepth 100000 in
set_option maxHeartbeats 1000000 in
theorem indexFuncW_any (p : Writ → Bool) (g : Nat) (lb : Array Value) (eg : ∀ args w, (callFunc g args).run Try.prog w = .ok (.enter g args) w) (v : Value) (l : List Writ) (w : World) (hv : Sl w v l)
    (hp : ∀ W x, Ext w W → x ∈ l → Calls Try.prog g (#[.agg #[.int .i64 x.ID, .int .i64 x.Thing, .int .i64 x.Rights, .int .i64 x.Badge, .int .i64 x.From]] ++ lb) W fun e w' => e = .returned (.bool (p x)) ∧ Ext W w') :
    Calls Try.prog 84 #[v, .func (.func g) #[] lb] w fun e w' => e = .returned (.int .i64 (idxOf p l)) ∧ Ext w w' := by
  obtain ⟨A, c, rfl, hcc, hcm⟩ := hv.form
  have HV := Lib.hid hv; clear hv
  have HP := Lib.hid hp; clear hp
  go_enter Try.func84, Try.ntmps84
  go_wp2
  go_loopw [5, 8] (fun _ i wr => ∃ k : Nat, k ≤ l.length ∧ i = .int .i64 k ∧ Ext w wr ∧ Hid (∀ (j : Nat) x, j < k → l[j]? = some x → p x = false)) (fun _ i _ => l.length - (intOf i).toNat)
  case atStart => exact ⟨0, Nat.zero_le _, rfl, Ext.refl _, fun j x hj => absurd hj (Nat.not_lt_zero _)⟩
  case round =>
    obtain ⟨k, hk, rfl, hext, HA⟩ := hrel
    by_cases hlt : k < l.length
    · obtain ⟨b, off, c', hvv, hb', h0, h1, h2, h3, h4⟩ := (HV.out.ext hext).atW hlt
      simp only [Value.slice.injEq] at hvv
      obtain ⟨rfl, -, rfl⟩ := hvv
      have hcall := HP.out wr l[k] hext (List.getElem_mem hlt)
      obtain ⟨y, HY⟩ : ∃ y : Writ, Hid (y = l[k]) := ⟨l[k], Lib.hid rfl⟩
      rw [← HY.out] at h0 h1 h2 h3 h4 hcall
      cases hq : p y with
      | true =>
        rw [hq] at hcall
        have HC := Lib.hid hcall; clear hcall
        go_wp2_with ((with_reducible refine HC.out.mono ?_); rintro e w' ⟨rfl, hb'⟩)
        go_ret
        exact ⟨ret_int (idxOf_hit hlt (by rw [← HY.out]; exact hq) HA.out).symm, hext.trans hb'⟩
      | false =>
        rw [hq] at hcall
        have HC := Lib.hid hcall; clear hcall
        go_wp2_with ((with_reducible refine HC.out.mono ?_); rintro e w' ⟨rfl, hb'⟩)
        go_roundw
        case rel =>
          refine ⟨k + 1, by omega, by go_num, hext.trans hb', Lib.hid fun j x hj hx => ?_⟩
          by_cases e : j = k
          · subst e
            rw [List.getElem?_eq_getElem hlt] at hx
            injection hx with hx
            rw [← hx, ← HY.out]; exact hq
          · exact HA.out j x (by omega) hx
        case measure => simp [intOf]; omega
    · go_wp2
      go_ret
      exact ⟨ret_int (idxOf_miss fun j x hx => HA.out j x (by have := (List.getElem?_eq_some_iff.1 hx).1; omega) hx).symm, hext⟩

set_option maxHeartbeats 1000000 in
/-- the closure of writ.Find -/
theorem findLit_any (x : Writ) (id : Int) (B : Nat) (w : World) (hB : B < w.heap.size) (hc : w.cell? ⟨B, 0, none⟩ = some (.int .i64 id)) :
    Calls Try.prog 85 #[.agg #[.int .i64 x.ID, .int .i64 x.Thing, .int .i64 x.Rights, .int .i64 x.Badge, .int .i64 x.From], .pointer (some ⟨B, 0, none⟩)] w fun e w' => e = .returned (.bool (x.ID == id)) ∧ Ext w w' := by
  obtain ⟨xa, xb, xc, xd, xe⟩ := x
  have hne : B ≠ w.heap.size := by omega
  go_enter Try.func85, Try.ntmps85
  go_wp2
  go_ret
  exact ⟨rfl, (Ext.refl _).alloc _⟩

theorem findW_idx (l : List Writ) (id : Int) : findW l id = idxOf (fun x => x.ID == id) l := rfl
set_option maxHeartbeats 1000000 in
theorem find_any (v : Value) (l : List Writ) (id : Int) (w : World) (hv : Sl w v l) :
    Calls Try.prog 19 #[v, .int .i64 id] w fun e w' => e = .returned (.int .i64 (findW l id)) ∧ Ext w w' := by
  have eg : ∀ args w, (callFunc 85 args).run Try.prog w = .ok (.enter 85 args) w := enters_of Try.func85 (by kernel_rfl) rfl
  have HC := Lib.hid (indexFuncW_any (fun x => x.ID == id) 85 #[.pointer (some ⟨w.heap.size, 0, none⟩)] eg v l (w.alloc (.cells #[.int .i64 id] 3)) (hv.ext ((Ext.refl _).alloc _))
    (fun W x hW _ => findLit_any x id w.heap.size W (Nat.lt_of_lt_of_le (by simp) hW.size) (hW.cellSome (by simp))))
  clear eg
  rw [findW_idx]
  generalize idxOf (fun x => x.ID == id) l = r at HC ⊢
  go_enter Try.func19, Try.ntmps19
  go_wp2_with (go_at_call 84; refine HC.out.mono ?_; rintro e w' ⟨rfl, hb'⟩)
  go_ret
  exact ⟨rfl, ((Ext.refl _).alloc _).trans hb'⟩

set_option maxHeartbeats 1000000 in
theorem findRef_any (v : Value) (l : List Writ) (id : Int) (w : World) (hv : Sl w v l) :
    Calls Try.prog 20 #[v, .int .i64 id] w fun e w' => e = .returned (.int .i64 (findW l id)) ∧ w = w' := by
  obtain ⟨A, c, rfl, hcc, hcm⟩ := hv.form
  have HV := Lib.hid hv; clear hv
  go_enter Try.func20, Try.ntmps20
  go_wp2
  go_loop [5] (fun i => ∃ k : Nat, k ≤ l.length ∧ i = .int .i64 k ∧ Hid (∀ (j : Nat) x, j < k → l[j]? = some x → ¬ x.ID = id)) (fun i => l.length - (intOf i).toNat)
  case atStart => exact ⟨0, Nat.zero_le _, rfl, fun j x hj => absurd hj (Nat.not_lt_zero _)⟩
  case round =>
    obtain ⟨k, hk, rfl, HA⟩ := hrel
    by_cases hlt : k < l.length
    · obtain ⟨b, off, c', hvv, hb', h0, h1, h2, h3, h4⟩ := HV.out.atW hlt
      simp only [Value.slice.injEq] at hvv
      obtain ⟨rfl, -, rfl⟩ := hvv
      obtain ⟨y, HY⟩ : ∃ y : Writ, Hid (y = l[k]) := ⟨l[k], Lib.hid rfl⟩
      rw [← HY.out] at h0 h1 h2 h3 h4
      by_cases hq : y.ID = id
      · go_wp2
        go_ret
        exact ⟨ret_int (findW_eq hlt (by rw [← HY.out]; exact hq) HA.out).symm, rfl⟩
      · go_wp2
        go_round
        case rel =>
          refine ⟨k + 1, by omega, by go_num, Lib.hid fun j x hj hx => ?_⟩
          by_cases e : j = k
          · subst e
            rw [List.getElem?_eq_getElem hlt] at hx
            injection hx with hx
            rw [← hx, ← HY.out]; exact hq
          · exact HA.out j x (by omega) hx
        case measure => simp [intOf]; omega
    · go_wp2
      go_ret
      exact ⟨ret_int (findW_none fun x hx => by
        obtain ⟨j, hj⟩ := List.mem_iff_getElem?.1 hx
        exact HA.out j x (by have := (List.getElem?_eq_some_iff.1 hj).1; omega) hj).symm, rfl⟩
end Go.Proofs.Ytgmnmibejamneaa
