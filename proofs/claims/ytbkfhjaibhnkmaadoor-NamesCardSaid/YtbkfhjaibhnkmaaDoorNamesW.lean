/-
  The walks of the names: the numbers and the errors of package api.
-/
import Derived.Test.YtbkfhjaibhnkmaaDoorTy
import Derived.Test.YtbkfhjaibhnkmaaDoorErrV
import Derived.Test.YtbkfhjaibhnkmaaDoorShelfN
namespace Go.Proofs.YtbkfhjaibhnkmaaDoor
open Go Go.RowKit
set_option linter.unusedVariables false
set_option linter.unusedSimpArgs false
set_option linter.unusedSectionVars false
set_option maxRecDepth 100000

section
variable {α : Type} [DecidableEq α] {a b : List α}
theorem same_len (h : ¬ a.length = b.length) : false = decide (a = b) := (decide_eq_false (fun e => h (by rw [e]))).symm
theorem same_hit {k : Nat} {x y : α} (hx : a[k]? = some x) (hy : b[k]? = some y) (h : ¬ x = y) : false = decide (a = b) := (decide_eq_false (fun e => h (by rw [e, hy] at hx; injection hx with hx; exact hx.symm))).symm
theorem same_all {k : Nat} (hl : a.length = b.length) (hk : ¬ k < a.length) (h : ∀ j, j < k → a[j]? = b[j]?) : true = decide (a = b) := by
  refine (decide_eq_true (List.ext_getElem? fun j => ?_)).symm
  rcases Nat.lt_or_ge j k with h1 | h1
  · exact h j h1
  · rw [List.getElem?_eq_none (by omega), List.getElem?_eq_none (by omega)]
theorem same_step {k : Nat} {x y : α} (h : ∀ j, j < k → a[j]? = b[j]?) (hx : a[k]? = some x) (hy : b[k]? = some y) (e : x = y) : ∀ j, j < k + 1 → a[j]? = b[j]? := by
  intro j hj
  rcases Nat.lt_or_ge j k with h1 | h1
  · exact h j h1
  · have : j = k := by omega
    subst this; rw [hx, hy, e]
end
theorem ek {i : Nat} {x : ErrV} (h : ([(⟨1⟩ : ErrV), (⟨2⟩ : ErrV), (⟨3⟩ : ErrV), (⟨4⟩ : ErrV), (⟨5⟩ : ErrV), (⟨6⟩ : ErrV), (⟨7⟩ : ErrV), (⟨8⟩ : ErrV), (⟨9⟩ : ErrV), (⟨10⟩ : ErrV)] : List ErrV)[i]? = some x) : x.k = (i : Int) + 1 := by
  rcases i with _ | _ | _ | _ | _ | _ | _ | _ | _ | _ | i <;> simp at h <;> subst h <;> rfl

theorem sameNumbers_any (v_a : Value) (a : List Int) (v_b : Value) (b : List Int) (w : World) (s_a : Sl w v_a a) (s_b : Sl w v_b b) : Calls Tryd.prog 5 #[v_a, v_b] w fun e w' => e = .returned (.bool (decide (a = b))) ∧ Ext w w' := by
  have b_a := s_a.lenle
  have b_b := s_b.lenle
  refine R.enter (n := 26) (vs := [v_a, v_b]) [] [(0, v_a), (1, v_b)] Tryd.func5 rfl rfl rfl rfl ?_
  refine R.reg rfl <| R.u 1 rfl <| R.nil ?_
  refine R.reg rfl <| R.u 1 rfl <| R.q (q.len' (fun _ => Wd.old s_a) rfl Tryd.underlying22) rfl <| R.u 1 rfl <| R.q (q.len' (fun _ => Wd.old s_b) rfl Tryd.underlying22) rfl <| ?_
  by_cases h1 : a.length = b.length
  · refine R.q (q.neq rfl rfl (bne_eq_false_iff_eq.2 (by omega))) rfl <| R.nil ?_
    refine R.condF rfl rfl ?_
    refine R.reg rfl <| R.u 1 rfl <| R.nil ?_
    refine R.loop (fun k : Nat => [(0, v_a), (1, v_b), (5, .int .i64 (k : Int))]) (fun k : Nat => []) (fun k : Nat => []) (fun k : Nat => k ≤ a.length ∧ ∀ j, j < k → a[j]? = b[j]?) (fun k : Nat => a.length - k) 0 rfl (by exact ⟨by omega, fun j hj => absurd hj (Nat.not_lt_zero _)⟩) ⟨rfl, rfl, rfl, trivial⟩ (fun _ => Wd.pick [] [] rfl rfl rfl) ?_
    rintro k ⟨hk, HA⟩
    refine R.reg rfl <| R.u 2 rfl <| R.q (q.len' (fun _ => Wd.old s_a) rfl Tryd.underlying22) rfl <| ?_
    by_cases h2 : k < a.length
    · refine R.q (q.lss rfl rfl (decide_eq_true (by omega))) rfl <| R.nil ?_
      refine R.condT rfl rfl ?_
      obtain ⟨x1, hx1⟩ : ∃ z, a[k]? = some z := ⟨_, List.getElem?_eq_getElem (by omega)⟩
      obtain ⟨x2, hx2⟩ : ∃ z, b[k]? = some z := ⟨_, List.getElem?_eq_getElem (by omega)⟩
      by_cases h3 : x1 = x2
      · refine R.regQ rfl mixed (by kernel_rfl) <| Q.u 2 rfl <| Q.q (q.idx (i := k) (fun _ => Wd.old s_a) rfl rfl tSl_22 rfl hx1) rfl <| Q.q (q.ldE (fun _ => Wd.old s_a) hx1 rfl tOne_3 rfl) rfl <| Q.u 2 rfl <| Q.q (q.idx (i := k) (fun _ => Wd.old s_b) rfl rfl tSl_22 rfl hx2) rfl <| Q.q (q.ldE (fun _ => Wd.old s_b) hx2 rfl tOne_3 rfl) rfl <| Q.q (q.neq rfl rfl (bne_eq_false_iff_eq.2 (by omega))) rfl <| Q.nil ?_
        refine R.condF rfl rfl ?_
        refine R.reg rfl <| R.u 1 rfl <| R.q (q.add (r := ((k + 1 : Nat) : Int)) rfl rfl (wr (by omega))) rfl <| R.u 1 rfl <| R.nil ?_
        refine R.back (k + 1) rfl (by (exact ⟨by omega, same_step HA hx1 hx2 (by assumption)⟩)) (by omega) ⟨rfl, rfl, rfl, trivial⟩ (fun _ => Wd.pick [] [] rfl rfl rfl)
      · refine R.regQ rfl mixed (by kernel_rfl) <| Q.u 2 rfl <| Q.q (q.idx (i := k) (fun _ => Wd.old s_a) rfl rfl tSl_22 rfl hx1) rfl <| Q.q (q.ldE (fun _ => Wd.old s_a) hx1 rfl tOne_3 rfl) rfl <| Q.u 2 rfl <| Q.q (q.idx (i := k) (fun _ => Wd.old s_b) rfl rfl tSl_22 rfl hx2) rfl <| Q.q (q.ldE (fun _ => Wd.old s_b) hx2 rfl tOne_3 rfl) rfl <| Q.q (q.neq rfl rfl (bne_iff_ne.2 (by omega))) rfl <| Q.nil ?_
        refine R.condT rfl rfl ?_
        refine R.reg rfl <| R.u 1 rfl <| R.nil ?_
        exact R.rv rfl Tryd.results5 rfl (rB (by (first | exact same_len (by assumption) | exact same_all (by assumption) (by assumption) HA | exact same_hit hx1 hx2 (by assumption))))
    · refine R.q (q.lss rfl rfl (decide_eq_false (by omega))) rfl <| R.nil ?_
      refine R.condF rfl rfl ?_
      refine R.reg rfl <| R.u 1 rfl <| R.nil ?_
      exact R.rv rfl Tryd.results5 rfl (rB (by (first | exact same_len (by assumption) | exact same_all (by assumption) (by assumption) HA | exact same_hit hx1 hx2 (by assumption))))
  · refine R.q (q.neq rfl rfl (bne_iff_ne.2 (by omega))) rfl <| R.nil ?_
    refine R.condT rfl rfl ?_
    refine R.reg rfl <| R.u 1 rfl <| R.nil ?_
    exact R.rv rfl Tryd.results5 rfl (rB (by (first | exact same_len (by assumption) | exact same_all (by assumption) (by assumption) HA | exact same_hit hx1 hx2 (by assumption))))

theorem same_any (err : Int) (f : Int) (w : World) (h0 : 0 ≤ err) : Calls Tryd.prog 4 #[errv err, .int .i64 f] w fun e w' => e = .returned (.bool (decide (err = f))) ∧ Ext w w' := by
  refine R.enter (n := 26) (vs := [errv err, .int .i64 f]) [] [(0, errv err), (1, .int .i64 f)] Tryd.func4 rfl rfl rfl rfl ?_
  refine R.reg rfl <| R.u 1 rfl <| R.nil ?_
  refine R.reg rfl <| R.u 1 rfl <| ?_
  by_cases h1 : err = 0
  · refine R.q (q.eqlE0 rfl rfl Tryd.underlying27 (by omega)) rfl <| R.nil ?_
    refine R.condT rfl rfl ?_
    refine R.reg rfl <| R.u 1 rfl <| ?_
    by_cases h2 : f = 0
    · refine R.q (q.eql rfl rfl (beq_iff_eq.2 (by omega))) rfl <| R.u 1 rfl <| R.nil ?_
      exact R.rv rfl Tryd.results4 rfl (rB (by (first | exact (decide_eq_true (by omega)).symm | exact (decide_eq_false (by omega)).symm)))
    · refine R.q (q.eql rfl rfl (beq_eq_false_iff_ne.2 (by omega))) rfl <| R.u 1 rfl <| R.nil ?_
      exact R.rv rfl Tryd.results4 rfl (rB (by (first | exact (decide_eq_true (by omega)).symm | exact (decide_eq_false (by omega)).symm)))
  · refine R.q (q.eqlE1 rfl rfl Tryd.underlying27 (by omega)) rfl <| R.nil ?_
    refine R.condF rfl rfl ?_
    refine R.reg rfl <| R.u 1 rfl <| R.q (q.tasE rfl (by omega) Tryd.underlying23) rfl <| R.u 5 rfl <| R.nil ?_
    refine R.reg rfl <| R.u 3 rfl <| ?_
    by_cases h3 : 0 < f
    · refine R.qg rfl (q.gtr rfl rfl (decide_eq_true (by omega))) rfl <| R.u 4 rfl <| ?_
      by_cases h4 : err = f
      · refine R.qg rfl (q.eql rfl rfl (beq_iff_eq.2 (by omega))) rfl <| R.u 2 rfl <| R.nil ?_
        exact R.rv rfl Tryd.results4 rfl (rB (by (first | exact (decide_eq_true (by omega)).symm | exact (decide_eq_false (by omega)).symm)))
      · refine R.qg rfl (q.eql rfl rfl (beq_eq_false_iff_ne.2 (by omega))) rfl <| R.u 2 rfl <| R.nil ?_
        exact R.rv rfl Tryd.results4 rfl (rB (by (first | exact (decide_eq_true (by omega)).symm | exact (decide_eq_false (by omega)).symm)))
    · refine R.qg rfl (q.gtr rfl rfl (decide_eq_false (by omega))) rfl <| R.u 7 rfl <| R.nil ?_
      exact R.rv rfl Tryd.results4 rfl (rB (by (first | exact (decide_eq_true (by omega)).symm | exact (decide_eq_false (by omega)).symm)))

def ten : ByteArray := ⟨(Lib.decDigits 10).toArray⟩
theorem ten_is : (⟨#[119, 114, 105, 116, 107, 101, 101, 112, 58, 32, 101, 114, 114, 111, 114, 32]⟩ : ByteArray) ++ ten = ⟨#[119, 114, 105, 116, 107, 101, 101, 112, 58, 32, 101, 114, 114, 111, 114, 32, 49, 48]⟩ := by
  unfold ten; rw [Lib.decDigits_two (by decide) (by decide)]; rfl
theorem ten_size : ten.size = 2 := by unfold ten; rw [Lib.decDigits_two (by decide) (by decide)]; rfl
abbrev tenT : ByteArray := ⟨#[119, 114, 105, 116, 107, 101, 101, 112, 58, 32, 101, 114, 114, 111, 114, 32, 49, 48]⟩
theorem itoa_ten (n : Int) (w : World) (hn : n = 10) : Calls Tryd.prog 7 #[.int .i64 n] w fun e w' => e = .returned (.string ten) ∧ Ext w w' := by
  subst hn
  exact (Tryd.strconv_Itoa_small 10 (by decide) w).mono fun e w' ⟨h1, h2⟩ => ⟨h1, by rw [h2]; exact Ext.refl _⟩

theorem errText_any (n : Int) (w : World) (hn : n = 10) : Calls Tryd.prog 6 #[.int .i64 n] w fun e w' => e = .returned (.string tenT) ∧ Ext w w' := by
  refine R.enter (n := 6) (vs := [.int .i64 n]) [] [(0, .int .i64 n)] Tryd.func6 rfl rfl rfl rfl ?_
  refine R.reg rfl <| R.u 1 rfl <| R.nil ?_
  refine R.reg rfl <| R.u 1 rfl <| R.c (q.call eg_7 rfl rfl (fun w hw => (itoa_ten (n) w  (by first | rfl | assumption)))) rfl <| R.q (q.cat rfl rfl (by rw [ten_size]; decide)) rfl <| R.u 1 rfl <| R.nil ?_
  exact R.rv rfl Tryd.results6 rfl (rS (by (exact ten_is)))

theorem names_any  (w : World)  : Calls Tryd.prog 3 #[] w fun e w' => e = .returned (.bool true) ∧ Ext w w' := by
  have hl : ([(⟨1⟩ : ErrV), (⟨2⟩ : ErrV), (⟨3⟩ : ErrV), (⟨4⟩ : ErrV), (⟨5⟩ : ErrV), (⟨6⟩ : ErrV), (⟨7⟩ : ErrV), (⟨8⟩ : ErrV), (⟨9⟩ : ErrV), (⟨10⟩ : ErrV)] : List ErrV).length = 10 := rfl
  refine R.enter (n := 39) (vs := []) [] [] Tryd.func3 rfl rfl rfl rfl ?_
  refine R.reg rfl <| R.u 1 rfl <| R.nil ?_
  refine R.reg rfl <| ?_
  refine R.s rfl (s.bs (l := ([1, 2, 4, 7, 1, 2, 4, 5, 10, 999, 99, 8, 3, 8, 24, 62, 60, 48, 200, 80, 60] : List Int)) tSl_22 tZero_3 rfl rfl rfl rfl rfl rfl rfl) fun b1 => ?_
  refine R.u 1 rfl <| R.nil ?_
  refine R.reg rfl <| ?_
  refine R.s rfl (s.bs (l := ([1, 2, 4, 7, 1, 2, 4, 5, 10, 999, 99, 8, 3, 8, 24, 62, 60, 48, 200, 80, 60] : List Int)) tSl_22 tZero_3 rfl rfl rfl rfl rfl rfl rfl) fun b2 => ?_
  refine R.u 1 rfl <| R.nil ?_
  refine R.reg rfl <| R.q (q.iface rfl con_23) rfl <| R.q (q.iface rfl con_23) rfl <| R.q (q.iface rfl con_23) rfl <| R.q (q.iface rfl con_23) rfl <| R.q (q.iface rfl con_23) rfl <| R.q (q.iface rfl con_23) rfl <| R.q (q.iface rfl con_23) rfl <| R.q (q.iface rfl con_23) rfl <| R.q (q.iface rfl con_23) rfl <| R.q (q.iface rfl con_23) rfl <| ?_
  refine R.s rfl (s.bs (l := ([(⟨1⟩ : ErrV), (⟨2⟩ : ErrV), (⟨3⟩ : ErrV), (⟨4⟩ : ErrV), (⟨5⟩ : ErrV), (⟨6⟩ : ErrV), (⟨7⟩ : ErrV), (⟨8⟩ : ErrV), (⟨9⟩ : ErrV), (⟨10⟩ : ErrV)] : List ErrV)) tSl_24 tZero_27 rfl rfl rfl rfl rfl rfl rfl) fun b3 => ?_
  refine R.u 1 rfl <| R.nil ?_
  refine R.reg rfl <| R.u 1 rfl <| R.nil ?_
  refine R.loop (fun i : Nat => [(1, (.slice (some ⟨b1, 0, none⟩) 21 21)), (2, (.slice (some ⟨b2, 0, none⟩) 21 21)), (3, (.slice (some ⟨b3, 0, none⟩) 10 10)), (4, .int .i64 (i : Int))]) (fun i : Nat => [Res.row 27 (.slice (some ⟨b3, 0, none⟩) 10 10) ([(⟨1⟩ : ErrV), (⟨2⟩ : ErrV), (⟨3⟩ : ErrV), (⟨4⟩ : ErrV), (⟨5⟩ : ErrV), (⟨6⟩ : ErrV), (⟨7⟩ : ErrV), (⟨8⟩ : ErrV), (⟨9⟩ : ErrV), (⟨10⟩ : ErrV)] : List ErrV), Res.row 3 (.slice (some ⟨b2, 0, none⟩) 21 21) ([1, 2, 4, 7, 1, 2, 4, 5, 10, 999, 99, 8, 3, 8, 24, 62, 60, 48, 200, 80, 60] : List Int), Res.row 3 (.slice (some ⟨b1, 0, none⟩) 21 21) ([1, 2, 4, 7, 1, 2, 4, 5, 10, 999, 99, 8, 3, 8, 24, 62, 60, 48, 200, 80, 60] : List Int)]) (fun i : Nat => []) (fun i : Nat => i ≤ 10) (fun i : Nat => 10 - i) 0 rfl (by decide) ⟨rfl, rfl, rfl, rfl, trivial⟩ (fun _ => Wd.pick [0, 1, 2] [] rfl rfl rfl) ?_
  rintro i hi
  refine R.reg rfl <| R.u 2 rfl <| R.q (q.len' (fun _ => Wd.row 0 rfl) rfl Tryd.underlying24) rfl <| ?_
  by_cases h1 : i < ([(⟨1⟩ : ErrV), (⟨2⟩ : ErrV), (⟨3⟩ : ErrV), (⟨4⟩ : ErrV), (⟨5⟩ : ErrV), (⟨6⟩ : ErrV), (⟨7⟩ : ErrV), (⟨8⟩ : ErrV), (⟨9⟩ : ErrV), (⟨10⟩ : ErrV)]).length
  · refine R.q (q.lss rfl rfl (decide_eq_true (by omega))) rfl <| R.nil ?_
    refine R.condT rfl rfl ?_
    refine R.reg rfl <| R.u 2 rfl <| ?_
    obtain ⟨x1, hx1⟩ : ∃ z, ([(⟨1⟩ : ErrV), (⟨2⟩ : ErrV), (⟨3⟩ : ErrV), (⟨4⟩ : ErrV), (⟨5⟩ : ErrV), (⟨6⟩ : ErrV), (⟨7⟩ : ErrV), (⟨8⟩ : ErrV), (⟨9⟩ : ErrV), (⟨10⟩ : ErrV)])[i]? = some z := ⟨_, List.getElem?_eq_getElem (by omega)⟩
    have fx1 := ek hx1
    refine R.q (q.idx (i := i) (fun _ => Wd.row 0 rfl) rfl rfl tSl_24 rfl hx1) rfl <| R.q (q.ldE (fun _ => Wd.row 0 rfl) hx1 rfl tOne_27 rfl) rfl <| R.u 1 rfl <| R.q (q.add (r := ((i + 1 : Nat) : Int)) rfl rfl (wr (by omega))) rfl <| ?_
    rcases Bool.eq_false_or_eq_true (decide (x1.k = ((i + 1) : Int))) with h2 | h2
    · refine R.c (q.call eg_4 rfl rfl (fun w hw => (cv (congrArg Value.bool h2) (same_any (x1.k) (((i + 1) : Int)) w  (by first | omega | assumption | decide))))) rfl <| R.u 1 rfl <| R.nil ?_
      refine R.condF rfl rfl ?_
      refine R.reg rfl <| R.u 1 rfl <| R.q (q.add (r := ((i + 1 : Nat) : Int)) rfl rfl (wr (by omega))) rfl <| R.u 1 rfl <| R.nil ?_
      refine R.back (i + 1) rfl (by (omega)) (by omega) ⟨rfl, rfl, rfl, rfl, trivial⟩ (fun _ => Wd.pick [0, 1, 2] [] rfl rfl rfl)
    · refine R.c (q.call eg_4 rfl rfl (fun w hw => (cv (congrArg Value.bool h2) (same_any (x1.k) (((i + 1) : Int)) w  (by first | omega | assumption | decide))))) rfl <| R.u 1 rfl <| R.nil ?_
      refine R.condT rfl rfl ?_
      refine R.reg rfl <| R.u 1 rfl <| R.nil ?_
      exact R.rv rfl Tryd.results3 rfl (rB (by (first | rfl | (exfalso; simp_all; done) | (exfalso; omega))))
  · refine R.q (q.lss rfl rfl (decide_eq_false (by omega))) rfl <| R.nil ?_
    refine R.condF rfl rfl ?_
    refine R.reg rfl <| R.u 2 rfl <| ?_
    rcases Bool.eq_false_or_eq_true (decide (([1, 2, 4, 7, 1, 2, 4, 5, 10, 999, 99, 8, 3, 8, 24, 62, 60, 48, 200, 80, 60]) = ([1, 2, 4, 7, 1, 2, 4, 5, 10, 999, 99, 8, 3, 8, 24, 62, 60, 48, 200, 80, 60]))) with h3 | h3
    · refine R.c (q.call eg_5 rfl rfl (fun w hw => (cv (congrArg Value.bool h3) (sameNumbers_any _ ([1, 2, 4, 7, 1, 2, 4, 5, 10, 999, 99, 8, 3, 8, 24, 62, 60, 48, 200, 80, 60]) _ ([1, 2, 4, 7, 1, 2, 4, 5, 10, 999, 99, 8, 3, 8, 24, 62, 60, 48, 200, 80, 60]) w ((fun _ => Wd.row 2 rfl) w hw) ((fun _ => Wd.row 1 rfl) w hw) )))) rfl <| R.u 1 rfl <| R.cg rfl (q.call eg_6 rfl rfl (fun w hw => (errText_any (10) w  (by first | rfl | assumption)))) rfl <| ?_
      by_cases h4 : tenT = ⟨#[119, 114, 105, 116, 107, 101, 101, 112, 58, 32, 101, 114, 114, 111, 114, 32, 49, 48]⟩
      · refine R.qg rfl (q.eqlS1 rfl rfl h4) rfl <| R.u 2 rfl <| R.nil ?_
        exact R.rv rfl Tryd.results3 rfl (rB (by (first | rfl | (exfalso; simp_all; done) | (exfalso; omega))))
      · refine R.qg rfl (q.eqlS0 rfl rfl h4) rfl <| R.u 2 rfl <| R.nil ?_
        exact R.rv rfl Tryd.results3 rfl (rB (by (first | rfl | (exfalso; simp_all; done) | (exfalso; omega))))
    · refine R.c (q.call eg_5 rfl rfl (fun w hw => (cv (congrArg Value.bool h3) (sameNumbers_any _ ([1, 2, 4, 7, 1, 2, 4, 5, 10, 999, 99, 8, 3, 8, 24, 62, 60, 48, 200, 80, 60]) _ ([1, 2, 4, 7, 1, 2, 4, 5, 10, 999, 99, 8, 3, 8, 24, 62, 60, 48, 200, 80, 60]) w ((fun _ => Wd.row 2 rfl) w hw) ((fun _ => Wd.row 1 rfl) w hw) )))) rfl <| R.u 5 rfl <| R.nil ?_
      exact R.rv rfl Tryd.results3 rfl (rB (by (first | rfl | (exfalso; simp_all; done) | (exfalso; omega))))

end Go.Proofs.YtbkfhjaibhnkmaaDoor
