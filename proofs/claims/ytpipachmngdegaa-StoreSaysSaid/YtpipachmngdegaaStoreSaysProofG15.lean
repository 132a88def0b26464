import Derived.Test.YtpipachmngdegaaStoreSaysProofG14
import Derived.Laws.StructEq
section
/-
  Things held against each other by '==': writs, places, what is held, things, notes, changes. And lists held against each other.
-/
namespace Go.Proofs.Ytpipachmngdegaa
open Go Go.RowKit
set_option linter.unusedVariables false
set_option linter.unusedSimpArgs false
set_option linter.unusedSectionVars false
set_option maxRecDepth 100000

theorem guard_agg {P : Program} {op : BinOp} {t : TypeId} (h : P.eqGuardType P.depth t = false) (a b : Operand) (xs ys : Array Value) (w : World) : (eqGuard op t a b (.agg xs) (.agg ys)).run P w = .ok () w := by
  have hp : (program : Sem Program).run P w = .ok P w := rfl
  cases op <;> simp [eqGuard, hp, h]
theorem eqT_of {P : Program} {t : TypeId} {β : Type} [DecidableEq β] {cs : β → List Value} (hg : P.eqGuardType P.depth t = false) (he : ∀ x y w, (Op.equal t (.agg (cs x).toArray) (.agg (cs y).toArray)).run P w = .ok (decide (x = y)) w) : EqT P t (fun x => .agg (cs x).toArray) := by
  refine ⟨fun x y w a b => ⟨guard_agg hg a b _ _ w, guard_agg hg a b _ _ w⟩, fun x y w => ⟨?_, ?_⟩⟩
  · simp only [binOp, Sem.run_bind, he x y w, Result.andThen_ok, Sem.run_pure]
  · simp only [binOp, Sem.run_bind, he x y w, Result.andThen_ok, Sem.run_pure]
theorem str_eq (a b : ByteArray) : (a.toList == b.toList) = decide (a = b) := bytes_eq a b
theorem eq_44 : EqT Try.prog 44 Place.val := by
  have hS : Try.prog.underlying 44 = some (.struct (Try.prog.fieldsOf 44)) := by kernel_rfl
  have hp : Try.prog.stoodInHeld 44 = false := by kernel_rfl
  refine eqT_of (cs := fun x : Place => [.int .i64 x.Holder, .int .i64 x.Slot]) (by kernel_rfl) fun x y w => ?_
  have u3 := Try.underlying3; have a3 := Try.isAgg3; have z3 := Try.sizeOf3
  obtain ⟨x1, x2⟩ := x; obtain ⟨y1, y2⟩ := y
  rw [Op.equal, Op.maxDepth, show (10000 : Nat) = 9999 + 1 from rfl, run_equalIn_agg w 9999 44 _ _ hS hp]
  simp only [Program.fieldsOf, Try.underlying44]
  go_simp
  by_cases h1 : x1 = y1 <;> by_cases h2 : x2 = y2 <;> simp [h1, h2]
theorem place_eq (d : Nat) (x y : Place) (w : World) : (Op.equalIn (d + 1 + 1) 44 (.agg #[.int .i64 x.Holder, .int .i64 x.Slot]) (.agg #[.int .i64 y.Holder, .int .i64 y.Slot])).run Try.prog w = .ok (decide (x = y)) w := by
  have hS : Try.prog.underlying 44 = some (.struct (Try.prog.fieldsOf 44)) := by kernel_rfl
  have hp : Try.prog.stoodInHeld 44 = false := by kernel_rfl
  have u3 := Try.underlying3; have a3 := Try.isAgg3; have z3 := Try.sizeOf3
  obtain ⟨x1, x2⟩ := x; obtain ⟨y1, y2⟩ := y
  rw [run_equalIn_agg w (d + 1) 44 _ _ hS hp]
  simp only [Program.fieldsOf, Try.underlying44]
  go_simp
  by_cases h1 : x1 = y1 <;> by_cases h2 : x2 = y2 <;> simp [h1, h2]
theorem eq_51 : EqT Try.prog 51 Change.val := by
  have hS : Try.prog.underlying 51 = some (.struct (Try.prog.fieldsOf 51)) := by kernel_rfl
  have hp : Try.prog.stoodInHeld 51 = false := by kernel_rfl
  refine eqT_of (cs := Change.cs) (by kernel_rfl) fun x y w => ?_
  have u3 := Try.underlying9; have a3 := Try.isAgg9; have z3 := Try.sizeOf9; have u4 := Try.underlying4; have a4 := Try.isAgg4; have z4 := Try.sizeOf4
  obtain ⟨x1, x2, x3⟩ := x; obtain ⟨y1, y2, y3⟩ := y
  rw [Op.equal, Op.maxDepth, show (10000 : Nat) = 9999 + 1 from rfl, run_equalIn_agg w 9999 51 _ _ hS hp]
  simp only [Program.fieldsOf, Try.underlying51]
  go_simp
  have tl : ∀ a b : ByteArray, a.toList = b.toList ↔ a = b := fun a b => by have := bytes_eq a b; rw [Bool.eq_iff_iff] at this; simpa using this
  by_cases h1 : x1 = y1 <;> by_cases h2 : x2 = y2 <;> by_cases h3 : x3 = y3 <;> simp [h1, h2, h3, tl]

/-! ### lists -/
section
variable {α : Type} [DecidableEq α] {a b : List α}
theorem same_len (h : ¬ a.length = b.length) : false = decide (a = b) := (decide_eq_false (fun e => h (by rw [e]))).symm
theorem same_hit {k : Nat} {x y : α} (hx : a[k]? = some x) (hy : b[k]? = some y) (h : ¬ x = y) : false = decide (a = b) := (decide_eq_false (fun e => h (by rw [e, hy] at hx; injection hx with hx; exact hx.symm))).symm
theorem same_all {k : Nat} (hl : a.length = b.length) (hk : ¬ k < a.length) (h : ∀ j, j < k → a[j]? = b[j]?) : true = decide (a = b) := by
  refine (decide_eq_true (List.ext_getElem? fun j => ?_)).symm
  rcases Nat.lt_or_ge j k with h1 | h1
  · exact h j h1
  · rw [List.getElem?_eq_none (by omega), List.getElem?_eq_none (by omega)]
theorem same_step {k : Nat} {x y : α} (h : ∀ j, j < k → a[j]? = b[j]?) (hx : a[k]? = some x) (hy : b[k]? = some y) (e : x = y) : ∀ j, j < k + 1 → a[j]? = b[j]? := by
  intro j hj
  rcases Nat.lt_or_ge j k with h1 | h1
  · exact h j h1
  · have : j = k := by omega
    subst this; rw [hx, hy, e]
end
end Go.Proofs.Ytpipachmngdegaa
end

section
/-
  The walks of holding two lists against each other.
-/
namespace Go.Proofs.Ytpipachmngdegaa
open Go Go.RowKit
set_option linter.unusedVariables false

theorem sameChanges_any (v_a : Value) (a : List Change) (v_b : Value) (b : List Change) (w : World) (s_a : Sl w v_a a) (s_b : Sl w v_b b) : Calls Try.prog 28 #[v_a, v_b] w fun e w' => e = .returned (.bool (decide (a = b))) ∧ Ext w w' := by
  have b_a := s_a.lenle
  have b_b := s_b.lenle
  refine R.enter (n := 26) (vs := [v_a, v_b]) [] [(0, v_a), (1, v_b)] Try.func28 rfl rfl rfl rfl ?_
  refine R.reg rfl <| R.u 1 rfl <| R.nil ?_
  refine R.reg rfl <| R.u 1 rfl <| R.q (q.len' (fun _ => Wd.old s_a) rfl Try.underlying46) rfl <| R.u 1 rfl <| R.q (q.len' (fun _ => Wd.old s_b) rfl Try.underlying46) rfl <| ?_
  by_cases h1 : a.length = b.length
  · refine R.q (q.neq rfl rfl (bne_eq_false_iff_eq.2 (by omega))) rfl <| R.nil ?_
    refine R.condF rfl rfl ?_
    refine R.reg rfl <| R.u 1 rfl <| R.nil ?_
    refine R.loop (fun k : Nat => [(0, v_a), (1, v_b), (5, .int .i64 (k : Int))]) (fun k : Nat => []) (fun k : Nat => []) (fun k : Nat => k ≤ a.length ∧ ∀ j, j < k → a[j]? = b[j]?) (fun k : Nat => a.length - k) 0 rfl (by exact ⟨by omega, fun j hj => absurd hj (Nat.not_lt_zero _)⟩) ⟨rfl, rfl, rfl, trivial⟩ (fun _ => Wd.pick [] [] rfl rfl rfl) ?_
    rintro k ⟨hk, HA⟩
    refine R.reg rfl <| R.u 2 rfl <| R.q (q.len' (fun _ => Wd.old s_a) rfl Try.underlying46) rfl <| ?_
    by_cases h2 : k < a.length
    · refine R.q (q.lss rfl rfl (decide_eq_true (by omega))) rfl <| R.nil ?_
      refine R.condT rfl rfl ?_
      obtain ⟨x1, hx1⟩ : ∃ z, a[k]? = some z := ⟨_, List.getElem?_eq_getElem (by omega)⟩
      obtain ⟨x2, hx2⟩ : ∃ z, b[k]? = some z := ⟨_, List.getElem?_eq_getElem (by omega)⟩
      by_cases h3 : x1 = x2
      · refine R.regQ rfl mixed (by kernel_rfl) <| Q.u 2 rfl <| Q.q (q.idx (i := k) (fun _ => Wd.old s_a) rfl rfl tSl_46 rfl hx1) rfl <| Q.q (q.ldES (ds := [.string x1.Key, .string x1.Val, .bool x1.Gone]) (fun _ => Wd.old s_a) hx1 rfl tAgg_51 rfl) rfl <| Q.u 2 rfl <| Q.q (q.idx (i := k) (fun _ => Wd.old s_b) rfl rfl tSl_46 rfl hx2) rfl <| Q.q (q.ldES (ds := [.string x2.Key, .string x2.Val, .bool x2.Gone]) (fun _ => Wd.old s_b) hx2 rfl tAgg_51 rfl) rfl <| Q.q (q.neqT1 (x := x1) (y := x2) eq_51 rfl rfl h3) rfl <| Q.nil ?_
        refine R.condF rfl rfl ?_
        refine R.reg rfl <| R.u 1 rfl <| R.q (q.add (r := ((k + 1 : Nat) : Int)) rfl rfl (wr (by omega))) rfl <| R.u 1 rfl <| R.nil ?_
        refine R.back (k + 1) rfl (by (exact ⟨by omega, same_step HA hx1 hx2 (by assumption)⟩)) (by omega) ⟨rfl, rfl, rfl, trivial⟩ (fun _ => Wd.pick [] [] rfl rfl rfl)
      · refine R.regQ rfl mixed (by kernel_rfl) <| Q.u 2 rfl <| Q.q (q.idx (i := k) (fun _ => Wd.old s_a) rfl rfl tSl_46 rfl hx1) rfl <| Q.q (q.ldES (ds := [.string x1.Key, .string x1.Val, .bool x1.Gone]) (fun _ => Wd.old s_a) hx1 rfl tAgg_51 rfl) rfl <| Q.u 2 rfl <| Q.q (q.idx (i := k) (fun _ => Wd.old s_b) rfl rfl tSl_46 rfl hx2) rfl <| Q.q (q.ldES (ds := [.string x2.Key, .string x2.Val, .bool x2.Gone]) (fun _ => Wd.old s_b) hx2 rfl tAgg_51 rfl) rfl <| Q.q (q.neqT0 (x := x1) (y := x2) eq_51 rfl rfl h3) rfl <| Q.nil ?_
        refine R.condT rfl rfl ?_
        refine R.reg rfl <| R.u 1 rfl <| R.nil ?_
        exact R.rv rfl Try.results28 rfl (rB (by (first | exact same_len (by assumption) | exact same_all (by assumption) (by assumption) HA | exact same_hit hx1 hx2 (by assumption))))
    · refine R.q (q.lss rfl rfl (decide_eq_false (by omega))) rfl <| R.nil ?_
      refine R.condF rfl rfl ?_
      refine R.reg rfl <| R.u 1 rfl <| R.nil ?_
      exact R.rv rfl Try.results28 rfl (rB (by (first | exact same_len (by assumption) | exact same_all (by assumption) (by assumption) HA | exact same_hit hx1 hx2 (by assumption))))
  · refine R.q (q.neq rfl rfl (bne_iff_ne.2 (by omega))) rfl <| R.nil ?_
    refine R.condT rfl rfl ?_
    refine R.reg rfl <| R.u 1 rfl <| R.nil ?_
    exact R.rv rfl Try.results28 rfl (rB (by (first | exact same_len (by assumption) | exact same_all (by assumption) (by assumption) HA | exact same_hit hx1 hx2 (by assumption))))

end Go.Proofs.Ytpipachmngdegaa
end
