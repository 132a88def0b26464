/-
  The walks of the laws of chapter 3.
-/
import Derived.Test.YtgmnmibejamneaaTree2
import Derived.Test.YtgmnmibejamneaaTreeLaw
import Derived.Test.YtgmnmibejamneaaSame2
namespace Go.Proofs.Ytgmnmibejamneaa
open Go Go.RowKit
set_option linter.unusedVariables false
set_option maxRecDepth 100000

theorem in_hit {l : List Int} {n x : Int} {k : Nat} (hx : l[k]? = some x) (h : x = n) : true = decide (n ∈ l) := by
  subst h; exact (decide_eq_true (List.mem_of_getElem? hx)).symm
theorem in_none {l : List Int} {n : Int} (h : ∀ (j : Nat) x, j < l.length → l[j]? = some x → ¬ x = n) : false = decide (n ∈ l) := by
  refine (decide_eq_false fun hm => ?_).symm
  obtain ⟨j, hj⟩ := List.mem_iff_getElem?.1 hm
  exact h j _ (List.getElem?_eq_some_iff.1 hj).1 hj rfl
theorem in_any (v_l : Value) (l : List Int) (n : Int) (w : World) (s_l : Sl w v_l l) : Calls Try.prog 83 #[v_l, .int .i64 n] w fun e w' => e = .returned (.bool (decide (n ∈ l))) ∧ Ext w w' := by
  have b_l := s_l.lenle
  refine R.enter (n := 18) (vs := [v_l, .int .i64 n]) [] [(0, v_l), (1, .int .i64 n)] Try.func83 rfl rfl rfl rfl ?_
  refine R.reg rfl <| R.u 1 rfl <| R.nil ?_
  refine R.reg rfl <| R.u 1 rfl <| R.nil ?_
  refine R.loop (fun k : Nat => [(0, v_l), (1, .int .i64 n), (5, .int .i64 (k : Int))]) (fun k : Nat => []) (fun k : Nat => []) (fun k : Nat => k ≤ l.length ∧ ∀ (j : Nat) x, j < k → l[j]? = some x → ¬ x = n) (fun k : Nat => l.length - k) 0 rfl (by exact ⟨by omega, fun j x hj => absurd hj (Nat.not_lt_zero _)⟩) ⟨rfl, rfl, rfl, trivial⟩ (fun _ => Wd.pick [] [] rfl rfl rfl) ?_
  rintro k ⟨hk, HA⟩
  refine R.reg rfl <| R.u 2 rfl <| R.q (q.len' (fun _ => Wd.old s_l) rfl Try.underlying105) rfl <| ?_
  by_cases h1 : k < l.length
  · refine R.q (q.lss rfl rfl (decide_eq_true (by omega))) rfl <| R.nil ?_
    refine R.condT rfl rfl ?_
    refine R.reg rfl <| R.u 2 rfl <| ?_
    obtain ⟨x1, hx1⟩ : ∃ z, l[k]? = some z := ⟨_, List.getElem?_eq_getElem (by omega)⟩
    refine R.q (q.idx (i := k) (fun _ => Wd.old s_l) rfl rfl tSl_105 rfl hx1) rfl <| R.q (q.ldE (fun _ => Wd.old s_l) hx1 rfl tOne_3 rfl) rfl <| R.u 1 rfl <| ?_
    by_cases h2 : x1 = n
    · refine R.q (q.eql rfl rfl (beq_iff_eq.2 (by omega))) rfl <| R.nil ?_
      refine R.condT rfl rfl ?_
      refine R.reg rfl <| R.u 1 rfl <| R.nil ?_
      exact R.rv rfl Try.results83 rfl (rB (by (exact in_hit hx1 (by assumption))))
    · refine R.q (q.eql rfl rfl (beq_eq_false_iff_ne.2 (by omega))) rfl <| R.nil ?_
      refine R.condF rfl rfl ?_
      refine R.reg rfl <| R.u 1 rfl <| R.q (q.add (r := ((k + 1 : Nat) : Int)) rfl rfl (wr (by omega))) rfl <| R.u 1 rfl <| R.nil ?_
      refine R.back (k + 1) rfl (by (exact ⟨by omega, fun j x hj hx => if e : j = k then by subst e; rw [hx1] at hx; injection hx with hx; subst hx; exact (by assumption) else HA j x (by omega) hx⟩)) (by omega) ⟨rfl, rfl, rfl, trivial⟩ (fun _ => Wd.pick [] [] rfl rfl rfl)
  · refine R.q (q.lss rfl rfl (decide_eq_false (by omega))) rfl <| R.nil ?_
    refine R.condF rfl rfl ?_
    refine R.reg rfl <| R.u 1 rfl <| R.nil ?_
    exact R.rv rfl Try.results83 rfl (rB (by (exact in_none (fun j x hj => HA j x (by omega)))))

theorem treed_1 : TreeOk [(⟨1, 1, 7, 0, 0⟩ : Writ), (⟨2, 1, 3, 0, 1⟩ : Writ)] := by unfold TreeOk; decide
theorem treed_2 : benG 1 [(⟨1, 1, 7, 0, 0⟩ : Writ), (⟨2, 1, 3, 0, 1⟩ : Writ)] = [2] := by decide
theorem treed_3 : above [(⟨1, 1, 7, 0, 0⟩ : Writ), (⟨2, 1, 3, 0, 1⟩ : Writ)] 2 = [1] := by
  rw [above, show fromOf [(⟨1, 1, 7, 0, 0⟩ : Writ), (⟨2, 1, 3, 0, 1⟩ : Writ)] 2 = 1 from by decide, chain_some treed_1 (by decide), show fromOf [(⟨1, 1, 7, 0, 0⟩ : Writ), (⟨2, 1, 3, 0, 1⟩ : Writ)] 1 = 0 from by decide, chain_none (by decide)]

theorem treed_any  (w : World)  : Calls Try.prog 82 #[] w fun e w' => e = .returned (.bool true) ∧ Ext w w' := by
  have k1 := treed_1
  have k4 : treeFault [(⟨1, 1, 7, 0, 0⟩ : Writ), (⟨2, 1, 3, 0, 1⟩ : Writ)] = 0 := treed_1
  have e2 := decide_eq_true treed_2; have e3 := decide_eq_true treed_3
  refine R.enter (n := 20) (vs := []) [] [] Try.func82 rfl rfl rfl rfl ?_
  refine R.reg rfl <| R.u 1 rfl <| R.nil ?_
  refine R.reg rfl <| R.q (q.build (cs := [.int .i64 1, .int .i64 1, .int .i64 7, .int .i64 0, .int .i64 0]) tB_23 rfl rfl) rfl <| R.q (q.build (cs := [.int .i64 2, .int .i64 1, .int .i64 3, .int .i64 0, .int .i64 1]) tB_23 rfl rfl) rfl <| ?_
  refine R.s rfl (s.bs (l := ([(⟨1, 1, 7, 0, 0⟩ : Writ), (⟨2, 1, 3, 0, 1⟩ : Writ)] : List Writ)) tSl_24 tZero_23 rfl rfl rfl rfl rfl rfl rfl) fun b1 => ?_
  refine R.u 1 rfl <| R.nil ?_
  refine R.reg rfl <| R.u 1 rfl <| R.c (q.call eg_70 rfl rfl (fun w hw => (treeCheck_any _ ([(⟨1, 1, 7, 0, 0⟩ : Writ), (⟨2, 1, 3, 0, 1⟩ : Writ)]) w ((fun _ => Wd.row 0 rfl) w hw) ))) rfl <| R.q (q.eqlE0 rfl rfl Try.underlying26 (by omega)) rfl <| R.u 2 rfl <| ?_
  refine R.s rfl (s.callO eg_72 rfl rfl (fun w hw => beneathG_any _ ([(⟨1, 1, 7, 0, 0⟩ : Writ), (⟨2, 1, 3, 0, 1⟩ : Writ)]) (1) w ((fun _ => Wd.row 0 rfl) w hw) (by first | omega | decide)) rfl) fun v1 => ?_
  refine R.s rfl (s.bs (l := ([2] : List Int)) tSl_105 tZero_3 rfl rfl rfl rfl rfl rfl rfl) fun b2 => ?_
  refine R.cg rfl (q.call eg_71 rfl rfl (fun w hw => (cv (congrArg Value.bool e2) (sameNumbers_any _ ((benG 1 ([(⟨1, 1, 7, 0, 0⟩ : Writ), (⟨2, 1, 3, 0, 1⟩ : Writ)]))) _ ([2]) w ((fun _ => Wd.row 1 rfl) w hw) ((fun _ => Wd.row 0 rfl) w hw) )))) rfl <| R.u 3 rfl <| ?_
  refine R.s rfl (s.callO eg_74 rfl rfl (fun w hw => above_any _ ([(⟨1, 1, 7, 0, 0⟩ : Writ), (⟨2, 1, 3, 0, 1⟩ : Writ)]) (2) w ((fun _ => Wd.row 2 rfl) w hw) (by assumption)) rfl) fun v2 => ?_
  refine R.s rfl (s.bs (l := ([1] : List Int)) tSl_105 tZero_3 rfl rfl rfl rfl rfl rfl rfl) fun b3 => ?_
  refine R.cg rfl (q.call eg_71 rfl rfl (fun w hw => (cv (congrArg Value.bool e3) (sameNumbers_any _ ((above ([(⟨1, 1, 7, 0, 0⟩ : Writ), (⟨2, 1, 3, 0, 1⟩ : Writ)]) 2)) _ ([1]) w ((fun _ => Wd.row 1 rfl) w hw) ((fun _ => Wd.row 0 rfl) w hw) )))) rfl <| R.u 2 rfl <| R.nil ?_
  exact R.rv rfl Try.results82 rfl (rB (by (first | omega | rfl)))

theorem topBeneath_any (v_l : Value) (l : List Writ) (a : Int) (b : Int) (w : World) (s_l : Sl w v_l l) : Calls Try.prog 10 #[v_l, .int .i64 a, .int .i64 b] w fun e w' => e = .returned (.bool true) ∧ Ext w w' := by
  have b_l := s_l.lenle
  refine R.enter (n := 50) (vs := [v_l, .int .i64 a, .int .i64 b]) [] [(0, v_l), (1, .int .i64 a), (2, .int .i64 b)] Try.func10 rfl rfl rfl rfl ?_
  refine R.reg rfl <| R.u 1 rfl <| R.nil ?_
  refine R.reg rfl <| R.c (q.call eg_82 rfl rfl (fun w hw => (cv (congrArg Value.bool rfl) (treed_any  w  )))) rfl <| R.u 1 rfl <| R.nil ?_
  refine R.reg rfl <| R.u 2 rfl <| R.nil ?_
  refine R.condF rfl rfl ?_
  refine R.reg rfl <| R.u 1 rfl <| R.q (q.len' (fun _ => Wd.old s_l) rfl Try.underlying24) rfl <| ?_
  by_cases h1 : 40 < l.length
  · refine R.q (q.gtr rfl rfl (decide_eq_true (by omega))) rfl <| R.u 17 rfl <| R.nil ?_
    refine R.condT rfl rfl ?_
    refine R.reg rfl <| R.u 1 rfl <| R.nil ?_
    exact R.rv rfl Try.results10 rfl (rB (by (first | rfl | (simp only [decide_eq_true_eq, decide_eq_false_iff_not] at *; first | exact absurd (A1.1 (by assumption)) (by assumption) | exact absurd (A1.2 (by assumption)) (by assumption) | exact absurd (by assumption) A2))))
  · refine R.q (q.gtr rfl rfl (decide_eq_false (by omega))) rfl <| R.u 2 rfl <| R.cg rfl (q.call eg_70 rfl rfl (fun w hw => (treeCheck_any _ (l) w ((fun _ => Wd.old s_l) w hw) ))) rfl <| ?_
    by_cases h2 : treeFault l = 0
    · refine R.qg rfl (q.neqE0 rfl rfl Try.underlying26 (by omega)) rfl <| R.u 4 rfl <| R.cg rfl (q.call eg_19 rfl rfl (fun w hw => (find_any _ (l) (a) w ((fun _ => Wd.old s_l) w hw) ))) rfl <| ?_
      by_cases h3 : findW l a < 0
      · refine R.qg rfl (q.lss rfl rfl (decide_eq_true (by omega))) rfl <| R.u 7 rfl <| R.nil ?_
        refine R.condT rfl rfl ?_
        refine R.reg rfl <| R.u 1 rfl <| R.nil ?_
        exact R.rv rfl Try.results10 rfl (rB (by (first | rfl | (simp only [decide_eq_true_eq, decide_eq_false_iff_not] at *; first | exact absurd (A1.1 (by assumption)) (by assumption) | exact absurd (A1.2 (by assumption)) (by assumption) | exact absurd (by assumption) A2))))
      · refine R.qg rfl (q.lss rfl rfl (decide_eq_false (by omega))) rfl <| R.u 4 rfl <| R.cg rfl (q.call eg_19 rfl rfl (fun w hw => (find_any _ (l) (b) w ((fun _ => Wd.old s_l) w hw) ))) rfl <| ?_
        by_cases h4 : findW l b < 0
        · refine R.qg rfl (q.lss rfl rfl (decide_eq_true (by omega))) rfl <| R.u 1 rfl <| R.nil ?_
          refine R.condT rfl rfl ?_
          refine R.reg rfl <| R.u 1 rfl <| R.nil ?_
          exact R.rv rfl Try.results10 rfl (rB (by (first | rfl | (simp only [decide_eq_true_eq, decide_eq_false_iff_not] at *; first | exact absurd (A1.1 (by assumption)) (by assumption) | exact absurd (A1.2 (by assumption)) (by assumption) | exact absurd (by assumption) A2))))
        · refine R.qg rfl (q.lss rfl rfl (decide_eq_false (by omega))) rfl <| R.u 1 rfl <| R.nil ?_
          refine R.condF rfl rfl ?_
          have A1 := ben_above h2 (a := a) (b := b) (by omega) (by omega); have A2 := ben_self h2 (a := a) (by omega)
          refine R.reg rfl <| R.u 2 rfl <| ?_
          refine R.s rfl (s.callO eg_72 rfl rfl (fun w hw => beneathG_any _ (l) (a) w ((fun _ => Wd.old s_l) w hw) (by first | omega | decide)) rfl) fun v1 => ?_
          refine R.u 1 rfl <| R.nil ?_
          refine R.reg rfl <| R.u 2 rfl <| ?_
          rcases Bool.eq_false_or_eq_true (decide (b ∈ (benG a l))) with h5 | h5
          · refine R.c (q.call eg_83 rfl rfl (fun w hw => (cv (congrArg Value.bool h5) (in_any _ ((benG a l)) (b) w ((fun _ => Wd.row 0 rfl) w hw) )))) rfl <| R.u 2 rfl <| ?_
            refine R.s rfl (s.callO eg_74 rfl rfl (fun w hw => above_any _ (l) (b) w ((fun _ => Wd.old s_l) w hw) (by assumption)) rfl) fun v2 => ?_
            refine R.u 1 rfl <| ?_
            rcases Bool.eq_false_or_eq_true (decide (a ∈ (above l b))) with h6 | h6
            · refine R.c (q.call eg_83 rfl rfl (fun w hw => (cv (congrArg Value.bool h6) (in_any _ ((above l b)) (a) w ((fun _ => Wd.row 0 rfl) w hw) )))) rfl <| R.q (q.eqlB rfl rfl Try.underlying4) rfl <| R.u 3 rfl <| ?_
              rcases Bool.eq_false_or_eq_true (decide (a ∈ (benG a l))) with h7 | h7
              · refine R.cg rfl (q.call eg_83 rfl rfl (fun w hw => (cv (congrArg Value.bool h7) (in_any _ ((benG a l)) (a) w ((fun _ => Wd.row 1 rfl) w hw) )))) rfl <| R.u 3 rfl <| R.nil ?_
                exact R.rv rfl Try.results10 rfl (rB (by (first | rfl | (simp only [decide_eq_true_eq, decide_eq_false_iff_not] at *; first | exact absurd (A1.1 (by assumption)) (by assumption) | exact absurd (A1.2 (by assumption)) (by assumption) | exact absurd (by assumption) A2))))
              · refine R.cg rfl (q.call eg_83 rfl rfl (fun w hw => (cv (congrArg Value.bool h7) (in_any _ ((benG a l)) (a) w ((fun _ => Wd.row 1 rfl) w hw) )))) rfl <| R.u 3 rfl <| R.nil ?_
                exact R.rv rfl Try.results10 rfl (rB (by (first | rfl | (simp only [decide_eq_true_eq, decide_eq_false_iff_not] at *; first | exact absurd (A1.1 (by assumption)) (by assumption) | exact absurd (A1.2 (by assumption)) (by assumption) | exact absurd (by assumption) A2))))
            · refine R.c (q.call eg_83 rfl rfl (fun w hw => (cv (congrArg Value.bool h6) (in_any _ ((above l b)) (a) w ((fun _ => Wd.row 0 rfl) w hw) )))) rfl <| R.q (q.eqlB rfl rfl Try.underlying4) rfl <| R.u 7 rfl <| R.nil ?_
              exact R.rv rfl Try.results10 rfl (rB (by (first | rfl | (simp only [decide_eq_true_eq, decide_eq_false_iff_not] at *; first | exact absurd (A1.1 (by assumption)) (by assumption) | exact absurd (A1.2 (by assumption)) (by assumption) | exact absurd (by assumption) A2))))
          · refine R.c (q.call eg_83 rfl rfl (fun w hw => (cv (congrArg Value.bool h5) (in_any _ ((benG a l)) (b) w ((fun _ => Wd.row 0 rfl) w hw) )))) rfl <| R.u 2 rfl <| ?_
            refine R.s rfl (s.callO eg_74 rfl rfl (fun w hw => above_any _ (l) (b) w ((fun _ => Wd.old s_l) w hw) (by assumption)) rfl) fun v3 => ?_
            refine R.u 1 rfl <| ?_
            rcases Bool.eq_false_or_eq_true (decide (a ∈ (above l b))) with h8 | h8
            · refine R.c (q.call eg_83 rfl rfl (fun w hw => (cv (congrArg Value.bool h8) (in_any _ ((above l b)) (a) w ((fun _ => Wd.row 0 rfl) w hw) )))) rfl <| R.q (q.eqlB rfl rfl Try.underlying4) rfl <| R.u 7 rfl <| R.nil ?_
              exact R.rv rfl Try.results10 rfl (rB (by (first | rfl | (simp only [decide_eq_true_eq, decide_eq_false_iff_not] at *; first | exact absurd (A1.1 (by assumption)) (by assumption) | exact absurd (A1.2 (by assumption)) (by assumption) | exact absurd (by assumption) A2))))
            · refine R.c (q.call eg_83 rfl rfl (fun w hw => (cv (congrArg Value.bool h8) (in_any _ ((above l b)) (a) w ((fun _ => Wd.row 0 rfl) w hw) )))) rfl <| R.q (q.eqlB rfl rfl Try.underlying4) rfl <| R.u 3 rfl <| ?_
              rcases Bool.eq_false_or_eq_true (decide (a ∈ (benG a l))) with h9 | h9
              · refine R.cg rfl (q.call eg_83 rfl rfl (fun w hw => (cv (congrArg Value.bool h9) (in_any _ ((benG a l)) (a) w ((fun _ => Wd.row 1 rfl) w hw) )))) rfl <| R.u 3 rfl <| R.nil ?_
                exact R.rv rfl Try.results10 rfl (rB (by (first | rfl | (simp only [decide_eq_true_eq, decide_eq_false_iff_not] at *; first | exact absurd (A1.1 (by assumption)) (by assumption) | exact absurd (A1.2 (by assumption)) (by assumption) | exact absurd (by assumption) A2))))
              · refine R.cg rfl (q.call eg_83 rfl rfl (fun w hw => (cv (congrArg Value.bool h9) (in_any _ ((benG a l)) (a) w ((fun _ => Wd.row 1 rfl) w hw) )))) rfl <| R.u 3 rfl <| R.nil ?_
                exact R.rv rfl Try.results10 rfl (rB (by (first | rfl | (simp only [decide_eq_true_eq, decide_eq_false_iff_not] at *; first | exact absurd (A1.1 (by assumption)) (by assumption) | exact absurd (A1.2 (by assumption)) (by assumption) | exact absurd (by assumption) A2))))
    · refine R.qg rfl (q.neqE1 rfl rfl Try.underlying26 (by omega)) rfl <| R.u 13 rfl <| R.nil ?_
      refine R.condT rfl rfl ?_
      refine R.reg rfl <| R.u 1 rfl <| R.nil ?_
      exact R.rv rfl Try.results10 rfl (rB (by (first | rfl | (simp only [decide_eq_true_eq, decide_eq_false_iff_not] at *; first | exact absurd (A1.1 (by assumption)) (by assumption) | exact absurd (A1.2 (by assumption)) (by assumption) | exact absurd (by assumption) A2))))

theorem wo_back {id f : Int} {x y : Writ} (h : y = woRe id f x) : (⟨y.ID, y.Thing, y.Rights, y.Badge, x.From⟩ : Writ) = x := by subst h; unfold woRe; split <;> rfl
section
variable {α : Type} {p : α → Bool} {l : List α} {j : Nat} {x : α}
theorem fl_hit (h : l[j]? = some x) (hp : p x = true) : ((l.take (j + 1)).filter p).length = ((l.take j).filter p).length + 1 := by
  rw [List.take_add_one, h, List.filter_append]; simp [hp]
theorem fl_miss (h : l[j]? = some x) (hp : p x = false) : ((l.take (j + 1)).filter p).length = ((l.take j).filter p).length := by
  rw [List.take_add_one, h, List.filter_append]; simp [hp]
theorem fl_at (h : l[j]? = some x) (hp : p x = true) : (l.filter p)[((l.take j).filter p).length]? = some x := by
  have e : l.filter p = (l.take j).filter p ++ (x :: (l.drop (j + 1)).filter p) := by
    have hj := (List.getElem?_eq_some_iff.1 h)
    conv => lhs; rw [← List.take_append_drop j l, List.drop_eq_getElem_cons hj.1, hj.2, List.filter_append, List.filter_cons, if_pos hp]
  rw [e, List.getElem?_append_right (Nat.le_refl _)]; simp
theorem fl_all (h : l.length ≤ j) : ((l.take j).filter p).length = (l.filter p).length := by rw [List.take_of_length_le h]
theorem fl_le : ((l.take j).filter p).length ≤ j := Nat.le_trans (List.length_filter_le _ _) (by rw [List.length_take]; omega)
end

set_option maxRecDepth 100000 in
theorem topWithout_any (v_l : Value) (l : List Writ) (id : Int) (w : World) (s_l : Sl w v_l l) : Calls Try.prog 11 #[v_l, .int .i64 id] w fun e w' => e = .returned (.bool true) ∧ Ext w w' := by
  have b_l := s_l.lenle
  refine R.enter (n := 122) (vs := [v_l, .int .i64 id]) [] [(0, v_l), (1, .int .i64 id)] Try.func11 rfl rfl rfl rfl ?_
  refine R.reg rfl <| R.u 1 rfl <| R.nil ?_
  refine R.reg rfl <| R.c (q.call eg_82 rfl rfl (fun w hw => (cv (congrArg Value.bool rfl) (treed_any  w  )))) rfl <| R.u 1 rfl <| R.nil ?_
  refine R.reg rfl <| R.u 2 rfl <| R.nil ?_
  refine R.condF rfl rfl ?_
  refine R.reg rfl <| R.u 1 rfl <| R.q (q.len' (fun _ => Wd.old s_l) rfl Try.underlying24) rfl <| ?_
  by_cases h1 : 40 < l.length
  · refine R.q (q.gtr rfl rfl (decide_eq_true (by omega))) rfl <| R.u 5 rfl <| R.nil ?_
    refine R.condT rfl rfl ?_
    refine R.reg rfl <| R.u 1 rfl <| R.nil ?_
    exact R.rv rfl Try.results11 rfl (rB (by (first | omega | rfl)))
  · refine R.q (q.gtr rfl rfl (decide_eq_false (by omega))) rfl <| R.u 2 rfl <| R.cg rfl (q.call eg_70 rfl rfl (fun w hw => (treeCheck_any _ (l) w ((fun _ => Wd.old s_l) w hw) ))) rfl <| ?_
    by_cases h2 : treeFault l = 0
    · refine R.qg rfl (q.neqE0 rfl rfl Try.underlying26 (by omega)) rfl <| R.u 1 rfl <| R.nil ?_
      refine R.condF rfl rfl ?_
      have hT : TreeOk l := by assumption
      have hT2 := hT.wo id; have hT3 : treeFault (without l id) = 0 := hT2
      have hG := without_gone l id
      refine R.reg rfl <| R.u 2 rfl <| ?_
      refine R.s rfl (s.callO eg_77 rfl rfl (fun w hw => without_any _ (l) (id) w ((fun _ => Wd.old s_l) w hw) (by first | omega | decide)) rfl) fun v1 => ?_
      refine R.u 1 rfl <| R.nil ?_
      refine R.reg rfl <| R.u 1 rfl <| R.c (q.call eg_70 rfl rfl (fun w hw => (treeCheck_any _ ((without l id)) w ((fun _ => Wd.row 0 rfl) w hw) ))) rfl <| ?_
      by_cases h3 : treeFault (without l id) = 0
      · refine R.q (q.neqE0 rfl rfl Try.underlying26 (by omega)) rfl <| R.u 3 rfl <| R.cg rfl (q.call eg_19 rfl rfl (fun w hw => (find_any _ ((without l id)) (id) w ((fun _ => Wd.row 0 rfl) w hw) ))) rfl <| ?_
        by_cases h4 : findW (without l id) id < 0
        · refine R.qg rfl (q.geq rfl rfl (decide_eq_false (by omega))) rfl <| R.u 1 rfl <| R.nil ?_
          refine R.condF rfl rfl ?_
          refine R.reg rfl <| R.u 1 rfl <| R.nil ?_
          refine R.loop (fun k : Nat => [(0, v_l), (1, .int .i64 id), (6, v1), (7, .int .i64 (k : Int))]) (fun k : Nat => [Res.row 23 v1 ((without l id) : List Writ)]) (fun k : Nat => []) (fun k : Nat => k ≤ l.length) (fun k : Nat => l.length - k) 0 rfl (by omega) ⟨rfl, rfl, rfl, rfl, trivial⟩ (fun _ => Wd.pick [0] [] rfl rfl rfl) ?_
          rintro k hk
          refine R.reg rfl <| R.u 2 rfl <| R.q (q.len' (fun _ => Wd.old s_l) rfl Try.underlying24) rfl <| ?_
          by_cases h5 : k < l.length
          · refine R.q (q.lss rfl rfl (decide_eq_true (by omega))) rfl <| R.nil ?_
            refine R.condT rfl rfl ?_
            refine R.reg rfl <| R.u 2 rfl <| ?_
            obtain ⟨x1, hx1⟩ : ∃ z, l[k]? = some z := ⟨_, List.getElem?_eq_getElem (by omega)⟩
            refine R.q (q.idx (i := k) (fun _ => Wd.old s_l) rfl rfl tSl_24 rfl hx1) rfl <| R.q (q.fldE (j' := 0) (fun _ => Wd.old s_l) hx1 rfl tFld_23_0 rfl) rfl <| R.q (q.ldE (fun _ => Wd.old s_l) hx1 rfl tOne_3 rfl) rfl <| R.u 1 rfl <| ?_
            by_cases h6 : x1.ID = id
            · refine R.q (q.eql rfl rfl (beq_iff_eq.2 (by omega))) rfl <| R.nil ?_
              refine R.condT rfl rfl ?_
              refine R.reg rfl <| R.u 1 rfl <| R.q (q.add (r := ((k + 1 : Nat) : Int)) rfl rfl (wr (by omega))) rfl <| R.u 1 rfl <| R.nil ?_
              refine R.back (k + 1) rfl (by (first | omega | rfl)) (by omega) ⟨rfl, rfl, rfl, rfl, trivial⟩ (fun _ => Wd.pick [0] [] rfl rfl rfl)
            · refine R.q (q.eql rfl rfl (beq_eq_false_iff_ne.2 (by omega))) rfl <| R.nil ?_
              refine R.condF rfl rfl ?_
              refine R.reg rfl <| R.u 3 rfl <| R.q (q.idx (i := k) (fun _ => Wd.old s_l) rfl rfl tSl_24 rfl hx1) rfl <| R.q (q.fldE (j' := 0) (fun _ => Wd.old s_l) hx1 rfl tFld_23_0 rfl) rfl <| R.q (q.ldE (fun _ => Wd.old s_l) hx1 rfl tOne_3 rfl) rfl <| R.c (q.call eg_19 rfl rfl (fun w hw => (find_any _ ((without l id)) (x1.ID) w ((fun _ => Wd.row 0 rfl) w hw) ))) rfl <| R.u 1 rfl <| R.nil ?_
              refine R.reg rfl <| R.u 1 rfl <| ?_
              by_cases h7 : findW (without l id) x1.ID < 0
              · refine R.q (q.lss rfl rfl (decide_eq_true (by omega))) rfl <| R.nil ?_
                refine R.condT rfl rfl ?_
                refine R.reg rfl <| R.u 1 rfl <| R.nil ?_
                exact R.rv rfl Try.results11 rfl (rB (by (exfalso; obtain ⟨_, _, hh, _⟩ := without_there hT (id := id) (List.mem_of_getElem? hx1) (by assumption); omega)))
              · refine R.q (q.lss rfl rfl (decide_eq_false (by omega))) rfl <| R.nil ?_
                refine R.condF rfl rfl ?_
                refine R.reg rfl <| R.u 2 rfl <| ?_
                obtain ⟨x2, hx2, px2, qx2⟩ := without_there hT (id := id) (List.mem_of_getElem? hx1) (by assumption)
                refine R.q (q.idx (i := (findW (without l id) x1.ID).toNat) (fun _ => Wd.row 0 rfl) rfl rfl tSl_24 (by omega) hx2) rfl <| R.q (q.ldES (ds := [.int .i64 x2.ID, .int .i64 x2.Thing, .int .i64 x2.Rights, .int .i64 x2.Badge, .int .i64 x2.From]) (fun _ => Wd.row 0 rfl) hx2 rfl tAgg_23 rfl) rfl <| ?_
                refine R.s rfl (s.alloc (cs := [.int .i64 0, .int .i64 0, .int .i64 0, .int .i64 0, .int .i64 0]) tZero_23 rfl rfl) fun b1 => ?_
                refine R.s rfl (s.st (us := [.int .i64 x2.ID, .int .i64 x2.Thing, .int .i64 x2.Rights, .int .i64 x2.Badge, .int .i64 x2.From]) (cs' := [.int .i64 x2.ID, .int .i64 x2.Thing, .int .i64 x2.Rights, .int .i64 x2.Badge, .int .i64 x2.From]) 0 _ rfl rfl rfl rfl (.inl tAgg_23) rfl rfl rfl rfl) fun _ => ?_
                refine R.nil ?_
                refine R.reg rfl <| R.u 2 rfl <| R.q (q.idx (i := k) (fun _ => Wd.old s_l) rfl rfl tSl_24 rfl hx1) rfl <| R.q (q.fldE (j' := 4) (fun _ => Wd.old s_l) hx1 rfl tFld_23_4 rfl) rfl <| R.q (q.ldE (fun _ => Wd.old s_l) hx1 rfl tOne_3 rfl) rfl <| R.q (q.fld (off' := 4) rfl tFld_23_4 rfl) rfl <| ?_
                refine R.s rfl (s.st (us := [.int .i64 x1.From]) (cs' := [.int .i64 x2.ID, .int .i64 x2.Thing, .int .i64 x2.Rights, .int .i64 x2.Badge, .int .i64 x1.From]) 0 _ rfl rfl rfl rfl (.inr ⟨tOne_3, rfl⟩) rfl rfl rfl rfl) fun _ => ?_
                refine R.nil ?_
                by_cases h8 : (⟨x2.ID, x2.Thing, x2.Rights, x2.Badge, x1.From⟩ : Writ) = x1
                · refine R.regQ rfl mixed (by kernel_rfl) <| Q.q (q.ldS 0 rfl rfl tAgg_23) rfl <| Q.u 2 rfl <| Q.q (q.idx (i := k) (fun _ => Wd.old s_l) rfl rfl tSl_24 rfl hx1) rfl <| Q.q (q.ldES (ds := [.int .i64 x1.ID, .int .i64 x1.Thing, .int .i64 x1.Rights, .int .i64 x1.Badge, .int .i64 x1.From]) (fun _ => Wd.old s_l) hx1 rfl tAgg_23 rfl) rfl <| Q.q (q.neqT1 (x := (⟨x2.ID, x2.Thing, x2.Rights, x2.Badge, x1.From⟩ : Writ)) (y := x1) eq_23 rfl rfl h8) rfl <| Q.nil ?_
                  refine R.condF rfl rfl ?_
                  refine R.reg rfl <| R.u 3 rfl <| R.q (q.idx (i := k) (fun _ => Wd.old s_l) rfl rfl tSl_24 rfl hx1) rfl <| R.q (q.fldE (j' := 0) (fun _ => Wd.old s_l) hx1 rfl tFld_23_0 rfl) rfl <| R.q (q.ldE (fun _ => Wd.old s_l) hx1 rfl tOne_3 rfl) rfl <| ?_
                  refine R.s rfl (s.callO eg_74 rfl rfl (fun w hw => above_any _ (l) (x1.ID) w ((fun _ => Wd.old s_l) w hw) (by assumption)) rfl) fun v2 => ?_
                  refine R.u 1 rfl <| R.nil ?_
                  refine R.reg rfl <| R.u 3 rfl <| R.q (q.idx (i := k) (fun _ => Wd.old s_l) rfl rfl tSl_24 rfl hx1) rfl <| R.q (q.fldE (j' := 0) (fun _ => Wd.old s_l) hx1 rfl tFld_23_0 rfl) rfl <| R.q (q.ldE (fun _ => Wd.old s_l) hx1 rfl tOne_3 rfl) rfl <| ?_
                  refine R.s rfl (s.callO eg_74 rfl rfl (fun w hw => above_any _ ((without l id)) (x1.ID) w ((fun _ => Wd.row 2 rfl) w hw) (by assumption)) rfl) fun v3 => ?_
                  refine R.u 1 rfl <| R.nil ?_
                  have hB := above_without hT (id := id) (f := x1.ID) (by assumption)
                  have hBl : (above (without l id) x1.ID).length = ((above l x1.ID).filter (fun z => decide (z ≠ id))).length := by rw [hB]
                  have hal := above_len hT x1.ID
                  refine R.reg rfl <| R.u 1 rfl <| R.nil ?_
                  refine R.reg rfl <| R.u 1 rfl <| R.nil ?_
                  refine R.loop (fun p : Nat × Nat => [(0, v_l), (1, .int .i64 id), (6, v1), (7, .int .i64 (k : Int)), (10, v2), (11, v3), (12, .int .i64 (p.2 : Int)), (13, .int .i64 (p.1 : Int))]) (fun p : Nat × Nat => [Res.row 3 v3 ((above (without l id) x1.ID) : List Int), Res.row 3 v2 ((above l x1.ID) : List Int), Res.row 23 v1 ((without l id) : List Writ)]) (fun p : Nat × Nat => []) (fun p : Nat × Nat => p.1 ≤ (above l x1.ID).length ∧ p.2 = (((above l x1.ID).take p.1).filter (fun z => decide (z ≠ id))).length) (fun p : Nat × Nat => (above l x1.ID).length - p.1) (0, 0) rfl (by exact ⟨by omega, by simp⟩) ⟨rfl, rfl, rfl, rfl, rfl, rfl, rfl, rfl, trivial⟩ (fun _ => Wd.pick [0, 1, 3] [] rfl rfl rfl) ?_
                  rintro ⟨j, n⟩ ⟨hj, HN⟩
                  dsimp only at *
                  have hn : n ≤ j := by rw [HN]; exact fl_le
                  refine R.reg rfl <| R.u 2 rfl <| R.q (q.len' (fun _ => Wd.row 1 rfl) rfl Try.underlying105) rfl <| ?_
                  by_cases h9 : j < (above l x1.ID).length
                  · refine R.q (q.lss rfl rfl (decide_eq_true (by omega))) rfl <| R.nil ?_
                    refine R.condT rfl rfl ?_
                    refine R.reg rfl <| R.u 2 rfl <| ?_
                    obtain ⟨x3, hx3⟩ : ∃ z, (above l x1.ID)[j]? = some z := ⟨_, List.getElem?_eq_getElem (by omega)⟩
                    refine R.q (q.idx (i := j) (fun _ => Wd.row 1 rfl) rfl rfl tSl_105 rfl hx3) rfl <| R.q (q.ldE (fun _ => Wd.row 1 rfl) hx3 rfl tOne_3 rfl) rfl <| R.u 1 rfl <| ?_
                    by_cases h10 : x3 = id
                    · refine R.q (q.eql rfl rfl (beq_iff_eq.2 (by omega))) rfl <| R.nil ?_
                      refine R.condT rfl rfl ?_
                      refine R.reg rfl <| R.u 1 rfl <| R.q (q.add (r := ((j + 1 : Nat) : Int)) rfl rfl (wr (by omega))) rfl <| R.u 1 rfl <| R.nil ?_
                      refine R.back (j + 1, n) rfl (by (exact ⟨by omega, by rw [fl_miss hx3 (decide_eq_false (by intro hh; exact hh (by assumption))), ← HN]⟩)) (by dsimp only; omega) ⟨rfl, rfl, rfl, rfl, rfl, rfl, rfl, rfl, trivial⟩ (fun _ => Wd.pick [0, 1, 2] [] rfl rfl rfl)
                    · refine R.q (q.eql rfl rfl (beq_eq_false_iff_ne.2 (by omega))) rfl <| R.nil ?_
                      refine R.condF rfl rfl ?_
                      by_cases h11 : n < (above (without l id) x1.ID).length
                      · obtain ⟨x4, hx4⟩ : ∃ z, (above (without l id) x1.ID)[n]? = some z := ⟨_, List.getElem?_eq_getElem (by omega)⟩
                        by_cases h12 : x4 = x3
                        · refine R.regQ rfl mixed (by kernel_rfl) <| Q.u 2 rfl <| Q.q (q.len' (fun _ => Wd.row 0 rfl) rfl Try.underlying105) rfl <| Q.q (q.geq rfl rfl (decide_eq_false (by omega))) rfl <| Q.u 3 rfl <| Q.qg rfl (q.idx (i := n) (fun _ => Wd.row 0 rfl) rfl rfl tSl_105 rfl hx4) rfl <| Q.qg rfl (q.ldE (fun _ => Wd.row 0 rfl) hx4 rfl tOne_3 rfl) rfl <| Q.u 2 rfl <| Q.qg rfl (q.idx (i := j) (fun _ => Wd.row 1 rfl) rfl rfl tSl_105 rfl hx3) rfl <| Q.qg rfl (q.ldE (fun _ => Wd.row 1 rfl) hx3 rfl tOne_3 rfl) rfl <| Q.qg rfl (q.neq rfl rfl (bne_eq_false_iff_eq.2 (by omega))) rfl <| Q.u 1 rfl <| Q.nil ?_
                          refine R.condF rfl rfl ?_
                          refine R.reg rfl <| R.u 1 rfl <| R.q (q.add (r := ((n + 1 : Nat) : Int)) rfl rfl (wr (by omega))) rfl <| R.u 1 rfl <| R.nil ?_
                          refine R.reg rfl <| R.u 1 rfl <| R.q (q.add (r := ((j + 1 : Nat) : Int)) rfl rfl (wr (by omega))) rfl <| R.u 1 rfl <| R.nil ?_
                          refine R.back (j + 1, n + 1) rfl (by (exact ⟨by omega, by rw [fl_hit hx3 (decide_eq_true (by assumption)), ← HN]⟩)) (by dsimp only; omega) ⟨rfl, rfl, rfl, rfl, rfl, rfl, rfl, rfl, trivial⟩ (fun _ => Wd.pick [0, 1, 2] [] rfl rfl rfl)
                        · refine R.regQ rfl mixed (by kernel_rfl) <| Q.u 2 rfl <| Q.q (q.len' (fun _ => Wd.row 0 rfl) rfl Try.underlying105) rfl <| Q.q (q.geq rfl rfl (decide_eq_false (by omega))) rfl <| Q.u 3 rfl <| Q.qg rfl (q.idx (i := n) (fun _ => Wd.row 0 rfl) rfl rfl tSl_105 rfl hx4) rfl <| Q.qg rfl (q.ldE (fun _ => Wd.row 0 rfl) hx4 rfl tOne_3 rfl) rfl <| Q.u 2 rfl <| Q.qg rfl (q.idx (i := j) (fun _ => Wd.row 1 rfl) rfl rfl tSl_105 rfl hx3) rfl <| Q.qg rfl (q.ldE (fun _ => Wd.row 1 rfl) hx3 rfl tOne_3 rfl) rfl <| Q.qg rfl (q.neq rfl rfl (bne_iff_ne.2 (by omega))) rfl <| Q.u 1 rfl <| Q.nil ?_
                          refine R.condT rfl rfl ?_
                          refine R.reg rfl <| R.u 1 rfl <| R.nil ?_
                          exact R.rv rfl Try.results11 rfl (rB (by (exfalso; have q1 := fl_at (p := (fun z => decide (z ≠ id))) hx3 (decide_eq_true (by assumption)); rw [← HN, ← hB] at q1; first | (rw [hx4] at q1; injection q1 with q1; omega) | (have := (List.getElem?_eq_some_iff.1 q1).1; omega))))
                      · refine R.regQ rfl mixed (by kernel_rfl) <| Q.u 2 rfl <| Q.q (q.len' (fun _ => Wd.row 0 rfl) rfl Try.underlying105) rfl <| Q.q (q.geq rfl rfl (decide_eq_true (by omega))) rfl <| Q.u 11 rfl <| Q.nil ?_
                        refine R.condT rfl rfl ?_
                        refine R.reg rfl <| R.u 1 rfl <| R.nil ?_
                        exact R.rv rfl Try.results11 rfl (rB (by (exfalso; have q1 := fl_at (p := (fun z => decide (z ≠ id))) hx3 (decide_eq_true (by assumption)); rw [← HN, ← hB] at q1; first | (rw [hx4] at q1; injection q1 with q1; omega) | (have := (List.getElem?_eq_some_iff.1 q1).1; omega))))
                  · refine R.q (q.lss rfl rfl (decide_eq_false (by omega))) rfl <| R.nil ?_
                    refine R.condF rfl rfl ?_
                    refine R.reg rfl <| R.u 2 rfl <| R.q (q.len' (fun _ => Wd.row 0 rfl) rfl Try.underlying105) rfl <| ?_
                    by_cases h13 : n = (above (without l id) x1.ID).length
                    · refine R.q (q.neq rfl rfl (bne_eq_false_iff_eq.2 (by omega))) rfl <| R.nil ?_
                      refine R.condF rfl rfl ?_
                      refine R.reg rfl <| R.u 1 rfl <| R.q (q.add (r := ((k + 1 : Nat) : Int)) rfl rfl (wr (by omega))) rfl <| R.u 1 rfl <| R.nil ?_
                      refine R.back (k + 1) rfl (by (first | omega | rfl)) (by omega) ⟨rfl, rfl, rfl, rfl, trivial⟩ (fun _ => Wd.pick [2] [] rfl rfl rfl)
                    · refine R.q (q.neq rfl rfl (bne_iff_ne.2 (by omega))) rfl <| R.nil ?_
                      refine R.condT rfl rfl ?_
                      refine R.reg rfl <| R.u 1 rfl <| R.nil ?_
                      exact R.rv rfl Try.results11 rfl (rB (by (exfalso; have q2 := fl_all (p := (fun z => decide (z ≠ id))) (l := (above l x1.ID)) (j := j) (by omega); omega)))
                · refine R.regQ rfl mixed (by kernel_rfl) <| Q.q (q.ldS 0 rfl rfl tAgg_23) rfl <| Q.u 2 rfl <| Q.q (q.idx (i := k) (fun _ => Wd.old s_l) rfl rfl tSl_24 rfl hx1) rfl <| Q.q (q.ldES (ds := [.int .i64 x1.ID, .int .i64 x1.Thing, .int .i64 x1.Rights, .int .i64 x1.Badge, .int .i64 x1.From]) (fun _ => Wd.old s_l) hx1 rfl tAgg_23 rfl) rfl <| Q.q (q.neqT0 (x := (⟨x2.ID, x2.Thing, x2.Rights, x2.Badge, x1.From⟩ : Writ)) (y := x1) eq_23 rfl rfl h8) rfl <| Q.nil ?_
                  refine R.condT rfl rfl ?_
                  refine R.reg rfl <| R.u 1 rfl <| R.nil ?_
                  exact R.rv rfl Try.results11 rfl (rB (by (exact absurd (wo_back qx2) (by assumption))))
          · refine R.q (q.lss rfl rfl (decide_eq_false (by omega))) rfl <| R.nil ?_
            refine R.condF rfl rfl ?_
            refine R.reg rfl <| R.u 1 rfl <| R.nil ?_
            exact R.rv rfl Try.results11 rfl (rB (by (first | omega | rfl)))
        · refine R.qg rfl (q.geq rfl rfl (decide_eq_true (by omega))) rfl <| R.u 1 rfl <| R.nil ?_
          refine R.condT rfl rfl ?_
          refine R.reg rfl <| R.u 1 rfl <| R.nil ?_
          exact R.rv rfl Try.results11 rfl (rB (by (exfalso; omega)))
      · refine R.q (q.neqE1 rfl rfl Try.underlying26 (by omega)) rfl <| R.u 6 rfl <| R.nil ?_
        refine R.condT rfl rfl ?_
        refine R.reg rfl <| R.u 1 rfl <| R.nil ?_
        exact R.rv rfl Try.results11 rfl (rB (by (exfalso; omega)))
    · refine R.qg rfl (q.neqE1 rfl rfl Try.underlying26 (by omega)) rfl <| R.u 1 rfl <| R.nil ?_
      refine R.condT rfl rfl ?_
      refine R.reg rfl <| R.u 1 rfl <| R.nil ?_
      exact R.rv rfl Try.results11 rfl (rB (by (first | omega | rfl)))

end Go.Proofs.Ytgmnmibejamneaa
