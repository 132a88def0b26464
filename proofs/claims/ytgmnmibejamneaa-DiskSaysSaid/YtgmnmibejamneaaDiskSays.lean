/-
  The walk of the law of chapter 7.
-/
import Derived.Test.YtgmnmibejamneaaDiskRefW
import Derived.Test.YtgmnmibejamneaaLight
namespace Go.Proofs.Ytgmnmibejamneaa
open Go Go.RowKit
set_option linter.unusedVariables false
set_option linter.unusedSimpArgs false
set_option maxRecDepth 100000

theorem lightC_any (v_l : Value) (l : List Change) (most : Int) (w : World) (s_l : Sl w v_l l) : Calls Try.prog 46 #[v_l, .int .i64 most] w fun e w' => e = .returned (.bool (lightC l most)) ∧ Ext w w' := by
  have b_l := s_l.lenle
  refine R.enter (n := 32) (vs := [v_l, .int .i64 most]) [] [(0, v_l), (1, .int .i64 most)] Try.func46 rfl rfl rfl rfl ?_
  refine R.oldL s_l ?_
  refine R.reg rfl <| R.u 1 rfl <| R.nil ?_
  refine R.reg rfl <| R.u 1 rfl <| R.q (q.len' (fun _ => Wd.fls 0 rfl) rfl Try.underlying49) rfl <| R.u 1 rfl <| ?_
  by_cases h1 : most < (l.length : Int)
  · refine R.q (q.gtr rfl rfl (decide_eq_true (by omega))) rfl <| R.nil ?_
    refine R.condT rfl rfl ?_
    refine R.reg rfl <| R.u 1 rfl <| R.nil ?_
    exact R.rv rfl Try.results46 rfl (rB (by (unfold lightC; first | (rw [decide_eq_false (by omega)]; rfl) | (rw [decide_eq_true (by omega), all_up (by omega) HA]; rfl) | (rw [all_hit hx1 (show lightC1 _ = false from by unfold lightC1; simp; omega)]; simp) | (rw [all_hit hx1 (show lightC1 _ = false from by unfold lightC1; simp_all)]; simp))))
  · refine R.q (q.gtr rfl rfl (decide_eq_false (by omega))) rfl <| R.nil ?_
    refine R.condF rfl rfl ?_
    refine R.reg rfl <| R.u 1 rfl <| R.nil ?_
    refine R.loop (fun k : Nat => [(0, v_l), (5, .int .i64 (k : Int))]) (fun k : Nat => []) (fun k : Nat => [Res.ls v_l (l : List Change)]) (fun k : Nat => k ≤ l.length ∧ (l.take k).all lightC1 = true) (fun k : Nat => l.length - k) 0 rfl (by exact ⟨by omega, rfl⟩) ⟨rfl, rfl, trivial⟩ (fun _ => Wd.pick [] [0] rfl rfl rfl) ?_
    rintro k ⟨hk, HA⟩
    refine R.reg rfl <| R.u 2 rfl <| R.q (q.len' (fun _ => Wd.fls 0 rfl) rfl Try.underlying49) rfl <| ?_
    by_cases h2 : k < l.length
    · refine R.q (q.lss rfl rfl (decide_eq_true (by omega))) rfl <| R.nil ?_
      refine R.condT rfl rfl ?_
      refine R.reg rfl <| R.u 2 rfl <| ?_
      obtain ⟨x1, hx1⟩ : ∃ z, l[k]? = some z := ⟨_, List.getElem?_eq_getElem (by omega)⟩
      refine R.q (q.idx (i := k) (fun _ => Wd.fls 0 rfl) rfl rfl tSl_49 rfl hx1) rfl <| R.q (q.fldE (j' := 0) (fun _ => Wd.fls 0 rfl) hx1 rfl tFld_75_0 rfl) rfl <| R.q (q.ldE (fun _ => Wd.fls 0 rfl) hx1 rfl tOne_9 rfl) rfl <| R.q (q.lenS rfl Try.underlying9) rfl <| ?_
      by_cases h3 : 20 < x1.Key.size
      · refine R.q (q.gtr rfl rfl (decide_eq_true (by omega))) rfl <| R.u 9 rfl <| R.nil ?_
        refine R.condT rfl rfl ?_
        refine R.reg rfl <| R.u 1 rfl <| R.nil ?_
        exact R.rv rfl Try.results46 rfl (rB (by (unfold lightC; first | (rw [decide_eq_false (by omega)]; rfl) | (rw [decide_eq_true (by omega), all_up (by omega) HA]; rfl) | (rw [all_hit hx1 (show lightC1 _ = false from by unfold lightC1; simp; omega)]; simp) | (rw [all_hit hx1 (show lightC1 _ = false from by unfold lightC1; simp_all)]; simp))))
      · refine R.q (q.gtr rfl rfl (decide_eq_false (by omega))) rfl <| R.u 3 rfl <| R.qg rfl (q.idx (i := k) (fun _ => Wd.fls 0 rfl) rfl rfl tSl_49 rfl hx1) rfl <| R.qg rfl (q.fldE (j' := 1) (fun _ => Wd.fls 0 rfl) hx1 rfl tFld_75_1 rfl) rfl <| R.qg rfl (q.ldE (fun _ => Wd.fls 0 rfl) hx1 rfl tOne_9 rfl) rfl <| R.qg rfl (q.lenS rfl Try.underlying9) rfl <| ?_
        by_cases h4 : 40 < x1.Val.size
        · refine R.qg rfl (q.gtr rfl rfl (decide_eq_true (by omega))) rfl <| R.u 1 rfl <| R.nil ?_
          refine R.condT rfl rfl ?_
          refine R.reg rfl <| R.u 1 rfl <| R.nil ?_
          exact R.rv rfl Try.results46 rfl (rB (by (unfold lightC; first | (rw [decide_eq_false (by omega)]; rfl) | (rw [decide_eq_true (by omega), all_up (by omega) HA]; rfl) | (rw [all_hit hx1 (show lightC1 _ = false from by unfold lightC1; simp; omega)]; simp) | (rw [all_hit hx1 (show lightC1 _ = false from by unfold lightC1; simp_all)]; simp))))
        · refine R.qg rfl (q.gtr rfl rfl (decide_eq_false (by omega))) rfl <| R.u 1 rfl <| R.nil ?_
          refine R.condF rfl rfl ?_
          refine R.reg rfl <| R.u 1 rfl <| R.q (q.add (r := ((k + 1 : Nat) : Int)) rfl rfl (wr (by omega))) rfl <| R.u 1 rfl <| R.nil ?_
          refine R.back (k + 1) rfl (by (exact ⟨by omega, all_snoc hx1 HA (by unfold lightC1; simp_all)⟩)) (by omega) ⟨rfl, rfl, trivial⟩ (fun _ => Wd.pik [] [0] rfl rfl rfl)
    · refine R.q (q.lss rfl rfl (decide_eq_false (by omega))) rfl <| R.nil ?_
      refine R.condF rfl rfl ?_
      refine R.reg rfl <| R.u 1 rfl <| R.nil ?_
      exact R.rv rfl Try.results46 rfl (rB (by (unfold lightC; first | (rw [decide_eq_false (by omega)]; rfl) | (rw [decide_eq_true (by omega), all_up (by omega) HA]; rfl) | (rw [all_hit hx1 (show lightC1 _ = false from by unfold lightC1; simp; omega)]; simp) | (rw [all_hit hx1 (show lightC1 _ = false from by unfold lightC1; simp_all)]; simp))))

theorem lightA_any (v_l : Value) (l : List Deed) (most : Int) (w : World) (s_l : Sl w v_l l) (c_l : ∀ x ∈ l, Sl w x.cv x.Changes) : Calls Try.prog 23 #[v_l, .int .i64 most] w fun e w' => e = .returned (.bool (lightA l most)) ∧ Ext w w' := by
  have b_l := s_l.lenle
  refine R.enter (n := 32) (vs := [v_l, .int .i64 most]) [] [(0, v_l), (1, .int .i64 most)] Try.func23 rfl rfl rfl rfl ?_
  refine R.oldL s_l ?_
  refine R.oldF (r := Res.acts l) c_l (acts_lt c_l) ?_
  refine R.reg rfl <| R.u 1 rfl <| R.nil ?_
  refine R.reg rfl <| R.u 1 rfl <| R.q (q.len' (fun _ => Wd.fls 1 rfl) rfl Try.underlying36) rfl <| R.u 1 rfl <| ?_
  by_cases h1 : most < (l.length : Int)
  · refine R.q (q.gtr rfl rfl (decide_eq_true (by omega))) rfl <| R.nil ?_
    refine R.condT rfl rfl ?_
    refine R.reg rfl <| R.u 1 rfl <| R.nil ?_
    exact R.rv rfl Try.results23 rfl (rB (by (unfold lightA; first | (rw [decide_eq_false (by omega)]; rfl) | (rw [decide_eq_true (by omega), all_up (by omega) HA]; rfl) | (rw [all_hit hx1 (show lightA1 _ = false from by unfold lightA1; simp; omega)]; simp) | (rw [all_hit hx1 (show lightA1 _ = false from by unfold lightA1; simp_all)]; simp))))
  · refine R.q (q.gtr rfl rfl (decide_eq_false (by omega))) rfl <| R.nil ?_
    refine R.condF rfl rfl ?_
    refine R.reg rfl <| R.u 1 rfl <| R.nil ?_
    refine R.loop (fun k : Nat => [(0, v_l), (5, .int .i64 (k : Int))]) (fun k : Nat => []) (fun k : Nat => [Res.acts l, Res.ls v_l (l : List Deed)]) (fun k : Nat => k ≤ l.length ∧ (l.take k).all lightA1 = true) (fun k : Nat => l.length - k) 0 rfl (by exact ⟨by omega, rfl⟩) ⟨rfl, rfl, trivial⟩ (fun _ => Wd.pick [] [0, 1] rfl rfl rfl) ?_
    rintro k ⟨hk, HA⟩
    refine R.reg rfl <| R.u 2 rfl <| R.q (q.len' (fun _ => Wd.fls 1 rfl) rfl Try.underlying36) rfl <| ?_
    by_cases h2 : k < l.length
    · refine R.q (q.lss rfl rfl (decide_eq_true (by omega))) rfl <| R.nil ?_
      refine R.condT rfl rfl ?_
      refine R.reg rfl <| R.u 2 rfl <| ?_
      obtain ⟨x1, hx1⟩ : ∃ z, l[k]? = some z := ⟨_, List.getElem?_eq_getElem (by omega)⟩
      refine R.q (q.idx (i := k) (fun _ => Wd.fls 1 rfl) rfl rfl tSl_36 rfl hx1) rfl <| R.q (q.fldE (j' := 1) (fun _ => Wd.fls 1 rfl) hx1 rfl tFld_51_1 rfl) rfl <| R.q (q.ldE (fun _ => Wd.fls 1 rfl) hx1 rfl tOne_9 rfl) rfl <| R.q (q.lenS rfl Try.underlying9) rfl <| ?_
      by_cases h3 : 100 < x1.S.size
      · refine R.q (q.gtr rfl rfl (decide_eq_true (by omega))) rfl <| R.u 9 rfl <| R.nil ?_
        refine R.condT rfl rfl ?_
        refine R.reg rfl <| R.u 1 rfl <| R.nil ?_
        exact R.rv rfl Try.results23 rfl (rB (by (unfold lightA; first | (rw [decide_eq_false (by omega)]; rfl) | (rw [decide_eq_true (by omega), all_up (by omega) HA]; rfl) | (rw [all_hit hx1 (show lightA1 _ = false from by unfold lightA1; simp; omega)]; simp) | (rw [all_hit hx1 (show lightA1 _ = false from by unfold lightA1; simp_all)]; simp))))
      · refine R.q (q.gtr rfl rfl (decide_eq_false (by omega))) rfl <| R.u 3 rfl <| R.qg rfl (q.idx (i := k) (fun _ => Wd.fls 1 rfl) rfl rfl tSl_36 rfl hx1) rfl <| R.qg rfl (q.fldE (j' := 10) (fun _ => Wd.fls 1 rfl) hx1 rfl tFld_51_8 rfl) rfl <| R.qg rfl (q.ldE (fun _ => Wd.fls 1 rfl) hx1 rfl tOne_49 rfl) rfl <| ?_
        rcases Bool.eq_false_or_eq_true (lightC x1.Changes 70) with h4 | h4
        · refine R.cg rfl (q.call eg_46 rfl rfl (fun w hw => (cv (congrArg Value.bool h4) (lightC_any _ (x1.Changes) (70) w ((fun _ => Wd.actX (l := l) 0 rfl (List.mem_of_getElem? hx1)) w hw) )))) rfl <| R.u 2 rfl <| R.nil ?_
          refine R.condF rfl rfl ?_
          refine R.reg rfl <| R.u 1 rfl <| R.q (q.add (r := ((k + 1 : Nat) : Int)) rfl rfl (wr (by omega))) rfl <| R.u 1 rfl <| R.nil ?_
          refine R.back (k + 1) rfl (by (exact ⟨by omega, all_snoc hx1 HA (by unfold lightA1; simp_all)⟩)) (by omega) ⟨rfl, rfl, trivial⟩ (fun _ => Wd.pik [] [0, 1] rfl rfl rfl)
        · refine R.cg rfl (q.call eg_46 rfl rfl (fun w hw => (cv (congrArg Value.bool h4) (lightC_any _ (x1.Changes) (70) w ((fun _ => Wd.actX (l := l) 0 rfl (List.mem_of_getElem? hx1)) w hw) )))) rfl <| R.u 2 rfl <| R.nil ?_
          refine R.condT rfl rfl ?_
          refine R.reg rfl <| R.u 1 rfl <| R.nil ?_
          exact R.rv rfl Try.results23 rfl (rB (by (unfold lightA; first | (rw [decide_eq_false (by omega)]; rfl) | (rw [decide_eq_true (by omega), all_up (by omega) HA]; rfl) | (rw [all_hit hx1 (show lightA1 _ = false from by unfold lightA1; simp; omega)]; simp) | (rw [all_hit hx1 (show lightA1 _ = false from by unfold lightA1; simp_all)]; simp))))
    · refine R.q (q.lss rfl rfl (decide_eq_false (by omega))) rfl <| R.nil ?_
      refine R.condF rfl rfl ?_
      refine R.reg rfl <| R.u 1 rfl <| R.nil ?_
      exact R.rv rfl Try.results23 rfl (rB (by (unfold lightA; first | (rw [decide_eq_false (by omega)]; rfl) | (rw [decide_eq_true (by omega), all_up (by omega) HA]; rfl) | (rw [all_hit hx1 (show lightA1 _ = false from by unfold lightA1; simp; omega)]; simp) | (rw [all_hit hx1 (show lightA1 _ = false from by unfold lightA1; simp_all)]; simp))))

theorem same_any (err : Int) (f : Int) (w : World) (h0 : 0 ≤ err) : Calls Try.prog 16 #[errv err, .int .i64 f] w fun e w' => e = .returned (.bool (decide (err = f))) ∧ Ext w w' := by
  refine R.enter (n := 26) (vs := [errv err, .int .i64 f]) [] [(0, errv err), (1, .int .i64 f)] Try.func16 rfl rfl rfl rfl ?_
  refine R.reg rfl <| R.u 1 rfl <| R.nil ?_
  refine R.reg rfl <| R.u 1 rfl <| ?_
  by_cases h1 : err = 0
  · refine R.q (q.eqlE0 rfl rfl Try.underlying26 (by omega)) rfl <| R.nil ?_
    refine R.condT rfl rfl ?_
    refine R.reg rfl <| R.u 1 rfl <| ?_
    by_cases h2 : f = 0
    · refine R.q (q.eql rfl rfl (beq_iff_eq.2 (by omega))) rfl <| R.u 1 rfl <| R.nil ?_
      exact R.rv rfl Try.results16 rfl (rB (by (first | exact (decide_eq_true (by omega)).symm | exact (decide_eq_false (by omega)).symm)))
    · refine R.q (q.eql rfl rfl (beq_eq_false_iff_ne.2 (by omega))) rfl <| R.u 1 rfl <| R.nil ?_
      exact R.rv rfl Try.results16 rfl (rB (by (first | exact (decide_eq_true (by omega)).symm | exact (decide_eq_false (by omega)).symm)))
  · refine R.q (q.eqlE1 rfl rfl Try.underlying26 (by omega)) rfl <| R.nil ?_
    refine R.condF rfl rfl ?_
    refine R.reg rfl <| R.u 1 rfl <| R.q (q.tasE rfl (by omega) Try.underlying119) rfl <| R.u 5 rfl <| R.nil ?_
    refine R.reg rfl <| R.u 3 rfl <| ?_
    by_cases h3 : 0 < f
    · refine R.qg rfl (q.gtr rfl rfl (decide_eq_true (by omega))) rfl <| R.u 4 rfl <| ?_
      by_cases h4 : err = f
      · refine R.qg rfl (q.eql rfl rfl (beq_iff_eq.2 (by omega))) rfl <| R.u 2 rfl <| R.nil ?_
        exact R.rv rfl Try.results16 rfl (rB (by (first | exact (decide_eq_true (by omega)).symm | exact (decide_eq_false (by omega)).symm)))
      · refine R.qg rfl (q.eql rfl rfl (beq_eq_false_iff_ne.2 (by omega))) rfl <| R.u 2 rfl <| R.nil ?_
        exact R.rv rfl Try.results16 rfl (rB (by (first | exact (decide_eq_true (by omega)).symm | exact (decide_eq_false (by omega)).symm)))
    · refine R.qg rfl (q.gtr rfl rfl (decide_eq_false (by omega))) rfl <| R.u 7 rfl <| R.nil ?_
      exact R.rv rfl Try.results16 rfl (rB (by (first | exact (decide_eq_true (by omega)).symm | exact (decide_eq_false (by omega)).symm)))

theorem spin_0 : DOk 3 0 (dNew (Int.toNat 3)) := dNew_ok 3
theorem spin_1 : DOk 3 1 (dWrite (dNew (Int.toNat 3)) 1 (⟨#[120, 121]⟩)).1 := spin_0.write _ _
theorem spin_2 : DOk 3 1 (dFlush ((dWrite (dNew (Int.toNat 3)) 1 (⟨#[120, 121]⟩)).1)).1 := spin_1.flush
theorem spin_3 : DOk 3 0 (dRestart ((dFlush ((dWrite (dNew (Int.toNat 3)) 1 (⟨#[120, 121]⟩)).1)).1) 0) := spin_2.restart 0
theorem spin_4 : (dWrite (dNew (Int.toNat 3)) 1 (⟨#[120, 121]⟩)).2 = 0 := by decide +kernel
theorem spin_5 : (dFlush ((dWrite (dNew (Int.toNat 3)) 1 (⟨#[120, 121]⟩)).1)).2 = 0 := by decide +kernel
theorem spin_6 : (dRead (dRestart ((dFlush ((dWrite (dNew (Int.toNat 3)) 1 (⟨#[120, 121]⟩)).1)).1) 0) 1).2 = 0 := by decide +kernel
theorem spin_7 : (dRead (dRestart ((dFlush ((dWrite (dNew (Int.toNat 3)) 1 (⟨#[120, 121]⟩)).1)).1) 0) 1).1.size = 48 := by decide +kernel
theorem spin_8 : (dRead (dRestart ((dFlush ((dWrite (dNew (Int.toNat 3)) 1 (⟨#[120, 121]⟩)).1)).1) 0) 1).1.extract 0 2 = ⟨#[120, 121]⟩ := by decide +kernel
theorem spin_9 : (dRestart ((dFlush ((dWrite (dNew (Int.toNat 3)) 1 (⟨#[120, 121]⟩)).1)).1) 0).Now.length = 3 := by decide +kernel

theorem spins_any  (w : World)  : Calls Try.prog 22 #[] w fun e w' => e = .returned (.bool true) ∧ Ext w w' := by
  have p0 := spin_0.fine (by decide) (by decide); have p1 := spin_1.fine (by decide) (by decide); have p2 := spin_2.rest (by decide); have p3 := spin_3.fine (by decide) (by decide); have k4 := spin_4; have k5 := spin_5; have k6 := spin_6; have k7 := spin_7; have k8 := spin_8; have k9 := spin_9; have j4 := decide_eq_true k4; have j5 := decide_eq_true k5; have j6 := decide_eq_true k6
  refine R.enter (n := 53) (vs := []) [] [] Try.func22 rfl rfl rfl rfl ?_
  refine R.reg rfl <| R.u 1 rfl <| R.nil ?_
  refine R.reg rfl <| ?_
  refine R.s (B' := (fun g_ : Nat × Value × Value × Value => [Res.box g_.1 [g_.2.1, g_.2.2.1, g_.2.2.2, .int .i64 (((dNew (Int.toNat 3))).Fuse), .bool (((dNew (Int.toNat 3))).Down)] 128, Res.row 9 g_.2.1 (((dNew (Int.toNat 3))).Kept : List ByteArray), Res.row 9 g_.2.2.1 (((dNew (Int.toNat 3))).Now : List ByteArray), Res.row 130 g_.2.2.2 (((dNew (Int.toNat 3))).Wait : List Turn)])) (F' := (fun g_ : Nat × Value × Value × Value => [])) rfl (s.callV (B0 := []) (Br := []) (F0 := []) [] [] (fun g_ : Nat × Value × Value × Value => .tuple #[.pointer (some ⟨g_.1, 0, none⟩), .nilIface]) (fun g_ : Nat × Value × Value × Value => [Res.box g_.1 [g_.2.1, g_.2.2.1, g_.2.2.2, .int .i64 (((dNew (Int.toNat 3))).Fuse), .bool (((dNew (Int.toNat 3))).Down)] 128, Res.row 9 g_.2.1 (((dNew (Int.toNat 3))).Kept : List ByteArray), Res.row 9 g_.2.2.1 (((dNew (Int.toNat 3))).Now : List ByteArray), Res.row 130 g_.2.2.2 (((dNew (Int.toNat 3))).Wait : List Turn)]) (fun g_ : Nat × Value × Value × Value => []) rfl rfl rfl eg_24 rfl rfl (fun w own hw H => newD_any (3) w own H (by first | omega | assumption)) rfl) ?_
  rintro ⟨z1, z2, z3, z4⟩
  dsimp only
  refine R.u 5 rfl <| R.nil ?_
  refine R.reg rfl <| R.u 1 rfl <| R.q (q.neqNN rfl rfl Try.underlying26) rfl <| R.u 2 rfl <| R.qg rfl (q.eqlP rfl rfl Try.underlying39) rfl <| R.u 1 rfl <| R.nil ?_
  refine R.condF rfl rfl ?_
  refine R.reg rfl <| R.u 1 rfl <| ?_
  refine R.s (B' := (fun g_ : Value × Value × Value => [Res.box z1 [g_.1, g_.2.1, g_.2.2, .int .i64 ((((dWrite (dNew (Int.toNat 3)) 1 (⟨#[120, 121]⟩))).1).Fuse), .bool ((((dWrite (dNew (Int.toNat 3)) 1 (⟨#[120, 121]⟩))).1).Down)] 128, Res.row 9 g_.1 ((((dWrite (dNew (Int.toNat 3)) 1 (⟨#[120, 121]⟩))).1).Kept : List ByteArray), Res.row 9 g_.2.1 ((((dWrite (dNew (Int.toNat 3)) 1 (⟨#[120, 121]⟩))).1).Now : List ByteArray), Res.row 130 g_.2.2 ((((dWrite (dNew (Int.toNat 3)) 1 (⟨#[120, 121]⟩))).1).Wait : List Turn)])) (F' := (fun g_ : Value × Value × Value => [])) rfl (s.callV (B0 := [Res.box z1 [z2, z3, z4, .int .i64 ((dNew (Int.toNat 3)).Fuse), .bool ((dNew (Int.toNat 3)).Down)] 128, Res.row 9 z2 ((dNew (Int.toNat 3)).Kept : List ByteArray), Res.row 9 z3 ((dNew (Int.toNat 3)).Now : List ByteArray), Res.row 130 z4 ((dNew (Int.toNat 3)).Wait : List Turn)]) (Br := []) (F0 := []) [0, 1, 2, 3] [] (fun g_ : Value × Value × Value => errv (((dWrite (dNew (Int.toNat 3)) 1 (⟨#[120, 121]⟩))).2)) (fun g_ : Value × Value × Value => [Res.box z1 [g_.1, g_.2.1, g_.2.2, .int .i64 ((((dWrite (dNew (Int.toNat 3)) 1 (⟨#[120, 121]⟩))).1).Fuse), .bool ((((dWrite (dNew (Int.toNat 3)) 1 (⟨#[120, 121]⟩))).1).Down)] 128, Res.row 9 g_.1 ((((dWrite (dNew (Int.toNat 3)) 1 (⟨#[120, 121]⟩))).1).Kept : List ByteArray), Res.row 9 g_.2.1 ((((dWrite (dNew (Int.toNat 3)) 1 (⟨#[120, 121]⟩))).1).Now : List ByteArray), Res.row 130 g_.2.2 ((((dWrite (dNew (Int.toNat 3)) 1 (⟨#[120, 121]⟩))).1).Wait : List Turn)]) (fun g_ : Value × Value × Value => []) rfl rfl rfl eg_27 rfl rfl (fun w own hw H => dWrite_any z1 z2 z3 z4 ((dNew (Int.toNat 3))) (1) (⟨#[120, 121]⟩) w own H (by first | assumption | omega)) rfl) ?_
  rintro ⟨z5, z6, z7⟩
  dsimp only
  refine R.u 1 rfl <| R.nil ?_
  refine R.reg rfl <| R.u 1 rfl <| ?_
  refine R.s (B' := (fun g_ : Value × Value × Value => [Res.box z1 [g_.1, g_.2.1, g_.2.2, .int .i64 ((((dFlush ((dWrite (dNew (Int.toNat 3)) 1 (⟨#[120, 121]⟩)).1))).1).Fuse), .bool ((((dFlush ((dWrite (dNew (Int.toNat 3)) 1 (⟨#[120, 121]⟩)).1))).1).Down)] 128, Res.row 9 g_.1 ((((dFlush ((dWrite (dNew (Int.toNat 3)) 1 (⟨#[120, 121]⟩)).1))).1).Kept : List ByteArray), Res.row 9 g_.2.1 ((((dFlush ((dWrite (dNew (Int.toNat 3)) 1 (⟨#[120, 121]⟩)).1))).1).Now : List ByteArray), Res.row 130 g_.2.2 ((((dFlush ((dWrite (dNew (Int.toNat 3)) 1 (⟨#[120, 121]⟩)).1))).1).Wait : List Turn)])) (F' := (fun g_ : Value × Value × Value => [])) rfl (s.callV (B0 := [Res.box z1 [z5, z6, z7, .int .i64 (((dWrite (dNew (Int.toNat 3)) 1 (⟨#[120, 121]⟩)).1).Fuse), .bool (((dWrite (dNew (Int.toNat 3)) 1 (⟨#[120, 121]⟩)).1).Down)] 128, Res.row 9 z5 (((dWrite (dNew (Int.toNat 3)) 1 (⟨#[120, 121]⟩)).1).Kept : List ByteArray), Res.row 9 z6 (((dWrite (dNew (Int.toNat 3)) 1 (⟨#[120, 121]⟩)).1).Now : List ByteArray), Res.row 130 z7 (((dWrite (dNew (Int.toNat 3)) 1 (⟨#[120, 121]⟩)).1).Wait : List Turn)]) (Br := []) (F0 := []) [0, 1, 2, 3] [] (fun g_ : Value × Value × Value => errv (((dFlush ((dWrite (dNew (Int.toNat 3)) 1 (⟨#[120, 121]⟩)).1))).2)) (fun g_ : Value × Value × Value => [Res.box z1 [g_.1, g_.2.1, g_.2.2, .int .i64 ((((dFlush ((dWrite (dNew (Int.toNat 3)) 1 (⟨#[120, 121]⟩)).1))).1).Fuse), .bool ((((dFlush ((dWrite (dNew (Int.toNat 3)) 1 (⟨#[120, 121]⟩)).1))).1).Down)] 128, Res.row 9 g_.1 ((((dFlush ((dWrite (dNew (Int.toNat 3)) 1 (⟨#[120, 121]⟩)).1))).1).Kept : List ByteArray), Res.row 9 g_.2.1 ((((dFlush ((dWrite (dNew (Int.toNat 3)) 1 (⟨#[120, 121]⟩)).1))).1).Now : List ByteArray), Res.row 130 g_.2.2 ((((dFlush ((dWrite (dNew (Int.toNat 3)) 1 (⟨#[120, 121]⟩)).1))).1).Wait : List Turn)]) (fun g_ : Value × Value × Value => []) rfl rfl rfl eg_31 rfl rfl (fun w own hw H => dFlush_any z1 z5 z6 z7 (((dWrite (dNew (Int.toNat 3)) 1 (⟨#[120, 121]⟩)).1)) w own H (by first | assumption | omega)) rfl) ?_
  rintro ⟨z8, z9, z10⟩
  dsimp only
  refine R.u 1 rfl <| R.nil ?_
  refine R.reg rfl <| R.u 1 rfl <| ?_
  refine R.s (B' := (fun g_ : Value × Value × Value => [Res.box z1 [g_.1, g_.2.1, g_.2.2, .int .i64 (((dRestart ((dFlush ((dWrite (dNew (Int.toNat 3)) 1 (⟨#[120, 121]⟩)).1)).1) 0)).Fuse), .bool (((dRestart ((dFlush ((dWrite (dNew (Int.toNat 3)) 1 (⟨#[120, 121]⟩)).1)).1) 0)).Down)] 128, Res.row 9 g_.1 (((dRestart ((dFlush ((dWrite (dNew (Int.toNat 3)) 1 (⟨#[120, 121]⟩)).1)).1) 0)).Kept : List ByteArray), Res.row 9 g_.2.1 (((dRestart ((dFlush ((dWrite (dNew (Int.toNat 3)) 1 (⟨#[120, 121]⟩)).1)).1) 0)).Now : List ByteArray), Res.row 130 g_.2.2 (((dRestart ((dFlush ((dWrite (dNew (Int.toNat 3)) 1 (⟨#[120, 121]⟩)).1)).1) 0)).Wait : List Turn)])) (F' := (fun g_ : Value × Value × Value => [])) rfl (s.callV (B0 := [Res.box z1 [z8, z9, z10, .int .i64 (((dFlush ((dWrite (dNew (Int.toNat 3)) 1 (⟨#[120, 121]⟩)).1)).1).Fuse), .bool (((dFlush ((dWrite (dNew (Int.toNat 3)) 1 (⟨#[120, 121]⟩)).1)).1).Down)] 128, Res.row 9 z8 (((dFlush ((dWrite (dNew (Int.toNat 3)) 1 (⟨#[120, 121]⟩)).1)).1).Kept : List ByteArray), Res.row 9 z9 (((dFlush ((dWrite (dNew (Int.toNat 3)) 1 (⟨#[120, 121]⟩)).1)).1).Now : List ByteArray), Res.row 130 z10 (((dFlush ((dWrite (dNew (Int.toNat 3)) 1 (⟨#[120, 121]⟩)).1)).1).Wait : List Turn)]) (Br := []) (F0 := []) [0, 1, 2, 3] [] (fun g_ : Value × Value × Value => .tuple #[]) (fun g_ : Value × Value × Value => [Res.box z1 [g_.1, g_.2.1, g_.2.2, .int .i64 (((dRestart ((dFlush ((dWrite (dNew (Int.toNat 3)) 1 (⟨#[120, 121]⟩)).1)).1) 0)).Fuse), .bool (((dRestart ((dFlush ((dWrite (dNew (Int.toNat 3)) 1 (⟨#[120, 121]⟩)).1)).1) 0)).Down)] 128, Res.row 9 g_.1 (((dRestart ((dFlush ((dWrite (dNew (Int.toNat 3)) 1 (⟨#[120, 121]⟩)).1)).1) 0)).Kept : List ByteArray), Res.row 9 g_.2.1 (((dRestart ((dFlush ((dWrite (dNew (Int.toNat 3)) 1 (⟨#[120, 121]⟩)).1)).1) 0)).Now : List ByteArray), Res.row 130 g_.2.2 (((dRestart ((dFlush ((dWrite (dNew (Int.toNat 3)) 1 (⟨#[120, 121]⟩)).1)).1) 0)).Wait : List Turn)]) (fun g_ : Value × Value × Value => []) rfl rfl rfl eg_34 rfl rfl (fun w own hw H => dRestart_any z1 z8 z9 z10 (((dFlush ((dWrite (dNew (Int.toNat 3)) 1 (⟨#[120, 121]⟩)).1)).1)) (0) w own H (by first | assumption | omega) (by first | assumption | omega)) rfl) ?_
  rintro ⟨z11, z12, z13⟩
  dsimp only
  refine R.nil ?_
  refine R.reg rfl <| R.u 1 rfl <| R.c (q.call eg_29 rfl rfl (fun w hw => (dRead_any z1 z11 z12 z13 ((dRestart ((dFlush ((dWrite (dNew (Int.toNat 3)) 1 (⟨#[120, 121]⟩)).1)).1) 0)) (1) w (hw.b 0 rfl) ((fun _ => Wd.row 1 rfl) w hw) ((fun _ => Wd.row 2 rfl) w hw) ((fun _ => Wd.row 3 rfl) w hw) ))) rfl <| R.u 5 rfl <| R.nil ?_
  refine R.reg rfl <| R.u 1 rfl <| R.c (q.call eg_16 rfl rfl (fun w hw => (cv (congrArg Value.bool j4) (same_any ((dWrite (dNew (Int.toNat 3)) 1 (⟨#[120, 121]⟩)).2) (0) w  (by first | omega | decide | assumption))))) rfl <| R.u 2 rfl <| R.cg rfl (q.call eg_16 rfl rfl (fun w hw => (cv (congrArg Value.bool j5) (same_any ((dFlush ((dWrite (dNew (Int.toNat 3)) 1 (⟨#[120, 121]⟩)).1)).2) (0) w  (by first | omega | decide | assumption))))) rfl <| R.u 3 rfl <| R.cg rfl (q.call eg_16 rfl rfl (fun w hw => (cv (congrArg Value.bool j6) (same_any ((dRead (dRestart ((dFlush ((dWrite (dNew (Int.toNat 3)) 1 (⟨#[120, 121]⟩)).1)).1) 0) 1).2) (0) w  (by first | omega | decide | assumption))))) rfl <| R.u 3 rfl <| R.qg rfl (q.lenS rfl Try.underlying9) rfl <| R.qg rfl (q.eql rfl rfl (beq_iff_eq.2 (by omega))) rfl <| R.u 3 rfl <| R.qg rfl (q.sTo (i := 2) rfl rfl Try.underlying9 rfl (by omega)) rfl <| R.qg rfl (q.eqlS1 rfl rfl ‹_›) rfl <| R.u 3 rfl <| R.cg rfl (q.call eg_26 rfl rfl (fun w hw => (dSectors_any z1 z11 z12 z13 ((dRestart ((dFlush ((dWrite (dNew (Int.toNat 3)) 1 (⟨#[120, 121]⟩)).1)).1) 0)) w (hw.b 0 rfl) ((fun _ => Wd.row 1 rfl) w hw) ((fun _ => Wd.row 2 rfl) w hw) ((fun _ => Wd.row 3 rfl) w hw) ))) rfl <| R.qg rfl (q.eql rfl rfl (beq_iff_eq.2 (by omega))) rfl <| R.u 2 rfl <| R.nil ?_
  exact R.rv rfl Try.results22 rfl (rB (by (rfl)))

set_option maxRecDepth 100000 in
theorem diskSays_any (sectors : Int) (v_l : Value) (l : List Deed) (w : World) (s_l : Sl w v_l l) (c_l : ∀ x ∈ l, Sl w x.cv x.Changes) (hF : ∀ a ∈ l, a.N ≤ 9223372036854775807 ∧ 0 ≤ a.K ∧ a.K ≤ 18446744073709551615) : Calls Try.prog 4 #[.int .i64 sectors, v_l] w fun e w' => e = .returned (.bool true) ∧ Ext w w' := by
  have b_l := s_l.lenle
  refine R.enter (n := 177) (vs := [.int .i64 sectors, v_l]) [] [(0, .int .i64 sectors), (1, v_l)] Try.func4 rfl rfl rfl rfl ?_
  refine R.oldL s_l ?_
  refine R.oldF (r := Res.acts l) c_l (acts_lt c_l) ?_
  refine R.reg rfl <| R.u 1 rfl <| R.nil ?_
  refine R.reg rfl <| R.c (q.call eg_22 rfl rfl (fun w hw => (spins_any  w  ))) rfl <| R.u 1 rfl <| R.nil ?_
  refine R.reg rfl <| R.u 4 rfl <| ?_
  rcases Bool.eq_false_or_eq_true (lightA l 80) with h1 | h1
  · refine R.cg rfl (q.call eg_23 rfl rfl (fun w hw => (cv (congrArg Value.bool h1) (lightA_any _ (l) (80) w ((fun _ => Wd.fls 1 rfl) w hw) (hw.acts 0 rfl) )))) rfl <| R.u 2 rfl <| R.nil ?_
    refine R.condF rfl rfl ?_
    refine R.reg rfl <| R.u 1 rfl <| ?_
    by_cases h2 : 1 ≤ sectors ∧ sectors ≤ 200
    · refine R.s (B' := (fun g_ : Nat × Value × Value × Value => [Res.box g_.1 [g_.2.1, g_.2.2.1, g_.2.2.2, .int .i64 (((dNew (Int.toNat sectors))).Fuse), .bool (((dNew (Int.toNat sectors))).Down)] 128, Res.row 9 g_.2.1 (((dNew (Int.toNat sectors))).Kept : List ByteArray), Res.row 9 g_.2.2.1 (((dNew (Int.toNat sectors))).Now : List ByteArray), Res.row 130 g_.2.2.2 (((dNew (Int.toNat sectors))).Wait : List Turn)])) (F' := (fun g_ : Nat × Value × Value × Value => [Res.acts l, Res.ls v_l (l : List Deed)])) rfl (s.callV (B0 := []) (Br := []) (F0 := []) [] [] (fun g_ : Nat × Value × Value × Value => .tuple #[.pointer (some ⟨g_.1, 0, none⟩), .nilIface]) (fun g_ : Nat × Value × Value × Value => [Res.box g_.1 [g_.2.1, g_.2.2.1, g_.2.2.2, .int .i64 (((dNew (Int.toNat sectors))).Fuse), .bool (((dNew (Int.toNat sectors))).Down)] 128, Res.row 9 g_.2.1 (((dNew (Int.toNat sectors))).Kept : List ByteArray), Res.row 9 g_.2.2.1 (((dNew (Int.toNat sectors))).Now : List ByteArray), Res.row 130 g_.2.2.2 (((dNew (Int.toNat sectors))).Wait : List Turn)]) (fun g_ : Nat × Value × Value × Value => []) rfl rfl rfl eg_24 rfl rfl (fun w own hw H => newD_any (sectors) w own H (by first | omega | assumption)) rfl) ?_
      rintro ⟨z1, z2, z3, z4⟩
      dsimp only
      refine R.u 5 rfl <| R.nil ?_
      refine R.reg rfl <| R.u 1 rfl <| ?_
      refine R.s (B' := (fun g_ : Nat × Value × Value × Value => [Res.box g_.1 [g_.2.1, g_.2.2.1, g_.2.2.2, .int .i64 (((dNew (Int.toNat sectors))).Fuse), .bool (((dNew (Int.toNat sectors))).Down)] 63, Res.row 9 g_.2.1 (((dNew (Int.toNat sectors))).Kept : List ByteArray), Res.row 9 g_.2.2.1 (((dNew (Int.toNat sectors))).Now : List ByteArray), Res.row 132 g_.2.2.2 (((dNew (Int.toNat sectors))).Wait : List Turn), Res.box z1 [z2, z3, z4, .int .i64 ((dNew (Int.toNat sectors)).Fuse), .bool ((dNew (Int.toNat sectors)).Down)] 128, Res.row 9 z2 ((dNew (Int.toNat sectors)).Kept : List ByteArray), Res.row 9 z3 ((dNew (Int.toNat sectors)).Now : List ByteArray), Res.row 130 z4 ((dNew (Int.toNat sectors)).Wait : List Turn)])) (F' := (fun g_ : Nat × Value × Value × Value => [Res.acts l, Res.ls v_l (l : List Deed)])) rfl (s.callV (B0 := []) (Br := [Res.box z1 [z2, z3, z4, .int .i64 ((dNew (Int.toNat sectors)).Fuse), .bool ((dNew (Int.toNat sectors)).Down)] 128, Res.row 9 z2 ((dNew (Int.toNat sectors)).Kept : List ByteArray), Res.row 9 z3 ((dNew (Int.toNat sectors)).Now : List ByteArray), Res.row 130 z4 ((dNew (Int.toNat sectors)).Wait : List Turn)]) (F0 := []) [0, 1, 2, 3] [] (fun g_ : Nat × Value × Value × Value => .tuple #[.pointer (some ⟨g_.1, 0, none⟩), .int .i64 0]) (fun g_ : Nat × Value × Value × Value => [Res.box g_.1 [g_.2.1, g_.2.2.1, g_.2.2.2, .int .i64 (((dNew (Int.toNat sectors))).Fuse), .bool (((dNew (Int.toNat sectors))).Down)] 63, Res.row 9 g_.2.1 (((dNew (Int.toNat sectors))).Kept : List ByteArray), Res.row 9 g_.2.2.1 (((dNew (Int.toNat sectors))).Now : List ByteArray), Res.row 132 g_.2.2.2 (((dNew (Int.toNat sectors))).Wait : List Turn)]) (fun g_ : Nat × Value × Value × Value => []) rfl rfl rfl eg_25 rfl rfl (fun w own hw H => newDR_any (sectors) w own H (by first | omega | assumption)) rfl) ?_
      rintro ⟨z5, z6, z7, z8⟩
      dsimp only
      refine R.u 5 rfl <| R.nil ?_
      refine R.reg rfl <| R.u 1 rfl <| R.q (q.gtr (b := false) rfl rfl (by decide)) rfl <| R.nil ?_
      refine R.condF rfl rfl ?_
      have hll := lightA_len (l := l) (most := 80) (by assumption); have hnl0 : ((dNew (Int.toNat sectors)).Now.length : Int) = sectors := by simp [dNew]; omega
      refine R.reg rfl <| R.u 1 rfl <| R.q (q.neqNN rfl rfl Try.underlying26) rfl <| R.u 2 rfl <| R.qg rfl (q.eqlP rfl rfl Try.underlying39) rfl <| R.u 3 rfl <| R.cg rfl (q.call eg_26 rfl rfl (fun w hw => (dSectors_any z1 z2 z3 z4 ((dNew (Int.toNat sectors))) w (hw.b 4 rfl) ((fun _ => Wd.row 5 rfl) w hw) ((fun _ => Wd.row 6 rfl) w hw) ((fun _ => Wd.row 7 rfl) w hw) ))) rfl <| R.u 1 rfl <| R.qg rfl (q.neq rfl rfl (bne_eq_false_iff_eq.2 (by omega))) rfl <| R.u 1 rfl <| R.nil ?_
      refine R.condF rfl rfl ?_
      refine R.reg rfl <| R.u 1 rfl <| R.nil ?_
      refine R.loop (fun g_ : Nat × Dsk × Value × Value × Value × Dsk × Value × Value × Value => [(0, .int .i64 sectors), (1, v_l), (6, .pointer (some ⟨z1, 0, none⟩)), (8, .pointer (some ⟨z5, 0, none⟩)), (10, .int .i64 (g_.1 : Int))]) (fun g_ : Nat × Dsk × Value × Value × Value × Dsk × Value × Value × Value => [Res.box z5 [g_.2.2.2.2.2.2.1, g_.2.2.2.2.2.2.2.1, g_.2.2.2.2.2.2.2.2, .int .i64 g_.2.2.2.2.2.1.Fuse, .bool g_.2.2.2.2.2.1.Down] 63, Res.row 9 g_.2.2.2.2.2.2.1 (g_.2.2.2.2.2.1.Kept : List ByteArray), Res.row 9 g_.2.2.2.2.2.2.2.1 (g_.2.2.2.2.2.1.Now : List ByteArray), Res.row 132 g_.2.2.2.2.2.2.2.2 (g_.2.2.2.2.2.1.Wait : List Turn), Res.box z1 [g_.2.2.1, g_.2.2.2.1, g_.2.2.2.2.1, .int .i64 g_.2.1.Fuse, .bool g_.2.1.Down] 128, Res.row 9 g_.2.2.1 (g_.2.1.Kept : List ByteArray), Res.row 9 g_.2.2.2.1 (g_.2.1.Now : List ByteArray), Res.row 130 g_.2.2.2.2.1 (g_.2.1.Wait : List Turn)]) (fun g_ : Nat × Dsk × Value × Value × Value × Dsk × Value × Value × Value => [Res.acts l, Res.ls v_l (l : List Deed)]) (fun g_ : Nat × Dsk × Value × Value × Value × Dsk × Value × Value × Value => g_.1 ≤ l.length ∧ g_.2.1 = g_.2.2.2.2.2.1 ∧ DOk (Int.toNat sectors) g_.1 g_.2.1) (fun g_ : Nat × Dsk × Value × Value × Value × Dsk × Value × Value × Value => l.length - g_.1) (0, (dNew (Int.toNat sectors)), z2, z3, z4, (dNew (Int.toNat sectors)), z6, z7, z8) rfl (by exact ⟨by omega, rfl, dNew_ok _⟩) ⟨rfl, rfl, rfl, rfl, rfl, trivial⟩ (fun _ => Wd.pick [0, 1, 2, 3, 4, 5, 6, 7] [0, 1] rfl rfl rfl) ?_
      rintro ⟨i, dm, dm_Kept, dm_Now, dm_Wait, rm, rm_Kept, rm_Now, rm_Wait⟩ ⟨hi, HE, hO⟩
      dsimp only at *
      have hR : DOk (Int.toNat sectors) i rm := HE ▸ hO; have p1 := hO.fine (by omega) (by omega); have p2 := hR.fine (by omega) (by omega); have p3 := hO.rest (by omega); have p4 := hR.rest2 (by omega) (by omega); have hnl := hO.nl; have hnr := hR.nl
      refine R.reg rfl <| R.u 2 rfl <| R.q (q.len' (fun _ => Wd.fls 1 rfl) rfl Try.underlying36) rfl <| ?_
      by_cases h3 : i < l.length
      · refine R.q (q.lss rfl rfl (decide_eq_true (by omega))) rfl <| R.nil ?_
        refine R.condT rfl rfl ?_
        refine R.reg rfl <| R.u 2 rfl <| ?_
        obtain ⟨x1, hx1⟩ : ∃ z, l[i]? = some z := ⟨_, List.getElem?_eq_getElem (by omega)⟩
        obtain ⟨nx1, kx1, mx1⟩ := hF x1 (List.mem_of_getElem? hx1); have qx1 := dWrite_nonneg dm x1.N x1.S; have rx1 := dFlush_nonneg dm; have sx1 := dRead_nonneg dm x1.N; have ex1 : (dRead dm x1.N).1 = (dRead rm x1.N).1 := by rw [HE]
        refine R.q (q.idx (i := i) (fun _ => Wd.fls 1 rfl) rfl rfl tSl_36 rfl hx1) rfl <| R.q (q.ldES (ds := [.string x1.Kind, .string x1.S, .int .i64 x1.P.Holder, .int .i64 x1.P.Slot, .int .i64 x1.Q.Holder, .int .i64 x1.Q.Slot, .int .i64 x1.A, .int .i64 x1.B, .int .i64 x1.N, .int .u64 x1.K, x1.cv]) (fun _ => Wd.fls 1 rfl) hx1 rfl tAgg_51 rfl) rfl <| ?_
        refine R.s rfl (s.alloc (cs := [.string (⟨#[]⟩), .string (⟨#[]⟩), .int .i64 0, .int .i64 0, .int .i64 0, .int .i64 0, .int .i64 0, .int .i64 0, .int .i64 0, .int .u64 0, .slice none 0 0]) tZero_51 rfl rfl) fun b1 => ?_
        refine R.s rfl (s.stV (us := [.string x1.Kind, .string x1.S, .int .i64 x1.P.Holder, .int .i64 x1.P.Slot, .int .i64 x1.Q.Holder, .int .i64 x1.Q.Slot, .int .i64 x1.A, .int .i64 x1.B, .int .i64 x1.N, .int .u64 x1.K, x1.cv]) (cs' := [.string x1.Kind, .string x1.S, .int .i64 x1.P.Holder, .int .i64 x1.P.Slot, .int .i64 x1.Q.Holder, .int .i64 x1.Q.Slot, .int .i64 x1.A, .int .i64 x1.B, .int .i64 x1.N, .int .u64 x1.K, x1.cv]) 0 _ rfl rfl rfl (fun _ _ => rfl) (.inl tAgg_51) (fun w hw => (one_cons rfl (one_cons rfl (one_cons rfl (one_cons rfl (one_cons rfl (one_cons rfl (one_cons rfl (one_cons rfl (one_cons rfl (one_cons rfl (one_cons (Sl.one ((fun _ => Wd.actX (l := l) 0 rfl (List.mem_of_getElem? hx1)) w hw)) one_nil)))))))))))) rfl rfl rfl) fun _ => ?_
        refine R.nil ?_
        refine R.reg rfl <| R.u 1 rfl <| R.nil ?_
        refine R.reg rfl <| R.q (q.fld (off' := 0) rfl tFld_51_0 rfl) rfl <| R.q (q.ld 0 rfl rfl tOne_9 rfl) rfl <| R.nil ?_
        refine R.reg rfl <| ?_
        by_cases h4 : x1.Kind = ⟨#[119, 114, 105, 116, 101]⟩
        · refine R.q (q.eqlS1 rfl rfl h4) rfl <| R.u 1 rfl <| R.nil ?_
          refine R.condT rfl rfl ?_
          refine R.regD (fuel := 14) (Wd w [] [Res.box b1 [.string x1.Kind, .string x1.S, .int .i64 x1.P.Holder, .int .i64 x1.P.Slot, .int .i64 x1.Q.Holder, .int .i64 x1.Q.Slot, .int .i64 x1.A, .int .i64 x1.B, .int .i64 x1.N, .int .u64 x1.K, x1.cv] 51] [Res.acts l, Res.ls v_l (l : List Deed)]) rfl mixed rfl ?_
          refine D.q (i := 0) rfl (by kernel_rfl) (fun _ => Wd.pik [0] [0, 1] rfl rfl rfl) rfl (q.mv rfl) rfl <| D.q (i := 1) rfl (by kernel_rfl) (fun _ => Wd.pik [0] [0, 1] rfl rfl rfl) rfl (q.fld (off' := 8) rfl tFld_51_6 rfl) rfl <| D.q (i := 2) rfl (by kernel_rfl) (fun _ => Wd.pik [0] [0, 1] rfl rfl rfl) rfl (q.ld 0 rfl rfl tOne_3 rfl) rfl <| D.q (i := 3) rfl (by kernel_rfl) (fun _ => Wd.pik [0] [0, 1] rfl rfl rfl) rfl (q.fld (off' := 1) rfl tFld_51_1 rfl) rfl <| D.q (i := 4) rfl (by kernel_rfl) (fun _ => Wd.pik [0] [0, 1] rfl rfl rfl) rfl (q.ld 0 rfl rfl tOne_9 rfl) rfl <| D.q (i := 6) rfl (by kernel_rfl) (fun _ => Wd.pik [0] [0, 1] rfl rfl rfl) rfl (q.mv rfl) rfl <| D.q (i := 7) rfl (by kernel_rfl) (fun _ => Wd.pik [0] [0, 1] rfl rfl rfl) rfl (q.fld (off' := 8) rfl tFld_51_6 rfl) rfl <| D.q (i := 8) rfl (by kernel_rfl) (fun _ => Wd.pik [0] [0, 1] rfl rfl rfl) rfl (q.ld 0 rfl rfl tOne_3 rfl) rfl <| D.q (i := 9) rfl (by kernel_rfl) (fun _ => Wd.pik [0] [0, 1] rfl rfl rfl) rfl (q.fld (off' := 1) rfl tFld_51_1 rfl) rfl <| D.q (i := 10) rfl (by kernel_rfl) (fun _ => Wd.pik [0] [0, 1] rfl rfl rfl) rfl (q.ld 0 rfl rfl tOne_9 rfl) rfl <| ?_
          refine D.one (i := 5) (by kernel_rfl) rfl ?_
          refine Do.s (B' := (fun g_ : Value × Value × Value => [Res.box z1 [g_.1, g_.2.1, g_.2.2, .int .i64 ((((dWrite dm x1.N x1.S)).1).Fuse), .bool ((((dWrite dm x1.N x1.S)).1).Down)] 128, Res.row 9 g_.1 ((((dWrite dm x1.N x1.S)).1).Kept : List ByteArray), Res.row 9 g_.2.1 ((((dWrite dm x1.N x1.S)).1).Now : List ByteArray), Res.row 130 g_.2.2 ((((dWrite dm x1.N x1.S)).1).Wait : List Turn), Res.box b1 [.string x1.Kind, .string x1.S, .int .i64 x1.P.Holder, .int .i64 x1.P.Slot, .int .i64 x1.Q.Holder, .int .i64 x1.Q.Slot, .int .i64 x1.A, .int .i64 x1.B, .int .i64 x1.N, .int .u64 x1.K, x1.cv] 51, Res.box z5 [rm_Kept, rm_Now, rm_Wait, .int .i64 rm.Fuse, .bool rm.Down] 63, Res.row 9 rm_Kept (rm.Kept : List ByteArray), Res.row 9 rm_Now (rm.Now : List ByteArray), Res.row 132 rm_Wait (rm.Wait : List Turn)])) (F' := (fun g_ : Value × Value × Value => [Res.acts l, Res.ls v_l (l : List Deed)])) (s.callV (B0 := [Res.box z1 [dm_Kept, dm_Now, dm_Wait, .int .i64 dm.Fuse, .bool dm.Down] 128, Res.row 9 dm_Kept (dm.Kept : List ByteArray), Res.row 9 dm_Now (dm.Now : List ByteArray), Res.row 130 dm_Wait (dm.Wait : List Turn)]) (Br := [Res.box b1 [.string x1.Kind, .string x1.S, .int .i64 x1.P.Holder, .int .i64 x1.P.Slot, .int .i64 x1.Q.Holder, .int .i64 x1.Q.Slot, .int .i64 x1.A, .int .i64 x1.B, .int .i64 x1.N, .int .u64 x1.K, x1.cv] 51, Res.box z5 [rm_Kept, rm_Now, rm_Wait, .int .i64 rm.Fuse, .bool rm.Down] 63, Res.row 9 rm_Kept (rm.Kept : List ByteArray), Res.row 9 rm_Now (rm.Now : List ByteArray), Res.row 132 rm_Wait (rm.Wait : List Turn)]) (F0 := []) [5, 6, 7, 8, 0, 1, 2, 3, 4] [] (fun g_ : Value × Value × Value => errv (((dWrite dm x1.N x1.S)).2)) (fun g_ : Value × Value × Value => [Res.box z1 [g_.1, g_.2.1, g_.2.2, .int .i64 ((((dWrite dm x1.N x1.S)).1).Fuse), .bool ((((dWrite dm x1.N x1.S)).1).Down)] 128, Res.row 9 g_.1 ((((dWrite dm x1.N x1.S)).1).Kept : List ByteArray), Res.row 9 g_.2.1 ((((dWrite dm x1.N x1.S)).1).Now : List ByteArray), Res.row 130 g_.2.2 ((((dWrite dm x1.N x1.S)).1).Wait : List Turn)]) (fun g_ : Value × Value × Value => []) rfl rfl rfl eg_27 rfl rfl (fun w own hw H => dWrite_any z1 dm_Kept dm_Now dm_Wait (dm) (x1.N) (x1.S) w own H (by first | assumption | omega)) rfl) (fun _ => (fun _ => Wd.pik [4] [0, 1] rfl rfl rfl)) rfl ?_
          rintro ⟨z15, z16, z17⟩
          dsimp only
          refine D.one (i := 11) (by kernel_rfl) rfl ?_
          refine Do.s (B' := (fun g_ : Value × Value × Value => [Res.box z5 [g_.1, g_.2.1, g_.2.2, .int .i64 ((((dWrite rm x1.N x1.S)).1).Fuse), .bool ((((dWrite rm x1.N x1.S)).1).Down)] 63, Res.row 9 g_.1 ((((dWrite rm x1.N x1.S)).1).Kept : List ByteArray), Res.row 9 g_.2.1 ((((dWrite rm x1.N x1.S)).1).Now : List ByteArray), Res.row 132 g_.2.2 ((((dWrite rm x1.N x1.S)).1).Wait : List Turn), Res.box z1 [z15, z16, z17, .int .i64 (((dWrite dm x1.N x1.S).1).Fuse), .bool (((dWrite dm x1.N x1.S).1).Down)] 128, Res.row 9 z15 (((dWrite dm x1.N x1.S).1).Kept : List ByteArray), Res.row 9 z16 (((dWrite dm x1.N x1.S).1).Now : List ByteArray), Res.row 130 z17 (((dWrite dm x1.N x1.S).1).Wait : List Turn), Res.box b1 [.string x1.Kind, .string x1.S, .int .i64 x1.P.Holder, .int .i64 x1.P.Slot, .int .i64 x1.Q.Holder, .int .i64 x1.Q.Slot, .int .i64 x1.A, .int .i64 x1.B, .int .i64 x1.N, .int .u64 x1.K, x1.cv] 51])) (F' := (fun g_ : Value × Value × Value => [Res.acts l, Res.ls v_l (l : List Deed)])) (s.callV (B0 := [Res.box z5 [rm_Kept, rm_Now, rm_Wait, .int .i64 rm.Fuse, .bool rm.Down] 63, Res.row 9 rm_Kept (rm.Kept : List ByteArray), Res.row 9 rm_Now (rm.Now : List ByteArray), Res.row 132 rm_Wait (rm.Wait : List Turn)]) (Br := [Res.box z1 [z15, z16, z17, .int .i64 (((dWrite dm x1.N x1.S).1).Fuse), .bool (((dWrite dm x1.N x1.S).1).Down)] 128, Res.row 9 z15 (((dWrite dm x1.N x1.S).1).Kept : List ByteArray), Res.row 9 z16 (((dWrite dm x1.N x1.S).1).Now : List ByteArray), Res.row 130 z17 (((dWrite dm x1.N x1.S).1).Wait : List Turn), Res.box b1 [.string x1.Kind, .string x1.S, .int .i64 x1.P.Holder, .int .i64 x1.P.Slot, .int .i64 x1.Q.Holder, .int .i64 x1.Q.Slot, .int .i64 x1.A, .int .i64 x1.B, .int .i64 x1.N, .int .u64 x1.K, x1.cv] 51]) (F0 := []) [5, 6, 7, 8, 0, 1, 2, 3, 4] [] (fun g_ : Value × Value × Value => .int .i64 (((dWrite rm x1.N x1.S)).2)) (fun g_ : Value × Value × Value => [Res.box z5 [g_.1, g_.2.1, g_.2.2, .int .i64 ((((dWrite rm x1.N x1.S)).1).Fuse), .bool ((((dWrite rm x1.N x1.S)).1).Down)] 63, Res.row 9 g_.1 ((((dWrite rm x1.N x1.S)).1).Kept : List ByteArray), Res.row 9 g_.2.1 ((((dWrite rm x1.N x1.S)).1).Now : List ByteArray), Res.row 132 g_.2.2 ((((dWrite rm x1.N x1.S)).1).Wait : List Turn)]) (fun g_ : Value × Value × Value => []) rfl rfl rfl eg_28 rfl rfl (fun w own hw H => dWriteR_any z5 rm_Kept rm_Now rm_Wait (rm) (x1.N) (x1.S) w own H (by first | assumption | omega)) rfl) (fun _ => (fun _ => Wd.pik [8] [0, 1] rfl rfl rfl)) rfl ?_
          rintro ⟨z18, z19, z20⟩
          dsimp only
          refine D.one (i := 12) (by kernel_rfl) rfl ?_
          refine Do.s (s.c (q.call eg_16 rfl rfl (fun w hw => (cv (congrArg Value.bool (decide_eq_true (by rw [HE]))) (same_any ((dWrite dm x1.N x1.S).2) ((dWrite rm x1.N x1.S).2) w  (by first | omega | decide | assumption))))) rfl) (fun _ => (fun _ => Wd.pik [8] [0, 1] rfl rfl rfl)) rfl fun _ => ?_
          refine D.q (i := 13) rfl (by kernel_rfl) (fun _ => Wd.pik [8] [0, 1] rfl rfl rfl) rfl (q.as rfl) rfl <| D.done (by kernel_rfl) <| ?_
          refine R.regQ rfl mixed (by kernel_rfl) <| Q.u 4 rfl <| Q.cg rfl (q.call eg_36 rfl rfl (fun w hw => (dDown_any z1 z15 z16 z17 (((dWrite dm x1.N x1.S).1)) w (hw.b 4 rfl) ((fun _ => Wd.row 5 rfl) w hw) ((fun _ => Wd.row 6 rfl) w hw) ((fun _ => Wd.row 7 rfl) w hw) ))) rfl <| Q.u 1 rfl <| Q.qg rfl (q.nilc rfl) rfl <| Q.qg rfl (q.fld (off' := 4) rfl tFld_63_4 rfl) rfl <| Q.qg rfl (q.ld 0 rfl rfl tOne_4 rfl) rfl <| Q.qg rfl (q.cvb (congrArg Value.bool (show (!((((dWrite dm x1.N x1.S).1).Down) == (((dWrite rm x1.N x1.S).1).Down))) = false from by rw [HE]; simp [dArm])) (q.neqB rfl rfl Try.underlying4)) rfl <| Q.u 1 rfl <| Q.nil ?_
          refine R.condF rfl rfl ?_
          refine R.reg rfl <| R.u 1 rfl <| R.q (q.add (r := ((i + 1 : Nat) : Int)) rfl rfl (wr (by omega))) rfl <| R.u 1 rfl <| R.nil ?_
          refine R.back (i + 1, ((dWrite dm x1.N x1.S).1), z15, z16, z17, ((dWrite rm x1.N x1.S).1), z18, z19, z20) rfl (by (exact ⟨by omega, by rw [HE], hO.write _ _⟩)) (by dsimp only; omega) ⟨rfl, rfl, rfl, rfl, rfl, trivial⟩ (fun _ => Wd.pik [0, 1, 2, 3, 4, 5, 6, 7] [0, 1] rfl rfl rfl)
        · refine R.q (q.eqlS0 rfl rfl h4) rfl <| R.u 1 rfl <| R.nil ?_
          refine R.condF rfl rfl ?_
          refine R.reg rfl <| ?_
          by_cases h5 : x1.Kind = ⟨#[114, 101, 97, 100]⟩
          · refine R.q (q.eqlS1 rfl rfl h5) rfl <| R.u 1 rfl <| R.nil ?_
            refine R.condT rfl rfl ?_
            refine R.reg rfl <| R.u 1 rfl <| R.q (q.fld (off' := 8) rfl tFld_51_6 rfl) rfl <| R.q (q.ld 0 rfl rfl tOne_3 rfl) rfl <| R.c (q.call eg_29 rfl rfl (fun w hw => (dRead_any z1 dm_Kept dm_Now dm_Wait (dm) (x1.N) w (hw.b 5 rfl) ((fun _ => Wd.row 6 rfl) w hw) ((fun _ => Wd.row 7 rfl) w hw) ((fun _ => Wd.row 8 rfl) w hw) ))) rfl <| R.u 5 rfl <| R.nil ?_
            refine R.reg rfl <| R.u 1 rfl <| R.q (q.fld (off' := 8) rfl tFld_51_6 rfl) rfl <| R.q (q.ld 0 rfl rfl tOne_3 rfl) rfl <| R.c (q.call eg_30 rfl rfl (fun w hw => (dReadR_any z5 rm_Kept rm_Now rm_Wait (rm) (x1.N) w (hw.b 1 rfl) ((fun _ => Wd.row 2 rfl) w hw) ((fun _ => Wd.row 3 rfl) w hw) ((fun _ => Wd.row 4 rfl) w hw) ))) rfl <| R.u 5 rfl <| R.nil ?_
            refine R.reg rfl <| R.u 2 rfl <| R.q (q.eqlS1 rfl rfl ‹_›) rfl <| R.u 3 rfl <| R.cg rfl (q.call eg_16 rfl rfl (fun w hw => (cv (congrArg Value.bool (decide_eq_true (by rw [HE]))) (same_any ((dRead dm x1.N).2) ((dRead rm x1.N).2) w  (by first | omega | decide | assumption))))) rfl <| R.u 2 rfl <| R.nil ?_
            refine R.regQ rfl mixed (by kernel_rfl) <| Q.u 4 rfl <| Q.cg rfl (q.call eg_36 rfl rfl (fun w hw => (dDown_any z1 dm_Kept dm_Now dm_Wait (dm) w (hw.b 5 rfl) ((fun _ => Wd.row 6 rfl) w hw) ((fun _ => Wd.row 7 rfl) w hw) ((fun _ => Wd.row 8 rfl) w hw) ))) rfl <| Q.u 1 rfl <| Q.qg rfl (q.nilc rfl) rfl <| Q.qg rfl (q.fld (off' := 4) rfl tFld_63_4 rfl) rfl <| Q.qg rfl (q.ld 1 rfl rfl tOne_4 rfl) rfl <| Q.qg rfl (q.cvb (congrArg Value.bool (show (!(dm.Down == rm.Down)) = false from by rw [HE]; simp [dArm])) (q.neqB rfl rfl Try.underlying4)) rfl <| Q.u 1 rfl <| Q.nil ?_
            refine R.condF rfl rfl ?_
            refine R.reg rfl <| R.u 1 rfl <| R.q (q.add (r := ((i + 1 : Nat) : Int)) rfl rfl (wr (by omega))) rfl <| R.u 1 rfl <| R.nil ?_
            refine R.back (i + 1, dm, dm_Kept, dm_Now, dm_Wait, rm, rm_Kept, rm_Now, rm_Wait) rfl (by (exact ⟨by omega, HE, hO.up (by omega)⟩)) (by dsimp only; omega) ⟨rfl, rfl, rfl, rfl, rfl, trivial⟩ (fun _ => Wd.pik [1, 2, 3, 4, 5, 6, 7, 8] [0, 1] rfl rfl rfl)
          · refine R.q (q.eqlS0 rfl rfl h5) rfl <| R.u 1 rfl <| R.nil ?_
            refine R.condF rfl rfl ?_
            refine R.reg rfl <| ?_
            by_cases h6 : x1.Kind = ⟨#[102, 108, 117, 115, 104]⟩
            · refine R.q (q.eqlS1 rfl rfl h6) rfl <| R.u 1 rfl <| R.nil ?_
              refine R.condT rfl rfl ?_
              refine R.reg rfl <| R.u 1 rfl <| ?_
              refine R.s (B' := (fun g_ : Value × Value × Value => [Res.box z1 [g_.1, g_.2.1, g_.2.2, .int .i64 ((((dFlush dm)).1).Fuse), .bool ((((dFlush dm)).1).Down)] 128, Res.row 9 g_.1 ((((dFlush dm)).1).Kept : List ByteArray), Res.row 9 g_.2.1 ((((dFlush dm)).1).Now : List ByteArray), Res.row 130 g_.2.2 ((((dFlush dm)).1).Wait : List Turn), Res.box b1 [.string x1.Kind, .string x1.S, .int .i64 x1.P.Holder, .int .i64 x1.P.Slot, .int .i64 x1.Q.Holder, .int .i64 x1.Q.Slot, .int .i64 x1.A, .int .i64 x1.B, .int .i64 x1.N, .int .u64 x1.K, x1.cv] 51, Res.box z5 [rm_Kept, rm_Now, rm_Wait, .int .i64 rm.Fuse, .bool rm.Down] 63, Res.row 9 rm_Kept (rm.Kept : List ByteArray), Res.row 9 rm_Now (rm.Now : List ByteArray), Res.row 132 rm_Wait (rm.Wait : List Turn)])) (F' := (fun g_ : Value × Value × Value => [Res.acts l, Res.ls v_l (l : List Deed)])) rfl (s.callV (B0 := [Res.box z1 [dm_Kept, dm_Now, dm_Wait, .int .i64 dm.Fuse, .bool dm.Down] 128, Res.row 9 dm_Kept (dm.Kept : List ByteArray), Res.row 9 dm_Now (dm.Now : List ByteArray), Res.row 130 dm_Wait (dm.Wait : List Turn)]) (Br := [Res.box b1 [.string x1.Kind, .string x1.S, .int .i64 x1.P.Holder, .int .i64 x1.P.Slot, .int .i64 x1.Q.Holder, .int .i64 x1.Q.Slot, .int .i64 x1.A, .int .i64 x1.B, .int .i64 x1.N, .int .u64 x1.K, x1.cv] 51, Res.box z5 [rm_Kept, rm_Now, rm_Wait, .int .i64 rm.Fuse, .bool rm.Down] 63, Res.row 9 rm_Kept (rm.Kept : List ByteArray), Res.row 9 rm_Now (rm.Now : List ByteArray), Res.row 132 rm_Wait (rm.Wait : List Turn)]) (F0 := []) [5, 6, 7, 8, 0, 1, 2, 3, 4] [] (fun g_ : Value × Value × Value => errv (((dFlush dm)).2)) (fun g_ : Value × Value × Value => [Res.box z1 [g_.1, g_.2.1, g_.2.2, .int .i64 ((((dFlush dm)).1).Fuse), .bool ((((dFlush dm)).1).Down)] 128, Res.row 9 g_.1 ((((dFlush dm)).1).Kept : List ByteArray), Res.row 9 g_.2.1 ((((dFlush dm)).1).Now : List ByteArray), Res.row 130 g_.2.2 ((((dFlush dm)).1).Wait : List Turn)]) (fun g_ : Value × Value × Value => []) rfl rfl rfl eg_31 rfl rfl (fun w own hw H => dFlush_any z1 dm_Kept dm_Now dm_Wait (dm) w own H (by first | assumption | omega)) rfl) ?_
              rintro ⟨z21, z22, z23⟩
              dsimp only
              refine R.u 1 rfl <| ?_
              refine R.s (B' := (fun g_ : Value × Value × Value => [Res.box z5 [g_.1, g_.2.1, g_.2.2, .int .i64 ((((dFlush rm)).1).Fuse), .bool ((((dFlush rm)).1).Down)] 63, Res.row 9 g_.1 ((((dFlush rm)).1).Kept : List ByteArray), Res.row 9 g_.2.1 ((((dFlush rm)).1).Now : List ByteArray), Res.row 132 g_.2.2 ((((dFlush rm)).1).Wait : List Turn), Res.box z1 [z21, z22, z23, .int .i64 (((dFlush dm).1).Fuse), .bool (((dFlush dm).1).Down)] 128, Res.row 9 z21 (((dFlush dm).1).Kept : List ByteArray), Res.row 9 z22 (((dFlush dm).1).Now : List ByteArray), Res.row 130 z23 (((dFlush dm).1).Wait : List Turn), Res.box b1 [.string x1.Kind, .string x1.S, .int .i64 x1.P.Holder, .int .i64 x1.P.Slot, .int .i64 x1.Q.Holder, .int .i64 x1.Q.Slot, .int .i64 x1.A, .int .i64 x1.B, .int .i64 x1.N, .int .u64 x1.K, x1.cv] 51])) (F' := (fun g_ : Value × Value × Value => [Res.acts l, Res.ls v_l (l : List Deed)])) rfl (s.callV (B0 := [Res.box z5 [rm_Kept, rm_Now, rm_Wait, .int .i64 rm.Fuse, .bool rm.Down] 63, Res.row 9 rm_Kept (rm.Kept : List ByteArray), Res.row 9 rm_Now (rm.Now : List ByteArray), Res.row 132 rm_Wait (rm.Wait : List Turn)]) (Br := [Res.box z1 [z21, z22, z23, .int .i64 (((dFlush dm).1).Fuse), .bool (((dFlush dm).1).Down)] 128, Res.row 9 z21 (((dFlush dm).1).Kept : List ByteArray), Res.row 9 z22 (((dFlush dm).1).Now : List ByteArray), Res.row 130 z23 (((dFlush dm).1).Wait : List Turn), Res.box b1 [.string x1.Kind, .string x1.S, .int .i64 x1.P.Holder, .int .i64 x1.P.Slot, .int .i64 x1.Q.Holder, .int .i64 x1.Q.Slot, .int .i64 x1.A, .int .i64 x1.B, .int .i64 x1.N, .int .u64 x1.K, x1.cv] 51]) (F0 := []) [5, 6, 7, 8, 0, 1, 2, 3, 4] [] (fun g_ : Value × Value × Value => .int .i64 (((dFlush rm)).2)) (fun g_ : Value × Value × Value => [Res.box z5 [g_.1, g_.2.1, g_.2.2, .int .i64 ((((dFlush rm)).1).Fuse), .bool ((((dFlush rm)).1).Down)] 63, Res.row 9 g_.1 ((((dFlush rm)).1).Kept : List ByteArray), Res.row 9 g_.2.1 ((((dFlush rm)).1).Now : List ByteArray), Res.row 132 g_.2.2 ((((dFlush rm)).1).Wait : List Turn)]) (fun g_ : Value × Value × Value => []) rfl rfl rfl eg_32 rfl rfl (fun w own hw H => dFlushR_any z5 rm_Kept rm_Now rm_Wait (rm) w own H (by first | assumption | omega)) rfl) ?_
              rintro ⟨z24, z25, z26⟩
              dsimp only
              refine R.c (q.call eg_16 rfl rfl (fun w hw => (cv (congrArg Value.bool (decide_eq_true (by rw [HE]))) (same_any ((dFlush dm).2) ((dFlush rm).2) w  (by first | omega | decide | assumption))))) rfl <| R.u 1 rfl <| R.nil ?_
              refine R.regQ rfl mixed (by kernel_rfl) <| Q.u 4 rfl <| Q.cg rfl (q.call eg_36 rfl rfl (fun w hw => (dDown_any z1 z21 z22 z23 (((dFlush dm).1)) w (hw.b 4 rfl) ((fun _ => Wd.row 5 rfl) w hw) ((fun _ => Wd.row 6 rfl) w hw) ((fun _ => Wd.row 7 rfl) w hw) ))) rfl <| Q.u 1 rfl <| Q.qg rfl (q.nilc rfl) rfl <| Q.qg rfl (q.fld (off' := 4) rfl tFld_63_4 rfl) rfl <| Q.qg rfl (q.ld 0 rfl rfl tOne_4 rfl) rfl <| Q.qg rfl (q.cvb (congrArg Value.bool (show (!((((dFlush dm).1).Down) == (((dFlush rm).1).Down))) = false from by rw [HE]; simp [dArm])) (q.neqB rfl rfl Try.underlying4)) rfl <| Q.u 1 rfl <| Q.nil ?_
              refine R.condF rfl rfl ?_
              refine R.reg rfl <| R.u 1 rfl <| R.q (q.add (r := ((i + 1 : Nat) : Int)) rfl rfl (wr (by omega))) rfl <| R.u 1 rfl <| R.nil ?_
              refine R.back (i + 1, ((dFlush dm).1), z21, z22, z23, ((dFlush rm).1), z24, z25, z26) rfl (by (exact ⟨by omega, by rw [HE], hO.flush.up (by omega)⟩)) (by dsimp only; omega) ⟨rfl, rfl, rfl, rfl, rfl, trivial⟩ (fun _ => Wd.pik [0, 1, 2, 3, 4, 5, 6, 7] [0, 1] rfl rfl rfl)
            · refine R.q (q.eqlS0 rfl rfl h6) rfl <| R.u 1 rfl <| R.nil ?_
              refine R.condF rfl rfl ?_
              refine R.reg rfl <| ?_
              by_cases h7 : x1.Kind = ⟨#[97, 114, 109]⟩
              · refine R.q (q.eqlS1 rfl rfl h7) rfl <| R.u 1 rfl <| R.nil ?_
                refine R.condT rfl rfl ?_
                refine R.reg rfl <| R.u 1 rfl <| R.q (q.fld (off' := 8) rfl tFld_51_6 rfl) rfl <| R.q (q.ld 0 rfl rfl tOne_3 rfl) rfl <| ?_
                refine R.s (B' := (fun g_ : Value × Value × Value => [Res.box z1 [g_.1, g_.2.1, g_.2.2, .int .i64 (((dArm dm x1.N)).Fuse), .bool (((dArm dm x1.N)).Down)] 128, Res.row 9 g_.1 (((dArm dm x1.N)).Kept : List ByteArray), Res.row 9 g_.2.1 (((dArm dm x1.N)).Now : List ByteArray), Res.row 130 g_.2.2 (((dArm dm x1.N)).Wait : List Turn), Res.box b1 [.string x1.Kind, .string x1.S, .int .i64 x1.P.Holder, .int .i64 x1.P.Slot, .int .i64 x1.Q.Holder, .int .i64 x1.Q.Slot, .int .i64 x1.A, .int .i64 x1.B, .int .i64 x1.N, .int .u64 x1.K, x1.cv] 51, Res.box z5 [rm_Kept, rm_Now, rm_Wait, .int .i64 rm.Fuse, .bool rm.Down] 63, Res.row 9 rm_Kept (rm.Kept : List ByteArray), Res.row 9 rm_Now (rm.Now : List ByteArray), Res.row 132 rm_Wait (rm.Wait : List Turn)])) (F' := (fun g_ : Value × Value × Value => [Res.acts l, Res.ls v_l (l : List Deed)])) rfl (s.callV (B0 := [Res.box z1 [dm_Kept, dm_Now, dm_Wait, .int .i64 dm.Fuse, .bool dm.Down] 128, Res.row 9 dm_Kept (dm.Kept : List ByteArray), Res.row 9 dm_Now (dm.Now : List ByteArray), Res.row 130 dm_Wait (dm.Wait : List Turn)]) (Br := [Res.box b1 [.string x1.Kind, .string x1.S, .int .i64 x1.P.Holder, .int .i64 x1.P.Slot, .int .i64 x1.Q.Holder, .int .i64 x1.Q.Slot, .int .i64 x1.A, .int .i64 x1.B, .int .i64 x1.N, .int .u64 x1.K, x1.cv] 51, Res.box z5 [rm_Kept, rm_Now, rm_Wait, .int .i64 rm.Fuse, .bool rm.Down] 63, Res.row 9 rm_Kept (rm.Kept : List ByteArray), Res.row 9 rm_Now (rm.Now : List ByteArray), Res.row 132 rm_Wait (rm.Wait : List Turn)]) (F0 := []) [5, 6, 7, 8, 0, 1, 2, 3, 4] [] (fun g_ : Value × Value × Value => .tuple #[]) (fun g_ : Value × Value × Value => [Res.box z1 [g_.1, g_.2.1, g_.2.2, .int .i64 (((dArm dm x1.N)).Fuse), .bool (((dArm dm x1.N)).Down)] 128, Res.row 9 g_.1 (((dArm dm x1.N)).Kept : List ByteArray), Res.row 9 g_.2.1 (((dArm dm x1.N)).Now : List ByteArray), Res.row 130 g_.2.2 (((dArm dm x1.N)).Wait : List Turn)]) (fun g_ : Value × Value × Value => []) rfl rfl rfl eg_33 rfl rfl (fun w own hw H => dArm_any z1 dm_Kept dm_Now dm_Wait (dm) (x1.N) w own H ) rfl) ?_
                rintro ⟨z27, z28, z29⟩
                dsimp only
                refine R.nil ?_
                refine R.reg rfl <| R.u 1 rfl <| R.q (q.fld (off' := 8) rfl tFld_51_6 rfl) rfl <| R.q (q.ld 4 rfl rfl tOne_3 rfl) rfl <| R.q (q.max (r := max x1.N (-1)) rfl rfl rfl) rfl <| R.q (q.nilc rfl) rfl <| R.q (q.fld (off' := 3) rfl tFld_63_3 rfl) rfl <| ?_
                refine R.s rfl (s.st (us := [.int .i64 (max x1.N (-1))]) (cs' := [rm_Kept, rm_Now, rm_Wait, .int .i64 (max x1.N (-1)), .bool rm.Down]) 5 _ rfl rfl rfl rfl (.inr ⟨tOne_3, rfl⟩) rfl rfl rfl rfl) fun _ => ?_
                refine R.nil ?_
                refine R.regQ rfl mixed (by kernel_rfl) <| Q.u 4 rfl <| Q.cg rfl (q.call eg_36 rfl rfl (fun w hw => (dDown_any z1 z27 z28 z29 ((dArm dm x1.N)) w (hw.b 0 rfl) ((fun _ => Wd.row 1 rfl) w hw) ((fun _ => Wd.row 2 rfl) w hw) ((fun _ => Wd.row 3 rfl) w hw) ))) rfl <| Q.u 1 rfl <| Q.qg rfl (q.nilc rfl) rfl <| Q.qg rfl (q.fld (off' := 4) rfl tFld_63_4 rfl) rfl <| Q.qg rfl (q.ld 5 rfl rfl tOne_4 rfl) rfl <| Q.qg rfl (q.cvb (congrArg Value.bool (show (!(((dArm dm x1.N).Down) == rm.Down)) = false from by rw [HE]; simp [dArm])) (q.neqB rfl rfl Try.underlying4)) rfl <| Q.u 1 rfl <| Q.nil ?_
                refine R.condF rfl rfl ?_
                refine R.reg rfl <| R.u 1 rfl <| R.q (q.add (r := ((i + 1 : Nat) : Int)) rfl rfl (wr (by omega))) rfl <| R.u 1 rfl <| R.nil ?_
                refine R.back (i + 1, (dArm dm x1.N), z27, z28, z29, (⟨rm.Kept, rm.Now, rm.Wait, (max x1.N (-1)), rm.Down⟩ : Dsk), rm_Kept, rm_Now, rm_Wait) rfl (by (exact ⟨by omega, by rw [HE]; rfl, (hO.arm nx1).up (by omega)⟩)) (by dsimp only; omega) ⟨rfl, rfl, rfl, rfl, rfl, trivial⟩ (fun _ => Wd.pik [5, 6, 7, 8, 0, 1, 2, 3] [0, 1] rfl rfl rfl)
              · refine R.q (q.eqlS0 rfl rfl h7) rfl <| R.u 1 rfl <| R.nil ?_
                refine R.condF rfl rfl ?_
                refine R.reg rfl <| R.u 1 rfl <| R.q (q.fld (off' := 9) rfl tFld_51_7 rfl) rfl <| R.q (q.ld 0 rfl rfl tOne_48 rfl) rfl <| ?_
                refine R.s (B' := (fun g_ : Value × Value × Value => [Res.box z1 [g_.1, g_.2.1, g_.2.2, .int .i64 (((dRestart dm x1.K)).Fuse), .bool (((dRestart dm x1.K)).Down)] 128, Res.row 9 g_.1 (((dRestart dm x1.K)).Kept : List ByteArray), Res.row 9 g_.2.1 (((dRestart dm x1.K)).Now : List ByteArray), Res.row 130 g_.2.2 (((dRestart dm x1.K)).Wait : List Turn), Res.box b1 [.string x1.Kind, .string x1.S, .int .i64 x1.P.Holder, .int .i64 x1.P.Slot, .int .i64 x1.Q.Holder, .int .i64 x1.Q.Slot, .int .i64 x1.A, .int .i64 x1.B, .int .i64 x1.N, .int .u64 x1.K, x1.cv] 51, Res.box z5 [rm_Kept, rm_Now, rm_Wait, .int .i64 rm.Fuse, .bool rm.Down] 63, Res.row 9 rm_Kept (rm.Kept : List ByteArray), Res.row 9 rm_Now (rm.Now : List ByteArray), Res.row 132 rm_Wait (rm.Wait : List Turn)])) (F' := (fun g_ : Value × Value × Value => [Res.acts l, Res.ls v_l (l : List Deed)])) rfl (s.callV (B0 := [Res.box z1 [dm_Kept, dm_Now, dm_Wait, .int .i64 dm.Fuse, .bool dm.Down] 128, Res.row 9 dm_Kept (dm.Kept : List ByteArray), Res.row 9 dm_Now (dm.Now : List ByteArray), Res.row 130 dm_Wait (dm.Wait : List Turn)]) (Br := [Res.box b1 [.string x1.Kind, .string x1.S, .int .i64 x1.P.Holder, .int .i64 x1.P.Slot, .int .i64 x1.Q.Holder, .int .i64 x1.Q.Slot, .int .i64 x1.A, .int .i64 x1.B, .int .i64 x1.N, .int .u64 x1.K, x1.cv] 51, Res.box z5 [rm_Kept, rm_Now, rm_Wait, .int .i64 rm.Fuse, .bool rm.Down] 63, Res.row 9 rm_Kept (rm.Kept : List ByteArray), Res.row 9 rm_Now (rm.Now : List ByteArray), Res.row 132 rm_Wait (rm.Wait : List Turn)]) (F0 := []) [5, 6, 7, 8, 0, 1, 2, 3, 4] [] (fun g_ : Value × Value × Value => .tuple #[]) (fun g_ : Value × Value × Value => [Res.box z1 [g_.1, g_.2.1, g_.2.2, .int .i64 (((dRestart dm x1.K)).Fuse), .bool (((dRestart dm x1.K)).Down)] 128, Res.row 9 g_.1 (((dRestart dm x1.K)).Kept : List ByteArray), Res.row 9 g_.2.1 (((dRestart dm x1.K)).Now : List ByteArray), Res.row 130 g_.2.2 (((dRestart dm x1.K)).Wait : List Turn)]) (fun g_ : Value × Value × Value => []) rfl rfl rfl eg_34 rfl rfl (fun w own hw H => dRestart_any z1 dm_Kept dm_Now dm_Wait (dm) (x1.K) w own H (by first | assumption | omega) (by first | assumption | omega)) rfl) ?_
                rintro ⟨z30, z31, z32⟩
                dsimp only
                refine R.nil ?_
                refine R.reg rfl <| R.u 1 rfl <| R.q (q.fld (off' := 9) rfl tFld_51_7 rfl) rfl <| R.q (q.ld 4 rfl rfl tOne_48 rfl) rfl <| ?_
                refine R.s (B' := (fun g_ : Value × Value × Value => [Res.box z5 [g_.1, g_.2.1, g_.2.2, .int .i64 (((dRestart rm x1.K)).Fuse), .bool (((dRestart rm x1.K)).Down)] 63, Res.row 9 g_.1 (((dRestart rm x1.K)).Kept : List ByteArray), Res.row 9 g_.2.1 (((dRestart rm x1.K)).Now : List ByteArray), Res.row 132 g_.2.2 (((dRestart rm x1.K)).Wait : List Turn), Res.box z1 [z30, z31, z32, .int .i64 ((dRestart dm x1.K).Fuse), .bool ((dRestart dm x1.K).Down)] 128, Res.row 9 z30 ((dRestart dm x1.K).Kept : List ByteArray), Res.row 9 z31 ((dRestart dm x1.K).Now : List ByteArray), Res.row 130 z32 ((dRestart dm x1.K).Wait : List Turn), Res.box b1 [.string x1.Kind, .string x1.S, .int .i64 x1.P.Holder, .int .i64 x1.P.Slot, .int .i64 x1.Q.Holder, .int .i64 x1.Q.Slot, .int .i64 x1.A, .int .i64 x1.B, .int .i64 x1.N, .int .u64 x1.K, x1.cv] 51])) (F' := (fun g_ : Value × Value × Value => [Res.acts l, Res.ls v_l (l : List Deed)])) rfl (s.callV (B0 := [Res.box z5 [rm_Kept, rm_Now, rm_Wait, .int .i64 rm.Fuse, .bool rm.Down] 63, Res.row 9 rm_Kept (rm.Kept : List ByteArray), Res.row 9 rm_Now (rm.Now : List ByteArray), Res.row 132 rm_Wait (rm.Wait : List Turn)]) (Br := [Res.box z1 [z30, z31, z32, .int .i64 ((dRestart dm x1.K).Fuse), .bool ((dRestart dm x1.K).Down)] 128, Res.row 9 z30 ((dRestart dm x1.K).Kept : List ByteArray), Res.row 9 z31 ((dRestart dm x1.K).Now : List ByteArray), Res.row 130 z32 ((dRestart dm x1.K).Wait : List Turn), Res.box b1 [.string x1.Kind, .string x1.S, .int .i64 x1.P.Holder, .int .i64 x1.P.Slot, .int .i64 x1.Q.Holder, .int .i64 x1.Q.Slot, .int .i64 x1.A, .int .i64 x1.B, .int .i64 x1.N, .int .u64 x1.K, x1.cv] 51]) (F0 := []) [5, 6, 7, 8, 0, 1, 2, 3, 4] [] (fun g_ : Value × Value × Value => .tuple #[]) (fun g_ : Value × Value × Value => [Res.box z5 [g_.1, g_.2.1, g_.2.2, .int .i64 (((dRestart rm x1.K)).Fuse), .bool (((dRestart rm x1.K)).Down)] 63, Res.row 9 g_.1 (((dRestart rm x1.K)).Kept : List ByteArray), Res.row 9 g_.2.1 (((dRestart rm x1.K)).Now : List ByteArray), Res.row 132 g_.2.2 (((dRestart rm x1.K)).Wait : List Turn)]) (fun g_ : Value × Value × Value => []) rfl rfl rfl eg_35 rfl rfl (fun w own hw H => dRestartR_any z5 rm_Kept rm_Now rm_Wait (rm) (x1.K) w own H (by first | assumption | omega) (by first | assumption | omega)) rfl) ?_
                rintro ⟨z33, z34, z35⟩
                dsimp only
                refine R.nil ?_
                refine R.regQ rfl mixed (by kernel_rfl) <| Q.u 4 rfl <| Q.cg rfl (q.call eg_36 rfl rfl (fun w hw => (dDown_any z1 z30 z31 z32 ((dRestart dm x1.K)) w (hw.b 4 rfl) ((fun _ => Wd.row 5 rfl) w hw) ((fun _ => Wd.row 6 rfl) w hw) ((fun _ => Wd.row 7 rfl) w hw) ))) rfl <| Q.u 1 rfl <| Q.qg rfl (q.nilc rfl) rfl <| Q.qg rfl (q.fld (off' := 4) rfl tFld_63_4 rfl) rfl <| Q.qg rfl (q.ld 0 rfl rfl tOne_4 rfl) rfl <| Q.qg rfl (q.cvb (congrArg Value.bool (show (!(((dRestart dm x1.K).Down) == ((dRestart rm x1.K).Down))) = false from by rw [HE]; simp [dArm])) (q.neqB rfl rfl Try.underlying4)) rfl <| Q.u 1 rfl <| Q.nil ?_
                refine R.condF rfl rfl ?_
                refine R.reg rfl <| R.u 1 rfl <| R.q (q.add (r := ((i + 1 : Nat) : Int)) rfl rfl (wr (by omega))) rfl <| R.u 1 rfl <| R.nil ?_
                refine R.back (i + 1, (dRestart dm x1.K), z30, z31, z32, (dRestart rm x1.K), z33, z34, z35) rfl (by (exact ⟨by omega, by rw [HE], (hO.restart _).up (Nat.zero_le _)⟩)) (by dsimp only; omega) ⟨rfl, rfl, rfl, rfl, rfl, trivial⟩ (fun _ => Wd.pik [0, 1, 2, 3, 4, 5, 6, 7] [0, 1] rfl rfl rfl)
      · refine R.q (q.lss rfl rfl (decide_eq_false (by omega))) rfl <| R.nil ?_
        refine R.condF rfl rfl ?_
        refine R.reg rfl <| R.u 1 rfl <| R.nil ?_
        refine R.loop (fun a : Int => [(0, .int .i64 sectors), (6, .pointer (some ⟨z1, 0, none⟩)), (8, .pointer (some ⟨z5, 0, none⟩)), (17, .int .i64 a)]) (fun a : Int => [Res.box z5 [rm_Kept, rm_Now, rm_Wait, .int .i64 rm.Fuse, .bool rm.Down] 63, Res.row 9 rm_Kept (rm.Kept : List ByteArray), Res.row 9 rm_Now (rm.Now : List ByteArray), Res.row 132 rm_Wait (rm.Wait : List Turn), Res.box z1 [dm_Kept, dm_Now, dm_Wait, .int .i64 dm.Fuse, .bool dm.Down] 128, Res.row 9 dm_Kept (dm.Kept : List ByteArray), Res.row 9 dm_Now (dm.Now : List ByteArray), Res.row 130 dm_Wait (dm.Wait : List Turn)]) (fun a : Int => [Res.acts l, Res.ls v_l (l : List Deed)]) (fun a : Int => -1 ≤ a ∧ a ≤ sectors + 1) (fun a : Int => (sectors + 1 - a).toNat) (-1) rfl (by omega) ⟨rfl, rfl, rfl, rfl, trivial⟩ (fun _ => Wd.pick [0, 1, 2, 3, 4, 5, 6, 7] [0, 1] rfl rfl rfl) ?_
        rintro a hA
        have sa := dRead_nonneg dm a; have ea : (dRead dm a).1 = (dRead rm a).1 := by rw [HE]
        refine R.reg rfl <| R.u 2 rfl <| ?_
        by_cases h8 : sectors < a
        · refine R.q (q.leq rfl rfl (decide_eq_false (by omega))) rfl <| R.nil ?_
          refine R.condF rfl rfl ?_
          refine R.reg rfl <| R.u 1 rfl <| R.nil ?_
          exact R.rv rfl Try.results4 rfl (rB (by (first | rfl | (exfalso; omega))))
        · refine R.q (q.leq rfl rfl (decide_eq_true (by omega))) rfl <| R.nil ?_
          refine R.condT rfl rfl ?_
          refine R.reg rfl <| R.u 2 rfl <| R.c (q.call eg_29 rfl rfl (fun w hw => (dRead_any z1 dm_Kept dm_Now dm_Wait (dm) (a) w (hw.b 4 rfl) ((fun _ => Wd.row 5 rfl) w hw) ((fun _ => Wd.row 6 rfl) w hw) ((fun _ => Wd.row 7 rfl) w hw) ))) rfl <| R.u 5 rfl <| R.nil ?_
          refine R.reg rfl <| R.u 2 rfl <| R.c (q.call eg_30 rfl rfl (fun w hw => (dReadR_any z5 rm_Kept rm_Now rm_Wait (rm) (a) w (hw.b 0 rfl) ((fun _ => Wd.row 1 rfl) w hw) ((fun _ => Wd.row 2 rfl) w hw) ((fun _ => Wd.row 3 rfl) w hw) ))) rfl <| R.u 5 rfl <| R.nil ?_
          refine R.reg rfl <| R.u 2 rfl <| R.q (q.neqS1 rfl rfl ‹_›) rfl <| R.u 3 rfl <| R.cg rfl (q.call eg_16 rfl rfl (fun w hw => (cv (congrArg Value.bool (decide_eq_true (by rw [HE]))) (same_any ((dRead dm a).2) ((dRead rm a).2) w  (by first | omega | decide | assumption))))) rfl <| R.u 2 rfl <| R.nil ?_
          refine R.condF rfl rfl ?_
          refine R.reg rfl <| R.u 1 rfl <| R.q (q.add (r := a + 1) rfl rfl (wr (by omega))) rfl <| R.u 1 rfl <| R.nil ?_
          refine R.back (a + 1) rfl (by (omega)) (by omega) ⟨rfl, rfl, rfl, rfl, trivial⟩ (fun _ => Wd.pik [0, 1, 2, 3, 4, 5, 6, 7] [0, 1] rfl rfl rfl)
    · refine R.c (q.call eg_24 rfl rfl (fun w hw => (newD_bad (sectors) w  (by assumption)))) rfl <| R.u 5 rfl <| R.nil ?_
      refine R.reg rfl <| R.u 1 rfl <| R.c (q.call eg_25 rfl rfl (fun w hw => (newDR_bad (sectors) w  (by assumption)))) rfl <| R.u 5 rfl <| R.nil ?_
      refine R.reg rfl <| R.u 1 rfl <| R.q (q.gtr (b := true) rfl rfl (by decide)) rfl <| R.nil ?_
      refine R.condT rfl rfl ?_
      refine R.reg rfl <| R.u 2 rfl <| R.c (q.call eg_16 rfl rfl (fun w hw => (cv (congrArg Value.bool rfl) (same_any (1) (1) w  (by first | omega | decide | assumption))))) rfl <| R.u 2 rfl <| R.qg rfl (q.eqlP rfl rfl Try.underlying39) rfl <| R.u 2 rfl <| R.nil ?_
      exact R.rv rfl Try.results4 rfl (rB (by (first | rfl | (exfalso; omega))))
  · refine R.cg rfl (q.call eg_23 rfl rfl (fun w hw => (cv (congrArg Value.bool h1) (lightA_any _ (l) (80) w ((fun _ => Wd.fls 1 rfl) w hw) (hw.acts 0 rfl) )))) rfl <| R.u 2 rfl <| R.nil ?_
    refine R.condT rfl rfl ?_
    refine R.reg rfl <| R.u 2 rfl <| R.nil ?_
    exact R.rv rfl Try.results4 rfl (rB (by (first | rfl | (exfalso; omega))))

end Go.Proofs.Ytgmnmibejamneaa
