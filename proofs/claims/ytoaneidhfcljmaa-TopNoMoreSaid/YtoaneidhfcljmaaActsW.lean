/-
  The walks of acts: what is light, what an act does, what grows.
-/
import Derived.Test.YtoaneidhfcljmaaRealmW2
import Derived.Test.YtoaneidhfcljmaaActSpec
import Derived.Test.YtoaneidhfcljmaaSame2
import Derived.Test.YtoaneidhfcljmaaEq2
import Derived.Test.YtoaneidhfcljmaaSameW
import Derived.Test.YtoaneidhfcljmaaShelfLaw2
namespace Go.Proofs.Ytoaneidhfcljmaa
open Go Go.RowKit
set_option linter.unusedVariables false
set_option linter.unusedSimpArgs false
set_option maxRecDepth 100000

theorem lightC_any (v_l : Value) (l : List Change) (most : Int) (w : World) (s_l : Sl w v_l l) : Calls Try.prog 38 #[v_l, .int .i64 most] w fun e w' => e = .returned (.bool (lightC l most)) ∧ Ext w w' := by
  have b_l := s_l.lenle
  refine R.enter (n := 32) (vs := [v_l, .int .i64 most]) [] [(0, v_l), (1, .int .i64 most)] Try.func38 rfl rfl rfl rfl ?_
  refine R.oldL s_l ?_
  refine R.reg rfl <| R.u 1 rfl <| R.nil ?_
  refine R.reg rfl <| R.u 1 rfl <| R.q (q.len' (fun _ => Wd.fls 0 rfl) rfl Try.underlying57) rfl <| R.u 1 rfl <| ?_
  by_cases h1 : most < (l.length : Int)
  · refine R.q (q.gtr rfl rfl (decide_eq_true (by omega))) rfl <| R.nil ?_
    refine R.condT rfl rfl ?_
    refine R.reg rfl <| R.u 1 rfl <| R.nil ?_
    exact R.rv rfl Try.results38 rfl (rB (by (unfold lightC; first | (rw [decide_eq_false (by omega)]; rfl) | (rw [decide_eq_true (by omega), all_up (by omega) HA]; rfl) | (rw [all_hit hx1 (show lightC1 _ = false from by unfold lightC1; simp; omega)]; simp) | (rw [all_hit hx1 (show lightC1 _ = false from by unfold lightC1; simp_all)]; simp))))
  · refine R.q (q.gtr rfl rfl (decide_eq_false (by omega))) rfl <| R.nil ?_
    refine R.condF rfl rfl ?_
    refine R.reg rfl <| R.u 1 rfl <| R.nil ?_
    refine R.loop (fun k : Nat => [(0, v_l), (5, .int .i64 (k : Int))]) (fun k : Nat => []) (fun k : Nat => [Res.ls v_l (l : List Change)]) (fun k : Nat => k ≤ l.length ∧ (l.take k).all lightC1 = true) (fun k : Nat => l.length - k) 0 rfl (by exact ⟨by omega, rfl⟩) ⟨rfl, rfl, trivial⟩ (fun _ => Wd.pick [] [0] rfl rfl rfl) ?_
    rintro k ⟨hk, HA⟩
    refine R.reg rfl <| R.u 2 rfl <| R.q (q.len' (fun _ => Wd.fls 0 rfl) rfl Try.underlying57) rfl <| ?_
    by_cases h2 : k < l.length
    · refine R.q (q.lss rfl rfl (decide_eq_true (by omega))) rfl <| R.nil ?_
      refine R.condT rfl rfl ?_
      refine R.reg rfl <| R.u 2 rfl <| ?_
      obtain ⟨x1, hx1⟩ : ∃ z, l[k]? = some z := ⟨_, List.getElem?_eq_getElem (by omega)⟩
      refine R.q (q.idx (i := k) (fun _ => Wd.fls 0 rfl) rfl rfl tSl_57 rfl hx1) rfl <| R.q (q.fldE (j' := 0) (fun _ => Wd.fls 0 rfl) hx1 rfl tFld_100_0 rfl) rfl <| R.q (q.ldE (fun _ => Wd.fls 0 rfl) hx1 rfl tOne_9 rfl) rfl <| R.q (q.lenS rfl Try.underlying9) rfl <| ?_
      by_cases h3 : 20 < x1.Key.size
      · refine R.q (q.gtr rfl rfl (decide_eq_true (by omega))) rfl <| R.u 9 rfl <| R.nil ?_
        refine R.condT rfl rfl ?_
        refine R.reg rfl <| R.u 1 rfl <| R.nil ?_
        exact R.rv rfl Try.results38 rfl (rB (by (unfold lightC; first | (rw [decide_eq_false (by omega)]; rfl) | (rw [decide_eq_true (by omega), all_up (by omega) HA]; rfl) | (rw [all_hit hx1 (show lightC1 _ = false from by unfold lightC1; simp; omega)]; simp) | (rw [all_hit hx1 (show lightC1 _ = false from by unfold lightC1; simp_all)]; simp))))
      · refine R.q (q.gtr rfl rfl (decide_eq_false (by omega))) rfl <| R.u 3 rfl <| R.qg rfl (q.idx (i := k) (fun _ => Wd.fls 0 rfl) rfl rfl tSl_57 rfl hx1) rfl <| R.qg rfl (q.fldE (j' := 1) (fun _ => Wd.fls 0 rfl) hx1 rfl tFld_100_1 rfl) rfl <| R.qg rfl (q.ldE (fun _ => Wd.fls 0 rfl) hx1 rfl tOne_9 rfl) rfl <| R.qg rfl (q.lenS rfl Try.underlying9) rfl <| ?_
        by_cases h4 : 40 < x1.Val.size
        · refine R.qg rfl (q.gtr rfl rfl (decide_eq_true (by omega))) rfl <| R.u 1 rfl <| R.nil ?_
          refine R.condT rfl rfl ?_
          refine R.reg rfl <| R.u 1 rfl <| R.nil ?_
          exact R.rv rfl Try.results38 rfl (rB (by (unfold lightC; first | (rw [decide_eq_false (by omega)]; rfl) | (rw [decide_eq_true (by omega), all_up (by omega) HA]; rfl) | (rw [all_hit hx1 (show lightC1 _ = false from by unfold lightC1; simp; omega)]; simp) | (rw [all_hit hx1 (show lightC1 _ = false from by unfold lightC1; simp_all)]; simp))))
        · refine R.qg rfl (q.gtr rfl rfl (decide_eq_false (by omega))) rfl <| R.u 1 rfl <| R.nil ?_
          refine R.condF rfl rfl ?_
          refine R.reg rfl <| R.u 1 rfl <| R.q (q.add (r := ((k + 1 : Nat) : Int)) rfl rfl (wr (by omega))) rfl <| R.u 1 rfl <| R.nil ?_
          refine R.back (k + 1) rfl (by (exact ⟨by omega, all_snoc hx1 HA (by unfold lightC1; simp_all)⟩)) (by omega) ⟨rfl, rfl, trivial⟩ (fun _ => Wd.pik [] [0] rfl rfl rfl)
    · refine R.q (q.lss rfl rfl (decide_eq_false (by omega))) rfl <| R.nil ?_
      refine R.condF rfl rfl ?_
      refine R.reg rfl <| R.u 1 rfl <| R.nil ?_
      exact R.rv rfl Try.results38 rfl (rB (by (unfold lightC; first | (rw [decide_eq_false (by omega)]; rfl) | (rw [decide_eq_true (by omega), all_up (by omega) HA]; rfl) | (rw [all_hit hx1 (show lightC1 _ = false from by unfold lightC1; simp; omega)]; simp) | (rw [all_hit hx1 (show lightC1 _ = false from by unfold lightC1; simp_all)]; simp))))

theorem lightA_any (v_l : Value) (l : List Deed) (most : Int) (w : World) (s_l : Sl w v_l l) (c_l : ∀ x ∈ l, Sl w x.cv x.Changes) : Calls Try.prog 19 #[v_l, .int .i64 most] w fun e w' => e = .returned (.bool (lightA l most)) ∧ Ext w w' := by
  have b_l := s_l.lenle
  refine R.enter (n := 32) (vs := [v_l, .int .i64 most]) [] [(0, v_l), (1, .int .i64 most)] Try.func19 rfl rfl rfl rfl ?_
  refine R.oldL s_l ?_
  refine R.oldF (r := Res.acts l) c_l (acts_lt c_l) ?_
  refine R.reg rfl <| R.u 1 rfl <| R.nil ?_
  refine R.reg rfl <| R.u 1 rfl <| R.q (q.len' (fun _ => Wd.fls 1 rfl) rfl Try.underlying22) rfl <| R.u 1 rfl <| ?_
  by_cases h1 : most < (l.length : Int)
  · refine R.q (q.gtr rfl rfl (decide_eq_true (by omega))) rfl <| R.nil ?_
    refine R.condT rfl rfl ?_
    refine R.reg rfl <| R.u 1 rfl <| R.nil ?_
    exact R.rv rfl Try.results19 rfl (rB (by (unfold lightA; first | (rw [decide_eq_false (by omega)]; rfl) | (rw [decide_eq_true (by omega), all_up (by omega) HA]; rfl) | (rw [all_hit hx1 (show lightA1 _ = false from by unfold lightA1; simp; omega)]; simp) | (rw [all_hit hx1 (show lightA1 _ = false from by unfold lightA1; simp_all)]; simp))))
  · refine R.q (q.gtr rfl rfl (decide_eq_false (by omega))) rfl <| R.nil ?_
    refine R.condF rfl rfl ?_
    refine R.reg rfl <| R.u 1 rfl <| R.nil ?_
    refine R.loop (fun k : Nat => [(0, v_l), (5, .int .i64 (k : Int))]) (fun k : Nat => []) (fun k : Nat => [Res.acts l, Res.ls v_l (l : List Deed)]) (fun k : Nat => k ≤ l.length ∧ (l.take k).all lightA1 = true) (fun k : Nat => l.length - k) 0 rfl (by exact ⟨by omega, rfl⟩) ⟨rfl, rfl, trivial⟩ (fun _ => Wd.pick [] [0, 1] rfl rfl rfl) ?_
    rintro k ⟨hk, HA⟩
    refine R.reg rfl <| R.u 2 rfl <| R.q (q.len' (fun _ => Wd.fls 1 rfl) rfl Try.underlying22) rfl <| ?_
    by_cases h2 : k < l.length
    · refine R.q (q.lss rfl rfl (decide_eq_true (by omega))) rfl <| R.nil ?_
      refine R.condT rfl rfl ?_
      refine R.reg rfl <| R.u 2 rfl <| ?_
      obtain ⟨x1, hx1⟩ : ∃ z, l[k]? = some z := ⟨_, List.getElem?_eq_getElem (by omega)⟩
      refine R.q (q.idx (i := k) (fun _ => Wd.fls 1 rfl) rfl rfl tSl_22 rfl hx1) rfl <| R.q (q.fldE (j' := 1) (fun _ => Wd.fls 1 rfl) hx1 rfl tFld_59_1 rfl) rfl <| R.q (q.ldE (fun _ => Wd.fls 1 rfl) hx1 rfl tOne_9 rfl) rfl <| R.q (q.lenS rfl Try.underlying9) rfl <| ?_
      by_cases h3 : 100 < x1.S.size
      · refine R.q (q.gtr rfl rfl (decide_eq_true (by omega))) rfl <| R.u 9 rfl <| R.nil ?_
        refine R.condT rfl rfl ?_
        refine R.reg rfl <| R.u 1 rfl <| R.nil ?_
        exact R.rv rfl Try.results19 rfl (rB (by (unfold lightA; first | (rw [decide_eq_false (by omega)]; rfl) | (rw [decide_eq_true (by omega), all_up (by omega) HA]; rfl) | (rw [all_hit hx1 (show lightA1 _ = false from by unfold lightA1; simp; omega)]; simp) | (rw [all_hit hx1 (show lightA1 _ = false from by unfold lightA1; simp_all)]; simp))))
      · refine R.q (q.gtr rfl rfl (decide_eq_false (by omega))) rfl <| R.u 3 rfl <| R.qg rfl (q.idx (i := k) (fun _ => Wd.fls 1 rfl) rfl rfl tSl_22 rfl hx1) rfl <| R.qg rfl (q.fldE (j' := 10) (fun _ => Wd.fls 1 rfl) hx1 rfl tFld_59_8 rfl) rfl <| R.qg rfl (q.ldE (fun _ => Wd.fls 1 rfl) hx1 rfl tOne_57 rfl) rfl <| ?_
        rcases Bool.eq_false_or_eq_true (lightC x1.Changes 70) with h4 | h4
        · refine R.cg rfl (q.call eg_38 rfl rfl (fun w hw => (cv (congrArg Value.bool h4) (lightC_any _ (x1.Changes) (70) w ((fun _ => Wd.actX (l := l) 0 rfl (List.mem_of_getElem? hx1)) w hw) )))) rfl <| R.u 2 rfl <| R.nil ?_
          refine R.condF rfl rfl ?_
          refine R.reg rfl <| R.u 1 rfl <| R.q (q.add (r := ((k + 1 : Nat) : Int)) rfl rfl (wr (by omega))) rfl <| R.u 1 rfl <| R.nil ?_
          refine R.back (k + 1) rfl (by (exact ⟨by omega, all_snoc hx1 HA (by unfold lightA1; simp_all)⟩)) (by omega) ⟨rfl, rfl, trivial⟩ (fun _ => Wd.pik [] [0, 1] rfl rfl rfl)
        · refine R.cg rfl (q.call eg_38 rfl rfl (fun w hw => (cv (congrArg Value.bool h4) (lightC_any _ (x1.Changes) (70) w ((fun _ => Wd.actX (l := l) 0 rfl (List.mem_of_getElem? hx1)) w hw) )))) rfl <| R.u 2 rfl <| R.nil ?_
          refine R.condT rfl rfl ?_
          refine R.reg rfl <| R.u 1 rfl <| R.nil ?_
          exact R.rv rfl Try.results19 rfl (rB (by (unfold lightA; first | (rw [decide_eq_false (by omega)]; rfl) | (rw [decide_eq_true (by omega), all_up (by omega) HA]; rfl) | (rw [all_hit hx1 (show lightA1 _ = false from by unfold lightA1; simp; omega)]; simp) | (rw [all_hit hx1 (show lightA1 _ = false from by unfold lightA1; simp_all)]; simp))))
    · refine R.q (q.lss rfl rfl (decide_eq_false (by omega))) rfl <| R.nil ?_
      refine R.condF rfl rfl ?_
      refine R.reg rfl <| R.u 1 rfl <| R.nil ?_
      exact R.rv rfl Try.results19 rfl (rB (by (unfold lightA; first | (rw [decide_eq_false (by omega)]; rfl) | (rw [decide_eq_true (by omega), all_up (by omega) HA]; rfl) | (rw [all_hit hx1 (show lightA1 _ = false from by unfold lightA1; simp; omega)]; simp) | (rw [all_hit hx1 (show lightA1 _ = false from by unfold lightA1; simp_all)]; simp))))

set_option maxRecDepth 100000 in
set_option maxHeartbeats 2000000 in
theorem doR_any (v_rW v_rT v_rH v_rN : Value) (r : Realm) (a : Deed) (w : World) (own : List Nat) (H : Wd w (blks [] ++ own) ([] ++ [Res.held w own]) [Res.ls v_rW (r.Writs : List Writ), Res.ls v_rT (r.Things : List Thing), Res.ls v_rH (r.Held : List Held), Res.ls v_rN (r.Notes : List Note)] w) (hk : Ok r) : Calls Try.prog 20 #[.agg #[v_rW, v_rT, v_rH, v_rN, .int .i64 r.NextWrit, .int .i64 r.NextThing], .agg #[.string a.Kind, .string a.S, .int .i64 a.P.Holder, .int .i64 a.P.Slot, .int .i64 a.Q.Holder, .int .i64 a.Q.Slot, .int .i64 a.A, .int .i64 a.B, .int .i64 a.N, .int .u64 a.K, a.cv]] w fun e w' => ∃ z : Value × Value × Value × Value, e = .returned (.tuple #[.agg #[z.1, z.2.1, z.2.2.1, z.2.2.2, .int .i64 ((((doR r a)).1).NextWrit), .int .i64 ((((doR r a)).1).NextThing)], errv (((doR r a)).2)]) ∧ Wd w (blks [] ++ own) ([] ++ [Res.held w own]) [Res.ls z.1 ((((doR r a)).1).Writs : List Writ), Res.ls z.2.1 ((((doR r a)).1).Things : List Thing), Res.ls z.2.2.1 ((((doR r a)).1).Held : List Held), Res.ls z.2.2.2 ((((doR r a)).1).Notes : List Note)] w' := by
  have m_r_Writs := H.lenF 0 rfl
  have m_r_Things := H.lenF 1 rfl
  have m_r_Held := H.lenF 2 rfl
  have m_r_Notes := H.lenF 3 rfl
  refine R.enterN (n := 100) (vs := [.agg #[v_rW, v_rT, v_rH, v_rN, .int .i64 r.NextWrit, .int .i64 r.NextThing], .agg #[.string a.Kind, .string a.S, .int .i64 a.P.Holder, .int .i64 a.P.Slot, .int .i64 a.Q.Holder, .int .i64 a.Q.Slot, .int .i64 a.A, .int .i64 a.B, .int .i64 a.N, .int .u64 a.K, a.cv]]) (B := [Res.held w own]) [(0, .agg #[v_rW, v_rT, v_rH, v_rN, .int .i64 r.NextWrit, .int .i64 r.NextThing]), (1, .agg #[.string a.Kind, .string a.S, .int .i64 a.P.Holder, .int .i64 a.P.Slot, .int .i64 a.Q.Holder, .int .i64 a.Q.Slot, .int .i64 a.A, .int .i64 a.B, .int .i64 a.N, .int .u64 a.K, a.cv])] Try.func20 rfl rfl rfl rfl H ?_
  refine R.reg rfl <| ?_
  refine R.s rfl (s.box (cs := [v_rW, v_rT, v_rH, v_rN, .int .i64 r.NextWrit, .int .i64 r.NextThing]) rfl rfl rfl) fun b1 => ?_
  refine R.s rfl (s.box (cs := [.string a.Kind, .string a.S, .int .i64 a.P.Holder, .int .i64 a.P.Slot, .int .i64 a.Q.Holder, .int .i64 a.Q.Slot, .int .i64 a.A, .int .i64 a.B, .int .i64 a.N, .int .u64 a.K, a.cv]) rfl rfl rfl) fun b2 => ?_
  refine R.s rfl (s.alloc (cs := [.slice none 0 0, .slice none 0 0, .slice none 0 0, .slice none 0 0, .int .i64 0, .int .i64 0]) tZero_31 rfl rfl) fun b3 => ?_
  refine R.u 1 rfl <| R.nil ?_
  refine R.reg rfl <| R.q (q.fld (off' := 0) rfl tFld_59_0 rfl) rfl <| R.q (q.ld 1 rfl rfl tOne_9 rfl) rfl <| R.nil ?_
  refine R.reg rfl <| ?_
  by_cases h1 : a.Kind = ⟨#[109, 97, 107, 101]⟩
  · refine R.q (q.eqlS1 rfl rfl h1) rfl <| R.u 1 rfl <| R.nil ?_
    refine R.condT rfl rfl ?_
    refine R.reg rfl <| R.q (q.ldS 2 rfl rfl tAgg_31) rfl <| R.q (q.fld (off' := 2) rfl tFld_59_2 rfl) rfl <| R.q (q.ldP (ds := [.int .i64 a.P.Holder, .int .i64 a.P.Slot]) 1 rfl rfl tAgg_24 rfl) rfl <| R.q (q.fld (off' := 6) rfl tFld_59_4 rfl) rfl <| R.q (q.ld 1 rfl rfl tOne_3 rfl) rfl <| ?_
    refine R.s (B' := (fun g_ : Value × Value × Value × Value => [Res.box b3 [.slice none 0 0, .slice none 0 0, .slice none 0 0, .slice none 0 0, .int .i64 0, .int .i64 0] 31, Res.box b2 [.string a.Kind, .string a.S, .int .i64 a.P.Holder, .int .i64 a.P.Slot, .int .i64 a.Q.Holder, .int .i64 a.Q.Slot, .int .i64 a.A, .int .i64 a.B, .int .i64 a.N, .int .u64 a.K, a.cv] 59, Res.box b1 [v_rW, v_rT, v_rH, v_rN, .int .i64 r.NextWrit, .int .i64 r.NextThing] 31, Res.held w own])) (F' := (fun g_ : Value × Value × Value × Value => [Res.ls g_.1 ((((makeR r a.P a.A)).1).Writs : List Writ), Res.ls g_.2.1 ((((makeR r a.P a.A)).1).Things : List Thing), Res.ls g_.2.2.1 ((((makeR r a.P a.A)).1).Held : List Held), Res.ls g_.2.2.2 ((((makeR r a.P a.A)).1).Notes : List Note), Res.ls v_rW (r.Writs : List Writ), Res.ls v_rT (r.Things : List Thing), Res.ls v_rH (r.Held : List Held), Res.ls v_rN (r.Notes : List Note)])) rfl (s.callV (B0 := []) (Br := [Res.box b3 [.slice none 0 0, .slice none 0 0, .slice none 0 0, .slice none 0 0, .int .i64 0, .int .i64 0] 31, Res.box b2 [.string a.Kind, .string a.S, .int .i64 a.P.Holder, .int .i64 a.P.Slot, .int .i64 a.Q.Holder, .int .i64 a.Q.Slot, .int .i64 a.A, .int .i64 a.B, .int .i64 a.N, .int .u64 a.K, a.cv] 59, Res.box b1 [v_rW, v_rT, v_rH, v_rN, .int .i64 r.NextWrit, .int .i64 r.NextThing] 31, Res.held w own]) (F0 := [Res.ls v_rW (r.Writs : List Writ), Res.ls v_rT (r.Things : List Thing), Res.ls v_rH (r.Held : List Held), Res.ls v_rN (r.Notes : List Note)]) [0, 1, 2, 3] [0, 1, 2, 3] (fun g_ : Value × Value × Value × Value => .tuple #[.agg #[g_.1, g_.2.1, g_.2.2.1, g_.2.2.2, .int .i64 ((((makeR r a.P a.A)).1).NextWrit), .int .i64 ((((makeR r a.P a.A)).1).NextThing)], errv (((makeR r a.P a.A)).2)]) (fun g_ : Value × Value × Value × Value => []) (fun g_ : Value × Value × Value × Value => [Res.ls g_.1 ((((makeR r a.P a.A)).1).Writs : List Writ), Res.ls g_.2.1 ((((makeR r a.P a.A)).1).Things : List Thing), Res.ls g_.2.2.1 ((((makeR r a.P a.A)).1).Held : List Held), Res.ls g_.2.2.2 ((((makeR r a.P a.A)).1).Notes : List Note)]) rfl rfl rfl eg_17 rfl rfl (fun w own hw H => makeR_any v_rW v_rT v_rH v_rN (r) (a.P) (a.A) w own H (by assumption)) rfl) ?_
    rintro ⟨z1, z2, z3, z4⟩
    dsimp only
    refine R.u 2 rfl <| ?_
    refine R.s rfl (s.stV (us := [z1, z2, z3, z4, .int .i64 (((makeR r a.P a.A).1).NextWrit), .int .i64 (((makeR r a.P a.A).1).NextThing)]) (cs' := [z1, z2, z3, z4, .int .i64 (((makeR r a.P a.A).1).NextWrit), .int .i64 (((makeR r a.P a.A).1).NextThing)]) 0 _ rfl rfl rfl (fun _ _ => rfl) (.inl tAgg_31) (fun w hw => (one_cons (Sl.one ((fun _ => Wd.fls 0 rfl) w hw)) (one_cons (Sl.one ((fun _ => Wd.fls 1 rfl) w hw)) (one_cons (Sl.one ((fun _ => Wd.fls 2 rfl) w hw)) (one_cons (Sl.one ((fun _ => Wd.fls 3 rfl) w hw)) (one_cons rfl (one_cons rfl one_nil))))))) rfl rfl rfl) fun _ => ?_
    refine R.u 1 rfl <| R.nil ?_
    have hz : doR r a = (((makeR r a.P a.A).1), (makeR r a.P a.A).2) := by (unfold doR; (repeat' split) <;> first | rfl | (exfalso; simp_all; done) | (simp_all; done))
    rw [hz]
    exact R.w2 (z1, z2, z3, z4) [3] [0, 1, 2, 3] rfl Try.results20 (RV.cell 0 rfl rfl tAgg_31) (RV.tmp rfl) rfl rfl rfl (tup2 rfl rfl)
  · refine R.q (q.eqlS0 rfl rfl h1) rfl <| R.u 1 rfl <| R.nil ?_
    refine R.condF rfl rfl ?_
    refine R.reg rfl <| ?_
    by_cases h2 : a.Kind = ⟨#[103, 105, 118, 101]⟩
    · refine R.q (q.eqlS1 rfl rfl h2) rfl <| R.u 1 rfl <| R.nil ?_
      refine R.condT rfl rfl ?_
      refine R.reg rfl <| R.q (q.ldS 2 rfl rfl tAgg_31) rfl <| R.q (q.fld (off' := 2) rfl tFld_59_2 rfl) rfl <| R.q (q.ldP (ds := [.int .i64 a.P.Holder, .int .i64 a.P.Slot]) 1 rfl rfl tAgg_24 rfl) rfl <| R.q (q.fld (off' := 4) rfl tFld_59_3 rfl) rfl <| R.q (q.ldP (ds := [.int .i64 a.Q.Holder, .int .i64 a.Q.Slot]) 1 rfl rfl tAgg_24 rfl) rfl <| R.q (q.fld (off' := 6) rfl tFld_59_4 rfl) rfl <| R.q (q.ld 1 rfl rfl tOne_3 rfl) rfl <| R.q (q.fld (off' := 7) rfl tFld_59_5 rfl) rfl <| R.q (q.ld 1 rfl rfl tOne_3 rfl) rfl <| ?_
      refine R.s (B' := (fun g_ : Value × Value × Value × Value => [Res.box b3 [.slice none 0 0, .slice none 0 0, .slice none 0 0, .slice none 0 0, .int .i64 0, .int .i64 0] 31, Res.box b2 [.string a.Kind, .string a.S, .int .i64 a.P.Holder, .int .i64 a.P.Slot, .int .i64 a.Q.Holder, .int .i64 a.Q.Slot, .int .i64 a.A, .int .i64 a.B, .int .i64 a.N, .int .u64 a.K, a.cv] 59, Res.box b1 [v_rW, v_rT, v_rH, v_rN, .int .i64 r.NextWrit, .int .i64 r.NextThing] 31, Res.held w own])) (F' := (fun g_ : Value × Value × Value × Value => [Res.ls g_.1 ((((giveR r a.P a.Q a.A a.B)).1).Writs : List Writ), Res.ls g_.2.1 ((((giveR r a.P a.Q a.A a.B)).1).Things : List Thing), Res.ls g_.2.2.1 ((((giveR r a.P a.Q a.A a.B)).1).Held : List Held), Res.ls g_.2.2.2 ((((giveR r a.P a.Q a.A a.B)).1).Notes : List Note), Res.ls v_rW (r.Writs : List Writ), Res.ls v_rT (r.Things : List Thing), Res.ls v_rH (r.Held : List Held), Res.ls v_rN (r.Notes : List Note)])) rfl (s.callV (B0 := []) (Br := [Res.box b3 [.slice none 0 0, .slice none 0 0, .slice none 0 0, .slice none 0 0, .int .i64 0, .int .i64 0] 31, Res.box b2 [.string a.Kind, .string a.S, .int .i64 a.P.Holder, .int .i64 a.P.Slot, .int .i64 a.Q.Holder, .int .i64 a.Q.Slot, .int .i64 a.A, .int .i64 a.B, .int .i64 a.N, .int .u64 a.K, a.cv] 59, Res.box b1 [v_rW, v_rT, v_rH, v_rN, .int .i64 r.NextWrit, .int .i64 r.NextThing] 31, Res.held w own]) (F0 := [Res.ls v_rW (r.Writs : List Writ), Res.ls v_rT (r.Things : List Thing), Res.ls v_rH (r.Held : List Held), Res.ls v_rN (r.Notes : List Note)]) [0, 1, 2, 3] [0, 1, 2, 3] (fun g_ : Value × Value × Value × Value => .tuple #[.agg #[g_.1, g_.2.1, g_.2.2.1, g_.2.2.2, .int .i64 ((((giveR r a.P a.Q a.A a.B)).1).NextWrit), .int .i64 ((((giveR r a.P a.Q a.A a.B)).1).NextThing)], errv (((giveR r a.P a.Q a.A a.B)).2)]) (fun g_ : Value × Value × Value × Value => []) (fun g_ : Value × Value × Value × Value => [Res.ls g_.1 ((((giveR r a.P a.Q a.A a.B)).1).Writs : List Writ), Res.ls g_.2.1 ((((giveR r a.P a.Q a.A a.B)).1).Things : List Thing), Res.ls g_.2.2.1 ((((giveR r a.P a.Q a.A a.B)).1).Held : List Held), Res.ls g_.2.2.2 ((((giveR r a.P a.Q a.A a.B)).1).Notes : List Note)]) rfl rfl rfl eg_39 rfl rfl (fun w own hw H => giveR_any v_rW v_rT v_rH v_rN (r) (a.P) (a.Q) (a.A) (a.B) w own H (by assumption)) rfl) ?_
      rintro ⟨z5, z6, z7, z8⟩
      dsimp only
      refine R.u 2 rfl <| ?_
      refine R.s rfl (s.stV (us := [z5, z6, z7, z8, .int .i64 (((giveR r a.P a.Q a.A a.B).1).NextWrit), .int .i64 (((giveR r a.P a.Q a.A a.B).1).NextThing)]) (cs' := [z5, z6, z7, z8, .int .i64 (((giveR r a.P a.Q a.A a.B).1).NextWrit), .int .i64 (((giveR r a.P a.Q a.A a.B).1).NextThing)]) 0 _ rfl rfl rfl (fun _ _ => rfl) (.inl tAgg_31) (fun w hw => (one_cons (Sl.one ((fun _ => Wd.fls 0 rfl) w hw)) (one_cons (Sl.one ((fun _ => Wd.fls 1 rfl) w hw)) (one_cons (Sl.one ((fun _ => Wd.fls 2 rfl) w hw)) (one_cons (Sl.one ((fun _ => Wd.fls 3 rfl) w hw)) (one_cons rfl (one_cons rfl one_nil))))))) rfl rfl rfl) fun _ => ?_
      refine R.u 1 rfl <| R.nil ?_
      have hz : doR r a = (((giveR r a.P a.Q a.A a.B).1), (giveR r a.P a.Q a.A a.B).2) := by (unfold doR; (repeat' split) <;> first | rfl | (exfalso; simp_all; done) | (simp_all; done))
      rw [hz]
      exact R.w2 (z5, z6, z7, z8) [3] [0, 1, 2, 3] rfl Try.results20 (RV.cell 0 rfl rfl tAgg_31) (RV.tmp rfl) rfl rfl rfl (tup2 rfl rfl)
    · refine R.q (q.eqlS0 rfl rfl h2) rfl <| R.u 1 rfl <| R.nil ?_
      refine R.condF rfl rfl ?_
      refine R.reg rfl <| ?_
      by_cases h3 : a.Kind = ⟨#[109, 111, 118, 101]⟩
      · refine R.q (q.eqlS1 rfl rfl h3) rfl <| R.u 1 rfl <| R.nil ?_
        refine R.condT rfl rfl ?_
        refine R.reg rfl <| R.q (q.ldS 2 rfl rfl tAgg_31) rfl <| R.q (q.fld (off' := 2) rfl tFld_59_2 rfl) rfl <| R.q (q.ldP (ds := [.int .i64 a.P.Holder, .int .i64 a.P.Slot]) 1 rfl rfl tAgg_24 rfl) rfl <| R.q (q.fld (off' := 6) rfl tFld_59_4 rfl) rfl <| R.q (q.ld 1 rfl rfl tOne_3 rfl) rfl <| ?_
        refine R.s (B' := (fun g_ : Value × Value × Value × Value => [Res.box b3 [.slice none 0 0, .slice none 0 0, .slice none 0 0, .slice none 0 0, .int .i64 0, .int .i64 0] 31, Res.box b2 [.string a.Kind, .string a.S, .int .i64 a.P.Holder, .int .i64 a.P.Slot, .int .i64 a.Q.Holder, .int .i64 a.Q.Slot, .int .i64 a.A, .int .i64 a.B, .int .i64 a.N, .int .u64 a.K, a.cv] 59, Res.box b1 [v_rW, v_rT, v_rH, v_rN, .int .i64 r.NextWrit, .int .i64 r.NextThing] 31, Res.held w own])) (F' := (fun g_ : Value × Value × Value × Value => [Res.ls g_.1 ((((moveR r a.P a.A)).1).Writs : List Writ), Res.ls g_.2.1 ((((moveR r a.P a.A)).1).Things : List Thing), Res.ls g_.2.2.1 ((((moveR r a.P a.A)).1).Held : List Held), Res.ls g_.2.2.2 ((((moveR r a.P a.A)).1).Notes : List Note), Res.ls v_rW (r.Writs : List Writ), Res.ls v_rT (r.Things : List Thing), Res.ls v_rH (r.Held : List Held), Res.ls v_rN (r.Notes : List Note)])) rfl (s.callV (B0 := []) (Br := [Res.box b3 [.slice none 0 0, .slice none 0 0, .slice none 0 0, .slice none 0 0, .int .i64 0, .int .i64 0] 31, Res.box b2 [.string a.Kind, .string a.S, .int .i64 a.P.Holder, .int .i64 a.P.Slot, .int .i64 a.Q.Holder, .int .i64 a.Q.Slot, .int .i64 a.A, .int .i64 a.B, .int .i64 a.N, .int .u64 a.K, a.cv] 59, Res.box b1 [v_rW, v_rT, v_rH, v_rN, .int .i64 r.NextWrit, .int .i64 r.NextThing] 31, Res.held w own]) (F0 := [Res.ls v_rW (r.Writs : List Writ), Res.ls v_rT (r.Things : List Thing), Res.ls v_rH (r.Held : List Held), Res.ls v_rN (r.Notes : List Note)]) [0, 1, 2, 3] [0, 1, 2, 3] (fun g_ : Value × Value × Value × Value => .tuple #[.agg #[g_.1, g_.2.1, g_.2.2.1, g_.2.2.2, .int .i64 ((((moveR r a.P a.A)).1).NextWrit), .int .i64 ((((moveR r a.P a.A)).1).NextThing)], errv (((moveR r a.P a.A)).2)]) (fun g_ : Value × Value × Value × Value => []) (fun g_ : Value × Value × Value × Value => [Res.ls g_.1 ((((moveR r a.P a.A)).1).Writs : List Writ), Res.ls g_.2.1 ((((moveR r a.P a.A)).1).Things : List Thing), Res.ls g_.2.2.1 ((((moveR r a.P a.A)).1).Held : List Held), Res.ls g_.2.2.2 ((((moveR r a.P a.A)).1).Notes : List Note)]) rfl rfl rfl eg_40 rfl rfl (fun w own hw H => moveR_any v_rW v_rT v_rH v_rN (r) (a.P) (a.A) w own H (by assumption)) rfl) ?_
        rintro ⟨z9, z10, z11, z12⟩
        dsimp only
        refine R.u 2 rfl <| ?_
        refine R.s rfl (s.stV (us := [z9, z10, z11, z12, .int .i64 (((moveR r a.P a.A).1).NextWrit), .int .i64 (((moveR r a.P a.A).1).NextThing)]) (cs' := [z9, z10, z11, z12, .int .i64 (((moveR r a.P a.A).1).NextWrit), .int .i64 (((moveR r a.P a.A).1).NextThing)]) 0 _ rfl rfl rfl (fun _ _ => rfl) (.inl tAgg_31) (fun w hw => (one_cons (Sl.one ((fun _ => Wd.fls 0 rfl) w hw)) (one_cons (Sl.one ((fun _ => Wd.fls 1 rfl) w hw)) (one_cons (Sl.one ((fun _ => Wd.fls 2 rfl) w hw)) (one_cons (Sl.one ((fun _ => Wd.fls 3 rfl) w hw)) (one_cons rfl (one_cons rfl one_nil))))))) rfl rfl rfl) fun _ => ?_
        refine R.u 1 rfl <| R.nil ?_
        have hz : doR r a = (((moveR r a.P a.A).1), (moveR r a.P a.A).2) := by (unfold doR; (repeat' split) <;> first | rfl | (exfalso; simp_all; done) | (simp_all; done))
        rw [hz]
        exact R.w2 (z9, z10, z11, z12) [3] [0, 1, 2, 3] rfl Try.results20 (RV.cell 0 rfl rfl tAgg_31) (RV.tmp rfl) rfl rfl rfl (tup2 rfl rfl)
      · refine R.q (q.eqlS0 rfl rfl h3) rfl <| R.u 1 rfl <| R.nil ?_
        refine R.condF rfl rfl ?_
        refine R.reg rfl <| ?_
        by_cases h4 : a.Kind = ⟨#[100, 114, 111, 112]⟩
        · refine R.q (q.eqlS1 rfl rfl h4) rfl <| R.u 1 rfl <| R.nil ?_
          refine R.condT rfl rfl ?_
          refine R.reg rfl <| R.q (q.ldS 2 rfl rfl tAgg_31) rfl <| R.q (q.fld (off' := 2) rfl tFld_59_2 rfl) rfl <| R.q (q.ldP (ds := [.int .i64 a.P.Holder, .int .i64 a.P.Slot]) 1 rfl rfl tAgg_24 rfl) rfl <| ?_
          refine R.s (B' := (fun g_ : Value × Value × Value × Value => [Res.box b3 [.slice none 0 0, .slice none 0 0, .slice none 0 0, .slice none 0 0, .int .i64 0, .int .i64 0] 31, Res.box b2 [.string a.Kind, .string a.S, .int .i64 a.P.Holder, .int .i64 a.P.Slot, .int .i64 a.Q.Holder, .int .i64 a.Q.Slot, .int .i64 a.A, .int .i64 a.B, .int .i64 a.N, .int .u64 a.K, a.cv] 59, Res.box b1 [v_rW, v_rT, v_rH, v_rN, .int .i64 r.NextWrit, .int .i64 r.NextThing] 31, Res.held w own])) (F' := (fun g_ : Value × Value × Value × Value => [Res.ls g_.1 ((((dropR r a.P)).1).Writs : List Writ), Res.ls g_.2.1 ((((dropR r a.P)).1).Things : List Thing), Res.ls g_.2.2.1 ((((dropR r a.P)).1).Held : List Held), Res.ls g_.2.2.2 ((((dropR r a.P)).1).Notes : List Note), Res.ls v_rW (r.Writs : List Writ), Res.ls v_rT (r.Things : List Thing), Res.ls v_rH (r.Held : List Held), Res.ls v_rN (r.Notes : List Note)])) rfl (s.callV (B0 := []) (Br := [Res.box b3 [.slice none 0 0, .slice none 0 0, .slice none 0 0, .slice none 0 0, .int .i64 0, .int .i64 0] 31, Res.box b2 [.string a.Kind, .string a.S, .int .i64 a.P.Holder, .int .i64 a.P.Slot, .int .i64 a.Q.Holder, .int .i64 a.Q.Slot, .int .i64 a.A, .int .i64 a.B, .int .i64 a.N, .int .u64 a.K, a.cv] 59, Res.box b1 [v_rW, v_rT, v_rH, v_rN, .int .i64 r.NextWrit, .int .i64 r.NextThing] 31, Res.held w own]) (F0 := [Res.ls v_rW (r.Writs : List Writ), Res.ls v_rT (r.Things : List Thing), Res.ls v_rH (r.Held : List Held), Res.ls v_rN (r.Notes : List Note)]) [0, 1, 2, 3] [0, 1, 2, 3] (fun g_ : Value × Value × Value × Value => .tuple #[.agg #[g_.1, g_.2.1, g_.2.2.1, g_.2.2.2, .int .i64 ((((dropR r a.P)).1).NextWrit), .int .i64 ((((dropR r a.P)).1).NextThing)], errv (((dropR r a.P)).2)]) (fun g_ : Value × Value × Value × Value => []) (fun g_ : Value × Value × Value × Value => [Res.ls g_.1 ((((dropR r a.P)).1).Writs : List Writ), Res.ls g_.2.1 ((((dropR r a.P)).1).Things : List Thing), Res.ls g_.2.2.1 ((((dropR r a.P)).1).Held : List Held), Res.ls g_.2.2.2 ((((dropR r a.P)).1).Notes : List Note)]) rfl rfl rfl eg_41 rfl rfl (fun w own hw H => dropR_any v_rW v_rT v_rH v_rN (r) (a.P) w own H (by assumption)) rfl) ?_
          rintro ⟨z13, z14, z15, z16⟩
          dsimp only
          refine R.u 2 rfl <| ?_
          refine R.s rfl (s.stV (us := [z13, z14, z15, z16, .int .i64 (((dropR r a.P).1).NextWrit), .int .i64 (((dropR r a.P).1).NextThing)]) (cs' := [z13, z14, z15, z16, .int .i64 (((dropR r a.P).1).NextWrit), .int .i64 (((dropR r a.P).1).NextThing)]) 0 _ rfl rfl rfl (fun _ _ => rfl) (.inl tAgg_31) (fun w hw => (one_cons (Sl.one ((fun _ => Wd.fls 0 rfl) w hw)) (one_cons (Sl.one ((fun _ => Wd.fls 1 rfl) w hw)) (one_cons (Sl.one ((fun _ => Wd.fls 2 rfl) w hw)) (one_cons (Sl.one ((fun _ => Wd.fls 3 rfl) w hw)) (one_cons rfl (one_cons rfl one_nil))))))) rfl rfl rfl) fun _ => ?_
          refine R.u 1 rfl <| R.nil ?_
          have hz : doR r a = (((dropR r a.P).1), (dropR r a.P).2) := by (unfold doR; (repeat' split) <;> first | rfl | (exfalso; simp_all; done) | (simp_all; done))
          rw [hz]
          exact R.w2 (z13, z14, z15, z16) [3] [0, 1, 2, 3] rfl Try.results20 (RV.cell 0 rfl rfl tAgg_31) (RV.tmp rfl) rfl rfl rfl (tup2 rfl rfl)
        · refine R.q (q.eqlS0 rfl rfl h4) rfl <| R.u 1 rfl <| R.nil ?_
          refine R.condF rfl rfl ?_
          refine R.reg rfl <| ?_
          by_cases h5 : a.Kind = ⟨#[114, 101, 118, 111, 107, 101]⟩
          · refine R.q (q.eqlS1 rfl rfl h5) rfl <| R.u 1 rfl <| R.nil ?_
            refine R.condT rfl rfl ?_
            refine R.reg rfl <| R.q (q.ldS 2 rfl rfl tAgg_31) rfl <| R.q (q.fld (off' := 2) rfl tFld_59_2 rfl) rfl <| R.q (q.ldP (ds := [.int .i64 a.P.Holder, .int .i64 a.P.Slot]) 1 rfl rfl tAgg_24 rfl) rfl <| ?_
            refine R.s (B' := (fun g_ : Value × Value × Value × Value => [Res.box b3 [.slice none 0 0, .slice none 0 0, .slice none 0 0, .slice none 0 0, .int .i64 0, .int .i64 0] 31, Res.box b2 [.string a.Kind, .string a.S, .int .i64 a.P.Holder, .int .i64 a.P.Slot, .int .i64 a.Q.Holder, .int .i64 a.Q.Slot, .int .i64 a.A, .int .i64 a.B, .int .i64 a.N, .int .u64 a.K, a.cv] 59, Res.box b1 [v_rW, v_rT, v_rH, v_rN, .int .i64 r.NextWrit, .int .i64 r.NextThing] 31, Res.held w own])) (F' := (fun g_ : Value × Value × Value × Value => [Res.ls g_.1 ((((revokeR r a.P)).1).Writs : List Writ), Res.ls g_.2.1 ((((revokeR r a.P)).1).Things : List Thing), Res.ls g_.2.2.1 ((((revokeR r a.P)).1).Held : List Held), Res.ls g_.2.2.2 ((((revokeR r a.P)).1).Notes : List Note), Res.ls v_rW (r.Writs : List Writ), Res.ls v_rT (r.Things : List Thing), Res.ls v_rH (r.Held : List Held), Res.ls v_rN (r.Notes : List Note)])) rfl (s.callV (B0 := []) (Br := [Res.box b3 [.slice none 0 0, .slice none 0 0, .slice none 0 0, .slice none 0 0, .int .i64 0, .int .i64 0] 31, Res.box b2 [.string a.Kind, .string a.S, .int .i64 a.P.Holder, .int .i64 a.P.Slot, .int .i64 a.Q.Holder, .int .i64 a.Q.Slot, .int .i64 a.A, .int .i64 a.B, .int .i64 a.N, .int .u64 a.K, a.cv] 59, Res.box b1 [v_rW, v_rT, v_rH, v_rN, .int .i64 r.NextWrit, .int .i64 r.NextThing] 31, Res.held w own]) (F0 := [Res.ls v_rW (r.Writs : List Writ), Res.ls v_rT (r.Things : List Thing), Res.ls v_rH (r.Held : List Held), Res.ls v_rN (r.Notes : List Note)]) [0, 1, 2, 3] [0, 1, 2, 3] (fun g_ : Value × Value × Value × Value => .tuple #[.agg #[g_.1, g_.2.1, g_.2.2.1, g_.2.2.2, .int .i64 ((((revokeR r a.P)).1).NextWrit), .int .i64 ((((revokeR r a.P)).1).NextThing)], errv (((revokeR r a.P)).2)]) (fun g_ : Value × Value × Value × Value => []) (fun g_ : Value × Value × Value × Value => [Res.ls g_.1 ((((revokeR r a.P)).1).Writs : List Writ), Res.ls g_.2.1 ((((revokeR r a.P)).1).Things : List Thing), Res.ls g_.2.2.1 ((((revokeR r a.P)).1).Held : List Held), Res.ls g_.2.2.2 ((((revokeR r a.P)).1).Notes : List Note)]) rfl rfl rfl eg_9 rfl rfl (fun w own hw H => revokeR_any v_rW v_rT v_rH v_rN (r) (a.P) w own H (by assumption)) rfl) ?_
            rintro ⟨z17, z18, z19, z20⟩
            dsimp only
            refine R.u 2 rfl <| ?_
            refine R.s rfl (s.stV (us := [z17, z18, z19, z20, .int .i64 (((revokeR r a.P).1).NextWrit), .int .i64 (((revokeR r a.P).1).NextThing)]) (cs' := [z17, z18, z19, z20, .int .i64 (((revokeR r a.P).1).NextWrit), .int .i64 (((revokeR r a.P).1).NextThing)]) 0 _ rfl rfl rfl (fun _ _ => rfl) (.inl tAgg_31) (fun w hw => (one_cons (Sl.one ((fun _ => Wd.fls 0 rfl) w hw)) (one_cons (Sl.one ((fun _ => Wd.fls 1 rfl) w hw)) (one_cons (Sl.one ((fun _ => Wd.fls 2 rfl) w hw)) (one_cons (Sl.one ((fun _ => Wd.fls 3 rfl) w hw)) (one_cons rfl (one_cons rfl one_nil))))))) rfl rfl rfl) fun _ => ?_
            refine R.u 1 rfl <| R.nil ?_
            have hz : doR r a = (((revokeR r a.P).1), (revokeR r a.P).2) := by (unfold doR; (repeat' split) <;> first | rfl | (exfalso; simp_all; done) | (simp_all; done))
            rw [hz]
            exact R.w2 (z17, z18, z19, z20) [3] [0, 1, 2, 3] rfl Try.results20 (RV.cell 0 rfl rfl tAgg_31) (RV.tmp rfl) rfl rfl rfl (tup2 rfl rfl)
          · refine R.q (q.eqlS0 rfl rfl h5) rfl <| R.u 1 rfl <| R.nil ?_
            refine R.condF rfl rfl ?_
            refine R.reg rfl <| ?_
            by_cases h6 : a.Kind = ⟨#[119, 114, 105, 116, 101]⟩
            · refine R.q (q.eqlS1 rfl rfl h6) rfl <| R.u 1 rfl <| R.nil ?_
              refine R.condT rfl rfl ?_
              refine R.reg rfl <| R.q (q.ldS 2 rfl rfl tAgg_31) rfl <| R.q (q.fld (off' := 2) rfl tFld_59_2 rfl) rfl <| R.q (q.ldP (ds := [.int .i64 a.P.Holder, .int .i64 a.P.Slot]) 1 rfl rfl tAgg_24 rfl) rfl <| R.q (q.fld (off' := 1) rfl tFld_59_1 rfl) rfl <| R.q (q.ld 1 rfl rfl tOne_9 rfl) rfl <| ?_
              refine R.s (B' := (fun g_ : Value × Value × Value × Value => [Res.box b3 [.slice none 0 0, .slice none 0 0, .slice none 0 0, .slice none 0 0, .int .i64 0, .int .i64 0] 31, Res.box b2 [.string a.Kind, .string a.S, .int .i64 a.P.Holder, .int .i64 a.P.Slot, .int .i64 a.Q.Holder, .int .i64 a.Q.Slot, .int .i64 a.A, .int .i64 a.B, .int .i64 a.N, .int .u64 a.K, a.cv] 59, Res.box b1 [v_rW, v_rT, v_rH, v_rN, .int .i64 r.NextWrit, .int .i64 r.NextThing] 31, Res.held w own])) (F' := (fun g_ : Value × Value × Value × Value => [Res.ls g_.1 ((((writeR r a.P a.S)).1).Writs : List Writ), Res.ls g_.2.1 ((((writeR r a.P a.S)).1).Things : List Thing), Res.ls g_.2.2.1 ((((writeR r a.P a.S)).1).Held : List Held), Res.ls g_.2.2.2 ((((writeR r a.P a.S)).1).Notes : List Note), Res.ls v_rW (r.Writs : List Writ), Res.ls v_rT (r.Things : List Thing), Res.ls v_rH (r.Held : List Held), Res.ls v_rN (r.Notes : List Note)])) rfl (s.callV (B0 := []) (Br := [Res.box b3 [.slice none 0 0, .slice none 0 0, .slice none 0 0, .slice none 0 0, .int .i64 0, .int .i64 0] 31, Res.box b2 [.string a.Kind, .string a.S, .int .i64 a.P.Holder, .int .i64 a.P.Slot, .int .i64 a.Q.Holder, .int .i64 a.Q.Slot, .int .i64 a.A, .int .i64 a.B, .int .i64 a.N, .int .u64 a.K, a.cv] 59, Res.box b1 [v_rW, v_rT, v_rH, v_rN, .int .i64 r.NextWrit, .int .i64 r.NextThing] 31, Res.held w own]) (F0 := [Res.ls v_rW (r.Writs : List Writ), Res.ls v_rT (r.Things : List Thing), Res.ls v_rH (r.Held : List Held), Res.ls v_rN (r.Notes : List Note)]) [0, 1, 2, 3] [0, 1, 2, 3] (fun g_ : Value × Value × Value × Value => .tuple #[.agg #[g_.1, g_.2.1, g_.2.2.1, g_.2.2.2, .int .i64 ((((writeR r a.P a.S)).1).NextWrit), .int .i64 ((((writeR r a.P a.S)).1).NextThing)], errv (((writeR r a.P a.S)).2)]) (fun g_ : Value × Value × Value × Value => []) (fun g_ : Value × Value × Value × Value => [Res.ls g_.1 ((((writeR r a.P a.S)).1).Writs : List Writ), Res.ls g_.2.1 ((((writeR r a.P a.S)).1).Things : List Thing), Res.ls g_.2.2.1 ((((writeR r a.P a.S)).1).Held : List Held), Res.ls g_.2.2.2 ((((writeR r a.P a.S)).1).Notes : List Note)]) rfl rfl rfl eg_42 rfl rfl (fun w own hw H => writeR_any v_rW v_rT v_rH v_rN (r) (a.P) (a.S) w own H (by assumption)) rfl) ?_
              rintro ⟨z21, z22, z23, z24⟩
              dsimp only
              refine R.u 2 rfl <| ?_
              refine R.s rfl (s.stV (us := [z21, z22, z23, z24, .int .i64 (((writeR r a.P a.S).1).NextWrit), .int .i64 (((writeR r a.P a.S).1).NextThing)]) (cs' := [z21, z22, z23, z24, .int .i64 (((writeR r a.P a.S).1).NextWrit), .int .i64 (((writeR r a.P a.S).1).NextThing)]) 0 _ rfl rfl rfl (fun _ _ => rfl) (.inl tAgg_31) (fun w hw => (one_cons (Sl.one ((fun _ => Wd.fls 0 rfl) w hw)) (one_cons (Sl.one ((fun _ => Wd.fls 1 rfl) w hw)) (one_cons (Sl.one ((fun _ => Wd.fls 2 rfl) w hw)) (one_cons (Sl.one ((fun _ => Wd.fls 3 rfl) w hw)) (one_cons rfl (one_cons rfl one_nil))))))) rfl rfl rfl) fun _ => ?_
              refine R.u 1 rfl <| R.nil ?_
              have hz : doR r a = (((writeR r a.P a.S).1), (writeR r a.P a.S).2) := by (unfold doR; (repeat' split) <;> first | rfl | (exfalso; simp_all; done) | (simp_all; done))
              rw [hz]
              exact R.w2 (z21, z22, z23, z24) [3] [0, 1, 2, 3] rfl Try.results20 (RV.cell 0 rfl rfl tAgg_31) (RV.tmp rfl) rfl rfl rfl (tup2 rfl rfl)
            · refine R.q (q.eqlS0 rfl rfl h6) rfl <| R.u 1 rfl <| R.nil ?_
              refine R.condF rfl rfl ?_
              refine R.reg rfl <| ?_
              by_cases h7 : a.Kind = ⟨#[115, 101, 110, 100]⟩
              · refine R.q (q.eqlS1 rfl rfl h7) rfl <| R.u 1 rfl <| R.nil ?_
                refine R.condT rfl rfl ?_
                refine R.reg rfl <| R.q (q.ldS 2 rfl rfl tAgg_31) rfl <| R.q (q.fld (off' := 2) rfl tFld_59_2 rfl) rfl <| R.q (q.ldP (ds := [.int .i64 a.P.Holder, .int .i64 a.P.Slot]) 1 rfl rfl tAgg_24 rfl) rfl <| R.q (q.fld (off' := 1) rfl tFld_59_1 rfl) rfl <| R.q (q.ld 1 rfl rfl tOne_9 rfl) rfl <| R.q (q.fld (off' := 6) rfl tFld_59_4 rfl) rfl <| R.q (q.ld 1 rfl rfl tOne_3 rfl) rfl <| R.q (q.fld (off' := 7) rfl tFld_59_5 rfl) rfl <| R.q (q.ld 1 rfl rfl tOne_3 rfl) rfl <| ?_
                refine R.s (B' := (fun g_ : Value × Value × Value × Value => [Res.box b3 [.slice none 0 0, .slice none 0 0, .slice none 0 0, .slice none 0 0, .int .i64 0, .int .i64 0] 31, Res.box b2 [.string a.Kind, .string a.S, .int .i64 a.P.Holder, .int .i64 a.P.Slot, .int .i64 a.Q.Holder, .int .i64 a.Q.Slot, .int .i64 a.A, .int .i64 a.B, .int .i64 a.N, .int .u64 a.K, a.cv] 59, Res.box b1 [v_rW, v_rT, v_rH, v_rN, .int .i64 r.NextWrit, .int .i64 r.NextThing] 31, Res.held w own])) (F' := (fun g_ : Value × Value × Value × Value => [Res.ls g_.1 ((((sendR r a.P a.S a.A a.B)).1).Writs : List Writ), Res.ls g_.2.1 ((((sendR r a.P a.S a.A a.B)).1).Things : List Thing), Res.ls g_.2.2.1 ((((sendR r a.P a.S a.A a.B)).1).Held : List Held), Res.ls g_.2.2.2 ((((sendR r a.P a.S a.A a.B)).1).Notes : List Note), Res.ls v_rW (r.Writs : List Writ), Res.ls v_rT (r.Things : List Thing), Res.ls v_rH (r.Held : List Held), Res.ls v_rN (r.Notes : List Note)])) rfl (s.callV (B0 := []) (Br := [Res.box b3 [.slice none 0 0, .slice none 0 0, .slice none 0 0, .slice none 0 0, .int .i64 0, .int .i64 0] 31, Res.box b2 [.string a.Kind, .string a.S, .int .i64 a.P.Holder, .int .i64 a.P.Slot, .int .i64 a.Q.Holder, .int .i64 a.Q.Slot, .int .i64 a.A, .int .i64 a.B, .int .i64 a.N, .int .u64 a.K, a.cv] 59, Res.box b1 [v_rW, v_rT, v_rH, v_rN, .int .i64 r.NextWrit, .int .i64 r.NextThing] 31, Res.held w own]) (F0 := [Res.ls v_rW (r.Writs : List Writ), Res.ls v_rT (r.Things : List Thing), Res.ls v_rH (r.Held : List Held), Res.ls v_rN (r.Notes : List Note)]) [0, 1, 2, 3] [0, 1, 2, 3] (fun g_ : Value × Value × Value × Value => .tuple #[.agg #[g_.1, g_.2.1, g_.2.2.1, g_.2.2.2, .int .i64 ((((sendR r a.P a.S a.A a.B)).1).NextWrit), .int .i64 ((((sendR r a.P a.S a.A a.B)).1).NextThing)], errv (((sendR r a.P a.S a.A a.B)).2)]) (fun g_ : Value × Value × Value × Value => []) (fun g_ : Value × Value × Value × Value => [Res.ls g_.1 ((((sendR r a.P a.S a.A a.B)).1).Writs : List Writ), Res.ls g_.2.1 ((((sendR r a.P a.S a.A a.B)).1).Things : List Thing), Res.ls g_.2.2.1 ((((sendR r a.P a.S a.A a.B)).1).Held : List Held), Res.ls g_.2.2.2 ((((sendR r a.P a.S a.A a.B)).1).Notes : List Note)]) rfl rfl rfl eg_43 rfl rfl (fun w own hw H => sendR_any v_rW v_rT v_rH v_rN (r) (a.P) (a.S) (a.A) (a.B) w own H (by assumption)) rfl) ?_
                rintro ⟨z25, z26, z27, z28⟩
                dsimp only
                refine R.u 2 rfl <| ?_
                refine R.s rfl (s.stV (us := [z25, z26, z27, z28, .int .i64 (((sendR r a.P a.S a.A a.B).1).NextWrit), .int .i64 (((sendR r a.P a.S a.A a.B).1).NextThing)]) (cs' := [z25, z26, z27, z28, .int .i64 (((sendR r a.P a.S a.A a.B).1).NextWrit), .int .i64 (((sendR r a.P a.S a.A a.B).1).NextThing)]) 0 _ rfl rfl rfl (fun _ _ => rfl) (.inl tAgg_31) (fun w hw => (one_cons (Sl.one ((fun _ => Wd.fls 0 rfl) w hw)) (one_cons (Sl.one ((fun _ => Wd.fls 1 rfl) w hw)) (one_cons (Sl.one ((fun _ => Wd.fls 2 rfl) w hw)) (one_cons (Sl.one ((fun _ => Wd.fls 3 rfl) w hw)) (one_cons rfl (one_cons rfl one_nil))))))) rfl rfl rfl) fun _ => ?_
                refine R.u 1 rfl <| R.nil ?_
                have hz : doR r a = (((sendR r a.P a.S a.A a.B).1), (sendR r a.P a.S a.A a.B).2) := by (unfold doR; (repeat' split) <;> first | rfl | (exfalso; simp_all; done) | (simp_all; done))
                rw [hz]
                exact R.w2 (z25, z26, z27, z28) [3] [0, 1, 2, 3] rfl Try.results20 (RV.cell 0 rfl rfl tAgg_31) (RV.tmp rfl) rfl rfl rfl (tup2 rfl rfl)
              · refine R.q (q.eqlS0 rfl rfl h7) rfl <| R.u 1 rfl <| R.nil ?_
                refine R.condF rfl rfl ?_
                refine R.reg rfl <| ?_
                by_cases h8 : a.Kind = ⟨#[116, 97, 107, 101]⟩
                · refine R.q (q.eqlS1 rfl rfl h8) rfl <| R.u 1 rfl <| R.nil ?_
                  refine R.condT rfl rfl ?_
                  refine R.reg rfl <| R.q (q.ldS 2 rfl rfl tAgg_31) rfl <| R.q (q.fld (off' := 2) rfl tFld_59_2 rfl) rfl <| R.q (q.ldP (ds := [.int .i64 a.P.Holder, .int .i64 a.P.Slot]) 1 rfl rfl tAgg_24 rfl) rfl <| ?_
                  refine R.s (B' := (fun g_ : Value × Value × Value × Value => [Res.box b3 [.slice none 0 0, .slice none 0 0, .slice none 0 0, .slice none 0 0, .int .i64 0, .int .i64 0] 31, Res.box b2 [.string a.Kind, .string a.S, .int .i64 a.P.Holder, .int .i64 a.P.Slot, .int .i64 a.Q.Holder, .int .i64 a.Q.Slot, .int .i64 a.A, .int .i64 a.B, .int .i64 a.N, .int .u64 a.K, a.cv] 59, Res.box b1 [v_rW, v_rT, v_rH, v_rN, .int .i64 r.NextWrit, .int .i64 r.NextThing] 31, Res.held w own])) (F' := (fun g_ : Value × Value × Value × Value => [Res.ls g_.1 ((((takeR r a.P)).1).Writs : List Writ), Res.ls g_.2.1 ((((takeR r a.P)).1).Things : List Thing), Res.ls g_.2.2.1 ((((takeR r a.P)).1).Held : List Held), Res.ls g_.2.2.2 ((((takeR r a.P)).1).Notes : List Note), Res.ls v_rW (r.Writs : List Writ), Res.ls v_rT (r.Things : List Thing), Res.ls v_rH (r.Held : List Held), Res.ls v_rN (r.Notes : List Note)])) rfl (s.callV (B0 := []) (Br := [Res.box b3 [.slice none 0 0, .slice none 0 0, .slice none 0 0, .slice none 0 0, .int .i64 0, .int .i64 0] 31, Res.box b2 [.string a.Kind, .string a.S, .int .i64 a.P.Holder, .int .i64 a.P.Slot, .int .i64 a.Q.Holder, .int .i64 a.Q.Slot, .int .i64 a.A, .int .i64 a.B, .int .i64 a.N, .int .u64 a.K, a.cv] 59, Res.box b1 [v_rW, v_rT, v_rH, v_rN, .int .i64 r.NextWrit, .int .i64 r.NextThing] 31, Res.held w own]) (F0 := [Res.ls v_rW (r.Writs : List Writ), Res.ls v_rT (r.Things : List Thing), Res.ls v_rH (r.Held : List Held), Res.ls v_rN (r.Notes : List Note)]) [0, 1, 2, 3] [0, 1, 2, 3] (fun g_ : Value × Value × Value × Value => .tuple #[.agg #[g_.1, g_.2.1, g_.2.2.1, g_.2.2.2, .int .i64 ((((takeR r a.P)).1).NextWrit), .int .i64 ((((takeR r a.P)).1).NextThing)], .agg #[.int .i64 ((((takeR r a.P)).2.1).Port), .string ((((takeR r a.P)).2.1).Data), .int .i64 ((((takeR r a.P)).2.1).Badge), .int .i64 ((((takeR r a.P)).2.1).Writ)], .int .i64 (((takeR r a.P)).2.2.1), errv (((takeR r a.P)).2.2.2)]) (fun g_ : Value × Value × Value × Value => []) (fun g_ : Value × Value × Value × Value => [Res.ls g_.1 ((((takeR r a.P)).1).Writs : List Writ), Res.ls g_.2.1 ((((takeR r a.P)).1).Things : List Thing), Res.ls g_.2.2.1 ((((takeR r a.P)).1).Held : List Held), Res.ls g_.2.2.2 ((((takeR r a.P)).1).Notes : List Note)]) rfl rfl rfl eg_44 rfl rfl (fun w own hw H => takeR_any v_rW v_rT v_rH v_rN (r) (a.P) w own H (by assumption)) rfl) ?_
                  rintro ⟨z29, z30, z31, z32⟩
                  dsimp only
                  refine R.u 5 rfl <| ?_
                  refine R.s rfl (s.alloc (cs := [.slice none 0 0, .slice none 0 0, .slice none 0 0, .slice none 0 0, .int .i64 0, .int .i64 0]) tZero_31 rfl rfl) fun b4 => ?_
                  refine R.s rfl (s.alloc (cs := [.int .i64 0, .string (⟨#[]⟩), .int .i64 0, .int .i64 0]) tZero_71 rfl rfl) fun b5 => ?_
                  refine R.s rfl (s.stV (us := [z29, z30, z31, z32, .int .i64 (((takeR r a.P).1).NextWrit), .int .i64 (((takeR r a.P).1).NextThing)]) (cs' := [z29, z30, z31, z32, .int .i64 (((takeR r a.P).1).NextWrit), .int .i64 (((takeR r a.P).1).NextThing)]) 1 _ rfl rfl rfl (fun _ _ => rfl) (.inl tAgg_31) (fun w hw => (one_cons (Sl.one ((fun _ => Wd.fls 0 rfl) w hw)) (one_cons (Sl.one ((fun _ => Wd.fls 1 rfl) w hw)) (one_cons (Sl.one ((fun _ => Wd.fls 2 rfl) w hw)) (one_cons (Sl.one ((fun _ => Wd.fls 3 rfl) w hw)) (one_cons rfl (one_cons rfl one_nil))))))) rfl rfl rfl) fun _ => ?_
                  refine R.s rfl (s.st (us := [.int .i64 (((takeR r a.P).2.1).Port), .string (((takeR r a.P).2.1).Data), .int .i64 (((takeR r a.P).2.1).Badge), .int .i64 (((takeR r a.P).2.1).Writ)]) (cs' := [.int .i64 (((takeR r a.P).2.1).Port), .string (((takeR r a.P).2.1).Data), .int .i64 (((takeR r a.P).2.1).Badge), .int .i64 (((takeR r a.P).2.1).Writ)]) 0 _ rfl rfl rfl rfl (.inl tAgg_71) rfl rfl rfl rfl) fun _ => ?_
                  refine R.u 2 rfl <| R.nil ?_
                  refine R.reg rfl <| R.q (q.ldS 1 rfl rfl tAgg_31) rfl <| R.u 1 rfl <| ?_
                  refine R.s rfl (s.stV (us := [z29, z30, z31, z32, .int .i64 (((takeR r a.P).1).NextWrit), .int .i64 (((takeR r a.P).1).NextThing)]) (cs' := [z29, z30, z31, z32, .int .i64 (((takeR r a.P).1).NextWrit), .int .i64 (((takeR r a.P).1).NextThing)]) 2 _ rfl rfl rfl (fun _ _ => rfl) (.inl tAgg_31) (fun w hw => (one_cons (Sl.one ((fun _ => Wd.fls 0 rfl) w hw)) (one_cons (Sl.one ((fun _ => Wd.fls 1 rfl) w hw)) (one_cons (Sl.one ((fun _ => Wd.fls 2 rfl) w hw)) (one_cons (Sl.one ((fun _ => Wd.fls 3 rfl) w hw)) (one_cons rfl (one_cons rfl one_nil))))))) rfl rfl rfl) fun _ => ?_
                  refine R.u 1 rfl <| R.nil ?_
                  have hz : doR r a = (((takeR r a.P).1), (takeR r a.P).2.2.2) := by (unfold doR; (repeat' split) <;> first | rfl | (exfalso; simp_all; done) | (simp_all; done))
                  rw [hz]
                  exact R.w2 (z29, z30, z31, z32) [5] [0, 1, 2, 3] rfl Try.results20 (RV.cell 2 rfl rfl tAgg_31) (RV.tmp rfl) rfl rfl rfl (tup2 rfl rfl)
                · refine R.q (q.eqlS0 rfl rfl h8) rfl <| R.u 1 rfl <| R.nil ?_
                  refine R.condF rfl rfl ?_
                  refine R.reg rfl <| R.q (q.ldS 2 rfl rfl tAgg_31) rfl <| ?_
                  refine R.s rfl (s.stV (us := [v_rW, v_rT, v_rH, v_rN, .int .i64 r.NextWrit, .int .i64 r.NextThing]) (cs' := [v_rW, v_rT, v_rH, v_rN, .int .i64 r.NextWrit, .int .i64 r.NextThing]) 0 _ rfl rfl rfl (fun _ _ => rfl) (.inl tAgg_31) (fun w hw => (one_cons (Sl.one ((fun _ => Wd.fls 0 rfl) w hw)) (one_cons (Sl.one ((fun _ => Wd.fls 1 rfl) w hw)) (one_cons (Sl.one ((fun _ => Wd.fls 2 rfl) w hw)) (one_cons (Sl.one ((fun _ => Wd.fls 3 rfl) w hw)) (one_cons rfl (one_cons rfl one_nil))))))) rfl rfl rfl) fun _ => ?_
                  refine R.u 1 rfl <| R.nil ?_
                  have hz : doR r a = (r, 0) := by (unfold doR; (repeat' split) <;> first | rfl | (exfalso; simp_all; done) | (simp_all; done))
                  rw [hz]
                  exact R.w2 (v_rW, v_rT, v_rH, v_rN) [3] [0, 1, 2, 3] rfl Try.results20 (RV.cell 0 rfl rfl tAgg_31) (RV.tmp rfl) rfl rfl rfl (tup2 rfl (err0 rfl))

theorem grown_any (v_l : Value) (l : List Deed) (w : World) (own : List Nat) (H : Wd w (blks [] ++ own) ([] ++ [Res.held w own]) [Res.ls v_l (l : List Deed), Res.acts l] w)  : Calls Try.prog 7 #[v_l] w fun e w' => ∃ z : Value × Value × Value × Value, e = .returned (.tuple #[.agg #[z.1, z.2.1, z.2.2.1, z.2.2.2, .int .i64 ((((grownR l)).1).NextWrit), .int .i64 ((((grownR l)).1).NextThing)], .bool (((grownR l)).2)]) ∧ Wd w (blks [] ++ own) ([] ++ [Res.held w own]) [Res.ls z.1 ((((grownR l)).1).Writs : List Writ), Res.ls z.2.1 ((((grownR l)).1).Things : List Thing), Res.ls z.2.2.1 ((((grownR l)).1).Held : List Held), Res.ls z.2.2.2 ((((grownR l)).1).Notes : List Note)] w' := by
  have m_l := H.lenF 0 rfl
  refine R.enterN (n := 32) (vs := [v_l]) (B := [Res.held w own]) [(0, v_l)] Try.func7 rfl rfl rfl rfl H ?_
  refine R.reg rfl <| ?_
  refine R.s rfl (s.alloc (cs := [.slice none 0 0, .slice none 0 0, .slice none 0 0, .slice none 0 0, .int .i64 0, .int .i64 0]) tZero_31 rfl rfl) fun b1 => ?_
  refine R.u 1 rfl <| R.nil ?_
  refine R.reg rfl <| R.u 1 rfl <| ?_
  rcases Bool.eq_false_or_eq_true (lightA l 80) with h1 | h1
  · refine R.c (q.call eg_19 rfl rfl (fun w hw => (cv (congrArg Value.bool h1) (lightA_any _ (l) (80) w ((fun _ => Wd.fls 0 rfl) w hw) (hw.acts 1 rfl) )))) rfl <| R.u 1 rfl <| R.nil ?_
    refine R.condF rfl rfl ?_
    refine R.reg rfl <| ?_
    refine R.s (B' := (fun g_ : Value × Value × Value × Value => [Res.box b1 [.slice none 0 0, .slice none 0 0, .slice none 0 0, .slice none 0 0, .int .i64 0, .int .i64 0] 31, Res.held w own])) (F' := (fun g_ : Value × Value × Value × Value => [Res.ls g_.1 (((⟨[], [], [], [], 1, 1⟩ : Realm)).Writs : List Writ), Res.ls g_.2.1 (((⟨[], [], [], [], 1, 1⟩ : Realm)).Things : List Thing), Res.ls g_.2.2.1 (((⟨[], [], [], [], 1, 1⟩ : Realm)).Held : List Held), Res.ls g_.2.2.2 (((⟨[], [], [], [], 1, 1⟩ : Realm)).Notes : List Note), Res.ls v_l (l : List Deed), Res.acts l])) rfl (s.callV (B0 := []) (Br := [Res.box b1 [.slice none 0 0, .slice none 0 0, .slice none 0 0, .slice none 0 0, .int .i64 0, .int .i64 0] 31, Res.held w own]) (F0 := []) [0, 1] [] (fun g_ : Value × Value × Value × Value => .agg #[g_.1, g_.2.1, g_.2.2.1, g_.2.2.2, .int .i64 (((⟨[], [], [], [], 1, 1⟩ : Realm)).NextWrit), .int .i64 (((⟨[], [], [], [], 1, 1⟩ : Realm)).NextThing)]) (fun g_ : Value × Value × Value × Value => []) (fun g_ : Value × Value × Value × Value => [Res.ls g_.1 (((⟨[], [], [], [], 1, 1⟩ : Realm)).Writs : List Writ), Res.ls g_.2.1 (((⟨[], [], [], [], 1, 1⟩ : Realm)).Things : List Thing), Res.ls g_.2.2.1 (((⟨[], [], [], [], 1, 1⟩ : Realm)).Held : List Held), Res.ls g_.2.2.2 (((⟨[], [], [], [], 1, 1⟩ : Realm)).Notes : List Note)]) rfl rfl rfl eg_18 rfl rfl (fun w own hw H => newR_any  w own H ) rfl) ?_
    rintro ⟨z1, z2, z3, z4⟩
    dsimp only
    refine R.s rfl (s.alloc (cs := [.slice none 0 0, .slice none 0 0, .slice none 0 0, .slice none 0 0, .int .i64 0, .int .i64 0]) tZero_31 rfl rfl) fun b2 => ?_
    refine R.s rfl (s.stV (us := [z1, z2, z3, z4, .int .i64 ((⟨[], [], [], [], 1, 1⟩ : Realm).NextWrit), .int .i64 ((⟨[], [], [], [], 1, 1⟩ : Realm).NextThing)]) (cs' := [z1, z2, z3, z4, .int .i64 ((⟨[], [], [], [], 1, 1⟩ : Realm).NextWrit), .int .i64 ((⟨[], [], [], [], 1, 1⟩ : Realm).NextThing)]) 0 _ rfl rfl rfl (fun _ _ => rfl) (.inl tAgg_31) (fun w hw => (one_cons (Sl.one ((fun _ => Wd.fls 0 rfl) w hw)) (one_cons (Sl.one ((fun _ => Wd.fls 1 rfl) w hw)) (one_cons (Sl.one ((fun _ => Wd.fls 2 rfl) w hw)) (one_cons (Sl.one ((fun _ => Wd.fls 3 rfl) w hw)) (one_cons rfl (one_cons rfl one_nil))))))) rfl rfl rfl) fun _ => ?_
    refine R.nil ?_
    refine R.reg rfl <| R.u 1 rfl <| R.nil ?_
    refine R.loop (fun g_ : Nat × Realm × Value × Value × Value × Value => [(0, v_l), (2, .pointer (some ⟨b1, 0, none⟩)), (4, .pointer (some ⟨b2, 0, none⟩)), (5, .int .i64 (g_.1 : Int))]) (fun g_ : Nat × Realm × Value × Value × Value × Value => [Res.box b2 [g_.2.2.1, g_.2.2.2.1, g_.2.2.2.2.1, g_.2.2.2.2.2, .int .i64 g_.2.1.NextWrit, .int .i64 g_.2.1.NextThing] 31, Res.box b1 [.slice none 0 0, .slice none 0 0, .slice none 0 0, .slice none 0 0, .int .i64 0, .int .i64 0] 31, Res.held w own]) (fun g_ : Nat × Realm × Value × Value × Value × Value => [Res.ls g_.2.2.1 (g_.2.1.Writs : List Writ), Res.ls g_.2.2.2.1 (g_.2.1.Things : List Thing), Res.ls g_.2.2.2.2.1 (g_.2.1.Held : List Held), Res.ls g_.2.2.2.2.2 (g_.2.1.Notes : List Note), Res.ls z1 ((⟨[], [], [], [], 1, 1⟩ : Realm).Writs : List Writ), Res.ls z2 ((⟨[], [], [], [], 1, 1⟩ : Realm).Things : List Thing), Res.ls z3 ((⟨[], [], [], [], 1, 1⟩ : Realm).Held : List Held), Res.ls z4 ((⟨[], [], [], [], 1, 1⟩ : Realm).Notes : List Note), Res.ls v_l (l : List Deed), Res.acts l]) (fun g_ : Nat × Realm × Value × Value × Value × Value => g_.1 ≤ l.length ∧ g_.2.1 = grow (l.take g_.1) ∧ lightA l 80 = true) (fun g_ : Nat × Realm × Value × Value × Value × Value => l.length - g_.1) (0, (⟨[], [], [], [], 1, 1⟩ : Realm), z1, z2, z3, z4) rfl (by exact ⟨by omega, rfl, by assumption⟩) ⟨rfl, rfl, rfl, rfl, trivial⟩ (fun _ => Wd.pick [0, 1, 2] [0, 1, 2, 3, 0, 1, 2, 3, 4, 5] rfl rfl rfl) ?_
    rintro ⟨k, m, m_W, m_T, m_H, m_N⟩ ⟨hk, HM, HL⟩
    dsimp only at *
    have hl8 := lightA_len HL
    have hkk : Ok m := by rw [HM]; exact grow_ok (by rw [List.length_take]; omega)
    refine R.reg rfl <| R.u 2 rfl <| R.q (q.len' (fun _ => Wd.fls 8 rfl) rfl Try.underlying22) rfl <| ?_
    by_cases h2 : k < l.length
    · refine R.q (q.lss rfl rfl (decide_eq_true (by omega))) rfl <| R.nil ?_
      refine R.condT rfl rfl ?_
      obtain ⟨x1, hx1⟩ : ∃ z, l[k]? = some z := ⟨_, List.getElem?_eq_getElem (by omega)⟩
      refine R.regD (fuel := 12) (Wd w (blks [] ++ own) [Res.box b2 [m_W, m_T, m_H, m_N, .int .i64 m.NextWrit, .int .i64 m.NextThing] 31, Res.box b1 [.slice none 0 0, .slice none 0 0, .slice none 0 0, .slice none 0 0, .int .i64 0, .int .i64 0] 31, Res.held w own] [Res.ls m_W (m.Writs : List Writ), Res.ls m_T (m.Things : List Thing), Res.ls m_H (m.Held : List Held), Res.ls m_N (m.Notes : List Note), Res.ls z1 ((⟨[], [], [], [], 1, 1⟩ : Realm).Writs : List Writ), Res.ls z2 ((⟨[], [], [], [], 1, 1⟩ : Realm).Things : List Thing), Res.ls z3 ((⟨[], [], [], [], 1, 1⟩ : Realm).Held : List Held), Res.ls z4 ((⟨[], [], [], [], 1, 1⟩ : Realm).Notes : List Note), Res.ls v_l (l : List Deed), Res.acts l]) rfl mixed rfl ?_
      refine D.q (i := 0) rfl (by kernel_rfl) (fun _ => Wd.pik [0, 1, 2] [0, 1, 2, 3, 4, 5, 6, 7, 8, 9] rfl rfl rfl) rfl (q.ldS 0 rfl rfl tAgg_31) rfl <| D.q (i := 1) rfl (by kernel_rfl) (fun _ => Wd.pik [0, 1, 2] [0, 1, 2, 3, 4, 5, 6, 7, 8, 9] rfl rfl rfl) rfl (q.mv rfl) rfl <| D.q (i := 2) rfl (by kernel_rfl) (fun _ => Wd.pik [0, 1, 2] [0, 1, 2, 3, 4, 5, 6, 7, 8, 9] rfl rfl rfl) rfl (q.mv rfl) rfl <| D.q (i := 3) rfl (by kernel_rfl) (fun _ => Wd.pik [0, 1, 2] [0, 1, 2, 3, 4, 5, 6, 7, 8, 9] rfl rfl rfl) rfl (q.idx (i := k) (fun _ => Wd.fls 8 rfl) rfl rfl tSl_22 rfl hx1) rfl <| D.q (i := 4) rfl (by kernel_rfl) (fun _ => Wd.pik [0, 1, 2] [0, 1, 2, 3, 4, 5, 6, 7, 8, 9] rfl rfl rfl) rfl (q.ldES (ds := [.string x1.Kind, .string x1.S, .int .i64 x1.P.Holder, .int .i64 x1.P.Slot, .int .i64 x1.Q.Holder, .int .i64 x1.Q.Slot, .int .i64 x1.A, .int .i64 x1.B, .int .i64 x1.N, .int .u64 x1.K, x1.cv]) (fun _ => Wd.fls 8 rfl) hx1 rfl tAgg_59 rfl) rfl <| ?_
      refine D.two (i := 5) (j := 9) (by kernel_rfl) rfl rfl ?_ ?_
      · refine Do.s (B' := (fun g_ : Value × Value × Value × Value => [Res.box b2 [m_W, m_T, m_H, m_N, .int .i64 m.NextWrit, .int .i64 m.NextThing] 31, Res.box b1 [.slice none 0 0, .slice none 0 0, .slice none 0 0, .slice none 0 0, .int .i64 0, .int .i64 0] 31, Res.held w own])) (F' := (fun g_ : Value × Value × Value × Value => [Res.ls g_.1 ((((doR m x1)).1).Writs : List Writ), Res.ls g_.2.1 ((((doR m x1)).1).Things : List Thing), Res.ls g_.2.2.1 ((((doR m x1)).1).Held : List Held), Res.ls g_.2.2.2 ((((doR m x1)).1).Notes : List Note), Res.ls m_W (m.Writs : List Writ), Res.ls m_T (m.Things : List Thing), Res.ls m_H (m.Held : List Held), Res.ls m_N (m.Notes : List Note), Res.ls z1 ((⟨[], [], [], [], 1, 1⟩ : Realm).Writs : List Writ), Res.ls z2 ((⟨[], [], [], [], 1, 1⟩ : Realm).Things : List Thing), Res.ls z3 ((⟨[], [], [], [], 1, 1⟩ : Realm).Held : List Held), Res.ls z4 ((⟨[], [], [], [], 1, 1⟩ : Realm).Notes : List Note), Res.ls v_l (l : List Deed), Res.acts l])) (s.callV (B0 := []) (Br := [Res.box b2 [m_W, m_T, m_H, m_N, .int .i64 m.NextWrit, .int .i64 m.NextThing] 31, Res.box b1 [.slice none 0 0, .slice none 0 0, .slice none 0 0, .slice none 0 0, .int .i64 0, .int .i64 0] 31, Res.held w own]) (F0 := [Res.ls m_W (m.Writs : List Writ), Res.ls m_T (m.Things : List Thing), Res.ls m_H (m.Held : List Held), Res.ls m_N (m.Notes : List Note)]) [0, 1, 2] [0, 1, 2, 3] (fun g_ : Value × Value × Value × Value => .tuple #[.agg #[g_.1, g_.2.1, g_.2.2.1, g_.2.2.2, .int .i64 ((((doR m x1)).1).NextWrit), .int .i64 ((((doR m x1)).1).NextThing)], errv (((doR m x1)).2)]) (fun g_ : Value × Value × Value × Value => []) (fun g_ : Value × Value × Value × Value => [Res.ls g_.1 ((((doR m x1)).1).Writs : List Writ), Res.ls g_.2.1 ((((doR m x1)).1).Things : List Thing), Res.ls g_.2.2.1 ((((doR m x1)).1).Held : List Held), Res.ls g_.2.2.2 ((((doR m x1)).1).Notes : List Note)]) rfl rfl rfl eg_20 rfl rfl (fun w own hw H => doR_any m_W m_T m_H m_N (m) (x1) w own H (by assumption)) rfl) (fun _ => (fun _ => Wd.pik [0, 1, 2] [4, 5, 6, 7, 8, 9, 10, 11, 12, 13] rfl rfl rfl)) rfl ?_
        rintro ⟨z9, z10, z11, z12⟩
        dsimp only
        refine D.q (i := 6) rfl (by kernel_rfl) (fun _ => Wd.pik [0, 1, 2] [4, 5, 6, 7, 8, 9, 10, 11, 12, 13] rfl rfl rfl) rfl (q.mv rfl) rfl <| D.q (i := 7) rfl (by kernel_rfl) (fun _ => Wd.pik [0, 1, 2] [4, 5, 6, 7, 8, 9, 10, 11, 12, 13] rfl rfl rfl) rfl (q.ext rfl rfl) rfl <| D.q (i := 8) rfl (by kernel_rfl) (fun _ => Wd.pik [0, 1, 2] [4, 5, 6, 7, 8, 9, 10, 11, 12, 13] rfl rfl rfl) rfl (q.ext rfl rfl) rfl <| ?_
        refine D.one (i := 9) (by kernel_rfl) rfl ?_
        refine Do.s (s.alloc (cs := [.slice none 0 0, .slice none 0 0, .slice none 0 0, .slice none 0 0, .int .i64 0, .int .i64 0]) tZero_31 rfl rfl) (fun _ => (fun _ => Wd.pik [1, 2, 3] [4, 5, 6, 7, 8, 9, 10, 11, 12, 13] rfl rfl rfl)) rfl fun b3 => ?_
        refine D.one (i := 10) (by kernel_rfl) rfl ?_
        refine Do.s (s.stV (us := [z9, z10, z11, z12, .int .i64 (((doR m x1).1).NextWrit), .int .i64 (((doR m x1).1).NextThing)]) (cs' := [z9, z10, z11, z12, .int .i64 (((doR m x1).1).NextWrit), .int .i64 (((doR m x1).1).NextThing)]) 0 _ rfl rfl rfl (fun _ _ => rfl) (.inl tAgg_31) (fun w hw => (one_cons (Sl.one ((fun _ => Wd.fls 0 rfl) w hw)) (one_cons (Sl.one ((fun _ => Wd.fls 1 rfl) w hw)) (one_cons (Sl.one ((fun _ => Wd.fls 2 rfl) w hw)) (one_cons (Sl.one ((fun _ => Wd.fls 3 rfl) w hw)) (one_cons rfl (one_cons rfl one_nil))))))) rfl rfl rfl) (fun _ => (fun _ => Wd.pik [1, 2, 3] [4, 5, 6, 7, 8, 9, 10, 11, 12, 13] rfl rfl rfl)) rfl fun _ => ?_
        refine D.q (i := 11) rfl (by kernel_rfl) (fun _ => Wd.pik [1, 2, 3] [4, 5, 6, 7, 8, 9, 10, 11, 12, 13] rfl rfl rfl) rfl (q.as rfl) rfl <| D.done (by kernel_rfl) <| ?_
        refine R.reg rfl <| R.u 1 rfl <| ?_
        by_cases h3 : (doR m x1).2 = 0
        · refine R.q (q.eqlE0 rfl rfl Try.underlying37 (by omega)) rfl <| R.nil ?_
          refine R.condT rfl rfl ?_
          refine R.reg rfl <| R.q (q.ldS 0 rfl rfl tAgg_31) rfl <| ?_
          refine R.s rfl (s.stV (us := [z9, z10, z11, z12, .int .i64 (((doR m x1).1).NextWrit), .int .i64 (((doR m x1).1).NextThing)]) (cs' := [z9, z10, z11, z12, .int .i64 (((doR m x1).1).NextWrit), .int .i64 (((doR m x1).1).NextThing)]) 1 _ rfl rfl rfl (fun _ _ => rfl) (.inl tAgg_31) (fun w hw => (one_cons (Sl.one ((fun _ => Wd.fls 0 rfl) w hw)) (one_cons (Sl.one ((fun _ => Wd.fls 1 rfl) w hw)) (one_cons (Sl.one ((fun _ => Wd.fls 2 rfl) w hw)) (one_cons (Sl.one ((fun _ => Wd.fls 3 rfl) w hw)) (one_cons rfl (one_cons rfl one_nil))))))) rfl rfl rfl) fun _ => ?_
          refine R.nil ?_
          refine R.reg rfl <| R.u 1 rfl <| R.q (q.add (r := ((k + 1 : Nat) : Int)) rfl rfl (wr (by omega))) rfl <| R.u 1 rfl <| R.nil ?_
          refine R.back (k + 1, ((doR m x1).1), z9, z10, z11, z12) rfl (by (exact ⟨by omega, by rw [grow_snoc hx1, step_yes (by rw [← HM]; assumption), ← HM], HL⟩)) (by dsimp only; omega) ⟨rfl, rfl, rfl, rfl, trivial⟩ (fun _ => Wd.pik [1, 2, 3] [0, 1, 2, 3, 8, 9, 10, 11, 12, 13] rfl rfl rfl)
        · refine R.q (q.eqlE1 rfl rfl Try.underlying37 (by omega)) rfl <| R.nil ?_
          refine R.condF rfl rfl ?_
          refine R.reg rfl <| R.u 1 rfl <| R.q (q.add (r := ((k + 1 : Nat) : Int)) rfl rfl (wr (by omega))) rfl <| R.u 1 rfl <| R.nil ?_
          refine R.back (k + 1, m, m_W, m_T, m_H, m_N) rfl (by (exact ⟨by omega, by rw [grow_snoc hx1, step_no (by rw [← HM]; assumption), ← HM], HL⟩)) (by dsimp only; omega) ⟨rfl, rfl, rfl, rfl, trivial⟩ (fun _ => Wd.pik [1, 2, 3] [4, 5, 6, 7, 8, 9, 10, 11, 12, 13] rfl rfl rfl)
      · refine Do.s (s.alloc (cs := [.slice none 0 0, .slice none 0 0, .slice none 0 0, .slice none 0 0, .int .i64 0, .int .i64 0]) tZero_31 rfl rfl) (fun _ => (fun _ => Wd.pik [1, 2, 3] [0, 1, 2, 3, 4, 5, 6, 7, 8, 9] rfl rfl rfl)) rfl fun b4 => ?_
        refine D.one (i := 5) (by kernel_rfl) rfl ?_
        refine Do.s (B' := (fun g_ : Value × Value × Value × Value => [Res.box b4 [.slice none 0 0, .slice none 0 0, .slice none 0 0, .slice none 0 0, .int .i64 0, .int .i64 0] 31, Res.box b2 [m_W, m_T, m_H, m_N, .int .i64 m.NextWrit, .int .i64 m.NextThing] 31, Res.box b1 [.slice none 0 0, .slice none 0 0, .slice none 0 0, .slice none 0 0, .int .i64 0, .int .i64 0] 31, Res.held w own])) (F' := (fun g_ : Value × Value × Value × Value => [Res.ls g_.1 ((((doR m x1)).1).Writs : List Writ), Res.ls g_.2.1 ((((doR m x1)).1).Things : List Thing), Res.ls g_.2.2.1 ((((doR m x1)).1).Held : List Held), Res.ls g_.2.2.2 ((((doR m x1)).1).Notes : List Note), Res.ls m_W (m.Writs : List Writ), Res.ls m_T (m.Things : List Thing), Res.ls m_H (m.Held : List Held), Res.ls m_N (m.Notes : List Note), Res.ls z1 ((⟨[], [], [], [], 1, 1⟩ : Realm).Writs : List Writ), Res.ls z2 ((⟨[], [], [], [], 1, 1⟩ : Realm).Things : List Thing), Res.ls z3 ((⟨[], [], [], [], 1, 1⟩ : Realm).Held : List Held), Res.ls z4 ((⟨[], [], [], [], 1, 1⟩ : Realm).Notes : List Note), Res.ls v_l (l : List Deed), Res.acts l])) (s.callV (B0 := []) (Br := [Res.box b4 [.slice none 0 0, .slice none 0 0, .slice none 0 0, .slice none 0 0, .int .i64 0, .int .i64 0] 31, Res.box b2 [m_W, m_T, m_H, m_N, .int .i64 m.NextWrit, .int .i64 m.NextThing] 31, Res.box b1 [.slice none 0 0, .slice none 0 0, .slice none 0 0, .slice none 0 0, .int .i64 0, .int .i64 0] 31, Res.held w own]) (F0 := [Res.ls m_W (m.Writs : List Writ), Res.ls m_T (m.Things : List Thing), Res.ls m_H (m.Held : List Held), Res.ls m_N (m.Notes : List Note)]) [0, 1, 2, 3] [0, 1, 2, 3] (fun g_ : Value × Value × Value × Value => .tuple #[.agg #[g_.1, g_.2.1, g_.2.2.1, g_.2.2.2, .int .i64 ((((doR m x1)).1).NextWrit), .int .i64 ((((doR m x1)).1).NextThing)], errv (((doR m x1)).2)]) (fun g_ : Value × Value × Value × Value => []) (fun g_ : Value × Value × Value × Value => [Res.ls g_.1 ((((doR m x1)).1).Writs : List Writ), Res.ls g_.2.1 ((((doR m x1)).1).Things : List Thing), Res.ls g_.2.2.1 ((((doR m x1)).1).Held : List Held), Res.ls g_.2.2.2 ((((doR m x1)).1).Notes : List Note)]) rfl rfl rfl eg_20 rfl rfl (fun w own hw H => doR_any m_W m_T m_H m_N (m) (x1) w own H (by assumption)) rfl) (fun _ => (fun _ => Wd.pik [1, 2, 3] [4, 5, 6, 7, 8, 9, 10, 11, 12, 13] rfl rfl rfl)) rfl ?_
        rintro ⟨z13, z14, z15, z16⟩
        dsimp only
        refine D.q (i := 6) rfl (by kernel_rfl) (fun _ => Wd.pik [1, 2, 3] [4, 5, 6, 7, 8, 9, 10, 11, 12, 13] rfl rfl rfl) rfl (q.mv rfl) rfl <| D.q (i := 7) rfl (by kernel_rfl) (fun _ => Wd.pik [1, 2, 3] [4, 5, 6, 7, 8, 9, 10, 11, 12, 13] rfl rfl rfl) rfl (q.ext rfl rfl) rfl <| D.q (i := 8) rfl (by kernel_rfl) (fun _ => Wd.pik [1, 2, 3] [4, 5, 6, 7, 8, 9, 10, 11, 12, 13] rfl rfl rfl) rfl (q.ext rfl rfl) rfl <| ?_
        refine D.one (i := 10) (by kernel_rfl) rfl ?_
        refine Do.s (s.stV (us := [z13, z14, z15, z16, .int .i64 (((doR m x1).1).NextWrit), .int .i64 (((doR m x1).1).NextThing)]) (cs' := [z13, z14, z15, z16, .int .i64 (((doR m x1).1).NextWrit), .int .i64 (((doR m x1).1).NextThing)]) 0 _ rfl rfl rfl (fun _ _ => rfl) (.inl tAgg_31) (fun w hw => (one_cons (Sl.one ((fun _ => Wd.fls 0 rfl) w hw)) (one_cons (Sl.one ((fun _ => Wd.fls 1 rfl) w hw)) (one_cons (Sl.one ((fun _ => Wd.fls 2 rfl) w hw)) (one_cons (Sl.one ((fun _ => Wd.fls 3 rfl) w hw)) (one_cons rfl (one_cons rfl one_nil))))))) rfl rfl rfl) (fun _ => (fun _ => Wd.pik [1, 2, 3] [4, 5, 6, 7, 8, 9, 10, 11, 12, 13] rfl rfl rfl)) rfl fun _ => ?_
        refine D.q (i := 11) rfl (by kernel_rfl) (fun _ => Wd.pik [1, 2, 3] [4, 5, 6, 7, 8, 9, 10, 11, 12, 13] rfl rfl rfl) rfl (q.as rfl) rfl <| D.done (by kernel_rfl) <| ?_
        refine R.reg rfl <| R.u 1 rfl <| ?_
        by_cases h4 : (doR m x1).2 = 0
        · refine R.q (q.eqlE0 rfl rfl Try.underlying37 (by omega)) rfl <| R.nil ?_
          refine R.condT rfl rfl ?_
          refine R.reg rfl <| R.q (q.ldS 0 rfl rfl tAgg_31) rfl <| ?_
          refine R.s rfl (s.stV (us := [z13, z14, z15, z16, .int .i64 (((doR m x1).1).NextWrit), .int .i64 (((doR m x1).1).NextThing)]) (cs' := [z13, z14, z15, z16, .int .i64 (((doR m x1).1).NextWrit), .int .i64 (((doR m x1).1).NextThing)]) 1 _ rfl rfl rfl (fun _ _ => rfl) (.inl tAgg_31) (fun w hw => (one_cons (Sl.one ((fun _ => Wd.fls 0 rfl) w hw)) (one_cons (Sl.one ((fun _ => Wd.fls 1 rfl) w hw)) (one_cons (Sl.one ((fun _ => Wd.fls 2 rfl) w hw)) (one_cons (Sl.one ((fun _ => Wd.fls 3 rfl) w hw)) (one_cons rfl (one_cons rfl one_nil))))))) rfl rfl rfl) fun _ => ?_
          refine R.nil ?_
          refine R.reg rfl <| R.u 1 rfl <| R.q (q.add (r := ((k + 1 : Nat) : Int)) rfl rfl (wr (by omega))) rfl <| R.u 1 rfl <| R.nil ?_
          refine R.back (k + 1, ((doR m x1).1), z13, z14, z15, z16) rfl (by (exact ⟨by omega, by rw [grow_snoc hx1, step_yes (by rw [← HM]; assumption), ← HM], HL⟩)) (by dsimp only; omega) ⟨rfl, rfl, rfl, rfl, trivial⟩ (fun _ => Wd.pik [1, 2, 3] [0, 1, 2, 3, 8, 9, 10, 11, 12, 13] rfl rfl rfl)
        · refine R.q (q.eqlE1 rfl rfl Try.underlying37 (by omega)) rfl <| R.nil ?_
          refine R.condF rfl rfl ?_
          refine R.reg rfl <| R.u 1 rfl <| R.q (q.add (r := ((k + 1 : Nat) : Int)) rfl rfl (wr (by omega))) rfl <| R.u 1 rfl <| R.nil ?_
          refine R.back (k + 1, m, m_W, m_T, m_H, m_N) rfl (by (exact ⟨by omega, by rw [grow_snoc hx1, step_no (by rw [← HM]; assumption), ← HM], HL⟩)) (by dsimp only; omega) ⟨rfl, rfl, rfl, rfl, trivial⟩ (fun _ => Wd.pik [1, 2, 3] [4, 5, 6, 7, 8, 9, 10, 11, 12, 13] rfl rfl rfl)
    · refine R.q (q.lss rfl rfl (decide_eq_false (by omega))) rfl <| R.nil ?_
      refine R.condF rfl rfl ?_
      refine R.reg rfl <| R.q (q.ldS 0 rfl rfl tAgg_31) rfl <| ?_
      refine R.s rfl (s.stV (us := [m_W, m_T, m_H, m_N, .int .i64 m.NextWrit, .int .i64 m.NextThing]) (cs' := [m_W, m_T, m_H, m_N, .int .i64 m.NextWrit, .int .i64 m.NextThing]) 1 _ rfl rfl rfl (fun _ _ => rfl) (.inl tAgg_31) (fun w hw => (one_cons (Sl.one ((fun _ => Wd.fls 0 rfl) w hw)) (one_cons (Sl.one ((fun _ => Wd.fls 1 rfl) w hw)) (one_cons (Sl.one ((fun _ => Wd.fls 2 rfl) w hw)) (one_cons (Sl.one ((fun _ => Wd.fls 3 rfl) w hw)) (one_cons rfl (one_cons rfl one_nil))))))) rfl rfl rfl) fun _ => ?_
      refine R.u 1 rfl <| R.nil ?_
      have hz : grownR l = (m, true) := by (unfold grownR; rw [if_pos HL, HM, List.take_of_length_le (by omega)])
      rw [hz]
      exact R.w2 (m_W, m_T, m_H, m_N) [2] [0, 1, 2, 3] rfl Try.results7 (RV.cell 1 rfl rfl tAgg_31) (RV.tmp rfl) rfl rfl rfl (tup2 rfl rfl)
  · refine R.c (q.call eg_19 rfl rfl (fun w hw => (cv (congrArg Value.bool h1) (lightA_any _ (l) (80) w ((fun _ => Wd.fls 0 rfl) w hw) (hw.acts 1 rfl) )))) rfl <| R.u 1 rfl <| R.nil ?_
    refine R.condT rfl rfl ?_
    refine R.reg rfl <| R.q (q.build (cs := [.slice none 0 0, .slice none 0 0, .slice none 0 0, .slice none 0 0, .int .i64 0, .int .i64 0]) tB_31 rfl rfl) rfl <| ?_
    refine R.s rfl (s.st (us := [.slice none 0 0, .slice none 0 0, .slice none 0 0, .slice none 0 0, .int .i64 0, .int .i64 0]) (cs' := [.slice none 0 0, .slice none 0 0, .slice none 0 0, .slice none 0 0, .int .i64 0, .int .i64 0]) 0 _ rfl rfl rfl rfl (.inl tAgg_31) rfl rfl rfl rfl) fun _ => ?_
    refine R.u 1 rfl <| R.nil ?_
    refine R.mp (fun _ hw => hw.nilL (α := Writ)) ?_
    refine R.mp (fun _ hw => hw.nilL (α := Thing)) ?_
    refine R.mp (fun _ hw => hw.nilL (α := Held)) ?_
    refine R.mp (fun _ hw => hw.nilL (α := Note)) ?_
    have hz : grownR l = ((⟨[], [], [], [], 0, 0⟩ : Realm), false) := by (unfold grownR; rw [if_neg (by simp_all)]; rfl)
    rw [hz]
    exact R.w2 ((.slice none 0 0), (.slice none 0 0), (.slice none 0 0), (.slice none 0 0)) [1] [3, 2, 1, 0] rfl Try.results7 (RV.cell 0 rfl rfl tAgg_31) (RV.tmp rfl) rfl rfl rfl (tup2 rfl rfl)

set_option maxRecDepth 100000 in
theorem sameRealm_any (v_aW v_aT v_aH v_aN : Value) (a : Realm) (v_bW v_bT v_bH v_bN : Value) (b : Realm) (w : World) (s_aW : Sl w v_aW a.Writs) (s_aT : Sl w v_aT a.Things) (s_aH : Sl w v_aH a.Held) (s_aN : Sl w v_aN a.Notes) (s_bW : Sl w v_bW b.Writs) (s_bT : Sl w v_bT b.Things) (s_bH : Sl w v_bH b.Held) (s_bN : Sl w v_bN b.Notes) : Calls Try.prog 15 #[.agg #[v_aW, v_aT, v_aH, v_aN, .int .i64 a.NextWrit, .int .i64 a.NextThing], .agg #[v_bW, v_bT, v_bH, v_bN, .int .i64 b.NextWrit, .int .i64 b.NextThing]] w fun e w' => e = .returned (.bool (decide (a = b))) ∧ Ext w w' := by
  have ba := s_aT.lenle; have bb := s_bT.lenle; have bc := s_aN.lenle; have bd := s_bN.lenle
  refine R.enter (n := 93) (vs := [.agg #[v_aW, v_aT, v_aH, v_aN, .int .i64 a.NextWrit, .int .i64 a.NextThing], .agg #[v_bW, v_bT, v_bH, v_bN, .int .i64 b.NextWrit, .int .i64 b.NextThing]]) [] [(0, .agg #[v_aW, v_aT, v_aH, v_aN, .int .i64 a.NextWrit, .int .i64 a.NextThing]), (1, .agg #[v_bW, v_bT, v_bH, v_bN, .int .i64 b.NextWrit, .int .i64 b.NextThing])] Try.func15 rfl rfl rfl rfl ?_
  refine R.reg rfl <| ?_
  refine R.s rfl (s.box (cs := [v_aW, v_aT, v_aH, v_aN, .int .i64 a.NextWrit, .int .i64 a.NextThing]) rfl rfl rfl) fun b1 => ?_
  refine R.s rfl (s.box (cs := [v_bW, v_bT, v_bH, v_bN, .int .i64 b.NextWrit, .int .i64 b.NextThing]) rfl rfl rfl) fun b2 => ?_
  refine R.u 1 rfl <| R.nil ?_
  refine R.reg rfl <| R.q (q.fld (off' := 0) rfl tFld_31_0 rfl) rfl <| R.q (q.ld 1 rfl rfl tOne_26 rfl) rfl <| R.q (q.fld (off' := 0) rfl tFld_31_0 rfl) rfl <| R.q (q.ld 0 rfl rfl tOne_26 rfl) rfl <| ?_
  rcases Bool.eq_false_or_eq_true (decide (a.Writs = b.Writs)) with h1 | h1
  · refine R.c (q.call eg_34 rfl rfl (fun w hw => (cv (congrArg Value.bool h1) (sameWrits_any _ (a.Writs) _ (b.Writs) w ((fun _ => Wd.old s_aW) w hw) ((fun _ => Wd.old s_bW) w hw) )))) rfl <| R.u 1 rfl <| R.nil ?_
    refine R.reg rfl <| R.q (q.fld (off' := 2) rfl tFld_31_2 rfl) rfl <| R.q (q.ld 1 rfl rfl tOne_28 rfl) rfl <| R.q (q.fld (off' := 2) rfl tFld_31_2 rfl) rfl <| R.q (q.ld 0 rfl rfl tOne_28 rfl) rfl <| ?_
    rcases Bool.eq_false_or_eq_true (decide (a.Held = b.Held)) with h2 | h2
    · refine R.c (q.call eg_16 rfl rfl (fun w hw => (cv (congrArg Value.bool h2) (sameHeld_any _ (a.Held) _ (b.Held) w ((fun _ => Wd.old s_aH) w hw) ((fun _ => Wd.old s_bH) w hw) )))) rfl <| R.u 1 rfl <| R.nil ?_
      refine R.reg rfl <| R.u 7 rfl <| R.qg rfl (q.fld (off' := 4) rfl tFld_31_4 rfl) rfl <| R.qg rfl (q.ld 1 rfl rfl tOne_3 rfl) rfl <| R.qg rfl (q.fld (off' := 4) rfl tFld_31_4 rfl) rfl <| R.qg rfl (q.ld 0 rfl rfl tOne_3 rfl) rfl <| ?_
      by_cases h3 : a.NextWrit = b.NextWrit
      · refine R.qg rfl (q.neq rfl rfl (bne_eq_false_iff_eq.2 (by omega))) rfl <| R.u 2 rfl <| R.qg rfl (q.fld (off' := 5) rfl tFld_31_5 rfl) rfl <| R.qg rfl (q.ld 1 rfl rfl tOne_3 rfl) rfl <| R.qg rfl (q.fld (off' := 5) rfl tFld_31_5 rfl) rfl <| R.qg rfl (q.ld 0 rfl rfl tOne_3 rfl) rfl <| ?_
        by_cases h4 : a.NextThing = b.NextThing
        · refine R.qg rfl (q.neq rfl rfl (bne_eq_false_iff_eq.2 (by omega))) rfl <| R.u 2 rfl <| R.qg rfl (q.fld (off' := 1) rfl tFld_31_1 rfl) rfl <| R.qg rfl (q.ld 1 rfl rfl tOne_27 rfl) rfl <| R.qg rfl (q.len' (fun _ => Wd.old s_aT) rfl Try.underlying27) rfl <| R.qg rfl (q.fld (off' := 1) rfl tFld_31_1 rfl) rfl <| R.qg rfl (q.ld 0 rfl rfl tOne_27 rfl) rfl <| R.qg rfl (q.len' (fun _ => Wd.old s_bT) rfl Try.underlying27) rfl <| ?_
          by_cases h5 : a.Things.length = b.Things.length
          · refine R.qg rfl (q.neq rfl rfl (bne_eq_false_iff_eq.2 (by omega))) rfl <| R.u 2 rfl <| R.qg rfl (q.fld (off' := 3) rfl tFld_31_3 rfl) rfl <| R.qg rfl (q.ld 1 rfl rfl tOne_29 rfl) rfl <| R.qg rfl (q.len' (fun _ => Wd.old s_aN) rfl Try.underlying29) rfl <| R.qg rfl (q.fld (off' := 3) rfl tFld_31_3 rfl) rfl <| R.qg rfl (q.ld 0 rfl rfl tOne_29 rfl) rfl <| R.qg rfl (q.len' (fun _ => Wd.old s_bN) rfl Try.underlying29) rfl <| ?_
            by_cases h6 : a.Notes.length = b.Notes.length
            · refine R.qg rfl (q.neq rfl rfl (bne_eq_false_iff_eq.2 (by omega))) rfl <| R.u 1 rfl <| R.nil ?_
              refine R.condF rfl rfl ?_
              refine R.reg rfl <| R.u 1 rfl <| R.nil ?_
              refine R.loop (fun k : Nat => [(2, .pointer (some ⟨b1, 0, none⟩)), (3, .pointer (some ⟨b2, 0, none⟩)), (7, .int .i64 (k : Int))]) (fun k : Nat => [Res.box b2 [v_bW, v_bT, v_bH, v_bN, .int .i64 b.NextWrit, .int .i64 b.NextThing] 31, Res.box b1 [v_aW, v_aT, v_aH, v_aN, .int .i64 a.NextWrit, .int .i64 a.NextThing] 31]) (fun k : Nat => []) (fun k : Nat => k ≤ a.Things.length ∧ ∀ j, j < k → a.Things[j]? = b.Things[j]?) (fun k : Nat => a.Things.length - k) 0 rfl (by exact ⟨by omega, fun j hj => absurd hj (Nat.not_lt_zero _)⟩) ⟨rfl, rfl, rfl, trivial⟩ (fun _ => Wd.pick [0, 1] [] rfl rfl rfl) ?_
              rintro k ⟨hk, HA⟩
              refine R.reg rfl <| R.u 1 rfl <| R.q (q.fld (off' := 1) rfl tFld_31_1 rfl) rfl <| R.q (q.ld 1 rfl rfl tOne_27 rfl) rfl <| R.q (q.len' (fun _ => Wd.old s_aT) rfl Try.underlying27) rfl <| ?_
              by_cases h7 : k < a.Things.length
              · refine R.q (q.lss rfl rfl (decide_eq_true (by omega))) rfl <| R.nil ?_
                refine R.condT rfl rfl ?_
                obtain ⟨x1, hx1⟩ : ∃ z, a.Things[k]? = some z := ⟨_, List.getElem?_eq_getElem (by omega)⟩
                obtain ⟨x2, hx2⟩ : ∃ z, b.Things[k]? = some z := ⟨_, List.getElem?_eq_getElem (by omega)⟩
                by_cases h8 : x1 = x2
                · refine R.regQ rfl mixed (by kernel_rfl) <| Q.q (q.fld (off' := 1) rfl tFld_31_1 rfl) rfl <| Q.q (q.ld 1 rfl rfl tOne_27 rfl) rfl <| Q.u 1 rfl <| Q.q (q.idx (i := k) (fun _ => Wd.old s_aT) rfl rfl tSl_27 rfl hx1) rfl <| Q.q (q.ldES (ds := [.int .i64 x1.ID, .int .i64 x1.Kind, .string x1.Data]) (fun _ => Wd.old s_aT) hx1 rfl tAgg_75 rfl) rfl <| Q.q (q.fld (off' := 1) rfl tFld_31_1 rfl) rfl <| Q.q (q.ld 0 rfl rfl tOne_27 rfl) rfl <| Q.u 1 rfl <| Q.q (q.idx (i := k) (fun _ => Wd.old s_bT) rfl rfl tSl_27 rfl hx2) rfl <| Q.q (q.ldES (ds := [.int .i64 x2.ID, .int .i64 x2.Kind, .string x2.Data]) (fun _ => Wd.old s_bT) hx2 rfl tAgg_75 rfl) rfl <| Q.q (q.neqT1 (x := x1) (y := x2) eq_75 rfl rfl h8) rfl <| Q.nil ?_
                  refine R.condF rfl rfl ?_
                  refine R.reg rfl <| R.u 1 rfl <| R.q (q.add (r := ((k + 1 : Nat) : Int)) rfl rfl (wr (by omega))) rfl <| R.u 1 rfl <| R.nil ?_
                  refine R.back (k + 1) rfl (by (exact ⟨by omega, same_step HA hx1 hx2 (by assumption)⟩)) (by omega) ⟨rfl, rfl, rfl, trivial⟩ (fun _ => Wd.pick [0, 1] [] rfl rfl rfl)
                · refine R.regQ rfl mixed (by kernel_rfl) <| Q.q (q.fld (off' := 1) rfl tFld_31_1 rfl) rfl <| Q.q (q.ld 1 rfl rfl tOne_27 rfl) rfl <| Q.u 1 rfl <| Q.q (q.idx (i := k) (fun _ => Wd.old s_aT) rfl rfl tSl_27 rfl hx1) rfl <| Q.q (q.ldES (ds := [.int .i64 x1.ID, .int .i64 x1.Kind, .string x1.Data]) (fun _ => Wd.old s_aT) hx1 rfl tAgg_75 rfl) rfl <| Q.q (q.fld (off' := 1) rfl tFld_31_1 rfl) rfl <| Q.q (q.ld 0 rfl rfl tOne_27 rfl) rfl <| Q.u 1 rfl <| Q.q (q.idx (i := k) (fun _ => Wd.old s_bT) rfl rfl tSl_27 rfl hx2) rfl <| Q.q (q.ldES (ds := [.int .i64 x2.ID, .int .i64 x2.Kind, .string x2.Data]) (fun _ => Wd.old s_bT) hx2 rfl tAgg_75 rfl) rfl <| Q.q (q.neqT0 (x := x1) (y := x2) eq_75 rfl rfl h8) rfl <| Q.nil ?_
                  refine R.condT rfl rfl ?_
                  refine R.reg rfl <| R.u 1 rfl <| R.nil ?_
                  exact R.rv rfl Try.results15 rfl (rB (by (exact (decide_eq_false (fun e => by subst e; have hq := hx1.symm.trans hx2; injection hq; contradiction)).symm)))
              · refine R.q (q.lss rfl rfl (decide_eq_false (by omega))) rfl <| R.nil ?_
                refine R.condF rfl rfl ?_
                refine R.reg rfl <| R.u 1 rfl <| R.nil ?_
                refine R.loop (fun k : Nat => [(2, .pointer (some ⟨b1, 0, none⟩)), (3, .pointer (some ⟨b2, 0, none⟩)), (8, .int .i64 (k : Int))]) (fun k : Nat => [Res.box b2 [v_bW, v_bT, v_bH, v_bN, .int .i64 b.NextWrit, .int .i64 b.NextThing] 31, Res.box b1 [v_aW, v_aT, v_aH, v_aN, .int .i64 a.NextWrit, .int .i64 a.NextThing] 31]) (fun k : Nat => []) (fun k : Nat => k ≤ a.Notes.length ∧ ∀ j, j < k → a.Notes[j]? = b.Notes[j]?) (fun k : Nat => a.Notes.length - k) 0 rfl (by exact ⟨by omega, fun j hj => absurd hj (Nat.not_lt_zero _)⟩) ⟨rfl, rfl, rfl, trivial⟩ (fun _ => Wd.pick [0, 1] [] rfl rfl rfl) ?_
                rintro k ⟨hk2, HA2⟩
                refine R.reg rfl <| R.u 1 rfl <| R.q (q.fld (off' := 3) rfl tFld_31_3 rfl) rfl <| R.q (q.ld 1 rfl rfl tOne_29 rfl) rfl <| R.q (q.len' (fun _ => Wd.old s_aN) rfl Try.underlying29) rfl <| ?_
                by_cases h9 : k < a.Notes.length
                · refine R.q (q.lss rfl rfl (decide_eq_true (by omega))) rfl <| R.nil ?_
                  refine R.condT rfl rfl ?_
                  obtain ⟨x3, hx3⟩ : ∃ z, a.Notes[k]? = some z := ⟨_, List.getElem?_eq_getElem (by omega)⟩
                  obtain ⟨x4, hx4⟩ : ∃ z, b.Notes[k]? = some z := ⟨_, List.getElem?_eq_getElem (by omega)⟩
                  by_cases h10 : x3 = x4
                  · refine R.regQ rfl mixed (by kernel_rfl) <| Q.q (q.fld (off' := 3) rfl tFld_31_3 rfl) rfl <| Q.q (q.ld 1 rfl rfl tOne_29 rfl) rfl <| Q.u 1 rfl <| Q.q (q.idx (i := k) (fun _ => Wd.old s_aN) rfl rfl tSl_29 rfl hx3) rfl <| Q.q (q.ldES (ds := [.int .i64 x3.Port, .string x3.Data, .int .i64 x3.Badge, .int .i64 x3.Writ]) (fun _ => Wd.old s_aN) hx3 rfl tAgg_71 rfl) rfl <| Q.q (q.fld (off' := 3) rfl tFld_31_3 rfl) rfl <| Q.q (q.ld 0 rfl rfl tOne_29 rfl) rfl <| Q.u 1 rfl <| Q.q (q.idx (i := k) (fun _ => Wd.old s_bN) rfl rfl tSl_29 rfl hx4) rfl <| Q.q (q.ldES (ds := [.int .i64 x4.Port, .string x4.Data, .int .i64 x4.Badge, .int .i64 x4.Writ]) (fun _ => Wd.old s_bN) hx4 rfl tAgg_71 rfl) rfl <| Q.q (q.neqT1 (x := x3) (y := x4) eq_71 rfl rfl h10) rfl <| Q.nil ?_
                    refine R.condF rfl rfl ?_
                    refine R.reg rfl <| R.u 1 rfl <| R.q (q.add (r := ((k + 1 : Nat) : Int)) rfl rfl (wr (by omega))) rfl <| R.u 1 rfl <| R.nil ?_
                    refine R.back (k + 1) rfl (by (exact ⟨by omega, same_step HA2 hx3 hx4 (by assumption)⟩)) (by omega) ⟨rfl, rfl, rfl, trivial⟩ (fun _ => Wd.pick [0, 1] [] rfl rfl rfl)
                  · refine R.regQ rfl mixed (by kernel_rfl) <| Q.q (q.fld (off' := 3) rfl tFld_31_3 rfl) rfl <| Q.q (q.ld 1 rfl rfl tOne_29 rfl) rfl <| Q.u 1 rfl <| Q.q (q.idx (i := k) (fun _ => Wd.old s_aN) rfl rfl tSl_29 rfl hx3) rfl <| Q.q (q.ldES (ds := [.int .i64 x3.Port, .string x3.Data, .int .i64 x3.Badge, .int .i64 x3.Writ]) (fun _ => Wd.old s_aN) hx3 rfl tAgg_71 rfl) rfl <| Q.q (q.fld (off' := 3) rfl tFld_31_3 rfl) rfl <| Q.q (q.ld 0 rfl rfl tOne_29 rfl) rfl <| Q.u 1 rfl <| Q.q (q.idx (i := k) (fun _ => Wd.old s_bN) rfl rfl tSl_29 rfl hx4) rfl <| Q.q (q.ldES (ds := [.int .i64 x4.Port, .string x4.Data, .int .i64 x4.Badge, .int .i64 x4.Writ]) (fun _ => Wd.old s_bN) hx4 rfl tAgg_71 rfl) rfl <| Q.q (q.neqT0 (x := x3) (y := x4) eq_71 rfl rfl h10) rfl <| Q.nil ?_
                    refine R.condT rfl rfl ?_
                    refine R.reg rfl <| R.u 1 rfl <| R.nil ?_
                    exact R.rv rfl Try.results15 rfl (rB (by (exact (decide_eq_false (fun e => by subst e; have hq := hx3.symm.trans hx4; injection hq; contradiction)).symm)))
                · refine R.q (q.lss rfl rfl (decide_eq_false (by omega))) rfl <| R.nil ?_
                  refine R.condF rfl rfl ?_
                  refine R.reg rfl <| R.u 1 rfl <| R.nil ?_
                  exact R.rv rfl Try.results15 rfl (rB (by (refine (decide_eq_true ?_).symm; have eT := same_all (a := a.Things) (b := b.Things) (by omega) (by assumption) HA; have eN := same_all (a := a.Notes) (b := b.Notes) (by omega) (by assumption) HA2; cases a; cases b; simp_all)))
            · refine R.qg rfl (q.neq rfl rfl (bne_iff_ne.2 (by omega))) rfl <| R.u 1 rfl <| R.nil ?_
              refine R.condT rfl rfl ?_
              refine R.reg rfl <| R.u 1 rfl <| R.nil ?_
              exact R.rv rfl Try.results15 rfl (rB (by (exact (decide_eq_false (fun e => by subst e; first | omega | (simp_all; done))).symm)))
          · refine R.qg rfl (q.neq rfl rfl (bne_iff_ne.2 (by omega))) rfl <| R.u 10 rfl <| R.nil ?_
            refine R.condT rfl rfl ?_
            refine R.reg rfl <| R.u 1 rfl <| R.nil ?_
            exact R.rv rfl Try.results15 rfl (rB (by (exact (decide_eq_false (fun e => by subst e; first | omega | (simp_all; done))).symm)))
        · refine R.qg rfl (q.neq rfl rfl (bne_iff_ne.2 (by omega))) rfl <| R.u 19 rfl <| R.nil ?_
          refine R.condT rfl rfl ?_
          refine R.reg rfl <| R.u 1 rfl <| R.nil ?_
          exact R.rv rfl Try.results15 rfl (rB (by (exact (decide_eq_false (fun e => by subst e; first | omega | (simp_all; done))).symm)))
      · refine R.qg rfl (q.neq rfl rfl (bne_iff_ne.2 (by omega))) rfl <| R.u 26 rfl <| R.nil ?_
        refine R.condT rfl rfl ?_
        refine R.reg rfl <| R.u 1 rfl <| R.nil ?_
        exact R.rv rfl Try.results15 rfl (rB (by (exact (decide_eq_false (fun e => by subst e; first | omega | (simp_all; done))).symm)))
    · refine R.c (q.call eg_16 rfl rfl (fun w hw => (cv (congrArg Value.bool h2) (sameHeld_any _ (a.Held) _ (b.Held) w ((fun _ => Wd.old s_aH) w hw) ((fun _ => Wd.old s_bH) w hw) )))) rfl <| R.u 1 rfl <| R.nil ?_
      refine R.reg rfl <| R.u 38 rfl <| R.nil ?_
      refine R.condT rfl rfl ?_
      refine R.reg rfl <| R.u 1 rfl <| R.nil ?_
      exact R.rv rfl Try.results15 rfl (rB (by (exact (decide_eq_false (fun e => by subst e; first | omega | (simp_all; done))).symm)))
  · refine R.c (q.call eg_34 rfl rfl (fun w hw => (cv (congrArg Value.bool h1) (sameWrits_any _ (a.Writs) _ (b.Writs) w ((fun _ => Wd.old s_aW) w hw) ((fun _ => Wd.old s_bW) w hw) )))) rfl <| R.u 1 rfl <| R.nil ?_
    refine R.reg rfl <| R.q (q.fld (off' := 2) rfl tFld_31_2 rfl) rfl <| R.q (q.ld 1 rfl rfl tOne_28 rfl) rfl <| R.q (q.fld (off' := 2) rfl tFld_31_2 rfl) rfl <| R.q (q.ld 0 rfl rfl tOne_28 rfl) rfl <| ?_
    rcases Bool.eq_false_or_eq_true (decide (a.Held = b.Held)) with h11 | h11
    · refine R.c (q.call eg_16 rfl rfl (fun w hw => (cv (congrArg Value.bool h11) (sameHeld_any _ (a.Held) _ (b.Held) w ((fun _ => Wd.old s_aH) w hw) ((fun _ => Wd.old s_bH) w hw) )))) rfl <| R.u 1 rfl <| R.nil ?_
      refine R.reg rfl <| R.u 38 rfl <| R.nil ?_
      refine R.condT rfl rfl ?_
      refine R.reg rfl <| R.u 1 rfl <| R.nil ?_
      exact R.rv rfl Try.results15 rfl (rB (by (exact (decide_eq_false (fun e => by subst e; first | omega | (simp_all; done))).symm)))
    · refine R.c (q.call eg_16 rfl rfl (fun w hw => (cv (congrArg Value.bool h11) (sameHeld_any _ (a.Held) _ (b.Held) w ((fun _ => Wd.old s_aH) w hw) ((fun _ => Wd.old s_bH) w hw) )))) rfl <| R.u 1 rfl <| R.nil ?_
      refine R.reg rfl <| R.u 38 rfl <| R.nil ?_
      refine R.condT rfl rfl ?_
      refine R.reg rfl <| R.u 1 rfl <| R.nil ?_
      exact R.rv rfl Try.results15 rfl (rB (by (exact (decide_eq_false (fun e => by subst e; first | omega | (simp_all; done))).symm)))

theorem made_1 : (makeR (⟨[], [], [], [], 1, 1⟩ : Realm) (⟨1, 0⟩ : Place) 1).2 = 0 := rfl
theorem made_0 : makeR (⟨[], [], [], [], 1, 1⟩ : Realm) (⟨1, 0⟩ : Place) 1 = (⟨[⟨1, 1, 7, 0, 0⟩], [⟨1, 1, ⟨#[]⟩⟩], [⟨⟨1, 0⟩, 1⟩], [], 2, 2⟩, 0) := by
  have e : putH [] ⟨1, 0⟩ 1 = [⟨⟨1, 0⟩, 1⟩] := by rw [put_eq List.Pairwise.nil]; decide
  have a : atH [] ⟨1, 0⟩ = 0 := by rw [at_eq List.Pairwise.nil]; decide
  unfold makeR freeR addR
  rw [if_pos (.inl rfl), if_pos (by rw [a]; rfl), if_neg (by decide)]
  simp [e]
theorem made_2 : getR ((makeR (⟨[], [], [], [], 1, 1⟩ : Realm) (⟨1, 0⟩ : Place) 1).1) (⟨1, 0⟩ : Place) = (⟨1, 1, 7, 0, 0⟩, 0) := by
  have a : atH [⟨⟨1, 0⟩, 1⟩] ⟨1, 0⟩ = 1 := by rw [at_eq (List.pairwise_singleton _ _)]; decide
  rw [made_0]; unfold getR; rw [if_pos (by decide)]; dsimp only; rw [a]; rfl
section
attribute [local irreducible] makeR getR
theorem made_o : Ok (⟨[], [], [], [], 1, 1⟩ : Realm) := Sz.new.ok (by decide)
theorem made_p : Ok (makeR (⟨[], [], [], [], 1, 1⟩ : Realm) (⟨1, 0⟩ : Place) 1).1 := (make_sz Sz.new _ _).ok (by decide)

theorem made_any  (w : World)  : Calls Try.prog 6 #[] w fun e w' => e = .returned (.bool true) ∧ Ext w w' := by
  have f0 := made_o; have f1 := made_1; have f2 := made_p; have f3 : (getR ((makeR (⟨[], [], [], [], 1, 1⟩ : Realm) (⟨1, 0⟩ : Place) 1).1) (⟨1, 0⟩ : Place)).2 = 0 := (by rw [made_2]); have f4 : ((getR ((makeR (⟨[], [], [], [], 1, 1⟩ : Realm) (⟨1, 0⟩ : Place) 1).1) (⟨1, 0⟩ : Place)).1).Rights = 7 := (by rw [made_2]); have f5 : ((getR ((makeR (⟨[], [], [], [], 1, 1⟩ : Realm) (⟨1, 0⟩ : Place) 1).1) (⟨1, 0⟩ : Place)).1).ID = 1 := (by rw [made_2])
  refine R.enter (n := 33) (vs := []) [] [] Try.func6 rfl rfl rfl rfl ?_
  refine R.reg rfl <| R.u 1 rfl <| R.nil ?_
  refine R.reg rfl <| ?_
  refine R.s (B' := (fun g_ : Value × Value × Value × Value => [])) (F' := (fun g_ : Value × Value × Value × Value => [Res.ls g_.1 (((⟨[], [], [], [], 1, 1⟩ : Realm)).Writs : List Writ), Res.ls g_.2.1 (((⟨[], [], [], [], 1, 1⟩ : Realm)).Things : List Thing), Res.ls g_.2.2.1 (((⟨[], [], [], [], 1, 1⟩ : Realm)).Held : List Held), Res.ls g_.2.2.2 (((⟨[], [], [], [], 1, 1⟩ : Realm)).Notes : List Note)])) rfl (s.callV (B0 := []) (Br := []) (F0 := []) [] [] (fun g_ : Value × Value × Value × Value => .agg #[g_.1, g_.2.1, g_.2.2.1, g_.2.2.2, .int .i64 (((⟨[], [], [], [], 1, 1⟩ : Realm)).NextWrit), .int .i64 (((⟨[], [], [], [], 1, 1⟩ : Realm)).NextThing)]) (fun g_ : Value × Value × Value × Value => []) (fun g_ : Value × Value × Value × Value => [Res.ls g_.1 (((⟨[], [], [], [], 1, 1⟩ : Realm)).Writs : List Writ), Res.ls g_.2.1 (((⟨[], [], [], [], 1, 1⟩ : Realm)).Things : List Thing), Res.ls g_.2.2.1 (((⟨[], [], [], [], 1, 1⟩ : Realm)).Held : List Held), Res.ls g_.2.2.2 (((⟨[], [], [], [], 1, 1⟩ : Realm)).Notes : List Note)]) rfl rfl rfl eg_18 rfl rfl (fun w own hw H => newR_any  w own H ) rfl) ?_
  rintro ⟨z1, z2, z3, z4⟩
  dsimp only
  refine R.q (q.build (cs := [.int .i64 1, .int .i64 0]) tB_24 rfl rfl) rfl <| ?_
  refine R.s (B' := (fun g_ : Value × Value × Value × Value => [])) (F' := (fun g_ : Value × Value × Value × Value => [Res.ls g_.1 ((((makeR (⟨[], [], [], [], 1, 1⟩ : Realm) (⟨1, 0⟩ : Place) 1)).1).Writs : List Writ), Res.ls g_.2.1 ((((makeR (⟨[], [], [], [], 1, 1⟩ : Realm) (⟨1, 0⟩ : Place) 1)).1).Things : List Thing), Res.ls g_.2.2.1 ((((makeR (⟨[], [], [], [], 1, 1⟩ : Realm) (⟨1, 0⟩ : Place) 1)).1).Held : List Held), Res.ls g_.2.2.2 ((((makeR (⟨[], [], [], [], 1, 1⟩ : Realm) (⟨1, 0⟩ : Place) 1)).1).Notes : List Note), Res.ls z1 ((⟨[], [], [], [], 1, 1⟩ : Realm).Writs : List Writ), Res.ls z2 ((⟨[], [], [], [], 1, 1⟩ : Realm).Things : List Thing), Res.ls z3 ((⟨[], [], [], [], 1, 1⟩ : Realm).Held : List Held), Res.ls z4 ((⟨[], [], [], [], 1, 1⟩ : Realm).Notes : List Note)])) rfl (s.callV (B0 := []) (Br := []) (F0 := [Res.ls z1 ((⟨[], [], [], [], 1, 1⟩ : Realm).Writs : List Writ), Res.ls z2 ((⟨[], [], [], [], 1, 1⟩ : Realm).Things : List Thing), Res.ls z3 ((⟨[], [], [], [], 1, 1⟩ : Realm).Held : List Held), Res.ls z4 ((⟨[], [], [], [], 1, 1⟩ : Realm).Notes : List Note)]) [] [0, 1, 2, 3] (fun g_ : Value × Value × Value × Value => .tuple #[.agg #[g_.1, g_.2.1, g_.2.2.1, g_.2.2.2, .int .i64 ((((makeR (⟨[], [], [], [], 1, 1⟩ : Realm) (⟨1, 0⟩ : Place) 1)).1).NextWrit), .int .i64 ((((makeR (⟨[], [], [], [], 1, 1⟩ : Realm) (⟨1, 0⟩ : Place) 1)).1).NextThing)], errv (((makeR (⟨[], [], [], [], 1, 1⟩ : Realm) (⟨1, 0⟩ : Place) 1)).2)]) (fun g_ : Value × Value × Value × Value => []) (fun g_ : Value × Value × Value × Value => [Res.ls g_.1 ((((makeR (⟨[], [], [], [], 1, 1⟩ : Realm) (⟨1, 0⟩ : Place) 1)).1).Writs : List Writ), Res.ls g_.2.1 ((((makeR (⟨[], [], [], [], 1, 1⟩ : Realm) (⟨1, 0⟩ : Place) 1)).1).Things : List Thing), Res.ls g_.2.2.1 ((((makeR (⟨[], [], [], [], 1, 1⟩ : Realm) (⟨1, 0⟩ : Place) 1)).1).Held : List Held), Res.ls g_.2.2.2 ((((makeR (⟨[], [], [], [], 1, 1⟩ : Realm) (⟨1, 0⟩ : Place) 1)).1).Notes : List Note)]) rfl rfl rfl eg_17 rfl rfl (fun w own hw H => makeR_any z1 z2 z3 z4 ((⟨[], [], [], [], 1, 1⟩ : Realm)) ((⟨1, 0⟩ : Place)) (1) w own H (by assumption)) rfl) ?_
  rintro ⟨z5, z6, z7, z8⟩
  dsimp only
  refine R.u 3 rfl <| ?_
  refine R.s rfl (s.alloc (cs := [.slice none 0 0, .slice none 0 0, .slice none 0 0, .slice none 0 0, .int .i64 0, .int .i64 0]) tZero_31 rfl rfl) fun b1 => ?_
  refine R.s rfl (s.stV (us := [z5, z6, z7, z8, .int .i64 (((makeR (⟨[], [], [], [], 1, 1⟩ : Realm) (⟨1, 0⟩ : Place) 1).1).NextWrit), .int .i64 (((makeR (⟨[], [], [], [], 1, 1⟩ : Realm) (⟨1, 0⟩ : Place) 1).1).NextThing)]) (cs' := [z5, z6, z7, z8, .int .i64 (((makeR (⟨[], [], [], [], 1, 1⟩ : Realm) (⟨1, 0⟩ : Place) 1).1).NextWrit), .int .i64 (((makeR (⟨[], [], [], [], 1, 1⟩ : Realm) (⟨1, 0⟩ : Place) 1).1).NextThing)]) 0 _ rfl rfl rfl (fun _ _ => rfl) (.inl tAgg_31) (fun w hw => (one_cons (Sl.one ((fun _ => Wd.fls 0 rfl) w hw)) (one_cons (Sl.one ((fun _ => Wd.fls 1 rfl) w hw)) (one_cons (Sl.one ((fun _ => Wd.fls 2 rfl) w hw)) (one_cons (Sl.one ((fun _ => Wd.fls 3 rfl) w hw)) (one_cons rfl (one_cons rfl one_nil))))))) rfl rfl rfl) fun _ => ?_
  refine R.u 1 rfl <| R.nil ?_
  refine R.reg rfl <| R.q (q.ldS 0 rfl rfl tAgg_31) rfl <| R.q (q.build (cs := [.int .i64 1, .int .i64 0]) tB_24 rfl rfl) rfl <| R.c (q.call eg_8 rfl rfl (fun w hw => (get_any _ _ _ _ (((makeR (⟨[], [], [], [], 1, 1⟩ : Realm) (⟨1, 0⟩ : Place) 1).1)) ((⟨1, 0⟩ : Place)) w ((fun _ => Wd.fls 0 rfl) w hw) ((fun _ => Wd.fls 1 rfl) w hw) ((fun _ => Wd.fls 2 rfl) w hw) ((fun _ => Wd.fls 3 rfl) w hw) (by assumption)))) rfl <| R.u 3 rfl <| ?_
  refine R.s rfl (s.alloc (cs := [.int .i64 0, .int .i64 0, .int .i64 0, .int .i64 0, .int .i64 0]) tZero_35 rfl rfl) fun b2 => ?_
  refine R.s rfl (s.st (us := [.int .i64 (((getR ((makeR (⟨[], [], [], [], 1, 1⟩ : Realm) (⟨1, 0⟩ : Place) 1).1) (⟨1, 0⟩ : Place)).1).ID), .int .i64 (((getR ((makeR (⟨[], [], [], [], 1, 1⟩ : Realm) (⟨1, 0⟩ : Place) 1).1) (⟨1, 0⟩ : Place)).1).Thing), .int .i64 (((getR ((makeR (⟨[], [], [], [], 1, 1⟩ : Realm) (⟨1, 0⟩ : Place) 1).1) (⟨1, 0⟩ : Place)).1).Rights), .int .i64 (((getR ((makeR (⟨[], [], [], [], 1, 1⟩ : Realm) (⟨1, 0⟩ : Place) 1).1) (⟨1, 0⟩ : Place)).1).Badge), .int .i64 (((getR ((makeR (⟨[], [], [], [], 1, 1⟩ : Realm) (⟨1, 0⟩ : Place) 1).1) (⟨1, 0⟩ : Place)).1).From)]) (cs' := [.int .i64 (((getR ((makeR (⟨[], [], [], [], 1, 1⟩ : Realm) (⟨1, 0⟩ : Place) 1).1) (⟨1, 0⟩ : Place)).1).ID), .int .i64 (((getR ((makeR (⟨[], [], [], [], 1, 1⟩ : Realm) (⟨1, 0⟩ : Place) 1).1) (⟨1, 0⟩ : Place)).1).Thing), .int .i64 (((getR ((makeR (⟨[], [], [], [], 1, 1⟩ : Realm) (⟨1, 0⟩ : Place) 1).1) (⟨1, 0⟩ : Place)).1).Rights), .int .i64 (((getR ((makeR (⟨[], [], [], [], 1, 1⟩ : Realm) (⟨1, 0⟩ : Place) 1).1) (⟨1, 0⟩ : Place)).1).Badge), .int .i64 (((getR ((makeR (⟨[], [], [], [], 1, 1⟩ : Realm) (⟨1, 0⟩ : Place) 1).1) (⟨1, 0⟩ : Place)).1).From)]) 0 _ rfl rfl rfl rfl (.inl tAgg_35) rfl rfl rfl rfl) fun _ => ?_
  refine R.u 1 rfl <| R.nil ?_
  refine R.reg rfl <| R.u 1 rfl <| R.q (q.eqlE0 rfl rfl Try.underlying37 (by omega)) rfl <| R.u 2 rfl <| R.qg rfl (q.eqlE0 rfl rfl Try.underlying37 (by omega)) rfl <| R.u 2 rfl <| R.qg rfl (q.fld (off' := 2) rfl tFld_35_2 rfl) rfl <| R.qg rfl (q.ld 0 rfl rfl tOne_3 rfl) rfl <| R.qg rfl (q.eql rfl rfl (beq_iff_eq.2 (by omega))) rfl <| R.u 2 rfl <| R.qg rfl (q.fld (off' := 0) rfl tFld_35_0 rfl) rfl <| R.qg rfl (q.ld 0 rfl rfl tOne_3 rfl) rfl <| R.qg rfl (q.eql rfl rfl (beq_iff_eq.2 (by omega))) rfl <| R.u 2 rfl <| R.nil ?_
  exact R.rv rfl Try.results6 rfl (rB (by (rfl)))

end

end Go.Proofs.Ytoaneidhfcljmaa
