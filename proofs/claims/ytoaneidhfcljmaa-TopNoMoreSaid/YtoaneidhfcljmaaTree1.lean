/-
  The walks of chapter 3: whether writs are right, and writs without one.
-/
import Derived.Test.YtoaneidhfcljmaaWritW
import Derived.Test.YtoaneidhfcljmaaR6
import Derived.Test.YtoaneidhfcljmaaTreeSpec2
namespace Go.Proofs.Ytoaneidhfcljmaa
open Go Go.RowKit
set_option linter.unusedVariables false
set_option maxRecDepth 100000

set_option maxHeartbeats 1000000 in
theorem treeCheck_any (v_l : Value) (l : List Writ) (w : World) (s_l : Sl w v_l l) : Calls Try.prog 12 #[v_l] w fun e w' => e = .returned (errv (treeFault l)) ∧ Ext w w' := by
  have b_l := s_l.lenle
  refine R.enter (n := 68) (vs := [v_l]) [] [(0, v_l)] Try.func12 rfl rfl rfl rfl ?_
  refine R.reg rfl <| R.u 1 rfl <| R.nil ?_
  refine R.reg rfl <| R.u 1 rfl <| R.q (q.len' (fun _ => Wd.old s_l) rfl Try.underlying26) rfl <| R.u 1 rfl <| R.nil ?_
  refine R.loop (fun k : Nat => [(0, v_l), (8, v_l), (9, .int .i64 (l.length : Int)), (10, .int .i64 (k : Int))]) (fun k : Nat => []) (fun k : Nat => []) (fun k : Nat => k ≤ l.length ∧ ∀ j, j < k → stepF l j = 0) (fun k : Nat => l.length - k) 0 rfl (by exact ⟨by omega, fun j hj => absurd hj (Nat.not_lt_zero _)⟩) ⟨rfl, rfl, rfl, rfl, trivial⟩ (fun _ => Wd.pick [] [] rfl rfl rfl) ?_
  rintro k ⟨hk, HA⟩
  refine R.reg rfl <| ?_
  by_cases h1 : k < l.length
  · refine R.q (q.lss rfl rfl (decide_eq_true (by omega))) rfl <| R.nil ?_
    refine R.condT rfl rfl ?_
    refine R.reg rfl <| R.u 1 rfl <| ?_
    obtain ⟨x1, hx1⟩ : ∃ z, l[k]? = some z := ⟨_, List.getElem?_eq_getElem (by omega)⟩
    have wx1 := writFault_01 x1
    refine R.q (q.idx (i := k) (fun _ => Wd.old s_l) rfl rfl tSl_26 rfl hx1) rfl <| R.q (q.ldES (ds := [.int .i64 x1.ID, .int .i64 x1.Thing, .int .i64 x1.Rights, .int .i64 x1.Badge, .int .i64 x1.From]) (fun _ => Wd.old s_l) hx1 rfl tAgg_35 rfl) rfl <| ?_
    refine R.s rfl (s.alloc (cs := [.int .i64 0, .int .i64 0, .int .i64 0, .int .i64 0, .int .i64 0]) tZero_35 rfl rfl) fun b1 => ?_
    refine R.u 1 rfl <| ?_
    refine R.s rfl (s.st (us := [.int .i64 x1.ID, .int .i64 x1.Thing, .int .i64 x1.Rights, .int .i64 x1.Badge, .int .i64 x1.From]) (cs' := [.int .i64 x1.ID, .int .i64 x1.Thing, .int .i64 x1.Rights, .int .i64 x1.Badge, .int .i64 x1.From]) 0 _ rfl rfl rfl rfl (.inl tAgg_35) rfl rfl rfl rfl) fun _ => ?_
    refine R.nil ?_
    refine R.reg rfl <| R.q (q.ldS 0 rfl rfl tAgg_35) rfl <| R.c (q.call eg_31 rfl rfl (fun w hw => (writCheck_any (x1) w  ))) rfl <| R.u 1 rfl <| R.nil ?_
    refine R.reg rfl <| R.u 1 rfl <| ?_
    by_cases h2 : writFault x1 = 0
    · refine R.q (q.neqE0 rfl rfl Try.underlying37 (by omega)) rfl <| R.nil ?_
      refine R.condF rfl rfl ?_
      refine R.cut 2 (fun _u : Unit => [(0, v_l), (3, .int .i64 (k : Int)), (4, .pointer (some ⟨b1, 0, none⟩)), (8, v_l), (9, .int .i64 (l.length : Int)), (10, .int .i64 (k : Int))]) (fun _u : Unit => [Res.box b1 [.int .i64 x1.ID, .int .i64 x1.Thing, .int .i64 x1.Rights, .int .i64 x1.Badge, .int .i64 x1.From] 35]) (fun _u : Unit => []) (fun _u : Unit => Hid (¬ 0 < k ∨ ∃ y, l[k - 1]? = some y ∧ y.ID < x1.ID)) rfl rfl rfl ?_ ?_
      · by_cases h3 : 0 < k
        · obtain ⟨x2, hx2⟩ : ∃ z, l[(k - 1)]? = some z := ⟨_, List.getElem?_eq_getElem (by omega)⟩
          have wx2 := writFault_01 x2
          by_cases h4 : x2.ID < x1.ID
          · refine R.regQ rfl mixed (by kernel_rfl) <| Q.u 1 rfl <| Q.q (q.gtr rfl rfl (decide_eq_true (by omega))) rfl <| Q.u 1 rfl <| Q.qg rfl (q.fld (off' := 0) rfl tFld_35_0 rfl) rfl <| Q.qg rfl (q.ld 0 rfl rfl tOne_3 rfl) rfl <| Q.u 2 rfl <| Q.qg rfl (q.sub (r := ((k - 1 : Nat) : Int)) rfl rfl (wr (by omega))) rfl <| Q.qg rfl (q.idx (i := (k - 1)) (fun _ => Wd.old s_l) rfl rfl tSl_26 rfl hx2) rfl <| Q.qg rfl (q.fldE (j' := 0) (fun _ => Wd.old s_l) hx2 rfl tFld_35_0 rfl) rfl <| Q.qg rfl (q.ldE (fun _ => Wd.old s_l) hx2 rfl tOne_3 rfl) rfl <| Q.qg rfl (q.leq rfl rfl (decide_eq_false (by omega))) rfl <| Q.u 1 rfl <| Q.nil ?_
            refine R.condF rfl rfl ?_
            exact R.meet () rfl (by (first | exact .inl (by assumption) | exact .inr ⟨_, hx2, by assumption⟩)) ⟨rfl, rfl, rfl, rfl, rfl, rfl, trivial⟩ (fun _ => Wd.pick [0] [] rfl rfl rfl)
          · refine R.regQ rfl mixed (by kernel_rfl) <| Q.u 1 rfl <| Q.q (q.gtr rfl rfl (decide_eq_true (by omega))) rfl <| Q.u 1 rfl <| Q.qg rfl (q.fld (off' := 0) rfl tFld_35_0 rfl) rfl <| Q.qg rfl (q.ld 0 rfl rfl tOne_3 rfl) rfl <| Q.u 2 rfl <| Q.qg rfl (q.sub (r := ((k - 1 : Nat) : Int)) rfl rfl (wr (by omega))) rfl <| Q.qg rfl (q.idx (i := (k - 1)) (fun _ => Wd.old s_l) rfl rfl tSl_26 rfl hx2) rfl <| Q.qg rfl (q.fldE (j' := 0) (fun _ => Wd.old s_l) hx2 rfl tFld_35_0 rfl) rfl <| Q.qg rfl (q.ldE (fun _ => Wd.old s_l) hx2 rfl tOne_3 rfl) rfl <| Q.qg rfl (q.leq rfl rfl (decide_eq_true (by omega))) rfl <| Q.u 1 rfl <| Q.nil ?_
            refine R.condT rfl rfl ?_
            refine R.reg rfl <| R.q (q.iface rfl con_62) rfl <| R.u 1 rfl <| R.nil ?_
            exact R.rv rfl Try.results12 rfl (errk (by decide) (by (exact (treeFault_hit (by omega) (stepF_shape hx1 (by omega) (by assumption) hx2 (by assumption)) (by decide) HA))))
        · refine R.regQ rfl mixed (by kernel_rfl) <| Q.u 1 rfl <| Q.q (q.gtr rfl rfl (decide_eq_false (by omega))) rfl <| Q.u 11 rfl <| Q.nil ?_
          refine R.condF rfl rfl ?_
          exact R.meet () rfl (by (first | exact .inl (by assumption) | exact .inr ⟨_, hx2, by assumption⟩)) ⟨rfl, rfl, rfl, rfl, rfl, rfl, trivial⟩ (fun _ => Wd.pick [0] [] rfl rfl rfl)
      · rintro _u hS
        refine R.reg rfl <| R.q (q.fld (off' := 4) rfl tFld_35_4 rfl) rfl <| R.q (q.ld 0 rfl rfl tOne_3 rfl) rfl <| ?_
        by_cases h5 : x1.From = 0
        · refine R.q (q.eql rfl rfl (beq_iff_eq.2 (by omega))) rfl <| R.nil ?_
          refine R.condT rfl rfl ?_
          refine R.reg rfl <| R.q (q.add (r := ((k + 1 : Nat) : Int)) rfl rfl (wr (by omega))) rfl <| R.u 1 rfl <| R.nil ?_
          refine R.back (k + 1) rfl (by (exact ⟨by omega, steps_more HA (stepF_root hx1 (by omega) hS.out (by assumption))⟩)) (by omega) ⟨rfl, rfl, rfl, rfl, trivial⟩ (fun _ => Wd.pick [] [] rfl rfl rfl)
        · refine R.q (q.eql rfl rfl (beq_eq_false_iff_ne.2 (by omega))) rfl <| R.nil ?_
          refine R.condF rfl rfl ?_
          rcases findW_cases (l.take k) x1.From with ⟨c1f, c1n⟩ | ⟨c1j, c1h, c1f, c1e, c1m⟩
          · refine R.regQ rfl mixed (by kernel_rfl) <| Q.u 2 rfl <| Q.q (q.sto (i := k) (fun _ => Wd.old s_l) rfl rfl Try.underlying26 tInf_26 rfl (by first | omega | (simp; omega))) rfl <| Q.q (q.fld (off' := 4) rfl tFld_35_4 rfl) rfl <| Q.q (q.ld 0 rfl rfl tOne_3 rfl) rfl <| Q.c (q.call eg_11 rfl rfl (fun w hw => (cv (congrArg (Value.int .i64) c1f) (find_any _ ((l.take k)) (x1.From) w ((fun w hw => Sl.to ((fun _ => Wd.old s_l) w hw) (by omega)) w hw) )))) rfl <| Q.u 1 rfl <| Q.nil ?_
            refine R.reg rfl <| R.u 1 rfl <| R.q (q.lss (b := true) rfl rfl (by decide)) rfl <| R.nil ?_
            refine R.condT rfl rfl ?_
            refine R.reg rfl <| R.q (q.iface rfl con_62) rfl <| R.u 1 rfl <| R.nil ?_
            exact R.rv rfl Try.results12 rfl (errk (by decide) (by (exact (treeFault_hit (by omega) (stepF_none hx1 (by omega) hS.out (by assumption) c1f) (by decide) HA))))
          · refine R.regQ rfl mixed (by kernel_rfl) <| Q.u 2 rfl <| Q.q (q.sto (i := k) (fun _ => Wd.old s_l) rfl rfl Try.underlying26 tInf_26 rfl (by first | omega | (simp; omega))) rfl <| Q.q (q.fld (off' := 4) rfl tFld_35_4 rfl) rfl <| Q.q (q.ld 0 rfl rfl tOne_3 rfl) rfl <| Q.c (q.call eg_11 rfl rfl (fun w hw => (cv (congrArg (Value.int .i64) c1f) (find_any _ ((l.take k)) (x1.From) w ((fun w hw => Sl.to ((fun _ => Wd.old s_l) w hw) (by omega)) w hw) )))) rfl <| Q.u 1 rfl <| Q.nil ?_
            refine R.reg rfl <| R.u 1 rfl <| R.q (q.lss rfl rfl (decide_eq_false (by omega))) rfl <| R.nil ?_
            refine R.condF rfl rfl ?_
            have c1k : c1j < k := by simp at c1h; omega
            obtain ⟨x3, hx3⟩ : ∃ z, l[c1j]? = some z := ⟨_, List.getElem?_eq_getElem (by omega)⟩
            have wx := stepF_ok hx3 (HA c1j c1k)
            have wx1 := wx.ri0; have wx2 := wx.ri7
            have wd := derived_cases x3 x1.ID x1.Rights x1.Badge
            refine R.regD (fuel := 17) (Wd w [] [Res.box b1 [.int .i64 x1.ID, .int .i64 x1.Thing, .int .i64 x1.Rights, .int .i64 x1.Badge, .int .i64 x1.From] 35] []) rfl mixed rfl ?_
            refine D.q (i := 0) rfl (by kernel_rfl) (fun _ => Wd.pik [0] [] rfl rfl rfl) rfl (q.mv rfl) rfl <| D.q (i := 1) rfl (by kernel_rfl) (fun _ => Wd.pik [0] [] rfl rfl rfl) rfl (q.mv rfl) rfl <| D.q (i := 2) rfl (by kernel_rfl) (fun _ => Wd.pik [0] [] rfl rfl rfl) rfl (q.idx (i := c1j) (fun _ => Wd.old s_l) rfl rfl tSl_26 rfl hx3) rfl <| D.q (i := 3) rfl (by kernel_rfl) (fun _ => Wd.pik [0] [] rfl rfl rfl) rfl (q.ldES (ds := [.int .i64 x3.ID, .int .i64 x3.Thing, .int .i64 x3.Rights, .int .i64 x3.Badge, .int .i64 x3.From]) (fun _ => Wd.old s_l) hx3 rfl tAgg_35 rfl) rfl <| D.q (i := 4) rfl (by kernel_rfl) (fun _ => Wd.pik [0] [] rfl rfl rfl) rfl (q.fld (off' := 0) rfl tFld_35_0 rfl) rfl <| D.q (i := 5) rfl (by kernel_rfl) (fun _ => Wd.pik [0] [] rfl rfl rfl) rfl (q.ld 0 rfl rfl tOne_3 rfl) rfl <| D.q (i := 6) rfl (by kernel_rfl) (fun _ => Wd.pik [0] [] rfl rfl rfl) rfl (q.fld (off' := 2) rfl tFld_35_2 rfl) rfl <| D.q (i := 7) rfl (by kernel_rfl) (fun _ => Wd.pik [0] [] rfl rfl rfl) rfl (q.ld 0 rfl rfl tOne_3 rfl) rfl <| D.q (i := 8) rfl (by kernel_rfl) (fun _ => Wd.pik [0] [] rfl rfl rfl) rfl (q.fld (off' := 3) rfl tFld_35_3 rfl) rfl <| D.q (i := 9) rfl (by kernel_rfl) (fun _ => Wd.pik [0] [] rfl rfl rfl) rfl (q.ld 0 rfl rfl tOne_3 rfl) rfl <| ?_
            refine D.two (i := 10) (j := 14) (by kernel_rfl) rfl rfl ?_ ?_
            · refine Do.s (s.c (q.call eg_32 rfl rfl (fun w hw => (derive_any (x3) (x1.ID) (x1.Rights) (x1.Badge) w  (by omega)))) rfl) (fun _ => (fun _ => Wd.pik [0] [] rfl rfl rfl)) rfl fun _ => ?_
              refine D.q (i := 11) rfl (by kernel_rfl) (fun _ => Wd.pik [0] [] rfl rfl rfl) rfl (q.mv rfl) rfl <| D.q (i := 12) rfl (by kernel_rfl) (fun _ => Wd.pik [0] [] rfl rfl rfl) rfl (q.ext rfl rfl) rfl <| D.q (i := 13) rfl (by kernel_rfl) (fun _ => Wd.pik [0] [] rfl rfl rfl) rfl (q.ext rfl rfl) rfl <| ?_
              refine D.one (i := 14) (by kernel_rfl) rfl ?_
              refine Do.s (s.alloc (cs := [.int .i64 0, .int .i64 0, .int .i64 0, .int .i64 0, .int .i64 0]) tZero_35 rfl rfl) (fun _ => (fun _ => Wd.pik [1] [] rfl rfl rfl)) rfl fun b2 => ?_
              refine D.one (i := 15) (by kernel_rfl) rfl ?_
              refine Do.s (s.st (us := [.int .i64 (((derived x3 x1.ID x1.Rights x1.Badge).1).ID), .int .i64 (((derived x3 x1.ID x1.Rights x1.Badge).1).Thing), .int .i64 (((derived x3 x1.ID x1.Rights x1.Badge).1).Rights), .int .i64 (((derived x3 x1.ID x1.Rights x1.Badge).1).Badge), .int .i64 (((derived x3 x1.ID x1.Rights x1.Badge).1).From)]) (cs' := [.int .i64 (((derived x3 x1.ID x1.Rights x1.Badge).1).ID), .int .i64 (((derived x3 x1.ID x1.Rights x1.Badge).1).Thing), .int .i64 (((derived x3 x1.ID x1.Rights x1.Badge).1).Rights), .int .i64 (((derived x3 x1.ID x1.Rights x1.Badge).1).Badge), .int .i64 (((derived x3 x1.ID x1.Rights x1.Badge).1).From)]) 0 _ rfl rfl rfl rfl (.inl tAgg_35) rfl rfl rfl rfl) (fun _ => (fun _ => Wd.pik [1] [] rfl rfl rfl)) rfl fun _ => ?_
              refine D.q (i := 16) rfl (by kernel_rfl) (fun _ => Wd.pik [1] [] rfl rfl rfl) rfl (q.as rfl) rfl <| D.done (by kernel_rfl) <| ?_
              refine R.reg rfl <| R.u 1 rfl <| ?_
              by_cases h6 : (derived x3 x1.ID x1.Rights x1.Badge).2 = 0
              · refine R.q (q.neqE0 rfl rfl Try.underlying37 (by omega)) rfl <| R.nil ?_
                refine R.condF rfl rfl ?_
                refine R.reg rfl <| R.q (q.ldS 0 rfl rfl tAgg_35) rfl <| R.q (q.ldS 1 rfl rfl tAgg_35) rfl <| ?_
                by_cases h7 : ((derived x3 x1.ID x1.Rights x1.Badge).1) = x1
                · refine R.q (q.neqT1 (x := ((derived x3 x1.ID x1.Rights x1.Badge).1)) (y := x1) eq_35 rfl rfl h7) rfl <| R.nil ?_
                  refine R.condF rfl rfl ?_
                  refine R.reg rfl <| R.q (q.add (r := ((k + 1 : Nat) : Int)) rfl rfl (wr (by omega))) rfl <| R.u 1 rfl <| R.nil ?_
                  refine R.back (k + 1) rfl (by (exact ⟨by omega, steps_more HA ((stepF_some hx1 (by omega) hS.out (by assumption) c1f c1k hx3).trans ((if_neg (by omega)).trans (if_neg (fun h => h (by assumption)))))⟩)) (by omega) ⟨rfl, rfl, rfl, rfl, trivial⟩ (fun _ => Wd.pick [] [] rfl rfl rfl)
                · refine R.q (q.neqT0 (x := ((derived x3 x1.ID x1.Rights x1.Badge).1)) (y := x1) eq_35 rfl rfl h7) rfl <| R.nil ?_
                  refine R.condT rfl rfl ?_
                  refine R.reg rfl <| R.q (q.iface rfl con_62) rfl <| R.u 1 rfl <| R.nil ?_
                  exact R.rv rfl Try.results12 rfl (errk (by decide) (by (exact (treeFault_hit (by omega) ((stepF_some hx1 (by omega) hS.out (by assumption) c1f c1k hx3).trans ((if_neg (by omega)).trans (if_pos (by assumption)))) (by decide) HA))))
              · refine R.q (q.neqE1 rfl rfl Try.underlying37 (by omega)) rfl <| R.nil ?_
                refine R.condT rfl rfl ?_
                refine R.reg rfl <| R.u 2 rfl <| R.nil ?_
                exact R.rv rfl Try.results12 rfl (rE (by (exact (treeFault_hit (by omega) ((stepF_some hx1 (by omega) hS.out (by assumption) c1f c1k hx3).trans (if_pos (by omega))) (by omega) HA).symm)))
            · refine Do.s (s.alloc (cs := [.int .i64 0, .int .i64 0, .int .i64 0, .int .i64 0, .int .i64 0]) tZero_35 rfl rfl) (fun _ => (fun _ => Wd.pik [1] [] rfl rfl rfl)) rfl fun b3 => ?_
              refine D.one (i := 10) (by kernel_rfl) rfl ?_
              refine Do.s (s.c (q.call eg_32 rfl rfl (fun w hw => (derive_any (x3) (x1.ID) (x1.Rights) (x1.Badge) w  (by omega)))) rfl) (fun _ => (fun _ => Wd.pik [1] [] rfl rfl rfl)) rfl fun _ => ?_
              refine D.q (i := 11) rfl (by kernel_rfl) (fun _ => Wd.pik [1] [] rfl rfl rfl) rfl (q.mv rfl) rfl <| D.q (i := 12) rfl (by kernel_rfl) (fun _ => Wd.pik [1] [] rfl rfl rfl) rfl (q.ext rfl rfl) rfl <| D.q (i := 13) rfl (by kernel_rfl) (fun _ => Wd.pik [1] [] rfl rfl rfl) rfl (q.ext rfl rfl) rfl <| ?_
              refine D.one (i := 15) (by kernel_rfl) rfl ?_
              refine Do.s (s.st (us := [.int .i64 (((derived x3 x1.ID x1.Rights x1.Badge).1).ID), .int .i64 (((derived x3 x1.ID x1.Rights x1.Badge).1).Thing), .int .i64 (((derived x3 x1.ID x1.Rights x1.Badge).1).Rights), .int .i64 (((derived x3 x1.ID x1.Rights x1.Badge).1).Badge), .int .i64 (((derived x3 x1.ID x1.Rights x1.Badge).1).From)]) (cs' := [.int .i64 (((derived x3 x1.ID x1.Rights x1.Badge).1).ID), .int .i64 (((derived x3 x1.ID x1.Rights x1.Badge).1).Thing), .int .i64 (((derived x3 x1.ID x1.Rights x1.Badge).1).Rights), .int .i64 (((derived x3 x1.ID x1.Rights x1.Badge).1).Badge), .int .i64 (((derived x3 x1.ID x1.Rights x1.Badge).1).From)]) 0 _ rfl rfl rfl rfl (.inl tAgg_35) rfl rfl rfl rfl) (fun _ => (fun _ => Wd.pik [1] [] rfl rfl rfl)) rfl fun _ => ?_
              refine D.q (i := 16) rfl (by kernel_rfl) (fun _ => Wd.pik [1] [] rfl rfl rfl) rfl (q.as rfl) rfl <| D.done (by kernel_rfl) <| ?_
              refine R.reg rfl <| R.u 1 rfl <| ?_
              by_cases h8 : (derived x3 x1.ID x1.Rights x1.Badge).2 = 0
              · refine R.q (q.neqE0 rfl rfl Try.underlying37 (by omega)) rfl <| R.nil ?_
                refine R.condF rfl rfl ?_
                refine R.reg rfl <| R.q (q.ldS 0 rfl rfl tAgg_35) rfl <| R.q (q.ldS 1 rfl rfl tAgg_35) rfl <| ?_
                by_cases h9 : ((derived x3 x1.ID x1.Rights x1.Badge).1) = x1
                · refine R.q (q.neqT1 (x := ((derived x3 x1.ID x1.Rights x1.Badge).1)) (y := x1) eq_35 rfl rfl h9) rfl <| R.nil ?_
                  refine R.condF rfl rfl ?_
                  refine R.reg rfl <| R.q (q.add (r := ((k + 1 : Nat) : Int)) rfl rfl (wr (by omega))) rfl <| R.u 1 rfl <| R.nil ?_
                  refine R.back (k + 1) rfl (by (exact ⟨by omega, steps_more HA ((stepF_some hx1 (by omega) hS.out (by assumption) c1f c1k hx3).trans ((if_neg (by omega)).trans (if_neg (fun h => h (by assumption)))))⟩)) (by omega) ⟨rfl, rfl, rfl, rfl, trivial⟩ (fun _ => Wd.pick [] [] rfl rfl rfl)
                · refine R.q (q.neqT0 (x := ((derived x3 x1.ID x1.Rights x1.Badge).1)) (y := x1) eq_35 rfl rfl h9) rfl <| R.nil ?_
                  refine R.condT rfl rfl ?_
                  refine R.reg rfl <| R.q (q.iface rfl con_62) rfl <| R.u 1 rfl <| R.nil ?_
                  exact R.rv rfl Try.results12 rfl (errk (by decide) (by (exact (treeFault_hit (by omega) ((stepF_some hx1 (by omega) hS.out (by assumption) c1f c1k hx3).trans ((if_neg (by omega)).trans (if_pos (by assumption)))) (by decide) HA))))
              · refine R.q (q.neqE1 rfl rfl Try.underlying37 (by omega)) rfl <| R.nil ?_
                refine R.condT rfl rfl ?_
                refine R.reg rfl <| R.u 2 rfl <| R.nil ?_
                exact R.rv rfl Try.results12 rfl (rE (by (exact (treeFault_hit (by omega) ((stepF_some hx1 (by omega) hS.out (by assumption) c1f c1k hx3).trans (if_pos (by omega))) (by omega) HA).symm)))
    · refine R.q (q.neqE1 rfl rfl Try.underlying37 (by omega)) rfl <| R.nil ?_
      refine R.condT rfl rfl ?_
      refine R.reg rfl <| R.u 2 rfl <| R.nil ?_
      exact R.rv rfl Try.results12 rfl (rE (by (have e : writFault x1 = 1 := (by omega); rw [e]; exact (treeFault_hit (by omega) (stepF_fault hx1 (by omega)) (by decide) HA).symm)))
  · refine R.q (q.lss rfl rfl (decide_eq_false (by omega))) rfl <| R.nil ?_
    refine R.condF rfl rfl ?_
    refine R.reg rfl <| R.u 1 rfl <| R.nil ?_
    exact R.rv rfl Try.results12 rfl (err0 (by (exact (treeFault_zero (fun j hj => HA j (by omega))))))

theorem without_any (v_l : Value) (l : List Writ) (id : Int) (w : World) (s_l : Sl w v_l l) (hl : l.length ≤ 1000000) : Calls Try.prog 33 #[v_l, .int .i64 id] w fun e w' => ∃ u, e = .returned u ∧ Own w.heap.size 35 w' u (without l id) ∧ Ext w w' := by
  have b_l := s_l.lenle
  refine R.enter (n := 42) (vs := [v_l, .int .i64 id]) [] [(0, v_l), (1, .int .i64 id)] Try.func33 rfl rfl rfl rfl ?_
  refine R.reg rfl <| R.u 1 rfl <| R.nil ?_
  refine R.reg rfl <| R.u 1 rfl <| R.nil ?_
  refine R.reg rfl <| R.u 1 rfl <| R.nil ?_
  refine R.reg rfl <| R.u 2 rfl <| ?_
  rcases findW_cases l id with ⟨c1f, c1n⟩ | ⟨c1j, c1h, c1f, c1e, c1m⟩
  · refine R.c (q.call eg_11 rfl rfl (fun w hw => (cv (congrArg (Value.int .i64) c1f) (find_any _ (l) (id) w ((fun _ => Wd.old s_l) w hw) )))) rfl <| R.u 1 rfl <| R.nil ?_
    refine R.reg rfl <| R.u 1 rfl <| R.q (q.geq (b := false) rfl rfl (by decide)) rfl <| R.nil ?_
    refine R.condF rfl rfl ?_
    refine R.reg rfl <| R.u 1 rfl <| R.q (q.len' (fun _ => Wd.old s_l) rfl Try.underlying26) rfl <| R.u 1 rfl <| R.nil ?_
    refine R.row0 (α := Writ) 35 ?_
    refine R.loop (fun g_ : Nat × Value × (List Writ) => [(1, .int .i64 id), (5, g_.2.1), (6, .int .i64 0), (20, v_l), (21, .int .i64 (l.length : Int)), (22, .int .i64 (g_.1 : Int))]) (fun g_ : Nat × Value × (List Writ) => [Res.row 35 g_.2.1 (g_.2.2 : List Writ)]) (fun g_ : Nat × Value × (List Writ) => []) (fun g_ : Nat × Value × (List Writ) => g_.1 ≤ l.length ∧ g_.2.2 = woG id 0 (l.take g_.1)) (fun g_ : Nat × Value × (List Writ) => l.length - g_.1) (0, (.slice none 0 0), []) rfl (by exact ⟨by simp, by simp [woG, woRG]⟩) ⟨rfl, rfl, rfl, rfl, rfl, rfl, trivial⟩ (fun _ => Wd.pick [0] [] rfl rfl rfl) ?_
    rintro ⟨k, v, acc⟩ ⟨hk, HA⟩
    dsimp only at *
    have hal : acc.length ≤ k := by rw [HA]; exact Nat.le_trans (woG_len _ _ _) (List.length_take_le _ _)
    refine R.reg rfl <| ?_
    by_cases h1 : k < l.length
    · refine R.q (q.lss rfl rfl (decide_eq_true (by omega))) rfl <| R.nil ?_
      refine R.condT rfl rfl ?_
      refine R.reg rfl <| ?_
      obtain ⟨x1, hx1⟩ : ∃ z, l[k]? = some z := ⟨_, List.getElem?_eq_getElem (by omega)⟩
      refine R.q (q.idx (i := k) (fun _ => Wd.old s_l) rfl rfl tSl_26 rfl hx1) rfl <| R.q (q.ldES (ds := [.int .i64 x1.ID, .int .i64 x1.Thing, .int .i64 x1.Rights, .int .i64 x1.Badge, .int .i64 x1.From]) (fun _ => Wd.old s_l) hx1 rfl tAgg_35 rfl) rfl <| ?_
      refine R.s rfl (s.alloc (cs := [.int .i64 0, .int .i64 0, .int .i64 0, .int .i64 0, .int .i64 0]) tZero_35 rfl rfl) fun b1 => ?_
      refine R.s rfl (s.st (us := [.int .i64 x1.ID, .int .i64 x1.Thing, .int .i64 x1.Rights, .int .i64 x1.Badge, .int .i64 x1.From]) (cs' := [.int .i64 x1.ID, .int .i64 x1.Thing, .int .i64 x1.Rights, .int .i64 x1.Badge, .int .i64 x1.From]) 0 _ rfl rfl rfl rfl (.inl tAgg_35) rfl rfl rfl rfl) fun _ => ?_
      refine R.nil ?_
      refine R.reg rfl <| R.q (q.fld (off' := 0) rfl tFld_35_0 rfl) rfl <| R.q (q.ld 0 rfl rfl tOne_3 rfl) rfl <| R.u 1 rfl <| ?_
      by_cases h2 : x1.ID = id
      · refine R.q (q.eql rfl rfl (beq_iff_eq.2 (by omega))) rfl <| R.nil ?_
        refine R.condT rfl rfl ?_
        refine R.reg rfl <| R.q (q.add (r := ((k + 1 : Nat) : Int)) rfl rfl (wr (by omega))) rfl <| R.u 1 rfl <| R.nil ?_
        refine R.back (k + 1, v, acc) rfl (by (exact ⟨by omega, by rw [HA, woG_hit hx1 (by assumption)]⟩)) (by dsimp only; omega) ⟨rfl, rfl, rfl, rfl, rfl, rfl, trivial⟩ (fun _ => Wd.pick [1] [] rfl rfl rfl)
      · refine R.q (q.eql rfl rfl (beq_eq_false_iff_ne.2 (by omega))) rfl <| R.nil ?_
        refine R.condF rfl rfl ?_
        refine R.reg rfl <| R.q (q.fld (off' := 4) rfl tFld_35_4 rfl) rfl <| R.q (q.ld 0 rfl rfl tOne_3 rfl) rfl <| R.u 1 rfl <| ?_
        by_cases h3 : x1.From = id
        · refine R.q (q.eql rfl rfl (beq_iff_eq.2 (by omega))) rfl <| R.nil ?_
          refine R.condT rfl rfl ?_
          refine R.reg rfl <| R.u 1 rfl <| R.q (q.fld (off' := 4) rfl tFld_35_4 rfl) rfl <| ?_
          refine R.s rfl (s.st (us := [.int .i64 0]) (cs' := [.int .i64 x1.ID, .int .i64 x1.Thing, .int .i64 x1.Rights, .int .i64 x1.Badge, .int .i64 0]) 0 _ rfl rfl rfl rfl (.inr ⟨tOne_3, rfl⟩) rfl rfl rfl rfl) fun _ => ?_
          refine R.nil ?_
          refine R.reg rfl <| R.u 1 rfl <| R.q (q.ldS 0 rfl rfl tAgg_35) rfl <| ?_
          refine R.s rfl (s.bs (l := ([(⟨x1.ID, x1.Thing, x1.Rights, x1.Badge, 0⟩ : Writ)] : List Writ)) tSl_26 tZero_35 rfl rfl rfl rfl rfl rfl rfl) fun b2 => ?_
          refine R.s rfl (s.app (l2 := [(⟨x1.ID, x1.Thing, x1.Rights, x1.Badge, 0⟩ : Writ)]) 2 _ rfl rfl rfl (fun _ => Wd.row 0 rfl) tApp_26 (by simp; omega) (by simp; omega) (fun _ => rfl) rfl) fun v1 => ?_
          refine R.u 1 rfl <| R.nil ?_
          refine R.reg rfl <| R.q (q.add (r := ((k + 1 : Nat) : Int)) rfl rfl (wr (by omega))) rfl <| R.u 1 rfl <| R.nil ?_
          refine R.back (k + 1, v1, (acc ++ ([(⟨x1.ID, x1.Thing, x1.Rights, x1.Badge, 0⟩ : Writ)]))) rfl (by (exact ⟨by omega, by rw [HA, woG_miss hx1 (by assumption), woRe_hit (by assumption)]⟩)) (by dsimp only; omega) ⟨rfl, rfl, rfl, rfl, rfl, rfl, trivial⟩ (fun _ => Wd.pick [2] [] rfl rfl rfl)
        · refine R.q (q.eql rfl rfl (beq_eq_false_iff_ne.2 (by omega))) rfl <| R.nil ?_
          refine R.condF rfl rfl ?_
          refine R.reg rfl <| R.u 1 rfl <| R.q (q.ldS 0 rfl rfl tAgg_35) rfl <| ?_
          refine R.s rfl (s.bs (l := ([x1] : List Writ)) tSl_26 tZero_35 rfl rfl rfl rfl rfl rfl rfl) fun b3 => ?_
          refine R.s rfl (s.app (l2 := [x1]) 2 _ rfl rfl rfl (fun _ => Wd.row 0 rfl) tApp_26 (by simp; omega) (by simp; omega) (fun _ => rfl) rfl) fun v2 => ?_
          refine R.u 1 rfl <| R.nil ?_
          refine R.reg rfl <| R.q (q.add (r := ((k + 1 : Nat) : Int)) rfl rfl (wr (by omega))) rfl <| R.u 1 rfl <| R.nil ?_
          refine R.back (k + 1, v2, (acc ++ ([x1]))) rfl (by (exact ⟨by omega, by rw [HA, woG_miss hx1 (by assumption), woRe_miss (by assumption)]⟩)) (by dsimp only; omega) ⟨rfl, rfl, rfl, rfl, rfl, rfl, trivial⟩ (fun _ => Wd.pick [2] [] rfl rfl rfl)
    · refine R.q (q.lss rfl rfl (decide_eq_false (by omega))) rfl <| R.nil ?_
      refine R.condF rfl rfl ?_
      refine R.reg rfl <| R.u 2 rfl <| R.nil ?_
      exact R.ro 0 rfl Try.results33 rfl rfl (by (rw [HA, List.take_of_length_le (by omega)]; unfold without; rw [fromOf_none c1f]))
  · refine R.c (q.call eg_11 rfl rfl (fun w hw => (cv (congrArg (Value.int .i64) c1f) (find_any _ (l) (id) w ((fun _ => Wd.old s_l) w hw) )))) rfl <| R.u 1 rfl <| R.nil ?_
    refine R.reg rfl <| R.u 1 rfl <| R.q (q.geq rfl rfl (decide_eq_true (by omega))) rfl <| R.nil ?_
    refine R.condT rfl rfl ?_
    refine R.reg rfl <| R.u 2 rfl <| R.q (q.idx (i := c1j) (fun _ => Wd.old s_l) rfl rfl tSl_26 rfl (List.getElem?_eq_getElem c1h)) rfl <| R.q (q.fldE (j' := 4) (fun _ => Wd.old s_l) (List.getElem?_eq_getElem c1h) rfl tFld_35_4 rfl) rfl <| R.q (q.ldE (fun _ => Wd.old s_l) (List.getElem?_eq_getElem c1h) rfl tOne_3 rfl) rfl <| R.u 1 rfl <| R.nil ?_
    refine R.reg rfl <| R.u 1 rfl <| R.q (q.len' (fun _ => Wd.old s_l) rfl Try.underlying26) rfl <| R.u 1 rfl <| R.nil ?_
    refine R.row0 (α := Writ) 35 ?_
    refine R.loop (fun g_ : Nat × Value × (List Writ) => [(1, .int .i64 id), (5, g_.2.1), (6, .int .i64 ((l[c1j]).From)), (20, v_l), (21, .int .i64 (l.length : Int)), (22, .int .i64 (g_.1 : Int))]) (fun g_ : Nat × Value × (List Writ) => [Res.row 35 g_.2.1 (g_.2.2 : List Writ)]) (fun g_ : Nat × Value × (List Writ) => []) (fun g_ : Nat × Value × (List Writ) => g_.1 ≤ l.length ∧ g_.2.2 = woG id ((l[c1j]).From) (l.take g_.1)) (fun g_ : Nat × Value × (List Writ) => l.length - g_.1) (0, (.slice none 0 0), []) rfl (by exact ⟨by simp, by simp [woG, woRG]⟩) ⟨rfl, rfl, rfl, rfl, rfl, rfl, trivial⟩ (fun _ => Wd.pick [0] [] rfl rfl rfl) ?_
    rintro ⟨k, v, acc⟩ ⟨hk, HA⟩
    dsimp only at *
    have hal : acc.length ≤ k := by rw [HA]; exact Nat.le_trans (woG_len _ _ _) (List.length_take_le _ _)
    refine R.reg rfl <| ?_
    by_cases h4 : k < l.length
    · refine R.q (q.lss rfl rfl (decide_eq_true (by omega))) rfl <| R.nil ?_
      refine R.condT rfl rfl ?_
      refine R.reg rfl <| ?_
      obtain ⟨x2, hx2⟩ : ∃ z, l[k]? = some z := ⟨_, List.getElem?_eq_getElem (by omega)⟩
      refine R.q (q.idx (i := k) (fun _ => Wd.old s_l) rfl rfl tSl_26 rfl hx2) rfl <| R.q (q.ldES (ds := [.int .i64 x2.ID, .int .i64 x2.Thing, .int .i64 x2.Rights, .int .i64 x2.Badge, .int .i64 x2.From]) (fun _ => Wd.old s_l) hx2 rfl tAgg_35 rfl) rfl <| ?_
      refine R.s rfl (s.alloc (cs := [.int .i64 0, .int .i64 0, .int .i64 0, .int .i64 0, .int .i64 0]) tZero_35 rfl rfl) fun b4 => ?_
      refine R.s rfl (s.st (us := [.int .i64 x2.ID, .int .i64 x2.Thing, .int .i64 x2.Rights, .int .i64 x2.Badge, .int .i64 x2.From]) (cs' := [.int .i64 x2.ID, .int .i64 x2.Thing, .int .i64 x2.Rights, .int .i64 x2.Badge, .int .i64 x2.From]) 0 _ rfl rfl rfl rfl (.inl tAgg_35) rfl rfl rfl rfl) fun _ => ?_
      refine R.nil ?_
      refine R.reg rfl <| R.q (q.fld (off' := 0) rfl tFld_35_0 rfl) rfl <| R.q (q.ld 0 rfl rfl tOne_3 rfl) rfl <| R.u 1 rfl <| ?_
      by_cases h5 : x2.ID = id
      · refine R.q (q.eql rfl rfl (beq_iff_eq.2 (by omega))) rfl <| R.nil ?_
        refine R.condT rfl rfl ?_
        refine R.reg rfl <| R.q (q.add (r := ((k + 1 : Nat) : Int)) rfl rfl (wr (by omega))) rfl <| R.u 1 rfl <| R.nil ?_
        refine R.back (k + 1, v, acc) rfl (by (exact ⟨by omega, by rw [HA, woG_hit hx2 (by assumption)]⟩)) (by dsimp only; omega) ⟨rfl, rfl, rfl, rfl, rfl, rfl, trivial⟩ (fun _ => Wd.pick [1] [] rfl rfl rfl)
      · refine R.q (q.eql rfl rfl (beq_eq_false_iff_ne.2 (by omega))) rfl <| R.nil ?_
        refine R.condF rfl rfl ?_
        refine R.reg rfl <| R.q (q.fld (off' := 4) rfl tFld_35_4 rfl) rfl <| R.q (q.ld 0 rfl rfl tOne_3 rfl) rfl <| R.u 1 rfl <| ?_
        by_cases h6 : x2.From = id
        · refine R.q (q.eql rfl rfl (beq_iff_eq.2 (by omega))) rfl <| R.nil ?_
          refine R.condT rfl rfl ?_
          refine R.reg rfl <| R.u 1 rfl <| R.q (q.fld (off' := 4) rfl tFld_35_4 rfl) rfl <| ?_
          refine R.s rfl (s.st (us := [.int .i64 ((l[c1j]).From)]) (cs' := [.int .i64 x2.ID, .int .i64 x2.Thing, .int .i64 x2.Rights, .int .i64 x2.Badge, .int .i64 ((l[c1j]).From)]) 0 _ rfl rfl rfl rfl (.inr ⟨tOne_3, rfl⟩) rfl rfl rfl rfl) fun _ => ?_
          refine R.nil ?_
          refine R.reg rfl <| R.u 1 rfl <| R.q (q.ldS 0 rfl rfl tAgg_35) rfl <| ?_
          refine R.s rfl (s.bs (l := ([(⟨x2.ID, x2.Thing, x2.Rights, x2.Badge, (l[c1j]).From⟩ : Writ)] : List Writ)) tSl_26 tZero_35 rfl rfl rfl rfl rfl rfl rfl) fun b5 => ?_
          refine R.s rfl (s.app (l2 := [(⟨x2.ID, x2.Thing, x2.Rights, x2.Badge, (l[c1j]).From⟩ : Writ)]) 2 _ rfl rfl rfl (fun _ => Wd.row 0 rfl) tApp_26 (by simp; omega) (by simp; omega) (fun _ => rfl) rfl) fun v3 => ?_
          refine R.u 1 rfl <| R.nil ?_
          refine R.reg rfl <| R.q (q.add (r := ((k + 1 : Nat) : Int)) rfl rfl (wr (by omega))) rfl <| R.u 1 rfl <| R.nil ?_
          refine R.back (k + 1, v3, (acc ++ ([(⟨x2.ID, x2.Thing, x2.Rights, x2.Badge, (l[c1j]).From⟩ : Writ)]))) rfl (by (exact ⟨by omega, by rw [HA, woG_miss hx2 (by assumption), woRe_hit (by assumption)]⟩)) (by dsimp only; omega) ⟨rfl, rfl, rfl, rfl, rfl, rfl, trivial⟩ (fun _ => Wd.pick [2] [] rfl rfl rfl)
        · refine R.q (q.eql rfl rfl (beq_eq_false_iff_ne.2 (by omega))) rfl <| R.nil ?_
          refine R.condF rfl rfl ?_
          refine R.reg rfl <| R.u 1 rfl <| R.q (q.ldS 0 rfl rfl tAgg_35) rfl <| ?_
          refine R.s rfl (s.bs (l := ([x2] : List Writ)) tSl_26 tZero_35 rfl rfl rfl rfl rfl rfl rfl) fun b6 => ?_
          refine R.s rfl (s.app (l2 := [x2]) 2 _ rfl rfl rfl (fun _ => Wd.row 0 rfl) tApp_26 (by simp; omega) (by simp; omega) (fun _ => rfl) rfl) fun v4 => ?_
          refine R.u 1 rfl <| R.nil ?_
          refine R.reg rfl <| R.q (q.add (r := ((k + 1 : Nat) : Int)) rfl rfl (wr (by omega))) rfl <| R.u 1 rfl <| R.nil ?_
          refine R.back (k + 1, v4, (acc ++ ([x2]))) rfl (by (exact ⟨by omega, by rw [HA, woG_miss hx2 (by assumption), woRe_miss (by assumption)]⟩)) (by dsimp only; omega) ⟨rfl, rfl, rfl, rfl, rfl, rfl, trivial⟩ (fun _ => Wd.pick [2] [] rfl rfl rfl)
    · refine R.q (q.lss rfl rfl (decide_eq_false (by omega))) rfl <| R.nil ?_
      refine R.condF rfl rfl ?_
      refine R.reg rfl <| R.u 2 rfl <| R.nil ?_
      exact R.ro 0 rfl Try.results33 rfl rfl (by (rw [HA, List.take_of_length_le (by omega)]; unfold without; rw [fromOf_some c1f (List.getElem?_eq_getElem c1h)]))

end Go.Proofs.Ytoaneidhfcljmaa
