import Derived.Test.YtpipachmngdegaaGreatRealmSaysProofG31
import Derived.Test.YtpipachmngdegaaGreatRealmSaysProofG32
import Derived.Test.YtpipachmngdegaaGreatRealmSaysProofG16
import Derived.Test.YtpipachmngdegaaGreatRealmSaysProofG33
import Derived.Test.YtpipachmngdegaaGreatRealmSaysProofG34
section
/-
  The walks of acts: what is light, what an act does, what grows.
-/
namespace Go.Proofs.YtpipachmngdegaaGreat
open Go Go.RowKit
set_option linter.unusedVariables false
set_option linter.unusedSimpArgs false
set_option maxRecDepth 100000
set_option hygiene false
local macro:max "§0" : term => `([Res.box b3 [.slice none 0 0, .slice none 0 0, .slice none 0 0, .slice none 0 0, .int .i64 0, .int .i64 0] 30, Res.box b2 [.string a.Kind, .string a.S, .int .i64 a.P.Holder, .int .i64 a.P.Slot, .int .i64 a.Q.Holder, .int .i64 a.Q.Slot, .int .i64 a.A, .int .i64 a.B, .int .i64 a.N, .int .u64 a.K, a.cv] 37, Res.box b1 [v_rW, v_rT, v_rH, v_rN, .int .i64 r.NextWrit, .int .i64 r.NextThing] 30, Res.held w own])
local macro:max "§1" : term => `((fun w hw => (one_cons (Sl.one ((fun _ => Wd.fls 0 rfl) w hw)) (one_cons (Sl.one ((fun _ => Wd.fls 1 rfl) w hw)) (one_cons (Sl.one ((fun _ => Wd.fls 2 rfl) w hw)) (one_cons (Sl.one ((fun _ => Wd.fls 3 rfl) w hw)) (one_cons rfl (one_cons rfl one_nil))))))))
local macro:max "§2" : term => `([Res.ls v_rW (r.Writs : List Writ), Res.ls v_rT (r.Things : List Thing), Res.ls v_rH (r.Held : List Held), Res.ls v_rN (r.Notes : List Note)])
local macro:max "§3" : term => `((by (unfold lightC; first | (rw [decide_eq_false (by omega)]; rfl) | (rw [decide_eq_true (by omega), all_up (by omega) HA]; rfl) | (rw [all_hit hx1 (show lightC1 _ = false from by unfold lightC1; simp; omega)]; simp) | (rw [all_hit hx1 (show lightC1 _ = false from by unfold lightC1; simp_all)]; simp))))
local macro:max "§4" : term => `((by (unfold lightA; first | (rw [decide_eq_false (by omega)]; rfl) | (rw [decide_eq_true (by omega), all_up (by omega) HA]; rfl) | (rw [all_hit hx1 (show lightA1 _ = false from by unfold lightA1; simp; omega)]; simp) | (rw [all_hit hx1 (show lightA1 _ = false from by unfold lightA1; simp_all)]; simp))))
local macro:max "§5" : term => `((q.ldP (ds := [.int .i64 a.P.Holder, .int .i64 a.P.Slot]) 1 rfl rfl tAgg_33 rfl))
local macro:max "§6" : term => `((by (exact (decide_eq_false (fun e => by subst e; first | omega | (simp_all; done))).symm)))
local macro:max "§7" : term => `((fun g_ : Value × Value × Value × Value => §0))
local macro:max "§8" : term => `((fun g_ : Value × Value × Value × Value => []))
local macro:max "§9" : term => `((by first | omega | (simp; done) | (simp; omega)))
local macro:max "§10" : term => `([z29, z30, z31, z32, .int .i64 (((takeR r a.P).1).NextWrit), .int .i64 (((takeR r a.P).1).NextThing)])
local macro:max "§11" : term => `((q.fld (off' := 1) rfl tFld_30_1 rfl))
local macro:max "§12" : term => `((q.fld (off' := 3) rfl tFld_30_3 rfl))
local macro:max "§13" : term => `((s.alloc (cs := [.slice none 0 0, .slice none 0 0, .slice none 0 0, .slice none 0 0, .int .i64 0, .int .i64 0]) tZero_30 rfl rfl))
local macro:max "§14" : term => `((q.fld (off' := 2) rfl tFld_37_2 rfl))

theorem lightC_any (v_l : Value) (l : List Change) (most : Int) (w : World) (s_l : Sl w v_l l) : Calls Tryz.prog 22 #[v_l, .int .i64 most] w fun e w' => e = .returned (.bool (lightC l most)) ∧ Ext w w' := by
  have b_l := s_l.lenle
  refine R.enter (n := 32) (vs := [v_l, .int .i64 most]) [] [(0, v_l), (1, .int .i64 most)] Tryz.func22 rfl rfl rfl rfl ?_
  refine R.oldL s_l ?_
  refine R.reg rfl <| R.u 1 rfl <| R.nil ?_
  refine R.reg rfl <| R.u 1 rfl <| R.q (q.len' (fun _ => Wd.fls 0 rfl) rfl Tryz.underlying35) rfl <| R.u 1 rfl <| ?_
  by_cases h1 : most < (l.length : Int)
  · refine R.q (q.gtr rfl rfl (decide_eq_true (by omega))) rfl <| R.nil ?_
    refine R.condT rfl rfl ?_
    refine R.reg rfl <| R.u 1 rfl <| R.nil ?_
    exact R.rv rfl Tryz.results22 rfl (rB §3)
  · refine R.q (q.gtr rfl rfl (decide_eq_false (by omega))) rfl <| R.nil ?_
    refine R.condF rfl rfl ?_
    refine R.reg rfl <| R.u 1 rfl <| R.nil ?_
    refine R.loop (fun k : Nat => [(0, v_l), (5, .int .i64 (k : Int))]) (fun k : Nat => []) (fun k : Nat => [Res.ls v_l (l : List Change)]) (fun k : Nat => k ≤ l.length ∧ (l.take k).all lightC1 = true) (fun k : Nat => l.length - k) 0 rfl (by exact ⟨by omega, rfl⟩) ⟨rfl, rfl, trivial⟩ (fun _ => Wd.pick [] [0] rfl rfl rfl) ?_
    rintro k ⟨hk, HA⟩
    refine R.reg rfl <| R.u 2 rfl <| R.q (q.len' (fun _ => Wd.fls 0 rfl) rfl Tryz.underlying35) rfl <| ?_
    by_cases h2 : k < l.length
    · refine R.q (q.lss rfl rfl (decide_eq_true (by omega))) rfl <| R.nil ?_
      refine R.condT rfl rfl ?_
      refine R.reg rfl <| R.u 2 rfl <| ?_
      obtain ⟨x1, hx1⟩ : ∃ z, l[k]? = some z := ⟨_, List.getElem?_eq_getElem (by omega)⟩
      refine R.q (q.idx (i := k) (fun _ => Wd.fls 0 rfl) rfl rfl tSl_35 rfl hx1) rfl <| R.q (q.fldE (j' := 0) (fun _ => Wd.fls 0 rfl) hx1 rfl tFld_106_0 rfl) rfl <| R.q (q.ldE (fun _ => Wd.fls 0 rfl) hx1 rfl tOne_9 rfl) rfl <| R.q (q.lenS rfl Tryz.underlying9) rfl <| ?_
      by_cases h3 : 20 < x1.Key.size
      · refine R.q (q.gtr rfl rfl (decide_eq_true (by omega))) rfl <| R.u 9 rfl <| R.nil ?_
        refine R.condT rfl rfl ?_
        refine R.reg rfl <| R.u 1 rfl <| R.nil ?_
        exact R.rv rfl Tryz.results22 rfl (rB §3)
      · refine R.q (q.gtr rfl rfl (decide_eq_false (by omega))) rfl <| R.u 3 rfl <| R.qg rfl (q.idx (i := k) (fun _ => Wd.fls 0 rfl) rfl rfl tSl_35 rfl hx1) rfl <| R.qg rfl (q.fldE (j' := 1) (fun _ => Wd.fls 0 rfl) hx1 rfl tFld_106_1 rfl) rfl <| R.qg rfl (q.ldE (fun _ => Wd.fls 0 rfl) hx1 rfl tOne_9 rfl) rfl <| R.qg rfl (q.lenS rfl Tryz.underlying9) rfl <| ?_
        by_cases h4 : 40 < x1.Val.size
        · refine R.qg rfl (q.gtr rfl rfl (decide_eq_true (by omega))) rfl <| R.u 1 rfl <| R.nil ?_
          refine R.condT rfl rfl ?_
          refine R.reg rfl <| R.u 1 rfl <| R.nil ?_
          exact R.rv rfl Tryz.results22 rfl (rB §3)
        · refine R.qg rfl (q.gtr rfl rfl (decide_eq_false (by omega))) rfl <| R.u 1 rfl <| R.nil ?_
          refine R.condF rfl rfl ?_
          refine R.reg rfl <| R.u 1 rfl <| R.q (q.add (r := ((k + 1 : Nat) : Int)) rfl rfl (wr (by omega))) rfl <| R.u 1 rfl <| R.nil ?_
          refine R.back (k + 1) rfl (by (exact ⟨by omega, all_snoc hx1 HA (by unfold lightC1; simp_all)⟩)) (by omega) ⟨rfl, rfl, trivial⟩ (fun _ => Wd.pik [] [0] rfl rfl rfl)
    · refine R.q (q.lss rfl rfl (decide_eq_false (by omega))) rfl <| R.nil ?_
      refine R.condF rfl rfl ?_
      refine R.reg rfl <| R.u 1 rfl <| R.nil ?_
      exact R.rv rfl Tryz.results22 rfl (rB §3)

theorem lightA_any (v_l : Value) (l : List Deed) (most : Int) (w : World) (s_l : Sl w v_l l) (c_l : ∀ x ∈ l, Sl w x.cv x.Changes) : Calls Tryz.prog 5 #[v_l, .int .i64 most] w fun e w' => e = .returned (.bool (lightA l most)) ∧ Ext w w' := by
  have b_l := s_l.lenle
  refine R.enter (n := 32) (vs := [v_l, .int .i64 most]) [] [(0, v_l), (1, .int .i64 most)] Tryz.func5 rfl rfl rfl rfl ?_
  refine R.oldL s_l ?_
  refine R.oldF (r := Res.acts l) c_l (acts_lt c_l) ?_
  refine R.reg rfl <| R.u 1 rfl <| R.nil ?_
  refine R.reg rfl <| R.u 1 rfl <| R.q (q.len' (fun _ => Wd.fls 1 rfl) rfl Tryz.underlying22) rfl <| R.u 1 rfl <| ?_
  by_cases h1 : most < (l.length : Int)
  · refine R.q (q.gtr rfl rfl (decide_eq_true (by omega))) rfl <| R.nil ?_
    refine R.condT rfl rfl ?_
    refine R.reg rfl <| R.u 1 rfl <| R.nil ?_
    exact R.rv rfl Tryz.results5 rfl (rB §4)
  · refine R.q (q.gtr rfl rfl (decide_eq_false (by omega))) rfl <| R.nil ?_
    refine R.condF rfl rfl ?_
    refine R.reg rfl <| R.u 1 rfl <| R.nil ?_
    refine R.loop (fun k : Nat => [(0, v_l), (5, .int .i64 (k : Int))]) (fun k : Nat => []) (fun k : Nat => [Res.acts l, Res.ls v_l (l : List Deed)]) (fun k : Nat => k ≤ l.length ∧ (l.take k).all lightA1 = true) (fun k : Nat => l.length - k) 0 rfl (by exact ⟨by omega, rfl⟩) ⟨rfl, rfl, trivial⟩ (fun _ => Wd.pick [] [0, 1] rfl rfl rfl) ?_
    rintro k ⟨hk, HA⟩
    refine R.reg rfl <| R.u 2 rfl <| R.q (q.len' (fun _ => Wd.fls 1 rfl) rfl Tryz.underlying22) rfl <| ?_
    by_cases h2 : k < l.length
    · refine R.q (q.lss rfl rfl (decide_eq_true (by omega))) rfl <| R.nil ?_
      refine R.condT rfl rfl ?_
      refine R.reg rfl <| R.u 2 rfl <| ?_
      obtain ⟨x1, hx1⟩ : ∃ z, l[k]? = some z := ⟨_, List.getElem?_eq_getElem (by omega)⟩
      refine R.q (q.idx (i := k) (fun _ => Wd.fls 1 rfl) rfl rfl tSl_22 rfl hx1) rfl <| R.q (q.fldE (j' := 1) (fun _ => Wd.fls 1 rfl) hx1 rfl tFld_37_1 rfl) rfl <| R.q (q.ldE (fun _ => Wd.fls 1 rfl) hx1 rfl tOne_9 rfl) rfl <| R.q (q.lenS rfl Tryz.underlying9) rfl <| ?_
      by_cases h3 : 100 < x1.S.size
      · refine R.q (q.gtr rfl rfl (decide_eq_true (by omega))) rfl <| R.u 9 rfl <| R.nil ?_
        refine R.condT rfl rfl ?_
        refine R.reg rfl <| R.u 1 rfl <| R.nil ?_
        exact R.rv rfl Tryz.results5 rfl (rB §4)
      · refine R.q (q.gtr rfl rfl (decide_eq_false (by omega))) rfl <| R.u 3 rfl <| R.qg rfl (q.idx (i := k) (fun _ => Wd.fls 1 rfl) rfl rfl tSl_22 rfl hx1) rfl <| R.qg rfl (q.fldE (j' := 10) (fun _ => Wd.fls 1 rfl) hx1 rfl tFld_37_8 rfl) rfl <| R.qg rfl (q.ldE (fun _ => Wd.fls 1 rfl) hx1 rfl tOne_35 rfl) rfl <| ?_
        rcases Bool.eq_false_or_eq_true (lightC x1.Changes 70) with h4 | h4
        · refine R.cg rfl (q.call eg_22 rfl rfl (fun w hw => (cv (congrArg Value.bool h4) (lightC_any _ (x1.Changes) (70) w ((fun _ => Wd.actX (l := l) 0 rfl (List.mem_of_getElem? hx1)) w hw) )))) rfl <| R.u 2 rfl <| R.nil ?_
          refine R.condF rfl rfl ?_
          refine R.reg rfl <| R.u 1 rfl <| R.q (q.add (r := ((k + 1 : Nat) : Int)) rfl rfl (wr (by omega))) rfl <| R.u 1 rfl <| R.nil ?_
          refine R.back (k + 1) rfl (by (exact ⟨by omega, all_snoc hx1 HA (by unfold lightA1; simp_all)⟩)) (by omega) ⟨rfl, rfl, trivial⟩ (fun _ => Wd.pik [] [0, 1] rfl rfl rfl)
        · refine R.cg rfl (q.call eg_22 rfl rfl (fun w hw => (cv (congrArg Value.bool h4) (lightC_any _ (x1.Changes) (70) w ((fun _ => Wd.actX (l := l) 0 rfl (List.mem_of_getElem? hx1)) w hw) )))) rfl <| R.u 2 rfl <| R.nil ?_
          refine R.condT rfl rfl ?_
          refine R.reg rfl <| R.u 1 rfl <| R.nil ?_
          exact R.rv rfl Tryz.results5 rfl (rB §4)
    · refine R.q (q.lss rfl rfl (decide_eq_false (by omega))) rfl <| R.nil ?_
      refine R.condF rfl rfl ?_
      refine R.reg rfl <| R.u 1 rfl <| R.nil ?_
      exact R.rv rfl Tryz.results5 rfl (rB §4)

set_option maxRecDepth 100000 in
set_option maxHeartbeats 2000000 in
theorem doR_any (v_rW v_rT v_rH v_rN : Value) (r : Realm) (a : Deed) (w : World) (own : List Nat) (H : Wd w (blks [] ++ own) ([] ++ [Res.held w own]) §2 w) (hk : Ok r) : Calls Tryz.prog 19 #[.agg #[v_rW, v_rT, v_rH, v_rN, .int .i64 r.NextWrit, .int .i64 r.NextThing], .agg #[.string a.Kind, .string a.S, .int .i64 a.P.Holder, .int .i64 a.P.Slot, .int .i64 a.Q.Holder, .int .i64 a.Q.Slot, .int .i64 a.A, .int .i64 a.B, .int .i64 a.N, .int .u64 a.K, a.cv]] w fun e w' => ∃ z : Value × Value × Value × Value, e = .returned (.tuple #[.agg #[z.1, z.2.1, z.2.2.1, z.2.2.2, .int .i64 ((((doR r a)).1).NextWrit), .int .i64 ((((doR r a)).1).NextThing)], errv (((doR r a)).2)]) ∧ Wd w (blks [] ++ own) ([] ++ [Res.held w own]) [Res.ls z.1 ((((doR r a)).1).Writs : List Writ), Res.ls z.2.1 ((((doR r a)).1).Things : List Thing), Res.ls z.2.2.1 ((((doR r a)).1).Held : List Held), Res.ls z.2.2.2 ((((doR r a)).1).Notes : List Note)] w' := by
  have m_r_Writs := H.lenF 0 rfl
  have m_r_Things := H.lenF 1 rfl
  have m_r_Held := H.lenF 2 rfl
  have m_r_Notes := H.lenF 3 rfl
  refine R.enterN (n := 100) (vs := [.agg #[v_rW, v_rT, v_rH, v_rN, .int .i64 r.NextWrit, .int .i64 r.NextThing], .agg #[.string a.Kind, .string a.S, .int .i64 a.P.Holder, .int .i64 a.P.Slot, .int .i64 a.Q.Holder, .int .i64 a.Q.Slot, .int .i64 a.A, .int .i64 a.B, .int .i64 a.N, .int .u64 a.K, a.cv]]) (B := [Res.held w own]) [(0, .agg #[v_rW, v_rT, v_rH, v_rN, .int .i64 r.NextWrit, .int .i64 r.NextThing]), (1, .agg #[.string a.Kind, .string a.S, .int .i64 a.P.Holder, .int .i64 a.P.Slot, .int .i64 a.Q.Holder, .int .i64 a.Q.Slot, .int .i64 a.A, .int .i64 a.B, .int .i64 a.N, .int .u64 a.K, a.cv])] Tryz.func19 rfl rfl rfl rfl H ?_
  refine R.reg rfl <| ?_
  refine R.s rfl (s.box (cs := [v_rW, v_rT, v_rH, v_rN, .int .i64 r.NextWrit, .int .i64 r.NextThing]) rfl rfl rfl) fun b1 => ?_
  refine R.s rfl (s.box (cs := [.string a.Kind, .string a.S, .int .i64 a.P.Holder, .int .i64 a.P.Slot, .int .i64 a.Q.Holder, .int .i64 a.Q.Slot, .int .i64 a.A, .int .i64 a.B, .int .i64 a.N, .int .u64 a.K, a.cv]) rfl rfl rfl) fun b2 => ?_
  refine R.s rfl §13 fun b3 => ?_
  refine R.u 1 rfl <| R.nil ?_
  refine R.reg rfl <| R.q (q.fld (off' := 0) rfl tFld_37_0 rfl) rfl <| R.q (q.ld 1 rfl rfl tOne_9 rfl) rfl <| R.nil ?_
  refine R.reg rfl <| ?_
  by_cases h1 : a.Kind = ⟨#[109, 97, 107, 101]⟩
  · refine R.q (q.eqlS1 rfl rfl h1) rfl <| R.u 1 rfl <| R.nil ?_
    refine R.condT rfl rfl ?_
    refine R.reg rfl <| R.q (q.ldS 2 rfl rfl tAgg_30) rfl <| R.q §14 rfl <| R.q §5 rfl <| R.q (q.fld (off' := 6) rfl tFld_37_4 rfl) rfl <| R.q (q.ld 1 rfl rfl tOne_3 rfl) rfl <| ?_
    refine R.s (B' := §7) (F' := (fun g_ : Value × Value × Value × Value => [Res.ls g_.1 ((((makeR r a.P a.A)).1).Writs : List Writ), Res.ls g_.2.1 ((((makeR r a.P a.A)).1).Things : List Thing), Res.ls g_.2.2.1 ((((makeR r a.P a.A)).1).Held : List Held), Res.ls g_.2.2.2 ((((makeR r a.P a.A)).1).Notes : List Note), Res.ls v_rW (r.Writs : List Writ), Res.ls v_rT (r.Things : List Thing), Res.ls v_rH (r.Held : List Held), Res.ls v_rN (r.Notes : List Note)])) rfl (s.callV (B0 := []) (Br := §0) (F0 := §2) [0, 1, 2, 3] [0, 1, 2, 3] (fun g_ : Value × Value × Value × Value => .tuple #[.agg #[g_.1, g_.2.1, g_.2.2.1, g_.2.2.2, .int .i64 ((((makeR r a.P a.A)).1).NextWrit), .int .i64 ((((makeR r a.P a.A)).1).NextThing)], errv (((makeR r a.P a.A)).2)]) §8 (fun g_ : Value × Value × Value × Value => [Res.ls g_.1 ((((makeR r a.P a.A)).1).Writs : List Writ), Res.ls g_.2.1 ((((makeR r a.P a.A)).1).Things : List Thing), Res.ls g_.2.2.1 ((((makeR r a.P a.A)).1).Held : List Held), Res.ls g_.2.2.2 ((((makeR r a.P a.A)).1).Notes : List Note)]) rfl rfl rfl eg_21 rfl rfl (fun w own hw H => makeR_any v_rW v_rT v_rH v_rN (r) (a.P) (a.A) w own H (by assumption)) rfl) ?_
    rintro ⟨z1, z2, z3, z4⟩
    dsimp only
    refine R.u 2 rfl <| ?_
    refine R.s rfl (s.stV (us := [z1, z2, z3, z4, .int .i64 (((makeR r a.P a.A).1).NextWrit), .int .i64 (((makeR r a.P a.A).1).NextThing)]) (cs' := [z1, z2, z3, z4, .int .i64 (((makeR r a.P a.A).1).NextWrit), .int .i64 (((makeR r a.P a.A).1).NextThing)]) 0 _ rfl rfl rfl (fun _ _ => rfl) (.inl tAgg_30) §1 rfl rfl rfl) fun _ => ?_
    refine R.u 1 rfl <| R.nil ?_
    have hz : doR r a = (((makeR r a.P a.A).1), (makeR r a.P a.A).2) := by (unfold doR; (repeat' split) <;> first | rfl | (exfalso; simp_all; done) | (simp_all; done))
    rw [hz]
    exact R.w2 (z1, z2, z3, z4) [3] [0, 1, 2, 3] rfl Tryz.results19 (RV.cell 0 rfl rfl tAgg_30) (RV.tmp rfl) rfl rfl rfl (tup2 rfl rfl)
  · refine R.q (q.eqlS0 rfl rfl h1) rfl <| R.u 1 rfl <| R.nil ?_
    refine R.condF rfl rfl ?_
    refine R.reg rfl <| ?_
    by_cases h2 : a.Kind = ⟨#[103, 105, 118, 101]⟩
    · refine R.q (q.eqlS1 rfl rfl h2) rfl <| R.u 1 rfl <| R.nil ?_
      refine R.condT rfl rfl ?_
      refine R.reg rfl <| R.q (q.ldS 2 rfl rfl tAgg_30) rfl <| R.q §14 rfl <| R.q §5 rfl <| R.q (q.fld (off' := 4) rfl tFld_37_3 rfl) rfl <| R.q (q.ldP (ds := [.int .i64 a.Q.Holder, .int .i64 a.Q.Slot]) 1 rfl rfl tAgg_33 rfl) rfl <| R.q (q.fld (off' := 6) rfl tFld_37_4 rfl) rfl <| R.q (q.ld 1 rfl rfl tOne_3 rfl) rfl <| R.q (q.fld (off' := 7) rfl tFld_37_5 rfl) rfl <| R.q (q.ld 1 rfl rfl tOne_3 rfl) rfl <| ?_
      refine R.s (B' := §7) (F' := (fun g_ : Value × Value × Value × Value => [Res.ls g_.1 ((((giveR r a.P a.Q a.A a.B)).1).Writs : List Writ), Res.ls g_.2.1 ((((giveR r a.P a.Q a.A a.B)).1).Things : List Thing), Res.ls g_.2.2.1 ((((giveR r a.P a.Q a.A a.B)).1).Held : List Held), Res.ls g_.2.2.2 ((((giveR r a.P a.Q a.A a.B)).1).Notes : List Note), Res.ls v_rW (r.Writs : List Writ), Res.ls v_rT (r.Things : List Thing), Res.ls v_rH (r.Held : List Held), Res.ls v_rN (r.Notes : List Note)])) rfl (s.callV (B0 := []) (Br := §0) (F0 := §2) [0, 1, 2, 3] [0, 1, 2, 3] (fun g_ : Value × Value × Value × Value => .tuple #[.agg #[g_.1, g_.2.1, g_.2.2.1, g_.2.2.2, .int .i64 ((((giveR r a.P a.Q a.A a.B)).1).NextWrit), .int .i64 ((((giveR r a.P a.Q a.A a.B)).1).NextThing)], errv (((giveR r a.P a.Q a.A a.B)).2)]) §8 (fun g_ : Value × Value × Value × Value => [Res.ls g_.1 ((((giveR r a.P a.Q a.A a.B)).1).Writs : List Writ), Res.ls g_.2.1 ((((giveR r a.P a.Q a.A a.B)).1).Things : List Thing), Res.ls g_.2.2.1 ((((giveR r a.P a.Q a.A a.B)).1).Held : List Held), Res.ls g_.2.2.2 ((((giveR r a.P a.Q a.A a.B)).1).Notes : List Note)]) rfl rfl rfl eg_47 rfl rfl (fun w own hw H => giveR_any v_rW v_rT v_rH v_rN (r) (a.P) (a.Q) (a.A) (a.B) w own H (by assumption)) rfl) ?_
      rintro ⟨z5, z6, z7, z8⟩
      dsimp only
      refine R.u 2 rfl <| ?_
      refine R.s rfl (s.stV (us := [z5, z6, z7, z8, .int .i64 (((giveR r a.P a.Q a.A a.B).1).NextWrit), .int .i64 (((giveR r a.P a.Q a.A a.B).1).NextThing)]) (cs' := [z5, z6, z7, z8, .int .i64 (((giveR r a.P a.Q a.A a.B).1).NextWrit), .int .i64 (((giveR r a.P a.Q a.A a.B).1).NextThing)]) 0 _ rfl rfl rfl (fun _ _ => rfl) (.inl tAgg_30) §1 rfl rfl rfl) fun _ => ?_
      refine R.u 1 rfl <| R.nil ?_
      have hz : doR r a = (((giveR r a.P a.Q a.A a.B).1), (giveR r a.P a.Q a.A a.B).2) := by (unfold doR; (repeat' split) <;> first | rfl | (exfalso; simp_all; done) | (simp_all; done))
      rw [hz]
      exact R.w2 (z5, z6, z7, z8) [3] [0, 1, 2, 3] rfl Tryz.results19 (RV.cell 0 rfl rfl tAgg_30) (RV.tmp rfl) rfl rfl rfl (tup2 rfl rfl)
    · refine R.q (q.eqlS0 rfl rfl h2) rfl <| R.u 1 rfl <| R.nil ?_
      refine R.condF rfl rfl ?_
      refine R.reg rfl <| ?_
      by_cases h3 : a.Kind = ⟨#[109, 111, 118, 101]⟩
      · refine R.q (q.eqlS1 rfl rfl h3) rfl <| R.u 1 rfl <| R.nil ?_
        refine R.condT rfl rfl ?_
        refine R.reg rfl <| R.q (q.ldS 2 rfl rfl tAgg_30) rfl <| R.q §14 rfl <| R.q §5 rfl <| R.q (q.fld (off' := 6) rfl tFld_37_4 rfl) rfl <| R.q (q.ld 1 rfl rfl tOne_3 rfl) rfl <| ?_
        refine R.s (B' := §7) (F' := (fun g_ : Value × Value × Value × Value => [Res.ls g_.1 ((((moveR r a.P a.A)).1).Writs : List Writ), Res.ls g_.2.1 ((((moveR r a.P a.A)).1).Things : List Thing), Res.ls g_.2.2.1 ((((moveR r a.P a.A)).1).Held : List Held), Res.ls g_.2.2.2 ((((moveR r a.P a.A)).1).Notes : List Note), Res.ls v_rW (r.Writs : List Writ), Res.ls v_rT (r.Things : List Thing), Res.ls v_rH (r.Held : List Held), Res.ls v_rN (r.Notes : List Note)])) rfl (s.callV (B0 := []) (Br := §0) (F0 := §2) [0, 1, 2, 3] [0, 1, 2, 3] (fun g_ : Value × Value × Value × Value => .tuple #[.agg #[g_.1, g_.2.1, g_.2.2.1, g_.2.2.2, .int .i64 ((((moveR r a.P a.A)).1).NextWrit), .int .i64 ((((moveR r a.P a.A)).1).NextThing)], errv (((moveR r a.P a.A)).2)]) §8 (fun g_ : Value × Value × Value × Value => [Res.ls g_.1 ((((moveR r a.P a.A)).1).Writs : List Writ), Res.ls g_.2.1 ((((moveR r a.P a.A)).1).Things : List Thing), Res.ls g_.2.2.1 ((((moveR r a.P a.A)).1).Held : List Held), Res.ls g_.2.2.2 ((((moveR r a.P a.A)).1).Notes : List Note)]) rfl rfl rfl eg_48 rfl rfl (fun w own hw H => moveR_any v_rW v_rT v_rH v_rN (r) (a.P) (a.A) w own H (by assumption)) rfl) ?_
        rintro ⟨z9, z10, z11, z12⟩
        dsimp only
        refine R.u 2 rfl <| ?_
        refine R.s rfl (s.stV (us := [z9, z10, z11, z12, .int .i64 (((moveR r a.P a.A).1).NextWrit), .int .i64 (((moveR r a.P a.A).1).NextThing)]) (cs' := [z9, z10, z11, z12, .int .i64 (((moveR r a.P a.A).1).NextWrit), .int .i64 (((moveR r a.P a.A).1).NextThing)]) 0 _ rfl rfl rfl (fun _ _ => rfl) (.inl tAgg_30) §1 rfl rfl rfl) fun _ => ?_
        refine R.u 1 rfl <| R.nil ?_
        have hz : doR r a = (((moveR r a.P a.A).1), (moveR r a.P a.A).2) := by (unfold doR; (repeat' split) <;> first | rfl | (exfalso; simp_all; done) | (simp_all; done))
        rw [hz]
        exact R.w2 (z9, z10, z11, z12) [3] [0, 1, 2, 3] rfl Tryz.results19 (RV.cell 0 rfl rfl tAgg_30) (RV.tmp rfl) rfl rfl rfl (tup2 rfl rfl)
      · refine R.q (q.eqlS0 rfl rfl h3) rfl <| R.u 1 rfl <| R.nil ?_
        refine R.condF rfl rfl ?_
        refine R.reg rfl <| ?_
        by_cases h4 : a.Kind = ⟨#[100, 114, 111, 112]⟩
        · refine R.q (q.eqlS1 rfl rfl h4) rfl <| R.u 1 rfl <| R.nil ?_
          refine R.condT rfl rfl ?_
          refine R.reg rfl <| R.q (q.ldS 2 rfl rfl tAgg_30) rfl <| R.q §14 rfl <| R.q §5 rfl <| ?_
          refine R.s (B' := §7) (F' := (fun g_ : Value × Value × Value × Value => [Res.ls g_.1 ((((dropR r a.P)).1).Writs : List Writ), Res.ls g_.2.1 ((((dropR r a.P)).1).Things : List Thing), Res.ls g_.2.2.1 ((((dropR r a.P)).1).Held : List Held), Res.ls g_.2.2.2 ((((dropR r a.P)).1).Notes : List Note), Res.ls v_rW (r.Writs : List Writ), Res.ls v_rT (r.Things : List Thing), Res.ls v_rH (r.Held : List Held), Res.ls v_rN (r.Notes : List Note)])) rfl (s.callV (B0 := []) (Br := §0) (F0 := §2) [0, 1, 2, 3] [0, 1, 2, 3] (fun g_ : Value × Value × Value × Value => .tuple #[.agg #[g_.1, g_.2.1, g_.2.2.1, g_.2.2.2, .int .i64 ((((dropR r a.P)).1).NextWrit), .int .i64 ((((dropR r a.P)).1).NextThing)], errv (((dropR r a.P)).2)]) §8 (fun g_ : Value × Value × Value × Value => [Res.ls g_.1 ((((dropR r a.P)).1).Writs : List Writ), Res.ls g_.2.1 ((((dropR r a.P)).1).Things : List Thing), Res.ls g_.2.2.1 ((((dropR r a.P)).1).Held : List Held), Res.ls g_.2.2.2 ((((dropR r a.P)).1).Notes : List Note)]) rfl rfl rfl eg_49 rfl rfl (fun w own hw H => dropR_any v_rW v_rT v_rH v_rN (r) (a.P) w own H (by assumption)) rfl) ?_
          rintro ⟨z13, z14, z15, z16⟩
          dsimp only
          refine R.u 2 rfl <| ?_
          refine R.s rfl (s.stV (us := [z13, z14, z15, z16, .int .i64 (((dropR r a.P).1).NextWrit), .int .i64 (((dropR r a.P).1).NextThing)]) (cs' := [z13, z14, z15, z16, .int .i64 (((dropR r a.P).1).NextWrit), .int .i64 (((dropR r a.P).1).NextThing)]) 0 _ rfl rfl rfl (fun _ _ => rfl) (.inl tAgg_30) §1 rfl rfl rfl) fun _ => ?_
          refine R.u 1 rfl <| R.nil ?_
          have hz : doR r a = (((dropR r a.P).1), (dropR r a.P).2) := by (unfold doR; (repeat' split) <;> first | rfl | (exfalso; simp_all; done) | (simp_all; done))
          rw [hz]
          exact R.w2 (z13, z14, z15, z16) [3] [0, 1, 2, 3] rfl Tryz.results19 (RV.cell 0 rfl rfl tAgg_30) (RV.tmp rfl) rfl rfl rfl (tup2 rfl rfl)
        · refine R.q (q.eqlS0 rfl rfl h4) rfl <| R.u 1 rfl <| R.nil ?_
          refine R.condF rfl rfl ?_
          refine R.reg rfl <| ?_
          by_cases h5 : a.Kind = ⟨#[114, 101, 118, 111, 107, 101]⟩
          · refine R.q (q.eqlS1 rfl rfl h5) rfl <| R.u 1 rfl <| R.nil ?_
            refine R.condT rfl rfl ?_
            refine R.reg rfl <| R.q (q.ldS 2 rfl rfl tAgg_30) rfl <| R.q §14 rfl <| R.q §5 rfl <| ?_
            refine R.s (B' := §7) (F' := (fun g_ : Value × Value × Value × Value => [Res.ls g_.1 ((((revokeR r a.P)).1).Writs : List Writ), Res.ls g_.2.1 ((((revokeR r a.P)).1).Things : List Thing), Res.ls g_.2.2.1 ((((revokeR r a.P)).1).Held : List Held), Res.ls g_.2.2.2 ((((revokeR r a.P)).1).Notes : List Note), Res.ls v_rW (r.Writs : List Writ), Res.ls v_rT (r.Things : List Thing), Res.ls v_rH (r.Held : List Held), Res.ls v_rN (r.Notes : List Note)])) rfl (s.callV (B0 := []) (Br := §0) (F0 := §2) [0, 1, 2, 3] [0, 1, 2, 3] (fun g_ : Value × Value × Value × Value => .tuple #[.agg #[g_.1, g_.2.1, g_.2.2.1, g_.2.2.2, .int .i64 ((((revokeR r a.P)).1).NextWrit), .int .i64 ((((revokeR r a.P)).1).NextThing)], errv (((revokeR r a.P)).2)]) §8 (fun g_ : Value × Value × Value × Value => [Res.ls g_.1 ((((revokeR r a.P)).1).Writs : List Writ), Res.ls g_.2.1 ((((revokeR r a.P)).1).Things : List Thing), Res.ls g_.2.2.1 ((((revokeR r a.P)).1).Held : List Held), Res.ls g_.2.2.2 ((((revokeR r a.P)).1).Notes : List Note)]) rfl rfl rfl eg_50 rfl rfl (fun w own hw H => revokeR_any v_rW v_rT v_rH v_rN (r) (a.P) w own H (by assumption)) rfl) ?_
            rintro ⟨z17, z18, z19, z20⟩
            dsimp only
            refine R.u 2 rfl <| ?_
            refine R.s rfl (s.stV (us := [z17, z18, z19, z20, .int .i64 (((revokeR r a.P).1).NextWrit), .int .i64 (((revokeR r a.P).1).NextThing)]) (cs' := [z17, z18, z19, z20, .int .i64 (((revokeR r a.P).1).NextWrit), .int .i64 (((revokeR r a.P).1).NextThing)]) 0 _ rfl rfl rfl (fun _ _ => rfl) (.inl tAgg_30) §1 rfl rfl rfl) fun _ => ?_
            refine R.u 1 rfl <| R.nil ?_
            have hz : doR r a = (((revokeR r a.P).1), (revokeR r a.P).2) := by (unfold doR; (repeat' split) <;> first | rfl | (exfalso; simp_all; done) | (simp_all; done))
            rw [hz]
            exact R.w2 (z17, z18, z19, z20) [3] [0, 1, 2, 3] rfl Tryz.results19 (RV.cell 0 rfl rfl tAgg_30) (RV.tmp rfl) rfl rfl rfl (tup2 rfl rfl)
          · refine R.q (q.eqlS0 rfl rfl h5) rfl <| R.u 1 rfl <| R.nil ?_
            refine R.condF rfl rfl ?_
            refine R.reg rfl <| ?_
            by_cases h6 : a.Kind = ⟨#[119, 114, 105, 116, 101]⟩
            · refine R.q (q.eqlS1 rfl rfl h6) rfl <| R.u 1 rfl <| R.nil ?_
              refine R.condT rfl rfl ?_
              refine R.reg rfl <| R.q (q.ldS 2 rfl rfl tAgg_30) rfl <| R.q §14 rfl <| R.q §5 rfl <| R.q (q.fld (off' := 1) rfl tFld_37_1 rfl) rfl <| R.q (q.ld 1 rfl rfl tOne_9 rfl) rfl <| ?_
              refine R.s (B' := §7) (F' := (fun g_ : Value × Value × Value × Value => [Res.ls g_.1 ((((writeR r a.P a.S)).1).Writs : List Writ), Res.ls g_.2.1 ((((writeR r a.P a.S)).1).Things : List Thing), Res.ls g_.2.2.1 ((((writeR r a.P a.S)).1).Held : List Held), Res.ls g_.2.2.2 ((((writeR r a.P a.S)).1).Notes : List Note), Res.ls v_rW (r.Writs : List Writ), Res.ls v_rT (r.Things : List Thing), Res.ls v_rH (r.Held : List Held), Res.ls v_rN (r.Notes : List Note)])) rfl (s.callV (B0 := []) (Br := §0) (F0 := §2) [0, 1, 2, 3] [0, 1, 2, 3] (fun g_ : Value × Value × Value × Value => .tuple #[.agg #[g_.1, g_.2.1, g_.2.2.1, g_.2.2.2, .int .i64 ((((writeR r a.P a.S)).1).NextWrit), .int .i64 ((((writeR r a.P a.S)).1).NextThing)], errv (((writeR r a.P a.S)).2)]) §8 (fun g_ : Value × Value × Value × Value => [Res.ls g_.1 ((((writeR r a.P a.S)).1).Writs : List Writ), Res.ls g_.2.1 ((((writeR r a.P a.S)).1).Things : List Thing), Res.ls g_.2.2.1 ((((writeR r a.P a.S)).1).Held : List Held), Res.ls g_.2.2.2 ((((writeR r a.P a.S)).1).Notes : List Note)]) rfl rfl rfl eg_51 rfl rfl (fun w own hw H => writeR_any v_rW v_rT v_rH v_rN (r) (a.P) (a.S) w own H (by assumption)) rfl) ?_
              rintro ⟨z21, z22, z23, z24⟩
              dsimp only
              refine R.u 2 rfl <| ?_
              refine R.s rfl (s.stV (us := [z21, z22, z23, z24, .int .i64 (((writeR r a.P a.S).1).NextWrit), .int .i64 (((writeR r a.P a.S).1).NextThing)]) (cs' := [z21, z22, z23, z24, .int .i64 (((writeR r a.P a.S).1).NextWrit), .int .i64 (((writeR r a.P a.S).1).NextThing)]) 0 _ rfl rfl rfl (fun _ _ => rfl) (.inl tAgg_30) §1 rfl rfl rfl) fun _ => ?_
              refine R.u 1 rfl <| R.nil ?_
              have hz : doR r a = (((writeR r a.P a.S).1), (writeR r a.P a.S).2) := by (unfold doR; (repeat' split) <;> first | rfl | (exfalso; simp_all; done) | (simp_all; done))
              rw [hz]
              exact R.w2 (z21, z22, z23, z24) [3] [0, 1, 2, 3] rfl Tryz.results19 (RV.cell 0 rfl rfl tAgg_30) (RV.tmp rfl) rfl rfl rfl (tup2 rfl rfl)
            · refine R.q (q.eqlS0 rfl rfl h6) rfl <| R.u 1 rfl <| R.nil ?_
              refine R.condF rfl rfl ?_
              refine R.reg rfl <| ?_
              by_cases h7 : a.Kind = ⟨#[115, 101, 110, 100]⟩
              · refine R.q (q.eqlS1 rfl rfl h7) rfl <| R.u 1 rfl <| R.nil ?_
                refine R.condT rfl rfl ?_
                refine R.reg rfl <| R.q (q.ldS 2 rfl rfl tAgg_30) rfl <| R.q §14 rfl <| R.q §5 rfl <| R.q (q.fld (off' := 1) rfl tFld_37_1 rfl) rfl <| R.q (q.ld 1 rfl rfl tOne_9 rfl) rfl <| R.q (q.fld (off' := 6) rfl tFld_37_4 rfl) rfl <| R.q (q.ld 1 rfl rfl tOne_3 rfl) rfl <| R.q (q.fld (off' := 7) rfl tFld_37_5 rfl) rfl <| R.q (q.ld 1 rfl rfl tOne_3 rfl) rfl <| ?_
                refine R.s (B' := §7) (F' := (fun g_ : Value × Value × Value × Value => [Res.ls g_.1 ((((sendR r a.P a.S a.A a.B)).1).Writs : List Writ), Res.ls g_.2.1 ((((sendR r a.P a.S a.A a.B)).1).Things : List Thing), Res.ls g_.2.2.1 ((((sendR r a.P a.S a.A a.B)).1).Held : List Held), Res.ls g_.2.2.2 ((((sendR r a.P a.S a.A a.B)).1).Notes : List Note), Res.ls v_rW (r.Writs : List Writ), Res.ls v_rT (r.Things : List Thing), Res.ls v_rH (r.Held : List Held), Res.ls v_rN (r.Notes : List Note)])) rfl (s.callV (B0 := []) (Br := §0) (F0 := §2) [0, 1, 2, 3] [0, 1, 2, 3] (fun g_ : Value × Value × Value × Value => .tuple #[.agg #[g_.1, g_.2.1, g_.2.2.1, g_.2.2.2, .int .i64 ((((sendR r a.P a.S a.A a.B)).1).NextWrit), .int .i64 ((((sendR r a.P a.S a.A a.B)).1).NextThing)], errv (((sendR r a.P a.S a.A a.B)).2)]) §8 (fun g_ : Value × Value × Value × Value => [Res.ls g_.1 ((((sendR r a.P a.S a.A a.B)).1).Writs : List Writ), Res.ls g_.2.1 ((((sendR r a.P a.S a.A a.B)).1).Things : List Thing), Res.ls g_.2.2.1 ((((sendR r a.P a.S a.A a.B)).1).Held : List Held), Res.ls g_.2.2.2 ((((sendR r a.P a.S a.A a.B)).1).Notes : List Note)]) rfl rfl rfl eg_52 rfl rfl (fun w own hw H => sendR_any v_rW v_rT v_rH v_rN (r) (a.P) (a.S) (a.A) (a.B) w own H (by assumption)) rfl) ?_
                rintro ⟨z25, z26, z27, z28⟩
                dsimp only
                refine R.u 2 rfl <| ?_
                refine R.s rfl (s.stV (us := [z25, z26, z27, z28, .int .i64 (((sendR r a.P a.S a.A a.B).1).NextWrit), .int .i64 (((sendR r a.P a.S a.A a.B).1).NextThing)]) (cs' := [z25, z26, z27, z28, .int .i64 (((sendR r a.P a.S a.A a.B).1).NextWrit), .int .i64 (((sendR r a.P a.S a.A a.B).1).NextThing)]) 0 _ rfl rfl rfl (fun _ _ => rfl) (.inl tAgg_30) §1 rfl rfl rfl) fun _ => ?_
                refine R.u 1 rfl <| R.nil ?_
                have hz : doR r a = (((sendR r a.P a.S a.A a.B).1), (sendR r a.P a.S a.A a.B).2) := by (unfold doR; (repeat' split) <;> first | rfl | (exfalso; simp_all; done) | (simp_all; done))
                rw [hz]
                exact R.w2 (z25, z26, z27, z28) [3] [0, 1, 2, 3] rfl Tryz.results19 (RV.cell 0 rfl rfl tAgg_30) (RV.tmp rfl) rfl rfl rfl (tup2 rfl rfl)
              · refine R.q (q.eqlS0 rfl rfl h7) rfl <| R.u 1 rfl <| R.nil ?_
                refine R.condF rfl rfl ?_
                refine R.reg rfl <| ?_
                by_cases h8 : a.Kind = ⟨#[116, 97, 107, 101]⟩
                · refine R.q (q.eqlS1 rfl rfl h8) rfl <| R.u 1 rfl <| R.nil ?_
                  refine R.condT rfl rfl ?_
                  refine R.reg rfl <| R.q (q.ldS 2 rfl rfl tAgg_30) rfl <| R.q §14 rfl <| R.q §5 rfl <| ?_
                  refine R.s (B' := §7) (F' := (fun g_ : Value × Value × Value × Value => [Res.ls g_.1 ((((takeR r a.P)).1).Writs : List Writ), Res.ls g_.2.1 ((((takeR r a.P)).1).Things : List Thing), Res.ls g_.2.2.1 ((((takeR r a.P)).1).Held : List Held), Res.ls g_.2.2.2 ((((takeR r a.P)).1).Notes : List Note), Res.ls v_rW (r.Writs : List Writ), Res.ls v_rT (r.Things : List Thing), Res.ls v_rH (r.Held : List Held), Res.ls v_rN (r.Notes : List Note)])) rfl (s.callV (B0 := []) (Br := §0) (F0 := §2) [0, 1, 2, 3] [0, 1, 2, 3] (fun g_ : Value × Value × Value × Value => .tuple #[.agg #[g_.1, g_.2.1, g_.2.2.1, g_.2.2.2, .int .i64 ((((takeR r a.P)).1).NextWrit), .int .i64 ((((takeR r a.P)).1).NextThing)], .agg #[.int .i64 ((((takeR r a.P)).2.1).Port), .string ((((takeR r a.P)).2.1).Data), .int .i64 ((((takeR r a.P)).2.1).Badge), .int .i64 ((((takeR r a.P)).2.1).Writ)], .int .i64 (((takeR r a.P)).2.2.1), errv (((takeR r a.P)).2.2.2)]) §8 (fun g_ : Value × Value × Value × Value => [Res.ls g_.1 ((((takeR r a.P)).1).Writs : List Writ), Res.ls g_.2.1 ((((takeR r a.P)).1).Things : List Thing), Res.ls g_.2.2.1 ((((takeR r a.P)).1).Held : List Held), Res.ls g_.2.2.2 ((((takeR r a.P)).1).Notes : List Note)]) rfl rfl rfl eg_13 rfl rfl (fun w own hw H => takeR_any v_rW v_rT v_rH v_rN (r) (a.P) w own H (by assumption)) rfl) ?_
                  rintro ⟨z29, z30, z31, z32⟩
                  dsimp only
                  refine R.u 5 rfl <| ?_
                  refine R.s rfl §13 fun b4 => ?_
                  refine R.s rfl (s.alloc (cs := [.int .i64 0, .string (⟨#[]⟩), .int .i64 0, .int .i64 0]) tZero_52 rfl rfl) fun b5 => ?_
                  refine R.s rfl (s.stV (us := §10) (cs' := §10) 1 _ rfl rfl rfl (fun _ _ => rfl) (.inl tAgg_30) §1 rfl rfl rfl) fun _ => ?_
                  refine R.s rfl (s.st (us := [.int .i64 (((takeR r a.P).2.1).Port), .string (((takeR r a.P).2.1).Data), .int .i64 (((takeR r a.P).2.1).Badge), .int .i64 (((takeR r a.P).2.1).Writ)]) (cs' := [.int .i64 (((takeR r a.P).2.1).Port), .string (((takeR r a.P).2.1).Data), .int .i64 (((takeR r a.P).2.1).Badge), .int .i64 (((takeR r a.P).2.1).Writ)]) 0 _ rfl rfl rfl rfl (.inl tAgg_52) rfl rfl rfl rfl) fun _ => ?_
                  refine R.u 2 rfl <| R.nil ?_
                  refine R.reg rfl <| R.q (q.ldS 1 rfl rfl tAgg_30) rfl <| R.u 1 rfl <| ?_
                  refine R.s rfl (s.stV (us := §10) (cs' := §10) 2 _ rfl rfl rfl (fun _ _ => rfl) (.inl tAgg_30) §1 rfl rfl rfl) fun _ => ?_
                  refine R.u 1 rfl <| R.nil ?_
                  have hz : doR r a = (((takeR r a.P).1), (takeR r a.P).2.2.2) := by (unfold doR; (repeat' split) <;> first | rfl | (exfalso; simp_all; done) | (simp_all; done))
                  rw [hz]
                  exact R.w2 (z29, z30, z31, z32) [5] [0, 1, 2, 3] rfl Tryz.results19 (RV.cell 2 rfl rfl tAgg_30) (RV.tmp rfl) rfl rfl rfl (tup2 rfl rfl)
                · refine R.q (q.eqlS0 rfl rfl h8) rfl <| R.u 1 rfl <| R.nil ?_
                  refine R.condF rfl rfl ?_
                  refine R.reg rfl <| R.q (q.ldS 2 rfl rfl tAgg_30) rfl <| ?_
                  refine R.s rfl (s.stV (us := [v_rW, v_rT, v_rH, v_rN, .int .i64 r.NextWrit, .int .i64 r.NextThing]) (cs' := [v_rW, v_rT, v_rH, v_rN, .int .i64 r.NextWrit, .int .i64 r.NextThing]) 0 _ rfl rfl rfl (fun _ _ => rfl) (.inl tAgg_30) §1 rfl rfl rfl) fun _ => ?_
                  refine R.u 1 rfl <| R.nil ?_
                  have hz : doR r a = (r, 0) := by (unfold doR; (repeat' split) <;> first | rfl | (exfalso; simp_all; done) | (simp_all; done))
                  rw [hz]
                  exact R.w2 (v_rW, v_rT, v_rH, v_rN) [3] [0, 1, 2, 3] rfl Tryz.results19 (RV.cell 0 rfl rfl tAgg_30) (RV.tmp rfl) rfl rfl rfl (tup2 rfl (err0 rfl))

theorem copyOf_any (v_rW v_rT v_rH v_rN : Value) (r : Realm) (w : World) (own : List Nat) (H : Wd w (blks [] ++ own) ([] ++ [Res.held w own]) §2 w) (hk : Ok r) : Calls Tryz.prog 71 #[.agg #[v_rW, v_rT, v_rH, v_rN, .int .i64 r.NextWrit, .int .i64 r.NextThing]] w fun e w' => ∃ z : Value × Value × Value × Value, e = .returned (.agg #[z.1, z.2.1, z.2.2.1, z.2.2.2, .int .i64 ((r).NextWrit), .int .i64 ((r).NextThing)]) ∧ Wd w (blks [] ++ own) ([] ++ [Res.held w own]) [Res.ls z.1 ((r).Writs : List Writ), Res.ls z.2.1 ((r).Things : List Thing), Res.ls z.2.2.1 ((r).Held : List Held), Res.ls z.2.2.2 ((r).Notes : List Note)] w' := by
  have m_r_Writs := H.lenF 0 rfl
  have m_r_Things := H.lenF 1 rfl
  have m_r_Held := H.lenF 2 rfl
  have m_r_Notes := H.lenF 3 rfl
  have bw := hk.wl; have bt := hk.tl; have bh := hk.hl; have bn := hk.nl
  refine R.enterN (n := 20) (vs := [.agg #[v_rW, v_rT, v_rH, v_rN, .int .i64 r.NextWrit, .int .i64 r.NextThing]]) (B := [Res.held w own]) [(0, .agg #[v_rW, v_rT, v_rH, v_rN, .int .i64 r.NextWrit, .int .i64 r.NextThing])] Tryz.func71 rfl rfl rfl rfl H ?_
  refine R.reg rfl <| ?_
  refine R.s rfl (s.box (cs := [v_rW, v_rT, v_rH, v_rN, .int .i64 r.NextWrit, .int .i64 r.NextThing]) rfl rfl rfl) fun b1 => ?_
  refine R.s rfl §13 fun b2 => ?_
  refine R.nil ?_
  refine R.reg rfl <| R.q (q.fld (off' := 0) rfl tFld_30_0 rfl) rfl <| R.q (q.ld 1 rfl rfl tOne_25 rfl) rfl <| ?_
  refine R.s rfl (s.app0 (l2 := r.Writs) rfl rfl (fun _ => Wd.fls 0 rfl) tApp_25 §9 §9 rfl) fun v1 => ?_
  refine R.q (q.fld (off' := 0) rfl tFld_30_0 rfl) rfl <| ?_
  refine R.s rfl (s.stV (us := [v1]) (cs' := [v1, v_rT, v_rH, v_rN, .int .i64 r.NextWrit, .int .i64 r.NextThing]) 2 _ rfl rfl rfl (fun w hw => Sl.cells1 ((fun _ => Wd.row 0 rfl) w hw)) (.inr ⟨tOne_25, rfl⟩) (fun w hw => (one_cons (Sl.one ((fun _ => Wd.row 0 rfl) w hw)) one_nil)) rfl rfl rfl) fun _ => ?_
  refine R.nil ?_
  refine R.reg rfl <| R.q §11 rfl <| R.q (q.ld 2 rfl rfl tOne_26 rfl) rfl <| ?_
  refine R.s rfl (s.app0 (l2 := r.Things) rfl rfl (fun _ => Wd.fls 1 rfl) tApp_26 §9 §9 rfl) fun v2 => ?_
  refine R.q §11 rfl <| ?_
  refine R.s rfl (s.stV (us := [v2]) (cs' := [v1, v2, v_rH, v_rN, .int .i64 r.NextWrit, .int .i64 r.NextThing]) 3 _ rfl rfl rfl (fun w hw => Sl.cells1 ((fun _ => Wd.row 0 rfl) w hw)) (.inr ⟨tOne_26, rfl⟩) (fun w hw => (one_cons (Sl.one ((fun _ => Wd.row 0 rfl) w hw)) one_nil)) rfl rfl rfl) fun _ => ?_
  refine R.nil ?_
  refine R.reg rfl <| R.q (q.fld (off' := 2) rfl tFld_30_2 rfl) rfl <| R.q (q.ld 3 rfl rfl tOne_27 rfl) rfl <| ?_
  refine R.s rfl (s.app0 (l2 := r.Held) rfl rfl (fun _ => Wd.fls 2 rfl) tApp_27 §9 §9 rfl) fun v3 => ?_
  refine R.q (q.fld (off' := 2) rfl tFld_30_2 rfl) rfl <| ?_
  refine R.s rfl (s.stV (us := [v3]) (cs' := [v1, v2, v3, v_rN, .int .i64 r.NextWrit, .int .i64 r.NextThing]) 4 _ rfl rfl rfl (fun w hw => Sl.cells1 ((fun _ => Wd.row 0 rfl) w hw)) (.inr ⟨tOne_27, rfl⟩) (fun w hw => (one_cons (Sl.one ((fun _ => Wd.row 0 rfl) w hw)) one_nil)) rfl rfl rfl) fun _ => ?_
  refine R.nil ?_
  refine R.reg rfl <| R.q §12 rfl <| R.q (q.ld 4 rfl rfl tOne_28 rfl) rfl <| ?_
  refine R.s rfl (s.app0 (l2 := r.Notes) rfl rfl (fun _ => Wd.fls 3 rfl) tApp_28 §9 §9 rfl) fun v4 => ?_
  refine R.q §12 rfl <| ?_
  refine R.s rfl (s.stV (us := [v4]) (cs' := [v1, v2, v3, v4, .int .i64 r.NextWrit, .int .i64 r.NextThing]) 5 _ rfl rfl rfl (fun w hw => Sl.cells1 ((fun _ => Wd.row 0 rfl) w hw)) (.inr ⟨tOne_28, rfl⟩) (fun w hw => (one_cons (Sl.one ((fun _ => Wd.row 0 rfl) w hw)) one_nil)) rfl rfl rfl) fun _ => ?_
  refine R.nil ?_
  refine R.reg rfl <| R.q (q.ldS 5 rfl rfl tAgg_30) rfl <| ?_
  refine R.s rfl (s.stV (us := [v1, v2, v3, v4, .int .i64 r.NextWrit, .int .i64 r.NextThing]) (cs' := [v1, v2, v3, v4, .int .i64 r.NextWrit, .int .i64 r.NextThing]) 4 _ rfl rfl rfl (fun _ _ => rfl) (.inl tAgg_30) (fun w hw => (one_cons (Sl.one ((fun _ => Wd.row 3 rfl) w hw)) (one_cons (Sl.one ((fun _ => Wd.row 2 rfl) w hw)) (one_cons (Sl.one ((fun _ => Wd.row 1 rfl) w hw)) (one_cons (Sl.one ((fun _ => Wd.row 0 rfl) w hw)) (one_cons rfl (one_cons rfl one_nil))))))) rfl rfl rfl) fun _ => ?_
  refine R.nil ?_
  refine R.mp (B' := [Res.row 52 v4 (r.Notes : List Note), Res.row 93 v3 (r.Held : List Held), Res.row 74 v2 (r.Things : List Thing), Res.box b2 [v1, v2, v3, v4, .int .i64 r.NextWrit, .int .i64 r.NextThing] 30, Res.box b1 [v1, v2, v3, v4, .int .i64 r.NextWrit, .int .i64 r.NextThing] 30, Res.held w own]) (fun _ hw => hw.lendL 3 _ rfl rfl) ?_
  refine R.mp (B' := [Res.row 52 v4 (r.Notes : List Note), Res.row 93 v3 (r.Held : List Held), Res.box b2 [v1, v2, v3, v4, .int .i64 r.NextWrit, .int .i64 r.NextThing] 30, Res.box b1 [v1, v2, v3, v4, .int .i64 r.NextWrit, .int .i64 r.NextThing] 30, Res.held w own]) (fun _ hw => hw.lendL 2 _ rfl rfl) ?_
  refine R.mp (B' := [Res.row 52 v4 (r.Notes : List Note), Res.box b2 [v1, v2, v3, v4, .int .i64 r.NextWrit, .int .i64 r.NextThing] 30, Res.box b1 [v1, v2, v3, v4, .int .i64 r.NextWrit, .int .i64 r.NextThing] 30, Res.held w own]) (fun _ hw => hw.lendL 1 _ rfl rfl) ?_
  refine R.mp (B' := [Res.box b2 [v1, v2, v3, v4, .int .i64 r.NextWrit, .int .i64 r.NextThing] 30, Res.box b1 [v1, v2, v3, v4, .int .i64 r.NextWrit, .int .i64 r.NextThing] 30, Res.held w own]) (fun _ hw => hw.lendL 0 _ rfl rfl) ?_
  exact R.w1 (v1, v2, v3, v4) [2] [3, 2, 1, 0] rfl Tryz.results71 (RV.cell 0 rfl rfl tAgg_30) rfl rfl rfl rfl

set_option maxRecDepth 100000 in
theorem sameRealm_any (v_aW v_aT v_aH v_aN : Value) (a : Realm) (v_bW v_bT v_bH v_bN : Value) (b : Realm) (w : World) (s_aW : Sl w v_aW a.Writs) (s_aT : Sl w v_aT a.Things) (s_aH : Sl w v_aH a.Held) (s_aN : Sl w v_aN a.Notes) (s_bW : Sl w v_bW b.Writs) (s_bT : Sl w v_bT b.Things) (s_bH : Sl w v_bH b.Held) (s_bN : Sl w v_bN b.Notes) : Calls Tryz.prog 15 #[.agg #[v_aW, v_aT, v_aH, v_aN, .int .i64 a.NextWrit, .int .i64 a.NextThing], .agg #[v_bW, v_bT, v_bH, v_bN, .int .i64 b.NextWrit, .int .i64 b.NextThing]] w fun e w' => e = .returned (.bool (decide (a = b))) ∧ Ext w w' := by
  have ba := s_aT.lenle; have bb := s_bT.lenle; have bc := s_aN.lenle; have bd := s_bN.lenle
  refine R.enter (n := 93) (vs := [.agg #[v_aW, v_aT, v_aH, v_aN, .int .i64 a.NextWrit, .int .i64 a.NextThing], .agg #[v_bW, v_bT, v_bH, v_bN, .int .i64 b.NextWrit, .int .i64 b.NextThing]]) [] [(0, .agg #[v_aW, v_aT, v_aH, v_aN, .int .i64 a.NextWrit, .int .i64 a.NextThing]), (1, .agg #[v_bW, v_bT, v_bH, v_bN, .int .i64 b.NextWrit, .int .i64 b.NextThing])] Tryz.func15 rfl rfl rfl rfl ?_
  refine R.reg rfl <| ?_
  refine R.s rfl (s.box (cs := [v_aW, v_aT, v_aH, v_aN, .int .i64 a.NextWrit, .int .i64 a.NextThing]) rfl rfl rfl) fun b1 => ?_
  refine R.s rfl (s.box (cs := [v_bW, v_bT, v_bH, v_bN, .int .i64 b.NextWrit, .int .i64 b.NextThing]) rfl rfl rfl) fun b2 => ?_
  refine R.u 1 rfl <| R.nil ?_
  refine R.reg rfl <| R.q (q.fld (off' := 0) rfl tFld_30_0 rfl) rfl <| R.q (q.ld 1 rfl rfl tOne_25 rfl) rfl <| R.q (q.fld (off' := 0) rfl tFld_30_0 rfl) rfl <| R.q (q.ld 0 rfl rfl tOne_25 rfl) rfl <| ?_
  rcases Bool.eq_false_or_eq_true (decide (a.Writs = b.Writs)) with h1 | h1
  · refine R.c (q.call eg_38 rfl rfl (fun w hw => (cv (congrArg Value.bool h1) (sameWrits_any _ (a.Writs) _ (b.Writs) w ((fun _ => Wd.old s_aW) w hw) ((fun _ => Wd.old s_bW) w hw) )))) rfl <| R.u 1 rfl <| R.nil ?_
    refine R.reg rfl <| R.q (q.fld (off' := 2) rfl tFld_30_2 rfl) rfl <| R.q (q.ld 1 rfl rfl tOne_27 rfl) rfl <| R.q (q.fld (off' := 2) rfl tFld_30_2 rfl) rfl <| R.q (q.ld 0 rfl rfl tOne_27 rfl) rfl <| ?_
    rcases Bool.eq_false_or_eq_true (decide (a.Held = b.Held)) with h2 | h2
    · refine R.c (q.call eg_39 rfl rfl (fun w hw => (cv (congrArg Value.bool h2) (sameHeld_any _ (a.Held) _ (b.Held) w ((fun _ => Wd.old s_aH) w hw) ((fun _ => Wd.old s_bH) w hw) )))) rfl <| R.u 1 rfl <| R.nil ?_
      refine R.reg rfl <| R.u 7 rfl <| R.qg rfl (q.fld (off' := 4) rfl tFld_30_4 rfl) rfl <| R.qg rfl (q.ld 1 rfl rfl tOne_3 rfl) rfl <| R.qg rfl (q.fld (off' := 4) rfl tFld_30_4 rfl) rfl <| R.qg rfl (q.ld 0 rfl rfl tOne_3 rfl) rfl <| ?_
      by_cases h3 : a.NextWrit = b.NextWrit
      · refine R.qg rfl (q.neq rfl rfl (bne_eq_false_iff_eq.2 (by omega))) rfl <| R.u 2 rfl <| R.qg rfl (q.fld (off' := 5) rfl tFld_30_5 rfl) rfl <| R.qg rfl (q.ld 1 rfl rfl tOne_3 rfl) rfl <| R.qg rfl (q.fld (off' := 5) rfl tFld_30_5 rfl) rfl <| R.qg rfl (q.ld 0 rfl rfl tOne_3 rfl) rfl <| ?_
        by_cases h4 : a.NextThing = b.NextThing
        · refine R.qg rfl (q.neq rfl rfl (bne_eq_false_iff_eq.2 (by omega))) rfl <| R.u 2 rfl <| R.qg rfl §11 rfl <| R.qg rfl (q.ld 1 rfl rfl tOne_26 rfl) rfl <| R.qg rfl (q.len' (fun _ => Wd.old s_aT) rfl Tryz.underlying26) rfl <| R.qg rfl §11 rfl <| R.qg rfl (q.ld 0 rfl rfl tOne_26 rfl) rfl <| R.qg rfl (q.len' (fun _ => Wd.old s_bT) rfl Tryz.underlying26) rfl <| ?_
          by_cases h5 : a.Things.length = b.Things.length
          · refine R.qg rfl (q.neq rfl rfl (bne_eq_false_iff_eq.2 (by omega))) rfl <| R.u 2 rfl <| R.qg rfl §12 rfl <| R.qg rfl (q.ld 1 rfl rfl tOne_28 rfl) rfl <| R.qg rfl (q.len' (fun _ => Wd.old s_aN) rfl Tryz.underlying28) rfl <| R.qg rfl §12 rfl <| R.qg rfl (q.ld 0 rfl rfl tOne_28 rfl) rfl <| R.qg rfl (q.len' (fun _ => Wd.old s_bN) rfl Tryz.underlying28) rfl <| ?_
            by_cases h6 : a.Notes.length = b.Notes.length
            · refine R.qg rfl (q.neq rfl rfl (bne_eq_false_iff_eq.2 (by omega))) rfl <| R.u 1 rfl <| R.nil ?_
              refine R.condF rfl rfl ?_
              refine R.reg rfl <| R.u 1 rfl <| R.nil ?_
              refine R.loop (fun k : Nat => [(2, .pointer (some ⟨b1, 0, none⟩)), (3, .pointer (some ⟨b2, 0, none⟩)), (7, .int .i64 (k : Int))]) (fun k : Nat => [Res.box b2 [v_bW, v_bT, v_bH, v_bN, .int .i64 b.NextWrit, .int .i64 b.NextThing] 30, Res.box b1 [v_aW, v_aT, v_aH, v_aN, .int .i64 a.NextWrit, .int .i64 a.NextThing] 30]) (fun k : Nat => []) (fun k : Nat => k ≤ a.Things.length ∧ ∀ j, j < k → a.Things[j]? = b.Things[j]?) (fun k : Nat => a.Things.length - k) 0 rfl (by exact ⟨by omega, fun j hj => absurd hj (Nat.not_lt_zero _)⟩) ⟨rfl, rfl, rfl, trivial⟩ (fun _ => Wd.pick [0, 1] [] rfl rfl rfl) ?_
              rintro k ⟨hk, HA⟩
              refine R.reg rfl <| R.u 1 rfl <| R.q §11 rfl <| R.q (q.ld 1 rfl rfl tOne_26 rfl) rfl <| R.q (q.len' (fun _ => Wd.old s_aT) rfl Tryz.underlying26) rfl <| ?_
              by_cases h7 : k < a.Things.length
              · refine R.q (q.lss rfl rfl (decide_eq_true (by omega))) rfl <| R.nil ?_
                refine R.condT rfl rfl ?_
                obtain ⟨x1, hx1⟩ : ∃ z, a.Things[k]? = some z := ⟨_, List.getElem?_eq_getElem (by omega)⟩
                obtain ⟨x2, hx2⟩ : ∃ z, b.Things[k]? = some z := ⟨_, List.getElem?_eq_getElem (by omega)⟩
                by_cases h8 : x1 = x2
                · refine R.regQ rfl mixed (by kernel_rfl) <| Q.q §11 rfl <| Q.q (q.ld 1 rfl rfl tOne_26 rfl) rfl <| Q.u 1 rfl <| Q.q (q.idx (i := k) (fun _ => Wd.old s_aT) rfl rfl tSl_26 rfl hx1) rfl <| Q.q (q.ldES (ds := [.int .i64 x1.ID, .int .i64 x1.Kind, .string x1.Data]) (fun _ => Wd.old s_aT) hx1 rfl tAgg_74 rfl) rfl <| Q.q §11 rfl <| Q.q (q.ld 0 rfl rfl tOne_26 rfl) rfl <| Q.u 1 rfl <| Q.q (q.idx (i := k) (fun _ => Wd.old s_bT) rfl rfl tSl_26 rfl hx2) rfl <| Q.q (q.ldES (ds := [.int .i64 x2.ID, .int .i64 x2.Kind, .string x2.Data]) (fun _ => Wd.old s_bT) hx2 rfl tAgg_74 rfl) rfl <| Q.q (q.neqT1 (x := x1) (y := x2) eq_74 rfl rfl h8) rfl <| Q.nil ?_
                  refine R.condF rfl rfl ?_
                  refine R.reg rfl <| R.u 1 rfl <| R.q (q.add (r := ((k + 1 : Nat) : Int)) rfl rfl (wr (by omega))) rfl <| R.u 1 rfl <| R.nil ?_
                  refine R.back (k + 1) rfl (by (exact ⟨by omega, same_step HA hx1 hx2 (by assumption)⟩)) (by omega) ⟨rfl, rfl, rfl, trivial⟩ (fun _ => Wd.pick [0, 1] [] rfl rfl rfl)
                · refine R.regQ rfl mixed (by kernel_rfl) <| Q.q §11 rfl <| Q.q (q.ld 1 rfl rfl tOne_26 rfl) rfl <| Q.u 1 rfl <| Q.q (q.idx (i := k) (fun _ => Wd.old s_aT) rfl rfl tSl_26 rfl hx1) rfl <| Q.q (q.ldES (ds := [.int .i64 x1.ID, .int .i64 x1.Kind, .string x1.Data]) (fun _ => Wd.old s_aT) hx1 rfl tAgg_74 rfl) rfl <| Q.q §11 rfl <| Q.q (q.ld 0 rfl rfl tOne_26 rfl) rfl <| Q.u 1 rfl <| Q.q (q.idx (i := k) (fun _ => Wd.old s_bT) rfl rfl tSl_26 rfl hx2) rfl <| Q.q (q.ldES (ds := [.int .i64 x2.ID, .int .i64 x2.Kind, .string x2.Data]) (fun _ => Wd.old s_bT) hx2 rfl tAgg_74 rfl) rfl <| Q.q (q.neqT0 (x := x1) (y := x2) eq_74 rfl rfl h8) rfl <| Q.nil ?_
                  refine R.condT rfl rfl ?_
                  refine R.reg rfl <| R.u 1 rfl <| R.nil ?_
                  exact R.rv rfl Tryz.results15 rfl (rB (by (exact (decide_eq_false (fun e => by subst e; have hq := hx1.symm.trans hx2; injection hq; contradiction)).symm)))
              · refine R.q (q.lss rfl rfl (decide_eq_false (by omega))) rfl <| R.nil ?_
                refine R.condF rfl rfl ?_
                refine R.reg rfl <| R.u 1 rfl <| R.nil ?_
                refine R.loop (fun k : Nat => [(2, .pointer (some ⟨b1, 0, none⟩)), (3, .pointer (some ⟨b2, 0, none⟩)), (8, .int .i64 (k : Int))]) (fun k : Nat => [Res.box b2 [v_bW, v_bT, v_bH, v_bN, .int .i64 b.NextWrit, .int .i64 b.NextThing] 30, Res.box b1 [v_aW, v_aT, v_aH, v_aN, .int .i64 a.NextWrit, .int .i64 a.NextThing] 30]) (fun k : Nat => []) (fun k : Nat => k ≤ a.Notes.length ∧ ∀ j, j < k → a.Notes[j]? = b.Notes[j]?) (fun k : Nat => a.Notes.length - k) 0 rfl (by exact ⟨by omega, fun j hj => absurd hj (Nat.not_lt_zero _)⟩) ⟨rfl, rfl, rfl, trivial⟩ (fun _ => Wd.pick [0, 1] [] rfl rfl rfl) ?_
                rintro k ⟨hk2, HA2⟩
                refine R.reg rfl <| R.u 1 rfl <| R.q §12 rfl <| R.q (q.ld 1 rfl rfl tOne_28 rfl) rfl <| R.q (q.len' (fun _ => Wd.old s_aN) rfl Tryz.underlying28) rfl <| ?_
                by_cases h9 : k < a.Notes.length
                · refine R.q (q.lss rfl rfl (decide_eq_true (by omega))) rfl <| R.nil ?_
                  refine R.condT rfl rfl ?_
                  obtain ⟨x3, hx3⟩ : ∃ z, a.Notes[k]? = some z := ⟨_, List.getElem?_eq_getElem (by omega)⟩
                  obtain ⟨x4, hx4⟩ : ∃ z, b.Notes[k]? = some z := ⟨_, List.getElem?_eq_getElem (by omega)⟩
                  by_cases h10 : x3 = x4
                  · refine R.regQ rfl mixed (by kernel_rfl) <| Q.q §12 rfl <| Q.q (q.ld 1 rfl rfl tOne_28 rfl) rfl <| Q.u 1 rfl <| Q.q (q.idx (i := k) (fun _ => Wd.old s_aN) rfl rfl tSl_28 rfl hx3) rfl <| Q.q (q.ldES (ds := [.int .i64 x3.Port, .string x3.Data, .int .i64 x3.Badge, .int .i64 x3.Writ]) (fun _ => Wd.old s_aN) hx3 rfl tAgg_52 rfl) rfl <| Q.q §12 rfl <| Q.q (q.ld 0 rfl rfl tOne_28 rfl) rfl <| Q.u 1 rfl <| Q.q (q.idx (i := k) (fun _ => Wd.old s_bN) rfl rfl tSl_28 rfl hx4) rfl <| Q.q (q.ldES (ds := [.int .i64 x4.Port, .string x4.Data, .int .i64 x4.Badge, .int .i64 x4.Writ]) (fun _ => Wd.old s_bN) hx4 rfl tAgg_52 rfl) rfl <| Q.q (q.neqT1 (x := x3) (y := x4) eq_52 rfl rfl h10) rfl <| Q.nil ?_
                    refine R.condF rfl rfl ?_
                    refine R.reg rfl <| R.u 1 rfl <| R.q (q.add (r := ((k + 1 : Nat) : Int)) rfl rfl (wr (by omega))) rfl <| R.u 1 rfl <| R.nil ?_
                    refine R.back (k + 1) rfl (by (exact ⟨by omega, same_step HA2 hx3 hx4 (by assumption)⟩)) (by omega) ⟨rfl, rfl, rfl, trivial⟩ (fun _ => Wd.pick [0, 1] [] rfl rfl rfl)
                  · refine R.regQ rfl mixed (by kernel_rfl) <| Q.q §12 rfl <| Q.q (q.ld 1 rfl rfl tOne_28 rfl) rfl <| Q.u 1 rfl <| Q.q (q.idx (i := k) (fun _ => Wd.old s_aN) rfl rfl tSl_28 rfl hx3) rfl <| Q.q (q.ldES (ds := [.int .i64 x3.Port, .string x3.Data, .int .i64 x3.Badge, .int .i64 x3.Writ]) (fun _ => Wd.old s_aN) hx3 rfl tAgg_52 rfl) rfl <| Q.q §12 rfl <| Q.q (q.ld 0 rfl rfl tOne_28 rfl) rfl <| Q.u 1 rfl <| Q.q (q.idx (i := k) (fun _ => Wd.old s_bN) rfl rfl tSl_28 rfl hx4) rfl <| Q.q (q.ldES (ds := [.int .i64 x4.Port, .string x4.Data, .int .i64 x4.Badge, .int .i64 x4.Writ]) (fun _ => Wd.old s_bN) hx4 rfl tAgg_52 rfl) rfl <| Q.q (q.neqT0 (x := x3) (y := x4) eq_52 rfl rfl h10) rfl <| Q.nil ?_
                    refine R.condT rfl rfl ?_
                    refine R.reg rfl <| R.u 1 rfl <| R.nil ?_
                    exact R.rv rfl Tryz.results15 rfl (rB (by (exact (decide_eq_false (fun e => by subst e; have hq := hx3.symm.trans hx4; injection hq; contradiction)).symm)))
                · refine R.q (q.lss rfl rfl (decide_eq_false (by omega))) rfl <| R.nil ?_
                  refine R.condF rfl rfl ?_
                  refine R.reg rfl <| R.u 1 rfl <| R.nil ?_
                  exact R.rv rfl Tryz.results15 rfl (rB (by (refine (decide_eq_true ?_).symm; have eT := same_all (a := a.Things) (b := b.Things) (by omega) (by assumption) HA; have eN := same_all (a := a.Notes) (b := b.Notes) (by omega) (by assumption) HA2; cases a; cases b; simp_all)))
            · refine R.qg rfl (q.neq rfl rfl (bne_iff_ne.2 (by omega))) rfl <| R.u 1 rfl <| R.nil ?_
              refine R.condT rfl rfl ?_
              refine R.reg rfl <| R.u 1 rfl <| R.nil ?_
              exact R.rv rfl Tryz.results15 rfl (rB §6)
          · refine R.qg rfl (q.neq rfl rfl (bne_iff_ne.2 (by omega))) rfl <| R.u 10 rfl <| R.nil ?_
            refine R.condT rfl rfl ?_
            refine R.reg rfl <| R.u 1 rfl <| R.nil ?_
            exact R.rv rfl Tryz.results15 rfl (rB §6)
        · refine R.qg rfl (q.neq rfl rfl (bne_iff_ne.2 (by omega))) rfl <| R.u 19 rfl <| R.nil ?_
          refine R.condT rfl rfl ?_
          refine R.reg rfl <| R.u 1 rfl <| R.nil ?_
          exact R.rv rfl Tryz.results15 rfl (rB §6)
      · refine R.qg rfl (q.neq rfl rfl (bne_iff_ne.2 (by omega))) rfl <| R.u 26 rfl <| R.nil ?_
        refine R.condT rfl rfl ?_
        refine R.reg rfl <| R.u 1 rfl <| R.nil ?_
        exact R.rv rfl Tryz.results15 rfl (rB §6)
    · refine R.c (q.call eg_39 rfl rfl (fun w hw => (cv (congrArg Value.bool h2) (sameHeld_any _ (a.Held) _ (b.Held) w ((fun _ => Wd.old s_aH) w hw) ((fun _ => Wd.old s_bH) w hw) )))) rfl <| R.u 1 rfl <| R.nil ?_
      refine R.reg rfl <| R.u 38 rfl <| R.nil ?_
      refine R.condT rfl rfl ?_
      refine R.reg rfl <| R.u 1 rfl <| R.nil ?_
      exact R.rv rfl Tryz.results15 rfl (rB §6)
  · refine R.c (q.call eg_38 rfl rfl (fun w hw => (cv (congrArg Value.bool h1) (sameWrits_any _ (a.Writs) _ (b.Writs) w ((fun _ => Wd.old s_aW) w hw) ((fun _ => Wd.old s_bW) w hw) )))) rfl <| R.u 1 rfl <| R.nil ?_
    refine R.reg rfl <| R.q (q.fld (off' := 2) rfl tFld_30_2 rfl) rfl <| R.q (q.ld 1 rfl rfl tOne_27 rfl) rfl <| R.q (q.fld (off' := 2) rfl tFld_30_2 rfl) rfl <| R.q (q.ld 0 rfl rfl tOne_27 rfl) rfl <| ?_
    rcases Bool.eq_false_or_eq_true (decide (a.Held = b.Held)) with h11 | h11
    · refine R.c (q.call eg_39 rfl rfl (fun w hw => (cv (congrArg Value.bool h11) (sameHeld_any _ (a.Held) _ (b.Held) w ((fun _ => Wd.old s_aH) w hw) ((fun _ => Wd.old s_bH) w hw) )))) rfl <| R.u 1 rfl <| R.nil ?_
      refine R.reg rfl <| R.u 38 rfl <| R.nil ?_
      refine R.condT rfl rfl ?_
      refine R.reg rfl <| R.u 1 rfl <| R.nil ?_
      exact R.rv rfl Tryz.results15 rfl (rB §6)
    · refine R.c (q.call eg_39 rfl rfl (fun w hw => (cv (congrArg Value.bool h11) (sameHeld_any _ (a.Held) _ (b.Held) w ((fun _ => Wd.old s_aH) w hw) ((fun _ => Wd.old s_bH) w hw) )))) rfl <| R.u 1 rfl <| R.nil ?_
      refine R.reg rfl <| R.u 38 rfl <| R.nil ?_
      refine R.condT rfl rfl ?_
      refine R.reg rfl <| R.u 1 rfl <| R.nil ?_
      exact R.rv rfl Tryz.results15 rfl (rB §6)

theorem made_1 : (makeR (⟨[], [], [], [], 1, 1⟩ : Realm) (⟨1, 0⟩ : Place) 1).2 = 0 := rfl
theorem made_0 : makeR (⟨[], [], [], [], 1, 1⟩ : Realm) (⟨1, 0⟩ : Place) 1 = (⟨[⟨1, 1, 7, 0, 0⟩], [⟨1, 1, ⟨#[]⟩⟩], [⟨⟨1, 0⟩, 1⟩], [], 2, 2⟩, 0) := by
  have e : putH [] ⟨1, 0⟩ 1 = [⟨⟨1, 0⟩, 1⟩] := by rw [put_eq List.Pairwise.nil]; decide
  have a : atH [] ⟨1, 0⟩ = 0 := by rw [at_eq List.Pairwise.nil]; decide
  unfold makeR freeR addR
  rw [if_pos (.inl rfl), if_pos (by rw [a]; rfl), if_neg (by decide)]
  simp [e]
theorem made_2 : getR ((makeR (⟨[], [], [], [], 1, 1⟩ : Realm) (⟨1, 0⟩ : Place) 1).1) (⟨1, 0⟩ : Place) = (⟨1, 1, 7, 0, 0⟩, 0) := by
  have a : atH [⟨⟨1, 0⟩, 1⟩] ⟨1, 0⟩ = 1 := by rw [at_eq (List.pairwise_singleton _ _)]; decide
  rw [made_0]; unfold getR; rw [if_pos (by decide)]; dsimp only; rw [a]; rfl
section
attribute [local irreducible] makeR getR
theorem made_o : Ok (⟨[], [], [], [], 1, 1⟩ : Realm) := Sz.new.ok (by decide)
theorem made_p : Ok (makeR (⟨[], [], [], [], 1, 1⟩ : Realm) (⟨1, 0⟩ : Place) 1).1 := (make_sz Sz.new _ _).ok (by decide)

end

end Go.Proofs.YtpipachmngdegaaGreat
end
