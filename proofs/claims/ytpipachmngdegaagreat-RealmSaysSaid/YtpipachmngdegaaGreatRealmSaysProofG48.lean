import Derived.Test.YtpipachmngdegaaGreatRealmSaysProofG47
section
/-
  The walks of chapter 5: what the document does with writs: when it is quiet, and any act.
-/
namespace Go.Proofs.YtpipachmngdegaaGreat
open Go Go.RowKit
set_option linter.unusedVariables false
set_option linter.unusedSimpArgs false
set_option maxRecDepth 100000
set_option hygiene false
local macro:max "§0" : term => `([Res.box b3 [.slice none 0 0, .slice none 0 0, .slice none 0 0, .slice none 0 0, .int .i64 0, .int .i64 0] 30, Res.box b2 [.string a.Kind, .string a.S, .int .i64 a.P.Holder, .int .i64 a.P.Slot, .int .i64 a.Q.Holder, .int .i64 a.Q.Slot, .int .i64 a.A, .int .i64 a.B, .int .i64 a.N, .int .u64 a.K, a.cv] 37, Res.box b1 [v_rW, v_rT, v_rH, v_rN, .int .i64 r.NextWrit, .int .i64 r.NextThing] 30, Res.held w own])
local macro:max "§1" : term => `((fun w hw => (one_cons (Sl.one ((fun _ => Wd.fls 0 rfl) w hw)) (one_cons (Sl.one ((fun _ => Wd.fls 1 rfl) w hw)) (one_cons (Sl.one ((fun _ => Wd.fls 2 rfl) w hw)) (one_cons (Sl.one ((fun _ => Wd.fls 3 rfl) w hw)) (one_cons rfl (one_cons rfl one_nil))))))))
local macro:max "§2" : term => `([Res.ls v_rW (r.Writs : List Writ), Res.ls v_rT (r.Things : List Thing), Res.ls v_rH (r.Held : List Held), Res.ls v_rN (r.Notes : List Note)])
local macro:max "§3" : term => `((⟨ws, r.Things, r.Held, [], r.NextWrit, r.NextThing⟩ : Realm))
local macro:max "§4" : term => `([.slice none 0 0, .slice none 0 0, .slice none 0 0, .slice none 0 0, .int .i64 0, .int .i64 0])
local macro:max "§5" : term => `((fun _ => Wd.pik [0, 2] [0, 1, 2, 3, 4] rfl rfl rfl))
local macro:max "§6" : term => `((q.ldP (ds := [.int .i64 a.P.Holder, .int .i64 a.P.Slot]) 1 rfl rfl tAgg_33 rfl))
local macro:max "§7" : term => `([.int .i64 (((takeR r p).2.1).Port), .string (((takeR r p).2.1).Data), .int .i64 (((takeR r p).2.1).Badge), .int .i64 (((takeR r p).2.1).Writ)])
local macro:max "§8" : term => `((fun g_ : Value × Value × Value × Value => []))
local macro:max "§9" : term => `([v_rW, v_rT, v_rH, v_rN, .int .i64 r.NextWrit, .int .i64 r.NextThing])
local macro:max "§10" : term => `((fun g_ : Value × Value × Value × Value => §0))
local macro:max "§11" : term => `([z29, z30, z31, z32, .int .i64 (((takeR r a.P).1).NextWrit), .int .i64 (((takeR r a.P).1).NextThing)])
local macro:max "§12" : term => `([Res.box b2 §4 30, Res.box b1 [vw, v_rT, v_rH, .slice none 0 0, .int .i64 r.NextWrit, .int .i64 r.NextThing] 30, Res.held w own])
local macro:max "§13" : term => `((s.callO eg_42 rfl rfl (fun w hw => withoutG_any _ (ws) (x1.Writ) w ((fun _ => Wd.fls 0 rfl) w hw) (by first | omega | assumption | (simp; done) | (simp; omega) | (dsimp only [addW]; omega)) (by first | assumption | exact hI.tree | exact hP.tree)) rfl))
local macro:max "§14" : term => `((fun _ => Wd.pik [1, 3] [0, 1, 2, 3, 4] rfl rfl rfl))
local macro:max "§15" : term => `((q.fld (off' := 2) rfl tFld_37_2 rfl))
local macro:max "§16" : term => `([.int .i64 0, .string (⟨#[]⟩), .int .i64 0, .int .i64 0])

theorem quietD_any (v_rW v_rT v_rH v_rN : Value) (r : Realm) (w : World) (own : List Nat) (H : Wd w (blks [] ++ own) ([] ++ [Res.held w own]) §2 w) (hk : Ok r) (hI : Inv r) : Calls Tryz.prog 17 #[.agg #[v_rW, v_rT, v_rH, v_rN, .int .i64 r.NextWrit, .int .i64 r.NextThing]] w fun e w' => ∃ z : Value × Value × Value × Value, e = .returned (.agg #[z.1, z.2.1, z.2.2.1, z.2.2.2, .int .i64 (((quietR r)).NextWrit), .int .i64 (((quietR r)).NextThing)]) ∧ Wd w (blks [] ++ own) ([] ++ [Res.held w own]) [Res.ls z.1 (((quietR r)).Writs : List Writ), Res.ls z.2.1 (((quietR r)).Things : List Thing), Res.ls z.2.2.1 (((quietR r)).Held : List Held), Res.ls z.2.2.2 (((quietR r)).Notes : List Note)] w' := by
  have m_r_Writs := H.lenF 0 rfl
  have m_r_Things := H.lenF 1 rfl
  have m_r_Held := H.lenF 2 rfl
  have m_r_Notes := H.lenF 3 rfl
  have bw := hk.wl; have bt := hk.tl; have bh := hk.hl; have bn := hk.nl; have bw0 := hk.w0; have bw1 := hk.w1; have bt0 := hk.t0; have bt1 := hk.t1
  refine R.enterN (n := 31) (vs := [.agg #[v_rW, v_rT, v_rH, v_rN, .int .i64 r.NextWrit, .int .i64 r.NextThing]]) (B := [Res.held w own]) [(0, .agg #[v_rW, v_rT, v_rH, v_rN, .int .i64 r.NextWrit, .int .i64 r.NextThing])] Tryz.func17 rfl rfl rfl rfl H ?_
  refine R.reg rfl <| ?_
  refine R.s rfl (s.box (cs := §9) rfl rfl rfl) fun b1 => ?_
  refine R.s rfl (s.alloc (cs := §4) tZero_30 rfl rfl) fun b2 => ?_
  refine R.nil ?_
  refine R.reg rfl <| R.u 1 rfl <| R.nil ?_
  refine R.loop (fun g_ : Nat × Value × (List Writ) => [(1, .pointer (some ⟨b1, 0, none⟩)), (2, .pointer (some ⟨b2, 0, none⟩)), (3, .int .i64 (g_.1 : Int))]) (fun g_ : Nat × Value × (List Writ) => [Res.box b2 §4 30, Res.box b1 [g_.2.1, v_rT, v_rH, v_rN, .int .i64 r.NextWrit, .int .i64 r.NextThing] 30, Res.held w own]) (fun g_ : Nat × Value × (List Writ) => [Res.ls g_.2.1 (g_.2.2 : List Writ), Res.ls v_rW (r.Writs : List Writ), Res.ls v_rT (r.Things : List Thing), Res.ls v_rH (r.Held : List Held), Res.ls v_rN (r.Notes : List Note)]) (fun g_ : Nat × Value × (List Writ) => g_.1 ≤ r.Notes.length ∧ g_.2.2 = quietW (r.Notes.take g_.1) r.Writs) (fun g_ : Nat × Value × (List Writ) => r.Notes.length - g_.1) (0, v_rW, r.Writs) rfl (by exact ⟨by omega, rfl⟩) ⟨rfl, rfl, rfl, trivial⟩ (fun _ => Wd.pick [0, 1, 2] [0, 0, 1, 2, 3] rfl rfl rfl) ?_
  rintro ⟨j, vw, ws⟩ ⟨hj1, HW⟩
  dsimp only at *
  have hws : ws.length ≤ 2000 := by rw [HW]; exact Nat.le_trans (quietW_len _ _) hk.wl
  have hwt : TreeOk ws := by rw [HW]; exact quietW_tree _ _ hI.tree
  refine R.reg rfl <| R.u 1 rfl <| R.q (q.fld (off' := 3) rfl tFld_30_3 rfl) rfl <| R.q (q.ld 1 rfl rfl tOne_28 rfl) rfl <| R.q (q.len' (fun _ => Wd.fls 4 rfl) rfl Tryz.underlying28) rfl <| ?_
  by_cases h1 : j < r.Notes.length
  · refine R.q (q.lss rfl rfl (decide_eq_true (by omega))) rfl <| R.nil ?_
    refine R.condT rfl rfl ?_
    refine R.reg rfl <| R.q (q.fld (off' := 3) rfl tFld_30_3 rfl) rfl <| R.q (q.ld 1 rfl rfl tOne_28 rfl) rfl <| R.u 1 rfl <| ?_
    obtain ⟨x1, hx1⟩ : ∃ z, r.Notes[j]? = some z := ⟨_, List.getElem?_eq_getElem (by omega)⟩
    refine R.q (q.idx (i := j) (fun _ => Wd.fls 4 rfl) rfl rfl tSl_28 rfl hx1) rfl <| R.q (q.fldE (j' := 3) (fun _ => Wd.fls 4 rfl) hx1 rfl tFld_52_3 rfl) rfl <| R.q (q.ldE (fun _ => Wd.fls 4 rfl) hx1 rfl tOne_3 rfl) rfl <| ?_
    by_cases h2 : 0 < x1.Writ
    · refine R.q (q.gtr rfl rfl (decide_eq_true (by omega))) rfl <| R.nil ?_
      refine R.condT rfl rfl ?_
      refine R.regD (fuel := 11) (Wd w (blks [] ++ own) [Res.box b2 §4 30, Res.held w own] [Res.ls vw (ws : List Writ), Res.ls v_rW (r.Writs : List Writ), Res.ls v_rT (r.Things : List Thing), Res.ls v_rH (r.Held : List Held), Res.ls v_rN (r.Notes : List Note)]) rfl mixed rfl ?_
      refine D.q (i := 0) rfl (by kernel_rfl) §5 rfl (q.fld (off' := 0) rfl tFld_30_0 rfl) rfl <| D.q (i := 2) rfl (by kernel_rfl) §5 rfl (q.fld (off' := 3) rfl tFld_30_3 rfl) rfl <| D.q (i := 4) rfl (by kernel_rfl) §5 rfl (q.mv rfl) rfl <| ?_
      refine D.two (i := 1) (j := 3) (by kernel_rfl) rfl rfl ?_ ?_
      · refine Do.s (s.c (Qt.a (q.ld 1 rfl rfl tOne_25 rfl)) rfl) (fun _ => §5) rfl fun _ => ?_
        refine D.one (i := 3) (by kernel_rfl) rfl ?_
        refine Do.s (s.c (Qt.a (q.ld 1 rfl rfl tOne_28 rfl)) rfl) (fun _ => §5) rfl fun _ => ?_
        refine D.q (i := 5) rfl (by kernel_rfl) §5 rfl (q.idx (i := j) (fun _ => Wd.fls 4 rfl) rfl rfl tSl_28 rfl hx1) rfl <| D.q (i := 6) rfl (by kernel_rfl) §5 rfl (q.fldE (j' := 3) (fun _ => Wd.fls 4 rfl) hx1 rfl tFld_52_3 rfl) rfl <| D.q (i := 7) rfl (by kernel_rfl) §5 rfl (q.ldE (fun _ => Wd.fls 4 rfl) hx1 rfl tOne_3 rfl) rfl <| ?_
        refine D.one (i := 8) (by kernel_rfl) rfl ?_
        refine Do.s §13 (fun _ => §14) rfl fun v1 => ?_
        refine D.q (i := 9) rfl (by kernel_rfl) §14 rfl (q.fld (off' := 0) rfl tFld_30_0 rfl) rfl <| ?_
        refine D.one (i := 10) (by kernel_rfl) rfl ?_
        refine Do.s (s.stV (us := [v1]) (cs' := [v1, v_rT, v_rH, v_rN, .int .i64 r.NextWrit, .int .i64 r.NextThing]) 2 _ rfl rfl rfl (fun w hw => Sl.cells1 ((fun _ => Wd.row 0 rfl) w hw)) (.inr ⟨tOne_25, rfl⟩) (fun w hw => (one_cons (Sl.one ((fun _ => Wd.row 0 rfl) w hw)) one_nil)) rfl rfl rfl) (fun _ => §14) rfl fun _ => ?_
        refine D.done (by kernel_rfl) <| ?_
        refine R.reg rfl <| R.u 1 rfl <| R.q (q.add (r := ((j + 1 : Nat) : Int)) rfl rfl (wr (by omega))) rfl <| R.u 1 rfl <| R.nil ?_
        refine R.mp (B' := [Res.box b2 §4 30, Res.box b1 [v1, v_rT, v_rH, v_rN, .int .i64 r.NextWrit, .int .i64 r.NextThing] 30, Res.held w own]) (fun _ hw => hw.lendL 0 _ rfl rfl) ?_
        refine R.back (j + 1, v1, (without ws x1.Writ)) rfl (by (exact ⟨by omega, by rw [quiet_snoc hx1, if_pos (by omega), HW]⟩)) (by dsimp only; omega) ⟨rfl, rfl, rfl, trivial⟩ (fun _ => Wd.pik [0, 1, 2] [0, 2, 3, 4, 5] rfl rfl rfl)
      · refine Do.s (s.c (Qt.a (q.ld 1 rfl rfl tOne_28 rfl)) rfl) (fun _ => §5) rfl fun _ => ?_
        refine D.q (i := 5) rfl (by kernel_rfl) §5 rfl (q.idx (i := j) (fun _ => Wd.fls 4 rfl) rfl rfl tSl_28 rfl hx1) rfl <| D.q (i := 6) rfl (by kernel_rfl) §5 rfl (q.fldE (j' := 3) (fun _ => Wd.fls 4 rfl) hx1 rfl tFld_52_3 rfl) rfl <| D.q (i := 7) rfl (by kernel_rfl) §5 rfl (q.ldE (fun _ => Wd.fls 4 rfl) hx1 rfl tOne_3 rfl) rfl <| ?_
        refine D.one (i := 1) (by kernel_rfl) rfl ?_
        refine Do.s (s.c (Qt.a (q.ld 1 rfl rfl tOne_25 rfl)) rfl) (fun _ => §5) rfl fun _ => ?_
        refine D.one (i := 8) (by kernel_rfl) rfl ?_
        refine Do.s §13 (fun _ => §14) rfl fun v2 => ?_
        refine D.q (i := 9) rfl (by kernel_rfl) §14 rfl (q.fld (off' := 0) rfl tFld_30_0 rfl) rfl <| ?_
        refine D.one (i := 10) (by kernel_rfl) rfl ?_
        refine Do.s (s.stV (us := [v2]) (cs' := [v2, v_rT, v_rH, v_rN, .int .i64 r.NextWrit, .int .i64 r.NextThing]) 2 _ rfl rfl rfl (fun w hw => Sl.cells1 ((fun _ => Wd.row 0 rfl) w hw)) (.inr ⟨tOne_25, rfl⟩) (fun w hw => (one_cons (Sl.one ((fun _ => Wd.row 0 rfl) w hw)) one_nil)) rfl rfl rfl) (fun _ => §14) rfl fun _ => ?_
        refine D.done (by kernel_rfl) <| ?_
        refine R.reg rfl <| R.u 1 rfl <| R.q (q.add (r := ((j + 1 : Nat) : Int)) rfl rfl (wr (by omega))) rfl <| R.u 1 rfl <| R.nil ?_
        refine R.mp (B' := [Res.box b2 §4 30, Res.box b1 [v2, v_rT, v_rH, v_rN, .int .i64 r.NextWrit, .int .i64 r.NextThing] 30, Res.held w own]) (fun _ hw => hw.lendL 0 _ rfl rfl) ?_
        refine R.back (j + 1, v2, (without ws x1.Writ)) rfl (by (exact ⟨by omega, by rw [quiet_snoc hx1, if_pos (by omega), HW]⟩)) (by dsimp only; omega) ⟨rfl, rfl, rfl, trivial⟩ (fun _ => Wd.pik [0, 1, 2] [0, 2, 3, 4, 5] rfl rfl rfl)
    · refine R.q (q.gtr rfl rfl (decide_eq_false (by omega))) rfl <| R.nil ?_
      refine R.condF rfl rfl ?_
      refine R.reg rfl <| R.u 1 rfl <| R.q (q.add (r := ((j + 1 : Nat) : Int)) rfl rfl (wr (by omega))) rfl <| R.u 1 rfl <| R.nil ?_
      refine R.back (j + 1, vw, ws) rfl (by (exact ⟨by omega, by rw [quiet_snoc hx1, if_neg (by omega), HW]⟩)) (by dsimp only; omega) ⟨rfl, rfl, rfl, trivial⟩ (fun _ => Wd.pik [0, 1, 2] [0, 1, 2, 3, 4] rfl rfl rfl)
  · refine R.q (q.lss rfl rfl (decide_eq_false (by omega))) rfl <| R.nil ?_
    refine R.condF rfl rfl ?_
    have hwq : ws = quietW r.Notes r.Writs := by rw [HW, List.take_of_length_le (by omega)]
    have hok : Ok §3 := ⟨hws, hk.tl, hk.hl, Nat.zero_le _, by rw [hwq]; exact quietW_ri _ _ hk.ri, hk.w0, hk.w1, hk.t0, hk.t1⟩
    have hqp : Pre §3 := by rw [hwq]; exact hI.quiet_pre
    refine R.reg rfl <| R.q (q.fld (off' := 3) rfl tFld_30_3 rfl) rfl <| ?_
    refine R.s rfl (s.st (us := [.slice none 0 0]) (cs' := [vw, v_rT, v_rH, .slice none 0 0, .int .i64 r.NextWrit, .int .i64 r.NextThing]) 1 _ rfl rfl rfl rfl (.inr ⟨tOne_28, rfl⟩) rfl rfl rfl rfl) fun _ => ?_
    refine R.nil ?_
    refine R.reg rfl <| R.q (q.ldS 1 rfl rfl tAgg_30) rfl <| ?_
    refine R.s (B' := (fun g_ : Value × Value × Value × Value => §12)) (F' := (fun g_ : Value × Value × Value × Value => [Res.ls g_.1 (((sweepR §3)).Writs : List Writ), Res.ls g_.2.1 (((sweepR §3)).Things : List Thing), Res.ls g_.2.2.1 (((sweepR §3)).Held : List Held), Res.ls g_.2.2.2 (((sweepR §3)).Notes : List Note), Res.ls (.slice none 0 0) ([] : List Note), Res.ls vw (ws : List Writ), Res.ls v_rW (r.Writs : List Writ), Res.ls v_rT (r.Things : List Thing), Res.ls v_rH (r.Held : List Held), Res.ls v_rN (r.Notes : List Note)])) rfl (s.pre (B2 := §12) (F2 := [Res.ls (.slice none 0 0) ([] : List Note), Res.ls vw (ws : List Writ), Res.ls v_rW (r.Writs : List Writ), Res.ls v_rT (r.Things : List Thing), Res.ls v_rH (r.Held : List Held), Res.ls v_rN (r.Notes : List Note)]) (fun _ hw => hw.nilL (α := Note)) (s.callV (B0 := []) (Br := §12) (F0 := [Res.ls vw (ws : List Writ), Res.ls v_rT (r.Things : List Thing), Res.ls v_rH (r.Held : List Held), Res.ls (.slice none 0 0) ([] : List Note)]) [0, 1, 2] [1, 3, 4, 0] (fun g_ : Value × Value × Value × Value => .agg #[g_.1, g_.2.1, g_.2.2.1, g_.2.2.2, .int .i64 (((sweepR §3)).NextWrit), .int .i64 (((sweepR §3)).NextThing)]) §8 (fun g_ : Value × Value × Value × Value => [Res.ls g_.1 (((sweepR §3)).Writs : List Writ), Res.ls g_.2.1 (((sweepR §3)).Things : List Thing), Res.ls g_.2.2.1 (((sweepR §3)).Held : List Held), Res.ls g_.2.2.2 (((sweepR §3)).Notes : List Note)]) rfl rfl rfl eg_43 rfl rfl (fun w own hw H => sweepD_any vw v_rT v_rH (.slice none 0 0) (§3) w own H (by assumption) (by first | assumption | exact hI.toPre)) rfl)) ?_
    rintro ⟨z1, z2, z3, z4⟩
    dsimp only
    refine R.s rfl (s.stV (us := [z1, z2, z3, z4, .int .i64 ((sweepR §3).NextWrit), .int .i64 ((sweepR §3).NextThing)]) (cs' := [z1, z2, z3, z4, .int .i64 ((sweepR §3).NextWrit), .int .i64 ((sweepR §3).NextThing)]) 0 _ rfl rfl rfl (fun _ _ => rfl) (.inl tAgg_30) §1 rfl rfl rfl) fun _ => ?_
    refine R.nil ?_
    have hz : quietR r = (sweepR §3) := by (unfold quietR; rw [hwq])
    rw [hz]
    exact R.w1 (z1, z2, z3, z4) [2] [0, 1, 2, 3] rfl Tryz.results17 (RV.cell 0 rfl rfl tAgg_30) rfl rfl rfl rfl

set_option maxRecDepth 100000 in
set_option maxHeartbeats 2000000 in
theorem doD_any (v_rW v_rT v_rH v_rN : Value) (r : Realm) (a : Deed) (w : World) (own : List Nat) (H : Wd w (blks [] ++ own) ([] ++ [Res.held w own]) §2 w) (hk : Ok r) (hI : Inv r) : Calls Tryz.prog 20 #[.agg #[v_rW, v_rT, v_rH, v_rN, .int .i64 r.NextWrit, .int .i64 r.NextThing], .agg #[.string a.Kind, .string a.S, .int .i64 a.P.Holder, .int .i64 a.P.Slot, .int .i64 a.Q.Holder, .int .i64 a.Q.Slot, .int .i64 a.A, .int .i64 a.B, .int .i64 a.N, .int .u64 a.K, a.cv]] w fun e w' => ∃ z : Value × Value × Value × Value, e = .returned (.tuple #[.agg #[z.1, z.2.1, z.2.2.1, z.2.2.2, .int .i64 ((((doR r a)).1).NextWrit), .int .i64 ((((doR r a)).1).NextThing)], .int .i64 (((doR r a)).2)]) ∧ Wd w (blks [] ++ own) ([] ++ [Res.held w own]) [Res.ls z.1 ((((doR r a)).1).Writs : List Writ), Res.ls z.2.1 ((((doR r a)).1).Things : List Thing), Res.ls z.2.2.1 ((((doR r a)).1).Held : List Held), Res.ls z.2.2.2 ((((doR r a)).1).Notes : List Note)] w' := by
  have m_r_Writs := H.lenF 0 rfl
  have m_r_Things := H.lenF 1 rfl
  have m_r_Held := H.lenF 2 rfl
  have m_r_Notes := H.lenF 3 rfl
  refine R.enterN (n := 100) (vs := [.agg #[v_rW, v_rT, v_rH, v_rN, .int .i64 r.NextWrit, .int .i64 r.NextThing], .agg #[.string a.Kind, .string a.S, .int .i64 a.P.Holder, .int .i64 a.P.Slot, .int .i64 a.Q.Holder, .int .i64 a.Q.Slot, .int .i64 a.A, .int .i64 a.B, .int .i64 a.N, .int .u64 a.K, a.cv]]) (B := [Res.held w own]) [(0, .agg #[v_rW, v_rT, v_rH, v_rN, .int .i64 r.NextWrit, .int .i64 r.NextThing]), (1, .agg #[.string a.Kind, .string a.S, .int .i64 a.P.Holder, .int .i64 a.P.Slot, .int .i64 a.Q.Holder, .int .i64 a.Q.Slot, .int .i64 a.A, .int .i64 a.B, .int .i64 a.N, .int .u64 a.K, a.cv])] Tryz.func20 rfl rfl rfl rfl H ?_
  refine R.reg rfl <| ?_
  refine R.s rfl (s.box (cs := §9) rfl rfl rfl) fun b1 => ?_
  refine R.s rfl (s.box (cs := [.string a.Kind, .string a.S, .int .i64 a.P.Holder, .int .i64 a.P.Slot, .int .i64 a.Q.Holder, .int .i64 a.Q.Slot, .int .i64 a.A, .int .i64 a.B, .int .i64 a.N, .int .u64 a.K, a.cv]) rfl rfl rfl) fun b2 => ?_
  refine R.s rfl (s.alloc (cs := §4) tZero_30 rfl rfl) fun b3 => ?_
  refine R.u 1 rfl <| R.nil ?_
  refine R.reg rfl <| R.q (q.fld (off' := 0) rfl tFld_37_0 rfl) rfl <| R.q (q.ld 1 rfl rfl tOne_9 rfl) rfl <| R.nil ?_
  refine R.reg rfl <| ?_
  by_cases h1 : a.Kind = ⟨#[109, 97, 107, 101]⟩
  · refine R.q (q.eqlS1 rfl rfl h1) rfl <| R.u 1 rfl <| R.nil ?_
    refine R.condT rfl rfl ?_
    refine R.reg rfl <| R.q (q.ldS 2 rfl rfl tAgg_30) rfl <| R.q §15 rfl <| R.q §6 rfl <| R.q (q.fld (off' := 6) rfl tFld_37_4 rfl) rfl <| R.q (q.ld 1 rfl rfl tOne_3 rfl) rfl <| ?_
    refine R.s (B' := §10) (F' := (fun g_ : Value × Value × Value × Value => [Res.ls g_.1 ((((makeR r a.P a.A)).1).Writs : List Writ), Res.ls g_.2.1 ((((makeR r a.P a.A)).1).Things : List Thing), Res.ls g_.2.2.1 ((((makeR r a.P a.A)).1).Held : List Held), Res.ls g_.2.2.2 ((((makeR r a.P a.A)).1).Notes : List Note), Res.ls v_rW (r.Writs : List Writ), Res.ls v_rT (r.Things : List Thing), Res.ls v_rH (r.Held : List Held), Res.ls v_rN (r.Notes : List Note)])) rfl (s.callV (B0 := []) (Br := §0) (F0 := §2) [0, 1, 2, 3] [0, 1, 2, 3] (fun g_ : Value × Value × Value × Value => .tuple #[.agg #[g_.1, g_.2.1, g_.2.2.1, g_.2.2.2, .int .i64 ((((makeR r a.P a.A)).1).NextWrit), .int .i64 ((((makeR r a.P a.A)).1).NextThing)], .int .i64 (((makeR r a.P a.A)).2)]) §8 (fun g_ : Value × Value × Value × Value => [Res.ls g_.1 ((((makeR r a.P a.A)).1).Writs : List Writ), Res.ls g_.2.1 ((((makeR r a.P a.A)).1).Things : List Thing), Res.ls g_.2.2.1 ((((makeR r a.P a.A)).1).Held : List Held), Res.ls g_.2.2.2 ((((makeR r a.P a.A)).1).Notes : List Note)]) rfl rfl rfl eg_53 rfl rfl (fun w own hw H => makeD_any v_rW v_rT v_rH v_rN (r) (a.P) (a.A) w own H (by assumption) (by assumption)) rfl) ?_
    rintro ⟨z1, z2, z3, z4⟩
    dsimp only
    refine R.u 2 rfl <| ?_
    refine R.s rfl (s.stV (us := [z1, z2, z3, z4, .int .i64 (((makeR r a.P a.A).1).NextWrit), .int .i64 (((makeR r a.P a.A).1).NextThing)]) (cs' := [z1, z2, z3, z4, .int .i64 (((makeR r a.P a.A).1).NextWrit), .int .i64 (((makeR r a.P a.A).1).NextThing)]) 0 _ rfl rfl rfl (fun _ _ => rfl) (.inl tAgg_30) §1 rfl rfl rfl) fun _ => ?_
    refine R.u 1 rfl <| R.nil ?_
    have hz : doR r a = (((makeR r a.P a.A).1), (makeR r a.P a.A).2) := by (unfold doR; (repeat' split) <;> first | rfl | (exfalso; simp_all; done) | (simp_all; done))
    rw [hz]
    exact R.w2 (z1, z2, z3, z4) [3] [0, 1, 2, 3] rfl Tryz.results20 (RV.cell 0 rfl rfl tAgg_30) (RV.tmp rfl) rfl rfl rfl (tup2 rfl rfl)
  · refine R.q (q.eqlS0 rfl rfl h1) rfl <| R.u 1 rfl <| R.nil ?_
    refine R.condF rfl rfl ?_
    refine R.reg rfl <| ?_
    by_cases h2 : a.Kind = ⟨#[103, 105, 118, 101]⟩
    · refine R.q (q.eqlS1 rfl rfl h2) rfl <| R.u 1 rfl <| R.nil ?_
      refine R.condT rfl rfl ?_
      refine R.reg rfl <| R.q (q.ldS 2 rfl rfl tAgg_30) rfl <| R.q §15 rfl <| R.q §6 rfl <| R.q (q.fld (off' := 4) rfl tFld_37_3 rfl) rfl <| R.q (q.ldP (ds := [.int .i64 a.Q.Holder, .int .i64 a.Q.Slot]) 1 rfl rfl tAgg_33 rfl) rfl <| R.q (q.fld (off' := 6) rfl tFld_37_4 rfl) rfl <| R.q (q.ld 1 rfl rfl tOne_3 rfl) rfl <| R.q (q.fld (off' := 7) rfl tFld_37_5 rfl) rfl <| R.q (q.ld 1 rfl rfl tOne_3 rfl) rfl <| ?_
      refine R.s (B' := §10) (F' := (fun g_ : Value × Value × Value × Value => [Res.ls g_.1 ((((giveR r a.P a.Q a.A a.B)).1).Writs : List Writ), Res.ls g_.2.1 ((((giveR r a.P a.Q a.A a.B)).1).Things : List Thing), Res.ls g_.2.2.1 ((((giveR r a.P a.Q a.A a.B)).1).Held : List Held), Res.ls g_.2.2.2 ((((giveR r a.P a.Q a.A a.B)).1).Notes : List Note), Res.ls v_rW (r.Writs : List Writ), Res.ls v_rT (r.Things : List Thing), Res.ls v_rH (r.Held : List Held), Res.ls v_rN (r.Notes : List Note)])) rfl (s.callV (B0 := []) (Br := §0) (F0 := §2) [0, 1, 2, 3] [0, 1, 2, 3] (fun g_ : Value × Value × Value × Value => .tuple #[.agg #[g_.1, g_.2.1, g_.2.2.1, g_.2.2.2, .int .i64 ((((giveR r a.P a.Q a.A a.B)).1).NextWrit), .int .i64 ((((giveR r a.P a.Q a.A a.B)).1).NextThing)], .int .i64 (((giveR r a.P a.Q a.A a.B)).2)]) §8 (fun g_ : Value × Value × Value × Value => [Res.ls g_.1 ((((giveR r a.P a.Q a.A a.B)).1).Writs : List Writ), Res.ls g_.2.1 ((((giveR r a.P a.Q a.A a.B)).1).Things : List Thing), Res.ls g_.2.2.1 ((((giveR r a.P a.Q a.A a.B)).1).Held : List Held), Res.ls g_.2.2.2 ((((giveR r a.P a.Q a.A a.B)).1).Notes : List Note)]) rfl rfl rfl eg_54 rfl rfl (fun w own hw H => giveD_any v_rW v_rT v_rH v_rN (r) (a.P) (a.Q) (a.A) (a.B) w own H (by assumption) (by assumption)) rfl) ?_
      rintro ⟨z5, z6, z7, z8⟩
      dsimp only
      refine R.u 2 rfl <| ?_
      refine R.s rfl (s.stV (us := [z5, z6, z7, z8, .int .i64 (((giveR r a.P a.Q a.A a.B).1).NextWrit), .int .i64 (((giveR r a.P a.Q a.A a.B).1).NextThing)]) (cs' := [z5, z6, z7, z8, .int .i64 (((giveR r a.P a.Q a.A a.B).1).NextWrit), .int .i64 (((giveR r a.P a.Q a.A a.B).1).NextThing)]) 0 _ rfl rfl rfl (fun _ _ => rfl) (.inl tAgg_30) §1 rfl rfl rfl) fun _ => ?_
      refine R.u 1 rfl <| R.nil ?_
      have hz : doR r a = (((giveR r a.P a.Q a.A a.B).1), (giveR r a.P a.Q a.A a.B).2) := by (unfold doR; (repeat' split) <;> first | rfl | (exfalso; simp_all; done) | (simp_all; done))
      rw [hz]
      exact R.w2 (z5, z6, z7, z8) [3] [0, 1, 2, 3] rfl Tryz.results20 (RV.cell 0 rfl rfl tAgg_30) (RV.tmp rfl) rfl rfl rfl (tup2 rfl rfl)
    · refine R.q (q.eqlS0 rfl rfl h2) rfl <| R.u 1 rfl <| R.nil ?_
      refine R.condF rfl rfl ?_
      refine R.reg rfl <| ?_
      by_cases h3 : a.Kind = ⟨#[109, 111, 118, 101]⟩
      · refine R.q (q.eqlS1 rfl rfl h3) rfl <| R.u 1 rfl <| R.nil ?_
        refine R.condT rfl rfl ?_
        refine R.reg rfl <| R.q (q.ldS 2 rfl rfl tAgg_30) rfl <| R.q §15 rfl <| R.q §6 rfl <| R.q (q.fld (off' := 6) rfl tFld_37_4 rfl) rfl <| R.q (q.ld 1 rfl rfl tOne_3 rfl) rfl <| ?_
        refine R.s (B' := §10) (F' := (fun g_ : Value × Value × Value × Value => [Res.ls g_.1 ((((moveR r a.P a.A)).1).Writs : List Writ), Res.ls g_.2.1 ((((moveR r a.P a.A)).1).Things : List Thing), Res.ls g_.2.2.1 ((((moveR r a.P a.A)).1).Held : List Held), Res.ls g_.2.2.2 ((((moveR r a.P a.A)).1).Notes : List Note), Res.ls v_rW (r.Writs : List Writ), Res.ls v_rT (r.Things : List Thing), Res.ls v_rH (r.Held : List Held), Res.ls v_rN (r.Notes : List Note)])) rfl (s.callV (B0 := []) (Br := §0) (F0 := §2) [0, 1, 2, 3] [0, 1, 2, 3] (fun g_ : Value × Value × Value × Value => .tuple #[.agg #[g_.1, g_.2.1, g_.2.2.1, g_.2.2.2, .int .i64 ((((moveR r a.P a.A)).1).NextWrit), .int .i64 ((((moveR r a.P a.A)).1).NextThing)], .int .i64 (((moveR r a.P a.A)).2)]) §8 (fun g_ : Value × Value × Value × Value => [Res.ls g_.1 ((((moveR r a.P a.A)).1).Writs : List Writ), Res.ls g_.2.1 ((((moveR r a.P a.A)).1).Things : List Thing), Res.ls g_.2.2.1 ((((moveR r a.P a.A)).1).Held : List Held), Res.ls g_.2.2.2 ((((moveR r a.P a.A)).1).Notes : List Note)]) rfl rfl rfl eg_55 rfl rfl (fun w own hw H => moveD_any v_rW v_rT v_rH v_rN (r) (a.P) (a.A) w own H (by assumption) (by assumption)) rfl) ?_
        rintro ⟨z9, z10, z11, z12⟩
        dsimp only
        refine R.u 2 rfl <| ?_
        refine R.s rfl (s.stV (us := [z9, z10, z11, z12, .int .i64 (((moveR r a.P a.A).1).NextWrit), .int .i64 (((moveR r a.P a.A).1).NextThing)]) (cs' := [z9, z10, z11, z12, .int .i64 (((moveR r a.P a.A).1).NextWrit), .int .i64 (((moveR r a.P a.A).1).NextThing)]) 0 _ rfl rfl rfl (fun _ _ => rfl) (.inl tAgg_30) §1 rfl rfl rfl) fun _ => ?_
        refine R.u 1 rfl <| R.nil ?_
        have hz : doR r a = (((moveR r a.P a.A).1), (moveR r a.P a.A).2) := by (unfold doR; (repeat' split) <;> first | rfl | (exfalso; simp_all; done) | (simp_all; done))
        rw [hz]
        exact R.w2 (z9, z10, z11, z12) [3] [0, 1, 2, 3] rfl Tryz.results20 (RV.cell 0 rfl rfl tAgg_30) (RV.tmp rfl) rfl rfl rfl (tup2 rfl rfl)
      · refine R.q (q.eqlS0 rfl rfl h3) rfl <| R.u 1 rfl <| R.nil ?_
        refine R.condF rfl rfl ?_
        refine R.reg rfl <| ?_
        by_cases h4 : a.Kind = ⟨#[100, 114, 111, 112]⟩
        · refine R.q (q.eqlS1 rfl rfl h4) rfl <| R.u 1 rfl <| R.nil ?_
          refine R.condT rfl rfl ?_
          refine R.reg rfl <| R.q (q.ldS 2 rfl rfl tAgg_30) rfl <| R.q §15 rfl <| R.q §6 rfl <| ?_
          refine R.s (B' := §10) (F' := (fun g_ : Value × Value × Value × Value => [Res.ls g_.1 ((((dropR r a.P)).1).Writs : List Writ), Res.ls g_.2.1 ((((dropR r a.P)).1).Things : List Thing), Res.ls g_.2.2.1 ((((dropR r a.P)).1).Held : List Held), Res.ls g_.2.2.2 ((((dropR r a.P)).1).Notes : List Note), Res.ls v_rW (r.Writs : List Writ), Res.ls v_rT (r.Things : List Thing), Res.ls v_rH (r.Held : List Held), Res.ls v_rN (r.Notes : List Note)])) rfl (s.callV (B0 := []) (Br := §0) (F0 := §2) [0, 1, 2, 3] [0, 1, 2, 3] (fun g_ : Value × Value × Value × Value => .tuple #[.agg #[g_.1, g_.2.1, g_.2.2.1, g_.2.2.2, .int .i64 ((((dropR r a.P)).1).NextWrit), .int .i64 ((((dropR r a.P)).1).NextThing)], .int .i64 (((dropR r a.P)).2)]) §8 (fun g_ : Value × Value × Value × Value => [Res.ls g_.1 ((((dropR r a.P)).1).Writs : List Writ), Res.ls g_.2.1 ((((dropR r a.P)).1).Things : List Thing), Res.ls g_.2.2.1 ((((dropR r a.P)).1).Held : List Held), Res.ls g_.2.2.2 ((((dropR r a.P)).1).Notes : List Note)]) rfl rfl rfl eg_56 rfl rfl (fun w own hw H => dropD_any v_rW v_rT v_rH v_rN (r) (a.P) w own H (by assumption) (by assumption)) rfl) ?_
          rintro ⟨z13, z14, z15, z16⟩
          dsimp only
          refine R.u 2 rfl <| ?_
          refine R.s rfl (s.stV (us := [z13, z14, z15, z16, .int .i64 (((dropR r a.P).1).NextWrit), .int .i64 (((dropR r a.P).1).NextThing)]) (cs' := [z13, z14, z15, z16, .int .i64 (((dropR r a.P).1).NextWrit), .int .i64 (((dropR r a.P).1).NextThing)]) 0 _ rfl rfl rfl (fun _ _ => rfl) (.inl tAgg_30) §1 rfl rfl rfl) fun _ => ?_
          refine R.u 1 rfl <| R.nil ?_
          have hz : doR r a = (((dropR r a.P).1), (dropR r a.P).2) := by (unfold doR; (repeat' split) <;> first | rfl | (exfalso; simp_all; done) | (simp_all; done))
          rw [hz]
          exact R.w2 (z13, z14, z15, z16) [3] [0, 1, 2, 3] rfl Tryz.results20 (RV.cell 0 rfl rfl tAgg_30) (RV.tmp rfl) rfl rfl rfl (tup2 rfl rfl)
        · refine R.q (q.eqlS0 rfl rfl h4) rfl <| R.u 1 rfl <| R.nil ?_
          refine R.condF rfl rfl ?_
          refine R.reg rfl <| ?_
          by_cases h5 : a.Kind = ⟨#[114, 101, 118, 111, 107, 101]⟩
          · refine R.q (q.eqlS1 rfl rfl h5) rfl <| R.u 1 rfl <| R.nil ?_
            refine R.condT rfl rfl ?_
            refine R.reg rfl <| R.q (q.ldS 2 rfl rfl tAgg_30) rfl <| R.q §15 rfl <| R.q §6 rfl <| ?_
            refine R.s (B' := §10) (F' := (fun g_ : Value × Value × Value × Value => [Res.ls g_.1 ((((revokeR r a.P)).1).Writs : List Writ), Res.ls g_.2.1 ((((revokeR r a.P)).1).Things : List Thing), Res.ls g_.2.2.1 ((((revokeR r a.P)).1).Held : List Held), Res.ls g_.2.2.2 ((((revokeR r a.P)).1).Notes : List Note), Res.ls v_rW (r.Writs : List Writ), Res.ls v_rT (r.Things : List Thing), Res.ls v_rH (r.Held : List Held), Res.ls v_rN (r.Notes : List Note)])) rfl (s.callV (B0 := []) (Br := §0) (F0 := §2) [0, 1, 2, 3] [0, 1, 2, 3] (fun g_ : Value × Value × Value × Value => .tuple #[.agg #[g_.1, g_.2.1, g_.2.2.1, g_.2.2.2, .int .i64 ((((revokeR r a.P)).1).NextWrit), .int .i64 ((((revokeR r a.P)).1).NextThing)], .int .i64 (((revokeR r a.P)).2)]) §8 (fun g_ : Value × Value × Value × Value => [Res.ls g_.1 ((((revokeR r a.P)).1).Writs : List Writ), Res.ls g_.2.1 ((((revokeR r a.P)).1).Things : List Thing), Res.ls g_.2.2.1 ((((revokeR r a.P)).1).Held : List Held), Res.ls g_.2.2.2 ((((revokeR r a.P)).1).Notes : List Note)]) rfl rfl rfl eg_57 rfl rfl (fun w own hw H => revokeD_any v_rW v_rT v_rH v_rN (r) (a.P) w own H (by assumption) (by assumption)) rfl) ?_
            rintro ⟨z17, z18, z19, z20⟩
            dsimp only
            refine R.u 2 rfl <| ?_
            refine R.s rfl (s.stV (us := [z17, z18, z19, z20, .int .i64 (((revokeR r a.P).1).NextWrit), .int .i64 (((revokeR r a.P).1).NextThing)]) (cs' := [z17, z18, z19, z20, .int .i64 (((revokeR r a.P).1).NextWrit), .int .i64 (((revokeR r a.P).1).NextThing)]) 0 _ rfl rfl rfl (fun _ _ => rfl) (.inl tAgg_30) §1 rfl rfl rfl) fun _ => ?_
            refine R.u 1 rfl <| R.nil ?_
            have hz : doR r a = (((revokeR r a.P).1), (revokeR r a.P).2) := by (unfold doR; (repeat' split) <;> first | rfl | (exfalso; simp_all; done) | (simp_all; done))
            rw [hz]
            exact R.w2 (z17, z18, z19, z20) [3] [0, 1, 2, 3] rfl Tryz.results20 (RV.cell 0 rfl rfl tAgg_30) (RV.tmp rfl) rfl rfl rfl (tup2 rfl rfl)
          · refine R.q (q.eqlS0 rfl rfl h5) rfl <| R.u 1 rfl <| R.nil ?_
            refine R.condF rfl rfl ?_
            refine R.reg rfl <| ?_
            by_cases h6 : a.Kind = ⟨#[119, 114, 105, 116, 101]⟩
            · refine R.q (q.eqlS1 rfl rfl h6) rfl <| R.u 1 rfl <| R.nil ?_
              refine R.condT rfl rfl ?_
              refine R.reg rfl <| R.q (q.ldS 2 rfl rfl tAgg_30) rfl <| R.q §15 rfl <| R.q §6 rfl <| R.q (q.fld (off' := 1) rfl tFld_37_1 rfl) rfl <| R.q (q.ld 1 rfl rfl tOne_9 rfl) rfl <| ?_
              refine R.s (B' := §10) (F' := (fun g_ : Value × Value × Value × Value => [Res.ls g_.1 ((((writeR r a.P a.S)).1).Writs : List Writ), Res.ls g_.2.1 ((((writeR r a.P a.S)).1).Things : List Thing), Res.ls g_.2.2.1 ((((writeR r a.P a.S)).1).Held : List Held), Res.ls g_.2.2.2 ((((writeR r a.P a.S)).1).Notes : List Note), Res.ls v_rW (r.Writs : List Writ), Res.ls v_rT (r.Things : List Thing), Res.ls v_rH (r.Held : List Held), Res.ls v_rN (r.Notes : List Note)])) rfl (s.callV (B0 := []) (Br := §0) (F0 := §2) [0, 1, 2, 3] [0, 1, 2, 3] (fun g_ : Value × Value × Value × Value => .tuple #[.agg #[g_.1, g_.2.1, g_.2.2.1, g_.2.2.2, .int .i64 ((((writeR r a.P a.S)).1).NextWrit), .int .i64 ((((writeR r a.P a.S)).1).NextThing)], .int .i64 (((writeR r a.P a.S)).2)]) §8 (fun g_ : Value × Value × Value × Value => [Res.ls g_.1 ((((writeR r a.P a.S)).1).Writs : List Writ), Res.ls g_.2.1 ((((writeR r a.P a.S)).1).Things : List Thing), Res.ls g_.2.2.1 ((((writeR r a.P a.S)).1).Held : List Held), Res.ls g_.2.2.2 ((((writeR r a.P a.S)).1).Notes : List Note)]) rfl rfl rfl eg_58 rfl rfl (fun w own hw H => writeD_any v_rW v_rT v_rH v_rN (r) (a.P) (a.S) w own H (by assumption) (by assumption)) rfl) ?_
              rintro ⟨z21, z22, z23, z24⟩
              dsimp only
              refine R.u 2 rfl <| ?_
              refine R.s rfl (s.stV (us := [z21, z22, z23, z24, .int .i64 (((writeR r a.P a.S).1).NextWrit), .int .i64 (((writeR r a.P a.S).1).NextThing)]) (cs' := [z21, z22, z23, z24, .int .i64 (((writeR r a.P a.S).1).NextWrit), .int .i64 (((writeR r a.P a.S).1).NextThing)]) 0 _ rfl rfl rfl (fun _ _ => rfl) (.inl tAgg_30) §1 rfl rfl rfl) fun _ => ?_
              refine R.u 1 rfl <| R.nil ?_
              have hz : doR r a = (((writeR r a.P a.S).1), (writeR r a.P a.S).2) := by (unfold doR; (repeat' split) <;> first | rfl | (exfalso; simp_all; done) | (simp_all; done))
              rw [hz]
              exact R.w2 (z21, z22, z23, z24) [3] [0, 1, 2, 3] rfl Tryz.results20 (RV.cell 0 rfl rfl tAgg_30) (RV.tmp rfl) rfl rfl rfl (tup2 rfl rfl)
            · refine R.q (q.eqlS0 rfl rfl h6) rfl <| R.u 1 rfl <| R.nil ?_
              refine R.condF rfl rfl ?_
              refine R.reg rfl <| ?_
              by_cases h7 : a.Kind = ⟨#[115, 101, 110, 100]⟩
              · refine R.q (q.eqlS1 rfl rfl h7) rfl <| R.u 1 rfl <| R.nil ?_
                refine R.condT rfl rfl ?_
                refine R.reg rfl <| R.q (q.ldS 2 rfl rfl tAgg_30) rfl <| R.q §15 rfl <| R.q §6 rfl <| R.q (q.fld (off' := 1) rfl tFld_37_1 rfl) rfl <| R.q (q.ld 1 rfl rfl tOne_9 rfl) rfl <| R.q (q.fld (off' := 6) rfl tFld_37_4 rfl) rfl <| R.q (q.ld 1 rfl rfl tOne_3 rfl) rfl <| R.q (q.fld (off' := 7) rfl tFld_37_5 rfl) rfl <| R.q (q.ld 1 rfl rfl tOne_3 rfl) rfl <| ?_
                refine R.s (B' := §10) (F' := (fun g_ : Value × Value × Value × Value => [Res.ls g_.1 ((((sendR r a.P a.S a.A a.B)).1).Writs : List Writ), Res.ls g_.2.1 ((((sendR r a.P a.S a.A a.B)).1).Things : List Thing), Res.ls g_.2.2.1 ((((sendR r a.P a.S a.A a.B)).1).Held : List Held), Res.ls g_.2.2.2 ((((sendR r a.P a.S a.A a.B)).1).Notes : List Note), Res.ls v_rW (r.Writs : List Writ), Res.ls v_rT (r.Things : List Thing), Res.ls v_rH (r.Held : List Held), Res.ls v_rN (r.Notes : List Note)])) rfl (s.callV (B0 := []) (Br := §0) (F0 := §2) [0, 1, 2, 3] [0, 1, 2, 3] (fun g_ : Value × Value × Value × Value => .tuple #[.agg #[g_.1, g_.2.1, g_.2.2.1, g_.2.2.2, .int .i64 ((((sendR r a.P a.S a.A a.B)).1).NextWrit), .int .i64 ((((sendR r a.P a.S a.A a.B)).1).NextThing)], .int .i64 (((sendR r a.P a.S a.A a.B)).2)]) §8 (fun g_ : Value × Value × Value × Value => [Res.ls g_.1 ((((sendR r a.P a.S a.A a.B)).1).Writs : List Writ), Res.ls g_.2.1 ((((sendR r a.P a.S a.A a.B)).1).Things : List Thing), Res.ls g_.2.2.1 ((((sendR r a.P a.S a.A a.B)).1).Held : List Held), Res.ls g_.2.2.2 ((((sendR r a.P a.S a.A a.B)).1).Notes : List Note)]) rfl rfl rfl eg_59 rfl rfl (fun w own hw H => sendD_any v_rW v_rT v_rH v_rN (r) (a.P) (a.S) (a.A) (a.B) w own H (by assumption) (by assumption)) rfl) ?_
                rintro ⟨z25, z26, z27, z28⟩
                dsimp only
                refine R.u 2 rfl <| ?_
                refine R.s rfl (s.stV (us := [z25, z26, z27, z28, .int .i64 (((sendR r a.P a.S a.A a.B).1).NextWrit), .int .i64 (((sendR r a.P a.S a.A a.B).1).NextThing)]) (cs' := [z25, z26, z27, z28, .int .i64 (((sendR r a.P a.S a.A a.B).1).NextWrit), .int .i64 (((sendR r a.P a.S a.A a.B).1).NextThing)]) 0 _ rfl rfl rfl (fun _ _ => rfl) (.inl tAgg_30) §1 rfl rfl rfl) fun _ => ?_
                refine R.u 1 rfl <| R.nil ?_
                have hz : doR r a = (((sendR r a.P a.S a.A a.B).1), (sendR r a.P a.S a.A a.B).2) := by (unfold doR; (repeat' split) <;> first | rfl | (exfalso; simp_all; done) | (simp_all; done))
                rw [hz]
                exact R.w2 (z25, z26, z27, z28) [3] [0, 1, 2, 3] rfl Tryz.results20 (RV.cell 0 rfl rfl tAgg_30) (RV.tmp rfl) rfl rfl rfl (tup2 rfl rfl)
              · refine R.q (q.eqlS0 rfl rfl h7) rfl <| R.u 1 rfl <| R.nil ?_
                refine R.condF rfl rfl ?_
                refine R.reg rfl <| ?_
                by_cases h8 : a.Kind = ⟨#[116, 97, 107, 101]⟩
                · refine R.q (q.eqlS1 rfl rfl h8) rfl <| R.u 1 rfl <| R.nil ?_
                  refine R.condT rfl rfl ?_
                  refine R.reg rfl <| R.q (q.ldS 2 rfl rfl tAgg_30) rfl <| R.q §15 rfl <| R.q §6 rfl <| ?_
                  refine R.s (B' := §10) (F' := (fun g_ : Value × Value × Value × Value => [Res.ls g_.1 ((((takeR r a.P)).1).Writs : List Writ), Res.ls g_.2.1 ((((takeR r a.P)).1).Things : List Thing), Res.ls g_.2.2.1 ((((takeR r a.P)).1).Held : List Held), Res.ls g_.2.2.2 ((((takeR r a.P)).1).Notes : List Note), Res.ls v_rW (r.Writs : List Writ), Res.ls v_rT (r.Things : List Thing), Res.ls v_rH (r.Held : List Held), Res.ls v_rN (r.Notes : List Note)])) rfl (s.callV (B0 := []) (Br := §0) (F0 := §2) [0, 1, 2, 3] [0, 1, 2, 3] (fun g_ : Value × Value × Value × Value => .tuple #[.agg #[g_.1, g_.2.1, g_.2.2.1, g_.2.2.2, .int .i64 ((((takeR r a.P)).1).NextWrit), .int .i64 ((((takeR r a.P)).1).NextThing)], .agg #[.int .i64 ((((takeR r a.P)).2.1).Port), .string ((((takeR r a.P)).2.1).Data), .int .i64 ((((takeR r a.P)).2.1).Badge), .int .i64 ((((takeR r a.P)).2.1).Writ)], .int .i64 (((takeR r a.P)).2.2.1), .int .i64 (((takeR r a.P)).2.2.2)]) §8 (fun g_ : Value × Value × Value × Value => [Res.ls g_.1 ((((takeR r a.P)).1).Writs : List Writ), Res.ls g_.2.1 ((((takeR r a.P)).1).Things : List Thing), Res.ls g_.2.2.1 ((((takeR r a.P)).1).Held : List Held), Res.ls g_.2.2.2 ((((takeR r a.P)).1).Notes : List Note)]) rfl rfl rfl eg_37 rfl rfl (fun w own hw H => takeD_any v_rW v_rT v_rH v_rN (r) (a.P) w own H (by assumption) (by assumption)) rfl) ?_
                  rintro ⟨z29, z30, z31, z32⟩
                  dsimp only
                  refine R.u 5 rfl <| ?_
                  refine R.s rfl (s.alloc (cs := §4) tZero_30 rfl rfl) fun b4 => ?_
                  refine R.s rfl (s.alloc (cs := §16) tZero_52 rfl rfl) fun b5 => ?_
                  refine R.s rfl (s.stV (us := §11) (cs' := §11) 1 _ rfl rfl rfl (fun _ _ => rfl) (.inl tAgg_30) §1 rfl rfl rfl) fun _ => ?_
                  refine R.s rfl (s.st (us := [.int .i64 (((takeR r a.P).2.1).Port), .string (((takeR r a.P).2.1).Data), .int .i64 (((takeR r a.P).2.1).Badge), .int .i64 (((takeR r a.P).2.1).Writ)]) (cs' := [.int .i64 (((takeR r a.P).2.1).Port), .string (((takeR r a.P).2.1).Data), .int .i64 (((takeR r a.P).2.1).Badge), .int .i64 (((takeR r a.P).2.1).Writ)]) 0 _ rfl rfl rfl rfl (.inl tAgg_52) rfl rfl rfl rfl) fun _ => ?_
                  refine R.u 2 rfl <| R.nil ?_
                  refine R.reg rfl <| R.q (q.ldS 1 rfl rfl tAgg_30) rfl <| R.u 1 rfl <| ?_
                  refine R.s rfl (s.stV (us := §11) (cs' := §11) 2 _ rfl rfl rfl (fun _ _ => rfl) (.inl tAgg_30) §1 rfl rfl rfl) fun _ => ?_
                  refine R.u 1 rfl <| R.nil ?_
                  have hz : doR r a = (((takeR r a.P).1), (takeR r a.P).2.2.2) := by (unfold doR; (repeat' split) <;> first | rfl | (exfalso; simp_all; done) | (simp_all; done))
                  rw [hz]
                  exact R.w2 (z29, z30, z31, z32) [5] [0, 1, 2, 3] rfl Tryz.results20 (RV.cell 2 rfl rfl tAgg_30) (RV.tmp rfl) rfl rfl rfl (tup2 rfl rfl)
                · refine R.q (q.eqlS0 rfl rfl h8) rfl <| R.u 1 rfl <| R.nil ?_
                  refine R.condF rfl rfl ?_
                  refine R.reg rfl <| R.q (q.ldS 2 rfl rfl tAgg_30) rfl <| ?_
                  refine R.s rfl (s.stV (us := §9) (cs' := §9) 0 _ rfl rfl rfl (fun _ _ => rfl) (.inl tAgg_30) §1 rfl rfl rfl) fun _ => ?_
                  refine R.u 1 rfl <| R.nil ?_
                  have hz : doR r a = (r, 0) := by (unfold doR; (repeat' split) <;> first | rfl | (exfalso; simp_all; done) | (simp_all; done))
                  rw [hz]
                  exact R.w2 (v_rW, v_rT, v_rH, v_rN) [3] [0, 1, 2, 3] rfl Tryz.results20 (RV.cell 0 rfl rfl tAgg_30) (RV.tmp rfl) rfl rfl rfl (tup2 rfl rfl)

theorem noteD_any (v_rW v_rT v_rH v_rN : Value) (r : Realm) (p : Place) (w : World) (own : List Nat) (H : Wd w (blks [] ++ own) ([] ++ [Res.held w own]) §2 w) (hk : Ok r) (hI : Inv r) : Calls Tryz.prog 14 #[.agg #[v_rW, v_rT, v_rH, v_rN, .int .i64 r.NextWrit, .int .i64 r.NextThing], .agg #[.int .i64 p.Holder, .int .i64 p.Slot]] w fun e w' => ∃ z : Unit, e = .returned (.tuple #[.agg #[.int .i64 ((((takeR r p).2.1)).Port), .string ((((takeR r p).2.1)).Data), .int .i64 ((((takeR r p).2.1)).Badge), .int .i64 ((((takeR r p).2.1)).Writ)], .int .i64 (((takeR r p).2.2.1)), .int .i64 (((takeR r p).2.2.2))]) ∧ Wd w (blks [] ++ own) ([] ++ [Res.held w own]) [] w' := by
  have m_r_Writs := H.lenF 0 rfl
  have m_r_Things := H.lenF 1 rfl
  have m_r_Held := H.lenF 2 rfl
  have m_r_Notes := H.lenF 3 rfl
  refine R.enterN (n := 22) (vs := [.agg #[v_rW, v_rT, v_rH, v_rN, .int .i64 r.NextWrit, .int .i64 r.NextThing], .agg #[.int .i64 p.Holder, .int .i64 p.Slot]]) (B := [Res.held w own]) [(0, .agg #[v_rW, v_rT, v_rH, v_rN, .int .i64 r.NextWrit, .int .i64 r.NextThing]), (1, .agg #[.int .i64 p.Holder, .int .i64 p.Slot])] Tryz.func14 rfl rfl rfl rfl H ?_
  refine R.reg rfl <| ?_
  refine R.s rfl (s.box (cs := §9) rfl rfl rfl) fun b1 => ?_
  refine R.s rfl (s.box (cs := [.int .i64 p.Holder, .int .i64 p.Slot]) rfl rfl rfl) fun b2 => ?_
  refine R.s rfl (s.alloc (cs := §16) tZero_52 rfl rfl) fun b3 => ?_
  refine R.u 2 rfl <| R.nil ?_
  refine R.reg rfl <| R.q (q.ldS 2 rfl rfl tAgg_30) rfl <| R.q (q.ldS 1 rfl rfl tAgg_33) rfl <| ?_
  refine R.s (B' := (fun g_ : Value × Value × Value × Value => [Res.box b3 §16 52, Res.box b2 [.int .i64 p.Holder, .int .i64 p.Slot] 33, Res.box b1 §9 30, Res.held w own])) (F' := (fun g_ : Value × Value × Value × Value => [Res.ls g_.1 ((((takeR r p)).1).Writs : List Writ), Res.ls g_.2.1 ((((takeR r p)).1).Things : List Thing), Res.ls g_.2.2.1 ((((takeR r p)).1).Held : List Held), Res.ls g_.2.2.2 ((((takeR r p)).1).Notes : List Note), Res.ls v_rW (r.Writs : List Writ), Res.ls v_rT (r.Things : List Thing), Res.ls v_rH (r.Held : List Held), Res.ls v_rN (r.Notes : List Note)])) rfl (s.callV (B0 := []) (Br := [Res.box b3 §16 52, Res.box b2 [.int .i64 p.Holder, .int .i64 p.Slot] 33, Res.box b1 §9 30, Res.held w own]) (F0 := §2) [0, 1, 2, 3] [0, 1, 2, 3] (fun g_ : Value × Value × Value × Value => .tuple #[.agg #[g_.1, g_.2.1, g_.2.2.1, g_.2.2.2, .int .i64 ((((takeR r p)).1).NextWrit), .int .i64 ((((takeR r p)).1).NextThing)], .agg #[.int .i64 ((((takeR r p)).2.1).Port), .string ((((takeR r p)).2.1).Data), .int .i64 ((((takeR r p)).2.1).Badge), .int .i64 ((((takeR r p)).2.1).Writ)], .int .i64 (((takeR r p)).2.2.1), .int .i64 (((takeR r p)).2.2.2)]) §8 (fun g_ : Value × Value × Value × Value => [Res.ls g_.1 ((((takeR r p)).1).Writs : List Writ), Res.ls g_.2.1 ((((takeR r p)).1).Things : List Thing), Res.ls g_.2.2.1 ((((takeR r p)).1).Held : List Held), Res.ls g_.2.2.2 ((((takeR r p)).1).Notes : List Note)]) rfl rfl rfl eg_37 rfl rfl (fun w own hw H => takeD_any v_rW v_rT v_rH v_rN (r) (p) w own H (by assumption) (by assumption)) rfl) ?_
  rintro ⟨z1, z2, z3, z4⟩
  dsimp only
  refine R.u 5 rfl <| ?_
  refine R.s rfl (s.alloc (cs := §4) tZero_30 rfl rfl) fun b4 => ?_
  refine R.s rfl (s.alloc (cs := §16) tZero_52 rfl rfl) fun b5 => ?_
  refine R.s rfl (s.stV (us := [z1, z2, z3, z4, .int .i64 (((takeR r p).1).NextWrit), .int .i64 (((takeR r p).1).NextThing)]) (cs' := [z1, z2, z3, z4, .int .i64 (((takeR r p).1).NextWrit), .int .i64 (((takeR r p).1).NextThing)]) 1 _ rfl rfl rfl (fun _ _ => rfl) (.inl tAgg_30) §1 rfl rfl rfl) fun _ => ?_
  refine R.s rfl (s.st (us := §7) (cs' := §7) 0 _ rfl rfl rfl rfl (.inl tAgg_52) rfl rfl rfl rfl) fun _ => ?_
  refine R.u 2 rfl <| R.nil ?_
  refine R.reg rfl <| R.q (q.ldS 0 rfl rfl tAgg_52) rfl <| R.u 2 rfl <| ?_
  refine R.s rfl (s.st (us := §7) (cs' := §7) 2 _ rfl rfl rfl rfl (.inl tAgg_52) rfl rfl rfl rfl) fun _ => ?_
  refine R.u 2 rfl <| R.nil ?_
  have hz : ((takeR r p).2.1, (takeR r p).2.2.1, (takeR r p).2.2.2) = (((takeR r p).2.1), (takeR r p).2.2.1, (takeR r p).2.2.2) := by (rfl)
  exact R.w3 () [5] [] rfl Tryz.results14 (RV.cell 2 rfl rfl tAgg_52) (RV.tmp rfl) (RV.tmp rfl) rfl rfl rfl (tup3 rfl rfl rfl)

end Go.Proofs.YtpipachmngdegaaGreat
end
