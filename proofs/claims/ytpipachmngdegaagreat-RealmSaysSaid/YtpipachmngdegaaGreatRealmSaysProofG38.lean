import Derived.Test.YtpipachmngdegaaGreatRealmSaysProofG31
import Derived.Test.YtpipachmngdegaaGreatRealmSaysProofG37
section
/-
  The walks of chapter 5, at last: a realm that is quiet, a realm copied. The program's.
-/
namespace Go.Proofs.YtpipachmngdegaaGreat
open Go Go.RowKit
set_option linter.unusedVariables false
set_option linter.unusedSimpArgs false
set_option maxRecDepth 100000
set_option hygiene false
local macro:max "§0" : term => `([.slice none 0 0, .slice none 0 0, .slice none 0 0, .slice none 0 0, .int .i64 0, .int .i64 0])
local macro:max "§1" : term => `((⟨ws, r.Things, r.Held, [], r.NextWrit, r.NextThing⟩ : Realm))
local macro:max "§2" : term => `([Res.ls v_rW (r.Writs : List Writ), Res.ls v_rT (r.Things : List Thing), Res.ls v_rH (r.Held : List Held), Res.ls v_rN (r.Notes : List Note)])
local macro:max "§3" : term => `([v_rW, v_rT, v_rH, v_rN, .int .i64 r.NextWrit, .int .i64 r.NextThing])
local macro:max "§4" : term => `([z5, z6, z7, z8, .int .i64 r.NextWrit, .int .i64 r.NextThing])
local macro:max "§5" : term => `((fun _ => Wd.pik [0, 1, 2] [0, 1, 2, 3] rfl rfl rfl))
local macro:max "§6" : term => `([Res.box b2 §0 30, Res.box b1 [vw, v_rT, v_rH, .slice none 0 0, .int .i64 r.NextWrit, .int .i64 r.NextThing] 30, Res.held w own])
local macro:max "§7" : term => `((by kernel_rfl))

theorem quietR_any (v_rW v_rT v_rH v_rN : Value) (r : Realm) (w : World) (own : List Nat) (H : Wd w (blks [] ++ own) ([] ++ [Res.held w own]) §2 w) (hk : Ok r) : Calls Tryz.prog 16 #[.agg #[v_rW, v_rT, v_rH, v_rN, .int .i64 r.NextWrit, .int .i64 r.NextThing]] w fun e w' => ∃ z : Value × Value × Value × Value, e = .returned (.agg #[z.1, z.2.1, z.2.2.1, z.2.2.2, .int .i64 (((quietR r)).NextWrit), .int .i64 (((quietR r)).NextThing)]) ∧ Wd w (blks [] ++ own) ([] ++ [Res.held w own]) [Res.ls z.1 (((quietR r)).Writs : List Writ), Res.ls z.2.1 (((quietR r)).Things : List Thing), Res.ls z.2.2.1 (((quietR r)).Held : List Held), Res.ls z.2.2.2 (((quietR r)).Notes : List Note)] w' := by
  have m_r_Writs := H.lenF 0 rfl
  have m_r_Things := H.lenF 1 rfl
  have m_r_Held := H.lenF 2 rfl
  have m_r_Notes := H.lenF 3 rfl
  have bw := hk.wl; have bt := hk.tl; have bh := hk.hl; have bn := hk.nl; have bw0 := hk.w0; have bw1 := hk.w1; have bt0 := hk.t0; have bt1 := hk.t1
  refine R.enterN (n := 25) (vs := [.agg #[v_rW, v_rT, v_rH, v_rN, .int .i64 r.NextWrit, .int .i64 r.NextThing]]) (B := [Res.held w own]) [(0, .agg #[v_rW, v_rT, v_rH, v_rN, .int .i64 r.NextWrit, .int .i64 r.NextThing])] Tryz.func16 rfl rfl rfl rfl H ?_
  refine R.reg rfl <| ?_
  refine R.s rfl (s.box (cs := §3) rfl rfl rfl) fun b1 => ?_
  refine R.s rfl (s.alloc (cs := §0) tZero_30 rfl rfl) fun b2 => ?_
  refine R.nil ?_
  refine R.reg rfl <| R.q (q.fld (off' := 3) rfl tFld_30_3 rfl) rfl <| R.q (q.ld 1 rfl rfl tOne_28 rfl) rfl <| R.q (q.len' (fun _ => Wd.fls 3 rfl) rfl Tryz.underlying28) rfl <| R.u 1 rfl <| R.nil ?_
  refine R.loop (fun g_ : Nat × Value × (List Writ) => [(1, .pointer (some ⟨b1, 0, none⟩)), (2, .pointer (some ⟨b2, 0, none⟩)), (6, v_rN), (7, .int .i64 (r.Notes.length : Int)), (8, .int .i64 (g_.1 : Int))]) (fun g_ : Nat × Value × (List Writ) => [Res.box b2 §0 30, Res.box b1 [g_.2.1, v_rT, v_rH, v_rN, .int .i64 r.NextWrit, .int .i64 r.NextThing] 30, Res.held w own]) (fun g_ : Nat × Value × (List Writ) => [Res.ls g_.2.1 (g_.2.2 : List Writ), Res.ls v_rW (r.Writs : List Writ), Res.ls v_rT (r.Things : List Thing), Res.ls v_rH (r.Held : List Held), Res.ls v_rN (r.Notes : List Note)]) (fun g_ : Nat × Value × (List Writ) => g_.1 ≤ r.Notes.length ∧ g_.2.2 = quietW (r.Notes.take g_.1) r.Writs) (fun g_ : Nat × Value × (List Writ) => r.Notes.length - g_.1) (0, v_rW, r.Writs) rfl (by exact ⟨by omega, rfl⟩) ⟨rfl, rfl, rfl, rfl, rfl, trivial⟩ (fun _ => Wd.pick [0, 1, 2] [0, 0, 1, 2, 3] rfl rfl rfl) ?_
  rintro ⟨j, vw, ws⟩ ⟨hj1, HW⟩
  dsimp only at *
  have hws : ws.length ≤ 2000 := by rw [HW]; exact Nat.le_trans (quietW_len _ _) hk.wl
  have hwr : ∀ w ∈ ws, 0 ≤ w.Rights ∧ w.Rights ≤ 7 := by rw [HW]; exact quietW_ri _ _ hk.ri
  have hok : Ok §1 := ⟨hws, hk.tl, hk.hl, Nat.zero_le _, hwr, hk.w0, hk.w1, hk.t0, hk.t1⟩
  refine R.reg rfl <| ?_
  by_cases h1 : j < r.Notes.length
  · refine R.q (q.lss rfl rfl (decide_eq_true (by omega))) rfl <| R.nil ?_
    refine R.condT rfl rfl ?_
    refine R.reg rfl <| ?_
    obtain ⟨x1, hx1⟩ : ∃ z, r.Notes[j]? = some z := ⟨_, List.getElem?_eq_getElem (by omega)⟩
    refine R.q (q.idx (i := j) (fun _ => Wd.fls 4 rfl) rfl rfl tSl_28 rfl hx1) rfl <| R.q (q.ldES (ds := [.int .i64 x1.Port, .string x1.Data, .int .i64 x1.Badge, .int .i64 x1.Writ]) (fun _ => Wd.fls 4 rfl) hx1 rfl tAgg_52 rfl) rfl <| ?_
    refine R.s rfl (s.alloc (cs := [.int .i64 0, .string (⟨#[]⟩), .int .i64 0, .int .i64 0]) tZero_52 rfl rfl) fun b3 => ?_
    refine R.s rfl (s.st (us := [.int .i64 x1.Port, .string x1.Data, .int .i64 x1.Badge, .int .i64 x1.Writ]) (cs' := [.int .i64 x1.Port, .string x1.Data, .int .i64 x1.Badge, .int .i64 x1.Writ]) 0 _ rfl rfl rfl rfl (.inl tAgg_52) rfl rfl rfl rfl) fun _ => ?_
    refine R.nil ?_
    refine R.reg rfl <| R.q (q.fld (off' := 3) rfl tFld_52_3 rfl) rfl <| R.q (q.ld 0 rfl rfl tOne_3 rfl) rfl <| ?_
    by_cases h2 : 0 < x1.Writ
    · refine R.q (q.gtr rfl rfl (decide_eq_true (by omega))) rfl <| R.nil ?_
      refine R.condT rfl rfl ?_
      refine R.reg rfl <| R.q (q.fld (off' := 0) rfl tFld_30_0 rfl) rfl <| R.q (q.ld 2 rfl rfl tOne_25 rfl) rfl <| R.q (q.fld (off' := 3) rfl tFld_52_3 rfl) rfl <| R.q (q.ld 0 rfl rfl tOne_3 rfl) rfl <| ?_
      refine R.s rfl (s.callO eg_40 rfl rfl (fun w hw => without_any _ (ws) (x1.Writ) w ((fun _ => Wd.fls 0 rfl) w hw) (by first | omega | assumption)) rfl) fun v1 => ?_
      refine R.q (q.fld (off' := 0) rfl tFld_30_0 rfl) rfl <| ?_
      refine R.s rfl (s.stV (us := [v1]) (cs' := [v1, v_rT, v_rH, v_rN, .int .i64 r.NextWrit, .int .i64 r.NextThing]) 3 _ rfl rfl rfl (fun w hw => Sl.cells1 ((fun _ => Wd.row 0 rfl) w hw)) (.inr ⟨tOne_25, rfl⟩) (fun w hw => (one_cons (Sl.one ((fun _ => Wd.row 0 rfl) w hw)) one_nil)) rfl rfl rfl) fun _ => ?_
      refine R.nil ?_
      refine R.reg rfl <| R.q (q.add (r := ((j + 1 : Nat) : Int)) rfl rfl (wr (by omega))) rfl <| R.u 1 rfl <| R.nil ?_
      refine R.mp (B' := [Res.box b3 [.int .i64 x1.Port, .string x1.Data, .int .i64 x1.Badge, .int .i64 x1.Writ] 52, Res.box b2 §0 30, Res.box b1 [v1, v_rT, v_rH, v_rN, .int .i64 r.NextWrit, .int .i64 r.NextThing] 30, Res.held w own]) (fun _ hw => hw.lendL 0 _ rfl rfl) ?_
      refine R.back (j + 1, v1, (without ws x1.Writ)) rfl (by (first | exact ⟨by omega, by rw [quiet_snoc hx1, if_pos (by omega), HW]⟩ | exact ⟨by omega, by rw [quiet_snoc hx1, if_neg (by omega), HW]⟩)) (by dsimp only; omega) ⟨rfl, rfl, rfl, rfl, rfl, trivial⟩ (fun _ => Wd.pik [1, 2, 3] [0, 2, 3, 4, 5] rfl rfl rfl)
    · refine R.q (q.gtr rfl rfl (decide_eq_false (by omega))) rfl <| R.nil ?_
      refine R.condF rfl rfl ?_
      refine R.reg rfl <| R.q (q.add (r := ((j + 1 : Nat) : Int)) rfl rfl (wr (by omega))) rfl <| R.u 1 rfl <| R.nil ?_
      refine R.back (j + 1, vw, ws) rfl (by (first | exact ⟨by omega, by rw [quiet_snoc hx1, if_pos (by omega), HW]⟩ | exact ⟨by omega, by rw [quiet_snoc hx1, if_neg (by omega), HW]⟩)) (by dsimp only; omega) ⟨rfl, rfl, rfl, rfl, rfl, trivial⟩ (fun _ => Wd.pik [1, 2, 3] [0, 1, 2, 3, 4] rfl rfl rfl)
  · refine R.q (q.lss rfl rfl (decide_eq_false (by omega))) rfl <| R.nil ?_
    refine R.condF rfl rfl ?_
    refine R.reg rfl <| R.q (q.fld (off' := 3) rfl tFld_30_3 rfl) rfl <| ?_
    refine R.s rfl (s.st (us := [.slice none 0 0]) (cs' := [vw, v_rT, v_rH, .slice none 0 0, .int .i64 r.NextWrit, .int .i64 r.NextThing]) 1 _ rfl rfl rfl rfl (.inr ⟨tOne_28, rfl⟩) rfl rfl rfl rfl) fun _ => ?_
    refine R.nil ?_
    refine R.reg rfl <| R.q (q.ldS 1 rfl rfl tAgg_30) rfl <| ?_
    refine R.s (B' := (fun g_ : Value × Value × Value × Value => §6)) (F' := (fun g_ : Value × Value × Value × Value => [Res.ls g_.1 (((sweepR §1)).Writs : List Writ), Res.ls g_.2.1 (((sweepR §1)).Things : List Thing), Res.ls g_.2.2.1 (((sweepR §1)).Held : List Held), Res.ls g_.2.2.2 (((sweepR §1)).Notes : List Note), Res.ls (.slice none 0 0) ([] : List Note), Res.ls vw (ws : List Writ), Res.ls v_rW (r.Writs : List Writ), Res.ls v_rT (r.Things : List Thing), Res.ls v_rH (r.Held : List Held), Res.ls v_rN (r.Notes : List Note)])) rfl (s.pre (B2 := §6) (F2 := [Res.ls (.slice none 0 0) ([] : List Note), Res.ls vw (ws : List Writ), Res.ls v_rW (r.Writs : List Writ), Res.ls v_rT (r.Things : List Thing), Res.ls v_rH (r.Held : List Held), Res.ls v_rN (r.Notes : List Note)]) (fun _ hw => hw.nilL (α := Note)) (s.callV (B0 := []) (Br := §6) (F0 := [Res.ls vw (ws : List Writ), Res.ls v_rT (r.Things : List Thing), Res.ls v_rH (r.Held : List Held), Res.ls (.slice none 0 0) ([] : List Note)]) [0, 1, 2] [1, 3, 4, 0] (fun g_ : Value × Value × Value × Value => .agg #[g_.1, g_.2.1, g_.2.2.1, g_.2.2.2, .int .i64 (((sweepR §1)).NextWrit), .int .i64 (((sweepR §1)).NextThing)]) (fun g_ : Value × Value × Value × Value => []) (fun g_ : Value × Value × Value × Value => [Res.ls g_.1 (((sweepR §1)).Writs : List Writ), Res.ls g_.2.1 (((sweepR §1)).Things : List Thing), Res.ls g_.2.2.1 (((sweepR §1)).Held : List Held), Res.ls g_.2.2.2 (((sweepR §1)).Notes : List Note)]) rfl rfl rfl eg_41 rfl rfl (fun w own hw H => sweepR_any vw v_rT v_rH (.slice none 0 0) (§1) w own H (by assumption)) rfl)) ?_
    rintro ⟨z1, z2, z3, z4⟩
    dsimp only
    refine R.s rfl (s.stV (us := [z1, z2, z3, z4, .int .i64 ((sweepR §1).NextWrit), .int .i64 ((sweepR §1).NextThing)]) (cs' := [z1, z2, z3, z4, .int .i64 ((sweepR §1).NextWrit), .int .i64 ((sweepR §1).NextThing)]) 0 _ rfl rfl rfl (fun _ _ => rfl) (.inl tAgg_30) (fun w hw => (one_cons (Sl.one ((fun _ => Wd.fls 0 rfl) w hw)) (one_cons (Sl.one ((fun _ => Wd.fls 1 rfl) w hw)) (one_cons (Sl.one ((fun _ => Wd.fls 2 rfl) w hw)) (one_cons (Sl.one ((fun _ => Wd.fls 3 rfl) w hw)) (one_cons rfl (one_cons rfl one_nil))))))) rfl rfl rfl) fun _ => ?_
    refine R.nil ?_
    have hz : quietR r = (sweepR §1) := by (unfold quietR; rw [HW, List.take_of_length_le (by omega)])
    rw [hz]
    exact R.w1 (z1, z2, z3, z4) [2] [0, 1, 2, 3] rfl Tryz.results16 (RV.cell 0 rfl rfl tAgg_30) rfl rfl rfl rfl

theorem copyR_any (v_rW v_rT v_rH v_rN : Value) (r : Realm) (w : World) (own : List Nat) (H : Wd w (blks [] ++ own) ([] ++ [Res.held w own]) §2 w) (hk : Ok r) : Calls Tryz.prog 18 #[.agg #[v_rW, v_rT, v_rH, v_rN, .int .i64 r.NextWrit, .int .i64 r.NextThing]] w fun e w' => ∃ z : Value × Value × Value × Value, e = .returned (.agg #[z.1, z.2.1, z.2.2.1, z.2.2.2, .int .i64 ((r).NextWrit), .int .i64 ((r).NextThing)]) ∧ Wd w (blks [] ++ own) ([] ++ [Res.held w own]) [Res.ls z.1 ((r).Writs : List Writ), Res.ls z.2.1 ((r).Things : List Thing), Res.ls z.2.2.1 ((r).Held : List Held), Res.ls z.2.2.2 ((r).Notes : List Note)] w' := by
  have m_r_Writs := H.lenF 0 rfl
  have m_r_Things := H.lenF 1 rfl
  have m_r_Held := H.lenF 2 rfl
  have m_r_Notes := H.lenF 3 rfl
  have bw := hk.wl; have bt := hk.tl; have bh := hk.hl; have bn := hk.nl; have bw0 := hk.w0; have bw1 := hk.w1; have bt0 := hk.t0; have bt1 := hk.t1
  refine R.enterN (n := 20) (vs := [.agg #[v_rW, v_rT, v_rH, v_rN, .int .i64 r.NextWrit, .int .i64 r.NextThing]]) (B := [Res.held w own]) [(0, .agg #[v_rW, v_rT, v_rH, v_rN, .int .i64 r.NextWrit, .int .i64 r.NextThing])] Tryz.func18 rfl rfl rfl rfl H ?_
  refine R.reg rfl <| ?_
  refine R.s rfl (s.box (cs := §3) rfl rfl rfl) fun b1 => ?_
  refine R.s rfl (s.alloc (cs := §0) tZero_30 rfl rfl) fun b2 => ?_
  refine R.nil ?_
  refine R.regK (fuel := 20) (Wd w (blks [] ++ own) [Res.box b2 §0 30, Res.box b1 §3 30, Res.held w own] §2) [13, 15, 17, 19] rfl mixed rfl ?_
  refine K.p (i := 0) rfl §7 (.inr §5) rfl (fun w => q.fld (off' := 0) rfl tFld_30_0 rfl) rfl <| K.q (i := 1) rfl §7 §5 rfl (q.ld 1 rfl rfl tOne_25 rfl) rfl <| K.p (i := 3) rfl §7 (.inr §5) rfl (fun w => q.fld (off' := 1) rfl tFld_30_1 rfl) rfl <| K.q (i := 4) rfl §7 §5 rfl (q.ld 1 rfl rfl tOne_26 rfl) rfl <| K.p (i := 6) rfl §7 (.inr §5) rfl (fun w => q.fld (off' := 2) rfl tFld_30_2 rfl) rfl <| K.q (i := 7) rfl §7 §5 rfl (q.ld 1 rfl rfl tOne_27 rfl) rfl <| K.p (i := 9) rfl §7 (.inr §5) rfl (fun w => q.fld (off' := 3) rfl tFld_30_3 rfl) rfl <| K.q (i := 10) rfl §7 §5 rfl (q.ld 1 rfl rfl tOne_28 rfl) rfl <| ?_
  refine K.one (i := 2) §7 rfl ?_
  refine Ko.s (B' := (fun bz0_ : Value => [Res.row 39 bz0_ (r.Writs : List Writ), Res.box b2 §0 30, Res.box b1 §3 30, Res.held w own])) (F' := (fun bz0_ : Value => §2)) (s.callV (B0 := []) (Br := [Res.box b2 §0 30, Res.box b1 §3 30, Res.held w own]) (F0 := [Res.ls v_rW (r.Writs : List Writ)]) [0, 1, 2] [0] (fun bz0_ : Value => bz0_) (fun bz0_ : Value => [Res.row 39 bz0_ (r.Writs : List Writ)]) (fun bz0_ : Value => []) rfl rfl rfl eg_44 rfl rfl (fun w own hw H => cloneWrit_any v_rW (r.Writs) w own H (by first | omega | assumption | (simp; done) | (simp; omega))) rfl) (.inr fun _ => (fun _ => Wd.pik [1, 2, 3] [0, 1, 2, 3] rfl rfl rfl)) (fun h => by cases h) rfl fun z5 => ?_
  refine K.p (i := 12) rfl §7 (.inr (fun _ => Wd.pik [1, 2, 3] [0, 1, 2, 3] rfl rfl rfl)) rfl (fun w => q.fld (off' := 0) rfl tFld_30_0 rfl) rfl <| ?_
  refine K.one (i := 5) §7 rfl ?_
  refine Ko.s (B' := (fun bz0_ : Value => [Res.row 74 bz0_ (r.Things : List Thing), Res.row 39 z5 (r.Writs : List Writ), Res.box b2 §0 30, Res.box b1 §3 30, Res.held w own])) (F' := (fun bz0_ : Value => §2)) (s.callV (B0 := []) (Br := [Res.row 39 z5 (r.Writs : List Writ), Res.box b2 §0 30, Res.box b1 §3 30, Res.held w own]) (F0 := [Res.ls v_rT (r.Things : List Thing)]) [0, 1, 2, 3] [1] (fun bz0_ : Value => bz0_) (fun bz0_ : Value => [Res.row 74 bz0_ (r.Things : List Thing)]) (fun bz0_ : Value => []) rfl rfl rfl eg_45 rfl rfl (fun w own hw H => cloneThing_any v_rT (r.Things) w own H (by first | omega | assumption | (simp; done) | (simp; omega))) rfl) (.inr fun _ => (fun _ => Wd.pik [2, 3, 4] [0, 1, 2, 3] rfl rfl rfl)) (fun h => by cases h) rfl fun z6 => ?_
  refine K.one (i := 8) §7 rfl ?_
  refine Ko.s (B' := (fun bz0_ : Value => [Res.row 93 bz0_ (r.Held : List Held), Res.row 74 z6 (r.Things : List Thing), Res.row 39 z5 (r.Writs : List Writ), Res.box b2 §0 30, Res.box b1 §3 30, Res.held w own])) (F' := (fun bz0_ : Value => §2)) (s.callV (B0 := []) (Br := [Res.row 74 z6 (r.Things : List Thing), Res.row 39 z5 (r.Writs : List Writ), Res.box b2 §0 30, Res.box b1 §3 30, Res.held w own]) (F0 := [Res.ls v_rH (r.Held : List Held)]) [0, 1, 2, 3, 4] [2] (fun bz0_ : Value => bz0_) (fun bz0_ : Value => [Res.row 93 bz0_ (r.Held : List Held)]) (fun bz0_ : Value => []) rfl rfl rfl eg_46 rfl rfl (fun w own hw H => cloneHeld_any v_rH (r.Held) w own H (by first | omega | assumption | (simp; done) | (simp; omega))) rfl) (.inr fun _ => (fun _ => Wd.pik [3, 4, 5] [0, 1, 2, 3] rfl rfl rfl)) (fun h => by cases h) rfl fun z7 => ?_
  refine K.one (i := 11) §7 rfl ?_
  refine Ko.s (B' := (fun bz0_ : Value => [Res.row 52 bz0_ (r.Notes : List Note), Res.row 93 z7 (r.Held : List Held), Res.row 74 z6 (r.Things : List Thing), Res.row 39 z5 (r.Writs : List Writ), Res.box b2 §0 30, Res.box b1 §3 30, Res.held w own])) (F' := (fun bz0_ : Value => §2)) (s.callV (B0 := []) (Br := [Res.row 93 z7 (r.Held : List Held), Res.row 74 z6 (r.Things : List Thing), Res.row 39 z5 (r.Writs : List Writ), Res.box b2 §0 30, Res.box b1 §3 30, Res.held w own]) (F0 := [Res.ls v_rN (r.Notes : List Note)]) [0, 1, 2, 3, 4, 5] [3] (fun bz0_ : Value => bz0_) (fun bz0_ : Value => [Res.row 52 bz0_ (r.Notes : List Note)]) (fun bz0_ : Value => []) rfl rfl rfl eg_36 rfl rfl (fun w own hw H => cloneNote_any v_rN (r.Notes) w own H (by first | omega | assumption | (simp; done) | (simp; omega))) rfl) (.inr fun _ => (fun _ => Wd.pik [4, 5, 6] [0, 1, 2, 3] rfl rfl rfl)) (fun h => by cases h) rfl fun z8 => ?_
  refine K.one (i := 13) §7 rfl ?_
  refine Ko.s (s.stV (us := [z5]) (cs' := [z5, v_rT, v_rH, v_rN, .int .i64 r.NextWrit, .int .i64 r.NextThing]) 5 _ rfl rfl rfl (fun w hw => Sl.cells1 ((fun _ => Wd.row 3 rfl) w hw)) (.inr ⟨tOne_25, rfl⟩) (fun w hw => (one_cons (Sl.one ((fun _ => Wd.row 3 rfl) w hw)) one_nil)) rfl rfl rfl) (.inl rfl) (fun _ => by kernel_rfl) rfl fun _ => ?_
  refine K.p (i := 14) rfl §7 (.inl §7) rfl (fun w => q.fld (off' := 1) rfl tFld_30_1 rfl) rfl <| ?_
  refine K.one (i := 15) §7 rfl ?_
  refine Ko.s (s.stV (us := [z6]) (cs' := [z5, z6, v_rH, v_rN, .int .i64 r.NextWrit, .int .i64 r.NextThing]) 5 _ rfl rfl rfl (fun w hw => Sl.cells1 ((fun _ => Wd.row 2 rfl) w hw)) (.inr ⟨tOne_26, rfl⟩) (fun w hw => (one_cons (Sl.one ((fun _ => Wd.row 2 rfl) w hw)) one_nil)) rfl rfl rfl) (.inl rfl) (fun _ => by kernel_rfl) rfl fun _ => ?_
  refine K.p (i := 16) rfl §7 (.inl §7) rfl (fun w => q.fld (off' := 2) rfl tFld_30_2 rfl) rfl <| ?_
  refine K.one (i := 17) §7 rfl ?_
  refine Ko.s (s.stV (us := [z7]) (cs' := [z5, z6, z7, v_rN, .int .i64 r.NextWrit, .int .i64 r.NextThing]) 5 _ rfl rfl rfl (fun w hw => Sl.cells1 ((fun _ => Wd.row 1 rfl) w hw)) (.inr ⟨tOne_27, rfl⟩) (fun w hw => (one_cons (Sl.one ((fun _ => Wd.row 1 rfl) w hw)) one_nil)) rfl rfl rfl) (.inl rfl) (fun _ => by kernel_rfl) rfl fun _ => ?_
  refine K.p (i := 18) rfl §7 (.inl §7) rfl (fun w => q.fld (off' := 3) rfl tFld_30_3 rfl) rfl <| ?_
  refine K.one (i := 19) §7 rfl ?_
  refine Ko.s (s.stV (us := [z8]) (cs' := §4) 5 _ rfl rfl rfl (fun w hw => Sl.cells1 ((fun _ => Wd.row 0 rfl) w hw)) (.inr ⟨tOne_28, rfl⟩) (fun w hw => (one_cons (Sl.one ((fun _ => Wd.row 0 rfl) w hw)) one_nil)) rfl rfl rfl) (.inl rfl) (fun _ => by kernel_rfl) rfl fun _ => ?_
  refine K.done §7 <| ?_
  refine R.reg rfl <| R.q (q.ldS 5 rfl rfl tAgg_30) rfl <| ?_
  refine R.s rfl (s.stV (us := §4) (cs' := §4) 4 _ rfl rfl rfl (fun _ _ => rfl) (.inl tAgg_30) (fun w hw => (one_cons (Sl.one ((fun _ => Wd.row 3 rfl) w hw)) (one_cons (Sl.one ((fun _ => Wd.row 2 rfl) w hw)) (one_cons (Sl.one ((fun _ => Wd.row 1 rfl) w hw)) (one_cons (Sl.one ((fun _ => Wd.row 0 rfl) w hw)) (one_cons rfl (one_cons rfl one_nil))))))) rfl rfl rfl) fun _ => ?_
  refine R.nil ?_
  refine R.mp (B' := [Res.row 52 z8 (r.Notes : List Note), Res.row 93 z7 (r.Held : List Held), Res.row 74 z6 (r.Things : List Thing), Res.box b2 §4 30, Res.box b1 §4 30, Res.held w own]) (fun _ hw => hw.lendL 3 _ rfl rfl) ?_
  refine R.mp (B' := [Res.row 52 z8 (r.Notes : List Note), Res.row 93 z7 (r.Held : List Held), Res.box b2 §4 30, Res.box b1 §4 30, Res.held w own]) (fun _ hw => hw.lendL 2 _ rfl rfl) ?_
  refine R.mp (B' := [Res.row 52 z8 (r.Notes : List Note), Res.box b2 §4 30, Res.box b1 §4 30, Res.held w own]) (fun _ hw => hw.lendL 1 _ rfl rfl) ?_
  refine R.mp (B' := [Res.box b2 §4 30, Res.box b1 §4 30, Res.held w own]) (fun _ hw => hw.lendL 0 _ rfl rfl) ?_
  exact R.w1 (z5, z6, z7, z8) [2] [3, 2, 1, 0] rfl Tryz.results18 (RV.cell 0 rfl rfl tAgg_30) rfl rfl rfl rfl

end Go.Proofs.YtpipachmngdegaaGreat
end
