import Derived.Test.YtpipachmngdegaaGreatRealmSaysProofG45
section
/-
  The walks of chapter 5: what the document does with writs, on: sweeping, dropping, revoking, writing.
-/
namespace Go.Proofs.YtpipachmngdegaaGreat
open Go Go.RowKit
set_option linter.unusedVariables false
set_option linter.unusedSimpArgs false
set_option maxRecDepth 100000
set_option hygiene false
local macro:max "§0" : term => `([.slice none 0 0, .slice none 0 0, .slice none 0 0, .slice none 0 0, .int .i64 0, .int .i64 0])
local macro:max "§1" : term => `([.int .i64 (((getR r p).1).ID), .int .i64 (((getR r p).1).Thing), .int .i64 (((getR r p).1).Rights), .int .i64 (((getR r p).1).Badge), .int .i64 (((getR r p).1).From)])
local macro:max "§2" : term => `((⟨(without r.Writs (((getR r p).1).ID)), r.Things, r.Held, r.Notes, r.NextWrit, r.NextThing⟩ : Realm))
local macro:max "§3" : term => `([.int .i64 (((mayR r p 1 2).1).ID), .int .i64 (((mayR r p 1 2).1).Thing), .int .i64 (((mayR r p 1 2).1).Rights), .int .i64 (((mayR r p 1 2).1).Badge), .int .i64 (((mayR r p 1 2).1).From)])
local macro:max "§4" : term => `((⟨ls, r.Things, r.Held, r.Notes, r.NextWrit, r.NextThing⟩ : Realm))
local macro:max "§5" : term => `((by first | omega | (simp; omega) | (simp [addW]; omega) | (dsimp only [addW]; omega)))
local macro:max "§6" : term => `([Res.ls m_W (m.Writs : List Writ), Res.ls m_T (m.Things : List Thing), Res.ls m_H (m.Held : List Held), Res.ls m_N (m.Notes : List Note), Res.ls v_rW (r.Writs : List Writ), Res.ls v_rT (r.Things : List Thing), Res.ls v_rH (r.Held : List Held), Res.ls v_rN (r.Notes : List Note)])
local macro:max "§7" : term => `([Res.ls v_rW (r.Writs : List Writ), Res.ls v_rT (r.Things : List Thing), Res.ls v_rH (r.Held : List Held), Res.ls v_rN (r.Notes : List Note)])
local macro:max "§8" : term => `([z1, z2, z3, z4, .int .i64 r.NextWrit, .int .i64 r.NextThing])
local macro:max "§9" : term => `((fun _ => Wd.pik [2, 3, 5, 6, 7] [0, 1, 2, 3, 4, 5, 6, 7] rfl rfl rfl))
local macro:max "§10" : term => `((fun _ => Wd.pik [2, 4, 5, 6] [0, 1, 2, 3, 4, 5, 6, 7] rfl rfl rfl))
local macro:max "§11" : term => `([Res.row 3 v1 ((benG (((getR r p).1).ID) r.Writs) : List Int), Res.box b4 §1 39, Res.box b3 §0 30, Res.box b2 [.int .i64 p.Holder, .int .i64 p.Slot] 33, Res.box b1 [vl, v_rT, v_rH, v_rN, .int .i64 r.NextWrit, .int .i64 r.NextThing] 30, Res.held w own])
local macro:max "§12" : term => `((by (have e0 := hx3; first | (have e1 := fixN_no (ws := m.Writs) c2f; have e2 := none_snoc e0 (by rw [e1]; exact of_decide_eq_false (by assumption)) (by rw [e1]; simp); exact ⟨by omega, by rw [e2.1, HN], by rw [e2.2, HW], by rw [e2.2, HC]⟩) | (have e1 := fixN_yes (ws := m.Writs) c2f; have e2 := none_snoc e0 (by rw [e1]; exact of_decide_eq_false (by assumption)) (by rw [e1]; assumption); exact ⟨by omega, by rw [e2.1, HN], by rw [e2.2, HW], by rw [e2.2, HC]⟩))))
local macro:max "§13" : term => `((by (have e0 := hx3; first | (have e1 := fixN_no (ws := m.Writs) c2f; have e2 := keep_snoc e0 (by rw [e1]; exact of_decide_eq_true (by assumption)); rw [e1] at e2; exact ⟨by omega, by rw [e2.1, HN], by rw [e2.2, HW], by rw [e2.2, HC]⟩) | (have e1 := fixN_yes (ws := m.Writs) c2f; have e2 := keep_snoc e0 (by rw [e1]; exact of_decide_eq_true (by assumption)); rw [e1] at e2; exact ⟨by omega, by rw [e2.1, HN], by rw [e2.2, HW], by rw [e2.2, HC]⟩))))
local macro:max "§14" : term => `((q.fld (off' := 0) rfl tFld_30_0 rfl))
local macro:max "§15" : term => `([.int .i64 p.Holder, .int .i64 p.Slot])
local macro:max "§16" : term => `((fun _ => Wd.pik [1, 2, 4, 5, 6] [0, 1, 2, 3, 4, 5, 6, 7] rfl rfl rfl))
local macro:max "§17" : term => `([v_rW, v_rT, v_rH, v_rN, .int .i64 r.NextWrit, .int .i64 r.NextThing])
local macro:max "§18" : term => `(((fun _ => Wd.row 1 rfl) w hw))
local macro:max "§19" : term => `((fun _ => Wd.pik [1, 3, 4, 5] [0, 1, 2, 3, 4, 5, 6, 7] rfl rfl rfl))
local macro:max "§20" : term => `((fun _ => Wd.fls 0 rfl))
local macro:max "§21" : term => `((by kernel_rfl))
local macro:max "§22" : term => `((q.add (r := ((k + 1 : Nat) : Int)) rfl rfl (wr (by omega))))
local macro:max "§23" : term => `([Res.box b4 §1 39, Res.box b3 §0 30, Res.box b2 §15 33, Res.box b1 [v1, v_rT, v_rH, v_rN, .int .i64 r.NextWrit, .int .i64 r.NextThing] 30, Res.held w own])
local macro:max "§24" : term => `((fun _ => Wd.row 0 rfl))
local macro:max "§25" : term => `((fun _ => Wd.fls 2 rfl))
local macro:max "§26" : term => `((fun _ hw => hw.lendL 0 _ rfl rfl))
local macro:max "§27" : term => `((s.st (us := §0) (cs' := §0) 1 _ rfl rfl rfl rfl (.inl tAgg_30) rfl rfl rfl rfl))
local macro:max "§28" : term => `((by dsimp only; omega))

set_option maxRecDepth 100000 in
set_option maxHeartbeats 1000000 in
theorem sweepD_any (v_rW v_rT v_rH v_rN : Value) (r : Realm) (w : World) (own : List Nat) (H : Wd w (blks [] ++ own) ([] ++ [Res.held w own]) §7 w) (hk : Ok r) (hP : Pre r) : Calls Tryz.prog 43 #[.agg #[v_rW, v_rT, v_rH, v_rN, .int .i64 r.NextWrit, .int .i64 r.NextThing]] w fun e w' => ∃ z : Value × Value × Value × Value, e = .returned (.agg #[z.1, z.2.1, z.2.2.1, z.2.2.2, .int .i64 (((sweepR r)).NextWrit), .int .i64 (((sweepR r)).NextThing)]) ∧ Wd w (blks [] ++ own) ([] ++ [Res.held w own]) [Res.ls z.1 (((sweepR r)).Writs : List Writ), Res.ls z.2.1 (((sweepR r)).Things : List Thing), Res.ls z.2.2.1 (((sweepR r)).Held : List Held), Res.ls z.2.2.2 (((sweepR r)).Notes : List Note)] w' := by
  have m_r_Writs := H.lenF 0 rfl
  have m_r_Things := H.lenF 1 rfl
  have m_r_Held := H.lenF 2 rfl
  have m_r_Notes := H.lenF 3 rfl
  refine R.enterN (n := 120) (vs := [.agg #[v_rW, v_rT, v_rH, v_rN, .int .i64 r.NextWrit, .int .i64 r.NextThing]]) (B := [Res.held w own]) [(0, .agg #[v_rW, v_rT, v_rH, v_rN, .int .i64 r.NextWrit, .int .i64 r.NextThing])] Tryz.func43 rfl rfl rfl rfl H ?_
  refine R.reg rfl <| ?_
  refine R.s rfl (s.box (cs := §17) rfl rfl rfl) fun b1 => ?_
  refine R.s rfl (s.alloc (cs := §0) tZero_30 rfl rfl) fun b2 => ?_
  refine R.nil ?_
  refine R.loop (fun g_ : Realm × Value × Value × Value × Value => [(1, .pointer (some ⟨b1, 0, none⟩)), (2, .pointer (some ⟨b2, 0, none⟩))]) (fun g_ : Realm × Value × Value × Value × Value => [Res.box b2 §0 30, Res.box b1 [g_.2.1, g_.2.2.1, g_.2.2.2.1, g_.2.2.2.2, .int .i64 g_.1.NextWrit, .int .i64 g_.1.NextThing] 30, Res.held w own]) (fun g_ : Realm × Value × Value × Value × Value => [Res.ls g_.2.1 (g_.1.Writs : List Writ), Res.ls g_.2.2.1 (g_.1.Things : List Thing), Res.ls g_.2.2.2.1 (g_.1.Held : List Held), Res.ls g_.2.2.2.2 (g_.1.Notes : List Note), Res.ls v_rW (r.Writs : List Writ), Res.ls v_rT (r.Things : List Thing), Res.ls v_rH (r.Held : List Held), Res.ls v_rN (r.Notes : List Note)]) (fun g_ : Realm × Value × Value × Value × Value => Ok g_.1 ∧ Pre g_.1 ∧ sweepR g_.1 = sweepR r) (fun g_ : Realm × Value × Value × Value × Value => g_.1.Notes.length) (r, v_rW, v_rT, v_rH, v_rN) rfl (by exact ⟨hk, hP, rfl⟩) ⟨rfl, rfl, trivial⟩ (fun _ => Wd.pick [0, 1, 2] [0, 1, 2, 3, 0, 1, 2, 3] rfl rfl rfl) ?_
  rintro ⟨m, m_W, m_T, m_H, m_N⟩ ⟨hok, hpm, HS⟩
  dsimp only at *
  have o1 := hok.wl; have o2 := hok.tl; have o3 := hok.hl; have o4 := hok.nl; have hmt := hpm.tree
  refine R.reg rfl <| R.q §14 rfl <| R.q (q.ld 1 rfl rfl tOne_25 rfl) rfl <| R.q (q.fld (off' := 4) rfl tFld_30_4 rfl) rfl <| R.q (q.ld 1 rfl rfl tOne_3 rfl) rfl <| R.q (q.fld (off' := 5) rfl tFld_30_5 rfl) rfl <| R.q (q.ld 1 rfl rfl tOne_3 rfl) rfl <| R.q (q.buildV (cs := [m_W, .slice none 0 0, .slice none 0 0, .slice none 0 0, .int .i64 m.NextWrit, .int .i64 m.NextThing]) tB_30 rfl (fun w hw => (um_cons (Sl.cellsL (§20 w hw)) (um_cons rfl (um_cons rfl um_nil)))) rfl) rfl <| ?_
  refine R.s rfl (s.alloc (cs := §0) tZero_30 rfl rfl) fun b3 => ?_
  refine R.s rfl (s.stV (us := [m_W, .slice none 0 0, .slice none 0 0, .slice none 0 0, .int .i64 m.NextWrit, .int .i64 m.NextThing]) (cs' := [m_W, .slice none 0 0, .slice none 0 0, .slice none 0 0, .int .i64 m.NextWrit, .int .i64 m.NextThing]) 0 _ rfl rfl rfl (fun _ _ => rfl) (.inl tAgg_30) (fun w hw => (one_cons (Sl.one (§20 w hw)) (one_cons rfl (one_cons rfl (one_cons rfl (one_cons rfl (one_cons rfl one_nil))))))) rfl rfl rfl) fun _ => ?_
  refine R.nil ?_
  refine R.reg rfl <| R.q §14 rfl <| R.q (q.ld 2 rfl rfl tOne_25 rfl) rfl <| ?_
  refine R.s rfl (s.callO eg_80 rfl rfl (fun w hw => thingsG_any _ (m.Writs) w (§20 w hw) (by first | assumption | exact hI.tree | exact hP.tree)) rfl) fun v1 => ?_
  refine R.u 1 rfl <| R.nil ?_
  refine R.reg rfl <| R.u 1 rfl <| R.nil ?_
  refine R.row0 (α := Thing) 74 ?_
  refine R.loop (fun g_ : Nat × Value × (List Thing) => [(1, .pointer (some ⟨b1, 0, none⟩)), (2, .pointer (some ⟨b2, 0, none⟩)), (3, .pointer (some ⟨b3, 0, none⟩)), (4, v1), (5, .int .i64 (g_.1 : Int))]) (fun g_ : Nat × Value × (List Thing) => [Res.row 74 g_.2.1 (g_.2.2 : List Thing), Res.row 3 v1 ((thingsL m.Writs) : List Int), Res.box b3 [m_W, g_.2.1, .slice none 0 0, .slice none 0 0, .int .i64 m.NextWrit, .int .i64 m.NextThing] 30, Res.box b2 §0 30, Res.box b1 [m_W, m_T, m_H, m_N, .int .i64 m.NextWrit, .int .i64 m.NextThing] 30, Res.held w own]) (fun g_ : Nat × Value × (List Thing) => §6) (fun g_ : Nat × Value × (List Thing) => g_.1 ≤ m.Things.length ∧ g_.2.2 = (m.Things.take g_.1).filter (fun t => !!decide (t.ID ∈ (thingsL m.Writs)))) (fun g_ : Nat × Value × (List Thing) => m.Things.length - g_.1) (0, (.slice none 0 0), []) rfl (by exact ⟨by omega, by simp⟩) ⟨rfl, rfl, rfl, rfl, rfl, trivial⟩ (fun _ => Wd.pick [0, 1, 2, 3, 4, 5] [0, 1, 2, 3, 4, 5, 6, 7] rfl rfl rfl) ?_
  rintro ⟨j, vt, ts⟩ ⟨hj1, HT⟩
  dsimp only at *
  have htl : ts.length ≤ j := by rw [HT]; exact filter_to _ _ _
  refine R.reg rfl <| R.u 1 rfl <| R.q (q.fld (off' := 1) rfl tFld_30_1 rfl) rfl <| R.q (q.ld 4 rfl rfl tOne_26 rfl) rfl <| R.q (q.len' (fun _ => Wd.fls 1 rfl) rfl Tryz.underlying26) rfl <| ?_
  by_cases h1 : j < m.Things.length
  · refine R.q (q.lss rfl rfl (decide_eq_true (by omega))) rfl <| R.nil ?_
    refine R.condT rfl rfl ?_
    refine R.reg rfl <| R.u 1 rfl <| R.q (q.fld (off' := 1) rfl tFld_30_1 rfl) rfl <| R.q (q.ld 4 rfl rfl tOne_26 rfl) rfl <| R.u 1 rfl <| ?_
    obtain ⟨x1, hx1⟩ : ∃ z, m.Things[j]? = some z := ⟨_, List.getElem?_eq_getElem (by omega)⟩
    refine R.q (q.idx (i := j) (fun _ => Wd.fls 1 rfl) rfl rfl tSl_26 rfl hx1) rfl <| R.q (q.fldE (j' := 0) (fun _ => Wd.fls 1 rfl) hx1 rfl tFld_74_0 rfl) rfl <| R.q (q.ldE (fun _ => Wd.fls 1 rfl) hx1 rfl tOne_3 rfl) rfl <| ?_
    rcases Bool.eq_false_or_eq_true (decide (x1.ID ∈ (thingsL m.Writs))) with h2 | h2
    · refine R.c (q.call eg_81 rfl rfl (fun w hw => (cv (congrArg Value.bool h2) (has_any _ ((thingsL m.Writs)) (x1.ID) w §18 )))) rfl <| R.u 1 rfl <| R.nil ?_
      refine R.reg rfl <| R.u 1 rfl <| R.nil ?_
      refine R.condT rfl rfl ?_
      refine R.regD (fuel := 11) (Wd w (blks [] ++ own) [Res.row 3 v1 ((thingsL m.Writs) : List Int), Res.box b2 §0 30, Res.box b1 [m_W, m_T, m_H, m_N, .int .i64 m.NextWrit, .int .i64 m.NextThing] 30, Res.held w own] §6) rfl mixed rfl ?_
      refine D.q (i := 0) rfl §21 §19 rfl (q.fld (off' := 1) rfl tFld_30_1 rfl) rfl <| D.q (i := 2) rfl §21 §19 rfl (q.fld (off' := 1) rfl tFld_30_1 rfl) rfl <| D.q (i := 3) rfl §21 §19 rfl (q.ld 2 rfl rfl tOne_26 rfl) rfl <| D.q (i := 4) rfl §21 §19 rfl (q.mv rfl) rfl <| D.q (i := 5) rfl §21 §19 rfl (q.idx (i := j) (fun _ => Wd.fls 1 rfl) rfl rfl tSl_26 rfl hx1) rfl <| D.q (i := 6) rfl §21 §19 rfl (q.ldES (ds := [.int .i64 x1.ID, .int .i64 x1.Kind, .string x1.Data]) (fun _ => Wd.fls 1 rfl) hx1 rfl tAgg_74 rfl) rfl <| ?_
      refine D.two (i := 1) (j := 7) §21 rfl rfl ?_ ?_
      · refine Do.s (s.c (Qt.a (q.ld 2 rfl rfl tOne_26 rfl)) rfl) (fun _ => §19) rfl fun _ => ?_
        refine D.one (i := 7) §21 rfl ?_
        refine Do.s (s.bs (l := ([x1] : List Thing)) tSl_26 tZero_74 rfl rfl rfl rfl rfl rfl rfl) (fun _ => §10) rfl fun b4 => ?_
        refine D.one (i := 8) §21 rfl ?_
        refine Do.s (s.app (l2 := [x1]) 1 _ rfl rfl rfl §24 tApp_26 §5 §5 (fun _ => rfl) rfl) (fun _ => §10) rfl fun v2 => ?_
        refine D.q (i := 9) rfl §21 §10 rfl (q.fld (off' := 1) rfl tFld_30_1 rfl) rfl <| ?_
        refine D.one (i := 10) §21 rfl ?_
        refine Do.s (s.stV (us := [v2]) (cs' := [m_W, v2, .slice none 0 0, .slice none 0 0, .int .i64 m.NextWrit, .int .i64 m.NextThing]) 3 _ rfl rfl rfl (fun w hw => Sl.cells1 §18) (.inr ⟨tOne_26, rfl⟩) (fun w hw => (one_cons (Sl.one §18) one_nil)) rfl rfl rfl) (fun _ => §10) rfl fun _ => ?_
        refine D.done §21 <| ?_
        refine R.reg rfl <| R.u 1 rfl <| R.q (q.add (r := ((j + 1 : Nat) : Int)) rfl rfl (wr (by omega))) rfl <| R.u 1 rfl <| R.nil ?_
        refine R.back (j + 1, v2, (ts ++ ([x1]))) rfl (by (exact ⟨by omega, by rw [filter_yes hx1 (by simpa using ‹decide (_ ∈ thingsL m.Writs) = true›), HT]⟩)) §28 ⟨rfl, rfl, rfl, rfl, rfl, trivial⟩ (fun _ => Wd.pik [1, 2, 3, 4, 5, 6] [0, 1, 2, 3, 4, 5, 6, 7] rfl rfl rfl)
      · refine Do.s (s.bs (l := ([x1] : List Thing)) tSl_26 tZero_74 rfl rfl rfl rfl rfl rfl rfl) (fun _ => §10) rfl fun b5 => ?_
        refine D.one (i := 1) §21 rfl ?_
        refine Do.s (s.c (Qt.a (q.ld 3 rfl rfl tOne_26 rfl)) rfl) (fun _ => §10) rfl fun _ => ?_
        refine D.one (i := 8) §21 rfl ?_
        refine Do.s (s.app (l2 := [x1]) 1 _ rfl rfl rfl §24 tApp_26 §5 §5 (fun _ => rfl) rfl) (fun _ => §10) rfl fun v3 => ?_
        refine D.q (i := 9) rfl §21 §10 rfl (q.fld (off' := 1) rfl tFld_30_1 rfl) rfl <| ?_
        refine D.one (i := 10) §21 rfl ?_
        refine Do.s (s.stV (us := [v3]) (cs' := [m_W, v3, .slice none 0 0, .slice none 0 0, .int .i64 m.NextWrit, .int .i64 m.NextThing]) 3 _ rfl rfl rfl (fun w hw => Sl.cells1 §18) (.inr ⟨tOne_26, rfl⟩) (fun w hw => (one_cons (Sl.one §18) one_nil)) rfl rfl rfl) (fun _ => §10) rfl fun _ => ?_
        refine D.done §21 <| ?_
        refine R.reg rfl <| R.u 1 rfl <| R.q (q.add (r := ((j + 1 : Nat) : Int)) rfl rfl (wr (by omega))) rfl <| R.u 1 rfl <| R.nil ?_
        refine R.back (j + 1, v3, (ts ++ ([x1]))) rfl (by (exact ⟨by omega, by rw [filter_yes hx1 (by simpa using ‹decide (_ ∈ thingsL m.Writs) = true›), HT]⟩)) §28 ⟨rfl, rfl, rfl, rfl, rfl, trivial⟩ (fun _ => Wd.pik [1, 2, 3, 4, 5, 6] [0, 1, 2, 3, 4, 5, 6, 7] rfl rfl rfl)
    · refine R.c (q.call eg_81 rfl rfl (fun w hw => (cv (congrArg Value.bool h2) (has_any _ ((thingsL m.Writs)) (x1.ID) w §18 )))) rfl <| R.u 1 rfl <| R.nil ?_
      refine R.reg rfl <| R.u 1 rfl <| R.nil ?_
      refine R.condF rfl rfl ?_
      refine R.reg rfl <| R.u 1 rfl <| R.q (q.add (r := ((j + 1 : Nat) : Int)) rfl rfl (wr (by omega))) rfl <| R.u 1 rfl <| R.nil ?_
      refine R.back (j + 1, vt, ts) rfl (by (exact ⟨by omega, by rw [filter_no hx1 (by simpa using ‹decide (_ ∈ thingsL m.Writs) = false›), HT]⟩)) §28 ⟨rfl, rfl, rfl, rfl, rfl, trivial⟩ (fun _ => Wd.pik [0, 1, 2, 3, 4, 5] [0, 1, 2, 3, 4, 5, 6, 7] rfl rfl rfl)
  · refine R.q (q.lss rfl rfl (decide_eq_false (by omega))) rfl <| R.nil ?_
    refine R.condF rfl rfl ?_
    refine R.reg rfl <| R.u 1 rfl <| R.nil ?_
    refine R.row0 (α := Held) 93 ?_
    refine R.loop (fun g_ : Nat × Value × (List Held) => [(1, .pointer (some ⟨b1, 0, none⟩)), (2, .pointer (some ⟨b2, 0, none⟩)), (3, .pointer (some ⟨b3, 0, none⟩)), (4, v1), (7, .int .i64 (g_.1 : Int))]) (fun g_ : Nat × Value × (List Held) => [Res.row 93 g_.2.1 (g_.2.2 : List Held), Res.row 74 vt (ts : List Thing), Res.row 3 v1 ((thingsL m.Writs) : List Int), Res.box b3 [m_W, vt, g_.2.1, .slice none 0 0, .int .i64 m.NextWrit, .int .i64 m.NextThing] 30, Res.box b2 §0 30, Res.box b1 [m_W, m_T, m_H, m_N, .int .i64 m.NextWrit, .int .i64 m.NextThing] 30, Res.held w own]) (fun g_ : Nat × Value × (List Held) => §6) (fun g_ : Nat × Value × (List Held) => g_.1 ≤ m.Held.length ∧ g_.2.2 = (m.Held.take g_.1).filter (fun h => !decide (findW m.Writs h.Writ < 0))) (fun g_ : Nat × Value × (List Held) => m.Held.length - g_.1) (0, (.slice none 0 0), []) rfl (by exact ⟨by omega, by simp⟩) ⟨rfl, rfl, rfl, rfl, rfl, trivial⟩ (fun _ => Wd.pick [0, 1, 2, 3, 4, 5, 6] [0, 1, 2, 3, 4, 5, 6, 7] rfl rfl rfl) ?_
    rintro ⟨i, vh, hs⟩ ⟨hi1, HH⟩
    dsimp only at *
    have hhl : hs.length ≤ i := by rw [HH]; exact filter_to _ _ _
    refine R.reg rfl <| R.u 1 rfl <| R.q (q.fld (off' := 2) rfl tFld_30_2 rfl) rfl <| R.q (q.ld 5 rfl rfl tOne_27 rfl) rfl <| R.q (q.len' §25 rfl Tryz.underlying27) rfl <| ?_
    by_cases h3 : i < m.Held.length
    · refine R.q (q.lss rfl rfl (decide_eq_true (by omega))) rfl <| R.nil ?_
      refine R.condT rfl rfl ?_
      obtain ⟨x2, hx2⟩ : ∃ z, m.Held[i]? = some z := ⟨_, List.getElem?_eq_getElem (by omega)⟩
      rcases findW_cases m.Writs x2.Writ with ⟨c1f, c1n⟩ | ⟨c1j, c1h, c1f, c1e, c1m⟩
      · refine R.regQ rfl mixed §21 <| Q.q §14 rfl <| Q.q (q.ld 5 rfl rfl tOne_25 rfl) rfl <| Q.q (q.fld (off' := 2) rfl tFld_30_2 rfl) rfl <| Q.q (q.ld 5 rfl rfl tOne_27 rfl) rfl <| Q.u 1 rfl <| Q.q (q.idx (i := i) §25 rfl rfl tSl_27 rfl hx2) rfl <| Q.q (q.fldE (j' := 2) §25 hx2 rfl tFld_93_1 rfl) rfl <| Q.q (q.ldE §25 hx2 rfl tOne_3 rfl) rfl <| Q.c (q.call eg_27 rfl rfl (fun w hw => (cv (congrArg (Value.int .i64) c1f) (findRef_any _ (m.Writs) (x2.Writ) w (§20 w hw) )))) rfl <| Q.q (q.geq (b := false) rfl rfl (by decide)) rfl <| Q.nil ?_
        refine R.condF rfl rfl ?_
        refine R.reg rfl <| R.u 1 rfl <| R.q (q.add (r := ((i + 1 : Nat) : Int)) rfl rfl (wr (by omega))) rfl <| R.u 1 rfl <| R.nil ?_
        refine R.back (i + 1, vh, hs) rfl (by (exact ⟨by omega, by rw [filter_no hx2 (by first | (simp; omega) | simpa using c1f), HH]⟩)) §28 ⟨rfl, rfl, rfl, rfl, rfl, trivial⟩ (fun _ => Wd.pik [0, 1, 2, 3, 4, 5, 6] [0, 1, 2, 3, 4, 5, 6, 7] rfl rfl rfl)
      · refine R.regQ rfl mixed §21 <| Q.q §14 rfl <| Q.q (q.ld 5 rfl rfl tOne_25 rfl) rfl <| Q.q (q.fld (off' := 2) rfl tFld_30_2 rfl) rfl <| Q.q (q.ld 5 rfl rfl tOne_27 rfl) rfl <| Q.u 1 rfl <| Q.q (q.idx (i := i) §25 rfl rfl tSl_27 rfl hx2) rfl <| Q.q (q.fldE (j' := 2) §25 hx2 rfl tFld_93_1 rfl) rfl <| Q.q (q.ldE §25 hx2 rfl tOne_3 rfl) rfl <| Q.c (q.call eg_27 rfl rfl (fun w hw => (cv (congrArg (Value.int .i64) c1f) (findRef_any _ (m.Writs) (x2.Writ) w (§20 w hw) )))) rfl <| Q.q (q.geq rfl rfl (decide_eq_true (by omega))) rfl <| Q.nil ?_
        refine R.condT rfl rfl ?_
        refine R.regD (fuel := 11) (Wd w (blks [] ++ own) [Res.row 74 vt (ts : List Thing), Res.row 3 v1 ((thingsL m.Writs) : List Int), Res.box b2 §0 30, Res.box b1 [m_W, m_T, m_H, m_N, .int .i64 m.NextWrit, .int .i64 m.NextThing] 30, Res.held w own] §6) rfl mixed rfl ?_
        refine D.q (i := 0) rfl §21 §16 rfl (q.fld (off' := 2) rfl tFld_30_2 rfl) rfl <| D.q (i := 2) rfl §21 §16 rfl (q.fld (off' := 2) rfl tFld_30_2 rfl) rfl <| D.q (i := 3) rfl §21 §16 rfl (q.ld 3 rfl rfl tOne_27 rfl) rfl <| D.q (i := 4) rfl §21 §16 rfl (q.mv rfl) rfl <| D.q (i := 5) rfl §21 §16 rfl (q.idx (i := i) §25 rfl rfl tSl_27 rfl hx2) rfl <| D.q (i := 6) rfl §21 §16 rfl (q.ldES (ds := [.int .i64 x2.Place.Holder, .int .i64 x2.Place.Slot, .int .i64 x2.Writ]) §25 hx2 rfl tAgg_93 rfl) rfl <| ?_
        refine D.two (i := 1) (j := 7) §21 rfl rfl ?_ ?_
        · refine Do.s (s.c (Qt.a (q.ld 3 rfl rfl tOne_27 rfl)) rfl) (fun _ => §16) rfl fun _ => ?_
          refine D.one (i := 7) §21 rfl ?_
          refine Do.s (s.bs (l := ([x2] : List Held)) tSl_27 tZero_93 rfl rfl rfl rfl rfl rfl rfl) (fun _ => §9) rfl fun b6 => ?_
          refine D.one (i := 8) §21 rfl ?_
          refine Do.s (s.app (l2 := [x2]) 1 _ rfl rfl rfl §24 tApp_27 §5 §5 (fun _ => rfl) rfl) (fun _ => §9) rfl fun v4 => ?_
          refine D.q (i := 9) rfl §21 §9 rfl (q.fld (off' := 2) rfl tFld_30_2 rfl) rfl <| ?_
          refine D.one (i := 10) §21 rfl ?_
          refine Do.s (s.stV (us := [v4]) (cs' := [m_W, vt, v4, .slice none 0 0, .int .i64 m.NextWrit, .int .i64 m.NextThing]) 4 _ rfl rfl rfl (fun w hw => Sl.cells1 §18) (.inr ⟨tOne_27, rfl⟩) (fun w hw => (one_cons (Sl.one §18) one_nil)) rfl rfl rfl) (fun _ => §9) rfl fun _ => ?_
          refine D.done §21 <| ?_
          refine R.reg rfl <| R.u 1 rfl <| R.q (q.add (r := ((i + 1 : Nat) : Int)) rfl rfl (wr (by omega))) rfl <| R.u 1 rfl <| R.nil ?_
          refine R.back (i + 1, v4, (hs ++ ([x2]))) rfl (by (exact ⟨by omega, by rw [filter_yes hx2 (by first | (simp; omega) | simpa using c1f), HH]⟩)) §28 ⟨rfl, rfl, rfl, rfl, rfl, trivial⟩ (fun _ => Wd.pik [1, 2, 3, 4, 5, 6, 7] [0, 1, 2, 3, 4, 5, 6, 7] rfl rfl rfl)
        · refine Do.s (s.bs (l := ([x2] : List Held)) tSl_27 tZero_93 rfl rfl rfl rfl rfl rfl rfl) (fun _ => §9) rfl fun b7 => ?_
          refine D.one (i := 1) §21 rfl ?_
          refine Do.s (s.c (Qt.a (q.ld 4 rfl rfl tOne_27 rfl)) rfl) (fun _ => §9) rfl fun _ => ?_
          refine D.one (i := 8) §21 rfl ?_
          refine Do.s (s.app (l2 := [x2]) 1 _ rfl rfl rfl §24 tApp_27 §5 §5 (fun _ => rfl) rfl) (fun _ => §9) rfl fun v5 => ?_
          refine D.q (i := 9) rfl §21 §9 rfl (q.fld (off' := 2) rfl tFld_30_2 rfl) rfl <| ?_
          refine D.one (i := 10) §21 rfl ?_
          refine Do.s (s.stV (us := [v5]) (cs' := [m_W, vt, v5, .slice none 0 0, .int .i64 m.NextWrit, .int .i64 m.NextThing]) 4 _ rfl rfl rfl (fun w hw => Sl.cells1 §18) (.inr ⟨tOne_27, rfl⟩) (fun w hw => (one_cons (Sl.one §18) one_nil)) rfl rfl rfl) (fun _ => §9) rfl fun _ => ?_
          refine D.done §21 <| ?_
          refine R.reg rfl <| R.u 1 rfl <| R.q (q.add (r := ((i + 1 : Nat) : Int)) rfl rfl (wr (by omega))) rfl <| R.u 1 rfl <| R.nil ?_
          refine R.back (i + 1, v5, (hs ++ ([x2]))) rfl (by (exact ⟨by omega, by rw [filter_yes hx2 (by first | (simp; omega) | simpa using c1f), HH]⟩)) §28 ⟨rfl, rfl, rfl, rfl, rfl, trivial⟩ (fun _ => Wd.pik [1, 2, 3, 4, 5, 6, 7] [0, 1, 2, 3, 4, 5, 6, 7] rfl rfl rfl)
    · refine R.q (q.lss rfl rfl (decide_eq_false (by omega))) rfl <| R.nil ?_
      refine R.condF rfl rfl ?_
      refine R.reg rfl <| R.u 1 rfl <| R.nil ?_
      refine R.reg rfl <| R.u 1 rfl <| R.nil ?_
      refine R.row0 (α := Note) 52 ?_
      refine R.loop (fun g_ : Nat × Nat × Value × (List Writ) × Value × (List Note) => [(1, .pointer (some ⟨b1, 0, none⟩)), (2, .pointer (some ⟨b2, 0, none⟩)), (3, .pointer (some ⟨b3, 0, none⟩)), (4, v1), (8, .int .i64 (g_.2.1 : Int)), (9, .int .i64 (g_.1 : Int))]) (fun g_ : Nat × Nat × Value × (List Writ) × Value × (List Note) => [Res.row 52 g_.2.2.2.2.1 (g_.2.2.2.2.2 : List Note), Res.row 93 vh (hs : List Held), Res.row 74 vt (ts : List Thing), Res.row 3 v1 ((thingsL m.Writs) : List Int), Res.box b3 [g_.2.2.1, vt, vh, g_.2.2.2.2.1, .int .i64 m.NextWrit, .int .i64 m.NextThing] 30, Res.box b2 §0 30, Res.box b1 [m_W, m_T, m_H, m_N, .int .i64 m.NextWrit, .int .i64 m.NextThing] 30, Res.held w own]) (fun g_ : Nat × Nat × Value × (List Writ) × Value × (List Note) => [Res.ls g_.2.2.1 (g_.2.2.2.1 : List Writ), Res.ls m_W (m.Writs : List Writ), Res.ls m_T (m.Things : List Thing), Res.ls m_H (m.Held : List Held), Res.ls m_N (m.Notes : List Note), Res.ls v_rW (r.Writs : List Writ), Res.ls v_rT (r.Things : List Thing), Res.ls v_rH (r.Held : List Held), Res.ls v_rN (r.Notes : List Note)]) (fun g_ : Nat × Nat × Value × (List Writ) × Value × (List Note) => g_.1 ≤ m.Notes.length ∧ g_.2.2.2.2.2 = keepN m.Writs (thingsL m.Writs) (m.Notes.take g_.1) ∧ g_.2.2.2.1 = (lostN m.Writs (thingsL m.Writs) (m.Notes.take g_.1)).foldl without m.Writs ∧ g_.2.1 = (lostN m.Writs (thingsL m.Writs) (m.Notes.take g_.1)).length) (fun g_ : Nat × Nat × Value × (List Writ) × Value × (List Note) => m.Notes.length - g_.1) (0, 0, m_W, m.Writs, (.slice none 0 0), []) rfl (by exact ⟨by omega, by simp [keepN], by simp [lostN], by simp [lostN]⟩) ⟨rfl, rfl, rfl, rfl, rfl, rfl, trivial⟩ (fun _ => Wd.pick [0, 1, 2, 3, 4, 5, 6, 7] [0, 0, 1, 2, 3, 4, 5, 6, 7] rfl rfl rfl) ?_
      rintro ⟨k, c, vw, ws, vn, ns⟩ ⟨hk1, HN, HW, HC⟩
      dsimp only at *
      have hkl := keep_lost m.Writs (thingsL m.Writs) (m.Notes.take k); rw [← HN, ← HC, List.length_take] at hkl; have hwt : TreeOk ws := by rw [HW]; exact fold_tree _ _ hpm.tree
      have hwl : ws.length ≤ 2000 := by rw [HW]; exact Nat.le_trans (fold_len _ _) hok.wl
      refine R.reg rfl <| R.u 1 rfl <| R.q (q.fld (off' := 3) rfl tFld_30_3 rfl) rfl <| R.q (q.ld 6 rfl rfl tOne_28 rfl) rfl <| R.q (q.len' (fun _ => Wd.fls 4 rfl) rfl Tryz.underlying28) rfl <| ?_
      by_cases h4 : k < m.Notes.length
      · refine R.q (q.lss rfl rfl (decide_eq_true (by omega))) rfl <| R.nil ?_
        refine R.condT rfl rfl ?_
        refine R.reg rfl <| R.q (q.fld (off' := 3) rfl tFld_30_3 rfl) rfl <| R.q (q.ld 6 rfl rfl tOne_28 rfl) rfl <| R.u 1 rfl <| ?_
        obtain ⟨x3, hx3⟩ : ∃ z, m.Notes[k]? = some z := ⟨_, List.getElem?_eq_getElem (by omega)⟩
        refine R.q (q.idx (i := k) (fun _ => Wd.fls 4 rfl) rfl rfl tSl_28 rfl hx3) rfl <| R.q (q.ldES (ds := [.int .i64 x3.Port, .string x3.Data, .int .i64 x3.Badge, .int .i64 x3.Writ]) (fun _ => Wd.fls 4 rfl) hx3 rfl tAgg_52 rfl) rfl <| ?_
        refine R.s rfl (s.alloc (cs := [.int .i64 0, .string (⟨#[]⟩), .int .i64 0, .int .i64 0]) tZero_52 rfl rfl) fun b8 => ?_
        refine R.s rfl (s.st (us := [.int .i64 x3.Port, .string x3.Data, .int .i64 x3.Badge, .int .i64 x3.Writ]) (cs' := [.int .i64 x3.Port, .string x3.Data, .int .i64 x3.Badge, .int .i64 x3.Writ]) 0 _ rfl rfl rfl rfl (.inl tAgg_52) rfl rfl rfl rfl) fun _ => ?_
        refine R.nil ?_
        refine R.reg rfl <| R.q §14 rfl <| R.q (q.ld 7 rfl rfl tOne_25 rfl) rfl <| R.q (q.fld (off' := 3) rfl tFld_52_3 rfl) rfl <| R.q (q.ld 0 rfl rfl tOne_3 rfl) rfl <| ?_
        rcases findW_cases m.Writs x3.Writ with ⟨c2f, c2n⟩ | ⟨c2j, c2h, c2f, c2e, c2m⟩
        · refine R.c (q.call eg_27 rfl rfl (fun w hw => (cv (congrArg (Value.int .i64) c2f) (findRef_any _ (m.Writs) (x3.Writ) w ((fun _ => Wd.fls 1 rfl) w hw) )))) rfl <| R.q (q.lss (b := true) rfl rfl (by decide)) rfl <| R.nil ?_
          refine R.condT rfl rfl ?_
          refine R.reg rfl <| R.q (q.fld (off' := 3) rfl tFld_52_3 rfl) rfl <| ?_
          refine R.s rfl (s.st (us := [.int .i64 0]) (cs' := [.int .i64 x3.Port, .string x3.Data, .int .i64 x3.Badge, .int .i64 0]) 0 _ rfl rfl rfl rfl (.inr ⟨tOne_3, rfl⟩) rfl rfl rfl rfl) fun _ => ?_
          refine R.nil ?_
          refine R.reg rfl <| R.u 1 rfl <| R.q (q.fld (off' := 0) rfl tFld_52_0 rfl) rfl <| R.q (q.ld 0 rfl rfl tOne_3 rfl) rfl <| ?_
          rcases Bool.eq_false_or_eq_true (decide (x3.Port ∈ (thingsL m.Writs))) with h5 | h5
          · refine R.c (q.call eg_81 rfl rfl (fun w hw => (cv (congrArg Value.bool h5) (has_any _ ((thingsL m.Writs)) (x3.Port) w ((fun _ => Wd.row 4 rfl) w hw) )))) rfl <| R.u 1 rfl <| R.nil ?_
            refine R.reg rfl <| R.u 1 rfl <| R.nil ?_
            refine R.condT rfl rfl ?_
            refine R.reg rfl <| R.q (q.fld (off' := 3) rfl tFld_30_3 rfl) rfl <| R.q (q.ld 5 rfl rfl tOne_28 rfl) rfl <| R.q (q.ldS 0 rfl rfl tAgg_52) rfl <| ?_
            refine R.s rfl (s.bs (l := ([(⟨x3.Port, x3.Data, x3.Badge, 0⟩ : Note)] : List Note)) tSl_28 tZero_52 rfl rfl rfl rfl rfl rfl rfl) fun b9 => ?_
            refine R.s rfl (s.app (l2 := [(⟨x3.Port, x3.Data, x3.Badge, 0⟩ : Note)]) 2 _ rfl rfl rfl §24 tApp_28 §5 §5 (fun _ => rfl) rfl) fun v6 => ?_
            refine R.q (q.fld (off' := 3) rfl tFld_30_3 rfl) rfl <| ?_
            refine R.s rfl (s.stV (us := [v6]) (cs' := [vw, vt, vh, v6, .int .i64 m.NextWrit, .int .i64 m.NextThing]) 6 _ rfl rfl rfl (fun w hw => Sl.cells1 ((fun _ => Wd.row 2 rfl) w hw)) (.inr ⟨tOne_28, rfl⟩) (fun w hw => (one_cons (Sl.one ((fun _ => Wd.row 2 rfl) w hw)) one_nil)) rfl rfl rfl) fun _ => ?_
            refine R.nil ?_
            refine R.reg rfl <| R.u 1 rfl <| R.q §22 rfl <| R.u 1 rfl <| R.nil ?_
            refine R.back (k + 1, c, vw, ws, v6, (ns ++ ([(⟨x3.Port, x3.Data, x3.Badge, 0⟩ : Note)]))) rfl §13 §28 ⟨rfl, rfl, rfl, rfl, rfl, rfl, trivial⟩ (fun _ => Wd.pik [2, 3, 4, 5, 6, 7, 8, 9] [0, 1, 2, 3, 4, 5, 6, 7, 8] rfl rfl rfl)
          · refine R.c (q.call eg_81 rfl rfl (fun w hw => (cv (congrArg Value.bool h5) (has_any _ ((thingsL m.Writs)) (x3.Port) w ((fun _ => Wd.row 4 rfl) w hw) )))) rfl <| R.u 1 rfl <| R.nil ?_
            refine R.reg rfl <| R.u 1 rfl <| R.nil ?_
            refine R.condF rfl rfl ?_
            refine R.reg rfl <| R.q (q.fld (off' := 3) rfl tFld_52_3 rfl) rfl <| R.q (q.ld 0 rfl rfl tOne_3 rfl) rfl <| R.q (q.gtr (b := false) rfl rfl (by decide)) rfl <| R.nil ?_
            refine R.condF rfl rfl ?_
            refine R.reg rfl <| R.u 1 rfl <| R.q §22 rfl <| R.u 1 rfl <| R.nil ?_
            refine R.back (k + 1, c, vw, ws, vn, ns) rfl §12 §28 ⟨rfl, rfl, rfl, rfl, rfl, rfl, trivial⟩ (fun _ => Wd.pik [1, 2, 3, 4, 5, 6, 7, 8] [0, 1, 2, 3, 4, 5, 6, 7, 8] rfl rfl rfl)
        · refine R.c (q.call eg_27 rfl rfl (fun w hw => (cv (congrArg (Value.int .i64) c2f) (findRef_any _ (m.Writs) (x3.Writ) w ((fun _ => Wd.fls 1 rfl) w hw) )))) rfl <| R.q (q.lss rfl rfl (decide_eq_false (by omega))) rfl <| R.nil ?_
          refine R.condF rfl rfl ?_
          refine R.reg rfl <| R.u 1 rfl <| R.q (q.fld (off' := 0) rfl tFld_52_0 rfl) rfl <| R.q (q.ld 0 rfl rfl tOne_3 rfl) rfl <| ?_
          rcases Bool.eq_false_or_eq_true (decide (x3.Port ∈ (thingsL m.Writs))) with h6 | h6
          · refine R.c (q.call eg_81 rfl rfl (fun w hw => (cv (congrArg Value.bool h6) (has_any _ ((thingsL m.Writs)) (x3.Port) w ((fun _ => Wd.row 4 rfl) w hw) )))) rfl <| R.u 1 rfl <| R.nil ?_
            refine R.reg rfl <| R.u 1 rfl <| R.nil ?_
            refine R.condT rfl rfl ?_
            refine R.reg rfl <| R.q (q.fld (off' := 3) rfl tFld_30_3 rfl) rfl <| R.q (q.ld 5 rfl rfl tOne_28 rfl) rfl <| R.q (q.ldS 0 rfl rfl tAgg_52) rfl <| ?_
            refine R.s rfl (s.bs (l := ([x3] : List Note)) tSl_28 tZero_52 rfl rfl rfl rfl rfl rfl rfl) fun b10 => ?_
            refine R.s rfl (s.app (l2 := [x3]) 2 _ rfl rfl rfl §24 tApp_28 §5 §5 (fun _ => rfl) rfl) fun v7 => ?_
            refine R.q (q.fld (off' := 3) rfl tFld_30_3 rfl) rfl <| ?_
            refine R.s rfl (s.stV (us := [v7]) (cs' := [vw, vt, vh, v7, .int .i64 m.NextWrit, .int .i64 m.NextThing]) 6 _ rfl rfl rfl (fun w hw => Sl.cells1 ((fun _ => Wd.row 2 rfl) w hw)) (.inr ⟨tOne_28, rfl⟩) (fun w hw => (one_cons (Sl.one ((fun _ => Wd.row 2 rfl) w hw)) one_nil)) rfl rfl rfl) fun _ => ?_
            refine R.nil ?_
            refine R.reg rfl <| R.u 1 rfl <| R.q §22 rfl <| R.u 1 rfl <| R.nil ?_
            refine R.back (k + 1, c, vw, ws, v7, (ns ++ ([x3]))) rfl §13 §28 ⟨rfl, rfl, rfl, rfl, rfl, rfl, trivial⟩ (fun _ => Wd.pik [2, 3, 4, 5, 6, 7, 8, 9] [0, 1, 2, 3, 4, 5, 6, 7, 8] rfl rfl rfl)
          · refine R.c (q.call eg_81 rfl rfl (fun w hw => (cv (congrArg Value.bool h6) (has_any _ ((thingsL m.Writs)) (x3.Port) w ((fun _ => Wd.row 4 rfl) w hw) )))) rfl <| R.u 1 rfl <| R.nil ?_
            refine R.reg rfl <| R.u 1 rfl <| R.nil ?_
            refine R.condF rfl rfl ?_
            refine R.reg rfl <| R.q (q.fld (off' := 3) rfl tFld_52_3 rfl) rfl <| R.q (q.ld 0 rfl rfl tOne_3 rfl) rfl <| ?_
            by_cases h7 : 0 < x3.Writ
            · refine R.q (q.gtr rfl rfl (decide_eq_true (by omega))) rfl <| R.nil ?_
              refine R.condT rfl rfl ?_
              refine R.reg rfl <| R.q §14 rfl <| R.q (q.ld 5 rfl rfl tOne_25 rfl) rfl <| R.q (q.fld (off' := 3) rfl tFld_52_3 rfl) rfl <| R.q (q.ld 0 rfl rfl tOne_3 rfl) rfl <| ?_
              refine R.s rfl (s.callO eg_42 rfl rfl (fun w hw => withoutG_any _ (ws) (x3.Writ) w (§20 w hw) (by first | omega | assumption | (simp; done) | (simp; omega) | (dsimp only [addW]; omega)) (by first | assumption | exact hI.tree | exact hP.tree)) rfl) fun v8 => ?_
              refine R.q §14 rfl <| ?_
              refine R.s rfl (s.stV (us := [v8]) (cs' := [v8, vt, vh, vn, .int .i64 m.NextWrit, .int .i64 m.NextThing]) 6 _ rfl rfl rfl (fun w hw => Sl.cells1 (§24 w hw)) (.inr ⟨tOne_25, rfl⟩) (fun w hw => (one_cons (Sl.one (§24 w hw)) one_nil)) rfl rfl rfl) fun _ => ?_
              refine R.nil ?_
              refine R.reg rfl <| R.u 1 rfl <| R.q (q.add (r := ((c + 1 : Nat) : Int)) rfl rfl (wr (by omega))) rfl <| R.u 1 rfl <| R.nil ?_
              refine R.reg rfl <| R.u 1 rfl <| R.q §22 rfl <| R.u 1 rfl <| R.nil ?_
              refine R.mp (B' := [Res.box b8 [.int .i64 x3.Port, .string x3.Data, .int .i64 x3.Badge, .int .i64 x3.Writ] 52, Res.row 52 vn (ns : List Note), Res.row 93 vh (hs : List Held), Res.row 74 vt (ts : List Thing), Res.row 3 v1 ((thingsL m.Writs) : List Int), Res.box b3 [v8, vt, vh, vn, .int .i64 m.NextWrit, .int .i64 m.NextThing] 30, Res.box b2 §0 30, Res.box b1 [m_W, m_T, m_H, m_N, .int .i64 m.NextWrit, .int .i64 m.NextThing] 30, Res.held w own]) §26 ?_
              refine R.back (k + 1, c + 1, v8, (without ws x3.Writ), vn, ns) rfl (by (have e0 := hx3; first | (have e1 := fixN_yes (ws := m.Writs) c2f; have e2 := lost_snoc e0 (by rw [e1]; exact of_decide_eq_false (by assumption)) (by rw [e1]; assumption); rw [e1] at e2; exact ⟨by omega, by rw [e2.1, HN], by rw [e2.2, List.foldl_append, ← HW]; rfl, by rw [e2.2, List.length_append, ← HC]; rfl⟩) | (exfalso; omega))) §28 ⟨rfl, rfl, rfl, rfl, rfl, rfl, trivial⟩ (fun _ => Wd.pik [1, 2, 3, 4, 5, 6, 7, 8] [0, 2, 3, 4, 5, 6, 7, 8, 9] rfl rfl rfl)
            · refine R.q (q.gtr rfl rfl (decide_eq_false (by omega))) rfl <| R.nil ?_
              refine R.condF rfl rfl ?_
              refine R.reg rfl <| R.u 1 rfl <| R.q §22 rfl <| R.u 1 rfl <| R.nil ?_
              refine R.back (k + 1, c, vw, ws, vn, ns) rfl §12 §28 ⟨rfl, rfl, rfl, rfl, rfl, rfl, trivial⟩ (fun _ => Wd.pik [1, 2, 3, 4, 5, 6, 7, 8] [0, 1, 2, 3, 4, 5, 6, 7, 8] rfl rfl rfl)
      · refine R.q (q.lss rfl rfl (decide_eq_false (by omega))) rfl <| R.nil ?_
        refine R.condF rfl rfl ?_
        refine R.reg rfl <| R.u 1 rfl <| ?_
        by_cases h8 : c = 0
        · refine R.q (q.eql rfl rfl (beq_iff_eq.2 (by omega))) rfl <| R.nil ?_
          refine R.condT rfl rfl ?_
          refine R.reg rfl <| R.q (q.ldS 4 rfl rfl tAgg_30) rfl <| ?_
          refine R.s rfl (s.stV (us := [vw, vt, vh, vn, .int .i64 m.NextWrit, .int .i64 m.NextThing]) (cs' := [vw, vt, vh, vn, .int .i64 m.NextWrit, .int .i64 m.NextThing]) 5 _ rfl rfl rfl (fun _ _ => rfl) (.inl tAgg_30) (fun w hw => (one_cons (Sl.one (§20 w hw)) (one_cons (Sl.one ((fun _ => Wd.row 2 rfl) w hw)) (one_cons (Sl.one §18) (one_cons (Sl.one (§24 w hw)) (one_cons rfl (one_cons rfl one_nil))))))) rfl rfl rfl) fun _ => ?_
          refine R.nil ?_
          refine R.mp (B' := [Res.row 52 vn (ns : List Note), Res.row 93 vh (hs : List Held), Res.row 3 v1 ((thingsL m.Writs) : List Int), Res.box b3 [vw, vt, vh, vn, .int .i64 m.NextWrit, .int .i64 m.NextThing] 30, Res.box b2 [vw, vt, vh, vn, .int .i64 m.NextWrit, .int .i64 m.NextThing] 30, Res.box b1 [m_W, m_T, m_H, m_N, .int .i64 m.NextWrit, .int .i64 m.NextThing] 30, Res.held w own]) (fun _ hw => hw.lendL 2 _ rfl rfl) ?_
          refine R.mp (B' := [Res.row 52 vn (ns : List Note), Res.row 3 v1 ((thingsL m.Writs) : List Int), Res.box b3 [vw, vt, vh, vn, .int .i64 m.NextWrit, .int .i64 m.NextThing] 30, Res.box b2 [vw, vt, vh, vn, .int .i64 m.NextWrit, .int .i64 m.NextThing] 30, Res.box b1 [m_W, m_T, m_H, m_N, .int .i64 m.NextWrit, .int .i64 m.NextThing] 30, Res.held w own]) (fun _ hw => hw.lendL 1 _ rfl rfl) ?_
          refine R.mp (B' := [Res.row 3 v1 ((thingsL m.Writs) : List Int), Res.box b3 [vw, vt, vh, vn, .int .i64 m.NextWrit, .int .i64 m.NextThing] 30, Res.box b2 [vw, vt, vh, vn, .int .i64 m.NextWrit, .int .i64 m.NextThing] 30, Res.box b1 [m_W, m_T, m_H, m_N, .int .i64 m.NextWrit, .int .i64 m.NextThing] 30, Res.held w own]) §26 ?_
          have hz : sweepR r = (⟨ws, ts, hs, ns, m.NextWrit, m.NextThing⟩ : Realm) := by (rw [List.take_of_length_le (by omega)] at HT HH HN HW HC; have hl0 : lostN m.Writs (thingsL m.Writs) m.Notes = [] := List.eq_nil_of_length_eq_zero (by omega); rw [hl0] at HW; rw [← HS, sweepR_done (by show (lostN _ _ _).length = 0; rw [hl0]; rfl)]; unfold sweepS; rw [← HN, ← HT, ← HH, HW]; rfl)
          rw [hz]
          exact R.w1 (vw, vt, vh, vn) [4] [3, 2, 1, 0] rfl Tryz.results43 (RV.cell 2 rfl rfl tAgg_30) rfl rfl rfl rfl
        · refine R.q (q.eql rfl rfl (beq_eq_false_iff_ne.2 (by omega))) rfl <| R.nil ?_
          refine R.condF rfl rfl ?_
          refine R.reg rfl <| R.q (q.ldS 4 rfl rfl tAgg_30) rfl <| ?_
          refine R.s rfl (s.stV (us := [vw, vt, vh, vn, .int .i64 m.NextWrit, .int .i64 m.NextThing]) (cs' := [vw, vt, vh, vn, .int .i64 m.NextWrit, .int .i64 m.NextThing]) 6 _ rfl rfl rfl (fun _ _ => rfl) (.inl tAgg_30) (fun w hw => (one_cons (Sl.one (§20 w hw)) (one_cons (Sl.one ((fun _ => Wd.row 2 rfl) w hw)) (one_cons (Sl.one §18) (one_cons (Sl.one (§24 w hw)) (one_cons rfl (one_cons rfl one_nil))))))) rfl rfl rfl) fun _ => ?_
          refine R.nil ?_
          refine R.mp (B' := [Res.row 52 vn (ns : List Note), Res.row 93 vh (hs : List Held), Res.row 3 v1 ((thingsL m.Writs) : List Int), Res.box b3 [vw, vt, vh, vn, .int .i64 m.NextWrit, .int .i64 m.NextThing] 30, Res.box b2 §0 30, Res.box b1 [vw, vt, vh, vn, .int .i64 m.NextWrit, .int .i64 m.NextThing] 30, Res.held w own]) (fun _ hw => hw.lendL 2 _ rfl rfl) ?_
          refine R.mp (B' := [Res.row 52 vn (ns : List Note), Res.row 3 v1 ((thingsL m.Writs) : List Int), Res.box b3 [vw, vt, vh, vn, .int .i64 m.NextWrit, .int .i64 m.NextThing] 30, Res.box b2 §0 30, Res.box b1 [vw, vt, vh, vn, .int .i64 m.NextWrit, .int .i64 m.NextThing] 30, Res.held w own]) (fun _ hw => hw.lendL 1 _ rfl rfl) ?_
          refine R.mp (B' := [Res.row 3 v1 ((thingsL m.Writs) : List Int), Res.box b3 [vw, vt, vh, vn, .int .i64 m.NextWrit, .int .i64 m.NextThing] 30, Res.box b2 §0 30, Res.box b1 [vw, vt, vh, vn, .int .i64 m.NextWrit, .int .i64 m.NextThing] 30, Res.held w own]) §26 ?_
          refine R.back ((⟨ws, ts, hs, ns, m.NextWrit, m.NextThing⟩ : Realm), vw, vt, vh, vn) rfl (by (rw [List.take_of_length_le (by omega)] at HT HH HN HW HC; have hl : lostS m = lostN m.Writs (thingsL m.Writs) m.Notes := rfl; have e : sweepN m = (⟨ws, ts, hs, ns, m.NextWrit, m.NextThing⟩ : Realm) := (by unfold sweepN; rw [hl, ← HW]; unfold sweepS; rw [← HN, ← HT, ← HH]); exact Eq.mp (congrArg (fun q : Realm => Ok q ∧ Pre q ∧ sweepR q = sweepR r) e) ⟨hok.sweepN, hpm.sw (ids := lostS m) (fun j hj => hj), (sweepR_next (by rw [hl, ← HC]; assumption)).symm.trans HS⟩)) §28 ⟨rfl, rfl, trivial⟩ (fun _ => Wd.pik [2, 3, 4] [3, 2, 1, 0, 8, 9, 10, 11] rfl rfl rfl)

theorem dropD_any (v_rW v_rT v_rH v_rN : Value) (r : Realm) (p : Place) (w : World) (own : List Nat) (H : Wd w (blks [] ++ own) ([] ++ [Res.held w own]) §7 w) (hk : Ok r) (hI : Inv r) : Calls Tryz.prog 56 #[.agg #[v_rW, v_rT, v_rH, v_rN, .int .i64 r.NextWrit, .int .i64 r.NextThing], .agg #[.int .i64 p.Holder, .int .i64 p.Slot]] w fun e w' => ∃ z : Value × Value × Value × Value, e = .returned (.tuple #[.agg #[z.1, z.2.1, z.2.2.1, z.2.2.2, .int .i64 ((((dropR r p)).1).NextWrit), .int .i64 ((((dropR r p)).1).NextThing)], .int .i64 (((dropR r p)).2)]) ∧ Wd w (blks [] ++ own) ([] ++ [Res.held w own]) [Res.ls z.1 ((((dropR r p)).1).Writs : List Writ), Res.ls z.2.1 ((((dropR r p)).1).Things : List Thing), Res.ls z.2.2.1 ((((dropR r p)).1).Held : List Held), Res.ls z.2.2.2 ((((dropR r p)).1).Notes : List Note)] w' := by
  have m_r_Writs := H.lenF 0 rfl
  have m_r_Things := H.lenF 1 rfl
  have m_r_Held := H.lenF 2 rfl
  have m_r_Notes := H.lenF 3 rfl
  have bw := hk.wl; have bt := hk.tl; have bh := hk.hl; have bn := hk.nl; have bw0 := hk.w0; have bw1 := hk.w1; have bt0 := hk.t0; have bt1 := hk.t1
  have gn := getR_nonneg r p
  have hkd := hk.wo (getR r p).1.ID
  refine R.enterN (n := 26) (vs := [.agg #[v_rW, v_rT, v_rH, v_rN, .int .i64 r.NextWrit, .int .i64 r.NextThing], .agg #[.int .i64 p.Holder, .int .i64 p.Slot]]) (B := [Res.held w own]) [(0, .agg #[v_rW, v_rT, v_rH, v_rN, .int .i64 r.NextWrit, .int .i64 r.NextThing]), (1, .agg #[.int .i64 p.Holder, .int .i64 p.Slot])] Tryz.func56 rfl rfl rfl rfl H ?_
  refine R.reg rfl <| ?_
  refine R.s rfl (s.box (cs := §17) rfl rfl rfl) fun b1 => ?_
  refine R.s rfl (s.box (cs := §15) rfl rfl rfl) fun b2 => ?_
  refine R.s rfl (s.alloc (cs := §0) tZero_30 rfl rfl) fun b3 => ?_
  refine R.u 1 rfl <| R.nil ?_
  refine R.reg rfl <| R.q (q.ldS 2 rfl rfl tAgg_30) rfl <| R.q (q.ldS 1 rfl rfl tAgg_33) rfl <| R.c (q.call eg_9 rfl rfl (fun w hw => (getD_any _ _ _ _ (r) (p) w (§20 w hw) ((fun _ => Wd.fls 1 rfl) w hw) (§25 w hw) ((fun _ => Wd.fls 3 rfl) w hw) (by assumption) (by assumption)))) rfl <| R.u 3 rfl <| ?_
  refine R.s rfl (s.alloc (cs := [.int .i64 0, .int .i64 0, .int .i64 0, .int .i64 0, .int .i64 0]) tZero_39 rfl rfl) fun b4 => ?_
  refine R.s rfl (s.st (us := §1) (cs' := §1) 0 _ rfl rfl rfl rfl (.inl tAgg_39) rfl rfl rfl rfl) fun _ => ?_
  refine R.u 1 rfl <| R.nil ?_
  refine R.reg rfl <| R.u 1 rfl <| ?_
  by_cases h1 : 0 < (getR r p).2
  · refine R.q (q.gtr rfl rfl (decide_eq_true (by omega))) rfl <| R.nil ?_
    refine R.condT rfl rfl ?_
    refine R.reg rfl <| R.q (q.build (cs := §0) tB_30 rfl rfl) rfl <| R.u 1 rfl <| ?_
    refine R.s rfl §27 fun _ => ?_
    refine R.u 1 rfl <| R.nil ?_
    refine R.mp (fun _ hw => hw.nilL (α := Writ)) ?_
    refine R.mp (fun _ hw => hw.nilL (α := Thing)) ?_
    refine R.mp (fun _ hw => hw.nilL (α := Held)) ?_
    refine R.mp (fun _ hw => hw.nilL (α := Note)) ?_
    have hz : dropR r p = ((⟨[], [], [], [], 0, 0⟩ : Realm), (getR r p).2) := by (unfold dropR; rw [if_neg (by omega)]; (try rfl))
    rw [hz]
    exact R.w2 ((.slice none 0 0), (.slice none 0 0), (.slice none 0 0), (.slice none 0 0)) [4] [3, 2, 1, 0] rfl Tryz.results56 (RV.cell 1 rfl rfl tAgg_30) (RV.tmp rfl) rfl rfl rfl (tup2 rfl rfl)
  · have gz : (getR r p).2 = 0 := by omega
    have hPd := hI.toPre.wo (getR r p).1.ID
    refine R.q (q.gtr rfl rfl (decide_eq_false (by omega))) rfl <| R.nil ?_
    refine R.condF rfl rfl ?_
    refine R.reg rfl <| R.q §14 rfl <| R.q (q.ld 3 rfl rfl tOne_25 rfl) rfl <| R.q (q.fld (off' := 0) rfl tFld_39_0 rfl) rfl <| R.q (q.ld 0 rfl rfl tOne_3 rfl) rfl <| ?_
    refine R.s rfl (s.callO eg_42 rfl rfl (fun w hw => withoutG_any _ (r.Writs) (((getR r p).1).ID) w (§20 w hw) (by first | omega | assumption | (simp; done) | (simp; omega) | (dsimp only [addW]; omega)) (by first | assumption | exact hI.tree | exact hP.tree)) rfl) fun v1 => ?_
    refine R.q §14 rfl <| ?_
    refine R.s rfl (s.stV (us := [v1]) (cs' := [v1, v_rT, v_rH, v_rN, .int .i64 r.NextWrit, .int .i64 r.NextThing]) 4 _ rfl rfl rfl (fun w hw => Sl.cells1 (§24 w hw)) (.inr ⟨tOne_25, rfl⟩) (fun w hw => (one_cons (Sl.one (§24 w hw)) one_nil)) rfl rfl rfl) fun _ => ?_
    refine R.nil ?_
    refine R.reg rfl <| R.q (q.ldS 4 rfl rfl tAgg_30) rfl <| ?_
    refine R.s (B' := (fun g_ : Value × Value × Value × Value => §23)) (F' := (fun g_ : Value × Value × Value × Value => [Res.ls g_.1 (((sweepR §2)).Writs : List Writ), Res.ls g_.2.1 (((sweepR §2)).Things : List Thing), Res.ls g_.2.2.1 (((sweepR §2)).Held : List Held), Res.ls g_.2.2.2 (((sweepR §2)).Notes : List Note), Res.ls v1 ((without r.Writs (((getR r p).1).ID)) : List Writ), Res.ls v_rW (r.Writs : List Writ), Res.ls v_rT (r.Things : List Thing), Res.ls v_rH (r.Held : List Held), Res.ls v_rN (r.Notes : List Note)])) rfl (s.pre (B2 := §23) (F2 := [Res.ls v1 ((without r.Writs (((getR r p).1).ID)) : List Writ), Res.ls v_rW (r.Writs : List Writ), Res.ls v_rT (r.Things : List Thing), Res.ls v_rH (r.Held : List Held), Res.ls v_rN (r.Notes : List Note)]) §26 (s.callV (B0 := []) (Br := §23) (F0 := [Res.ls v1 ((without r.Writs (((getR r p).1).ID)) : List Writ), Res.ls v_rT (r.Things : List Thing), Res.ls v_rH (r.Held : List Held), Res.ls v_rN (r.Notes : List Note)]) [0, 1, 2, 3, 4] [0, 2, 3, 4] (fun g_ : Value × Value × Value × Value => .agg #[g_.1, g_.2.1, g_.2.2.1, g_.2.2.2, .int .i64 (((sweepR §2)).NextWrit), .int .i64 (((sweepR §2)).NextThing)]) (fun g_ : Value × Value × Value × Value => []) (fun g_ : Value × Value × Value × Value => [Res.ls g_.1 (((sweepR §2)).Writs : List Writ), Res.ls g_.2.1 (((sweepR §2)).Things : List Thing), Res.ls g_.2.2.1 (((sweepR §2)).Held : List Held), Res.ls g_.2.2.2 (((sweepR §2)).Notes : List Note)]) rfl rfl rfl eg_43 rfl rfl (fun w own hw H => sweepD_any v1 v_rT v_rH v_rN (§2) w own H (by assumption) (by first | assumption | exact hI.toPre)) rfl)) ?_
    rintro ⟨z1, z2, z3, z4⟩
    dsimp only
    refine R.s rfl (s.stV (us := [z1, z2, z3, z4, .int .i64 ((sweepR §2).NextWrit), .int .i64 ((sweepR §2).NextThing)]) (cs' := [z1, z2, z3, z4, .int .i64 ((sweepR §2).NextWrit), .int .i64 ((sweepR §2).NextThing)]) 1 _ rfl rfl rfl (fun _ _ => rfl) (.inl tAgg_30) (fun w hw => (one_cons (Sl.one (§20 w hw)) (one_cons (Sl.one ((fun _ => Wd.fls 1 rfl) w hw)) (one_cons (Sl.one (§25 w hw)) (one_cons (Sl.one ((fun _ => Wd.fls 3 rfl) w hw)) (one_cons rfl (one_cons rfl one_nil))))))) rfl rfl rfl) fun _ => ?_
    refine R.u 1 rfl <| R.nil ?_
    have hz : dropR r p = ((sweepR §2), 0) := by (unfold dropR; rw [if_pos gz]; (try rfl))
    rw [hz]
    exact R.w2 (z1, z2, z3, z4) [4] [0, 1, 2, 3] rfl Tryz.results56 (RV.cell 1 rfl rfl tAgg_30) (RV.tmp rfl) rfl rfl rfl (tup2 rfl rfl)

set_option maxHeartbeats 1000000 in
theorem revokeD_any (v_rW v_rT v_rH v_rN : Value) (r : Realm) (p : Place) (w : World) (own : List Nat) (H : Wd w (blks [] ++ own) ([] ++ [Res.held w own]) §7 w) (hk : Ok r) (hI : Inv r) : Calls Tryz.prog 57 #[.agg #[v_rW, v_rT, v_rH, v_rN, .int .i64 r.NextWrit, .int .i64 r.NextThing], .agg #[.int .i64 p.Holder, .int .i64 p.Slot]] w fun e w' => ∃ z : Value × Value × Value × Value, e = .returned (.tuple #[.agg #[z.1, z.2.1, z.2.2.1, z.2.2.2, .int .i64 ((((revokeR r p)).1).NextWrit), .int .i64 ((((revokeR r p)).1).NextThing)], .int .i64 (((revokeR r p)).2)]) ∧ Wd w (blks [] ++ own) ([] ++ [Res.held w own]) [Res.ls z.1 ((((revokeR r p)).1).Writs : List Writ), Res.ls z.2.1 ((((revokeR r p)).1).Things : List Thing), Res.ls z.2.2.1 ((((revokeR r p)).1).Held : List Held), Res.ls z.2.2.2 ((((revokeR r p)).1).Notes : List Note)] w' := by
  have m_r_Writs := H.lenF 0 rfl
  have m_r_Things := H.lenF 1 rfl
  have m_r_Held := H.lenF 2 rfl
  have m_r_Notes := H.lenF 3 rfl
  have bw := hk.wl; have bt := hk.tl; have bh := hk.hl; have bn := hk.nl; have bw0 := hk.w0; have bw1 := hk.w1; have bt0 := hk.t0; have bt1 := hk.t1
  have gn := getR_nonneg r p
  refine R.enterN (n := 56) (vs := [.agg #[v_rW, v_rT, v_rH, v_rN, .int .i64 r.NextWrit, .int .i64 r.NextThing], .agg #[.int .i64 p.Holder, .int .i64 p.Slot]]) (B := [Res.held w own]) [(0, .agg #[v_rW, v_rT, v_rH, v_rN, .int .i64 r.NextWrit, .int .i64 r.NextThing]), (1, .agg #[.int .i64 p.Holder, .int .i64 p.Slot])] Tryz.func57 rfl rfl rfl rfl H ?_
  refine R.reg rfl <| ?_
  refine R.s rfl (s.box (cs := §17) rfl rfl rfl) fun b1 => ?_
  refine R.s rfl (s.box (cs := §15) rfl rfl rfl) fun b2 => ?_
  refine R.s rfl (s.alloc (cs := §0) tZero_30 rfl rfl) fun b3 => ?_
  refine R.u 1 rfl <| R.nil ?_
  refine R.reg rfl <| R.q (q.ldS 2 rfl rfl tAgg_30) rfl <| R.q (q.ldS 1 rfl rfl tAgg_33) rfl <| R.c (q.call eg_9 rfl rfl (fun w hw => (getD_any _ _ _ _ (r) (p) w (§20 w hw) ((fun _ => Wd.fls 1 rfl) w hw) (§25 w hw) ((fun _ => Wd.fls 3 rfl) w hw) (by assumption) (by assumption)))) rfl <| R.u 3 rfl <| ?_
  refine R.s rfl (s.alloc (cs := [.int .i64 0, .int .i64 0, .int .i64 0, .int .i64 0, .int .i64 0]) tZero_39 rfl rfl) fun b4 => ?_
  refine R.s rfl (s.st (us := §1) (cs' := §1) 0 _ rfl rfl rfl rfl (.inl tAgg_39) rfl rfl rfl rfl) fun _ => ?_
  refine R.u 1 rfl <| R.nil ?_
  refine R.reg rfl <| R.u 1 rfl <| ?_
  by_cases h1 : 0 < (getR r p).2
  · refine R.q (q.gtr rfl rfl (decide_eq_true (by omega))) rfl <| R.nil ?_
    refine R.condT rfl rfl ?_
    refine R.reg rfl <| R.q (q.build (cs := §0) tB_30 rfl rfl) rfl <| R.u 1 rfl <| ?_
    refine R.s rfl §27 fun _ => ?_
    refine R.u 1 rfl <| R.nil ?_
    refine R.mp (fun _ hw => hw.nilL (α := Writ)) ?_
    refine R.mp (fun _ hw => hw.nilL (α := Thing)) ?_
    refine R.mp (fun _ hw => hw.nilL (α := Held)) ?_
    refine R.mp (fun _ hw => hw.nilL (α := Note)) ?_
    have hz : revokeR r p = ((⟨[], [], [], [], 0, 0⟩ : Realm), (getR r p).2) := by (unfold revokeR; rw [if_neg (by omega)]; (try rfl))
    rw [hz]
    exact R.w2 ((.slice none 0 0), (.slice none 0 0), (.slice none 0 0), (.slice none 0 0)) [4] [3, 2, 1, 0] rfl Tryz.results57 (RV.cell 1 rfl rfl tAgg_30) (RV.tmp rfl) rfl rfl rfl (tup2 rfl rfl)
  · have gz : (getR r p).2 = 0 := by omega
    have hkc := hk.cut (getR r p).1.ID; have hPc := hI.toPre.cut (id := (getR r p).1.ID) (findW_some.2 ⟨_, (getR_zero gz).2.1, rfl⟩)
    refine R.q (q.gtr rfl rfl (decide_eq_false (by omega))) rfl <| R.nil ?_
    refine R.condF rfl rfl ?_
    refine R.reg rfl <| R.q §14 rfl <| R.q (q.ld 3 rfl rfl tOne_25 rfl) rfl <| R.q (q.fld (off' := 0) rfl tFld_39_0 rfl) rfl <| R.q (q.ld 0 rfl rfl tOne_3 rfl) rfl <| ?_
    refine R.s rfl (s.callO eg_89 rfl rfl (fun w hw => beneathR_any _ (r.Writs) (((getR r p).1).ID) w (§20 w hw) (by first | assumption | exact hI.tree | exact hP.tree) (by first | omega | assumption | (simp; done) | (simp; omega) | (dsimp only [addW]; omega))) rfl) fun v1 => ?_
    refine R.u 1 rfl <| R.nil ?_
    refine R.reg rfl <| R.u 1 rfl <| R.nil ?_
    refine R.reg rfl <| R.u 1 rfl <| R.nil ?_
    refine R.row0 (α := Writ) 39 ?_
    refine R.loop (fun g_ : Nat × Value × (List Writ) => [(2, .pointer (some ⟨b1, 0, none⟩)), (4, .pointer (some ⟨b3, 0, none⟩)), (8, v1), (9, g_.2.1), (10, .int .i64 (g_.1 : Int))]) (fun g_ : Nat × Value × (List Writ) => [Res.row 39 g_.2.1 (g_.2.2 : List Writ), Res.row 3 v1 ((benG (((getR r p).1).ID) r.Writs) : List Int), Res.box b4 §1 39, Res.box b3 §0 30, Res.box b2 §15 33, Res.box b1 §17 30, Res.held w own]) (fun g_ : Nat × Value × (List Writ) => §7) (fun g_ : Nat × Value × (List Writ) => g_.1 ≤ r.Writs.length ∧ g_.2.2 = (r.Writs.take g_.1).filter (fun x => !decide (x.ID ∈ benG (getR r p).1.ID r.Writs))) (fun g_ : Nat × Value × (List Writ) => r.Writs.length - g_.1) (0, (.slice none 0 0), []) rfl (by exact ⟨by omega, by simp⟩) ⟨rfl, rfl, rfl, rfl, rfl, trivial⟩ (fun _ => Wd.pick [0, 1, 2, 3, 4, 5, 6] [0, 1, 2, 3] rfl rfl rfl) ?_
    rintro ⟨k, vl, ls⟩ ⟨hk1, HL⟩
    dsimp only at *
    have hll : ls.length ≤ k := by rw [HL]; exact filter_to _ _ _
    refine R.reg rfl <| R.u 1 rfl <| R.q §14 rfl <| R.q (q.ld 5 rfl rfl tOne_25 rfl) rfl <| R.q (q.len' §20 rfl Tryz.underlying25) rfl <| ?_
    by_cases h2 : k < r.Writs.length
    · refine R.q (q.lss rfl rfl (decide_eq_true (by omega))) rfl <| R.nil ?_
      refine R.condT rfl rfl ?_
      refine R.reg rfl <| R.u 1 rfl <| R.q §14 rfl <| R.q (q.ld 5 rfl rfl tOne_25 rfl) rfl <| R.u 1 rfl <| ?_
      obtain ⟨x1, hx1⟩ : ∃ z, r.Writs[k]? = some z := ⟨_, List.getElem?_eq_getElem (by omega)⟩
      refine R.q (q.idx (i := k) §20 rfl rfl tSl_25 rfl hx1) rfl <| R.q (q.fldE (j' := 0) §20 hx1 rfl tFld_39_0 rfl) rfl <| R.q (q.ldE §20 hx1 rfl tOne_3 rfl) rfl <| ?_
      rcases Bool.eq_false_or_eq_true (decide (x1.ID ∈ (benG (((getR r p).1).ID) r.Writs))) with h3 | h3
      · refine R.c (q.call eg_81 rfl rfl (fun w hw => (cv (congrArg Value.bool h3) (has_any _ ((benG (((getR r p).1).ID) r.Writs)) (x1.ID) w §18 )))) rfl <| R.u 1 rfl <| R.nil ?_
        refine R.reg rfl <| R.u 2 rfl <| R.nil ?_
        refine R.condF rfl rfl ?_
        refine R.reg rfl <| R.u 1 rfl <| R.q §22 rfl <| R.u 1 rfl <| R.nil ?_
        refine R.back (k + 1, vl, ls) rfl (by (exact ⟨by omega, by rw [filter_no hx1 (by simpa using ‹decide (_ ∈ benG _ _) = true›), HL]⟩)) §28 ⟨rfl, rfl, rfl, rfl, rfl, trivial⟩ (fun _ => Wd.pik [0, 1, 2, 3, 4, 5, 6] [0, 1, 2, 3] rfl rfl rfl)
      · refine R.c (q.call eg_81 rfl rfl (fun w hw => (cv (congrArg Value.bool h3) (has_any _ ((benG (((getR r p).1).ID) r.Writs)) (x1.ID) w §18 )))) rfl <| R.u 1 rfl <| R.nil ?_
        refine R.reg rfl <| R.u 2 rfl <| R.nil ?_
        refine R.condT rfl rfl ?_
        refine R.reg rfl <| R.u 1 rfl <| R.q §14 rfl <| R.q (q.ld 5 rfl rfl tOne_25 rfl) rfl <| R.u 1 rfl <| R.q (q.idx (i := k) §20 rfl rfl tSl_25 rfl hx1) rfl <| R.q (q.ldES (ds := [.int .i64 x1.ID, .int .i64 x1.Thing, .int .i64 x1.Rights, .int .i64 x1.Badge, .int .i64 x1.From]) §20 hx1 rfl tAgg_39 rfl) rfl <| ?_
        refine R.s rfl (s.bs (l := ([x1] : List Writ)) tSl_25 tZero_39 rfl rfl rfl rfl rfl rfl rfl) fun b5 => ?_
        refine R.s rfl (s.app (l2 := [x1]) 1 _ rfl rfl rfl §24 tApp_25 §5 §5 (fun _ => rfl) rfl) fun v2 => ?_
        refine R.u 1 rfl <| R.nil ?_
        refine R.reg rfl <| R.u 1 rfl <| R.q §22 rfl <| R.u 1 rfl <| R.nil ?_
        refine R.back (k + 1, v2, (ls ++ ([x1]))) rfl (by (exact ⟨by omega, by rw [filter_yes hx1 (by simpa using ‹decide (_ ∈ benG _ _) = false›), HL]⟩)) §28 ⟨rfl, rfl, rfl, rfl, rfl, trivial⟩ (fun _ => Wd.pik [1, 2, 3, 4, 5, 6, 7] [0, 1, 2, 3] rfl rfl rfl)
    · refine R.q (q.lss rfl rfl (decide_eq_false (by omega))) rfl <| R.nil ?_
      refine R.condF rfl rfl ?_
      have hls : ls = cutW r.Writs (getR r p).1.ID := by rw [HL, List.take_of_length_le (by omega)]; rfl
      have hkl : Ok §4 := by rw [hls]; exact hkc
      have hPl : Pre §4 := by rw [hls]; exact hPc
      refine R.reg rfl <| R.u 1 rfl <| R.q §14 rfl <| ?_
      refine R.s rfl (s.stV (us := [vl]) (cs' := [vl, v_rT, v_rH, v_rN, .int .i64 r.NextWrit, .int .i64 r.NextThing]) 5 _ rfl rfl rfl (fun w hw => Sl.cells1 (§24 w hw)) (.inr ⟨tOne_25, rfl⟩) (fun w hw => (one_cons (Sl.one (§24 w hw)) one_nil)) rfl rfl rfl) fun _ => ?_
      refine R.nil ?_
      refine R.reg rfl <| R.q (q.ldS 5 rfl rfl tAgg_30) rfl <| ?_
      refine R.s (B' := (fun g_ : Value × Value × Value × Value => §11)) (F' := (fun g_ : Value × Value × Value × Value => [Res.ls g_.1 (((sweepR §4)).Writs : List Writ), Res.ls g_.2.1 (((sweepR §4)).Things : List Thing), Res.ls g_.2.2.1 (((sweepR §4)).Held : List Held), Res.ls g_.2.2.2 (((sweepR §4)).Notes : List Note), Res.ls vl (ls : List Writ), Res.ls v_rW (r.Writs : List Writ), Res.ls v_rT (r.Things : List Thing), Res.ls v_rH (r.Held : List Held), Res.ls v_rN (r.Notes : List Note)])) rfl (s.pre (B2 := §11) (F2 := [Res.ls vl (ls : List Writ), Res.ls v_rW (r.Writs : List Writ), Res.ls v_rT (r.Things : List Thing), Res.ls v_rH (r.Held : List Held), Res.ls v_rN (r.Notes : List Note)]) §26 (s.callV (B0 := []) (Br := §11) (F0 := [Res.ls vl (ls : List Writ), Res.ls v_rT (r.Things : List Thing), Res.ls v_rH (r.Held : List Held), Res.ls v_rN (r.Notes : List Note)]) [0, 1, 2, 3, 4, 5] [0, 2, 3, 4] (fun g_ : Value × Value × Value × Value => .agg #[g_.1, g_.2.1, g_.2.2.1, g_.2.2.2, .int .i64 (((sweepR §4)).NextWrit), .int .i64 (((sweepR §4)).NextThing)]) (fun g_ : Value × Value × Value × Value => []) (fun g_ : Value × Value × Value × Value => [Res.ls g_.1 (((sweepR §4)).Writs : List Writ), Res.ls g_.2.1 (((sweepR §4)).Things : List Thing), Res.ls g_.2.2.1 (((sweepR §4)).Held : List Held), Res.ls g_.2.2.2 (((sweepR §4)).Notes : List Note)]) rfl rfl rfl eg_43 rfl rfl (fun w own hw H => sweepD_any vl v_rT v_rH v_rN (§4) w own H (by assumption) (by first | assumption | exact hI.toPre)) rfl)) ?_
      rintro ⟨z1, z2, z3, z4⟩
      dsimp only
      refine R.s rfl (s.stV (us := [z1, z2, z3, z4, .int .i64 ((sweepR §4).NextWrit), .int .i64 ((sweepR §4).NextThing)]) (cs' := [z1, z2, z3, z4, .int .i64 ((sweepR §4).NextWrit), .int .i64 ((sweepR §4).NextThing)]) 2 _ rfl rfl rfl (fun _ _ => rfl) (.inl tAgg_30) (fun w hw => (one_cons (Sl.one (§20 w hw)) (one_cons (Sl.one ((fun _ => Wd.fls 1 rfl) w hw)) (one_cons (Sl.one (§25 w hw)) (one_cons (Sl.one ((fun _ => Wd.fls 3 rfl) w hw)) (one_cons rfl (one_cons rfl one_nil))))))) rfl rfl rfl) fun _ => ?_
      refine R.u 1 rfl <| R.nil ?_
      have hz : revokeR r p = ((sweepR §4), 0) := by (unfold revokeR; rw [if_pos gz, hls]; (try rfl))
      rw [hz]
      exact R.w2 (z1, z2, z3, z4) [5] [0, 1, 2, 3] rfl Tryz.results57 (RV.cell 2 rfl rfl tAgg_30) (RV.tmp rfl) rfl rfl rfl (tup2 rfl rfl)

theorem writeD_any (v_rW v_rT v_rH v_rN : Value) (r : Realm) (p : Place) (d : ByteArray) (w : World) (own : List Nat) (H : Wd w (blks [] ++ own) ([] ++ [Res.held w own]) §7 w) (hk : Ok r) (hI : Inv r) : Calls Tryz.prog 58 #[.agg #[v_rW, v_rT, v_rH, v_rN, .int .i64 r.NextWrit, .int .i64 r.NextThing], .agg #[.int .i64 p.Holder, .int .i64 p.Slot], .string d] w fun e w' => ∃ z : Value × Value × Value × Value, e = .returned (.tuple #[.agg #[z.1, z.2.1, z.2.2.1, z.2.2.2, .int .i64 ((((writeR r p d)).1).NextWrit), .int .i64 ((((writeR r p d)).1).NextThing)], .int .i64 (((writeR r p d)).2)]) ∧ Wd w (blks [] ++ own) ([] ++ [Res.held w own]) [Res.ls z.1 ((((writeR r p d)).1).Writs : List Writ), Res.ls z.2.1 ((((writeR r p d)).1).Things : List Thing), Res.ls z.2.2.1 ((((writeR r p d)).1).Held : List Held), Res.ls z.2.2.2 ((((writeR r p d)).1).Notes : List Note)] w' := by
  have m_r_Writs := H.lenF 0 rfl
  have m_r_Things := H.lenF 1 rfl
  have m_r_Held := H.lenF 2 rfl
  have m_r_Notes := H.lenF 3 rfl
  have bw := hk.wl; have bt := hk.tl; have bh := hk.hl; have bn := hk.nl; have bw0 := hk.w0; have bw1 := hk.w1; have bt0 := hk.t0; have bt1 := hk.t1
  have mn0 := mayR_nonneg r p 1 2
  refine R.enterN (n := 35) (vs := [.agg #[v_rW, v_rT, v_rH, v_rN, .int .i64 r.NextWrit, .int .i64 r.NextThing], .agg #[.int .i64 p.Holder, .int .i64 p.Slot], .string d]) (B := [Res.held w own]) [(0, .agg #[v_rW, v_rT, v_rH, v_rN, .int .i64 r.NextWrit, .int .i64 r.NextThing]), (1, .agg #[.int .i64 p.Holder, .int .i64 p.Slot]), (2, .string d)] Tryz.func58 rfl rfl rfl rfl H ?_
  refine R.reg rfl <| ?_
  refine R.s rfl (s.box (cs := §17) rfl rfl rfl) fun b1 => ?_
  refine R.s rfl (s.box (cs := §15) rfl rfl rfl) fun b2 => ?_
  refine R.s rfl (s.alloc (cs := §0) tZero_30 rfl rfl) fun b3 => ?_
  refine R.u 1 rfl <| R.nil ?_
  refine R.reg rfl <| R.q (q.ldS 2 rfl rfl tAgg_30) rfl <| R.q (q.ldS 1 rfl rfl tAgg_33) rfl <| R.c (q.call eg_30 rfl rfl (fun w hw => (mayD_any _ _ _ _ (r) (p) (1) (2) w (§20 w hw) ((fun _ => Wd.fls 1 rfl) w hw) (§25 w hw) ((fun _ => Wd.fls 3 rfl) w hw) (by assumption) (by assumption) (by omega)))) rfl <| R.u 4 rfl <| ?_
  refine R.s rfl (s.alloc (cs := [.int .i64 0, .int .i64 0, .int .i64 0, .int .i64 0, .int .i64 0]) tZero_39 rfl rfl) fun b4 => ?_
  refine R.s rfl (s.st (us := §3) (cs' := §3) 0 _ rfl rfl rfl rfl (.inl tAgg_39) rfl rfl rfl rfl) fun _ => ?_
  refine R.u 2 rfl <| R.nil ?_
  refine R.reg rfl <| R.u 1 rfl <| ?_
  by_cases h1 : 0 < (mayR r p 1 2).2.2
  · refine R.q (q.gtr rfl rfl (decide_eq_true (by omega))) rfl <| R.nil ?_
    refine R.condT rfl rfl ?_
    refine R.reg rfl <| R.q (q.build (cs := §0) tB_30 rfl rfl) rfl <| R.u 1 rfl <| ?_
    refine R.s rfl §27 fun _ => ?_
    refine R.u 1 rfl <| R.nil ?_
    refine R.mp (fun _ hw => hw.nilL (α := Writ)) ?_
    refine R.mp (fun _ hw => hw.nilL (α := Thing)) ?_
    refine R.mp (fun _ hw => hw.nilL (α := Held)) ?_
    refine R.mp (fun _ hw => hw.nilL (α := Note)) ?_
    have hz : writeR r p d = ((⟨[], [], [], [], 0, 0⟩ : Realm), (mayR r p 1 2).2.2) := by (unfold writeR setData; (repeat' split) <;> first | rfl | (exfalso; omega) | (simp_all; done))
    rw [hz]
    exact R.w2 ((.slice none 0 0), (.slice none 0 0), (.slice none 0 0), (.slice none 0 0)) [4] [3, 2, 1, 0] rfl Tryz.results58 (RV.cell 1 rfl rfl tAgg_30) (RV.tmp rfl) rfl rfl rfl (tup2 rfl rfl)
  · have mn := mayR_nonneg r p 1 2; have mq : (mayR r p 1 2).2.2 = 0 := by omega
    obtain ⟨m1, m2, m3, i, ix, ik, ih, ii, id, ib⟩ := mayR_zero mq; have iB := (List.getElem?_eq_some_iff.1 ih).1
    refine R.q (q.gtr rfl rfl (decide_eq_false (by omega))) rfl <| R.nil ?_
    refine R.condF rfl rfl ?_
    refine R.reg rfl <| R.u 1 rfl <| R.q (q.lenS rfl Tryz.underlying9) rfl <| ?_
    by_cases h2 : 8 < d.size
    · refine R.q (q.gtr rfl rfl (decide_eq_true (by omega))) rfl <| R.nil ?_
      refine R.condT rfl rfl ?_
      refine R.reg rfl <| R.q (q.build (cs := §0) tB_30 rfl rfl) rfl <| ?_
      refine R.s rfl §27 fun _ => ?_
      refine R.u 1 rfl <| R.nil ?_
      refine R.mp (fun _ hw => hw.nilL (α := Writ)) ?_
      refine R.mp (fun _ hw => hw.nilL (α := Thing)) ?_
      refine R.mp (fun _ hw => hw.nilL (α := Held)) ?_
      refine R.mp (fun _ hw => hw.nilL (α := Note)) ?_
      have hz : writeR r p d = ((⟨[], [], [], [], 0, 0⟩ : Realm), 2) := by (unfold writeR setData; (repeat' split) <;> first | rfl | (exfalso; omega) | (simp_all; done))
      rw [hz]
      exact R.w2 ((.slice none 0 0), (.slice none 0 0), (.slice none 0 0), (.slice none 0 0)) [4] [3, 2, 1, 0] rfl Tryz.results58 (RV.cell 1 rfl rfl tAgg_30) (RV.tmp rfl) rfl rfl rfl (tup2 rfl rfl)
    · refine R.q (q.gtr rfl rfl (decide_eq_false (by omega))) rfl <| R.nil ?_
      refine R.condF rfl rfl ?_
      refine R.reg rfl <| R.q (q.ldS 3 rfl rfl tAgg_30) rfl <| ?_
      refine R.s (B' := (fun g_ : Value × Value × Value × Value => [Res.row 39 g_.1 ((r).Writs : List Writ), Res.row 74 g_.2.1 ((r).Things : List Thing), Res.row 93 g_.2.2.1 ((r).Held : List Held), Res.row 52 g_.2.2.2 ((r).Notes : List Note), Res.box b4 §3 39, Res.box b3 §0 30, Res.box b2 §15 33, Res.box b1 §17 30, Res.held w own])) (F' := (fun g_ : Value × Value × Value × Value => §7)) rfl (s.callV (B0 := []) (Br := [Res.box b4 §3 39, Res.box b3 §0 30, Res.box b2 §15 33, Res.box b1 §17 30, Res.held w own]) (F0 := §7) [0, 1, 2, 3, 4] [0, 1, 2, 3] (fun g_ : Value × Value × Value × Value => .agg #[g_.1, g_.2.1, g_.2.2.1, g_.2.2.2, .int .i64 ((r).NextWrit), .int .i64 ((r).NextThing)]) (fun g_ : Value × Value × Value × Value => [Res.row 39 g_.1 ((r).Writs : List Writ), Res.row 74 g_.2.1 ((r).Things : List Thing), Res.row 93 g_.2.2.1 ((r).Held : List Held), Res.row 52 g_.2.2.2 ((r).Notes : List Note)]) (fun g_ : Value × Value × Value × Value => []) rfl rfl rfl eg_71 rfl rfl (fun w own hw H => copyO_any v_rW v_rT v_rH v_rN (r) w own H (by assumption)) rfl) ?_
      rintro ⟨z1, z2, z3, z4⟩
      dsimp only
      refine R.s rfl (s.stV (us := §8) (cs' := §8) 7 _ rfl rfl rfl (fun _ _ => rfl) (.inl tAgg_30) (fun w hw => (one_cons (Sl.one (§24 w hw)) (one_cons (Sl.one §18) (one_cons (Sl.one ((fun _ => Wd.row 2 rfl) w hw)) (one_cons (Sl.one ((fun _ => Wd.row 3 rfl) w hw)) (one_cons rfl (one_cons rfl one_nil))))))) rfl rfl rfl) fun _ => ?_
      refine R.nil ?_
      refine R.reg rfl <| R.q (q.fld (off' := 1) rfl tFld_30_1 rfl) rfl <| R.q (q.ld 7 rfl rfl tOne_26 rfl) rfl <| R.u 2 rfl <| ?_
      obtain ⟨x1, hx1⟩ : ∃ z, r.Things[((mayR r p 1 2).2.1).toNat]? = some z := ⟨_, List.getElem?_eq_getElem (by omega)⟩
      refine R.q (q.idx (i := ((mayR r p 1 2).2.1).toNat) (fun _ => Wd.row 1 rfl) rfl rfl tSl_26 (by omega) hx1) rfl <| R.q (q.fldE (j' := 2) (fun _ => Wd.row 1 rfl) hx1 rfl tFld_74_2 rfl) rfl <| ?_
      refine R.s rfl (s.stP (o := 2) (z := (⟨x1.ID, x1.Kind, d⟩ : Thing)) (us := [.string d]) 1 _ rfl hx1 rfl rfl rfl rfl rfl (by simp [Value.oneCell']) (.inr ⟨tOne_9, rfl⟩) rfl) fun _ => ?_
      refine R.nil ?_
      refine R.reg rfl <| R.q (q.ldS 7 rfl rfl tAgg_30) rfl <| ?_
      refine R.s rfl (s.stV (us := §8) (cs' := §8) 5 _ rfl rfl rfl (fun _ _ => rfl) (.inl tAgg_30) (fun w hw => (one_cons (Sl.one (§24 w hw)) (one_cons (Sl.one §18) (one_cons (Sl.one ((fun _ => Wd.row 2 rfl) w hw)) (one_cons (Sl.one ((fun _ => Wd.row 3 rfl) w hw)) (one_cons rfl (one_cons rfl one_nil))))))) rfl rfl rfl) fun _ => ?_
      refine R.u 1 rfl <| R.nil ?_
      refine R.mp (B' := [Res.row 74 z2 ((r.Things.set (((mayR r p 1 2).2.1).toNat) (⟨x1.ID, x1.Kind, d⟩ : Thing)) : List Thing), Res.row 93 z3 (r.Held : List Held), Res.row 52 z4 (r.Notes : List Note), Res.box b4 §3 39, Res.box b3 §8 30, Res.box b2 §15 33, Res.box b1 §8 30, Res.held w own]) §26 ?_
      refine R.mp (B' := [Res.row 93 z3 (r.Held : List Held), Res.row 52 z4 (r.Notes : List Note), Res.box b4 §3 39, Res.box b3 §8 30, Res.box b2 §15 33, Res.box b1 §8 30, Res.held w own]) §26 ?_
      refine R.mp (B' := [Res.row 52 z4 (r.Notes : List Note), Res.box b4 §3 39, Res.box b3 §8 30, Res.box b2 §15 33, Res.box b1 §8 30, Res.held w own]) §26 ?_
      refine R.mp (B' := [Res.box b4 §3 39, Res.box b3 §8 30, Res.box b2 §15 33, Res.box b1 §8 30, Res.held w own]) §26 ?_
      have hz : writeR r p d = ((⟨r.Writs, (r.Things.set (((mayR r p 1 2).2.1).toNat) (⟨x1.ID, x1.Kind, d⟩ : Thing)), r.Held, r.Notes, r.NextWrit, r.NextThing⟩ : Realm), 0) := by (unfold writeR setData; (repeat' split) <;> first | rfl | (exfalso; omega) | (simp_all; done))
      rw [hz]
      exact R.w2 (z1, z2, z3, z4) [4] [3, 2, 1, 0] rfl Tryz.results58 (RV.cell 1 rfl rfl tAgg_30) (RV.tmp rfl) rfl rfl rfl (tup2 rfl rfl)

end Go.Proofs.YtpipachmngdegaaGreat
end
