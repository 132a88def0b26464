import Derived.Test.YtpipachmngdegaaGreatRealmSaysProofG29
section
/-
  The walk of sweeping.
-/
namespace Go.Proofs.YtpipachmngdegaaGreat
open Go Go.RowKit
set_option linter.unusedVariables false
set_option linter.unusedSimpArgs false
set_option maxRecDepth 100000
set_option hygiene false
local macro:max "§0" : term => `([.slice none 0 0, .slice none 0 0, .slice none 0 0, .slice none 0 0, .int .i64 0, .int .i64 0])
local macro:max "§1" : term => `([Res.ls m_W (m.Writs : List Writ), Res.ls m_T (m.Things : List Thing), Res.ls m_H (m.Held : List Held), Res.ls m_N (m.Notes : List Note), Res.ls v_rW (r.Writs : List Writ), Res.ls v_rT (r.Things : List Thing), Res.ls v_rH (r.Held : List Held), Res.ls v_rN (r.Notes : List Note)])
local macro:max "§2" : term => `((fun x => !(fun (t : Thing) => !decide (t.ID ∈ (thingsL m.Writs))) x))
local macro:max "§3" : term => `((fun x => !(fun (h : Held) => decide (findW m.Writs h.Writ < 0)) x))
local macro:max "§4" : term => `((by (have e0 := hx1; first | (have e1 := fixN_no (ws := m.Writs) c1f; have e2 := none_snoc e0 (by rw [e1]; exact of_decide_eq_false (by assumption)) (by rw [e1]; simp); exact ⟨by omega, by rw [e2.1, HN], by rw [e2.2, HL]⟩) | (have e1 := fixN_yes (ws := m.Writs) c1f; have e2 := none_snoc e0 (by rw [e1]; exact of_decide_eq_false (by assumption)) (by rw [e1]; assumption); exact ⟨by omega, by rw [e2.1, HN], by rw [e2.2, HL]⟩))))
local macro:max "§5" : term => `((by (have e0 := hx1; first | (have e1 := fixN_no (ws := m.Writs) c1f; have e2 := keep_snoc e0 (by rw [e1]; exact of_decide_eq_true (by assumption)); rw [e1] at e2; exact ⟨by omega, by rw [e2.1, HN], by rw [e2.2, HL]⟩) | (have e1 := fixN_yes (ws := m.Writs) c1f; have e2 := keep_snoc e0 (by rw [e1]; exact of_decide_eq_true (by assumption)); rw [e1] at e2; exact ⟨by omega, by rw [e2.1, HN], by rw [e2.2, HL]⟩))))
local macro:max "§6" : term => `([Res.row 52 vn (ns : List Note), Res.row 3 vl (ls : List Int), Res.row 74 z2 (m.Things.filter §2 : List Thing), Res.box b3 [v1] 116, Res.row 3 v1 ((thingsL m.Writs) : List Int), Res.box b2 §0 30, Res.box b1 [m_W, z2, m_H, vn, .int .i64 m.NextWrit, .int .i64 m.NextThing] 30, Res.held w own])
local macro:max "§7" : term => `((q.add (r := ((k + 1 : Nat) : Int)) rfl rfl (wr (by omega))))

set_option maxHeartbeats 400000 in
theorem sweepR_any (v_rW v_rT v_rH v_rN : Value) (r : Realm) (w : World) (own : List Nat) (H : Wd w (blks [] ++ own) ([] ++ [Res.held w own]) [Res.ls v_rW (r.Writs : List Writ), Res.ls v_rT (r.Things : List Thing), Res.ls v_rH (r.Held : List Held), Res.ls v_rN (r.Notes : List Note)] w) (hk : Ok r) : Calls Tryz.prog 41 #[.agg #[v_rW, v_rT, v_rH, v_rN, .int .i64 r.NextWrit, .int .i64 r.NextThing]] w fun e w' => ∃ z : Value × Value × Value × Value, e = .returned (.agg #[z.1, z.2.1, z.2.2.1, z.2.2.2, .int .i64 (((sweepR r)).NextWrit), .int .i64 (((sweepR r)).NextThing)]) ∧ Wd w (blks [] ++ own) ([] ++ [Res.held w own]) [Res.ls z.1 (((sweepR r)).Writs : List Writ), Res.ls z.2.1 (((sweepR r)).Things : List Thing), Res.ls z.2.2.1 (((sweepR r)).Held : List Held), Res.ls z.2.2.2 (((sweepR r)).Notes : List Note)] w' := by
  have m_r_Writs := H.lenF 0 rfl
  have m_r_Things := H.lenF 1 rfl
  have m_r_Held := H.lenF 2 rfl
  have m_r_Notes := H.lenF 3 rfl
  refine R.enterN (n := 74) (vs := [.agg #[v_rW, v_rT, v_rH, v_rN, .int .i64 r.NextWrit, .int .i64 r.NextThing]]) (B := [Res.held w own]) [(0, .agg #[v_rW, v_rT, v_rH, v_rN, .int .i64 r.NextWrit, .int .i64 r.NextThing])] Tryz.func41 rfl rfl rfl rfl H ?_
  refine R.reg rfl <| ?_
  refine R.s rfl (s.box (cs := [v_rW, v_rT, v_rH, v_rN, .int .i64 r.NextWrit, .int .i64 r.NextThing]) rfl rfl rfl) fun b1 => ?_
  refine R.s rfl (s.alloc (cs := §0) tZero_30 rfl rfl) fun b2 => ?_
  refine R.nil ?_
  refine R.loop (fun g_ : Realm × Value × Value × Value × Value => [(1, .pointer (some ⟨b1, 0, none⟩)), (2, .pointer (some ⟨b2, 0, none⟩))]) (fun g_ : Realm × Value × Value × Value × Value => [Res.box b2 §0 30, Res.box b1 [g_.2.1, g_.2.2.1, g_.2.2.2.1, g_.2.2.2.2, .int .i64 g_.1.NextWrit, .int .i64 g_.1.NextThing] 30, Res.held w own]) (fun g_ : Realm × Value × Value × Value × Value => [Res.ls g_.2.1 (g_.1.Writs : List Writ), Res.ls g_.2.2.1 (g_.1.Things : List Thing), Res.ls g_.2.2.2.1 (g_.1.Held : List Held), Res.ls g_.2.2.2.2 (g_.1.Notes : List Note), Res.ls v_rW (r.Writs : List Writ), Res.ls v_rT (r.Things : List Thing), Res.ls v_rH (r.Held : List Held), Res.ls v_rN (r.Notes : List Note)]) (fun g_ : Realm × Value × Value × Value × Value => Ok g_.1 ∧ sweepR g_.1 = sweepR r) (fun g_ : Realm × Value × Value × Value × Value => g_.1.Notes.length) (r, v_rW, v_rT, v_rH, v_rN) rfl (by exact ⟨hk, rfl⟩) ⟨rfl, rfl, trivial⟩ (fun _ => Wd.pick [0, 1, 2] [0, 1, 2, 3, 0, 1, 2, 3] rfl rfl rfl) ?_
  rintro ⟨m, m_W, m_T, m_H, m_N⟩ ⟨hok, HS⟩
  dsimp only at *
  have o1 := hok.wl; have o2 := hok.tl; have o3 := hok.hl; have o4 := hok.nl
  refine R.reg rfl <| R.q (q.fld (off' := 0) rfl tFld_30_0 rfl) rfl <| R.q (q.ld 1 rfl rfl tOne_25 rfl) rfl <| ?_
  refine R.s rfl (s.callO eg_74 rfl rfl (fun w hw => thingsL_any _ (m.Writs) w ((fun _ => Wd.fls 0 rfl) w hw) (by first | omega | assumption)) rfl) fun v1 => ?_
  refine R.s rfl (s.alloc (cs := [.slice none 0 0]) tZero_116 rfl rfl) fun b3 => ?_
  refine R.s rfl (s.stV (us := [v1]) (cs' := [v1]) 0 _ rfl rfl rfl (fun w hw => Sl.cells1 ((fun _ => Wd.row 1 rfl) w hw)) (.inr ⟨tOne_116, rfl⟩) (fun w hw => (one_cons (Sl.one ((fun _ => Wd.row 1 rfl) w hw)) one_nil)) rfl rfl rfl) fun _ => ?_
  refine R.nil ?_
  refine R.reg rfl <| R.q (q.fld (off' := 1) rfl tFld_30_1 rfl) rfl <| R.q (q.ld 3 rfl rfl tOne_26 rfl) rfl <| ?_
  refine R.s (B' := (fun bz0_ : Value => [Res.row 74 bz0_ (m.Things : List Thing), Res.box b3 [v1] 116, Res.row 3 v1 ((thingsL m.Writs) : List Int), Res.box b2 §0 30, Res.box b1 [m_W, m_T, m_H, m_N, .int .i64 m.NextWrit, .int .i64 m.NextThing] 30, Res.held w own])) (F' := (fun bz0_ : Value => §1)) rfl (s.callV (B0 := []) (Br := [Res.box b3 [v1] 116, Res.row 3 v1 ((thingsL m.Writs) : List Int), Res.box b2 §0 30, Res.box b1 [m_W, m_T, m_H, m_N, .int .i64 m.NextWrit, .int .i64 m.NextThing] 30, Res.held w own]) (F0 := [Res.ls m_T (m.Things : List Thing)]) [0, 1, 2, 3, 4] [1] (fun bz0_ : Value => bz0_) (fun bz0_ : Value => [Res.row 74 bz0_ (m.Things : List Thing)]) (fun bz0_ : Value => []) rfl rfl rfl eg_45 rfl rfl (fun w own hw H => cloneThing_any m_T (m.Things) w own H (by first | omega | assumption | (simp; done) | (simp; omega))) rfl) fun z1 => ?_
  refine R.q (q.mkf (cap := [.pointer (some ⟨b3, 0, none⟩)]) rfl rfl) rfl <| ?_
  refine R.s (B' := (fun bz0_ : Value => [Res.row 74 bz0_ ((m.Things.filter §2) : List Thing), Res.box b3 [v1] 116, Res.row 3 v1 ((thingsL m.Writs) : List Int), Res.box b2 §0 30, Res.box b1 [m_W, m_T, m_H, m_N, .int .i64 m.NextWrit, .int .i64 m.NextThing] 30, Res.held w own])) (F' := (fun bz0_ : Value => §1)) rfl (s.callV (B0 := [Res.row 74 z1 (m.Things : List Thing)]) (Br := [Res.box b3 [v1] 116, Res.row 3 v1 ((thingsL m.Writs) : List Int), Res.box b2 §0 30, Res.box b1 [m_W, m_T, m_H, m_N, .int .i64 m.NextWrit, .int .i64 m.NextThing] 30, Res.held w own]) (F0 := []) [0, 1, 2, 3, 4, 5] [] (fun bz0_ : Value => bz0_) (fun bz0_ : Value => [Res.row 74 bz0_ ((m.Things.filter §2) : List Thing)]) (fun bz0_ : Value => []) rfl rfl rfl eg_75 rfl rfl (fun w own hw H => delFuncThing_any z1 (m.Things) (fun (t : Thing) => !decide (t.ID ∈ (thingsL m.Writs))) _ _ eg_76 w own H (fun W t hU => sweepLit1_any t _ ((thingsL m.Writs)) _ W (hw.stayB 1 0 rfl rfl (by decide) hU) (Own.sl (hw.stayB 2 0 rfl rfl (by decide) hU)) ) (by first | omega | assumption | (simp; done) | (simp; omega))) rfl) fun z2 => ?_
  refine R.q (q.fld (off' := 1) rfl tFld_30_1 rfl) rfl <| ?_
  refine R.s rfl (s.stV (us := [z2]) (cs' := [m_W, z2, m_H, m_N, .int .i64 m.NextWrit, .int .i64 m.NextThing]) 4 _ rfl rfl rfl (fun w hw => Sl.cells1 ((fun _ => Wd.row 0 rfl) w hw)) (.inr ⟨tOne_26, rfl⟩) (fun w hw => (one_cons (Sl.one ((fun _ => Wd.row 0 rfl) w hw)) one_nil)) rfl rfl rfl) fun _ => ?_
  refine R.nil ?_
  refine R.reg rfl <| R.u 1 rfl <| R.nil ?_
  refine R.reg rfl <| R.u 1 rfl <| R.nil ?_
  refine R.reg rfl <| R.q (q.fld (off' := 3) rfl tFld_30_3 rfl) rfl <| R.q (q.ld 4 rfl rfl tOne_28 rfl) rfl <| R.q (q.len' (fun _ => Wd.fls 3 rfl) rfl Tryz.underlying28) rfl <| R.u 1 rfl <| R.nil ?_
  refine R.row0 (α := Int) 3 ?_
  refine R.row0 (α := Note) 52 ?_
  refine R.loop (fun g_ : Nat × Value × (List Note) × Value × (List Int) => [(1, .pointer (some ⟨b1, 0, none⟩)), (2, .pointer (some ⟨b2, 0, none⟩)), (3, .pointer (some ⟨b3, 0, none⟩)), (4, g_.2.2.2.1), (5, g_.2.1), (20, m_N), (21, .int .i64 (m.Notes.length : Int)), (22, .int .i64 (g_.1 : Int))]) (fun g_ : Nat × Value × (List Note) × Value × (List Int) => [Res.row 52 g_.2.1 (g_.2.2.1 : List Note), Res.row 3 g_.2.2.2.1 (g_.2.2.2.2 : List Int), Res.row 74 z2 (m.Things.filter §2 : List Thing), Res.box b3 [v1] 116, Res.row 3 v1 ((thingsL m.Writs) : List Int), Res.box b2 §0 30, Res.box b1 [m_W, z2, m_H, m_N, .int .i64 m.NextWrit, .int .i64 m.NextThing] 30, Res.held w own]) (fun g_ : Nat × Value × (List Note) × Value × (List Int) => §1) (fun g_ : Nat × Value × (List Note) × Value × (List Int) => g_.1 ≤ m.Notes.length ∧ g_.2.2.1 = keepN m.Writs (thingsL m.Writs) (m.Notes.take g_.1) ∧ g_.2.2.2.2 = lostN m.Writs (thingsL m.Writs) (m.Notes.take g_.1)) (fun g_ : Nat × Value × (List Note) × Value × (List Int) => m.Notes.length - g_.1) (0, (.slice none 0 0), [], (.slice none 0 0), []) rfl (by exact ⟨by omega, by simp [keepN], by simp [lostN]⟩) ⟨rfl, rfl, rfl, rfl, rfl, rfl, rfl, rfl, trivial⟩ (fun _ => Wd.pick [0, 1, 2, 3, 4, 5, 6, 7] [0, 1, 2, 3, 4, 5, 6, 7] rfl rfl rfl) ?_
  rintro ⟨k, vn, ns, vl, ls⟩ ⟨hk1, HN, HL⟩
  dsimp only at *
  have hkl := keep_lost m.Writs (thingsL m.Writs) (m.Notes.take k); rw [← HN, ← HL, List.length_take] at hkl
  refine R.reg rfl <| ?_
  by_cases h1 : k < m.Notes.length
  · refine R.q (q.lss rfl rfl (decide_eq_true (by omega))) rfl <| R.nil ?_
    refine R.condT rfl rfl ?_
    refine R.reg rfl <| ?_
    obtain ⟨x1, hx1⟩ : ∃ z, m.Notes[k]? = some z := ⟨_, List.getElem?_eq_getElem (by omega)⟩
    refine R.q (q.idx (i := k) (fun _ => Wd.fls 3 rfl) rfl rfl tSl_28 rfl hx1) rfl <| R.q (q.ldES (ds := [.int .i64 x1.Port, .string x1.Data, .int .i64 x1.Badge, .int .i64 x1.Writ]) (fun _ => Wd.fls 3 rfl) hx1 rfl tAgg_52 rfl) rfl <| ?_
    refine R.s rfl (s.alloc (cs := [.int .i64 0, .string (⟨#[]⟩), .int .i64 0, .int .i64 0]) tZero_52 rfl rfl) fun b4 => ?_
    refine R.s rfl (s.st (us := [.int .i64 x1.Port, .string x1.Data, .int .i64 x1.Badge, .int .i64 x1.Writ]) (cs' := [.int .i64 x1.Port, .string x1.Data, .int .i64 x1.Badge, .int .i64 x1.Writ]) 0 _ rfl rfl rfl rfl (.inl tAgg_52) rfl rfl rfl rfl) fun _ => ?_
    refine R.nil ?_
    refine R.reg rfl <| R.q (q.fld (off' := 0) rfl tFld_30_0 rfl) rfl <| R.q (q.ld 7 rfl rfl tOne_25 rfl) rfl <| R.q (q.fld (off' := 3) rfl tFld_52_3 rfl) rfl <| R.q (q.ld 0 rfl rfl tOne_3 rfl) rfl <| ?_
    rcases findW_cases m.Writs x1.Writ with ⟨c1f, c1n⟩ | ⟨c1j, c1h, c1f, c1e, c1m⟩
    · refine R.c (q.call eg_24 rfl rfl (fun w hw => (cv (congrArg (Value.int .i64) c1f) (find_any _ (m.Writs) (x1.Writ) w ((fun _ => Wd.fls 0 rfl) w hw) )))) rfl <| R.q (q.lss (b := true) rfl rfl (by decide)) rfl <| R.nil ?_
      refine R.condT rfl rfl ?_
      refine R.reg rfl <| R.q (q.fld (off' := 3) rfl tFld_52_3 rfl) rfl <| ?_
      refine R.s rfl (s.st (us := [.int .i64 0]) (cs' := [.int .i64 x1.Port, .string x1.Data, .int .i64 x1.Badge, .int .i64 0]) 0 _ rfl rfl rfl rfl (.inr ⟨tOne_3, rfl⟩) rfl rfl rfl rfl) fun _ => ?_
      refine R.nil ?_
      refine R.reg rfl <| R.q (q.ld 4 rfl rfl tOne_116 rfl) rfl <| R.q (q.fld (off' := 0) rfl tFld_52_0 rfl) rfl <| R.q (q.ld 0 rfl rfl tOne_3 rfl) rfl <| ?_
      rcases Bool.eq_false_or_eq_true (decide (x1.Port ∈ (thingsL m.Writs))) with h2 | h2
      · refine R.c (q.call eg_77 rfl rfl (fun w hw => (cv (congrArg Value.bool h2) (containsI_any _ ((thingsL m.Writs)) (x1.Port) w ((fun _ => Wd.row 5 rfl) w hw) )))) rfl <| R.nil ?_
        refine R.condT rfl rfl ?_
        refine R.reg rfl <| R.u 1 rfl <| R.q (q.ldS 0 rfl rfl tAgg_52) rfl <| ?_
        refine R.s rfl (s.bs (l := ([(⟨x1.Port, x1.Data, x1.Badge, 0⟩ : Note)] : List Note)) tSl_28 tZero_52 rfl rfl rfl rfl rfl rfl rfl) fun b5 => ?_
        refine R.s rfl (s.app (l2 := [(⟨x1.Port, x1.Data, x1.Badge, 0⟩ : Note)]) 2 _ rfl rfl rfl (fun _ => Wd.row 0 rfl) tApp_28 (by first | omega | (simp; omega)) (by first | omega | (simp; omega)) (fun _ => rfl) rfl) fun v2 => ?_
        refine R.u 1 rfl <| R.nil ?_
        refine R.reg rfl <| R.q §7 rfl <| R.u 1 rfl <| R.nil ?_
        refine R.back (k + 1, v2, (ns ++ ([(⟨x1.Port, x1.Data, x1.Badge, 0⟩ : Note)])), vl, ls) rfl §5 (by dsimp only; omega) ⟨rfl, rfl, rfl, rfl, rfl, rfl, rfl, rfl, trivial⟩ (fun _ => Wd.pik [2, 3, 4, 5, 6, 7, 8, 9] [0, 1, 2, 3, 4, 5, 6, 7] rfl rfl rfl)
      · refine R.c (q.call eg_77 rfl rfl (fun w hw => (cv (congrArg Value.bool h2) (containsI_any _ ((thingsL m.Writs)) (x1.Port) w ((fun _ => Wd.row 5 rfl) w hw) )))) rfl <| R.nil ?_
        refine R.condF rfl rfl ?_
        refine R.reg rfl <| R.q (q.fld (off' := 3) rfl tFld_52_3 rfl) rfl <| R.q (q.ld 0 rfl rfl tOne_3 rfl) rfl <| R.q (q.gtr (b := false) rfl rfl (by decide)) rfl <| R.nil ?_
        refine R.condF rfl rfl ?_
        refine R.reg rfl <| R.q §7 rfl <| R.u 1 rfl <| R.nil ?_
        refine R.back (k + 1, vn, ns, vl, ls) rfl §4 (by dsimp only; omega) ⟨rfl, rfl, rfl, rfl, rfl, rfl, rfl, rfl, trivial⟩ (fun _ => Wd.pik [1, 2, 3, 4, 5, 6, 7, 8] [0, 1, 2, 3, 4, 5, 6, 7] rfl rfl rfl)
    · refine R.c (q.call eg_24 rfl rfl (fun w hw => (cv (congrArg (Value.int .i64) c1f) (find_any _ (m.Writs) (x1.Writ) w ((fun _ => Wd.fls 0 rfl) w hw) )))) rfl <| R.q (q.lss rfl rfl (decide_eq_false (by omega))) rfl <| R.nil ?_
      refine R.condF rfl rfl ?_
      refine R.reg rfl <| R.q (q.ld 4 rfl rfl tOne_116 rfl) rfl <| R.q (q.fld (off' := 0) rfl tFld_52_0 rfl) rfl <| R.q (q.ld 0 rfl rfl tOne_3 rfl) rfl <| ?_
      rcases Bool.eq_false_or_eq_true (decide (x1.Port ∈ (thingsL m.Writs))) with h3 | h3
      · refine R.c (q.call eg_77 rfl rfl (fun w hw => (cv (congrArg Value.bool h3) (containsI_any _ ((thingsL m.Writs)) (x1.Port) w ((fun _ => Wd.row 5 rfl) w hw) )))) rfl <| R.nil ?_
        refine R.condT rfl rfl ?_
        refine R.reg rfl <| R.u 1 rfl <| R.q (q.ldS 0 rfl rfl tAgg_52) rfl <| ?_
        refine R.s rfl (s.bs (l := ([x1] : List Note)) tSl_28 tZero_52 rfl rfl rfl rfl rfl rfl rfl) fun b6 => ?_
        refine R.s rfl (s.app (l2 := [x1]) 2 _ rfl rfl rfl (fun _ => Wd.row 0 rfl) tApp_28 (by first | omega | (simp; omega)) (by first | omega | (simp; omega)) (fun _ => rfl) rfl) fun v3 => ?_
        refine R.u 1 rfl <| R.nil ?_
        refine R.reg rfl <| R.q §7 rfl <| R.u 1 rfl <| R.nil ?_
        refine R.back (k + 1, v3, (ns ++ ([x1])), vl, ls) rfl §5 (by dsimp only; omega) ⟨rfl, rfl, rfl, rfl, rfl, rfl, rfl, rfl, trivial⟩ (fun _ => Wd.pik [2, 3, 4, 5, 6, 7, 8, 9] [0, 1, 2, 3, 4, 5, 6, 7] rfl rfl rfl)
      · refine R.c (q.call eg_77 rfl rfl (fun w hw => (cv (congrArg Value.bool h3) (containsI_any _ ((thingsL m.Writs)) (x1.Port) w ((fun _ => Wd.row 5 rfl) w hw) )))) rfl <| R.nil ?_
        refine R.condF rfl rfl ?_
        refine R.reg rfl <| R.q (q.fld (off' := 3) rfl tFld_52_3 rfl) rfl <| R.q (q.ld 0 rfl rfl tOne_3 rfl) rfl <| ?_
        by_cases h4 : 0 < x1.Writ
        · refine R.q (q.gtr rfl rfl (decide_eq_true (by omega))) rfl <| R.nil ?_
          refine R.condT rfl rfl ?_
          refine R.reg rfl <| R.u 1 rfl <| R.q (q.fld (off' := 3) rfl tFld_52_3 rfl) rfl <| R.q (q.ld 0 rfl rfl tOne_3 rfl) rfl <| ?_
          refine R.s rfl (s.bs (l := ([x1.Writ] : List Int)) tSl_116 tZero_3 rfl rfl rfl rfl rfl rfl rfl) fun b7 => ?_
          refine R.s rfl (s.app (l2 := [x1.Writ]) 3 _ rfl rfl rfl (fun _ => Wd.row 0 rfl) tApp_116 (by first | omega | (simp; omega)) (by first | omega | (simp; omega)) (fun _ => rfl) rfl) fun v4 => ?_
          refine R.u 1 rfl <| R.nil ?_
          refine R.reg rfl <| R.q §7 rfl <| R.u 1 rfl <| R.nil ?_
          refine R.back (k + 1, vn, ns, v4, (ls ++ ([x1.Writ]))) rfl (by (have e0 := hx1; first | (have e1 := fixN_yes (ws := m.Writs) c1f; have e2 := lost_snoc e0 (by rw [e1]; exact of_decide_eq_false (by assumption)) (by rw [e1]; assumption); rw [e1] at e2; exact ⟨by omega, by rw [e2.1, HN], by rw [e2.2, HL]⟩) | (exfalso; omega))) (by dsimp only; omega) ⟨rfl, rfl, rfl, rfl, rfl, rfl, rfl, rfl, trivial⟩ (fun _ => Wd.pik [2, 3, 4, 5, 6, 7, 8, 9] [0, 1, 2, 3, 4, 5, 6, 7] rfl rfl rfl)
        · refine R.q (q.gtr rfl rfl (decide_eq_false (by omega))) rfl <| R.nil ?_
          refine R.condF rfl rfl ?_
          refine R.reg rfl <| R.q §7 rfl <| R.u 1 rfl <| R.nil ?_
          refine R.back (k + 1, vn, ns, vl, ls) rfl §4 (by dsimp only; omega) ⟨rfl, rfl, rfl, rfl, rfl, rfl, rfl, rfl, trivial⟩ (fun _ => Wd.pik [1, 2, 3, 4, 5, 6, 7, 8] [0, 1, 2, 3, 4, 5, 6, 7] rfl rfl rfl)
  · refine R.q (q.lss rfl rfl (decide_eq_false (by omega))) rfl <| R.nil ?_
    refine R.condF rfl rfl ?_
    refine R.reg rfl <| R.u 1 rfl <| R.q (q.fld (off' := 3) rfl tFld_30_3 rfl) rfl <| ?_
    refine R.s rfl (s.stV (us := [vn]) (cs' := [m_W, z2, m_H, vn, .int .i64 m.NextWrit, .int .i64 m.NextThing]) 6 _ rfl rfl rfl (fun w hw => Sl.cells1 ((fun _ => Wd.row 0 rfl) w hw)) (.inr ⟨tOne_28, rfl⟩) (fun w hw => (one_cons (Sl.one ((fun _ => Wd.row 0 rfl) w hw)) one_nil)) rfl rfl rfl) fun _ => ?_
    refine R.nil ?_
    refine R.reg rfl <| R.q (q.fld (off' := 2) rfl tFld_30_2 rfl) rfl <| R.q (q.ld 6 rfl rfl tOne_27 rfl) rfl <| ?_
    refine R.s (B' := (fun bz0_ : Value => [Res.row 93 bz0_ (m.Held : List Held), Res.row 52 vn (ns : List Note), Res.row 3 vl (ls : List Int), Res.row 74 z2 (m.Things.filter §2 : List Thing), Res.box b3 [v1] 116, Res.row 3 v1 ((thingsL m.Writs) : List Int), Res.box b2 §0 30, Res.box b1 [m_W, z2, m_H, vn, .int .i64 m.NextWrit, .int .i64 m.NextThing] 30, Res.held w own])) (F' := (fun bz0_ : Value => §1)) rfl (s.callV (B0 := []) (Br := §6) (F0 := [Res.ls m_H (m.Held : List Held)]) [0, 1, 2, 3, 4, 5, 6, 7] [2] (fun bz0_ : Value => bz0_) (fun bz0_ : Value => [Res.row 93 bz0_ (m.Held : List Held)]) (fun bz0_ : Value => []) rfl rfl rfl eg_46 rfl rfl (fun w own hw H => cloneHeld_any m_H (m.Held) w own H (by first | omega | assumption | (simp; done) | (simp; omega))) rfl) fun z3 => ?_
    refine R.q (q.mkf (cap := [.pointer (some ⟨b1, 0, none⟩)]) rfl rfl) rfl <| ?_
    refine R.s (B' := (fun bz0_ : Value => [Res.row 93 bz0_ ((m.Held.filter §3) : List Held), Res.row 52 vn (ns : List Note), Res.row 3 vl (ls : List Int), Res.row 74 z2 (m.Things.filter §2 : List Thing), Res.box b3 [v1] 116, Res.row 3 v1 ((thingsL m.Writs) : List Int), Res.box b2 §0 30, Res.box b1 [m_W, z2, m_H, vn, .int .i64 m.NextWrit, .int .i64 m.NextThing] 30, Res.held w own])) (F' := (fun bz0_ : Value => §1)) rfl (s.callV (B0 := [Res.row 93 z3 (m.Held : List Held)]) (Br := §6) (F0 := []) [0, 1, 2, 3, 4, 5, 6, 7, 8] [] (fun bz0_ : Value => bz0_) (fun bz0_ : Value => [Res.row 93 bz0_ ((m.Held.filter §3) : List Held)]) (fun bz0_ : Value => []) rfl rfl rfl eg_78 rfl rfl (fun w own hw H => delFuncHeld_any z3 (m.Held) (fun (h : Held) => decide (findW (⟨m.Writs, m.Things.filter §2, m.Held, ns, m.NextWrit, m.NextThing⟩ : Realm).Writs h.Writ < 0)) _ _ eg_79 w own H (fun W h hU => sweepLit2_any h _ _ _ _ ((⟨m.Writs, m.Things.filter §2, m.Held, ns, m.NextWrit, m.NextThing⟩ : Realm)) _ W (hw.stayB 7 0 rfl rfl (by decide) hU) (hw.stayF 0 0 rfl rfl hU) (Own.sl (hw.stayB 3 0 rfl rfl (by decide) hU)) (hw.stayF 2 0 rfl rfl hU) (Own.sl (hw.stayB 1 0 rfl rfl (by decide) hU)) ) (by first | omega | assumption | (simp; done) | (simp; omega))) rfl) fun z4 => ?_
    refine R.q (q.fld (off' := 2) rfl tFld_30_2 rfl) rfl <| ?_
    refine R.s rfl (s.stV (us := [z4]) (cs' := [m_W, z2, z4, vn, .int .i64 m.NextWrit, .int .i64 m.NextThing]) 7 _ rfl rfl rfl (fun w hw => Sl.cells1 ((fun _ => Wd.row 0 rfl) w hw)) (.inr ⟨tOne_27, rfl⟩) (fun w hw => (one_cons (Sl.one ((fun _ => Wd.row 0 rfl) w hw)) one_nil)) rfl rfl rfl) fun _ => ?_
    refine R.nil ?_
    refine R.reg rfl <| R.u 1 rfl <| R.q (q.len' (fun _ => Wd.row 2 rfl) rfl Tryz.underlying116) rfl <| ?_
    by_cases h5 : ls.length = 0
    · refine R.q (q.eql rfl rfl (beq_iff_eq.2 (by omega))) rfl <| R.nil ?_
      refine R.condT rfl rfl ?_
      refine R.reg rfl <| R.q (q.ldS 7 rfl rfl tAgg_30) rfl <| ?_
      refine R.s rfl (s.stV (us := [m_W, z2, z4, vn, .int .i64 m.NextWrit, .int .i64 m.NextThing]) (cs' := [m_W, z2, z4, vn, .int .i64 m.NextWrit, .int .i64 m.NextThing]) 6 _ rfl rfl rfl (fun _ _ => rfl) (.inl tAgg_30) (fun w hw => (one_cons (Sl.one ((fun _ => Wd.fls 0 rfl) w hw)) (one_cons (Sl.one ((fun _ => Wd.row 3 rfl) w hw)) (one_cons (Sl.one ((fun _ => Wd.row 0 rfl) w hw)) (one_cons (Sl.one ((fun _ => Wd.row 1 rfl) w hw)) (one_cons rfl (one_cons rfl one_nil))))))) rfl rfl rfl) fun _ => ?_
      refine R.nil ?_
      refine R.mp (B' := [Res.row 93 z4 (m.Held.filter §3 : List Held), Res.row 52 vn (ns : List Note), Res.row 3 vl (ls : List Int), Res.box b3 [v1] 116, Res.row 3 v1 ((thingsL m.Writs) : List Int), Res.box b2 [m_W, z2, z4, vn, .int .i64 m.NextWrit, .int .i64 m.NextThing] 30, Res.box b1 [m_W, z2, z4, vn, .int .i64 m.NextWrit, .int .i64 m.NextThing] 30, Res.held w own]) (fun _ hw => hw.lendL 3 _ rfl rfl) ?_
      refine R.mp (B' := [Res.row 52 vn (ns : List Note), Res.row 3 vl (ls : List Int), Res.box b3 [v1] 116, Res.row 3 v1 ((thingsL m.Writs) : List Int), Res.box b2 [m_W, z2, z4, vn, .int .i64 m.NextWrit, .int .i64 m.NextThing] 30, Res.box b1 [m_W, z2, z4, vn, .int .i64 m.NextWrit, .int .i64 m.NextThing] 30, Res.held w own]) (fun _ hw => hw.lendL 0 _ rfl rfl) ?_
      refine R.mp (B' := [Res.row 3 vl (ls : List Int), Res.box b3 [v1] 116, Res.row 3 v1 ((thingsL m.Writs) : List Int), Res.box b2 [m_W, z2, z4, vn, .int .i64 m.NextWrit, .int .i64 m.NextThing] 30, Res.box b1 [m_W, z2, z4, vn, .int .i64 m.NextWrit, .int .i64 m.NextThing] 30, Res.held w own]) (fun _ hw => hw.lendL 0 _ rfl rfl) ?_
      have hz : sweepR r = (⟨m.Writs, m.Things.filter §2, m.Held.filter §3, ns, m.NextWrit, m.NextThing⟩ : Realm) := by (rw [List.take_of_length_le (by omega)] at HN HL; rw [← HS, sweepR_done (by show (lostN _ _ _).length = 0; rw [← HL]; assumption)]; unfold sweepS; rw [← HN])
      rw [hz]
      exact R.w1 (m_W, z2, z4, vn) [5] [3, 2, 1, 0] rfl Tryz.results41 (RV.cell 3 rfl rfl tAgg_30) rfl rfl rfl rfl
    · refine R.q (q.eql rfl rfl (beq_eq_false_iff_ne.2 (by omega))) rfl <| R.nil ?_
      refine R.condF rfl rfl ?_
      refine R.reg rfl <| R.u 1 rfl <| R.q (q.len' (fun _ => Wd.row 2 rfl) rfl Tryz.underlying116) rfl <| R.u 1 rfl <| R.nil ?_
      refine R.loop (fun g_ : Nat × Value × (List Writ) => [(1, .pointer (some ⟨b1, 0, none⟩)), (2, .pointer (some ⟨b2, 0, none⟩)), (62, vl), (63, .int .i64 (ls.length : Int)), (64, .int .i64 (g_.1 : Int))]) (fun g_ : Nat × Value × (List Writ) => [Res.row 93 z4 (m.Held.filter §3 : List Held), Res.row 52 vn (ns : List Note), Res.row 3 vl (ls : List Int), Res.row 74 z2 (m.Things.filter §2 : List Thing), Res.box b3 [v1] 116, Res.row 3 v1 ((thingsL m.Writs) : List Int), Res.box b2 §0 30, Res.box b1 [g_.2.1, z2, z4, vn, .int .i64 m.NextWrit, .int .i64 m.NextThing] 30, Res.held w own]) (fun g_ : Nat × Value × (List Writ) => [Res.ls g_.2.1 (g_.2.2 : List Writ), Res.ls m_W (m.Writs : List Writ), Res.ls m_T (m.Things : List Thing), Res.ls m_H (m.Held : List Held), Res.ls m_N (m.Notes : List Note), Res.ls v_rW (r.Writs : List Writ), Res.ls v_rT (r.Things : List Thing), Res.ls v_rH (r.Held : List Held), Res.ls v_rN (r.Notes : List Note)]) (fun g_ : Nat × Value × (List Writ) => g_.1 ≤ ls.length ∧ g_.2.2 = (ls.take g_.1).foldl without m.Writs) (fun g_ : Nat × Value × (List Writ) => ls.length - g_.1) (0, m_W, m.Writs) rfl (by exact ⟨by omega, rfl⟩) ⟨rfl, rfl, rfl, rfl, rfl, trivial⟩ (fun _ => Wd.pick [0, 1, 2, 3, 4, 5, 6, 7, 8] [0, 0, 1, 2, 3, 4, 5, 6, 7] rfl rfl rfl) ?_
      rintro ⟨j, vw, ws⟩ ⟨hj1, HW⟩
      dsimp only at *
      have hws : ws.length ≤ 2000 := by rw [HW]; exact Nat.le_trans (fold_len _ _) hok.wl
      refine R.reg rfl <| ?_
      by_cases h6 : j < ls.length
      · refine R.q (q.lss rfl rfl (decide_eq_true (by omega))) rfl <| R.nil ?_
        refine R.condT rfl rfl ?_
        refine R.reg rfl <| ?_
        obtain ⟨x2, hx2⟩ : ∃ z, ls[j]? = some z := ⟨_, List.getElem?_eq_getElem (by omega)⟩
        refine R.q (q.idx (i := j) (fun _ => Wd.row 2 rfl) rfl rfl tSl_116 rfl hx2) rfl <| R.q (q.ldE (fun _ => Wd.row 2 rfl) hx2 rfl tOne_3 rfl) rfl <| R.u 1 rfl <| R.nil ?_
        refine R.reg rfl <| R.q (q.fld (off' := 0) rfl tFld_30_0 rfl) rfl <| R.q (q.ld 7 rfl rfl tOne_25 rfl) rfl <| R.u 1 rfl <| ?_
        refine R.s rfl (s.callO eg_40 rfl rfl (fun w hw => without_any _ (ws) (x2) w ((fun _ => Wd.fls 0 rfl) w hw) (by first | omega | assumption)) rfl) fun v5 => ?_
        refine R.q (q.fld (off' := 0) rfl tFld_30_0 rfl) rfl <| ?_
        refine R.s rfl (s.stV (us := [v5]) (cs' := [v5, z2, z4, vn, .int .i64 m.NextWrit, .int .i64 m.NextThing]) 8 _ rfl rfl rfl (fun w hw => Sl.cells1 ((fun _ => Wd.row 0 rfl) w hw)) (.inr ⟨tOne_25, rfl⟩) (fun w hw => (one_cons (Sl.one ((fun _ => Wd.row 0 rfl) w hw)) one_nil)) rfl rfl rfl) fun _ => ?_
        refine R.nil ?_
        refine R.reg rfl <| R.q (q.add (r := ((j + 1 : Nat) : Int)) rfl rfl (wr (by omega))) rfl <| R.u 1 rfl <| R.nil ?_
        refine R.mp (B' := [Res.row 93 z4 (m.Held.filter §3 : List Held), Res.row 52 vn (ns : List Note), Res.row 3 vl (ls : List Int), Res.row 74 z2 (m.Things.filter §2 : List Thing), Res.box b3 [v1] 116, Res.row 3 v1 ((thingsL m.Writs) : List Int), Res.box b2 §0 30, Res.box b1 [v5, z2, z4, vn, .int .i64 m.NextWrit, .int .i64 m.NextThing] 30, Res.held w own]) (fun _ hw => hw.lendL 0 _ rfl rfl) ?_
        refine R.back (j + 1, v5, (without ws x2)) rfl (by (exact ⟨by omega, by rw [List.take_add_one, hx2, HW]; simp⟩)) (by dsimp only; omega) ⟨rfl, rfl, rfl, rfl, rfl, trivial⟩ (fun _ => Wd.pik [0, 1, 2, 3, 4, 5, 6, 7, 8] [0, 2, 3, 4, 5, 6, 7, 8, 9] rfl rfl rfl)
      · refine R.q (q.lss rfl rfl (decide_eq_false (by omega))) rfl <| R.nil ?_
        refine R.condF rfl rfl ?_
        refine R.mp (B' := [Res.row 93 z4 (m.Held.filter §3 : List Held), Res.row 52 vn (ns : List Note), Res.row 3 vl (ls : List Int), Res.box b3 [v1] 116, Res.row 3 v1 ((thingsL m.Writs) : List Int), Res.box b2 §0 30, Res.box b1 [vw, z2, z4, vn, .int .i64 m.NextWrit, .int .i64 m.NextThing] 30, Res.held w own]) (fun _ hw => hw.lendL 3 _ rfl rfl) ?_
        refine R.mp (B' := [Res.row 52 vn (ns : List Note), Res.row 3 vl (ls : List Int), Res.box b3 [v1] 116, Res.row 3 v1 ((thingsL m.Writs) : List Int), Res.box b2 §0 30, Res.box b1 [vw, z2, z4, vn, .int .i64 m.NextWrit, .int .i64 m.NextThing] 30, Res.held w own]) (fun _ hw => hw.lendL 0 _ rfl rfl) ?_
        refine R.mp (B' := [Res.row 3 vl (ls : List Int), Res.box b3 [v1] 116, Res.row 3 v1 ((thingsL m.Writs) : List Int), Res.box b2 §0 30, Res.box b1 [vw, z2, z4, vn, .int .i64 m.NextWrit, .int .i64 m.NextThing] 30, Res.held w own]) (fun _ hw => hw.lendL 0 _ rfl rfl) ?_
        refine R.back ((⟨ws, m.Things.filter §2, m.Held.filter §3, ns, m.NextWrit, m.NextThing⟩ : Realm), vw, z2, z4, vn) rfl (by (rw [List.take_of_length_le (by omega)] at HN HL; rw [List.take_of_length_le (by omega)] at HW; have hl : lostS m = ls := HL.symm; have e : sweepN m = (⟨ws, m.Things.filter (fun t => !!decide (t.ID ∈ thingsL m.Writs)), m.Held.filter (fun h => !decide (findW m.Writs h.Writ < 0)), ns, m.NextWrit, m.NextThing⟩ : Realm) := (by unfold sweepN; rw [hl, ← HW]; unfold sweepS; rw [← HN]); exact Eq.mp (congrArg (fun q : Realm => Ok q ∧ sweepR q = sweepR r) e) ⟨hok.sweepN, (sweepR_next (by rw [hl]; assumption)).symm.trans HS⟩)) (by dsimp only; omega) ⟨rfl, rfl, trivial⟩ (fun _ => Wd.pik [3, 4, 5] [3, 2, 1, 0, 8, 9, 10, 11] rfl rfl rfl)

end Go.Proofs.YtpipachmngdegaaGreat
end
