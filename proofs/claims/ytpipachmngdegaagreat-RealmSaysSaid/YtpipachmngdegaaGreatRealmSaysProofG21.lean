import Derived.Test.YtpipachmngdegaaGreatRealmSaysProofG19
import Derived.Test.YtpipachmngdegaaGreatRealmSaysProofG9
import Derived.Test.YtpipachmngdegaaGreatRealmSaysProofG20
section
/-
  The walks of chapter 3: whether writs are right, and writs without one.
-/
namespace Go.Proofs.YtpipachmngdegaaGreat
open Go Go.RowKit
set_option linter.unusedVariables false
set_option maxRecDepth 100000
set_option hygiene false
local macro:max "§0" : term => `((q.add (r := ((k + 1 : Nat) : Int)) rfl rfl (wr (by omega))))
local macro:max "§1" : term => `([.int .i64 x1.ID, .int .i64 x1.Thing, .int .i64 x1.Rights, .int .i64 x1.Badge, .int .i64 x1.From])
local macro:max "§2" : term => `([.int .i64 x2.ID, .int .i64 x2.Thing, .int .i64 x2.Rights, .int .i64 x2.Badge, .int .i64 x2.From])
local macro:max "§3" : term => `((fun _ => Wd.old s_l))
local macro:max "§4" : term => `((⟨x2.ID, x2.Thing, x2.Rights, x2.Badge, (l[c1j]).From⟩ : Writ))
local macro:max "§5" : term => `((s.alloc (cs := [.int .i64 0, .int .i64 0, .int .i64 0, .int .i64 0, .int .i64 0]) tZero_39 rfl rfl))
local macro:max "§6" : term => `((fun g_ : Nat × Value × (List Writ) => [Res.row 39 g_.2.1 (g_.2.2 : List Writ)]))

theorem without_any (v_l : Value) (l : List Writ) (id : Int) (w : World) (s_l : Sl w v_l l) (hl : l.length ≤ 1000000) : Calls Tryz.prog 40 #[v_l, .int .i64 id] w fun e w' => ∃ u, e = .returned u ∧ Own w.heap.size 39 w' u (without l id) ∧ Ext w w' := by
  have b_l := s_l.lenle
  refine R.enter (n := 42) (vs := [v_l, .int .i64 id]) [] [(0, v_l), (1, .int .i64 id)] Tryz.func40 rfl rfl rfl rfl ?_
  refine R.reg rfl <| R.u 1 rfl <| R.nil ?_
  refine R.reg rfl <| R.u 1 rfl <| R.nil ?_
  refine R.reg rfl <| R.u 1 rfl <| R.nil ?_
  refine R.reg rfl <| R.u 2 rfl <| ?_
  rcases findW_cases l id with ⟨c1f, c1n⟩ | ⟨c1j, c1h, c1f, c1e, c1m⟩
  · refine R.c (q.call eg_24 rfl rfl (fun w hw => (cv (congrArg (Value.int .i64) c1f) (find_any _ (l) (id) w (§3 w hw) )))) rfl <| R.u 1 rfl <| R.nil ?_
    refine R.reg rfl <| R.u 1 rfl <| R.q (q.geq (b := false) rfl rfl (by decide)) rfl <| R.nil ?_
    refine R.condF rfl rfl ?_
    refine R.reg rfl <| R.u 1 rfl <| R.q (q.len' §3 rfl Tryz.underlying25) rfl <| R.u 1 rfl <| R.nil ?_
    refine R.row0 (α := Writ) 39 ?_
    refine R.loop (fun g_ : Nat × Value × (List Writ) => [(1, .int .i64 id), (5, g_.2.1), (6, .int .i64 0), (20, v_l), (21, .int .i64 (l.length : Int)), (22, .int .i64 (g_.1 : Int))]) §6 (fun g_ : Nat × Value × (List Writ) => []) (fun g_ : Nat × Value × (List Writ) => g_.1 ≤ l.length ∧ g_.2.2 = woG id 0 (l.take g_.1)) (fun g_ : Nat × Value × (List Writ) => l.length - g_.1) (0, (.slice none 0 0), []) rfl (by exact ⟨by simp, by simp [woG, woRG]⟩) ⟨rfl, rfl, rfl, rfl, rfl, rfl, trivial⟩ (fun _ => Wd.pick [0] [] rfl rfl rfl) ?_
    rintro ⟨k, v, acc⟩ ⟨hk, HA⟩
    dsimp only at *
    have hal : acc.length ≤ k := by rw [HA]; exact Nat.le_trans (woG_len _ _ _) (List.length_take_le _ _)
    refine R.reg rfl <| ?_
    by_cases h1 : k < l.length
    · refine R.q (q.lss rfl rfl (decide_eq_true (by omega))) rfl <| R.nil ?_
      refine R.condT rfl rfl ?_
      refine R.reg rfl <| ?_
      obtain ⟨x1, hx1⟩ : ∃ z, l[k]? = some z := ⟨_, List.getElem?_eq_getElem (by omega)⟩
      refine R.q (q.idx (i := k) §3 rfl rfl tSl_25 rfl hx1) rfl <| R.q (q.ldES (ds := §1) §3 hx1 rfl tAgg_39 rfl) rfl <| ?_
      refine R.s rfl §5 fun b1 => ?_
      refine R.s rfl (s.st (us := §1) (cs' := §1) 0 _ rfl rfl rfl rfl (.inl tAgg_39) rfl rfl rfl rfl) fun _ => ?_
      refine R.nil ?_
      refine R.reg rfl <| R.q (q.fld (off' := 0) rfl tFld_39_0 rfl) rfl <| R.q (q.ld 0 rfl rfl tOne_3 rfl) rfl <| R.u 1 rfl <| ?_
      by_cases h2 : x1.ID = id
      · refine R.q (q.eql rfl rfl (beq_iff_eq.2 (by omega))) rfl <| R.nil ?_
        refine R.condT rfl rfl ?_
        refine R.reg rfl <| R.q §0 rfl <| R.u 1 rfl <| R.nil ?_
        refine R.back (k + 1, v, acc) rfl (by (exact ⟨by omega, by rw [HA, woG_hit hx1 (by assumption)]⟩)) (by dsimp only; omega) ⟨rfl, rfl, rfl, rfl, rfl, rfl, trivial⟩ (fun _ => Wd.pick [1] [] rfl rfl rfl)
      · refine R.q (q.eql rfl rfl (beq_eq_false_iff_ne.2 (by omega))) rfl <| R.nil ?_
        refine R.condF rfl rfl ?_
        refine R.reg rfl <| R.q (q.fld (off' := 4) rfl tFld_39_4 rfl) rfl <| R.q (q.ld 0 rfl rfl tOne_3 rfl) rfl <| R.u 1 rfl <| ?_
        by_cases h3 : x1.From = id
        · refine R.q (q.eql rfl rfl (beq_iff_eq.2 (by omega))) rfl <| R.nil ?_
          refine R.condT rfl rfl ?_
          refine R.reg rfl <| R.u 1 rfl <| R.q (q.fld (off' := 4) rfl tFld_39_4 rfl) rfl <| ?_
          refine R.s rfl (s.st (us := [.int .i64 0]) (cs' := [.int .i64 x1.ID, .int .i64 x1.Thing, .int .i64 x1.Rights, .int .i64 x1.Badge, .int .i64 0]) 0 _ rfl rfl rfl rfl (.inr ⟨tOne_3, rfl⟩) rfl rfl rfl rfl) fun _ => ?_
          refine R.nil ?_
          refine R.reg rfl <| R.u 1 rfl <| R.q (q.ldS 0 rfl rfl tAgg_39) rfl <| ?_
          refine R.s rfl (s.bs (l := ([(⟨x1.ID, x1.Thing, x1.Rights, x1.Badge, 0⟩ : Writ)] : List Writ)) tSl_25 tZero_39 rfl rfl rfl rfl rfl rfl rfl) fun b2 => ?_
          refine R.s rfl (s.app (l2 := [(⟨x1.ID, x1.Thing, x1.Rights, x1.Badge, 0⟩ : Writ)]) 2 _ rfl rfl rfl (fun _ => Wd.row 0 rfl) tApp_25 (by simp; omega) (by simp; omega) (fun _ => rfl) rfl) fun v1 => ?_
          refine R.u 1 rfl <| R.nil ?_
          refine R.reg rfl <| R.q §0 rfl <| R.u 1 rfl <| R.nil ?_
          refine R.back (k + 1, v1, (acc ++ ([(⟨x1.ID, x1.Thing, x1.Rights, x1.Badge, 0⟩ : Writ)]))) rfl (by (exact ⟨by omega, by rw [HA, woG_miss hx1 (by assumption), woRe_hit (by assumption)]⟩)) (by dsimp only; omega) ⟨rfl, rfl, rfl, rfl, rfl, rfl, trivial⟩ (fun _ => Wd.pick [2] [] rfl rfl rfl)
        · refine R.q (q.eql rfl rfl (beq_eq_false_iff_ne.2 (by omega))) rfl <| R.nil ?_
          refine R.condF rfl rfl ?_
          refine R.reg rfl <| R.u 1 rfl <| R.q (q.ldS 0 rfl rfl tAgg_39) rfl <| ?_
          refine R.s rfl (s.bs (l := ([x1] : List Writ)) tSl_25 tZero_39 rfl rfl rfl rfl rfl rfl rfl) fun b3 => ?_
          refine R.s rfl (s.app (l2 := [x1]) 2 _ rfl rfl rfl (fun _ => Wd.row 0 rfl) tApp_25 (by simp; omega) (by simp; omega) (fun _ => rfl) rfl) fun v2 => ?_
          refine R.u 1 rfl <| R.nil ?_
          refine R.reg rfl <| R.q §0 rfl <| R.u 1 rfl <| R.nil ?_
          refine R.back (k + 1, v2, (acc ++ ([x1]))) rfl (by (exact ⟨by omega, by rw [HA, woG_miss hx1 (by assumption), woRe_miss (by assumption)]⟩)) (by dsimp only; omega) ⟨rfl, rfl, rfl, rfl, rfl, rfl, trivial⟩ (fun _ => Wd.pick [2] [] rfl rfl rfl)
    · refine R.q (q.lss rfl rfl (decide_eq_false (by omega))) rfl <| R.nil ?_
      refine R.condF rfl rfl ?_
      refine R.reg rfl <| R.u 2 rfl <| R.nil ?_
      exact R.ro 0 rfl Tryz.results40 rfl rfl (by (rw [HA, List.take_of_length_le (by omega)]; unfold without; rw [fromOf_none c1f]))
  · refine R.c (q.call eg_24 rfl rfl (fun w hw => (cv (congrArg (Value.int .i64) c1f) (find_any _ (l) (id) w (§3 w hw) )))) rfl <| R.u 1 rfl <| R.nil ?_
    refine R.reg rfl <| R.u 1 rfl <| R.q (q.geq rfl rfl (decide_eq_true (by omega))) rfl <| R.nil ?_
    refine R.condT rfl rfl ?_
    refine R.reg rfl <| R.u 2 rfl <| R.q (q.idx (i := c1j) §3 rfl rfl tSl_25 rfl (List.getElem?_eq_getElem c1h)) rfl <| R.q (q.fldE (j' := 4) §3 (List.getElem?_eq_getElem c1h) rfl tFld_39_4 rfl) rfl <| R.q (q.ldE §3 (List.getElem?_eq_getElem c1h) rfl tOne_3 rfl) rfl <| R.u 1 rfl <| R.nil ?_
    refine R.reg rfl <| R.u 1 rfl <| R.q (q.len' §3 rfl Tryz.underlying25) rfl <| R.u 1 rfl <| R.nil ?_
    refine R.row0 (α := Writ) 39 ?_
    refine R.loop (fun g_ : Nat × Value × (List Writ) => [(1, .int .i64 id), (5, g_.2.1), (6, .int .i64 ((l[c1j]).From)), (20, v_l), (21, .int .i64 (l.length : Int)), (22, .int .i64 (g_.1 : Int))]) §6 (fun g_ : Nat × Value × (List Writ) => []) (fun g_ : Nat × Value × (List Writ) => g_.1 ≤ l.length ∧ g_.2.2 = woG id ((l[c1j]).From) (l.take g_.1)) (fun g_ : Nat × Value × (List Writ) => l.length - g_.1) (0, (.slice none 0 0), []) rfl (by exact ⟨by simp, by simp [woG, woRG]⟩) ⟨rfl, rfl, rfl, rfl, rfl, rfl, trivial⟩ (fun _ => Wd.pick [0] [] rfl rfl rfl) ?_
    rintro ⟨k, v, acc⟩ ⟨hk, HA⟩
    dsimp only at *
    have hal : acc.length ≤ k := by rw [HA]; exact Nat.le_trans (woG_len _ _ _) (List.length_take_le _ _)
    refine R.reg rfl <| ?_
    by_cases h4 : k < l.length
    · refine R.q (q.lss rfl rfl (decide_eq_true (by omega))) rfl <| R.nil ?_
      refine R.condT rfl rfl ?_
      refine R.reg rfl <| ?_
      obtain ⟨x2, hx2⟩ : ∃ z, l[k]? = some z := ⟨_, List.getElem?_eq_getElem (by omega)⟩
      refine R.q (q.idx (i := k) §3 rfl rfl tSl_25 rfl hx2) rfl <| R.q (q.ldES (ds := §2) §3 hx2 rfl tAgg_39 rfl) rfl <| ?_
      refine R.s rfl §5 fun b4 => ?_
      refine R.s rfl (s.st (us := §2) (cs' := §2) 0 _ rfl rfl rfl rfl (.inl tAgg_39) rfl rfl rfl rfl) fun _ => ?_
      refine R.nil ?_
      refine R.reg rfl <| R.q (q.fld (off' := 0) rfl tFld_39_0 rfl) rfl <| R.q (q.ld 0 rfl rfl tOne_3 rfl) rfl <| R.u 1 rfl <| ?_
      by_cases h5 : x2.ID = id
      · refine R.q (q.eql rfl rfl (beq_iff_eq.2 (by omega))) rfl <| R.nil ?_
        refine R.condT rfl rfl ?_
        refine R.reg rfl <| R.q §0 rfl <| R.u 1 rfl <| R.nil ?_
        refine R.back (k + 1, v, acc) rfl (by (exact ⟨by omega, by rw [HA, woG_hit hx2 (by assumption)]⟩)) (by dsimp only; omega) ⟨rfl, rfl, rfl, rfl, rfl, rfl, trivial⟩ (fun _ => Wd.pick [1] [] rfl rfl rfl)
      · refine R.q (q.eql rfl rfl (beq_eq_false_iff_ne.2 (by omega))) rfl <| R.nil ?_
        refine R.condF rfl rfl ?_
        refine R.reg rfl <| R.q (q.fld (off' := 4) rfl tFld_39_4 rfl) rfl <| R.q (q.ld 0 rfl rfl tOne_3 rfl) rfl <| R.u 1 rfl <| ?_
        by_cases h6 : x2.From = id
        · refine R.q (q.eql rfl rfl (beq_iff_eq.2 (by omega))) rfl <| R.nil ?_
          refine R.condT rfl rfl ?_
          refine R.reg rfl <| R.u 1 rfl <| R.q (q.fld (off' := 4) rfl tFld_39_4 rfl) rfl <| ?_
          refine R.s rfl (s.st (us := [.int .i64 ((l[c1j]).From)]) (cs' := [.int .i64 x2.ID, .int .i64 x2.Thing, .int .i64 x2.Rights, .int .i64 x2.Badge, .int .i64 ((l[c1j]).From)]) 0 _ rfl rfl rfl rfl (.inr ⟨tOne_3, rfl⟩) rfl rfl rfl rfl) fun _ => ?_
          refine R.nil ?_
          refine R.reg rfl <| R.u 1 rfl <| R.q (q.ldS 0 rfl rfl tAgg_39) rfl <| ?_
          refine R.s rfl (s.bs (l := ([§4] : List Writ)) tSl_25 tZero_39 rfl rfl rfl rfl rfl rfl rfl) fun b5 => ?_
          refine R.s rfl (s.app (l2 := [§4]) 2 _ rfl rfl rfl (fun _ => Wd.row 0 rfl) tApp_25 (by simp; omega) (by simp; omega) (fun _ => rfl) rfl) fun v3 => ?_
          refine R.u 1 rfl <| R.nil ?_
          refine R.reg rfl <| R.q §0 rfl <| R.u 1 rfl <| R.nil ?_
          refine R.back (k + 1, v3, (acc ++ ([§4]))) rfl (by (exact ⟨by omega, by rw [HA, woG_miss hx2 (by assumption), woRe_hit (by assumption)]⟩)) (by dsimp only; omega) ⟨rfl, rfl, rfl, rfl, rfl, rfl, trivial⟩ (fun _ => Wd.pick [2] [] rfl rfl rfl)
        · refine R.q (q.eql rfl rfl (beq_eq_false_iff_ne.2 (by omega))) rfl <| R.nil ?_
          refine R.condF rfl rfl ?_
          refine R.reg rfl <| R.u 1 rfl <| R.q (q.ldS 0 rfl rfl tAgg_39) rfl <| ?_
          refine R.s rfl (s.bs (l := ([x2] : List Writ)) tSl_25 tZero_39 rfl rfl rfl rfl rfl rfl rfl) fun b6 => ?_
          refine R.s rfl (s.app (l2 := [x2]) 2 _ rfl rfl rfl (fun _ => Wd.row 0 rfl) tApp_25 (by simp; omega) (by simp; omega) (fun _ => rfl) rfl) fun v4 => ?_
          refine R.u 1 rfl <| R.nil ?_
          refine R.reg rfl <| R.q §0 rfl <| R.u 1 rfl <| R.nil ?_
          refine R.back (k + 1, v4, (acc ++ ([x2]))) rfl (by (exact ⟨by omega, by rw [HA, woG_miss hx2 (by assumption), woRe_miss (by assumption)]⟩)) (by dsimp only; omega) ⟨rfl, rfl, rfl, rfl, rfl, rfl, trivial⟩ (fun _ => Wd.pick [2] [] rfl rfl rfl)
    · refine R.q (q.lss rfl rfl (decide_eq_false (by omega))) rfl <| R.nil ?_
      refine R.condF rfl rfl ?_
      refine R.reg rfl <| R.u 2 rfl <| R.nil ?_
      exact R.ro 0 rfl Tryz.results40 rfl rfl (by (rw [HA, List.take_of_length_le (by omega)]; unfold without; rw [fromOf_some c1f (List.getElem?_eq_getElem c1h)]))

theorem withoutRef_any (v_l : Value) (l : List Writ) (id : Int) (w : World) (s_l : Sl w v_l l) (hl : l.length ≤ 1000000) : Calls Tryz.prog 42 #[v_l, .int .i64 id] w fun e w' => ∃ u, e = .returned u ∧ Own w.heap.size 39 w' u (woRef l id) ∧ Ext w w' := by
  have b_l := s_l.lenle
  refine R.enter (n := 45) (vs := [v_l, .int .i64 id]) [] [(0, v_l), (1, .int .i64 id)] Tryz.func42 rfl rfl rfl rfl ?_
  refine R.reg rfl <| R.u 1 rfl <| R.nil ?_
  refine R.reg rfl <| R.u 1 rfl <| R.nil ?_
  refine R.reg rfl <| R.u 2 rfl <| ?_
  rcases findW_cases l id with ⟨c1f, c1n⟩ | ⟨c1j, c1h, c1f, c1e, c1m⟩
  · refine R.c (q.call eg_27 rfl rfl (fun w hw => (cv (congrArg (Value.int .i64) c1f) (findRef_any _ (l) (id) w (§3 w hw) )))) rfl <| R.u 1 rfl <| R.nil ?_
    refine R.reg rfl <| R.u 1 rfl <| R.nil ?_
    refine R.row0 (α := Writ) 39 ?_
    refine R.loop (fun g_ : Nat × Value × (List Writ) => [(0, v_l), (1, .int .i64 id), (5, g_.2.1), (6, .int .i64 (-1)), (7, .int .i64 (g_.1 : Int))]) §6 (fun g_ : Nat × Value × (List Writ) => []) (fun g_ : Nat × Value × (List Writ) => g_.1 ≤ l.length ∧ g_.2.2 = woRG l id (l.take g_.1)) (fun g_ : Nat × Value × (List Writ) => l.length - g_.1) (0, (.slice none 0 0), []) rfl (by exact ⟨by simp, by simp [woRG]⟩) ⟨rfl, rfl, rfl, rfl, rfl, trivial⟩ (fun _ => Wd.pick [0] [] rfl rfl rfl) ?_
    rintro ⟨k, v, acc⟩ ⟨hk, HA⟩
    dsimp only at *
    have hal : acc.length ≤ k := by rw [HA]; exact Nat.le_trans (woRG_len _ _ _) (List.length_take_le _ _)
    refine R.reg rfl <| R.u 2 rfl <| R.q (q.len' §3 rfl Tryz.underlying25) rfl <| ?_
    by_cases h1 : k < l.length
    · refine R.q (q.lss rfl rfl (decide_eq_true (by omega))) rfl <| R.nil ?_
      refine R.condT rfl rfl ?_
      refine R.reg rfl <| R.u 2 rfl <| ?_
      obtain ⟨x1, hx1⟩ : ∃ z, l[k]? = some z := ⟨_, List.getElem?_eq_getElem (by omega)⟩
      refine R.q (q.idx (i := k) §3 rfl rfl tSl_25 rfl hx1) rfl <| R.q (q.ldES (ds := §1) §3 hx1 rfl tAgg_39 rfl) rfl <| ?_
      refine R.s rfl §5 fun b1 => ?_
      refine R.s rfl (s.st (us := §1) (cs' := §1) 0 _ rfl rfl rfl rfl (.inl tAgg_39) rfl rfl rfl rfl) fun _ => ?_
      refine R.nil ?_
      refine R.reg rfl <| R.u 1 rfl <| R.q (q.geq (b := false) rfl rfl (by decide)) rfl <| R.u 6 rfl <| R.nil ?_
      refine R.condF rfl rfl ?_
      refine R.reg rfl <| R.q (q.fld (off' := 0) rfl tFld_39_0 rfl) rfl <| R.q (q.ld 0 rfl rfl tOne_3 rfl) rfl <| R.u 1 rfl <| ?_
      by_cases h2 : x1.ID = id
      · refine R.q (q.neq rfl rfl (bne_eq_false_iff_eq.2 (by omega))) rfl <| R.nil ?_
        refine R.condF rfl rfl ?_
        refine R.reg rfl <| R.u 1 rfl <| R.q §0 rfl <| R.u 1 rfl <| R.nil ?_
        refine R.back (k + 1, v, acc) rfl (by (exact ⟨by omega, by rw [HA, woRG_hit hx1 (by first | assumption | (have := ‹¬_ ≠ _›; omega))]⟩)) (by dsimp only; omega) ⟨rfl, rfl, rfl, rfl, rfl, trivial⟩ (fun _ => Wd.pick [1] [] rfl rfl rfl)
      · refine R.q (q.neq rfl rfl (bne_iff_ne.2 (by omega))) rfl <| R.nil ?_
        refine R.condT rfl rfl ?_
        refine R.reg rfl <| R.u 1 rfl <| R.q (q.ldS 0 rfl rfl tAgg_39) rfl <| ?_
        refine R.s rfl (s.bs (l := ([x1] : List Writ)) tSl_25 tZero_39 rfl rfl rfl rfl rfl rfl rfl) fun b2 => ?_
        refine R.s rfl (s.app (l2 := [x1]) 2 _ rfl rfl rfl (fun _ => Wd.row 0 rfl) tApp_25 (by simp; omega) (by simp; omega) (fun _ => rfl) rfl) fun v1 => ?_
        refine R.u 1 rfl <| R.nil ?_
        refine R.reg rfl <| R.u 1 rfl <| R.q §0 rfl <| R.u 1 rfl <| R.nil ?_
        refine R.back (k + 1, v1, (acc ++ ([x1]))) rfl (by (exact ⟨by omega, by rw [HA, woRG_miss hx1 (by assumption), show woS l id x1 = x1 from by unfold woS; first | rw [if_pos (by omega)] | rw [if_neg (by omega), woRe_miss (by assumption)]]⟩)) (by dsimp only; omega) ⟨rfl, rfl, rfl, rfl, rfl, trivial⟩ (fun _ => Wd.pick [2] [] rfl rfl rfl)
    · refine R.q (q.lss rfl rfl (decide_eq_false (by omega))) rfl <| R.nil ?_
      refine R.condF rfl rfl ?_
      refine R.reg rfl <| R.u 2 rfl <| R.nil ?_
      exact R.ro 0 rfl Tryz.results42 rfl rfl (by (rw [HA, List.take_of_length_le (by omega)]; exact woRG_all _ _))
  · refine R.c (q.call eg_27 rfl rfl (fun w hw => (cv (congrArg (Value.int .i64) c1f) (findRef_any _ (l) (id) w (§3 w hw) )))) rfl <| R.u 1 rfl <| R.nil ?_
    refine R.reg rfl <| R.u 1 rfl <| R.nil ?_
    refine R.row0 (α := Writ) 39 ?_
    refine R.loop (fun g_ : Nat × Value × (List Writ) => [(0, v_l), (1, .int .i64 id), (5, g_.2.1), (6, .int .i64 (c1j : Int)), (7, .int .i64 (g_.1 : Int))]) §6 (fun g_ : Nat × Value × (List Writ) => []) (fun g_ : Nat × Value × (List Writ) => g_.1 ≤ l.length ∧ g_.2.2 = woRG l id (l.take g_.1)) (fun g_ : Nat × Value × (List Writ) => l.length - g_.1) (0, (.slice none 0 0), []) rfl (by exact ⟨by simp, by simp [woRG]⟩) ⟨rfl, rfl, rfl, rfl, rfl, trivial⟩ (fun _ => Wd.pick [0] [] rfl rfl rfl) ?_
    rintro ⟨k, v, acc⟩ ⟨hk, HA⟩
    dsimp only at *
    have hal : acc.length ≤ k := by rw [HA]; exact Nat.le_trans (woRG_len _ _ _) (List.length_take_le _ _)
    refine R.reg rfl <| R.u 2 rfl <| R.q (q.len' §3 rfl Tryz.underlying25) rfl <| ?_
    by_cases h3 : k < l.length
    · refine R.q (q.lss rfl rfl (decide_eq_true (by omega))) rfl <| R.nil ?_
      refine R.condT rfl rfl ?_
      refine R.reg rfl <| R.u 2 rfl <| ?_
      obtain ⟨x2, hx2⟩ : ∃ z, l[k]? = some z := ⟨_, List.getElem?_eq_getElem (by omega)⟩
      refine R.q (q.idx (i := k) §3 rfl rfl tSl_25 rfl hx2) rfl <| R.q (q.ldES (ds := §2) §3 hx2 rfl tAgg_39 rfl) rfl <| ?_
      refine R.s rfl §5 fun b3 => ?_
      refine R.s rfl (s.st (us := §2) (cs' := §2) 0 _ rfl rfl rfl rfl (.inl tAgg_39) rfl rfl rfl rfl) fun _ => ?_
      refine R.nil ?_
      refine R.reg rfl <| R.u 1 rfl <| R.q (q.geq rfl rfl (decide_eq_true (by omega))) rfl <| R.u 1 rfl <| R.qg rfl (q.fld (off' := 4) rfl tFld_39_4 rfl) rfl <| R.qg rfl (q.ld 0 rfl rfl tOne_3 rfl) rfl <| R.u 1 rfl <| ?_
      by_cases h4 : x2.From = id
      · refine R.qg rfl (q.eql rfl rfl (beq_iff_eq.2 (by omega))) rfl <| R.u 1 rfl <| R.nil ?_
        refine R.condT rfl rfl ?_
        refine R.reg rfl <| R.u 2 rfl <| R.q (q.idx (i := c1j) §3 rfl rfl tSl_25 rfl (List.getElem?_eq_getElem c1h)) rfl <| R.q (q.fldE (j' := 4) §3 (List.getElem?_eq_getElem c1h) rfl tFld_39_4 rfl) rfl <| R.q (q.ldE §3 (List.getElem?_eq_getElem c1h) rfl tOne_3 rfl) rfl <| R.q (q.fld (off' := 4) rfl tFld_39_4 rfl) rfl <| ?_
        refine R.s rfl (s.st (us := [.int .i64 ((l[c1j]).From)]) (cs' := [.int .i64 x2.ID, .int .i64 x2.Thing, .int .i64 x2.Rights, .int .i64 x2.Badge, .int .i64 ((l[c1j]).From)]) 0 _ rfl rfl rfl rfl (.inr ⟨tOne_3, rfl⟩) rfl rfl rfl rfl) fun _ => ?_
        refine R.nil ?_
        refine R.reg rfl <| R.q (q.fld (off' := 0) rfl tFld_39_0 rfl) rfl <| R.q (q.ld 0 rfl rfl tOne_3 rfl) rfl <| R.u 1 rfl <| ?_
        by_cases h5 : x2.ID = id
        · refine R.q (q.neq rfl rfl (bne_eq_false_iff_eq.2 (by omega))) rfl <| R.nil ?_
          refine R.condF rfl rfl ?_
          refine R.reg rfl <| R.u 1 rfl <| R.q §0 rfl <| R.u 1 rfl <| R.nil ?_
          refine R.back (k + 1, v, acc) rfl (by (exact ⟨by omega, by rw [HA, woRG_hit hx2 (by first | assumption | (have := ‹¬_ ≠ _›; omega))]⟩)) (by dsimp only; omega) ⟨rfl, rfl, rfl, rfl, rfl, trivial⟩ (fun _ => Wd.pick [1] [] rfl rfl rfl)
        · refine R.q (q.neq rfl rfl (bne_iff_ne.2 (by omega))) rfl <| R.nil ?_
          refine R.condT rfl rfl ?_
          refine R.reg rfl <| R.u 1 rfl <| R.q (q.ldS 0 rfl rfl tAgg_39) rfl <| ?_
          refine R.s rfl (s.bs (l := ([§4] : List Writ)) tSl_25 tZero_39 rfl rfl rfl rfl rfl rfl rfl) fun b4 => ?_
          refine R.s rfl (s.app (l2 := [§4]) 2 _ rfl rfl rfl (fun _ => Wd.row 0 rfl) tApp_25 (by simp; omega) (by simp; omega) (fun _ => rfl) rfl) fun v2 => ?_
          refine R.u 1 rfl <| R.nil ?_
          refine R.reg rfl <| R.u 1 rfl <| R.q §0 rfl <| R.u 1 rfl <| R.nil ?_
          refine R.back (k + 1, v2, (acc ++ ([§4]))) rfl (by (exact ⟨by omega, by rw [HA, woRG_miss hx2 (by assumption), show woS l id x2 = _ from by unfold woS; rw [if_neg (by omega), fromOf_some c1f (List.getElem?_eq_getElem c1h), woRe_hit (by assumption)]]⟩)) (by dsimp only; omega) ⟨rfl, rfl, rfl, rfl, rfl, trivial⟩ (fun _ => Wd.pick [2] [] rfl rfl rfl)
      · refine R.qg rfl (q.eql rfl rfl (beq_eq_false_iff_ne.2 (by omega))) rfl <| R.u 1 rfl <| R.nil ?_
        refine R.condF rfl rfl ?_
        refine R.reg rfl <| R.q (q.fld (off' := 0) rfl tFld_39_0 rfl) rfl <| R.q (q.ld 0 rfl rfl tOne_3 rfl) rfl <| R.u 1 rfl <| ?_
        by_cases h6 : x2.ID = id
        · refine R.q (q.neq rfl rfl (bne_eq_false_iff_eq.2 (by omega))) rfl <| R.nil ?_
          refine R.condF rfl rfl ?_
          refine R.reg rfl <| R.u 1 rfl <| R.q §0 rfl <| R.u 1 rfl <| R.nil ?_
          refine R.back (k + 1, v, acc) rfl (by (exact ⟨by omega, by rw [HA, woRG_hit hx2 (by first | assumption | (have := ‹¬_ ≠ _›; omega))]⟩)) (by dsimp only; omega) ⟨rfl, rfl, rfl, rfl, rfl, trivial⟩ (fun _ => Wd.pick [1] [] rfl rfl rfl)
        · refine R.q (q.neq rfl rfl (bne_iff_ne.2 (by omega))) rfl <| R.nil ?_
          refine R.condT rfl rfl ?_
          refine R.reg rfl <| R.u 1 rfl <| R.q (q.ldS 0 rfl rfl tAgg_39) rfl <| ?_
          refine R.s rfl (s.bs (l := ([x2] : List Writ)) tSl_25 tZero_39 rfl rfl rfl rfl rfl rfl rfl) fun b5 => ?_
          refine R.s rfl (s.app (l2 := [x2]) 2 _ rfl rfl rfl (fun _ => Wd.row 0 rfl) tApp_25 (by simp; omega) (by simp; omega) (fun _ => rfl) rfl) fun v3 => ?_
          refine R.u 1 rfl <| R.nil ?_
          refine R.reg rfl <| R.u 1 rfl <| R.q §0 rfl <| R.u 1 rfl <| R.nil ?_
          refine R.back (k + 1, v3, (acc ++ ([x2]))) rfl (by (exact ⟨by omega, by rw [HA, woRG_miss hx2 (by assumption), show woS l id x2 = x2 from by unfold woS; first | rw [if_pos (by omega)] | rw [if_neg (by omega), woRe_miss (by assumption)]]⟩)) (by dsimp only; omega) ⟨rfl, rfl, rfl, rfl, rfl, trivial⟩ (fun _ => Wd.pick [2] [] rfl rfl rfl)
    · refine R.q (q.lss rfl rfl (decide_eq_false (by omega))) rfl <| R.nil ?_
      refine R.condF rfl rfl ?_
      refine R.reg rfl <| R.u 2 rfl <| R.nil ?_
      exact R.ro 0 rfl Tryz.results42 rfl rfl (by (rw [HA, List.take_of_length_le (by omega)]; exact woRG_all _ _))

end Go.Proofs.YtpipachmngdegaaGreat
end
