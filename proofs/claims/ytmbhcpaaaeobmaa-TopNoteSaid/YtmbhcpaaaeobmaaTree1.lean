/-
  The walks of chapter 3: whether writs are right, and writs without one.
-/
import Derived.Test.YtmbhcpaaaeobmaaWritW
import Derived.Test.YtmbhcpaaaeobmaaTreeSpec2
namespace Go.Proofs.Ytmbhcpaaaeobmaa
open Go Go.RowKit
set_option linter.unusedVariables false
set_option maxRecDepth 100000

theorem without_any (v_l : Value) (l : List Writ) (id : Int) (w : World) (s_l : Sl w v_l l) (hl : l.length ≤ 1000000) : Calls Try.prog 50 #[v_l, .int .i64 id] w fun e w' => ∃ u, e = .returned u ∧ Own w.heap.size 38 w' u (without l id) ∧ Ext w w' := by
  have b_l := s_l.lenle
  refine R.enter (n := 42) (vs := [v_l, .int .i64 id]) [] [(0, v_l), (1, .int .i64 id)] Try.func50 rfl rfl rfl rfl ?_
  refine R.reg rfl <| R.u 1 rfl <| R.nil ?_
  refine R.reg rfl <| R.u 1 rfl <| R.nil ?_
  refine R.reg rfl <| R.u 1 rfl <| R.nil ?_
  refine R.reg rfl <| R.u 2 rfl <| ?_
  rcases findW_cases l id with ⟨c1f, c1n⟩ | ⟨c1j, c1h, c1f, c1e, c1m⟩
  · refine R.c (q.call eg_17 rfl rfl (fun w hw => (cv (congrArg (Value.int .i64) c1f) (find_any _ (l) (id) w ((fun _ => Wd.old s_l) w hw) )))) rfl <| R.u 1 rfl <| R.nil ?_
    refine R.reg rfl <| R.u 1 rfl <| R.q (q.geq (b := false) rfl rfl (by decide)) rfl <| R.nil ?_
    refine R.condF rfl rfl ?_
    refine R.reg rfl <| R.u 1 rfl <| R.q (q.len' (fun _ => Wd.old s_l) rfl Try.underlying24) rfl <| R.u 1 rfl <| R.nil ?_
    refine R.row0 (α := Writ) 38 ?_
    refine R.loop (fun g_ : Nat × Value × (List Writ) => [(1, .int .i64 id), (5, g_.2.1), (6, .int .i64 0), (20, v_l), (21, .int .i64 (l.length : Int)), (22, .int .i64 (g_.1 : Int))]) (fun g_ : Nat × Value × (List Writ) => [Res.row 38 g_.2.1 (g_.2.2 : List Writ)]) (fun g_ : Nat × Value × (List Writ) => []) (fun g_ : Nat × Value × (List Writ) => g_.1 ≤ l.length ∧ g_.2.2 = woG id 0 (l.take g_.1)) (fun g_ : Nat × Value × (List Writ) => l.length - g_.1) (0, (.slice none 0 0), []) rfl (by exact ⟨by simp, by simp [woG, woRG]⟩) ⟨rfl, rfl, rfl, rfl, rfl, rfl, trivial⟩ (fun _ => Wd.pick [0] [] rfl rfl rfl) ?_
    rintro ⟨k, v, acc⟩ ⟨hk, HA⟩
    dsimp only at *
    have hal : acc.length ≤ k := by rw [HA]; exact Nat.le_trans (woG_len _ _ _) (List.length_take_le _ _)
    refine R.reg rfl <| ?_
    by_cases h1 : k < l.length
    · refine R.q (q.lss rfl rfl (decide_eq_true (by omega))) rfl <| R.nil ?_
      refine R.condT rfl rfl ?_
      refine R.reg rfl <| ?_
      obtain ⟨x1, hx1⟩ : ∃ z, l[k]? = some z := ⟨_, List.getElem?_eq_getElem (by omega)⟩
      refine R.q (q.idx (i := k) (fun _ => Wd.old s_l) rfl rfl tSl_24 rfl hx1) rfl <| R.q (q.ldES (ds := [.int .i64 x1.ID, .int .i64 x1.Thing, .int .i64 x1.Rights, .int .i64 x1.Badge, .int .i64 x1.From]) (fun _ => Wd.old s_l) hx1 rfl tAgg_38 rfl) rfl <| ?_
      refine R.s rfl (s.alloc (cs := [.int .i64 0, .int .i64 0, .int .i64 0, .int .i64 0, .int .i64 0]) tZero_38 rfl rfl) fun b1 => ?_
      refine R.s rfl (s.st (us := [.int .i64 x1.ID, .int .i64 x1.Thing, .int .i64 x1.Rights, .int .i64 x1.Badge, .int .i64 x1.From]) (cs' := [.int .i64 x1.ID, .int .i64 x1.Thing, .int .i64 x1.Rights, .int .i64 x1.Badge, .int .i64 x1.From]) 0 _ rfl rfl rfl rfl (.inl tAgg_38) rfl rfl rfl rfl) fun _ => ?_
      refine R.nil ?_
      refine R.reg rfl <| R.q (q.fld (off' := 0) rfl tFld_38_0 rfl) rfl <| R.q (q.ld 0 rfl rfl tOne_3 rfl) rfl <| R.u 1 rfl <| ?_
      by_cases h2 : x1.ID = id
      · refine R.q (q.eql rfl rfl (beq_iff_eq.2 (by omega))) rfl <| R.nil ?_
        refine R.condT rfl rfl ?_
        refine R.reg rfl <| R.q (q.add (r := ((k + 1 : Nat) : Int)) rfl rfl (wr (by omega))) rfl <| R.u 1 rfl <| R.nil ?_
        refine R.back (k + 1, v, acc) rfl (by (exact ⟨by omega, by rw [HA, woG_hit hx1 (by assumption)]⟩)) (by dsimp only; omega) ⟨rfl, rfl, rfl, rfl, rfl, rfl, trivial⟩ (fun _ => Wd.pick [1] [] rfl rfl rfl)
      · refine R.q (q.eql rfl rfl (beq_eq_false_iff_ne.2 (by omega))) rfl <| R.nil ?_
        refine R.condF rfl rfl ?_
        refine R.reg rfl <| R.q (q.fld (off' := 4) rfl tFld_38_4 rfl) rfl <| R.q (q.ld 0 rfl rfl tOne_3 rfl) rfl <| R.u 1 rfl <| ?_
        by_cases h3 : x1.From = id
        · refine R.q (q.eql rfl rfl (beq_iff_eq.2 (by omega))) rfl <| R.nil ?_
          refine R.condT rfl rfl ?_
          refine R.reg rfl <| R.u 1 rfl <| R.q (q.fld (off' := 4) rfl tFld_38_4 rfl) rfl <| ?_
          refine R.s rfl (s.st (us := [.int .i64 0]) (cs' := [.int .i64 x1.ID, .int .i64 x1.Thing, .int .i64 x1.Rights, .int .i64 x1.Badge, .int .i64 0]) 0 _ rfl rfl rfl rfl (.inr ⟨tOne_3, rfl⟩) rfl rfl rfl rfl) fun _ => ?_
          refine R.nil ?_
          refine R.reg rfl <| R.u 1 rfl <| R.q (q.ldS 0 rfl rfl tAgg_38) rfl <| ?_
          refine R.s rfl (s.bs (l := ([(⟨x1.ID, x1.Thing, x1.Rights, x1.Badge, 0⟩ : Writ)] : List Writ)) tSl_24 tZero_38 rfl rfl rfl rfl rfl rfl rfl) fun b2 => ?_
          refine R.s rfl (s.app (l2 := [(⟨x1.ID, x1.Thing, x1.Rights, x1.Badge, 0⟩ : Writ)]) 2 _ rfl rfl rfl (fun _ => Wd.row 0 rfl) tApp_24 (by simp; omega) (by simp; omega) (fun _ => rfl) rfl) fun v1 => ?_
          refine R.u 1 rfl <| R.nil ?_
          refine R.reg rfl <| R.q (q.add (r := ((k + 1 : Nat) : Int)) rfl rfl (wr (by omega))) rfl <| R.u 1 rfl <| R.nil ?_
          refine R.back (k + 1, v1, (acc ++ ([(⟨x1.ID, x1.Thing, x1.Rights, x1.Badge, 0⟩ : Writ)]))) rfl (by (exact ⟨by omega, by rw [HA, woG_miss hx1 (by assumption), woRe_hit (by assumption)]⟩)) (by dsimp only; omega) ⟨rfl, rfl, rfl, rfl, rfl, rfl, trivial⟩ (fun _ => Wd.pick [2] [] rfl rfl rfl)
        · refine R.q (q.eql rfl rfl (beq_eq_false_iff_ne.2 (by omega))) rfl <| R.nil ?_
          refine R.condF rfl rfl ?_
          refine R.reg rfl <| R.u 1 rfl <| R.q (q.ldS 0 rfl rfl tAgg_38) rfl <| ?_
          refine R.s rfl (s.bs (l := ([x1] : List Writ)) tSl_24 tZero_38 rfl rfl rfl rfl rfl rfl rfl) fun b3 => ?_
          refine R.s rfl (s.app (l2 := [x1]) 2 _ rfl rfl rfl (fun _ => Wd.row 0 rfl) tApp_24 (by simp; omega) (by simp; omega) (fun _ => rfl) rfl) fun v2 => ?_
          refine R.u 1 rfl <| R.nil ?_
          refine R.reg rfl <| R.q (q.add (r := ((k + 1 : Nat) : Int)) rfl rfl (wr (by omega))) rfl <| R.u 1 rfl <| R.nil ?_
          refine R.back (k + 1, v2, (acc ++ ([x1]))) rfl (by (exact ⟨by omega, by rw [HA, woG_miss hx1 (by assumption), woRe_miss (by assumption)]⟩)) (by dsimp only; omega) ⟨rfl, rfl, rfl, rfl, rfl, rfl, trivial⟩ (fun _ => Wd.pick [2] [] rfl rfl rfl)
    · refine R.q (q.lss rfl rfl (decide_eq_false (by omega))) rfl <| R.nil ?_
      refine R.condF rfl rfl ?_
      refine R.reg rfl <| R.u 2 rfl <| R.nil ?_
      exact R.ro 0 rfl Try.results50 rfl rfl (by (rw [HA, List.take_of_length_le (by omega)]; unfold without; rw [fromOf_none c1f]))
  · refine R.c (q.call eg_17 rfl rfl (fun w hw => (cv (congrArg (Value.int .i64) c1f) (find_any _ (l) (id) w ((fun _ => Wd.old s_l) w hw) )))) rfl <| R.u 1 rfl <| R.nil ?_
    refine R.reg rfl <| R.u 1 rfl <| R.q (q.geq rfl rfl (decide_eq_true (by omega))) rfl <| R.nil ?_
    refine R.condT rfl rfl ?_
    refine R.reg rfl <| R.u 2 rfl <| R.q (q.idx (i := c1j) (fun _ => Wd.old s_l) rfl rfl tSl_24 rfl (List.getElem?_eq_getElem c1h)) rfl <| R.q (q.fldE (j' := 4) (fun _ => Wd.old s_l) (List.getElem?_eq_getElem c1h) rfl tFld_38_4 rfl) rfl <| R.q (q.ldE (fun _ => Wd.old s_l) (List.getElem?_eq_getElem c1h) rfl tOne_3 rfl) rfl <| R.u 1 rfl <| R.nil ?_
    refine R.reg rfl <| R.u 1 rfl <| R.q (q.len' (fun _ => Wd.old s_l) rfl Try.underlying24) rfl <| R.u 1 rfl <| R.nil ?_
    refine R.row0 (α := Writ) 38 ?_
    refine R.loop (fun g_ : Nat × Value × (List Writ) => [(1, .int .i64 id), (5, g_.2.1), (6, .int .i64 ((l[c1j]).From)), (20, v_l), (21, .int .i64 (l.length : Int)), (22, .int .i64 (g_.1 : Int))]) (fun g_ : Nat × Value × (List Writ) => [Res.row 38 g_.2.1 (g_.2.2 : List Writ)]) (fun g_ : Nat × Value × (List Writ) => []) (fun g_ : Nat × Value × (List Writ) => g_.1 ≤ l.length ∧ g_.2.2 = woG id ((l[c1j]).From) (l.take g_.1)) (fun g_ : Nat × Value × (List Writ) => l.length - g_.1) (0, (.slice none 0 0), []) rfl (by exact ⟨by simp, by simp [woG, woRG]⟩) ⟨rfl, rfl, rfl, rfl, rfl, rfl, trivial⟩ (fun _ => Wd.pick [0] [] rfl rfl rfl) ?_
    rintro ⟨k, v, acc⟩ ⟨hk, HA⟩
    dsimp only at *
    have hal : acc.length ≤ k := by rw [HA]; exact Nat.le_trans (woG_len _ _ _) (List.length_take_le _ _)
    refine R.reg rfl <| ?_
    by_cases h4 : k < l.length
    · refine R.q (q.lss rfl rfl (decide_eq_true (by omega))) rfl <| R.nil ?_
      refine R.condT rfl rfl ?_
      refine R.reg rfl <| ?_
      obtain ⟨x2, hx2⟩ : ∃ z, l[k]? = some z := ⟨_, List.getElem?_eq_getElem (by omega)⟩
      refine R.q (q.idx (i := k) (fun _ => Wd.old s_l) rfl rfl tSl_24 rfl hx2) rfl <| R.q (q.ldES (ds := [.int .i64 x2.ID, .int .i64 x2.Thing, .int .i64 x2.Rights, .int .i64 x2.Badge, .int .i64 x2.From]) (fun _ => Wd.old s_l) hx2 rfl tAgg_38 rfl) rfl <| ?_
      refine R.s rfl (s.alloc (cs := [.int .i64 0, .int .i64 0, .int .i64 0, .int .i64 0, .int .i64 0]) tZero_38 rfl rfl) fun b4 => ?_
      refine R.s rfl (s.st (us := [.int .i64 x2.ID, .int .i64 x2.Thing, .int .i64 x2.Rights, .int .i64 x2.Badge, .int .i64 x2.From]) (cs' := [.int .i64 x2.ID, .int .i64 x2.Thing, .int .i64 x2.Rights, .int .i64 x2.Badge, .int .i64 x2.From]) 0 _ rfl rfl rfl rfl (.inl tAgg_38) rfl rfl rfl rfl) fun _ => ?_
      refine R.nil ?_
      refine R.reg rfl <| R.q (q.fld (off' := 0) rfl tFld_38_0 rfl) rfl <| R.q (q.ld 0 rfl rfl tOne_3 rfl) rfl <| R.u 1 rfl <| ?_
      by_cases h5 : x2.ID = id
      · refine R.q (q.eql rfl rfl (beq_iff_eq.2 (by omega))) rfl <| R.nil ?_
        refine R.condT rfl rfl ?_
        refine R.reg rfl <| R.q (q.add (r := ((k + 1 : Nat) : Int)) rfl rfl (wr (by omega))) rfl <| R.u 1 rfl <| R.nil ?_
        refine R.back (k + 1, v, acc) rfl (by (exact ⟨by omega, by rw [HA, woG_hit hx2 (by assumption)]⟩)) (by dsimp only; omega) ⟨rfl, rfl, rfl, rfl, rfl, rfl, trivial⟩ (fun _ => Wd.pick [1] [] rfl rfl rfl)
      · refine R.q (q.eql rfl rfl (beq_eq_false_iff_ne.2 (by omega))) rfl <| R.nil ?_
        refine R.condF rfl rfl ?_
        refine R.reg rfl <| R.q (q.fld (off' := 4) rfl tFld_38_4 rfl) rfl <| R.q (q.ld 0 rfl rfl tOne_3 rfl) rfl <| R.u 1 rfl <| ?_
        by_cases h6 : x2.From = id
        · refine R.q (q.eql rfl rfl (beq_iff_eq.2 (by omega))) rfl <| R.nil ?_
          refine R.condT rfl rfl ?_
          refine R.reg rfl <| R.u 1 rfl <| R.q (q.fld (off' := 4) rfl tFld_38_4 rfl) rfl <| ?_
          refine R.s rfl (s.st (us := [.int .i64 ((l[c1j]).From)]) (cs' := [.int .i64 x2.ID, .int .i64 x2.Thing, .int .i64 x2.Rights, .int .i64 x2.Badge, .int .i64 ((l[c1j]).From)]) 0 _ rfl rfl rfl rfl (.inr ⟨tOne_3, rfl⟩) rfl rfl rfl rfl) fun _ => ?_
          refine R.nil ?_
          refine R.reg rfl <| R.u 1 rfl <| R.q (q.ldS 0 rfl rfl tAgg_38) rfl <| ?_
          refine R.s rfl (s.bs (l := ([(⟨x2.ID, x2.Thing, x2.Rights, x2.Badge, (l[c1j]).From⟩ : Writ)] : List Writ)) tSl_24 tZero_38 rfl rfl rfl rfl rfl rfl rfl) fun b5 => ?_
          refine R.s rfl (s.app (l2 := [(⟨x2.ID, x2.Thing, x2.Rights, x2.Badge, (l[c1j]).From⟩ : Writ)]) 2 _ rfl rfl rfl (fun _ => Wd.row 0 rfl) tApp_24 (by simp; omega) (by simp; omega) (fun _ => rfl) rfl) fun v3 => ?_
          refine R.u 1 rfl <| R.nil ?_
          refine R.reg rfl <| R.q (q.add (r := ((k + 1 : Nat) : Int)) rfl rfl (wr (by omega))) rfl <| R.u 1 rfl <| R.nil ?_
          refine R.back (k + 1, v3, (acc ++ ([(⟨x2.ID, x2.Thing, x2.Rights, x2.Badge, (l[c1j]).From⟩ : Writ)]))) rfl (by (exact ⟨by omega, by rw [HA, woG_miss hx2 (by assumption), woRe_hit (by assumption)]⟩)) (by dsimp only; omega) ⟨rfl, rfl, rfl, rfl, rfl, rfl, trivial⟩ (fun _ => Wd.pick [2] [] rfl rfl rfl)
        · refine R.q (q.eql rfl rfl (beq_eq_false_iff_ne.2 (by omega))) rfl <| R.nil ?_
          refine R.condF rfl rfl ?_
          refine R.reg rfl <| R.u 1 rfl <| R.q (q.ldS 0 rfl rfl tAgg_38) rfl <| ?_
          refine R.s rfl (s.bs (l := ([x2] : List Writ)) tSl_24 tZero_38 rfl rfl rfl rfl rfl rfl rfl) fun b6 => ?_
          refine R.s rfl (s.app (l2 := [x2]) 2 _ rfl rfl rfl (fun _ => Wd.row 0 rfl) tApp_24 (by simp; omega) (by simp; omega) (fun _ => rfl) rfl) fun v4 => ?_
          refine R.u 1 rfl <| R.nil ?_
          refine R.reg rfl <| R.q (q.add (r := ((k + 1 : Nat) : Int)) rfl rfl (wr (by omega))) rfl <| R.u 1 rfl <| R.nil ?_
          refine R.back (k + 1, v4, (acc ++ ([x2]))) rfl (by (exact ⟨by omega, by rw [HA, woG_miss hx2 (by assumption), woRe_miss (by assumption)]⟩)) (by dsimp only; omega) ⟨rfl, rfl, rfl, rfl, rfl, rfl, trivial⟩ (fun _ => Wd.pick [2] [] rfl rfl rfl)
    · refine R.q (q.lss rfl rfl (decide_eq_false (by omega))) rfl <| R.nil ?_
      refine R.condF rfl rfl ?_
      refine R.reg rfl <| R.u 2 rfl <| R.nil ?_
      exact R.ro 0 rfl Try.results50 rfl rfl (by (rw [HA, List.take_of_length_le (by omega)]; unfold without; rw [fromOf_some c1f (List.getElem?_eq_getElem c1h)]))

end Go.Proofs.Ytmbhcpaaaeobmaa
