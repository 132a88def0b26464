/-
  The walks of chapter 3, on: above, beneath.
-/
import Derived.Test.YtoaneidhfcljmaaTree1
import Derived.Test.YtoaneidhfcljmaaChain
namespace Go.Proofs.Ytoaneidhfcljmaa
open Go Go.RowKit
set_option linter.unusedVariables false
set_option maxRecDepth 100000

theorem above_any (v_l : Value) (l : List Writ) (id : Int) (w : World) (s_l : Sl w v_l l) (hT : TreeOk l) : Calls Try.prog 10 #[v_l, .int .i64 id] w fun e w' => ∃ u, e = .returned u ∧ Own w.heap.size 3 w' u (above l id) ∧ Ext w w' := by
  have b_l := s_l.lenle
  refine R.enter (n := 35) (vs := [v_l, .int .i64 id]) [] [(0, v_l), (1, .int .i64 id)] Try.func10 rfl rfl rfl rfl ?_
  refine R.reg rfl <| R.u 1 rfl <| R.nil ?_
  refine R.reg rfl <| R.u 1 rfl <| R.nil ?_
  refine R.reg rfl <| R.u 2 rfl <| R.c (q.call eg_11 rfl rfl (fun w hw => (find_any _ (l) (id) w ((fun _ => Wd.old s_l) w hw) ))) rfl <| R.u 1 rfl <| R.nil ?_
  refine R.row0 (α := Int) 3 ?_
  refine R.loop (fun g_ : Int × Value × (List Int) => [(0, v_l), (1, .int .i64 id), (5, g_.2.1), (6, .int .i64 (findW l g_.1))]) (fun g_ : Int × Value × (List Int) => [Res.row 3 g_.2.1 (g_.2.2 : List Int)]) (fun g_ : Int × Value × (List Int) => []) (fun g_ : Int × Value × (List Int) => g_.2.2 ++ offC l id g_.1 = above l id) (fun g_ : Int × Value × (List Int) => g_.1.toNat) (id, (.slice none 0 0), []) rfl (by exact offC_self hT id) ⟨rfl, rfl, rfl, rfl, trivial⟩ (fun _ => Wd.pick [0] [] rfl rfl rfl) ?_
  rintro ⟨c, v, acc⟩ HA
  dsimp only at *
  have hal : acc.length ≤ 999 := by have := above_len hT id; rw [← HA, List.length_append] at this; omega
  refine R.reg rfl <| R.u 1 rfl <| ?_
  by_cases h1 : (findW l c) < 0
  · refine R.q (q.geq rfl rfl (decide_eq_false (by omega))) rfl <| R.nil ?_
    refine R.condF rfl rfl ?_
    refine R.reg rfl <| R.u 2 rfl <| R.nil ?_
    exact R.ro 0 rfl Try.results10 rfl rfl (by (rw [← HA, offC_out (by omega)]; simp))
  · refine R.q (q.geq rfl rfl (decide_eq_true (by omega))) rfl <| R.nil ?_
    refine R.condT rfl rfl ?_
    refine R.reg rfl <| R.u 2 rfl <| ?_
    obtain ⟨x1, hx1, ex1, mx1⟩ := findW_at l c (by omega)
    have wx1 := hT.mem mx1
    have y1x1 := wx1.id1; have y2x1 := wx1.fr0; have y3x1 := wx1.frl; have y4x1 := wx1.id9
    have fx1 : fromOf l c = x1.From := fromOf_some (j := (findW l c).toNat) (by omega) hx1
    refine R.q (q.idx (i := (findW l c).toNat) (fun _ => Wd.old s_l) rfl rfl tSl_26 (by omega) hx1) rfl <| R.q (q.fldE (j' := 0) (fun _ => Wd.old s_l) hx1 rfl tFld_35_0 rfl) rfl <| R.q (q.ldE (fun _ => Wd.old s_l) hx1 rfl tOne_3 rfl) rfl <| R.u 1 rfl <| ?_
    by_cases h2 : x1.ID = id
    · refine R.q (q.neq rfl rfl (bne_eq_false_iff_eq.2 (by omega))) rfl <| R.nil ?_
      refine R.condF rfl rfl ?_
      refine R.reg rfl <| R.u 3 rfl <| R.q (q.idx (i := (findW l c).toNat) (fun _ => Wd.old s_l) rfl rfl tSl_26 (by omega) hx1) rfl <| R.q (q.fldE (j' := 4) (fun _ => Wd.old s_l) hx1 rfl tFld_35_4 rfl) rfl <| R.q (q.ldE (fun _ => Wd.old s_l) hx1 rfl tOne_3 rfl) rfl <| R.c (q.call eg_11 rfl rfl (fun w hw => (find_any _ (l) (x1.From) w ((fun _ => Wd.old s_l) w hw) ))) rfl <| R.u 1 rfl <| R.nil ?_
      refine R.back (x1.From, v, acc) rfl (by (dsimp only; rw [← HA, offC_hit hT (c := c) (by omega) (by omega), fx1])) (by dsimp only; omega) ⟨rfl, rfl, rfl, rfl, trivial⟩ (fun _ => Wd.pick [0] [] rfl rfl rfl)
    · refine R.q (q.neq rfl rfl (bne_iff_ne.2 (by omega))) rfl <| R.nil ?_
      refine R.condT rfl rfl ?_
      refine R.reg rfl <| R.u 3 rfl <| R.q (q.idx (i := (findW l c).toNat) (fun _ => Wd.old s_l) rfl rfl tSl_26 (by omega) hx1) rfl <| R.q (q.fldE (j' := 0) (fun _ => Wd.old s_l) hx1 rfl tFld_35_0 rfl) rfl <| R.q (q.ldE (fun _ => Wd.old s_l) hx1 rfl tOne_3 rfl) rfl <| ?_
      refine R.s rfl (s.bs (l := ([x1.ID] : List Int)) tSl_42 tZero_3 rfl rfl rfl rfl rfl rfl rfl) fun b1 => ?_
      refine R.s rfl (s.app (l2 := [x1.ID]) 1 _ rfl rfl rfl (fun _ => Wd.row 0 rfl) tApp_42 (by first | omega | (simp; omega)) (by first | omega | (simp; omega)) (fun _ => rfl) rfl) fun v1 => ?_
      refine R.u 1 rfl <| R.nil ?_
      refine R.reg rfl <| R.u 3 rfl <| R.q (q.idx (i := (findW l c).toNat) (fun _ => Wd.old s_l) rfl rfl tSl_26 (by omega) hx1) rfl <| R.q (q.fldE (j' := 4) (fun _ => Wd.old s_l) hx1 rfl tFld_35_4 rfl) rfl <| R.q (q.ldE (fun _ => Wd.old s_l) hx1 rfl tOne_3 rfl) rfl <| R.c (q.call eg_11 rfl rfl (fun w hw => (find_any _ (l) (x1.From) w ((fun _ => Wd.old s_l) w hw) ))) rfl <| R.u 1 rfl <| R.nil ?_
      refine R.back (x1.From, v1, (acc ++ ([x1.ID]))) rfl (by (dsimp only; rw [← HA, offC_miss hT (c := c) (by omega) (by omega), fx1]; simp [ex1])) (by dsimp only; omega) ⟨rfl, rfl, rfl, rfl, trivial⟩ (fun _ => Wd.pick [1] [] rfl rfl rfl)

theorem beneathG_any (v_l : Value) (l : List Writ) (id : Int) (w : World) (s_l : Sl w v_l l) (hl : l.length ≤ 1000000) : Calls Try.prog 23 #[v_l, .int .i64 id] w fun e w' => ∃ u, e = .returned u ∧ Own w.heap.size 3 w' u (benG id l) ∧ Ext w w' := by
  have b_l := s_l.lenle
  refine R.enter (n := 37) (vs := [v_l, .int .i64 id]) [] [(0, v_l), (1, .int .i64 id)] Try.func23 rfl rfl rfl rfl ?_
  refine R.reg rfl <| R.u 1 rfl <| R.nil ?_
  refine R.reg rfl <| ?_
  refine R.s rfl (s.mk rfl) fun b1 => ?_
  refine R.u 1 rfl <| ?_
  refine R.s rfl (s.mins 0 _ rfl rfl rfl rfl tMap_89 rfl) fun _ => ?_
  refine R.u 2 rfl <| R.nil ?_
  refine R.reg rfl <| R.u 1 rfl <| R.nil ?_
  refine R.reg rfl <| R.u 1 rfl <| R.q (q.len' (fun _ => Wd.old s_l) rfl Try.underlying26) rfl <| R.u 1 rfl <| R.nil ?_
  refine R.row0 (α := Int) 3 ?_
  refine R.loop (fun g_ : Nat × Value × (List Int) × (List Int) => [(5, .map (some b1)), (6, g_.2.1), (12, v_l), (13, .int .i64 (l.length : Int)), (14, .int .i64 (g_.1 : Int))]) (fun g_ : Nat × Value × (List Int) × (List Int) => [Res.row 3 g_.2.1 (g_.2.2.1 : List Int), Res.mset b1 g_.2.2.2]) (fun g_ : Nat × Value × (List Int) × (List Int) => []) (fun g_ : Nat × Value × (List Int) × (List Int) => g_.1 ≤ l.length ∧ g_.2.2.1 = benG id (l.take g_.1) ∧ ∀ z, z ∈ g_.2.2.2 ↔ z = id ∨ z ∈ g_.2.2.1) (fun g_ : Nat × Value × (List Int) × (List Int) => l.length - g_.1) (0, (.slice none 0 0), [], [id]) rfl (by exact ⟨by simp, by simp [benG], by simp⟩) ⟨rfl, rfl, rfl, rfl, rfl, trivial⟩ (fun _ => Wd.pick [0, 1] [] rfl rfl rfl) ?_
  rintro ⟨k, v, acc, S⟩ ⟨hk, HA, HS⟩
  dsimp only at *
  have hal : acc.length ≤ k := by rw [HA]; exact Nat.le_trans (benG_len _ _) (List.length_take_le _ _)
  refine R.reg rfl <| ?_
  by_cases h1 : k < l.length
  · refine R.q (q.lss rfl rfl (decide_eq_true (by omega))) rfl <| R.nil ?_
    refine R.condT rfl rfl ?_
    refine R.reg rfl <| ?_
    obtain ⟨x1, hx1⟩ : ∃ z, l[k]? = some z := ⟨_, List.getElem?_eq_getElem (by omega)⟩
    refine R.q (q.idx (i := k) (fun _ => Wd.old s_l) rfl rfl tSl_26 rfl hx1) rfl <| R.q (q.ldES (ds := [.int .i64 x1.ID, .int .i64 x1.Thing, .int .i64 x1.Rights, .int .i64 x1.Badge, .int .i64 x1.From]) (fun _ => Wd.old s_l) hx1 rfl tAgg_35 rfl) rfl <| ?_
    refine R.s rfl (s.alloc (cs := [.int .i64 0, .int .i64 0, .int .i64 0, .int .i64 0, .int .i64 0]) tZero_35 rfl rfl) fun b2 => ?_
    refine R.s rfl (s.st (us := [.int .i64 x1.ID, .int .i64 x1.Thing, .int .i64 x1.Rights, .int .i64 x1.Badge, .int .i64 x1.From]) (cs' := [.int .i64 x1.ID, .int .i64 x1.Thing, .int .i64 x1.Rights, .int .i64 x1.Badge, .int .i64 x1.From]) 0 _ rfl rfl rfl rfl (.inl tAgg_35) rfl rfl rfl rfl) fun _ => ?_
    refine R.nil ?_
    refine R.reg rfl <| R.u 1 rfl <| R.q (q.fld (off' := 4) rfl tFld_35_4 rfl) rfl <| R.q (q.ld 0 rfl rfl tOne_3 rfl) rfl <| ?_
    by_cases h2 : x1.From ∈ S
    · refine R.q (q.look' 2 rfl rfl rfl tMap_89 (decide_eq_true h2)) rfl <| R.u 1 rfl <| R.qg rfl (q.fld (off' := 4) rfl tFld_35_4 rfl) rfl <| R.qg rfl (q.ld 0 rfl rfl tOne_3 rfl) rfl <| ?_
      by_cases h3 : 0 < x1.From
      · refine R.qg rfl (q.gtr rfl rfl (decide_eq_true (by omega))) rfl <| R.u 1 rfl <| R.nil ?_
        refine R.condT rfl rfl ?_
        refine R.reg rfl <| R.u 1 rfl <| R.q (q.fld (off' := 0) rfl tFld_35_0 rfl) rfl <| R.q (q.ld 0 rfl rfl tOne_3 rfl) rfl <| ?_
        refine R.s rfl (s.mup 2 _ rfl rfl rfl rfl tMap_89 rfl) fun _ => ?_
        refine R.nil ?_
        refine R.reg rfl <| R.u 1 rfl <| R.q (q.fld (off' := 0) rfl tFld_35_0 rfl) rfl <| R.q (q.ld 0 rfl rfl tOne_3 rfl) rfl <| ?_
        refine R.s rfl (s.bs (l := ([x1.ID] : List Int)) tSl_42 tZero_3 rfl rfl rfl rfl rfl rfl rfl) fun b3 => ?_
        refine R.s rfl (s.app (l2 := [x1.ID]) 2 _ rfl rfl rfl (fun _ => Wd.row 0 rfl) tApp_42 (by simp; omega) (by simp; omega) (fun _ => rfl) rfl) fun v1 => ?_
        refine R.u 1 rfl <| R.nil ?_
        refine R.reg rfl <| R.q (q.add (r := ((k + 1 : Nat) : Int)) rfl rfl (wr (by omega))) rfl <| R.u 1 rfl <| R.nil ?_
        refine R.back (k + 1, v1, (acc ++ ([x1.ID])), (x1.ID :: S)) rfl (by (exact ⟨by omega, by rw [HA, benG_hit hx1 (HA ▸ HS) (by assumption) (by assumption)], by intro z; rw [List.mem_cons, HS, List.mem_append, List.mem_singleton]; constructor <;> (intro h; rcases h with h | h | h <;> simp [h])⟩)) (by dsimp only; omega) ⟨rfl, rfl, rfl, rfl, rfl, trivial⟩ (fun _ => Wd.pick [2, 3] [] rfl rfl rfl)
      · refine R.qg rfl (q.gtr rfl rfl (decide_eq_false (by omega))) rfl <| R.u 1 rfl <| R.nil ?_
        refine R.condF rfl rfl ?_
        refine R.reg rfl <| R.q (q.add (r := ((k + 1 : Nat) : Int)) rfl rfl (wr (by omega))) rfl <| R.u 1 rfl <| R.nil ?_
        refine R.back (k + 1, v, acc, S) rfl (by (exact ⟨by omega, by rw [HA, benG_miss hx1 (HA ▸ HS) (by first | (intro hh; exact absurd hh.1 (by assumption)) | (intro hh; exact absurd hh.2 (by assumption)))], HS⟩)) (by dsimp only; omega) ⟨rfl, rfl, rfl, rfl, rfl, trivial⟩ (fun _ => Wd.pick [1, 2] [] rfl rfl rfl)
    · refine R.q (q.look' 2 rfl rfl rfl tMap_89 (decide_eq_false h2)) rfl <| R.u 5 rfl <| R.nil ?_
      refine R.condF rfl rfl ?_
      refine R.reg rfl <| R.q (q.add (r := ((k + 1 : Nat) : Int)) rfl rfl (wr (by omega))) rfl <| R.u 1 rfl <| R.nil ?_
      refine R.back (k + 1, v, acc, S) rfl (by (exact ⟨by omega, by rw [HA, benG_miss hx1 (HA ▸ HS) (by first | (intro hh; exact absurd hh.1 (by assumption)) | (intro hh; exact absurd hh.2 (by assumption)))], HS⟩)) (by dsimp only; omega) ⟨rfl, rfl, rfl, rfl, rfl, trivial⟩ (fun _ => Wd.pick [1, 2] [] rfl rfl rfl)
  · refine R.q (q.lss rfl rfl (decide_eq_false (by omega))) rfl <| R.nil ?_
    refine R.condF rfl rfl ?_
    refine R.reg rfl <| R.u 2 rfl <| R.nil ?_
    exact R.ro 0 rfl Try.results23 rfl rfl (by (rw [HA, List.take_of_length_le (by omega)]))

end Go.Proofs.Ytoaneidhfcljmaa
