/-
  The walks of chapter 3, on: the things that writs are of.
-/
import Derived.Test.YtoaneidhfcljmaaTree2
import Derived.Test.YtoaneidhfcljmaaThings
import Derived.Test.YtoaneidhfcljmaaSortW
namespace Go.Proofs.Ytoaneidhfcljmaa
open Go Go.RowKit
set_option linter.unusedVariables false
set_option linter.unusedSimpArgs false
set_option maxRecDepth 100000

theorem things_any (v_l : Value) (l : List Writ) (w : World) (s_l : Sl w v_l l) (hl : l.length ≤ 1000000) : Calls Try.prog 47 #[v_l] w fun e w' => ∃ u, e = .returned u ∧ Own w.heap.size 3 w' u (Lib.compact (sortI ((l).map Writ.Thing))) ∧ Ext w w' := by
  have b_l := s_l.lenle
  refine R.enter (n := 22) (vs := [v_l]) [] [(0, v_l)] Try.func47 rfl rfl rfl rfl ?_
  refine R.reg rfl <| R.u 1 rfl <| R.nil ?_
  refine R.reg rfl <| R.u 1 rfl <| R.nil ?_
  refine R.reg rfl <| R.u 1 rfl <| R.q (q.len' (fun _ => Wd.old s_l) rfl Try.underlying26) rfl <| R.u 1 rfl <| R.nil ?_
  refine R.row0 (α := Int) 3 ?_
  refine R.loop (fun g_ : Nat × Value × (List Int) => [(3, g_.2.1), (6, v_l), (7, .int .i64 (l.length : Int)), (8, .int .i64 (g_.1 : Int))]) (fun g_ : Nat × Value × (List Int) => [Res.row 3 g_.2.1 (g_.2.2 : List Int)]) (fun g_ : Nat × Value × (List Int) => []) (fun g_ : Nat × Value × (List Int) => g_.1 ≤ l.length ∧ g_.2.2 = (l.take g_.1).map Writ.Thing) (fun g_ : Nat × Value × (List Int) => l.length - g_.1) (0, (.slice none 0 0), []) rfl (by exact ⟨by omega, by simp⟩) ⟨rfl, rfl, rfl, rfl, trivial⟩ (fun _ => Wd.pick [0] [] rfl rfl rfl) ?_
  rintro ⟨k, v, acc⟩ ⟨hk, HA⟩
  dsimp only at *
  have hal : acc.length ≤ k := by rw [HA]; simp; omega
  refine R.reg rfl <| ?_
  by_cases h1 : k < l.length
  · refine R.q (q.lss rfl rfl (decide_eq_true (by omega))) rfl <| R.nil ?_
    refine R.condT rfl rfl ?_
    refine R.reg rfl <| ?_
    obtain ⟨x1, hx1⟩ : ∃ z, l[k]? = some z := ⟨_, List.getElem?_eq_getElem (by omega)⟩
    refine R.q (q.idx (i := k) (fun _ => Wd.old s_l) rfl rfl tSl_26 rfl hx1) rfl <| R.q (q.ldES (ds := [.int .i64 x1.ID, .int .i64 x1.Thing, .int .i64 x1.Rights, .int .i64 x1.Badge, .int .i64 x1.From]) (fun _ => Wd.old s_l) hx1 rfl tAgg_35 rfl) rfl <| ?_
    refine R.s rfl (s.alloc (cs := [.int .i64 0, .int .i64 0, .int .i64 0, .int .i64 0, .int .i64 0]) tZero_35 rfl rfl) fun b1 => ?_
    refine R.s rfl (s.st (us := [.int .i64 x1.ID, .int .i64 x1.Thing, .int .i64 x1.Rights, .int .i64 x1.Badge, .int .i64 x1.From]) (cs' := [.int .i64 x1.ID, .int .i64 x1.Thing, .int .i64 x1.Rights, .int .i64 x1.Badge, .int .i64 x1.From]) 0 _ rfl rfl rfl rfl (.inl tAgg_35) rfl rfl rfl rfl) fun _ => ?_
    refine R.nil ?_
    refine R.reg rfl <| R.u 1 rfl <| R.q (q.fld (off' := 1) rfl tFld_35_1 rfl) rfl <| R.q (q.ld 0 rfl rfl tOne_3 rfl) rfl <| ?_
    refine R.s rfl (s.bs (l := ([x1.Thing] : List Int)) tSl_42 tZero_3 rfl rfl rfl rfl rfl rfl rfl) fun b2 => ?_
    refine R.s rfl (s.app (l2 := [x1.Thing]) 2 _ rfl rfl rfl (fun _ => Wd.row 0 rfl) tApp_42 (by simp; omega) (by simp; omega) (fun _ => rfl) rfl) fun v1 => ?_
    refine R.u 1 rfl <| R.nil ?_
    refine R.reg rfl <| R.q (q.add (r := ((k + 1 : Nat) : Int)) rfl rfl (wr (by omega))) rfl <| R.u 1 rfl <| R.nil ?_
    refine R.back (k + 1, v1, (acc ++ ([x1.Thing]))) rfl (by (exact ⟨by omega, by rw [HA, List.take_add_one, hx1]; simp⟩)) (by dsimp only; omega) ⟨rfl, rfl, rfl, rfl, trivial⟩ (fun _ => Wd.pick [2] [] rfl rfl rfl)
  · refine R.q (q.lss rfl rfl (decide_eq_false (by omega))) rfl <| R.nil ?_
    refine R.condF rfl rfl ?_
    refine R.reg rfl <| R.u 1 rfl <| ?_
    refine R.s rfl (s.callM (B0 := [Res.row 3 v (acc : List Int)]) (Br := []) [0] _ _ rfl rfl eg_64 rfl rfl (fun w hw H => sort_any v (acc) w  H  (by omega)) rfl) fun u1 => ?_
    refine R.nil ?_
    refine R.reg rfl <| R.u 1 rfl <| ?_
    refine R.s rfl (s.callM (B0 := [Res.row 3 v ((sortI acc) : List Int)]) (Br := []) [0] _ _ rfl rfl eg_65 rfl rfl (fun w hw H => compact_any v ((sortI acc)) w  H  (by simp [sortI]; omega)) rfl) fun v2 => ?_
    refine R.u 1 rfl <| R.nil ?_
    exact R.ro 0 rfl Try.results47 rfl rfl (by (rw [HA, List.take_of_length_le (by omega)]))

end Go.Proofs.Ytoaneidhfcljmaa
