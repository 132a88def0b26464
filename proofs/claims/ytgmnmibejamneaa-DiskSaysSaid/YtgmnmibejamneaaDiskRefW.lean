/-
  The walks of chapter 7: a disk. The document's.
-/
import Derived.Test.YtgmnmibejamneaaDiskW
namespace Go.Proofs.Ytgmnmibejamneaa
open Go Go.RowKit
set_option linter.unusedVariables false
set_option linter.unusedSimpArgs false
set_option maxRecDepth 100000

theorem nou_any (n : Nat) (w : World) (hn : n ≤ 100000) : Calls Try.prog 89 #[.int .i64 (n : Int)] w fun e w' => e = .returned (.string (nou n)) ∧ Ext w w' := by
  refine R.enter (n := 6) (vs := [.int .i64 (n : Int)]) [] [(0, .int .i64 (n : Int))] Try.func89 rfl rfl rfl rfl ?_
  refine R.reg rfl <| R.u 1 rfl <| R.nil ?_
  refine R.reg rfl <| R.u 1 rfl <| ?_
  refine R.s rfl (s.mksl (m := n) tSl_135 rfl rfl rfl rfl rfl (by omega) rfl) fun b1 => ?_
  refine R.q (q.b2s (fun _ => Wd.row 0 rfl) rfl tSl_135 Try.underlying5 Try.underlying9) rfl <| R.u 1 rfl <| R.nil ?_
  exact R.rv rfl Try.results89 rfl (rS (by (rfl)))

theorem newDR_any (n : Int) (w : World) (own : List Nat) (H : Wd w (blks [] ++ own) ([] ++ [Res.held w own]) [] w) (hn : 1 ≤ n ∧ n ≤ 200) : Calls Try.prog 25 #[.int .i64 n] w fun e w' => ∃ z : Nat × Value × Value × Value, e = .returned (.tuple #[.pointer (some ⟨z.1, 0, none⟩), .int .i64 0]) ∧ Wd w (blks [] ++ own) ([Res.box z.1 [z.2.1, z.2.2.1, z.2.2.2, .int .i64 (((dNew (Int.toNat n))).Fuse), .bool (((dNew (Int.toNat n))).Down)] 63, Res.row 9 z.2.1 (((dNew (Int.toNat n))).Kept : List ByteArray), Res.row 9 z.2.2.1 (((dNew (Int.toNat n))).Now : List ByteArray), Res.row 132 z.2.2.2 (((dNew (Int.toNat n))).Wait : List Turn)] ++ [Res.held w own]) [] w' := by
  refine R.enterN (n := 40) (vs := [.int .i64 n]) (B := [Res.held w own]) [(0, .int .i64 n)] Try.func25 rfl rfl rfl rfl H ?_
  refine R.reg rfl <| R.u 2 rfl <| R.nil ?_
  refine R.reg rfl <| R.u 1 rfl <| R.q (q.lss rfl rfl (decide_eq_false (by omega))) rfl <| R.u 2 rfl <| R.qg rfl (q.gtr rfl rfl (decide_eq_false (by omega))) rfl <| R.u 1 rfl <| R.nil ?_
  refine R.condF rfl rfl ?_
  refine R.reg rfl <| R.q (q.build (cs := [.slice none 0 0, .slice none 0 0, .slice none 0 0, .int .i64 (-1), .bool false]) tB_63 rfl rfl) rfl <| ?_
  refine R.s rfl (s.box (cs := [.slice none 0 0, .slice none 0 0, .slice none 0 0, .int .i64 (-1), .bool false]) rfl rfl rfl) fun b1 => ?_
  refine R.u 1 rfl <| R.nil ?_
  refine R.reg rfl <| R.u 1 rfl <| R.nil ?_
  refine R.row0 (α := ByteArray) 9 ?_
  refine R.row0 (α := ByteArray) 9 ?_
  refine R.loop (fun g_ : Nat × Value × (List ByteArray) × Value × (List ByteArray) => [(0, .int .i64 n), (4, .pointer (some ⟨b1, 0, none⟩)), (5, .int .i64 (g_.1 : Int))]) (fun g_ : Nat × Value × (List ByteArray) × Value × (List ByteArray) => [Res.row 9 g_.2.1 (g_.2.2.1 : List ByteArray), Res.row 9 g_.2.2.2.1 (g_.2.2.2.2 : List ByteArray), Res.box b1 [g_.2.1, g_.2.2.2.1, .slice none 0 0, .int .i64 (-1), .bool false] 63, Res.held w own]) (fun g_ : Nat × Value × (List ByteArray) × Value × (List ByteArray) => []) (fun g_ : Nat × Value × (List ByteArray) × Value × (List ByteArray) => g_.1 ≤ n.toNat ∧ g_.2.2.1 = (List.replicate g_.1 (nou 48)) ∧ g_.2.2.2.2 = (List.replicate g_.1 (nou 48))) (fun g_ : Nat × Value × (List ByteArray) × Value × (List ByteArray) => n.toNat - g_.1) (0, (.slice none 0 0), [], (.slice none 0 0), []) rfl (by exact ⟨by omega, rfl, rfl⟩) ⟨rfl, rfl, rfl, trivial⟩ (fun _ => Wd.pick [0, 1, 2, 3] [] rfl rfl rfl) ?_
  rintro ⟨i, qk, ks, qn, ns⟩ ⟨hi, HK, HN⟩
  dsimp only at *
  have hkl : ks.length = i := by rw [HK]; simp
  have hnl : ns.length = i := by rw [HN]; simp
  refine R.reg rfl <| R.u 2 rfl <| ?_
  by_cases h1 : (i : Int) < n
  · refine R.q (q.lss rfl rfl (decide_eq_true (by omega))) rfl <| R.nil ?_
    refine R.condT rfl rfl ?_
    refine R.regD (fuel := 11) (Wd w (blks [] ++ own) [Res.row 9 qn (ns : List ByteArray), Res.held w own] []) rfl mixed rfl ?_
    refine D.q (i := 0) rfl (by kernel_rfl) (fun _ => Wd.pik [1, 3] [] rfl rfl rfl) rfl (q.mv rfl) rfl <| D.q (i := 1) rfl (by kernel_rfl) (fun _ => Wd.pik [1, 3] [] rfl rfl rfl) rfl (q.mv rfl) rfl <| D.q (i := 2) rfl (by kernel_rfl) (fun _ => Wd.pik [1, 3] [] rfl rfl rfl) rfl (q.nilc rfl) rfl <| D.q (i := 3) rfl (by kernel_rfl) (fun _ => Wd.pik [1, 3] [] rfl rfl rfl) rfl (q.fld (off' := 0) rfl tFld_63_0 rfl) rfl <| ?_
    refine D.two (i := 4) (j := 5) (by kernel_rfl) rfl rfl ?_ ?_
    · refine Do.s (s.c (Qt.a (q.ld 2 rfl rfl tOne_60 rfl)) rfl) (fun _ => (fun _ => Wd.pik [1, 3] [] rfl rfl rfl)) rfl fun _ => ?_
      refine D.one (i := 5) (by kernel_rfl) rfl ?_
      refine Do.s (s.c (q.call eg_89 rfl rfl (fun w hw => (nou_any (48) w  (by first | omega | decide)))) rfl) (fun _ => (fun _ => Wd.pik [1, 3] [] rfl rfl rfl)) rfl fun _ => ?_
      refine D.one (i := 6) (by kernel_rfl) rfl ?_
      refine Do.s (s.bs (l := ([nou 48] : List ByteArray)) tSl_60 tZero_9 rfl rfl rfl rfl rfl rfl rfl) (fun _ => (fun _ => Wd.pik [2, 4] [] rfl rfl rfl)) rfl fun b2 => ?_
      refine D.one (i := 7) (by kernel_rfl) rfl ?_
      refine Do.s (s.app (l2 := [nou 48]) 1 _ rfl rfl rfl (fun _ => Wd.row 0 rfl) tApp_60 (by first | omega | (simp; omega)) (by first | omega | (simp; omega)) (fun _ => rfl) rfl) (fun _ => (fun _ => Wd.pik [2, 4] [] rfl rfl rfl)) rfl fun v1 => ?_
      refine D.q (i := 8) rfl (by kernel_rfl) (fun _ => Wd.pik [2, 4] [] rfl rfl rfl) rfl (q.nilc rfl) rfl <| D.q (i := 9) rfl (by kernel_rfl) (fun _ => Wd.pik [2, 4] [] rfl rfl rfl) rfl (q.fld (off' := 0) rfl tFld_63_0 rfl) rfl <| ?_
      refine D.one (i := 10) (by kernel_rfl) rfl ?_
      refine Do.s (s.stV (us := [v1]) (cs' := [v1, qn, .slice none 0 0, .int .i64 (-1), .bool false]) 3 _ rfl rfl rfl (fun w hw => Sl.cells1 ((fun _ => Wd.row 1 rfl) w hw)) (.inr ⟨tOne_60, rfl⟩) (fun w hw => (one_cons (Sl.one ((fun _ => Wd.row 1 rfl) w hw)) one_nil)) rfl rfl rfl) (fun _ => (fun _ => Wd.pik [2, 4] [] rfl rfl rfl)) rfl fun _ => ?_
      refine D.done (by kernel_rfl) <| ?_
      refine R.regD (fuel := 11) (Wd w (blks [] ++ own) [Res.row 9 (.slice (some ⟨b2, 0, none⟩) 1 1) ([nou 48] : List ByteArray), Res.row 9 v1 ((ks ++ ([nou 48])) : List ByteArray), Res.held w own] []) rfl mixed rfl ?_
      refine D.q (i := 0) rfl (by kernel_rfl) (fun _ => Wd.pik [0, 1, 4] [] rfl rfl rfl) rfl (q.mv rfl) rfl <| D.q (i := 1) rfl (by kernel_rfl) (fun _ => Wd.pik [0, 1, 4] [] rfl rfl rfl) rfl (q.mv rfl) rfl <| D.q (i := 2) rfl (by kernel_rfl) (fun _ => Wd.pik [0, 1, 4] [] rfl rfl rfl) rfl (q.nilc rfl) rfl <| D.q (i := 3) rfl (by kernel_rfl) (fun _ => Wd.pik [0, 1, 4] [] rfl rfl rfl) rfl (q.fld (off' := 1) rfl tFld_63_1 rfl) rfl <| ?_
      refine D.two (i := 4) (j := 5) (by kernel_rfl) rfl rfl ?_ ?_
      · refine Do.s (s.c (Qt.a (q.ld 3 rfl rfl tOne_60 rfl)) rfl) (fun _ => (fun _ => Wd.pik [0, 1, 4] [] rfl rfl rfl)) rfl fun _ => ?_
        refine D.one (i := 5) (by kernel_rfl) rfl ?_
        refine Do.s (s.c (q.call eg_89 rfl rfl (fun w hw => (nou_any (48) w  (by first | omega | decide)))) rfl) (fun _ => (fun _ => Wd.pik [0, 1, 4] [] rfl rfl rfl)) rfl fun _ => ?_
        refine D.one (i := 6) (by kernel_rfl) rfl ?_
        refine Do.s (s.bs (l := ([nou 48] : List ByteArray)) tSl_60 tZero_9 rfl rfl rfl rfl rfl rfl rfl) (fun _ => (fun _ => Wd.pik [1, 2, 5] [] rfl rfl rfl)) rfl fun b3 => ?_
        refine D.one (i := 7) (by kernel_rfl) rfl ?_
        refine Do.s (s.app (l2 := [nou 48]) 3 _ rfl rfl rfl (fun _ => Wd.row 0 rfl) tApp_60 (by first | omega | (simp; omega)) (by first | omega | (simp; omega)) (fun _ => rfl) rfl) (fun _ => (fun _ => Wd.pik [1, 2, 5] [] rfl rfl rfl)) rfl fun v2 => ?_
        refine D.q (i := 8) rfl (by kernel_rfl) (fun _ => Wd.pik [1, 2, 5] [] rfl rfl rfl) rfl (q.nilc rfl) rfl <| D.q (i := 9) rfl (by kernel_rfl) (fun _ => Wd.pik [1, 2, 5] [] rfl rfl rfl) rfl (q.fld (off' := 1) rfl tFld_63_1 rfl) rfl <| ?_
        refine D.one (i := 10) (by kernel_rfl) rfl ?_
        refine Do.s (s.stV (us := [v2]) (cs' := [v1, v2, .slice none 0 0, .int .i64 (-1), .bool false]) 4 _ rfl rfl rfl (fun w hw => Sl.cells1 ((fun _ => Wd.row 3 rfl) w hw)) (.inr ⟨tOne_60, rfl⟩) (fun w hw => (one_cons (Sl.one ((fun _ => Wd.row 3 rfl) w hw)) one_nil)) rfl rfl rfl) (fun _ => (fun _ => Wd.pik [1, 2, 5] [] rfl rfl rfl)) rfl fun _ => ?_
        refine D.done (by kernel_rfl) <| ?_
        refine R.reg rfl <| R.u 1 rfl <| R.q (q.add (r := ((i + 1 : Nat) : Int)) rfl rfl (wr (by omega))) rfl <| R.u 1 rfl <| R.nil ?_
        refine R.back (i + 1, v1, (ks ++ ([nou 48])), v2, (ns ++ ([nou 48]))) rfl (by (exact ⟨by omega, by rw [HK, List.replicate_succ'], by rw [HN, List.replicate_succ']⟩)) (by dsimp only; omega) ⟨rfl, rfl, rfl, trivial⟩ (fun _ => Wd.pik [2, 3, 4, 5] [] rfl rfl rfl)
      · refine Do.s (s.c (q.call eg_89 rfl rfl (fun w hw => (nou_any (48) w  (by first | omega | decide)))) rfl) (fun _ => (fun _ => Wd.pik [0, 1, 4] [] rfl rfl rfl)) rfl fun _ => ?_
        refine D.two (i := 4) (j := 6) (by kernel_rfl) rfl rfl ?_ ?_
        · refine Do.s (s.c (Qt.a (q.ld 3 rfl rfl tOne_60 rfl)) rfl) (fun _ => (fun _ => Wd.pik [0, 1, 4] [] rfl rfl rfl)) rfl fun _ => ?_
          refine D.one (i := 6) (by kernel_rfl) rfl ?_
          refine Do.s (s.bs (l := ([nou 48] : List ByteArray)) tSl_60 tZero_9 rfl rfl rfl rfl rfl rfl rfl) (fun _ => (fun _ => Wd.pik [1, 2, 5] [] rfl rfl rfl)) rfl fun b4 => ?_
          refine D.one (i := 7) (by kernel_rfl) rfl ?_
          refine Do.s (s.app (l2 := [nou 48]) 3 _ rfl rfl rfl (fun _ => Wd.row 0 rfl) tApp_60 (by first | omega | (simp; omega)) (by first | omega | (simp; omega)) (fun _ => rfl) rfl) (fun _ => (fun _ => Wd.pik [1, 2, 5] [] rfl rfl rfl)) rfl fun v3 => ?_
          refine D.q (i := 8) rfl (by kernel_rfl) (fun _ => Wd.pik [1, 2, 5] [] rfl rfl rfl) rfl (q.nilc rfl) rfl <| D.q (i := 9) rfl (by kernel_rfl) (fun _ => Wd.pik [1, 2, 5] [] rfl rfl rfl) rfl (q.fld (off' := 1) rfl tFld_63_1 rfl) rfl <| ?_
          refine D.one (i := 10) (by kernel_rfl) rfl ?_
          refine Do.s (s.stV (us := [v3]) (cs' := [v1, v3, .slice none 0 0, .int .i64 (-1), .bool false]) 4 _ rfl rfl rfl (fun w hw => Sl.cells1 ((fun _ => Wd.row 3 rfl) w hw)) (.inr ⟨tOne_60, rfl⟩) (fun w hw => (one_cons (Sl.one ((fun _ => Wd.row 3 rfl) w hw)) one_nil)) rfl rfl rfl) (fun _ => (fun _ => Wd.pik [1, 2, 5] [] rfl rfl rfl)) rfl fun _ => ?_
          refine D.done (by kernel_rfl) <| ?_
          refine R.reg rfl <| R.u 1 rfl <| R.q (q.add (r := ((i + 1 : Nat) : Int)) rfl rfl (wr (by omega))) rfl <| R.u 1 rfl <| R.nil ?_
          refine R.back (i + 1, v1, (ks ++ ([nou 48])), v3, (ns ++ ([nou 48]))) rfl (by (exact ⟨by omega, by rw [HK, List.replicate_succ'], by rw [HN, List.replicate_succ']⟩)) (by dsimp only; omega) ⟨rfl, rfl, rfl, trivial⟩ (fun _ => Wd.pik [2, 3, 4, 5] [] rfl rfl rfl)
        · refine Do.s (s.bs (l := ([nou 48] : List ByteArray)) tSl_60 tZero_9 rfl rfl rfl rfl rfl rfl rfl) (fun _ => (fun _ => Wd.pik [1, 2, 5] [] rfl rfl rfl)) rfl fun b5 => ?_
          refine D.one (i := 4) (by kernel_rfl) rfl ?_
          refine Do.s (s.c (Qt.a (q.ld 4 rfl rfl tOne_60 rfl)) rfl) (fun _ => (fun _ => Wd.pik [1, 2, 5] [] rfl rfl rfl)) rfl fun _ => ?_
          refine D.one (i := 7) (by kernel_rfl) rfl ?_
          refine Do.s (s.app (l2 := [nou 48]) 3 _ rfl rfl rfl (fun _ => Wd.row 0 rfl) tApp_60 (by first | omega | (simp; omega)) (by first | omega | (simp; omega)) (fun _ => rfl) rfl) (fun _ => (fun _ => Wd.pik [1, 2, 5] [] rfl rfl rfl)) rfl fun v4 => ?_
          refine D.q (i := 8) rfl (by kernel_rfl) (fun _ => Wd.pik [1, 2, 5] [] rfl rfl rfl) rfl (q.nilc rfl) rfl <| D.q (i := 9) rfl (by kernel_rfl) (fun _ => Wd.pik [1, 2, 5] [] rfl rfl rfl) rfl (q.fld (off' := 1) rfl tFld_63_1 rfl) rfl <| ?_
          refine D.one (i := 10) (by kernel_rfl) rfl ?_
          refine Do.s (s.stV (us := [v4]) (cs' := [v1, v4, .slice none 0 0, .int .i64 (-1), .bool false]) 4 _ rfl rfl rfl (fun w hw => Sl.cells1 ((fun _ => Wd.row 3 rfl) w hw)) (.inr ⟨tOne_60, rfl⟩) (fun w hw => (one_cons (Sl.one ((fun _ => Wd.row 3 rfl) w hw)) one_nil)) rfl rfl rfl) (fun _ => (fun _ => Wd.pik [1, 2, 5] [] rfl rfl rfl)) rfl fun _ => ?_
          refine D.done (by kernel_rfl) <| ?_
          refine R.reg rfl <| R.u 1 rfl <| R.q (q.add (r := ((i + 1 : Nat) : Int)) rfl rfl (wr (by omega))) rfl <| R.u 1 rfl <| R.nil ?_
          refine R.back (i + 1, v1, (ks ++ ([nou 48])), v4, (ns ++ ([nou 48]))) rfl (by (exact ⟨by omega, by rw [HK, List.replicate_succ'], by rw [HN, List.replicate_succ']⟩)) (by dsimp only; omega) ⟨rfl, rfl, rfl, trivial⟩ (fun _ => Wd.pik [2, 3, 4, 5] [] rfl rfl rfl)
    · refine Do.s (s.c (q.call eg_89 rfl rfl (fun w hw => (nou_any (48) w  (by first | omega | decide)))) rfl) (fun _ => (fun _ => Wd.pik [1, 3] [] rfl rfl rfl)) rfl fun _ => ?_
      refine D.two (i := 4) (j := 6) (by kernel_rfl) rfl rfl ?_ ?_
      · refine Do.s (s.c (Qt.a (q.ld 2 rfl rfl tOne_60 rfl)) rfl) (fun _ => (fun _ => Wd.pik [1, 3] [] rfl rfl rfl)) rfl fun _ => ?_
        refine D.one (i := 6) (by kernel_rfl) rfl ?_
        refine Do.s (s.bs (l := ([nou 48] : List ByteArray)) tSl_60 tZero_9 rfl rfl rfl rfl rfl rfl rfl) (fun _ => (fun _ => Wd.pik [2, 4] [] rfl rfl rfl)) rfl fun b6 => ?_
        refine D.one (i := 7) (by kernel_rfl) rfl ?_
        refine Do.s (s.app (l2 := [nou 48]) 1 _ rfl rfl rfl (fun _ => Wd.row 0 rfl) tApp_60 (by first | omega | (simp; omega)) (by first | omega | (simp; omega)) (fun _ => rfl) rfl) (fun _ => (fun _ => Wd.pik [2, 4] [] rfl rfl rfl)) rfl fun v5 => ?_
        refine D.q (i := 8) rfl (by kernel_rfl) (fun _ => Wd.pik [2, 4] [] rfl rfl rfl) rfl (q.nilc rfl) rfl <| D.q (i := 9) rfl (by kernel_rfl) (fun _ => Wd.pik [2, 4] [] rfl rfl rfl) rfl (q.fld (off' := 0) rfl tFld_63_0 rfl) rfl <| ?_
        refine D.one (i := 10) (by kernel_rfl) rfl ?_
        refine Do.s (s.stV (us := [v5]) (cs' := [v5, qn, .slice none 0 0, .int .i64 (-1), .bool false]) 3 _ rfl rfl rfl (fun w hw => Sl.cells1 ((fun _ => Wd.row 1 rfl) w hw)) (.inr ⟨tOne_60, rfl⟩) (fun w hw => (one_cons (Sl.one ((fun _ => Wd.row 1 rfl) w hw)) one_nil)) rfl rfl rfl) (fun _ => (fun _ => Wd.pik [2, 4] [] rfl rfl rfl)) rfl fun _ => ?_
        refine D.done (by kernel_rfl) <| ?_
        refine R.regD (fuel := 11) (Wd w (blks [] ++ own) [Res.row 9 (.slice (some ⟨b6, 0, none⟩) 1 1) ([nou 48] : List ByteArray), Res.row 9 v5 ((ks ++ ([nou 48])) : List ByteArray), Res.held w own] []) rfl mixed rfl ?_
        refine D.q (i := 0) rfl (by kernel_rfl) (fun _ => Wd.pik [0, 1, 4] [] rfl rfl rfl) rfl (q.mv rfl) rfl <| D.q (i := 1) rfl (by kernel_rfl) (fun _ => Wd.pik [0, 1, 4] [] rfl rfl rfl) rfl (q.mv rfl) rfl <| D.q (i := 2) rfl (by kernel_rfl) (fun _ => Wd.pik [0, 1, 4] [] rfl rfl rfl) rfl (q.nilc rfl) rfl <| D.q (i := 3) rfl (by kernel_rfl) (fun _ => Wd.pik [0, 1, 4] [] rfl rfl rfl) rfl (q.fld (off' := 1) rfl tFld_63_1 rfl) rfl <| ?_
        refine D.two (i := 4) (j := 5) (by kernel_rfl) rfl rfl ?_ ?_
        · refine Do.s (s.c (Qt.a (q.ld 3 rfl rfl tOne_60 rfl)) rfl) (fun _ => (fun _ => Wd.pik [0, 1, 4] [] rfl rfl rfl)) rfl fun _ => ?_
          refine D.one (i := 5) (by kernel_rfl) rfl ?_
          refine Do.s (s.c (q.call eg_89 rfl rfl (fun w hw => (nou_any (48) w  (by first | omega | decide)))) rfl) (fun _ => (fun _ => Wd.pik [0, 1, 4] [] rfl rfl rfl)) rfl fun _ => ?_
          refine D.one (i := 6) (by kernel_rfl) rfl ?_
          refine Do.s (s.bs (l := ([nou 48] : List ByteArray)) tSl_60 tZero_9 rfl rfl rfl rfl rfl rfl rfl) (fun _ => (fun _ => Wd.pik [1, 2, 5] [] rfl rfl rfl)) rfl fun b7 => ?_
          refine D.one (i := 7) (by kernel_rfl) rfl ?_
          refine Do.s (s.app (l2 := [nou 48]) 3 _ rfl rfl rfl (fun _ => Wd.row 0 rfl) tApp_60 (by first | omega | (simp; omega)) (by first | omega | (simp; omega)) (fun _ => rfl) rfl) (fun _ => (fun _ => Wd.pik [1, 2, 5] [] rfl rfl rfl)) rfl fun v6 => ?_
          refine D.q (i := 8) rfl (by kernel_rfl) (fun _ => Wd.pik [1, 2, 5] [] rfl rfl rfl) rfl (q.nilc rfl) rfl <| D.q (i := 9) rfl (by kernel_rfl) (fun _ => Wd.pik [1, 2, 5] [] rfl rfl rfl) rfl (q.fld (off' := 1) rfl tFld_63_1 rfl) rfl <| ?_
          refine D.one (i := 10) (by kernel_rfl) rfl ?_
          refine Do.s (s.stV (us := [v6]) (cs' := [v5, v6, .slice none 0 0, .int .i64 (-1), .bool false]) 4 _ rfl rfl rfl (fun w hw => Sl.cells1 ((fun _ => Wd.row 3 rfl) w hw)) (.inr ⟨tOne_60, rfl⟩) (fun w hw => (one_cons (Sl.one ((fun _ => Wd.row 3 rfl) w hw)) one_nil)) rfl rfl rfl) (fun _ => (fun _ => Wd.pik [1, 2, 5] [] rfl rfl rfl)) rfl fun _ => ?_
          refine D.done (by kernel_rfl) <| ?_
          refine R.reg rfl <| R.u 1 rfl <| R.q (q.add (r := ((i + 1 : Nat) : Int)) rfl rfl (wr (by omega))) rfl <| R.u 1 rfl <| R.nil ?_
          refine R.back (i + 1, v5, (ks ++ ([nou 48])), v6, (ns ++ ([nou 48]))) rfl (by (exact ⟨by omega, by rw [HK, List.replicate_succ'], by rw [HN, List.replicate_succ']⟩)) (by dsimp only; omega) ⟨rfl, rfl, rfl, trivial⟩ (fun _ => Wd.pik [2, 3, 4, 5] [] rfl rfl rfl)
        · refine Do.s (s.c (q.call eg_89 rfl rfl (fun w hw => (nou_any (48) w  (by first | omega | decide)))) rfl) (fun _ => (fun _ => Wd.pik [0, 1, 4] [] rfl rfl rfl)) rfl fun _ => ?_
          refine D.two (i := 4) (j := 6) (by kernel_rfl) rfl rfl ?_ ?_
          · refine Do.s (s.c (Qt.a (q.ld 3 rfl rfl tOne_60 rfl)) rfl) (fun _ => (fun _ => Wd.pik [0, 1, 4] [] rfl rfl rfl)) rfl fun _ => ?_
            refine D.one (i := 6) (by kernel_rfl) rfl ?_
            refine Do.s (s.bs (l := ([nou 48] : List ByteArray)) tSl_60 tZero_9 rfl rfl rfl rfl rfl rfl rfl) (fun _ => (fun _ => Wd.pik [1, 2, 5] [] rfl rfl rfl)) rfl fun b8 => ?_
            refine D.one (i := 7) (by kernel_rfl) rfl ?_
            refine Do.s (s.app (l2 := [nou 48]) 3 _ rfl rfl rfl (fun _ => Wd.row 0 rfl) tApp_60 (by first | omega | (simp; omega)) (by first | omega | (simp; omega)) (fun _ => rfl) rfl) (fun _ => (fun _ => Wd.pik [1, 2, 5] [] rfl rfl rfl)) rfl fun v7 => ?_
            refine D.q (i := 8) rfl (by kernel_rfl) (fun _ => Wd.pik [1, 2, 5] [] rfl rfl rfl) rfl (q.nilc rfl) rfl <| D.q (i := 9) rfl (by kernel_rfl) (fun _ => Wd.pik [1, 2, 5] [] rfl rfl rfl) rfl (q.fld (off' := 1) rfl tFld_63_1 rfl) rfl <| ?_
            refine D.one (i := 10) (by kernel_rfl) rfl ?_
            refine Do.s (s.stV (us := [v7]) (cs' := [v5, v7, .slice none 0 0, .int .i64 (-1), .bool false]) 4 _ rfl rfl rfl (fun w hw => Sl.cells1 ((fun _ => Wd.row 3 rfl) w hw)) (.inr ⟨tOne_60, rfl⟩) (fun w hw => (one_cons (Sl.one ((fun _ => Wd.row 3 rfl) w hw)) one_nil)) rfl rfl rfl) (fun _ => (fun _ => Wd.pik [1, 2, 5] [] rfl rfl rfl)) rfl fun _ => ?_
            refine D.done (by kernel_rfl) <| ?_
            refine R.reg rfl <| R.u 1 rfl <| R.q (q.add (r := ((i + 1 : Nat) : Int)) rfl rfl (wr (by omega))) rfl <| R.u 1 rfl <| R.nil ?_
            refine R.back (i + 1, v5, (ks ++ ([nou 48])), v7, (ns ++ ([nou 48]))) rfl (by (exact ⟨by omega, by rw [HK, List.replicate_succ'], by rw [HN, List.replicate_succ']⟩)) (by dsimp only; omega) ⟨rfl, rfl, rfl, trivial⟩ (fun _ => Wd.pik [2, 3, 4, 5] [] rfl rfl rfl)
          · refine Do.s (s.bs (l := ([nou 48] : List ByteArray)) tSl_60 tZero_9 rfl rfl rfl rfl rfl rfl rfl) (fun _ => (fun _ => Wd.pik [1, 2, 5] [] rfl rfl rfl)) rfl fun b9 => ?_
            refine D.one (i := 4) (by kernel_rfl) rfl ?_
            refine Do.s (s.c (Qt.a (q.ld 4 rfl rfl tOne_60 rfl)) rfl) (fun _ => (fun _ => Wd.pik [1, 2, 5] [] rfl rfl rfl)) rfl fun _ => ?_
            refine D.one (i := 7) (by kernel_rfl) rfl ?_
            refine Do.s (s.app (l2 := [nou 48]) 3 _ rfl rfl rfl (fun _ => Wd.row 0 rfl) tApp_60 (by first | omega | (simp; omega)) (by first | omega | (simp; omega)) (fun _ => rfl) rfl) (fun _ => (fun _ => Wd.pik [1, 2, 5] [] rfl rfl rfl)) rfl fun v8 => ?_
            refine D.q (i := 8) rfl (by kernel_rfl) (fun _ => Wd.pik [1, 2, 5] [] rfl rfl rfl) rfl (q.nilc rfl) rfl <| D.q (i := 9) rfl (by kernel_rfl) (fun _ => Wd.pik [1, 2, 5] [] rfl rfl rfl) rfl (q.fld (off' := 1) rfl tFld_63_1 rfl) rfl <| ?_
            refine D.one (i := 10) (by kernel_rfl) rfl ?_
            refine Do.s (s.stV (us := [v8]) (cs' := [v5, v8, .slice none 0 0, .int .i64 (-1), .bool false]) 4 _ rfl rfl rfl (fun w hw => Sl.cells1 ((fun _ => Wd.row 3 rfl) w hw)) (.inr ⟨tOne_60, rfl⟩) (fun w hw => (one_cons (Sl.one ((fun _ => Wd.row 3 rfl) w hw)) one_nil)) rfl rfl rfl) (fun _ => (fun _ => Wd.pik [1, 2, 5] [] rfl rfl rfl)) rfl fun _ => ?_
            refine D.done (by kernel_rfl) <| ?_
            refine R.reg rfl <| R.u 1 rfl <| R.q (q.add (r := ((i + 1 : Nat) : Int)) rfl rfl (wr (by omega))) rfl <| R.u 1 rfl <| R.nil ?_
            refine R.back (i + 1, v5, (ks ++ ([nou 48])), v8, (ns ++ ([nou 48]))) rfl (by (exact ⟨by omega, by rw [HK, List.replicate_succ'], by rw [HN, List.replicate_succ']⟩)) (by dsimp only; omega) ⟨rfl, rfl, rfl, trivial⟩ (fun _ => Wd.pik [2, 3, 4, 5] [] rfl rfl rfl)
      · refine Do.s (s.bs (l := ([nou 48] : List ByteArray)) tSl_60 tZero_9 rfl rfl rfl rfl rfl rfl rfl) (fun _ => (fun _ => Wd.pik [2, 4] [] rfl rfl rfl)) rfl fun b10 => ?_
        refine D.one (i := 4) (by kernel_rfl) rfl ?_
        refine Do.s (s.c (Qt.a (q.ld 3 rfl rfl tOne_60 rfl)) rfl) (fun _ => (fun _ => Wd.pik [2, 4] [] rfl rfl rfl)) rfl fun _ => ?_
        refine D.one (i := 7) (by kernel_rfl) rfl ?_
        refine Do.s (s.app (l2 := [nou 48]) 1 _ rfl rfl rfl (fun _ => Wd.row 0 rfl) tApp_60 (by first | omega | (simp; omega)) (by first | omega | (simp; omega)) (fun _ => rfl) rfl) (fun _ => (fun _ => Wd.pik [2, 4] [] rfl rfl rfl)) rfl fun v9 => ?_
        refine D.q (i := 8) rfl (by kernel_rfl) (fun _ => Wd.pik [2, 4] [] rfl rfl rfl) rfl (q.nilc rfl) rfl <| D.q (i := 9) rfl (by kernel_rfl) (fun _ => Wd.pik [2, 4] [] rfl rfl rfl) rfl (q.fld (off' := 0) rfl tFld_63_0 rfl) rfl <| ?_
        refine D.one (i := 10) (by kernel_rfl) rfl ?_
        refine Do.s (s.stV (us := [v9]) (cs' := [v9, qn, .slice none 0 0, .int .i64 (-1), .bool false]) 3 _ rfl rfl rfl (fun w hw => Sl.cells1 ((fun _ => Wd.row 1 rfl) w hw)) (.inr ⟨tOne_60, rfl⟩) (fun w hw => (one_cons (Sl.one ((fun _ => Wd.row 1 rfl) w hw)) one_nil)) rfl rfl rfl) (fun _ => (fun _ => Wd.pik [2, 4] [] rfl rfl rfl)) rfl fun _ => ?_
        refine D.done (by kernel_rfl) <| ?_
        refine R.regD (fuel := 11) (Wd w (blks [] ++ own) [Res.row 9 (.slice (some ⟨b10, 0, none⟩) 1 1) ([nou 48] : List ByteArray), Res.row 9 v9 ((ks ++ ([nou 48])) : List ByteArray), Res.held w own] []) rfl mixed rfl ?_
        refine D.q (i := 0) rfl (by kernel_rfl) (fun _ => Wd.pik [0, 1, 4] [] rfl rfl rfl) rfl (q.mv rfl) rfl <| D.q (i := 1) rfl (by kernel_rfl) (fun _ => Wd.pik [0, 1, 4] [] rfl rfl rfl) rfl (q.mv rfl) rfl <| D.q (i := 2) rfl (by kernel_rfl) (fun _ => Wd.pik [0, 1, 4] [] rfl rfl rfl) rfl (q.nilc rfl) rfl <| D.q (i := 3) rfl (by kernel_rfl) (fun _ => Wd.pik [0, 1, 4] [] rfl rfl rfl) rfl (q.fld (off' := 1) rfl tFld_63_1 rfl) rfl <| ?_
        refine D.two (i := 4) (j := 5) (by kernel_rfl) rfl rfl ?_ ?_
        · refine Do.s (s.c (Qt.a (q.ld 3 rfl rfl tOne_60 rfl)) rfl) (fun _ => (fun _ => Wd.pik [0, 1, 4] [] rfl rfl rfl)) rfl fun _ => ?_
          refine D.one (i := 5) (by kernel_rfl) rfl ?_
          refine Do.s (s.c (q.call eg_89 rfl rfl (fun w hw => (nou_any (48) w  (by first | omega | decide)))) rfl) (fun _ => (fun _ => Wd.pik [0, 1, 4] [] rfl rfl rfl)) rfl fun _ => ?_
          refine D.one (i := 6) (by kernel_rfl) rfl ?_
          refine Do.s (s.bs (l := ([nou 48] : List ByteArray)) tSl_60 tZero_9 rfl rfl rfl rfl rfl rfl rfl) (fun _ => (fun _ => Wd.pik [1, 2, 5] [] rfl rfl rfl)) rfl fun b11 => ?_
          refine D.one (i := 7) (by kernel_rfl) rfl ?_
          refine Do.s (s.app (l2 := [nou 48]) 3 _ rfl rfl rfl (fun _ => Wd.row 0 rfl) tApp_60 (by first | omega | (simp; omega)) (by first | omega | (simp; omega)) (fun _ => rfl) rfl) (fun _ => (fun _ => Wd.pik [1, 2, 5] [] rfl rfl rfl)) rfl fun v10 => ?_
          refine D.q (i := 8) rfl (by kernel_rfl) (fun _ => Wd.pik [1, 2, 5] [] rfl rfl rfl) rfl (q.nilc rfl) rfl <| D.q (i := 9) rfl (by kernel_rfl) (fun _ => Wd.pik [1, 2, 5] [] rfl rfl rfl) rfl (q.fld (off' := 1) rfl tFld_63_1 rfl) rfl <| ?_
          refine D.one (i := 10) (by kernel_rfl) rfl ?_
          refine Do.s (s.stV (us := [v10]) (cs' := [v9, v10, .slice none 0 0, .int .i64 (-1), .bool false]) 4 _ rfl rfl rfl (fun w hw => Sl.cells1 ((fun _ => Wd.row 3 rfl) w hw)) (.inr ⟨tOne_60, rfl⟩) (fun w hw => (one_cons (Sl.one ((fun _ => Wd.row 3 rfl) w hw)) one_nil)) rfl rfl rfl) (fun _ => (fun _ => Wd.pik [1, 2, 5] [] rfl rfl rfl)) rfl fun _ => ?_
          refine D.done (by kernel_rfl) <| ?_
          refine R.reg rfl <| R.u 1 rfl <| R.q (q.add (r := ((i + 1 : Nat) : Int)) rfl rfl (wr (by omega))) rfl <| R.u 1 rfl <| R.nil ?_
          refine R.back (i + 1, v9, (ks ++ ([nou 48])), v10, (ns ++ ([nou 48]))) rfl (by (exact ⟨by omega, by rw [HK, List.replicate_succ'], by rw [HN, List.replicate_succ']⟩)) (by dsimp only; omega) ⟨rfl, rfl, rfl, trivial⟩ (fun _ => Wd.pik [2, 3, 4, 5] [] rfl rfl rfl)
        · refine Do.s (s.c (q.call eg_89 rfl rfl (fun w hw => (nou_any (48) w  (by first | omega | decide)))) rfl) (fun _ => (fun _ => Wd.pik [0, 1, 4] [] rfl rfl rfl)) rfl fun _ => ?_
          refine D.two (i := 4) (j := 6) (by kernel_rfl) rfl rfl ?_ ?_
          · refine Do.s (s.c (Qt.a (q.ld 3 rfl rfl tOne_60 rfl)) rfl) (fun _ => (fun _ => Wd.pik [0, 1, 4] [] rfl rfl rfl)) rfl fun _ => ?_
            refine D.one (i := 6) (by kernel_rfl) rfl ?_
            refine Do.s (s.bs (l := ([nou 48] : List ByteArray)) tSl_60 tZero_9 rfl rfl rfl rfl rfl rfl rfl) (fun _ => (fun _ => Wd.pik [1, 2, 5] [] rfl rfl rfl)) rfl fun b12 => ?_
            refine D.one (i := 7) (by kernel_rfl) rfl ?_
            refine Do.s (s.app (l2 := [nou 48]) 3 _ rfl rfl rfl (fun _ => Wd.row 0 rfl) tApp_60 (by first | omega | (simp; omega)) (by first | omega | (simp; omega)) (fun _ => rfl) rfl) (fun _ => (fun _ => Wd.pik [1, 2, 5] [] rfl rfl rfl)) rfl fun v11 => ?_
            refine D.q (i := 8) rfl (by kernel_rfl) (fun _ => Wd.pik [1, 2, 5] [] rfl rfl rfl) rfl (q.nilc rfl) rfl <| D.q (i := 9) rfl (by kernel_rfl) (fun _ => Wd.pik [1, 2, 5] [] rfl rfl rfl) rfl (q.fld (off' := 1) rfl tFld_63_1 rfl) rfl <| ?_
            refine D.one (i := 10) (by kernel_rfl) rfl ?_
            refine Do.s (s.stV (us := [v11]) (cs' := [v9, v11, .slice none 0 0, .int .i64 (-1), .bool false]) 4 _ rfl rfl rfl (fun w hw => Sl.cells1 ((fun _ => Wd.row 3 rfl) w hw)) (.inr ⟨tOne_60, rfl⟩) (fun w hw => (one_cons (Sl.one ((fun _ => Wd.row 3 rfl) w hw)) one_nil)) rfl rfl rfl) (fun _ => (fun _ => Wd.pik [1, 2, 5] [] rfl rfl rfl)) rfl fun _ => ?_
            refine D.done (by kernel_rfl) <| ?_
            refine R.reg rfl <| R.u 1 rfl <| R.q (q.add (r := ((i + 1 : Nat) : Int)) rfl rfl (wr (by omega))) rfl <| R.u 1 rfl <| R.nil ?_
            refine R.back (i + 1, v9, (ks ++ ([nou 48])), v11, (ns ++ ([nou 48]))) rfl (by (exact ⟨by omega, by rw [HK, List.replicate_succ'], by rw [HN, List.replicate_succ']⟩)) (by dsimp only; omega) ⟨rfl, rfl, rfl, trivial⟩ (fun _ => Wd.pik [2, 3, 4, 5] [] rfl rfl rfl)
          · refine Do.s (s.bs (l := ([nou 48] : List ByteArray)) tSl_60 tZero_9 rfl rfl rfl rfl rfl rfl rfl) (fun _ => (fun _ => Wd.pik [1, 2, 5] [] rfl rfl rfl)) rfl fun b13 => ?_
            refine D.one (i := 4) (by kernel_rfl) rfl ?_
            refine Do.s (s.c (Qt.a (q.ld 4 rfl rfl tOne_60 rfl)) rfl) (fun _ => (fun _ => Wd.pik [1, 2, 5] [] rfl rfl rfl)) rfl fun _ => ?_
            refine D.one (i := 7) (by kernel_rfl) rfl ?_
            refine Do.s (s.app (l2 := [nou 48]) 3 _ rfl rfl rfl (fun _ => Wd.row 0 rfl) tApp_60 (by first | omega | (simp; omega)) (by first | omega | (simp; omega)) (fun _ => rfl) rfl) (fun _ => (fun _ => Wd.pik [1, 2, 5] [] rfl rfl rfl)) rfl fun v12 => ?_
            refine D.q (i := 8) rfl (by kernel_rfl) (fun _ => Wd.pik [1, 2, 5] [] rfl rfl rfl) rfl (q.nilc rfl) rfl <| D.q (i := 9) rfl (by kernel_rfl) (fun _ => Wd.pik [1, 2, 5] [] rfl rfl rfl) rfl (q.fld (off' := 1) rfl tFld_63_1 rfl) rfl <| ?_
            refine D.one (i := 10) (by kernel_rfl) rfl ?_
            refine Do.s (s.stV (us := [v12]) (cs' := [v9, v12, .slice none 0 0, .int .i64 (-1), .bool false]) 4 _ rfl rfl rfl (fun w hw => Sl.cells1 ((fun _ => Wd.row 3 rfl) w hw)) (.inr ⟨tOne_60, rfl⟩) (fun w hw => (one_cons (Sl.one ((fun _ => Wd.row 3 rfl) w hw)) one_nil)) rfl rfl rfl) (fun _ => (fun _ => Wd.pik [1, 2, 5] [] rfl rfl rfl)) rfl fun _ => ?_
            refine D.done (by kernel_rfl) <| ?_
            refine R.reg rfl <| R.u 1 rfl <| R.q (q.add (r := ((i + 1 : Nat) : Int)) rfl rfl (wr (by omega))) rfl <| R.u 1 rfl <| R.nil ?_
            refine R.back (i + 1, v9, (ks ++ ([nou 48])), v12, (ns ++ ([nou 48]))) rfl (by (exact ⟨by omega, by rw [HK, List.replicate_succ'], by rw [HN, List.replicate_succ']⟩)) (by dsimp only; omega) ⟨rfl, rfl, rfl, trivial⟩ (fun _ => Wd.pik [2, 3, 4, 5] [] rfl rfl rfl)
  · refine R.q (q.lss rfl rfl (decide_eq_false (by omega))) rfl <| R.nil ?_
    refine R.condF rfl rfl ?_
    refine R.reg rfl <| R.u 3 rfl <| R.nil ?_
    refine R.row0 (α := Turn) 132 ?_
    have hz : dNew (Int.toNat n) = (⟨ks, ns, [], -1, false⟩ : Dsk) := by (rw [HK, HN, show i = n.toNat by omega]; rfl)
    rw [hz]
    exact R.w2 (b1, qk, qn, (.slice none 0 0)) [3, 1, 2, 0, 4] [] rfl Try.results25 (RV.tmp rfl) (RV.tmp rfl) rfl rfl rfl (tup2 rfl rfl)

theorem newDR_bad (n : Int) (w : World) (hn : ¬ (1 ≤ n ∧ n ≤ 200)) : Calls Try.prog 25 #[.int .i64 n] w fun e w' => e = .returned (.tuple #[.pointer none, .int .i64 1]) ∧ Ext w w' := by
  refine R.enter (n := 40) (vs := [.int .i64 n]) [] [(0, .int .i64 n)] Try.func25 rfl rfl rfl rfl ?_
  refine R.reg rfl <| R.u 2 rfl <| R.nil ?_
  refine R.reg rfl <| R.u 1 rfl <| ?_
  by_cases h1 : n < 1
  · refine R.q (q.lss rfl rfl (decide_eq_true (by omega))) rfl <| R.u 4 rfl <| R.nil ?_
    refine R.condT rfl rfl ?_
    refine R.reg rfl <| R.u 2 rfl <| R.nil ?_
    exact R.rv2 rfl Try.results25 rfl rfl rfl (rI (by (rfl)))
  · refine R.q (q.lss rfl rfl (decide_eq_false (by omega))) rfl <| R.u 2 rfl <| ?_
    by_cases h2 : 200 < n
    · refine R.qg rfl (q.gtr rfl rfl (decide_eq_true (by omega))) rfl <| R.u 1 rfl <| R.nil ?_
      refine R.condT rfl rfl ?_
      refine R.reg rfl <| R.u 2 rfl <| R.nil ?_
      exact R.rv2 rfl Try.results25 rfl rfl rfl (rI (by (rfl)))
    · exfalso; omega

theorem dReadR_any (b_dk : Nat) (q_dkKept q_dkNow q_dkWait : Value) (dk : Dsk) (i : Int) (w : World) (k_dk : (Res.box b_dk [q_dkKept, q_dkNow, q_dkWait, .int .i64 dk.Fuse, .bool dk.Down] 63).ok w) (s_q_dkKept : Sl w q_dkKept (dk.Kept : List ByteArray)) (s_q_dkNow : Sl w q_dkNow (dk.Now : List ByteArray)) (s_q_dkWait : Sl w q_dkWait (dk.Wait : List Turn)) : Calls Try.prog 30 #[.pointer (some ⟨b_dk, 0, none⟩), .int .i64 i] w fun e w' => e = .returned (.tuple #[.string ((dRead dk i).1), .int .i64 ((dRead dk i).2)]) ∧ Ext w w' := by
  refine R.enter (n := 28) (vs := [.pointer (some ⟨b_dk, 0, none⟩), .int .i64 i]) [] [(0, .pointer (some ⟨b_dk, 0, none⟩)), (1, .int .i64 i)] Try.func30 rfl rfl rfl rfl ?_
  refine R.oldL s_q_dkKept ?_
  refine R.oldL s_q_dkNow ?_
  refine R.oldL s_q_dkWait ?_
  refine R.oldF (r := Res.box b_dk [q_dkKept, q_dkNow, q_dkWait, .int .i64 dk.Fuse, .bool dk.Down] 63) k_dk (box_lt k_dk) ?_
  refine R.reg rfl <| R.u 2 rfl <| R.nil ?_
  refine R.reg rfl <| R.u 1 rfl <| R.q (q.nilc rfl) rfl <| R.q (q.fld (off' := 4) rfl tFld_63_4 rfl) rfl <| R.q (q.ldF 0 rfl rfl tOne_4 rfl) rfl <| R.nil ?_
  refine R.cond rfl rfl (fun h1 => ?_) (fun h1 => ?_)
  · refine R.reg rfl <| R.u 2 rfl <| R.nil ?_
    exact R.rv2 rfl Try.results30 rfl rfl (rS (by (first | (rw [dRead_down (by assumption)]; done) | (rw [dRead_bad (by assumption) (by omega)]; done) | (rw [dRead_ok (by assumption) (by omega) rfl]; done)))) (rI (by (first | (rw [dRead_down (by assumption)]; done) | (rw [dRead_bad (by assumption) (by omega)]; done) | (rw [dRead_ok (by assumption) (by omega) rfl]; done))))
  · refine R.reg rfl <| R.u 1 rfl <| ?_
    by_cases h2 : i < 0
    · refine R.q (q.lss rfl rfl (decide_eq_true (by omega))) rfl <| R.u 9 rfl <| R.nil ?_
      refine R.condT rfl rfl ?_
      refine R.reg rfl <| R.u 2 rfl <| R.nil ?_
      exact R.rv2 rfl Try.results30 rfl rfl (rS (by (first | (rw [dRead_down (by assumption)]; done) | (rw [dRead_bad (by assumption) (by omega)]; done) | (rw [dRead_ok (by assumption) (by omega) rfl]; done)))) (rI (by (first | (rw [dRead_down (by assumption)]; done) | (rw [dRead_bad (by assumption) (by omega)]; done) | (rw [dRead_ok (by assumption) (by omega) rfl]; done))))
    · refine R.q (q.lss rfl rfl (decide_eq_false (by omega))) rfl <| R.u 3 rfl <| R.qg rfl (q.nilc rfl) rfl <| R.qg rfl (q.fld (off' := 1) rfl tFld_63_1 rfl) rfl <| R.qg rfl (q.ldF 0 rfl rfl tOne_60 rfl) rfl <| R.qg rfl (q.len' (fun _ => Wd.fls 2 rfl) rfl Try.underlying60) rfl <| ?_
      by_cases h3 : i < (dk.Now.length : Int)
      · refine R.qg rfl (q.geq rfl rfl (decide_eq_false (by omega))) rfl <| R.u 1 rfl <| R.nil ?_
        refine R.condF rfl rfl ?_
        refine R.reg rfl <| R.u 1 rfl <| R.q (q.nilc rfl) rfl <| R.q (q.fld (off' := 1) rfl tFld_63_1 rfl) rfl <| R.q (q.ldF 0 rfl rfl tOne_60 rfl) rfl <| R.u 1 rfl <| ?_
        obtain ⟨x1, hx1⟩ : ∃ z, dk.Now[i.toNat]? = some z := ⟨_, List.getElem?_eq_getElem (by omega)⟩
        refine R.q (q.idx (i := i.toNat) (fun _ => Wd.fls 2 rfl) rfl rfl tSl_60 (by omega) hx1) rfl <| R.q (q.ldE (fun _ => Wd.fls 2 rfl) hx1 rfl tOne_9 rfl) rfl <| R.u 2 rfl <| R.nil ?_
        exact R.rv2 rfl Try.results30 rfl rfl (rS (by (first | (rw [dRead_down (by assumption)]; done) | (rw [dRead_bad (by assumption) (by omega)]; done) | (rw [dRead_ok (by assumption) (by omega) hx1]; done)))) (rI (by (first | (rw [dRead_down (by assumption)]; done) | (rw [dRead_bad (by assumption) (by omega)]; done) | (rw [dRead_ok (by assumption) (by omega) hx1]; done))))
      · refine R.qg rfl (q.geq rfl rfl (decide_eq_true (by omega))) rfl <| R.u 1 rfl <| R.nil ?_
        refine R.condT rfl rfl ?_
        refine R.reg rfl <| R.u 2 rfl <| R.nil ?_
        exact R.rv2 rfl Try.results30 rfl rfl (rS (by (first | (rw [dRead_down (by assumption)]; done) | (rw [dRead_bad (by assumption) (by omega)]; done) | (rw [dRead_ok (by assumption) (by omega) rfl]; done)))) (rI (by (first | (rw [dRead_down (by assumption)]; done) | (rw [dRead_bad (by assumption) (by omega)]; done) | (rw [dRead_ok (by assumption) (by omega) rfl]; done))))

theorem dStepR_any (b_dk : Nat) (q_dkKept q_dkNow q_dkWait : Value) (dk : Dsk) (w : World) (own : List Nat) (H : Wd w (blks [Res.box b_dk [q_dkKept, q_dkNow, q_dkWait, .int .i64 dk.Fuse, .bool dk.Down] 63, Res.row 9 q_dkKept (dk.Kept : List ByteArray), Res.row 9 q_dkNow (dk.Now : List ByteArray), Res.row 132 q_dkWait (dk.Wait : List Turn)] ++ own) ([Res.box b_dk [q_dkKept, q_dkNow, q_dkWait, .int .i64 dk.Fuse, .bool dk.Down] 63, Res.row 9 q_dkKept (dk.Kept : List ByteArray), Res.row 9 q_dkNow (dk.Now : List ByteArray), Res.row 132 q_dkWait (dk.Wait : List Turn)] ++ [Res.held w own]) [] w) (hf : -1 ≤ dk.Fuse ∧ dk.Fuse ≤ 9223372036854775807) : Calls Try.prog 91 #[.pointer (some ⟨b_dk, 0, none⟩)] w fun e w' => ∃ z : Value × Value × Value, e = .returned (.int .i64 (((dStep dk)).2)) ∧ Wd w (blks [Res.box b_dk [q_dkKept, q_dkNow, q_dkWait, .int .i64 dk.Fuse, .bool dk.Down] 63, Res.row 9 q_dkKept (dk.Kept : List ByteArray), Res.row 9 q_dkNow (dk.Now : List ByteArray), Res.row 132 q_dkWait (dk.Wait : List Turn)] ++ own) ([Res.box b_dk [z.1, z.2.1, z.2.2, .int .i64 ((((dStep dk)).1).Fuse), .bool ((((dStep dk)).1).Down)] 63, Res.row 9 z.1 ((((dStep dk)).1).Kept : List ByteArray), Res.row 9 z.2.1 ((((dStep dk)).1).Now : List ByteArray), Res.row 132 z.2.2 ((((dStep dk)).1).Wait : List Turn)] ++ [Res.held w own]) [] w' := by
  have c_dk_Kept := H.cap 1 rfl; have m_dk_Kept := H.lenB 1 rfl
  have c_dk_Now := H.cap 2 rfl; have m_dk_Now := H.lenB 2 rfl
  have c_dk_Wait := H.cap 3 rfl; have m_dk_Wait := H.lenB 3 rfl
  refine R.enterN (n := 30) (vs := [.pointer (some ⟨b_dk, 0, none⟩)]) (B := [Res.box b_dk [q_dkKept, q_dkNow, q_dkWait, .int .i64 dk.Fuse, .bool dk.Down] 63, Res.row 9 q_dkKept (dk.Kept : List ByteArray), Res.row 9 q_dkNow (dk.Now : List ByteArray), Res.row 132 q_dkWait (dk.Wait : List Turn), Res.held w own]) [(0, .pointer (some ⟨b_dk, 0, none⟩))] Try.func91 rfl rfl rfl rfl H ?_
  refine R.reg rfl <| R.u 1 rfl <| R.nil ?_
  refine R.reg rfl <| R.u 1 rfl <| R.q (q.nilc rfl) rfl <| R.q (q.fld (off' := 4) rfl tFld_63_4 rfl) rfl <| R.q (q.ld 0 rfl rfl tOne_4 rfl) rfl <| R.nil ?_
  refine R.cond rfl rfl (fun h1 => ?_) (fun h1 => ?_)
  · refine R.reg rfl <| R.u 1 rfl <| R.nil ?_
    have hz : dStep dk = (dk, 10) := by (first | exact dStep_down' (by assumption) | exact dStep_blow (by assumption) (by assumption) | exact dStep_go1 (by assumption) (by omega) | exact dStep_go0 (by assumption) (by omega))
    rw [hz]
    exact R.w1 (q_dkKept, q_dkNow, q_dkWait) [0, 1, 2, 3, 4] [] rfl Try.results91 (RV.tmp rfl) rfl rfl rfl rfl
  · refine R.reg rfl <| R.u 1 rfl <| R.q (q.nilc rfl) rfl <| R.q (q.fld (off' := 3) rfl tFld_63_3 rfl) rfl <| R.q (q.ld 0 rfl rfl tOne_3 rfl) rfl <| ?_
    by_cases h2 : dk.Fuse = 0
    · refine R.q (q.eql rfl rfl (beq_iff_eq.2 (by omega))) rfl <| R.nil ?_
      refine R.condT rfl rfl ?_
      refine R.reg rfl <| R.u 1 rfl <| R.q (q.nilc rfl) rfl <| R.q (q.fld (off' := 4) rfl tFld_63_4 rfl) rfl <| ?_
      refine R.s rfl (s.st (us := [.bool true]) (cs' := [q_dkKept, q_dkNow, q_dkWait, .int .i64 dk.Fuse, .bool true]) 0 _ rfl rfl rfl rfl (.inr ⟨tOne_4, rfl⟩) rfl rfl rfl rfl) fun _ => ?_
      refine R.nil ?_
      refine R.reg rfl <| R.u 1 rfl <| R.q (q.nilc rfl) rfl <| R.q (q.fld (off' := 3) rfl tFld_63_3 rfl) rfl <| ?_
      refine R.s rfl (s.st (us := [.int .i64 (-1)]) (cs' := [q_dkKept, q_dkNow, q_dkWait, .int .i64 (-1), .bool true]) 0 _ rfl rfl rfl rfl (.inr ⟨tOne_3, rfl⟩) rfl rfl rfl rfl) fun _ => ?_
      refine R.nil ?_
      refine R.reg rfl <| R.u 1 rfl <| R.nil ?_
      have hz : dStep dk = ((⟨dk.Kept, dk.Now, dk.Wait, -1, true⟩ : Dsk), 10) := by (first | exact dStep_down' (by assumption) | exact dStep_blow (by assumption) (by assumption) | exact dStep_go1 (by assumption) (by omega) | exact dStep_go0 (by assumption) (by omega))
      rw [hz]
      exact R.w1 (q_dkKept, q_dkNow, q_dkWait) [0, 1, 2, 3, 4] [] rfl Try.results91 (RV.tmp rfl) rfl rfl rfl rfl
    · refine R.q (q.eql rfl rfl (beq_eq_false_iff_ne.2 (by omega))) rfl <| R.nil ?_
      refine R.condF rfl rfl ?_
      refine R.reg rfl <| R.u 1 rfl <| R.q (q.nilc rfl) rfl <| R.q (q.fld (off' := 3) rfl tFld_63_3 rfl) rfl <| R.q (q.ld 0 rfl rfl tOne_3 rfl) rfl <| ?_
      by_cases h3 : 0 < dk.Fuse
      · refine R.q (q.gtr rfl rfl (decide_eq_true (by omega))) rfl <| R.nil ?_
        refine R.condT rfl rfl ?_
        refine R.reg rfl <| R.u 1 rfl <| R.q (q.nilc rfl) rfl <| R.q (q.fld (off' := 3) rfl tFld_63_3 rfl) rfl <| R.q (q.ld 0 rfl rfl tOne_3 rfl) rfl <| R.q (q.sub (r := dk.Fuse - 1) rfl rfl (wr (by omega))) rfl <| R.q (q.nilc rfl) rfl <| R.q (q.fld (off' := 3) rfl tFld_63_3 rfl) rfl <| ?_
        refine R.s rfl (s.st (us := [.int .i64 (dk.Fuse - 1)]) (cs' := [q_dkKept, q_dkNow, q_dkWait, .int .i64 (dk.Fuse - 1), .bool dk.Down]) 0 _ rfl rfl rfl rfl (.inr ⟨tOne_3, rfl⟩) rfl rfl rfl rfl) fun _ => ?_
        refine R.nil ?_
        refine R.reg rfl <| R.u 1 rfl <| R.nil ?_
        have hz : dStep dk = ((⟨dk.Kept, dk.Now, dk.Wait, (dk.Fuse - 1), dk.Down⟩ : Dsk), 0) := by (first | exact dStep_down' (by assumption) | exact dStep_blow (by assumption) (by assumption) | exact dStep_go1 (by assumption) (by omega) | exact dStep_go0 (by assumption) (by omega))
        rw [hz]
        exact R.w1 (q_dkKept, q_dkNow, q_dkWait) [0, 1, 2, 3, 4] [] rfl Try.results91 (RV.tmp rfl) rfl rfl rfl rfl
      · refine R.q (q.gtr rfl rfl (decide_eq_false (by omega))) rfl <| R.nil ?_
        refine R.condF rfl rfl ?_
        refine R.reg rfl <| R.u 1 rfl <| R.nil ?_
        have hz : dStep dk = (dk, 0) := by (first | exact dStep_down' (by assumption) | exact dStep_blow (by assumption) (by assumption) | exact dStep_go1 (by assumption) (by omega) | exact dStep_go0 (by assumption) (by omega))
        rw [hz]
        exact R.w1 (q_dkKept, q_dkNow, q_dkWait) [0, 1, 2, 3, 4] [] rfl Try.results91 (RV.tmp rfl) rfl rfl rfl rfl

theorem dWriteR_any (b_dk : Nat) (q_dkKept q_dkNow q_dkWait : Value) (dk : Dsk) (i : Int) (sx : ByteArray) (w : World) (own : List Nat) (H : Wd w (blks [Res.box b_dk [q_dkKept, q_dkNow, q_dkWait, .int .i64 dk.Fuse, .bool dk.Down] 63, Res.row 9 q_dkKept (dk.Kept : List ByteArray), Res.row 9 q_dkNow (dk.Now : List ByteArray), Res.row 132 q_dkWait (dk.Wait : List Turn)] ++ own) ([Res.box b_dk [q_dkKept, q_dkNow, q_dkWait, .int .i64 dk.Fuse, .bool dk.Down] 63, Res.row 9 q_dkKept (dk.Kept : List ByteArray), Res.row 9 q_dkNow (dk.Now : List ByteArray), Res.row 132 q_dkWait (dk.Wait : List Turn)] ++ [Res.held w own]) [] w) (hd : dk.Kept.length = dk.Now.length ∧ dk.Now.length ≤ 100000 ∧ dk.Wait.length ≤ 100000 ∧ -1 ≤ dk.Fuse ∧ dk.Fuse ≤ 9223372036854775807) : Calls Try.prog 28 #[.pointer (some ⟨b_dk, 0, none⟩), .int .i64 i, .string sx] w fun e w' => ∃ z : Value × Value × Value, e = .returned (.int .i64 (((dWrite dk i sx)).2)) ∧ Wd w (blks [Res.box b_dk [q_dkKept, q_dkNow, q_dkWait, .int .i64 dk.Fuse, .bool dk.Down] 63, Res.row 9 q_dkKept (dk.Kept : List ByteArray), Res.row 9 q_dkNow (dk.Now : List ByteArray), Res.row 132 q_dkWait (dk.Wait : List Turn)] ++ own) ([Res.box b_dk [z.1, z.2.1, z.2.2, .int .i64 ((((dWrite dk i sx)).1).Fuse), .bool ((((dWrite dk i sx)).1).Down)] 63, Res.row 9 z.1 ((((dWrite dk i sx)).1).Kept : List ByteArray), Res.row 9 z.2.1 ((((dWrite dk i sx)).1).Now : List ByteArray), Res.row 132 z.2.2 ((((dWrite dk i sx)).1).Wait : List Turn)] ++ [Res.held w own]) [] w' := by
  have c_dk_Kept := H.cap 1 rfl; have m_dk_Kept := H.lenB 1 rfl
  have c_dk_Now := H.cap 2 rfl; have m_dk_Now := H.lenB 2 rfl
  have c_dk_Wait := H.cap 3 rfl; have m_dk_Wait := H.lenB 3 rfl
  have hsl := dStep_lists dk; have hs1 := congrArg List.length hsl.1; have hs2 := congrArg List.length hsl.2.1; have hs3 := congrArg List.length hsl.2.2
  have hse := dStep_err dk
  refine R.enterN (n := 54) (vs := [.pointer (some ⟨b_dk, 0, none⟩), .int .i64 i, .string sx]) (B := [Res.box b_dk [q_dkKept, q_dkNow, q_dkWait, .int .i64 dk.Fuse, .bool dk.Down] 63, Res.row 9 q_dkKept (dk.Kept : List ByteArray), Res.row 9 q_dkNow (dk.Now : List ByteArray), Res.row 132 q_dkWait (dk.Wait : List Turn), Res.held w own]) [(0, .pointer (some ⟨b_dk, 0, none⟩)), (1, .int .i64 i), (2, .string sx)] Try.func28 rfl rfl rfl rfl H ?_
  refine R.reg rfl <| R.u 1 rfl <| R.nil ?_
  refine R.reg rfl <| R.u 1 rfl <| ?_
  by_cases h1 : i < 0
  · refine R.q (q.lss rfl rfl (decide_eq_true (by omega))) rfl <| R.u 14 rfl <| R.nil ?_
    refine R.condT rfl rfl ?_
    refine R.reg rfl <| R.u 1 rfl <| R.nil ?_
    have hz : dWrite dk i sx = (dk, 1) := by (first | exact dWrite_bad (by omega) | exact dWrite_err (by omega) (by omega) (by omega) (by omega) | (rw [dWrite_ok (by omega) (by omega) (by omega) (by omega)]; first | done | rfl) | (rw [dWrite_ok (by omega) (by omega) (by omega) (by omega)]; simp_all; done))
    rw [hz]
    exact R.w1 (q_dkKept, q_dkNow, q_dkWait) [0, 1, 2, 3, 4] [] rfl Try.results28 (RV.tmp rfl) rfl rfl rfl rfl
  · refine R.q (q.lss rfl rfl (decide_eq_false (by omega))) rfl <| R.u 3 rfl <| R.qg rfl (q.nilc rfl) rfl <| R.qg rfl (q.fld (off' := 1) rfl tFld_63_1 rfl) rfl <| R.qg rfl (q.ld 0 rfl rfl tOne_60 rfl) rfl <| R.qg rfl (q.len' (fun _ => Wd.row 2 rfl) rfl Try.underlying60) rfl <| ?_
    by_cases h2 : i < (dk.Now.length : Int)
    · refine R.qg rfl (q.geq rfl rfl (decide_eq_false (by omega))) rfl <| R.u 3 rfl <| R.qg rfl (q.lenS rfl Try.underlying9) rfl <| ?_
      by_cases h3 : 48 < sx.size
      · refine R.qg rfl (q.gtr rfl rfl (decide_eq_true (by omega))) rfl <| R.u 1 rfl <| R.nil ?_
        refine R.condT rfl rfl ?_
        refine R.reg rfl <| R.u 1 rfl <| R.nil ?_
        have hz : dWrite dk i sx = (dk, 1) := by (first | exact dWrite_bad (by omega) | exact dWrite_err (by omega) (by omega) (by omega) (by omega) | (rw [dWrite_ok (by omega) (by omega) (by omega) (by omega)]; first | done | rfl) | (rw [dWrite_ok (by omega) (by omega) (by omega) (by omega)]; simp_all; done))
        rw [hz]
        exact R.w1 (q_dkKept, q_dkNow, q_dkWait) [0, 1, 2, 3, 4] [] rfl Try.results28 (RV.tmp rfl) rfl rfl rfl rfl
      · refine R.qg rfl (q.gtr rfl rfl (decide_eq_false (by omega))) rfl <| R.u 1 rfl <| R.nil ?_
        refine R.condF rfl rfl ?_
        refine R.reg rfl <| R.u 1 rfl <| ?_
        refine R.s (B' := (fun g_ : Value × Value × Value => [Res.box b_dk [g_.1, g_.2.1, g_.2.2, .int .i64 ((((dStep dk)).1).Fuse), .bool ((((dStep dk)).1).Down)] 63, Res.row 9 g_.1 ((((dStep dk)).1).Kept : List ByteArray), Res.row 9 g_.2.1 ((((dStep dk)).1).Now : List ByteArray), Res.row 132 g_.2.2 ((((dStep dk)).1).Wait : List Turn), Res.held w own])) (F' := (fun g_ : Value × Value × Value => [])) rfl (s.callV (B0 := [Res.box b_dk [q_dkKept, q_dkNow, q_dkWait, .int .i64 dk.Fuse, .bool dk.Down] 63, Res.row 9 q_dkKept (dk.Kept : List ByteArray), Res.row 9 q_dkNow (dk.Now : List ByteArray), Res.row 132 q_dkWait (dk.Wait : List Turn)]) (Br := [Res.held w own]) (F0 := []) [0, 1, 2, 3, 4] [] (fun g_ : Value × Value × Value => .int .i64 (((dStep dk)).2)) (fun g_ : Value × Value × Value => [Res.box b_dk [g_.1, g_.2.1, g_.2.2, .int .i64 ((((dStep dk)).1).Fuse), .bool ((((dStep dk)).1).Down)] 63, Res.row 9 g_.1 ((((dStep dk)).1).Kept : List ByteArray), Res.row 9 g_.2.1 ((((dStep dk)).1).Now : List ByteArray), Res.row 132 g_.2.2 ((((dStep dk)).1).Wait : List Turn)]) (fun g_ : Value × Value × Value => []) rfl rfl rfl eg_91 rfl rfl (fun w own hw H => dStepR_any b_dk q_dkKept q_dkNow q_dkWait (dk) w own H (by first | assumption | omega)) rfl) ?_
        rintro ⟨z1, z2, z3⟩
        dsimp only
        refine R.u 1 rfl <| R.nil ?_
        refine R.reg rfl <| R.u 1 rfl <| ?_
        by_cases h4 : 0 < (dStep dk).2
        · refine R.q (q.gtr rfl rfl (decide_eq_true (by omega))) rfl <| R.nil ?_
          refine R.condT rfl rfl ?_
          refine R.reg rfl <| R.u 2 rfl <| R.nil ?_
          have hz : dWrite dk i sx = (((dStep dk).1), (dStep dk).2) := by (first | exact dWrite_bad (by omega) | exact dWrite_err (by omega) (by omega) (by omega) (by omega) | (rw [dWrite_ok (by omega) (by omega) (by omega) (by omega)]; first | done | rfl) | (rw [dWrite_ok (by omega) (by omega) (by omega) (by omega)]; simp_all; done))
          rw [hz]
          exact R.w1 (z1, z2, z3) [0, 1, 2, 3, 4] [] rfl Try.results28 (RV.tmp rfl) rfl rfl rfl rfl
        · refine R.q (q.gtr rfl rfl (decide_eq_false (by omega))) rfl <| R.nil ?_
          refine R.condF rfl rfl ?_
          refine R.reg rfl <| R.u 2 rfl <| R.q (q.lenS rfl Try.underlying9) rfl <| R.q (q.sub (r := ((48 - sx.size : Nat) : Int)) rfl rfl (wr (by omega))) rfl <| R.c (q.call eg_89 rfl rfl (fun w hw => (nou_any ((48 - sx.size)) w  (by first | omega | decide)))) rfl <| R.q (q.cat rfl rfl (by rw [nou_size]; omega)) rfl <| R.u 1 rfl <| R.nil ?_
          refine R.reg rfl <| R.u 1 rfl <| R.q (q.nilc rfl) rfl <| R.q (q.fld (off' := 1) rfl tFld_63_1 rfl) rfl <| R.q (q.ld 0 rfl rfl tOne_60 rfl) rfl <| R.u 2 rfl <| ?_
          obtain ⟨x1, hx1⟩ : ∃ z, (((dStep dk).1).Now)[i.toNat]? = some z := ⟨_, List.getElem?_eq_getElem (by first | omega | (simp; omega))⟩
          refine R.q (q.idx (i := i.toNat) (fun _ => Wd.row 2 rfl) rfl rfl tSl_60 (by omega) hx1) rfl <| ?_
          refine R.s rfl (s.stE (z := (sx ++ nou (48 - sx.size))) 2 _ rfl hx1 rfl rfl rfl rfl (.inr ⟨tOne_9, rfl⟩) rfl) fun _ => ?_
          refine R.nil ?_
          refine R.reg rfl <| R.u 2 rfl <| R.q (q.nilc rfl) rfl <| R.q (q.fld (off' := 2) rfl tFld_63_2 rfl) rfl <| R.q (q.ld 0 rfl rfl tOne_61 rfl) rfl <| R.u 2 rfl <| R.q (q.build (cs := [.int .i64 i, .string (sx ++ nou (48 - sx.size))]) tB_132 rfl rfl) rfl <| ?_
          refine R.s rfl (s.bs (l := ([(⟨i, (sx ++ nou (48 - sx.size))⟩ : Turn)] : List Turn)) tSl_61 tZero_132 rfl rfl rfl rfl rfl rfl rfl) fun b1 => ?_
          refine R.s rfl (s.app (l2 := [(⟨i, (sx ++ nou (48 - sx.size))⟩ : Turn)]) 4 _ rfl rfl rfl (fun _ => Wd.row 0 rfl) tApp_61 (by first | omega | (simp; omega)) (by first | omega | (simp; omega)) (fun _ => rfl) rfl) fun v1 => ?_
          refine R.q (q.nilc rfl) rfl <| R.q (q.fld (off' := 2) rfl tFld_63_2 rfl) rfl <| ?_
          refine R.s rfl (s.stV (us := [v1]) (cs' := [z1, z2, v1, .int .i64 (((dStep dk).1).Fuse), .bool (((dStep dk).1).Down)]) 1 _ rfl rfl rfl (fun w hw => Sl.cells1 ((fun _ => Wd.row 4 rfl) w hw)) (.inr ⟨tOne_61, rfl⟩) (fun w hw => (one_cons (Sl.one ((fun _ => Wd.row 4 rfl) w hw)) one_nil)) rfl rfl rfl) fun _ => ?_
          refine R.nil ?_
          refine R.reg rfl <| R.u 1 rfl <| R.nil ?_
          have hz : dWrite dk i sx = ((⟨((dStep dk).1).Kept, ((((dStep dk).1).Now).set i.toNat (sx ++ nou (48 - sx.size))), ((((dStep dk).1).Wait) ++ ([(⟨i, (sx ++ nou (48 - sx.size))⟩ : Turn)])), ((dStep dk).1).Fuse, ((dStep dk).1).Down⟩ : Dsk), 0) := by (first | exact dWrite_bad (by omega) | exact dWrite_err (by omega) (by omega) (by omega) (by omega) | (rw [dWrite_ok (by omega) (by omega) (by omega) (by omega)]; first | done | rfl) | (rw [dWrite_ok (by omega) (by omega) (by omega) (by omega)]; simp_all; done))
          rw [hz]
          exact R.w1 (z1, z2, v1) [1, 2, 3, 4, 5] [] rfl Try.results28 (RV.tmp rfl) rfl rfl rfl rfl
    · refine R.qg rfl (q.geq rfl rfl (decide_eq_true (by omega))) rfl <| R.u 6 rfl <| R.nil ?_
      refine R.condT rfl rfl ?_
      refine R.reg rfl <| R.u 1 rfl <| R.nil ?_
      have hz : dWrite dk i sx = (dk, 1) := by (first | exact dWrite_bad (by omega) | exact dWrite_err (by omega) (by omega) (by omega) (by omega) | (rw [dWrite_ok (by omega) (by omega) (by omega) (by omega)]; first | done | rfl) | (rw [dWrite_ok (by omega) (by omega) (by omega) (by omega)]; simp_all; done))
      rw [hz]
      exact R.w1 (q_dkKept, q_dkNow, q_dkWait) [0, 1, 2, 3, 4] [] rfl Try.results28 (RV.tmp rfl) rfl rfl rfl rfl

theorem dFlushR_any (b_dk : Nat) (q_dkKept q_dkNow q_dkWait : Value) (dk : Dsk) (w : World) (own : List Nat) (H : Wd w (blks [Res.box b_dk [q_dkKept, q_dkNow, q_dkWait, .int .i64 dk.Fuse, .bool dk.Down] 63, Res.row 9 q_dkKept (dk.Kept : List ByteArray), Res.row 9 q_dkNow (dk.Now : List ByteArray), Res.row 132 q_dkWait (dk.Wait : List Turn)] ++ own) ([Res.box b_dk [q_dkKept, q_dkNow, q_dkWait, .int .i64 dk.Fuse, .bool dk.Down] 63, Res.row 9 q_dkKept (dk.Kept : List ByteArray), Res.row 9 q_dkNow (dk.Now : List ByteArray), Res.row 132 q_dkWait (dk.Wait : List Turn)] ++ [Res.held w own]) [] w) (hd : dk.Kept.length = dk.Now.length ∧ dk.Now.length ≤ 100000 ∧ dk.Wait.length ≤ 100000 ∧ -1 ≤ dk.Fuse ∧ dk.Fuse ≤ 9223372036854775807) : Calls Try.prog 32 #[.pointer (some ⟨b_dk, 0, none⟩)] w fun e w' => ∃ z : Value × Value × Value, e = .returned (.int .i64 (((dFlush dk)).2)) ∧ Wd w (blks [Res.box b_dk [q_dkKept, q_dkNow, q_dkWait, .int .i64 dk.Fuse, .bool dk.Down] 63, Res.row 9 q_dkKept (dk.Kept : List ByteArray), Res.row 9 q_dkNow (dk.Now : List ByteArray), Res.row 132 q_dkWait (dk.Wait : List Turn)] ++ own) ([Res.box b_dk [z.1, z.2.1, z.2.2, .int .i64 ((((dFlush dk)).1).Fuse), .bool ((((dFlush dk)).1).Down)] 63, Res.row 9 z.1 ((((dFlush dk)).1).Kept : List ByteArray), Res.row 9 z.2.1 ((((dFlush dk)).1).Now : List ByteArray), Res.row 132 z.2.2 ((((dFlush dk)).1).Wait : List Turn)] ++ [Res.held w own]) [] w' := by
  have c_dk_Kept := H.cap 1 rfl; have m_dk_Kept := H.lenB 1 rfl
  have c_dk_Now := H.cap 2 rfl; have m_dk_Now := H.lenB 2 rfl
  have c_dk_Wait := H.cap 3 rfl; have m_dk_Wait := H.lenB 3 rfl
  have hsl := dStep_lists dk; have hs1 := congrArg List.length hsl.1; have hs2 := congrArg List.length hsl.2.1; have hs3 := congrArg List.length hsl.2.2
  have hse := dStep_err dk
  refine R.enterN (n := 20) (vs := [.pointer (some ⟨b_dk, 0, none⟩)]) (B := [Res.box b_dk [q_dkKept, q_dkNow, q_dkWait, .int .i64 dk.Fuse, .bool dk.Down] 63, Res.row 9 q_dkKept (dk.Kept : List ByteArray), Res.row 9 q_dkNow (dk.Now : List ByteArray), Res.row 132 q_dkWait (dk.Wait : List Turn), Res.held w own]) [(0, .pointer (some ⟨b_dk, 0, none⟩))] Try.func32 rfl rfl rfl rfl H ?_
  refine R.reg rfl <| R.u 1 rfl <| R.nil ?_
  refine R.reg rfl <| R.u 1 rfl <| ?_
  refine R.s (B' := (fun g_ : Value × Value × Value => [Res.box b_dk [g_.1, g_.2.1, g_.2.2, .int .i64 ((((dStep dk)).1).Fuse), .bool ((((dStep dk)).1).Down)] 63, Res.row 9 g_.1 ((((dStep dk)).1).Kept : List ByteArray), Res.row 9 g_.2.1 ((((dStep dk)).1).Now : List ByteArray), Res.row 132 g_.2.2 ((((dStep dk)).1).Wait : List Turn), Res.held w own])) (F' := (fun g_ : Value × Value × Value => [])) rfl (s.callV (B0 := [Res.box b_dk [q_dkKept, q_dkNow, q_dkWait, .int .i64 dk.Fuse, .bool dk.Down] 63, Res.row 9 q_dkKept (dk.Kept : List ByteArray), Res.row 9 q_dkNow (dk.Now : List ByteArray), Res.row 132 q_dkWait (dk.Wait : List Turn)]) (Br := [Res.held w own]) (F0 := []) [0, 1, 2, 3, 4] [] (fun g_ : Value × Value × Value => .int .i64 (((dStep dk)).2)) (fun g_ : Value × Value × Value => [Res.box b_dk [g_.1, g_.2.1, g_.2.2, .int .i64 ((((dStep dk)).1).Fuse), .bool ((((dStep dk)).1).Down)] 63, Res.row 9 g_.1 ((((dStep dk)).1).Kept : List ByteArray), Res.row 9 g_.2.1 ((((dStep dk)).1).Now : List ByteArray), Res.row 132 g_.2.2 ((((dStep dk)).1).Wait : List Turn)]) (fun g_ : Value × Value × Value => []) rfl rfl rfl eg_91 rfl rfl (fun w own hw H => dStepR_any b_dk q_dkKept q_dkNow q_dkWait (dk) w own H (by first | assumption | omega)) rfl) ?_
  rintro ⟨z1, z2, z3⟩
  dsimp only
  refine R.u 1 rfl <| R.nil ?_
  refine R.reg rfl <| R.u 1 rfl <| ?_
  by_cases h1 : 0 < (dStep dk).2
  · refine R.q (q.gtr rfl rfl (decide_eq_true (by omega))) rfl <| R.nil ?_
    refine R.condT rfl rfl ?_
    refine R.reg rfl <| R.u 2 rfl <| R.nil ?_
    have hz : dFlush dk = (((dStep dk).1), (dStep dk).2) := by (unfold dFlush; first | (rw [if_pos (by omega)]; first | done | rfl | simp_all) | (rw [if_neg (by omega)]; first | done | rfl))
    rw [hz]
    exact R.w1 (z1, z2, z3) [0, 1, 2, 3, 4] [] rfl Try.results32 (RV.tmp rfl) rfl rfl rfl rfl
  · refine R.q (q.gtr rfl rfl (decide_eq_false (by omega))) rfl <| R.nil ?_
    refine R.condF rfl rfl ?_
    refine R.reg rfl <| R.u 2 rfl <| R.q (q.nilc rfl) rfl <| R.q (q.fld (off' := 1) rfl tFld_63_1 rfl) rfl <| R.q (q.ld 0 rfl rfl tOne_60 rfl) rfl <| ?_
    refine R.s rfl (s.app0 (l2 := ((dStep dk).1).Now) rfl rfl (fun _ => Wd.row 2 rfl) tApp_60 (by first | omega | (simp; omega)) (by first | omega | (simp; omega)) rfl) fun v1 => ?_
    refine R.q (q.nilc rfl) rfl <| R.q (q.fld (off' := 0) rfl tFld_63_0 rfl) rfl <| ?_
    refine R.s rfl (s.stV (us := [v1]) (cs' := [v1, z2, z3, .int .i64 (((dStep dk).1).Fuse), .bool (((dStep dk).1).Down)]) 1 _ rfl rfl rfl (fun w hw => Sl.cells1 ((fun _ => Wd.row 0 rfl) w hw)) (.inr ⟨tOne_60, rfl⟩) (fun w hw => (one_cons (Sl.one ((fun _ => Wd.row 0 rfl) w hw)) one_nil)) rfl rfl rfl) fun _ => ?_
    refine R.nil ?_
    refine R.reg rfl <| R.u 1 rfl <| R.q (q.nilc rfl) rfl <| R.q (q.fld (off' := 2) rfl tFld_63_2 rfl) rfl <| ?_
    refine R.s rfl (s.st (us := [.slice none 0 0]) (cs' := [v1, z2, .slice none 0 0, .int .i64 (((dStep dk).1).Fuse), .bool (((dStep dk).1).Down)]) 1 _ rfl rfl rfl rfl (.inr ⟨tOne_61, rfl⟩) rfl rfl rfl rfl) fun _ => ?_
    refine R.nil ?_
    refine R.reg rfl <| R.u 1 rfl <| R.nil ?_
    refine R.row0 (α := Turn) 132 ?_
    have hz : dFlush dk = ((⟨((dStep dk).1).Now, ((dStep dk).1).Now, [], ((dStep dk).1).Fuse, ((dStep dk).1).Down⟩ : Dsk), 0) := by (unfold dFlush; first | (rw [if_pos (by omega)]; first | done | rfl | simp_all) | (rw [if_neg (by omega)]; first | done | rfl))
    rw [hz]
    exact R.w1 (v1, z2, (.slice none 0 0)) [2, 1, 4, 0, 6] [] rfl Try.results32 (RV.tmp rfl) rfl rfl rfl rfl

theorem dRestartR_any (b_dk : Nat) (q_dkKept q_dkNow q_dkWait : Value) (dk : Dsk) (kp : Int) (w : World) (own : List Nat) (H : Wd w (blks [Res.box b_dk [q_dkKept, q_dkNow, q_dkWait, .int .i64 dk.Fuse, .bool dk.Down] 63, Res.row 9 q_dkKept (dk.Kept : List ByteArray), Res.row 9 q_dkNow (dk.Now : List ByteArray), Res.row 132 q_dkWait (dk.Wait : List Turn)] ++ own) ([Res.box b_dk [q_dkKept, q_dkNow, q_dkWait, .int .i64 dk.Fuse, .bool dk.Down] 63, Res.row 9 q_dkKept (dk.Kept : List ByteArray), Res.row 9 q_dkNow (dk.Now : List ByteArray), Res.row 132 q_dkWait (dk.Wait : List Turn)] ++ [Res.held w own]) [] w) (hd : dk.Kept.length ≤ 100000 ∧ dk.Wait.length ≤ 100000 ∧ (∀ t ∈ dk.Wait, 0 ≤ t.At ∧ t.At < (dk.Kept.length : Int))) (hk : 0 ≤ kp ∧ kp ≤ 18446744073709551615) : Calls Try.prog 35 #[.pointer (some ⟨b_dk, 0, none⟩), .int .u64 kp] w fun e w' => ∃ z : Value × Value × Value, e = .returned (.tuple #[]) ∧ Wd w (blks [Res.box b_dk [q_dkKept, q_dkNow, q_dkWait, .int .i64 dk.Fuse, .bool dk.Down] 63, Res.row 9 q_dkKept (dk.Kept : List ByteArray), Res.row 9 q_dkNow (dk.Now : List ByteArray), Res.row 132 q_dkWait (dk.Wait : List Turn)] ++ own) ([Res.box b_dk [z.1, z.2.1, z.2.2, .int .i64 (((dRestart dk kp)).Fuse), .bool (((dRestart dk kp)).Down)] 63, Res.row 9 z.1 (((dRestart dk kp)).Kept : List ByteArray), Res.row 9 z.2.1 (((dRestart dk kp)).Now : List ByteArray), Res.row 132 z.2.2 (((dRestart dk kp)).Wait : List Turn)] ++ [Res.held w own]) [] w' := by
  have c_dk_Kept := H.cap 1 rfl; have m_dk_Kept := H.lenB 1 rfl
  have c_dk_Now := H.cap 2 rfl; have m_dk_Now := H.lenB 2 rfl
  have c_dk_Wait := H.cap 3 rfl; have m_dk_Wait := H.lenB 3 rfl
  refine R.enterN (n := 59) (vs := [.pointer (some ⟨b_dk, 0, none⟩), .int .u64 kp]) (B := [Res.box b_dk [q_dkKept, q_dkNow, q_dkWait, .int .i64 dk.Fuse, .bool dk.Down] 63, Res.row 9 q_dkKept (dk.Kept : List ByteArray), Res.row 9 q_dkNow (dk.Now : List ByteArray), Res.row 132 q_dkWait (dk.Wait : List Turn), Res.held w own]) [(0, .pointer (some ⟨b_dk, 0, none⟩)), (1, .int .u64 kp)] Try.func35 rfl rfl rfl rfl H ?_
  refine R.reg rfl <| R.u 1 rfl <| R.nil ?_
  refine R.loop (fun g_ : Nat × Value × (List ByteArray) => [(0, .pointer (some ⟨b_dk, 0, none⟩)), (1, .int .u64 kp), (4, .int .i64 (g_.1 : Int))]) (fun g_ : Nat × Value × (List ByteArray) => [Res.box b_dk [g_.2.1, q_dkNow, q_dkWait, .int .i64 dk.Fuse, .bool dk.Down] 63, Res.row 9 g_.2.1 (g_.2.2 : List ByteArray), Res.row 9 q_dkNow (dk.Now : List ByteArray), Res.row 132 q_dkWait (dk.Wait : List Turn), Res.held w own]) (fun g_ : Nat × Value × (List ByteArray) => []) (fun g_ : Nat × Value × (List ByteArray) => g_.1 ≤ dk.Wait.length ∧ g_.2.2 = layT kp (dk.Wait.take g_.1) dk.Kept) (fun g_ : Nat × Value × (List ByteArray) => dk.Wait.length - g_.1) (0, q_dkKept, dk.Kept) rfl (by exact ⟨by omega, rfl⟩) ⟨rfl, rfl, rfl, trivial⟩ (fun _ => Wd.pick [0, 1, 2, 3, 4] [] rfl rfl rfl) ?_
  rintro ⟨j, qk, ks⟩ ⟨hj, HK⟩
  dsimp only at *
  have hkl : ks.length = dk.Kept.length := by rw [HK]; exact layT_len
  refine R.reg rfl <| R.u 2 rfl <| R.q (q.nilc rfl) rfl <| R.q (q.fld (off' := 2) rfl tFld_63_2 rfl) rfl <| R.q (q.ld 0 rfl rfl tOne_61 rfl) rfl <| R.q (q.len' (fun _ => Wd.row 3 rfl) rfl Try.underlying61) rfl <| ?_
  by_cases h1 : j < dk.Wait.length
  · refine R.q (q.lss rfl rfl (decide_eq_true (by omega))) rfl <| R.nil ?_
    refine R.condT rfl rfl ?_
    refine R.reg rfl <| R.u 2 rfl <| R.q (q.cvi (r := ((j : Nat) : Int)) rfl (by rw [Try.underlying3]; rfl) Try.underlying133 (wr_u64 (by omega))) rfl <| R.q (q.rem (r := (((j % 64) : Nat) : Int)) rfl rfl (by omega) (remN rfl)) rfl <| R.q (q.shr (r := kp / ((2 ^ (j % 64) : Nat) : Int)) rfl rfl (by omega) (shrV rfl (by omega))) rfl <| R.q (q.and (r := (kp / ((2 ^ (j % 64) : Nat) : Int)) % 2) rfl rfl (u64_and1 ⟨rfl, Int.ediv_nonneg hk.1 (Int.natCast_nonneg _), Int.le_trans (Int.ediv_le_self _ hk.1) hk.2⟩)) rfl <| ?_
    by_cases h2 : ((kp / ((2 ^ (j % 64) : Nat) : Int)) % 2) = 1
    · refine R.q (q.eql rfl rfl (beq_iff_eq.2 (by omega))) rfl <| R.nil ?_
      refine R.condT rfl rfl ?_
      obtain ⟨x1, hx1⟩ : ∃ z, dk.Wait[j]? = some z := ⟨_, List.getElem?_eq_getElem (by omega)⟩
      have wx1 := hd.2.2 x1 (List.mem_of_getElem? hx1)
      obtain ⟨x2, hx2⟩ : ∃ z, ks[x1.At.toNat]? = some z := ⟨_, List.getElem?_eq_getElem (by omega)⟩
      refine R.regD (fuel := 22) (Wd w (blks [Res.box b_dk [q_dkKept, q_dkNow, q_dkWait, .int .i64 dk.Fuse, .bool dk.Down] 63, Res.row 9 q_dkKept (dk.Kept : List ByteArray), Res.row 9 q_dkNow (dk.Now : List ByteArray), Res.row 132 q_dkWait (dk.Wait : List Turn)] ++ own) [Res.row 9 q_dkNow (dk.Now : List ByteArray), Res.row 132 q_dkWait (dk.Wait : List Turn), Res.held w own] []) rfl mixed rfl ?_
      refine D.q (i := 0) rfl (by kernel_rfl) (fun _ => Wd.pik [2, 3, 4] [] rfl rfl rfl) rfl (q.mv rfl) rfl <| D.q (i := 1) rfl (by kernel_rfl) (fun _ => Wd.pik [2, 3, 4] [] rfl rfl rfl) rfl (q.nilc rfl) rfl <| D.q (i := 2) rfl (by kernel_rfl) (fun _ => Wd.pik [2, 3, 4] [] rfl rfl rfl) rfl (q.fld (off' := 0) rfl tFld_63_0 rfl) rfl <| D.q (i := 4) rfl (by kernel_rfl) (fun _ => Wd.pik [2, 3, 4] [] rfl rfl rfl) rfl (q.mv rfl) rfl <| D.q (i := 5) rfl (by kernel_rfl) (fun _ => Wd.pik [2, 3, 4] [] rfl rfl rfl) rfl (q.nilc rfl) rfl <| D.q (i := 6) rfl (by kernel_rfl) (fun _ => Wd.pik [2, 3, 4] [] rfl rfl rfl) rfl (q.fld (off' := 2) rfl tFld_63_2 rfl) rfl <| D.q (i := 8) rfl (by kernel_rfl) (fun _ => Wd.pik [2, 3, 4] [] rfl rfl rfl) rfl (q.mv rfl) rfl <| D.q (i := 12) rfl (by kernel_rfl) (fun _ => Wd.pik [2, 3, 4] [] rfl rfl rfl) rfl (q.mv rfl) rfl <| D.q (i := 13) rfl (by kernel_rfl) (fun _ => Wd.pik [2, 3, 4] [] rfl rfl rfl) rfl (q.nilc rfl) rfl <| D.q (i := 14) rfl (by kernel_rfl) (fun _ => Wd.pik [2, 3, 4] [] rfl rfl rfl) rfl (q.fld (off' := 2) rfl tFld_63_2 rfl) rfl <| D.q (i := 16) rfl (by kernel_rfl) (fun _ => Wd.pik [2, 3, 4] [] rfl rfl rfl) rfl (q.mv rfl) rfl <| ?_
      refine D.three (i := 3) (j := 7) (m := 15) (by kernel_rfl) rfl rfl rfl ?_ ?_ ?_
      · refine Do.s (s.c (Qt.a (q.ld 0 rfl rfl tOne_60 rfl)) rfl) (fun _ => (fun _ => Wd.pik [2, 3, 4] [] rfl rfl rfl)) rfl fun _ => ?_
        refine D.two (i := 7) (j := 15) (by kernel_rfl) rfl rfl ?_ ?_
        · refine Do.s (s.c (Qt.a (q.ld 0 rfl rfl tOne_61 rfl)) rfl) (fun _ => (fun _ => Wd.pik [2, 3, 4] [] rfl rfl rfl)) rfl fun _ => ?_
          refine D.q (i := 9) rfl (by kernel_rfl) (fun _ => Wd.pik [2, 3, 4] [] rfl rfl rfl) rfl (q.idx (i := j) (fun _ => Wd.row 1 rfl) rfl rfl tSl_61 rfl hx1) rfl <| D.q (i := 10) rfl (by kernel_rfl) (fun _ => Wd.pik [2, 3, 4] [] rfl rfl rfl) rfl (q.fldE (j' := 0) (fun _ => Wd.row 1 rfl) hx1 rfl tFld_132_0 rfl) rfl <| D.q (i := 11) rfl (by kernel_rfl) (fun _ => Wd.pik [2, 3, 4] [] rfl rfl rfl) rfl (q.ldE (fun _ => Wd.row 1 rfl) hx1 rfl tOne_3 rfl) rfl <| ?_
          refine D.one (i := 15) (by kernel_rfl) rfl ?_
          refine Do.s (s.c (Qt.a (q.ld 0 rfl rfl tOne_61 rfl)) rfl) (fun _ => (fun _ => Wd.pik [2, 3, 4] [] rfl rfl rfl)) rfl fun _ => ?_
          refine D.q (i := 17) rfl (by kernel_rfl) (fun _ => Wd.pik [2, 3, 4] [] rfl rfl rfl) rfl (q.idx (i := j) (fun _ => Wd.row 1 rfl) rfl rfl tSl_61 rfl hx1) rfl <| D.q (i := 18) rfl (by kernel_rfl) (fun _ => Wd.pik [2, 3, 4] [] rfl rfl rfl) rfl (q.fldE (j' := 1) (fun _ => Wd.row 1 rfl) hx1 rfl tFld_132_1 rfl) rfl <| D.q (i := 19) rfl (by kernel_rfl) (fun _ => Wd.pik [2, 3, 4] [] rfl rfl rfl) rfl (q.ldE (fun _ => Wd.row 1 rfl) hx1 rfl tOne_9 rfl) rfl <| ?_
          refine D.one (i := 20) (by kernel_rfl) rfl ?_
          refine Do.s (s.c (Qt.a (q.idx (i := x1.At.toNat) (fun _ => Wd.row 1 rfl) rfl rfl tSl_60 (by omega) hx2)) rfl) (fun _ => (fun _ => Wd.pik [2, 3, 4] [] rfl rfl rfl)) rfl fun _ => ?_
          refine D.one (i := 21) (by kernel_rfl) rfl ?_
          refine Do.s (s.stE (z := x1.Data) 1 _ rfl hx2 rfl rfl rfl rfl (.inr ⟨tOne_9, rfl⟩) rfl) (fun _ => (fun _ => Wd.pik [2, 3, 4] [] rfl rfl rfl)) rfl fun _ => ?_
          refine D.done (by kernel_rfl) <| ?_
          refine R.reg rfl <| R.u 1 rfl <| R.q (q.add (r := ((j + 1 : Nat) : Int)) rfl rfl (wr (by omega))) rfl <| R.u 1 rfl <| R.nil ?_
          refine R.back (j + 1, qk, (ks.set x1.At.toNat x1.Data)) rfl (by (exact ⟨by omega, by rw [layT_snoc hx1, ← HK]; show _ = (if bitOf kp j = true then ks.set x1.At.toNat x1.Data else ks); first | (rw [if_pos (show bitOf kp j = true from decide_eq_true (by assumption))]; done) | (rw [if_neg (show ¬ bitOf kp j = true from fun hh => absurd (of_decide_eq_true (show decide (kp / ((2 ^ (j % 64) : Nat) : Int) % 2 = 1) = true from hh)) (by assumption))]; done)⟩)) (by dsimp only; omega) ⟨rfl, rfl, rfl, trivial⟩ (fun _ => Wd.pik [0, 1, 2, 3, 4] [] rfl rfl rfl)
        · refine Do.s (s.c (Qt.a (q.ld 0 rfl rfl tOne_61 rfl)) rfl) (fun _ => (fun _ => Wd.pik [2, 3, 4] [] rfl rfl rfl)) rfl fun _ => ?_
          refine D.q (i := 17) rfl (by kernel_rfl) (fun _ => Wd.pik [2, 3, 4] [] rfl rfl rfl) rfl (q.idx (i := j) (fun _ => Wd.row 1 rfl) rfl rfl tSl_61 rfl hx1) rfl <| D.q (i := 18) rfl (by kernel_rfl) (fun _ => Wd.pik [2, 3, 4] [] rfl rfl rfl) rfl (q.fldE (j' := 1) (fun _ => Wd.row 1 rfl) hx1 rfl tFld_132_1 rfl) rfl <| D.q (i := 19) rfl (by kernel_rfl) (fun _ => Wd.pik [2, 3, 4] [] rfl rfl rfl) rfl (q.ldE (fun _ => Wd.row 1 rfl) hx1 rfl tOne_9 rfl) rfl <| ?_
          refine D.one (i := 7) (by kernel_rfl) rfl ?_
          refine Do.s (s.c (Qt.a (q.ld 0 rfl rfl tOne_61 rfl)) rfl) (fun _ => (fun _ => Wd.pik [2, 3, 4] [] rfl rfl rfl)) rfl fun _ => ?_
          refine D.q (i := 9) rfl (by kernel_rfl) (fun _ => Wd.pik [2, 3, 4] [] rfl rfl rfl) rfl (q.idx (i := j) (fun _ => Wd.row 1 rfl) rfl rfl tSl_61 rfl hx1) rfl <| D.q (i := 10) rfl (by kernel_rfl) (fun _ => Wd.pik [2, 3, 4] [] rfl rfl rfl) rfl (q.fldE (j' := 0) (fun _ => Wd.row 1 rfl) hx1 rfl tFld_132_0 rfl) rfl <| D.q (i := 11) rfl (by kernel_rfl) (fun _ => Wd.pik [2, 3, 4] [] rfl rfl rfl) rfl (q.ldE (fun _ => Wd.row 1 rfl) hx1 rfl tOne_3 rfl) rfl <| ?_
          refine D.one (i := 20) (by kernel_rfl) rfl ?_
          refine Do.s (s.c (Qt.a (q.idx (i := x1.At.toNat) (fun _ => Wd.row 1 rfl) rfl rfl tSl_60 (by omega) hx2)) rfl) (fun _ => (fun _ => Wd.pik [2, 3, 4] [] rfl rfl rfl)) rfl fun _ => ?_
          refine D.one (i := 21) (by kernel_rfl) rfl ?_
          refine Do.s (s.stE (z := x1.Data) 1 _ rfl hx2 rfl rfl rfl rfl (.inr ⟨tOne_9, rfl⟩) rfl) (fun _ => (fun _ => Wd.pik [2, 3, 4] [] rfl rfl rfl)) rfl fun _ => ?_
          refine D.done (by kernel_rfl) <| ?_
          refine R.reg rfl <| R.u 1 rfl <| R.q (q.add (r := ((j + 1 : Nat) : Int)) rfl rfl (wr (by omega))) rfl <| R.u 1 rfl <| R.nil ?_
          refine R.back (j + 1, qk, (ks.set x1.At.toNat x1.Data)) rfl (by (exact ⟨by omega, by rw [layT_snoc hx1, ← HK]; show _ = (if bitOf kp j = true then ks.set x1.At.toNat x1.Data else ks); first | (rw [if_pos (show bitOf kp j = true from decide_eq_true (by assumption))]; done) | (rw [if_neg (show ¬ bitOf kp j = true from fun hh => absurd (of_decide_eq_true (show decide (kp / ((2 ^ (j % 64) : Nat) : Int) % 2 = 1) = true from hh)) (by assumption))]; done)⟩)) (by dsimp only; omega) ⟨rfl, rfl, rfl, trivial⟩ (fun _ => Wd.pik [0, 1, 2, 3, 4] [] rfl rfl rfl)
      · refine Do.s (s.c (Qt.a (q.ld 0 rfl rfl tOne_61 rfl)) rfl) (fun _ => (fun _ => Wd.pik [2, 3, 4] [] rfl rfl rfl)) rfl fun _ => ?_
        refine D.q (i := 9) rfl (by kernel_rfl) (fun _ => Wd.pik [2, 3, 4] [] rfl rfl rfl) rfl (q.idx (i := j) (fun _ => Wd.row 1 rfl) rfl rfl tSl_61 rfl hx1) rfl <| D.q (i := 10) rfl (by kernel_rfl) (fun _ => Wd.pik [2, 3, 4] [] rfl rfl rfl) rfl (q.fldE (j' := 0) (fun _ => Wd.row 1 rfl) hx1 rfl tFld_132_0 rfl) rfl <| D.q (i := 11) rfl (by kernel_rfl) (fun _ => Wd.pik [2, 3, 4] [] rfl rfl rfl) rfl (q.ldE (fun _ => Wd.row 1 rfl) hx1 rfl tOne_3 rfl) rfl <| ?_
        refine D.two (i := 3) (j := 15) (by kernel_rfl) rfl rfl ?_ ?_
        · refine Do.s (s.c (Qt.a (q.ld 0 rfl rfl tOne_60 rfl)) rfl) (fun _ => (fun _ => Wd.pik [2, 3, 4] [] rfl rfl rfl)) rfl fun _ => ?_
          refine D.one (i := 15) (by kernel_rfl) rfl ?_
          refine Do.s (s.c (Qt.a (q.ld 0 rfl rfl tOne_61 rfl)) rfl) (fun _ => (fun _ => Wd.pik [2, 3, 4] [] rfl rfl rfl)) rfl fun _ => ?_
          refine D.q (i := 17) rfl (by kernel_rfl) (fun _ => Wd.pik [2, 3, 4] [] rfl rfl rfl) rfl (q.idx (i := j) (fun _ => Wd.row 1 rfl) rfl rfl tSl_61 rfl hx1) rfl <| D.q (i := 18) rfl (by kernel_rfl) (fun _ => Wd.pik [2, 3, 4] [] rfl rfl rfl) rfl (q.fldE (j' := 1) (fun _ => Wd.row 1 rfl) hx1 rfl tFld_132_1 rfl) rfl <| D.q (i := 19) rfl (by kernel_rfl) (fun _ => Wd.pik [2, 3, 4] [] rfl rfl rfl) rfl (q.ldE (fun _ => Wd.row 1 rfl) hx1 rfl tOne_9 rfl) rfl <| ?_
          refine D.one (i := 20) (by kernel_rfl) rfl ?_
          refine Do.s (s.c (Qt.a (q.idx (i := x1.At.toNat) (fun _ => Wd.row 1 rfl) rfl rfl tSl_60 (by omega) hx2)) rfl) (fun _ => (fun _ => Wd.pik [2, 3, 4] [] rfl rfl rfl)) rfl fun _ => ?_
          refine D.one (i := 21) (by kernel_rfl) rfl ?_
          refine Do.s (s.stE (z := x1.Data) 1 _ rfl hx2 rfl rfl rfl rfl (.inr ⟨tOne_9, rfl⟩) rfl) (fun _ => (fun _ => Wd.pik [2, 3, 4] [] rfl rfl rfl)) rfl fun _ => ?_
          refine D.done (by kernel_rfl) <| ?_
          refine R.reg rfl <| R.u 1 rfl <| R.q (q.add (r := ((j + 1 : Nat) : Int)) rfl rfl (wr (by omega))) rfl <| R.u 1 rfl <| R.nil ?_
          refine R.back (j + 1, qk, (ks.set x1.At.toNat x1.Data)) rfl (by (exact ⟨by omega, by rw [layT_snoc hx1, ← HK]; show _ = (if bitOf kp j = true then ks.set x1.At.toNat x1.Data else ks); first | (rw [if_pos (show bitOf kp j = true from decide_eq_true (by assumption))]; done) | (rw [if_neg (show ¬ bitOf kp j = true from fun hh => absurd (of_decide_eq_true (show decide (kp / ((2 ^ (j % 64) : Nat) : Int) % 2 = 1) = true from hh)) (by assumption))]; done)⟩)) (by dsimp only; omega) ⟨rfl, rfl, rfl, trivial⟩ (fun _ => Wd.pik [0, 1, 2, 3, 4] [] rfl rfl rfl)
        · refine Do.s (s.c (Qt.a (q.ld 0 rfl rfl tOne_61 rfl)) rfl) (fun _ => (fun _ => Wd.pik [2, 3, 4] [] rfl rfl rfl)) rfl fun _ => ?_
          refine D.q (i := 17) rfl (by kernel_rfl) (fun _ => Wd.pik [2, 3, 4] [] rfl rfl rfl) rfl (q.idx (i := j) (fun _ => Wd.row 1 rfl) rfl rfl tSl_61 rfl hx1) rfl <| D.q (i := 18) rfl (by kernel_rfl) (fun _ => Wd.pik [2, 3, 4] [] rfl rfl rfl) rfl (q.fldE (j' := 1) (fun _ => Wd.row 1 rfl) hx1 rfl tFld_132_1 rfl) rfl <| D.q (i := 19) rfl (by kernel_rfl) (fun _ => Wd.pik [2, 3, 4] [] rfl rfl rfl) rfl (q.ldE (fun _ => Wd.row 1 rfl) hx1 rfl tOne_9 rfl) rfl <| ?_
          refine D.one (i := 3) (by kernel_rfl) rfl ?_
          refine Do.s (s.c (Qt.a (q.ld 0 rfl rfl tOne_60 rfl)) rfl) (fun _ => (fun _ => Wd.pik [2, 3, 4] [] rfl rfl rfl)) rfl fun _ => ?_
          refine D.one (i := 20) (by kernel_rfl) rfl ?_
          refine Do.s (s.c (Qt.a (q.idx (i := x1.At.toNat) (fun _ => Wd.row 1 rfl) rfl rfl tSl_60 (by omega) hx2)) rfl) (fun _ => (fun _ => Wd.pik [2, 3, 4] [] rfl rfl rfl)) rfl fun _ => ?_
          refine D.one (i := 21) (by kernel_rfl) rfl ?_
          refine Do.s (s.stE (z := x1.Data) 1 _ rfl hx2 rfl rfl rfl rfl (.inr ⟨tOne_9, rfl⟩) rfl) (fun _ => (fun _ => Wd.pik [2, 3, 4] [] rfl rfl rfl)) rfl fun _ => ?_
          refine D.done (by kernel_rfl) <| ?_
          refine R.reg rfl <| R.u 1 rfl <| R.q (q.add (r := ((j + 1 : Nat) : Int)) rfl rfl (wr (by omega))) rfl <| R.u 1 rfl <| R.nil ?_
          refine R.back (j + 1, qk, (ks.set x1.At.toNat x1.Data)) rfl (by (exact ⟨by omega, by rw [layT_snoc hx1, ← HK]; show _ = (if bitOf kp j = true then ks.set x1.At.toNat x1.Data else ks); first | (rw [if_pos (show bitOf kp j = true from decide_eq_true (by assumption))]; done) | (rw [if_neg (show ¬ bitOf kp j = true from fun hh => absurd (of_decide_eq_true (show decide (kp / ((2 ^ (j % 64) : Nat) : Int) % 2 = 1) = true from hh)) (by assumption))]; done)⟩)) (by dsimp only; omega) ⟨rfl, rfl, rfl, trivial⟩ (fun _ => Wd.pik [0, 1, 2, 3, 4] [] rfl rfl rfl)
      · refine Do.s (s.c (Qt.a (q.ld 0 rfl rfl tOne_61 rfl)) rfl) (fun _ => (fun _ => Wd.pik [2, 3, 4] [] rfl rfl rfl)) rfl fun _ => ?_
        refine D.q (i := 17) rfl (by kernel_rfl) (fun _ => Wd.pik [2, 3, 4] [] rfl rfl rfl) rfl (q.idx (i := j) (fun _ => Wd.row 1 rfl) rfl rfl tSl_61 rfl hx1) rfl <| D.q (i := 18) rfl (by kernel_rfl) (fun _ => Wd.pik [2, 3, 4] [] rfl rfl rfl) rfl (q.fldE (j' := 1) (fun _ => Wd.row 1 rfl) hx1 rfl tFld_132_1 rfl) rfl <| D.q (i := 19) rfl (by kernel_rfl) (fun _ => Wd.pik [2, 3, 4] [] rfl rfl rfl) rfl (q.ldE (fun _ => Wd.row 1 rfl) hx1 rfl tOne_9 rfl) rfl <| ?_
        refine D.two (i := 3) (j := 7) (by kernel_rfl) rfl rfl ?_ ?_
        · refine Do.s (s.c (Qt.a (q.ld 0 rfl rfl tOne_60 rfl)) rfl) (fun _ => (fun _ => Wd.pik [2, 3, 4] [] rfl rfl rfl)) rfl fun _ => ?_
          refine D.one (i := 7) (by kernel_rfl) rfl ?_
          refine Do.s (s.c (Qt.a (q.ld 0 rfl rfl tOne_61 rfl)) rfl) (fun _ => (fun _ => Wd.pik [2, 3, 4] [] rfl rfl rfl)) rfl fun _ => ?_
          refine D.q (i := 9) rfl (by kernel_rfl) (fun _ => Wd.pik [2, 3, 4] [] rfl rfl rfl) rfl (q.idx (i := j) (fun _ => Wd.row 1 rfl) rfl rfl tSl_61 rfl hx1) rfl <| D.q (i := 10) rfl (by kernel_rfl) (fun _ => Wd.pik [2, 3, 4] [] rfl rfl rfl) rfl (q.fldE (j' := 0) (fun _ => Wd.row 1 rfl) hx1 rfl tFld_132_0 rfl) rfl <| D.q (i := 11) rfl (by kernel_rfl) (fun _ => Wd.pik [2, 3, 4] [] rfl rfl rfl) rfl (q.ldE (fun _ => Wd.row 1 rfl) hx1 rfl tOne_3 rfl) rfl <| ?_
          refine D.one (i := 20) (by kernel_rfl) rfl ?_
          refine Do.s (s.c (Qt.a (q.idx (i := x1.At.toNat) (fun _ => Wd.row 1 rfl) rfl rfl tSl_60 (by omega) hx2)) rfl) (fun _ => (fun _ => Wd.pik [2, 3, 4] [] rfl rfl rfl)) rfl fun _ => ?_
          refine D.one (i := 21) (by kernel_rfl) rfl ?_
          refine Do.s (s.stE (z := x1.Data) 1 _ rfl hx2 rfl rfl rfl rfl (.inr ⟨tOne_9, rfl⟩) rfl) (fun _ => (fun _ => Wd.pik [2, 3, 4] [] rfl rfl rfl)) rfl fun _ => ?_
          refine D.done (by kernel_rfl) <| ?_
          refine R.reg rfl <| R.u 1 rfl <| R.q (q.add (r := ((j + 1 : Nat) : Int)) rfl rfl (wr (by omega))) rfl <| R.u 1 rfl <| R.nil ?_
          refine R.back (j + 1, qk, (ks.set x1.At.toNat x1.Data)) rfl (by (exact ⟨by omega, by rw [layT_snoc hx1, ← HK]; show _ = (if bitOf kp j = true then ks.set x1.At.toNat x1.Data else ks); first | (rw [if_pos (show bitOf kp j = true from decide_eq_true (by assumption))]; done) | (rw [if_neg (show ¬ bitOf kp j = true from fun hh => absurd (of_decide_eq_true (show decide (kp / ((2 ^ (j % 64) : Nat) : Int) % 2 = 1) = true from hh)) (by assumption))]; done)⟩)) (by dsimp only; omega) ⟨rfl, rfl, rfl, trivial⟩ (fun _ => Wd.pik [0, 1, 2, 3, 4] [] rfl rfl rfl)
        · refine Do.s (s.c (Qt.a (q.ld 0 rfl rfl tOne_61 rfl)) rfl) (fun _ => (fun _ => Wd.pik [2, 3, 4] [] rfl rfl rfl)) rfl fun _ => ?_
          refine D.q (i := 9) rfl (by kernel_rfl) (fun _ => Wd.pik [2, 3, 4] [] rfl rfl rfl) rfl (q.idx (i := j) (fun _ => Wd.row 1 rfl) rfl rfl tSl_61 rfl hx1) rfl <| D.q (i := 10) rfl (by kernel_rfl) (fun _ => Wd.pik [2, 3, 4] [] rfl rfl rfl) rfl (q.fldE (j' := 0) (fun _ => Wd.row 1 rfl) hx1 rfl tFld_132_0 rfl) rfl <| D.q (i := 11) rfl (by kernel_rfl) (fun _ => Wd.pik [2, 3, 4] [] rfl rfl rfl) rfl (q.ldE (fun _ => Wd.row 1 rfl) hx1 rfl tOne_3 rfl) rfl <| ?_
          refine D.one (i := 3) (by kernel_rfl) rfl ?_
          refine Do.s (s.c (Qt.a (q.ld 0 rfl rfl tOne_60 rfl)) rfl) (fun _ => (fun _ => Wd.pik [2, 3, 4] [] rfl rfl rfl)) rfl fun _ => ?_
          refine D.one (i := 20) (by kernel_rfl) rfl ?_
          refine Do.s (s.c (Qt.a (q.idx (i := x1.At.toNat) (fun _ => Wd.row 1 rfl) rfl rfl tSl_60 (by omega) hx2)) rfl) (fun _ => (fun _ => Wd.pik [2, 3, 4] [] rfl rfl rfl)) rfl fun _ => ?_
          refine D.one (i := 21) (by kernel_rfl) rfl ?_
          refine Do.s (s.stE (z := x1.Data) 1 _ rfl hx2 rfl rfl rfl rfl (.inr ⟨tOne_9, rfl⟩) rfl) (fun _ => (fun _ => Wd.pik [2, 3, 4] [] rfl rfl rfl)) rfl fun _ => ?_
          refine D.done (by kernel_rfl) <| ?_
          refine R.reg rfl <| R.u 1 rfl <| R.q (q.add (r := ((j + 1 : Nat) : Int)) rfl rfl (wr (by omega))) rfl <| R.u 1 rfl <| R.nil ?_
          refine R.back (j + 1, qk, (ks.set x1.At.toNat x1.Data)) rfl (by (exact ⟨by omega, by rw [layT_snoc hx1, ← HK]; show _ = (if bitOf kp j = true then ks.set x1.At.toNat x1.Data else ks); first | (rw [if_pos (show bitOf kp j = true from decide_eq_true (by assumption))]; done) | (rw [if_neg (show ¬ bitOf kp j = true from fun hh => absurd (of_decide_eq_true (show decide (kp / ((2 ^ (j % 64) : Nat) : Int) % 2 = 1) = true from hh)) (by assumption))]; done)⟩)) (by dsimp only; omega) ⟨rfl, rfl, rfl, trivial⟩ (fun _ => Wd.pik [0, 1, 2, 3, 4] [] rfl rfl rfl)
    · refine R.q (q.eql rfl rfl (beq_eq_false_iff_ne.2 (by omega))) rfl <| R.nil ?_
      refine R.condF rfl rfl ?_
      refine R.reg rfl <| R.u 1 rfl <| R.q (q.add (r := ((j + 1 : Nat) : Int)) rfl rfl (wr (by omega))) rfl <| R.u 1 rfl <| R.nil ?_
      refine R.back (j + 1, qk, ks) rfl (by (exact ⟨by omega, by rw [layT_skip (fun hh => absurd (of_decide_eq_true (show decide (kp / ((2 ^ (j % 64) : Nat) : Int) % 2 = 1) = true from hh)) (by assumption)), ← HK]⟩)) (by dsimp only; omega) ⟨rfl, rfl, rfl, trivial⟩ (fun _ => Wd.pik [0, 1, 2, 3, 4] [] rfl rfl rfl)
  · refine R.q (q.lss rfl rfl (decide_eq_false (by omega))) rfl <| R.nil ?_
    refine R.condF rfl rfl ?_
    refine R.reg rfl <| R.u 2 rfl <| R.q (q.nilc rfl) rfl <| R.q (q.fld (off' := 0) rfl tFld_63_0 rfl) rfl <| R.q (q.ld 0 rfl rfl tOne_60 rfl) rfl <| ?_
    refine R.s rfl (s.app0 (l2 := ks) rfl rfl (fun _ => Wd.row 1 rfl) tApp_60 (by first | omega | (simp; omega)) (by first | omega | (simp; omega)) rfl) fun v1 => ?_
    refine R.q (q.nilc rfl) rfl <| R.q (q.fld (off' := 1) rfl tFld_63_1 rfl) rfl <| ?_
    refine R.s rfl (s.stV (us := [v1]) (cs' := [qk, v1, q_dkWait, .int .i64 dk.Fuse, .bool dk.Down]) 1 _ rfl rfl rfl (fun w hw => Sl.cells1 ((fun _ => Wd.row 0 rfl) w hw)) (.inr ⟨tOne_60, rfl⟩) (fun w hw => (one_cons (Sl.one ((fun _ => Wd.row 0 rfl) w hw)) one_nil)) rfl rfl rfl) fun _ => ?_
    refine R.nil ?_
    refine R.reg rfl <| R.u 1 rfl <| R.q (q.nilc rfl) rfl <| R.q (q.fld (off' := 2) rfl tFld_63_2 rfl) rfl <| ?_
    refine R.s rfl (s.st (us := [.slice none 0 0]) (cs' := [qk, v1, .slice none 0 0, .int .i64 dk.Fuse, .bool dk.Down]) 1 _ rfl rfl rfl rfl (.inr ⟨tOne_61, rfl⟩) rfl rfl rfl rfl) fun _ => ?_
    refine R.nil ?_
    refine R.reg rfl <| R.u 1 rfl <| R.q (q.nilc rfl) rfl <| R.q (q.fld (off' := 4) rfl tFld_63_4 rfl) rfl <| ?_
    refine R.s rfl (s.st (us := [.bool false]) (cs' := [qk, v1, .slice none 0 0, .int .i64 dk.Fuse, .bool false]) 1 _ rfl rfl rfl rfl (.inr ⟨tOne_4, rfl⟩) rfl rfl rfl rfl) fun _ => ?_
    refine R.nil ?_
    refine R.reg rfl <| R.u 1 rfl <| R.q (q.nilc rfl) rfl <| R.q (q.fld (off' := 3) rfl tFld_63_3 rfl) rfl <| ?_
    refine R.s rfl (s.st (us := [.int .i64 (-1)]) (cs' := [qk, v1, .slice none 0 0, .int .i64 (-1), .bool false]) 1 _ rfl rfl rfl rfl (.inr ⟨tOne_3, rfl⟩) rfl rfl rfl rfl) fun _ => ?_
    refine R.nil ?_
    refine R.row0 (α := Turn) 132 ?_
    have hz : dRestart dk kp = (⟨ks, ks, [], -1, false⟩ : Dsk) := by (rw [List.take_of_length_le (by omega)] at HK; unfold dRestart; rw [← HK]; try rfl)
    rw [hz]
    exact R.w0 (qk, v1, (.slice none 0 0)) [2, 3, 1, 0, 6] [] (by first | exact .inl rfl | exact .inr ⟨_, rfl⟩) Try.results35  rfl rfl rfl rfl

end Go.Proofs.Ytgmnmibejamneaa
