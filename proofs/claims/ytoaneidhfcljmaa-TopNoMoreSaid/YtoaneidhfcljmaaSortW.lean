/-
  Go's sort and compact of integers, of a slice of the call's own: off the shelf.
-/
import Derived.Test.YtoaneidhfcljmaaR6
import Derived.Test.YtoaneidhfcljmaaShelfD
import Derived.Sort.OwnSortedInts
namespace Go.Proofs.Ytoaneidhfcljmaa
open Go Go.RowKit Go.Sort
set_option linter.unusedVariables false

def sortI (l : List Int) : List Int := l.mergeSort fun x y => decide (x ≤ y)
theorem cells_int (l : List Int) : l.flatMap Enc.cells = l.map (Value.int .i64) := by
  induction l with
  | nil => rfl
  | cons x l ih => rw [List.flatMap_cons, ih]; rfl
theorem turned_int {w : World} {g cap n m : Nat} {os : Array Obj} {l ts zs : List Int} {v : Value} (hv : v = .slice (some ⟨g, 0, none⟩) l.length cap) (how : Own 0 3 w v l) (hl : ts.length = l.length) (hz : zs = ts.take m) (hm : m ≤ l.length) :
    Turned [Res.row 3 v l] [Res.row 3 (.slice (some ⟨g, 0, none⟩) m cap) zs] w (grow (putRow (Value.int .i64) (Sort.ahead w n) g 0 ts.toArray) os) := by
  obtain ⟨hlen, hn | ⟨g', cap', cur, hv', _, hgg, hnc, hcm, hcs, htk⟩⟩ := how
  · rw [hn.1] at hv; cases hv
  rw [hv] at hv'
  simp only [Value.slice.injEq, Option.some.injEq, Addr.mk.injEq, and_true, true_and] at hv'
  obtain ⟨rfl, rfl⟩ := hv'
  have h3 : cur.size = cap * 1 := hcs
  have hgb := grownBy_sortedI (w := w) (g := g) (n := n) (os := os) ts.toArray
  have hz2 : zs.length = m := by rw [hz, List.length_take]; omega
  have hown : Own 0 3 (grow (putRow (Value.int .i64) (Sort.ahead w n) g 0 ts.toArray) os) (.slice (some ⟨g, 0, none⟩) m cap) zs := by
    have h := ownsRow_sortedI (w := w) (base := 0) (n := n) (os := os) (ss := l) (ts := ts) hl (Nat.zero_le _) hgg hnc hcm h3
    obtain ⟨h1, h2 | ⟨g2, c2, cur2, e2, b2, hg2, n2, m2, s2, t2⟩⟩ := h
    · cases h2.1
    simp only [Value.slice.injEq, Option.some.injEq, Addr.mk.injEq, and_true, true_and] at e2
    obtain ⟨rfl, rfl⟩ := e2
    refine ⟨by rw [flat_len], .inr ⟨g, cap, cur2, by rw [hz2], Nat.zero_le _, hg2, by omega, hcm, s2, ?_⟩⟩
    show cur2.toList.take (zs.length * 1) = _
    rw [cells_int, hz2, Nat.mul_one, hz, List.map_take, ← t2, List.take_take, Nat.mul_one, Nat.min_eq_left hm]
  have hlt : g < w.heap.size := (Array.getElem?_eq_some_iff.1 hgg).1
  refine ⟨⟨hgb.os, hgb.tape, hgb.output, hgb.size, fun k hk hx => hgb.block k hk (fun e => hx ?_)⟩, ?_, ?_, fun k hk => ?_⟩
  · injection e with e; subst e; rw [hv]; simp [blks, Res.row, sblk]
  · intro r hr; simp at hr; subst hr; exact hown
  · simp [blks, Res.row, sblk]
  · simp [blks, Res.row, sblk] at hk; subst hk
    exact ⟨Nat.lt_of_lt_of_le hlt hgb.size, .inl (by rw [hv]; simp [blks, Res.row, sblk])⟩
theorem Turned.refl {B0 : List Res} {w : World} (h : Hnd B0 w) : Turned B0 B0 w w := ⟨Upd.refl _ _, h.ok, h.sep, fun k hk => ⟨h.lt k hk, .inl hk⟩⟩
theorem sort_any (v : Value) (l : List Int) (w : World) (H : Hnd [Res.row 3 v l] w) (hl : l.length ≤ 1000000) : Calls Try.prog 64 [v].toArray w fun e w' => ∃ _z : Unit, e = .returned (.tuple #[]) ∧ Turned [Res.row 3 v l] [Res.row 3 v (sortI l)] w w' := by
  have how : Own 0 3 w v l := H.ok (Res.row 3 v l) (List.mem_singleton.2 rfl)
  have hs : (sortI l).length = l.length := List.length_mergeSort l
  rcases how.2 with ⟨rfl, h0⟩ | ⟨g, cap, cur, hv, _, hgg, hnc, hcm, hcs, htk⟩
  · have : l = [] := List.eq_nil_of_length_eq_zero h0
    subst this
    refine (Try.slices_Sort_int_none none 0 w).mono ?_
    rintro e w' ⟨rfl, rfl⟩
    have e0 : sortI [] = [] := by simp [sortI]
    rw [e0]
    exact ⟨(), rfl, Turned.refl H⟩
  · have hH := holds_of_blockI (ss := l) hgg (by have := htk; rw [cells_int] at this; simpa [Enc.k] using this)
    rw [hv]
    refine (Try.slices_Sort_int g 0 cap l w hH (Array.getElem?_eq_some_iff.1 hgg).1 (by omega)).mono ?_
    rintro e w' ⟨rfl, n, os, rfl⟩
    refine ⟨(), rfl, ?_⟩
    have := turned_int (os := os) (n := n) (ts := sortI l) (zs := sortI l) (m := l.length) hv how hs (by rw [List.take_of_length_le (by omega)]) (Nat.le_refl _)
    rw [hv] at this; exact this
theorem compact_any (v : Value) (l : List Int) (w : World) (H : Hnd [Res.row 3 v l] w) (hl : l.length ≤ 1000000) : Calls Try.prog 65 [v].toArray w fun e w' => ∃ z : Value, e = .returned z ∧ Turned [Res.row 3 v l] [Res.row 3 z (Lib.compact l)] w w' := by
  have how : Own 0 3 w v l := H.ok (Res.row 3 v l) (List.mem_singleton.2 rfl)
  rcases how.2 with ⟨rfl, h0⟩ | ⟨g, cap, cur, hv, _, hgg, hnc, hcm, hcs, htk⟩
  · have : l = [] := List.eq_nil_of_length_eq_zero h0
    subst this
    refine (Try.slices_Compact_int_empty none 0 w).mono ?_
    rintro e w' ⟨rfl, rfl⟩
    exact ⟨_, rfl, Turned.refl H⟩
  · have hH := holds_of_blockI (ss := l) hgg (by have := htk; rw [cells_int] at this; simpa [Enc.k] using this)
    have hc : (Lib.compact l).length ≤ l.length := by
      unfold Lib.compact Lib.compactUpTo
      rw [List.length_map]
      exact Nat.le_trans (List.length_filter_le _ _) (by simp)
    rw [hv]
    refine (Try.slices_Compact_int g 0 cap l w hH (by omega) hnc).mono ?_
    rintro e w' ⟨rfl, n, rfl⟩
    refine ⟨_, rfl, ?_⟩
    have := turned_int (os := #[]) (n := n) (ts := Lib.compact l ++ List.replicate (l.length - (Lib.compact l).length) 0) (zs := Lib.compact l) (m := (Lib.compact l).length) hv how (by simp; omega) (by simp) hc
    rw [hv, grow_empty] at this; exact this
end Go.Proofs.Ytoaneidhfcljmaa
