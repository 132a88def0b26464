/-
  A slice of zero elements of any kind; a copy of as many elements as there is room for.
-/
import Derived.Test.YtbkfhjaibhnkmaaDoorR9
import Derived.Laws.OwnMore
namespace Go.Proofs.YtbkfhjaibhnkmaaDoor
open Go Go.RowKit
set_option linter.unusedVariables false
section
variable {P : Program} {n : Nat} {we : World} {X : List Nat} {L : Fm} {B F : List Res} {x y z' : Operand} {v : Value} {d : Nat} {ty : TypeId} {pos : String} {aft : Array Edge} {g : Option (Nat × Bool)} {t e : TypeId} {α : Type} [Enc α] {l : List α}
/-- a slice of so many zero elements -/
theorem s.mkslZ {m : Nat} {i0 : TypeInfo} {kd : IntKind} {z0 : α} {zv : Value} (ht : tSl P t = some (e, Enc.k α)) (hi : P.info? e = some i0) (hz : i0.zero = some zv) (hzs : zv.cells = (Enc.cells z0).toArray) (hb : i0.bytes ≤ 1000) (hx : ev L x = some (.int kd (m : Int))) (hy : ev L y = some (.int kd (m : Int))) (hm : m * Enc.k α ≤ 1000000) (hd : Nat.blt d n = true) :
    Stp P n we X L B F ⟨some d, .makeSlice t x y, ty, pos, aft, g⟩ (fun b : Nat => (d, .slice (some ⟨b, 0, none⟩) m m) :: L) (fun b => Res.row e (.slice (some ⟨b, 0, none⟩) m m) (List.replicate m z0) :: B) (fun _ => F) := by
  intro K Q' a w ha hw hK
  obtain ⟨hu, hsz⟩ := sl_under (P := P) w ht
  have hsize : i0.size = Enc.k α := by
    unfold tSl at ht; rw [hu] at ht; simp [hi] at ht; exact ht
  have hkp := Enc.pos (α := α)
  have hm1 : m ≤ m * Enc.k α := Nat.le_mul_of_pos_right m hkp
  have hml : m ≤ maxLen := by simp [maxLen]; omega
  have hbb : i0.bytes * m ≤ 1000 * 1000000 := Nat.mul_le_mul hb (by omega)
  obtain ⟨w', hr, how, hg⟩ := run_makeSlice_full (P := P) w 0 t e i0 zv (Enc.k α) hu hi hz hsize kd kd m (by omega) (by omega) hml (Nat.zero_le _)
  have hrun : (execOp a.eval ⟨some d, .makeSlice t x y, ty, pos, aft, g⟩).run P w = .ok (.value (.slice (some ⟨w.heap.size, 0, none⟩) m m)) w' := by
    simp [execOp, ha.ev hx, ha.ev hy, hr]
  unfold Oper.wp
  rw [hrun, Oper.upon_value]
  have hcells : (madeCells zv.cells (m * Enc.k α)).toList = (List.replicate m z0).flatMap Enc.cells := by
    have h1 := zeroCells_rep hzs m
    rw [← h1]
    have hs : zv.cells.size = Enc.k α := by rw [hzs, List.size_toArray, Enc.len]
    simp [madeCells, Builtin.zeroCells, hs]
  rw [hcells] at how
  have hup : Upd [] w w' := ⟨hg.os, hg.tape, hg.output, hg.size, fun k hk _ => hg.block k hk (by simp)⟩
  have hlt : w.heap.size < w'.heap.size := by
    rcases how.2 with ⟨h, _⟩ | ⟨gb, cap, cur, h, _, hgg, _⟩
    · simp at h
    · injection h with h _ _; injection h with h; injection h with h1; rw [h1]; exact (Array.getElem?_eq_some_iff.1 hgg).1
  refine hK _ _ _ (ha.put d _ hd) ((hw.grow hup).new (r := Res.row e (.slice (some ⟨w.heap.size, 0, none⟩) m m) (List.replicate m z0)) ?_ (by simp [Res.row, sblk]) (fun k hk => ?_))
  · show Own 0 e w' _ _
    unfold Own; rw [List.length_replicate]; exact how
  · simp [Res.row, sblk] at hk; subst hk
    exact ⟨hlt, hw.upd.size, fun h => by have := (hw.own _ h).1; omega, fun h => by have := (hw.dis _ h).1; omega⟩
/-- a copy of a slice's elements to a place within a row: as many as there are, and as there is room for -/
theorem s.cpyMin {o m : Nat} {u dst : Value} {l2 : List α} {A : TypeId} (i : Nat) (B' : List Res) (hB : B[i]? = some (Res.row e v l)) (hs : ∀ w, Wd we X B F w → Sl w u l2) (hx : ev L x = some dst) (hdst : dst = sfrom v o (Enc.k α) ∨ (dst = v ∧ o = 0)) (hy : ev L y = some u) (ht : tSl P t = some (e, Enc.k α))
    (hm0 : 0 < m) (hm1 : m ≤ l2.length) (hm2 : o + m ≤ l.length) (hm : m = l2.length ∨ o + m = l.length) (hB' : B.set i (Res.row e v (l.take o ++ l2.take m ++ l.drop (o + m))) = B') (hd : Nat.blt d n = true) :
    Stp P n we X L B F ⟨some d, .call { callee := .builtin .copy, args := #[x, y], argTypes := #[t, A] }, ty, pos, aft, g⟩ (fun _ : Unit => (d, .int .i64 m) :: L) (fun _ => B') (fun _ => F) := by
  intro K Q' ac w hac hw hK
  obtain ⟨hu, hsz⟩ := sl_under (P := P) w ht
  have how : Own 0 e w v l := hw.b i hB
  obtain ⟨A2, c2, rfl, h21, h22, h23⟩ := hs w hw
  have hk := Enc.pos (α := α)
  unfold Oper.wp
  obtain ⟨gb, cap, cur, rfl, _, hgg, hnc, hcm, hcs, htk⟩ := how.parts (by omega)
  obtain ⟨x0, hx0⟩ : ∃ y0, l2[0]? = some y0 := ⟨_, List.getElem?_eq_getElem (by omega)⟩
  obtain ⟨b2, off, rfl, hb2, _⟩ := h23 0 x0 hx0
  have hl3 : (l2.take m).length = m := by rw [List.length_take]; omega
  have hsrc : ∀ j u, ((l2.take m).flatMap Enc.cells)[j]? = some u → w.cell? ((⟨b2, off, none⟩ : Addr).add j) = some u := fun j u hj => by
    obtain ⟨i', z, q, hi', hq, rfl⟩ := flat_inv (l2.take m) j u hj
    obtain ⟨b3, off3, h3, _, hc3⟩ := h23 i' z (by
      rw [List.getElem?_take] at hi'
      split at hi'
      · exact hi'
      · cases hi')
    injection h3 with h3; injection h3 with e1 e2; subst e1; subst e2
    rw [addr_add, ← Nat.add_assoc]; exact hc3 q u hq
  have hfl : ((l2.take m).flatMap Enc.cells).length = m * Enc.k α := by rw [flat_len, hl3]
  have hld := run_loadCells_list (P := P) w ⟨b2, off, none⟩ ((l2.take m).flatMap Enc.cells) hsrc
  rw [hfl] at hld
  have hx' : ∃ c3, ev L x = some (.slice (some ⟨gb, o * Enc.k α, none⟩) (l.length - o) c3) := by
    rcases hdst with rfl | ⟨rfl, rfl⟩
    · have hne : cap ≠ o := by omega
      exact ⟨_, by rw [hx]; simp only [sfrom, if_neg hne]; simp [addr_add]; rfl⟩
    · exact ⟨_, by rw [hx]; simp; rfl⟩
  obtain ⟨c3, hx'⟩ := hx'
  have hle : l.length * Enc.k α ≤ cap * Enc.k α := Nat.mul_le_mul_right _ hnc
  have hol : o * Enc.k α + m * Enc.k α ≤ l.length * Enc.k α := by rw [← Nat.add_mul]; exact Nat.mul_le_mul_right _ hm2
  have hst := run_storeCells_at P gb (o * Enc.k α) e ((l2.take m).flatMap Enc.cells) 0 cur w hgg (by rw [hfl, hcs]; omega) (flat_one (l2.take m))
  have hrun : (execOp ac.eval ⟨some d, .call { callee := .builtin .copy, args := #[x, y], argTypes := #[t, A] }, ty, pos, aft, g⟩).run P w = .ok (.value (.int .i64 m)) (w.setRow gb (cur.toList.take (o * Enc.k α) ++ (l2.take m).flatMap Enc.cells ++ cur.toList.drop (o * Enc.k α + ((l2.take m).flatMap Enc.cells).length)).toArray) := by
    have hmin : Nat.min l2.length (l.length - o) = m := by rcases hm with h | h <;> (simp only [Nat.min_def]; split <;> omega)
    simp only [Nat.add_zero] at hst
    simp [execOp, resolve, invoke, builtin, hac.ev hx', hac.ev hy, Builtin.copy_, run_underlying hu, Builtin.lenOf, Builtin.firstCells, hsz, hmin, goInt, hld, hst]
  rw [hrun, Oper.upon_value]
  have hll : (l.take o ++ l2.take m ++ l.drop (o + m)).length = l.length := by simp; omega
  have h3 : (cur.toList.take (o * Enc.k α)).length = o * Enc.k α := by rw [List.length_take]; first | omega | (simp; omega)
  have := hw.rowSet (l' := l.take o ++ l2.take m ++ l.drop (o + m)) (cs' := cur.toList.take (o * Enc.k α) ++ (l2.take m).flatMap Enc.cells ++ cur.toList.drop (o * Enc.k α + ((l2.take m).flatMap Enc.cells).length)) hB hgg hcm hcs (by simp only [List.length_append, h3, List.length_drop, hfl]; first | omega | (simp; omega)) (by
      have e2 : (o + m) * Enc.k α = o * Enc.k α + ((l2.take m).flatMap Enc.cells).length := by rw [Nat.add_mul, hfl]
      rw [hll, List.flatMap_append, List.flatMap_append, flat_take l o, flat_drop, ← htk, e2]
      exact take_seg _ _ _ _ (by rw [hfl]; omega) (by simp; omega)) (by omega)
  rw [hll] at this
  exact hK () _ _ (hac.put d _ hd) (hB' ▸ this)
end
/-! ### bits -/
theorem ofInt_u64 (a : Nat) (ha : a < 18446744073709551616) : (BitVec.ofInt 64 (a : Int)).toNat = a := by
  rw [BitVec.ofInt_natCast, BitVec.toNat_ofNat]; exact Nat.mod_eq_of_lt (by omega)
theorem u64_and1 {m r : Int} (h : r = m % 2 ∧ 0 ≤ m ∧ m ≤ 18446744073709551615) : bits .and .u64 m 1 = r := by
  obtain ⟨rfl, h0, h1⟩ := h
  obtain ⟨a, rfl⟩ := Int.eq_ofNat_of_zero_le h0
  show IntKind.u64.wrap ((BitVec.ofInt 64 (a : Int) &&& BitVec.ofInt 64 ((1 : Nat) : Int)).toNat : Int) = _
  rw [BitVec.toNat_and, ofInt_u64 a (by omega), ofInt_u64 1 (by omega), Nat.and_one_is_mod, IntKind.wrap_u64]
  omega
theorem shrV {m e : Int} {j : Nat} (he : e = (j : Int)) (hj : j ≤ 64) : m.fdiv (2 ^ (min e.toNat 64)) = m / ((2 ^ j : Nat) : Int) := by
  subst he
  rw [Int.toNat_natCast, Nat.min_eq_left hj]
  have : ((2 ^ j : Nat) : Int) = 2 ^ j := by simp
  rw [this]
  exact Int.fdiv_eq_ediv_of_nonneg m (by rw [← this]; exact Int.natCast_nonneg _)
theorem remN {a b : Nat} {c : Int} (h : c = (b : Int)) : ((a : Nat) : Int).tmod c = ((a % b : Nat) : Int) := by
  subst h; rw [Int.tmod_eq_emod_of_nonneg (Int.natCast_nonneg a)]; exact (Int.natCast_emod a b).symm
/-! ### arrays -/
section
variable {P : Program} {n : Nat} {we : World} {X : List Nat} {L : Fm} {B F : List Res} {ty xT e : TypeId} {x y : Operand}
theorem q.idxA {b o o' len esz j : Nat} {kd : IntKind} {m : Int} {i0 : TypeInfo} (hx : ev L x = some (.pointer (some ⟨b, o, none⟩))) (hy : ev L y = some (.int kd m)) (hu : P.underlying xT = some (.array len e)) (hi : P.info? e = some i0) (hs : i0.size = esz) (hm : m = (j : Int)) (hj : j < len) (ho : o + j * esz = o') :
    Qt P n we X L B F (.indexAddr xT x y) ty (.pointer (some ⟨b, o', none⟩)) := fun _ _ _ _ a w ha hw => by
  have hz : (sizeOf e).run P w = .ok esz w := by simp [sizeOf, typeInfo, hi, hs]
  subst hm
  simp only [execOp, ha.ev hx, ha.ev hy, Instr.indexAt, asIntOf, Sem.run_bind, Sem.run_pure, Result.andThen_ok, run_underlying hu, Instr.sureAddr]
  rw [if_pos ⟨by omega, by omega⟩]
  simp only [Sem.run_bind, hz, Result.andThen_ok, Sem.run_pure, addr_add, Int.toNat_natCast, ho]
end
/-! ### structs built of parts, of which some are slices -/
def fillU (places : List (Nat × Nat)) : List Value → List (Nat × List Value) → Option (List Value)
  | cells, [] => some cells
  | cells, (i, v) :: rest => match places[i]? with
    | none => none
    | some (off, size) => bif Nat.beq v.length size && Nat.ble (off + size) cells.length then fillU places (cells.take off ++ v ++ cells.drop (off + size)) rest else none
theorem fillU_eq (places : List (Nat × Nat)) : ∀ (parts : List (Nat × Value)) (cells : List Value), fillL places cells parts = fillU places cells (parts.map fun p => (p.1, p.2.cells.toList))
  | [], cells => rfl
  | (i, v) :: rest, cells => by
    simp only [fillL, List.map_cons, fillU]
    cases places[i]? with
    | none => rfl
    | some q =>
      obtain ⟨off, size⟩ := q
      simp only [fillU_eq places rest]
theorem zip_cells : ∀ (is : List Nat) (vs : List Value), (is.zip vs).map (fun p => (p.1, p.2.cells.toList)) = is.zip (vs.map fun v => v.cells.toList)
  | [], vs => by simp
  | i :: is, [] => by simp
  | i :: is, v :: vs => by simp [zip_cells is vs]
theorem um_nil : ([] : List Value).map (fun v => v.cells.toList) = [] := rfl
theorem um_cons {v : Value} {vs : List Value} {u : List Value} {us : List (List Value)} (h : v.cells.toList = u) (hs : vs.map (fun v => v.cells.toList) = us) : (v :: vs).map (fun v => v.cells.toList) = u :: us := by
  rw [List.map_cons, h, hs]
theorem Sl.cellsL {α : Type} [Enc α] {w : World} {v : Value} {l : List α} (h : Sl w v l) : v.cells.toList = [v] := by rw [h.cells1]
section
variable {P : Program} {n : Nat} {we : World} {X : List Nat} {L : Fm} {B F : List Res} {ty : TypeId}
theorem q.buildV {t : TypeId} {parts : Array (Nat × Operand)} {places : List (Nat × Nat)} {zs vs cs : List Value} {us : List (List Value)} (ht : tB P t = some (places, zs)) (hp : evs L (parts.toList.map (·.2)) = some vs)
    (hv : ∀ w, Wd we X B F w → vs.map (fun v => v.cells.toList) = us) (hf : fillU places zs ((parts.toList.map (·.1)).zip us) = some cs) :
    Qt P n we X L B F (.build t parts) ty (.agg cs.toArray) := fun q1 q2 q3 q4 a w ha hw =>
  q.build ht hp (by rw [fillU_eq, zip_cells, hv w hw]; exact hf) q1 q2 q3 q4 a w ha hw
end
/-! ### rows that are lent for a call, and stay the caller's -/
def Lend (Bl Fl : List Res) : Prop := ∀ f ∈ Fl, ∃ r ∈ Bl, (∀ w, r.ok w → f.ok w) ∧ ∀ k ∈ f.blk, k ∈ r.blk
theorem lend_nil : Lend [] [] := fun f hf => by cases hf
theorem lend_cons {α : Type} [Enc α] {Bl Fl : List Res} {e : TypeId} {v : Value} {l : List α} (h : Lend Bl Fl) : Lend (Res.row e v l :: Bl) (Res.ls v l :: Fl) := fun f hf => by
  rcases List.mem_cons.1 hf with rfl | hf
  · exact ⟨_, List.mem_cons_self .., fun w hw => Own.sl hw, fun k hk => ls_sub k hk⟩
  · obtain ⟨r, hr, h1, h2⟩ := h f hf
    exact ⟨r, List.mem_cons_of_mem _ hr, h1, h2⟩
section
variable {we w w' : World} {X : List Nat} {B0 Bl Br B1 F Fl : List Res}
theorem Wd.lendB (hw : Wd we X (B0 ++ (Bl ++ Br)) F w) (hl : Lend Bl Fl) : Wd we X (B0 ++ Br) (Fl ++ F) w := by
  have hs := hw.sep
  rw [blks_append, blks_append] at hs
  obtain ⟨s1, s2, s3⟩ := List.nodup_append.1 hs
  obtain ⟨s4, s5, s6⟩ := List.nodup_append.1 s2
  have hsub : ∀ k ∈ blks (B0 ++ Br), k ∈ blks (B0 ++ (Bl ++ Br)) := fun k hk => by
    rw [blks_append] at hk; rw [blks_append, blks_append]
    rcases List.mem_append.1 hk with hk | hk
    · exact List.mem_append.2 (.inl hk)
    · exact List.mem_append.2 (.inr (List.mem_append.2 (.inr hk)))
  refine ⟨hw.upd, fun r hr => ?_, fun r hr => ?_, ?_, fun k hk => hw.own k (hsub k hk), fun k hk => ?_⟩
  · rcases List.mem_append.1 hr with hr | hr
    · exact hw.okB r (List.mem_append.2 (.inl hr))
    · exact hw.okB r (List.mem_append.2 (.inr (List.mem_append.2 (.inr hr))))
  · rcases List.mem_append.1 hr with hr | hr
    · obtain ⟨q, hq, h1, _⟩ := hl r hr
      exact h1 w (hw.okB q (List.mem_append.2 (.inr (List.mem_append.2 (.inl hq)))))
    · exact hw.okF r hr
  · rw [blks_append]
    exact List.nodup_append.2 ⟨s1, s5, fun a ha b hb e => s3 a ha b (List.mem_append.2 (.inr hb)) e⟩
  · rw [blks_append] at hk
    rcases List.mem_append.1 hk with hk | hk
    · obtain ⟨f, hf, hk⟩ := mem_blks.1 hk
      obtain ⟨q, hq, _, h2⟩ := hl f hf
      have hb : k ∈ blks Bl := mem_blks.2 ⟨q, hq, h2 k hk⟩
      refine ⟨(hw.own k (by rw [blks_append, blks_append]; exact List.mem_append.2 (.inr (List.mem_append.2 (.inl hb))))).1, fun hc => ?_⟩
      rw [blks_append] at hc
      rcases List.mem_append.1 hc with hc | hc
      · exact s3 k hc k (List.mem_append.2 (.inl hb)) rfl
      · exact s6 k hb k hc rfl
    · exact ⟨(hw.dis k hk).1, fun hc => (hw.dis k hk).2 (hsub k hc)⟩
theorem Wd.wider (hw : Wd we X (B0 ++ (Bl ++ Br)) F w) (hp : Wd w (blks B0 ++ blks Br) (B1 ++ [Res.held w (blks Br)]) [] w') : Wd w (blks B0 ++ blks (Bl ++ Br)) (B1 ++ [Res.held w (blks (Bl ++ Br))]) [] w' := by
  have hs := hw.sep
  rw [blks_append, blks_append] at hs
  obtain ⟨s1, s2, s3⟩ := List.nodup_append.1 hs
  obtain ⟨s4, s5, s6⟩ := List.nodup_append.1 s2
  have hbl : ∀ k ∈ blks Bl, k < w.heap.size ∧ k ∉ blks B0 ++ blks Br := fun k hk => by
    refine ⟨(hw.own k (by rw [blks_append, blks_append]; exact List.mem_append.2 (.inr (List.mem_append.2 (.inl hk))))).1, fun hc => ?_⟩
    rcases List.mem_append.1 hc with hc | hc
    · exact s3 k hc k (List.mem_append.2 (.inl hk)) rfl
    · exact s6 k hk k hc rfl
  have hps := hp.sep
  rw [blks_held] at hps
  obtain ⟨p1, p2, p3⟩ := List.nodup_append.1 hps
  have hb1 : ∀ k ∈ blks B1, k ∉ blks Bl := fun k hk hc =>
    (hbl k hc).2 ((hp.own k (by rw [blks_held]; exact List.mem_append.2 (.inl hk))).2 (hbl k hc).1)
  refine ⟨hp.upd.mono fun k hk _ => ?_, fun r hr => ?_, fun r hr => (by cases hr), ?_, fun k hk => ?_, fun k hk => (by cases hk)⟩
  · rcases List.mem_append.1 hk with hk | hk
    · exact List.mem_append.2 (.inl hk)
    · exact List.mem_append.2 (.inr (by rw [blks_append]; exact List.mem_append.2 (.inr hk)))
  · rcases List.mem_append.1 hr with hr | hr
    · exact hp.okB r (List.mem_append.2 (.inl hr))
    · rw [List.mem_singleton.1 hr]
      intro k hk
      have hk : k ∈ blks (Bl ++ Br) := hk
      rw [blks_append] at hk
      rcases List.mem_append.1 hk with hk | hk
      · exact hp.upd.block k (hbl k hk).1 (hbl k hk).2
      · exact hp.okB (Res.held w (blks Br)) (List.mem_append.2 (.inr (List.mem_singleton.2 rfl))) k hk
  · rw [blks_held, blks_append]
    refine List.nodup_append.2 ⟨p1, s2, fun a ha b hb e => ?_⟩
    subst e
    rcases List.mem_append.1 hb with hb | hb
    · exact hb1 a ha hb
    · exact p3 a ha a hb rfl
  · rw [blks_held, blks_append] at hk
    rcases List.mem_append.1 hk with hk | hk
    · have h1 := hp.own k (by rw [blks_held]; exact List.mem_append.2 (.inl hk))
      refine ⟨h1.1, fun hlt => ?_⟩
      rcases List.mem_append.1 (h1.2 hlt) with h2 | h2
      · exact List.mem_append.2 (.inl h2)
      · exact List.mem_append.2 (.inr (by rw [blks_append]; exact List.mem_append.2 (.inr h2)))
    · rcases List.mem_append.1 hk with hk2 | hk2
      · exact ⟨Nat.lt_of_lt_of_le (hbl k hk2).1 hp.upd.size, fun _ => List.mem_append.2 (.inr (by rw [blks_append]; exact hk))⟩
      · exact ⟨(hp.own k (by rw [blks_held]; exact List.mem_append.2 (.inr hk2))).1, fun _ => List.mem_append.2 (.inr (by rw [blks_append]; exact hk))⟩
end
section
variable {P : Program} {n : Nat} {we : World} {X : List Nat} {L : Fm} {B F : List Res} {d : Nat} {ty : TypeId} {pos : String} {aft : Array Edge} {g : Option (Nat × Bool)}
theorem s.callVB {β : Type} {f : FuncId} {c : Operand} {xs : Array Operand} {ts : Array TypeId} {vs : List Value} {cap : Array Value} {B0 Bl Br F0 Fl : List Res} (is js : List Nat) (G : β → Value) (B1 : β → List Res) (hp : pickR B is = some (B0 ++ (Bl ++ Br))) (ha' : apartB is = true) (hl : Lend Bl Fl) (hj : pickR (Fl ++ F) js = some F0)
    (eg : ∀ args w, (callFunc f args).run P w = .ok (.enter f args) w) (hargs : evs L xs.toList = some vs) (hc : ev L c = some (.func (.func f) #[] cap))
    (hcall : ∀ w own, Wd we X B F w → Wd w (blks B0 ++ own) (B0 ++ [Res.held w own]) F0 w → Calls P f (vs ++ cap.toList).toArray w fun e w' => ∃ z, e = .returned (G z) ∧ Wd w (blks B0 ++ own) (B1 z ++ [Res.held w own]) [] w') (hd : Nat.blt d n = true) :
    Stp P n we X L B F ⟨some d, .call { callee := .value c, args := xs, argTypes := ts }, ty, pos, aft, g⟩ (fun z => (d, G z) :: L) (fun z => B1 z ++ (Bl ++ Br)) (fun _ => F) := by
  intro K Q' a w ha hw hK
  have hw2 := hw.pikB is hp ha'
  have hw3 := hw2.lendB hl
  unfold Oper.wp
  rw [run_call ha hargs hc eg, Oper.upon_enter]
  refine (hcall w (blks Br) hw (hw3.lendAll hj)).mono fun e w' he => ?_
  obtain ⟨z, rfl, ht⟩ := he
  exact hK z _ _ (ha.put d _ hd) (hw2.after (hw2.wider ht))
theorem s.callWB {β : Type} {f : FuncId} {c : Operand} {xs : Array Operand} {ts : Array TypeId} {vs : List Value} {cap : Array Value} {B0 Bl Br F0 Fl : List Res} (is js : List Nat) (G : β → Value) (B1 : β → List Res) (hp : pickR B is = some (B0 ++ (Bl ++ Br))) (ha' : apartB is = true) (hl : Lend Bl Fl) (hj : pickR (Fl ++ F) js = some F0)
    (eg : ∀ args w, (callFunc f args).run P w = .ok (.enter f args) w) (hargs : evs L xs.toList = some vs) (hc : ev L c = some (.func (.func f) #[] cap))
    (hcall : ∀ w own, Wd we X B F w → Wd w (blks B0 ++ own) (B0 ++ [Res.held w own]) F0 w → Calls P f (vs ++ cap.toList).toArray w fun e w' => ∃ z, e = .returned (G z) ∧ Wd w (blks B0 ++ own) (B1 z ++ [Res.held w own]) [] w') :
    Stp P n we X L B F ⟨none, .call { callee := .value c, args := xs, argTypes := ts }, ty, pos, aft, g⟩ (fun _ : β => L) (fun z => B1 z ++ (Bl ++ Br)) (fun _ => F) := by
  intro K Q' a w ha hw hK
  have hw2 := hw.pikB is hp ha'
  have hw3 := hw2.lendB hl
  unfold Oper.wp
  rw [run_call ha hargs hc eg, Oper.upon_enter]
  refine (hcall w (blks Br) hw (hw3.lendAll hj)).mono fun e w' he => ?_
  obtain ⟨z, rfl, ht⟩ := he
  exact hK z _ _ (by simpa [Act.put] using ha) (hw2.after (hw2.wider ht))
end
end Go.Proofs.YtbkfhjaibhnkmaaDoor
