/-
  Words for memory that all walks of this seat share: a world that has grown, a slice that reads as a list, a slice of the call's own. Plain lemmas, no program.
-/
import Derived.WalkKit
import Derived.WalkSpells
import Derived.WalkLawsBesides
import Derived.Lib.Hide
import Derived.Deep.Draws
import Derived.Deep.AppendLies
namespace Go.Proofs.YtbkfhjaibhnkmaaDoor
open Go.RowKit
set_option linter.unusedVariables false

/-! ### a world that has grown -/
def Ext (w w' : World) : Prop := Below w.heap.size w w'
theorem Ext.below {w w' : World} (h : Ext w w') : Below w.heap.size w w' := h
theorem Ext.mk {w w' : World} (h : Below w.heap.size w w') : Ext w w' := h
attribute [irreducible] Ext
theorem Ext.refl (w : World) : Ext w w := Ext.mk (Below.refl _ _)
theorem Ext.size {w w' : World} (h : Ext w w') : w.heap.size ≤ w'.heap.size := h.below.size
theorem Ext.trans {a b c : World} (h : Ext a b) (k : Ext b c) : Ext a c := Ext.mk (h.below.trans (k.below.mono h.size))
theorem Ext.alloc {a w : World} (h : Ext a w) (o : Obj) : Ext a (w.alloc o) := Ext.mk (h.below.alloc h.size o)
theorem Ext.drew {a w : World} (h : Ext a w) : Ext a w.drew := Ext.mk (h.below.drew)
theorem Ext.drewN {a w : World} (h : Ext a w) (n : Nat) : Ext a (w.drewN n) := Ext.mk ⟨h.below.os, h.below.tape, h.below.output, h.below.size, h.below.block⟩
theorem Ext.setCell {a w : World} (h : Ext a w) {p : Addr} (hp : a.heap.size ≤ p.block) (u : Value) : Ext a (w.setCell p u) := Ext.mk (h.below.setCell hp u)
theorem Ext.cellA {w w' : World} (h : Ext w w') {a : Addr} (hb : a.block < w.heap.size) : w'.cell? a = w.cell? a := h.below.cell hb
theorem Ext.cell {w w' : World} (h : Ext w w') : ∀ b o, b < w.heap.size → w'.cell? ⟨b, o, none⟩ = w.cell? ⟨b, o, none⟩ := fun b o hb => h.below.cell (p := ⟨b, o, none⟩) hb
theorem Ext.frozen {w w' : World} (h : Ext w w') : ∀ b o, b < w.heap.size → w'.frozen? ⟨b, o, none⟩ = w.frozen? ⟨b, o, none⟩ := fun b o hb => h.below.frozen (p := ⟨b, o, none⟩) hb
theorem Ext.cellSome {w w' : World} (h : Ext w w') {a : Addr} {v : Value} (hv : w.cell? a = some v) : w'.cell? a = some v := (h.cellA (World.block_lt_of_cell? w a hv)).trans hv
theorem Ext.heap {w w' : World} (h : Ext w w') {k : Nat} (hk : k < w.heap.size) : w'.heap[k]? = w.heap[k]? := h.below.block k hk
theorem Ext.grown {a w w' : World} {row : Option Nat} (h : Ext a w) (hg : w.grownBy w' row) (hr : ∀ k, row = some k → a.heap.size ≤ k) : Ext a w' := Ext.mk (h.below.grown hg h.size hr)
theorem cell_swap {w : World} {o1 o2 : Obj} {b o : Nat} {v : Value} (hb : b < w.heap.size) (h : (w.alloc o1).cell? ⟨b, o, none⟩ = some v) : (w.alloc o2).cell? ⟨b, o, none⟩ = some v := by
  have h1 : (w.alloc o1).cell? ⟨b, o, none⟩ = w.cell? ⟨b, o, none⟩ := World.cell?_alloc_lt w o1 _ hb
  have h2 : (w.alloc o2).cell? ⟨b, o, none⟩ = w.cell? ⟨b, o, none⟩ := World.cell?_alloc_lt w o2 _ hb
  rw [h2, ← h1]; exact h
theorem cell_far {w : World} {g i : Nat} {u : Value} {b o : Nat} {v : Value} (hb : b ≠ g) (h : w.cell? ⟨b, o, none⟩ = some v) : (w.setCell ⟨g, i, none⟩ u).cell? ⟨b, o, none⟩ = some v := by
  rw [World.cell?_setCell_other w ⟨g, i, none⟩ ⟨b, o, none⟩ u (fun e => hb (by injection e with e1; exact e1.symm))]; exact h
theorem cell_ne {w : World} {b o : Nat} {v : Value} (hv : w.cell? ⟨b, o, none⟩ = some v) : b ≠ w.heap.size := fun e => by have := World.block_lt_of_cell? w _ hv; simp at this; omega
theorem cell_lt {w : World} {b o : Nat} {v : Value} (hv : w.cell? ⟨b, o, none⟩ = some v) : b < w.heap.size := World.block_lt_of_cell? w _ hv

/-! ### how a thing lies in cells -/
class Enc (α : Type) where
  k : Nat
  cells : α → List Value
  len : ∀ x, (cells x).length = k
  one : ∀ x, ∀ u ∈ cells x, u.oneCell' = true
  pos : 0 < k
instance : Enc Int := ⟨1, fun n => [.int .i64 n], fun _ => rfl, fun _ u hu => by simp at hu; subst hu; rfl, by decide⟩
instance : Enc ByteArray := ⟨1, fun s => [.string s], fun _ => rfl, fun _ u hu => by simp at hu; subst hu; rfl, by decide⟩

theorem flat_get {α : Type} [Enc α] : ∀ (l : List α) (i : Nat) (x : α) (j : Nat) (u : Value), l[i]? = some x → (Enc.cells x)[j]? = some u → (l.flatMap Enc.cells)[i * Enc.k α + j]? = some u
  | [], i, x, j, u, h, _ => by simp at h
  | y :: l, 0, x, j, u, h, hj => by
    simp at h; subst h
    have hl : j < (Enc.cells y).length := (List.getElem?_eq_some_iff.1 hj).1
    simp only [List.flatMap_cons, Nat.zero_mul, Nat.zero_add]
    rw [List.getElem?_append_left hl]; exact hj
  | y :: l, i + 1, x, j, u, h, hj => by
    have h' : l[i]? = some x := by simpa using h
    have ih := flat_get l i x j u h' hj
    simp only [List.flatMap_cons]
    rw [List.getElem?_append_right (by rw [Enc.len, Nat.add_mul]; omega), Enc.len, ← ih]
    congr 1
    rw [Nat.add_mul]; omega
theorem flat_len {α : Type} [Enc α] (l : List α) : (l.flatMap Enc.cells).length = l.length * Enc.k α := by
  induction l with
  | nil => simp
  | cons y l ih => simp only [List.flatMap_cons, List.length_append, ih, Enc.len, List.length_cons, Nat.add_mul]; omega
theorem flat_one {α : Type} [Enc α] (l : List α) : ∀ u ∈ l.flatMap Enc.cells, u.oneCell' = true := by
  intro u hu
  obtain ⟨x, _, hx⟩ := List.mem_flatMap.1 hu
  exact Enc.one x u hx

/-! ### a slice that reads as a list -/
def SlR {α : Type} (R : World → List Value → α → Prop) (k : Nat) (w : World) (v : Value) (l : List α) : Prop :=
  ∃ A c, v = .slice A l.length c ∧ l.length ≤ c ∧ c ≤ maxLen ∧
    ∀ i x, l[i]? = some x → ∃ b off cs, A = some ⟨b, off, none⟩ ∧ b < w.heap.size ∧ cs.length = k ∧ R w cs x ∧ ∀ j u, cs[j]? = some u → w.cell? ⟨b, off + i * k + j, none⟩ = some u
def Sl {α : Type} [Enc α] (w : World) (v : Value) (l : List α) : Prop :=
  ∃ A c, v = .slice A l.length c ∧ l.length ≤ c ∧ c ≤ maxLen ∧
    ∀ i x, l[i]? = some x → ∃ b off, A = some ⟨b, off, none⟩ ∧ b < w.heap.size ∧ ∀ j u, (Enc.cells x)[j]? = some u → w.cell? ⟨b, off + i * Enc.k α + j, none⟩ = some u
section
variable {α : Type} [Enc α] {w w' : World} {v : Value} {l : List α}
theorem Sl.ext (h : Sl w v l) (e : Ext w w') : Sl w' v l := by
  obtain ⟨A, c, hv, h1, h2, h3⟩ := h
  refine ⟨A, c, hv, h1, h2, fun i x hx => ?_⟩
  obtain ⟨b, off, hA, hb, hc⟩ := h3 i x hx
  exact ⟨b, off, hA, Nat.lt_of_lt_of_le hb e.size, fun j u hu => e.cellSome (hc j u hu)⟩
theorem Sl.nil (w : World) : Sl w (.slice none 0 0) ([] : List α) := ⟨none, 0, rfl, by simp, by simp, fun i x h => by simp at h⟩
theorem Sl.form (h : Sl w v l) : ∃ A c, v = .slice A l.length c ∧ l.length ≤ c ∧ c ≤ 9223372036854775807 := by
  obtain ⟨A, c, hv, h1, h2, _⟩ := h
  exact ⟨A, c, hv, h1, by unfold maxLen at h2; omega⟩
theorem Sl.take {A : Option Addr} {n c : Nat} (h : Sl w (.slice A n c) l) {k : Nat} (hk : k ≤ l.length) : Sl w (.slice A k c) (l.take k) := by
  obtain ⟨A', c', hv, h1, h2, h3⟩ := h
  simp only [Value.slice.injEq] at hv
  obtain ⟨rfl, rfl, rfl⟩ := hv
  have hl : (l.take k).length = k := by rw [List.length_take]; omega
  refine ⟨A, c, by rw [hl], by omega, h2, fun i x hx => h3 i x ?_⟩
  rw [List.getElem?_take] at hx
  split at hx
  · exact hx
  · cases hx
theorem Sl.at (h : Sl w v l) {i : Nat} (hi : i < l.length) : ∃ b off c, v = .slice (some ⟨b, off, none⟩) l.length c ∧ b < w.heap.size ∧ ∀ j u, (Enc.cells l[i])[j]? = some u → w.cell? ⟨b, off + i * Enc.k α + j, none⟩ = some u := by
  obtain ⟨A, c, rfl, h1, h2, h3⟩ := h
  obtain ⟨b, off, rfl, hb, hc⟩ := h3 i l[i] (List.getElem?_eq_getElem hi)
  exact ⟨b, off, c, rfl, hb, hc⟩
end

/-! ### a slice of the call's own -/
def Own {α : Type} [Enc α] (base : Nat) (e : TypeId) (w : World) (v : Value) (l : List α) : Prop := w.ownsRow base e (Enc.k α) v l.length (l.flatMap Enc.cells)
section
variable {α : Type} [Enc α] {base : Nat} {e : TypeId} {w w' : World} {v : Value} {l : List α}
theorem Own.nil (base : Nat) (e : TypeId) (w : World) : Own base e w (.slice none 0 0) ([] : List α) := World.ownsRow_nil w base e _
theorem Own.sl (h : Own base e w v l) : Sl w v l := by
  have hl := h.lt
  have hcl := fun g hg => h.cells (g := g) hg
  unfold Own at h
  rcases h.2 with ⟨rfl, h0⟩ | ⟨g, cap, cur, rfl, hb, hg, hnc, hcm, hcs, htake⟩
  · have : l = [] := List.eq_nil_of_length_eq_zero h0
    subst this; exact Sl.nil w
  · refine ⟨_, cap, rfl, hnc, hcm, fun i x hx => ⟨g, 0, rfl, (hl g rfl).2, fun j u hu => ?_⟩⟩
    have := hcl g rfl (i * Enc.k α + j) u (flat_get l i x j u hx hu)
    have hadd : (⟨g, 0, none⟩ : Addr).add (i * Enc.k α + j) = ⟨g, 0 + i * Enc.k α + j, none⟩ := by unfold Addr.add; split <;> simp_all
    rw [hadd] at this; exact this
theorem Own.ext (h : Own base e w v l) (x : Ext w w') : Own base e w' v l := World.ownsRow.kept h (row := none) ⟨x.below.os, x.below.tape, x.below.output, x.size, fun k hk _ => x.heap hk⟩ (by cases v.ownBlock <;> simp)
theorem Own.alloc (h : Own base e w v l) (o : Obj) : Own base e (w.alloc o) v l := World.ownsRow.alloc h o
theorem Own.lower {b2 : Nat} (h : Own base e w v l) (hb : b2 ≤ base) : Own b2 e w v l := by
  refine ⟨h.1, ?_⟩
  rcases h.2 with h | ⟨g, cap, cur, hv, hg, r⟩
  · exact .inl h
  · exact .inr ⟨g, cap, cur, hv, Nat.le_trans hb hg, r⟩
theorem Own.lt (h : Own base e w v l) : ∀ k, v.ownBlock = some k → base ≤ k ∧ k < w.heap.size := World.ownsRow.lt h
end

/-! ### append of one element onto a slice of the call's own -/
section
variable {α : Type} [Enc α] {P : Program} {ops : Array Oper} {rest : List Oper} {o : Oper} {a : Act} {Q : Exit → Act → World → Prop}
theorem wpList_push (hgd : o.guard = none) (s y : Operand) (t : TypeId) (ho : o.op = .call { callee := .builtin .append, args := #[s, y], argTypes := #[t, t] })
    (e : TypeId) (i : TypeInfo) (z : Value) (bytes : Nat) (ht : P.underlying t = some (.slice e)) (hi : P.info? e = some i) (hz : i.zero = some z)
    (hsize : i.size = Enc.k α) (hby : i.bytes = bytes) (hzs : z.cells.size = Enc.k α) (w0 w : World)
    (v : Value) (l : List α) (hs : a.eval s = v) (hown : Own w0.heap.size e w v l) (x : α)
    (b c : Nat) (hx : a.eval y = .slice (some ⟨b, 0, none⟩) 1 c) (hc : ∀ j u, (Enc.cells x)[j]? = some u → w.cell? ⟨b, j, none⟩ = some u)
    (hlen : l.length < 16777216) (hbb : bytes ≤ 1024) (hext : Ext w0 w)
    (h : ∀ v' w', Own w0.heap.size e w' v' (l ++ [x]) → Ext w0 w' → w.grownBy w' v.ownBlock → wpList P ops Q rest (a.put o.dst v') w') : wpList P ops Q (o :: rest) a w := by
  have hml : (l.length + 1) * bytes ≤ 16777216 * 1024 := Nat.mul_le_mul (by omega) hbb
  refine wpList_append_own w hgd s y t ho w0.heap.size e i z (Enc.k α) bytes ht hi hz hsize hby hzs Enc.pos v l.length (l.flatMap Enc.cells) hs hown ⟨b, 0, none⟩ 1 c (Enc.cells x) hx (by rw [Enc.len, Nat.one_mul]) (fun j u hu => ?_) (Enc.one x) (by unfold maxLen; omega) (by omega) hext.size (fun v' w' h1 h2 _ => ?_)
  · have hadd : (⟨b, 0, none⟩ : Addr).add j = ⟨b, j, none⟩ := by unfold Addr.add; split <;> simp_all
    rw [hadd]; exact hc j u hu
  · refine h v' w' ?_ (hext.grown h2 fun k hk => (hown.lt k hk).1) h2
    unfold Own
    simpa using h1
/-- the same, the element lying in the block that was just made (as 'append(out, x)' lays it) -/
theorem wpList_push_new (hgd : o.guard = none) (s y : Operand) (t : TypeId) (ho : o.op = .call { callee := .builtin .append, args := #[s, y], argTypes := #[t, t] })
    (e : TypeId) (i : TypeInfo) (z : Value) (bytes : Nat) (ht : P.underlying t = some (.slice e)) (hi : P.info? e = some i) (hz : i.zero = some z)
    (hsize : i.size = Enc.k α) (hby : i.bytes = bytes) (hzs : z.cells.size = Enc.k α) (hbb : bytes ≤ 1024) (w0 w : World)
    (v : Value) (l : List α) (x : α) (hs : a.eval s = v) (hown : Own w0.heap.size e w v l)
    {nb : Nat} (hx : a.eval y = .slice (some ⟨nb, 0, none⟩) 1 1) (hnb : nb = w.heap.size) (hlen : l.length < 16777216) (hext : Ext w0 w)
    (h : ∀ v' w', Own w0.heap.size e w' v' (l ++ [x]) → Ext w0 w' → w.grownBy w' v.ownBlock → wpList P ops Q rest (a.put o.dst v') w') :
    wpList P ops Q (o :: rest) a (w.alloc (.cells (Enc.cells x).toArray e)) := by
  subst hnb
  refine wpList_push hgd s y t ho e i z bytes ht hi hz hsize hby hzs w0 _ v l hs (hown.alloc _) x w.heap.size 1 hx (fun j u hj => ?_) hlen hbb (hext.alloc _) (fun v' w' h1 h2 h3 => h v' w' h1 h2 ?_)
  · rw [cell_of_row (w.alloc (.cells (Enc.cells x).toArray e)) w.heap.size j _ _ _ (heap_alloc_new w _)]
    simpa using hj
  · exact ⟨h3.os, h3.tape, h3.output, Nat.le_trans (by simp) h3.size, fun k hk hne => (h3.block k (by simp; omega) hne).trans (Below.heap_alloc w _ k hk)⟩
end

/-! ### closing -/
theorem ret_int {k : IntKind} {a b : Int} (h : a = b) : Ending.returned (.int k a) = .returned (.int k b) := by rw [h]
theorem ret_bool {a b : Bool} (h : a = b) : Ending.returned (.bool a) = .returned (.bool b) := by rw [h]
end Go.Proofs.YtbkfhjaibhnkmaaDoor
