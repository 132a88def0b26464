/-
  The things of the document as plain data, and how each lies in cells. Plain definitions.
-/
import Derived.Test.YtbkfhjaibhnkmaaDoorBase
namespace Go.Proofs.YtbkfhjaibhnkmaaDoor
open Go.RowKit
set_option linter.unusedVariables false

structure Writ where
  ID : Int
  Thing : Int
  Rights : Int
  Badge : Int
  From : Int
  deriving DecidableEq
structure Place where
  Holder : Int
  Slot : Int
  deriving DecidableEq
structure Held where
  Place : Place
  Writ : Int
  deriving DecidableEq
structure Thing where
  ID : Int
  Kind : Int
  Data : ByteArray
  deriving DecidableEq
structure Note where
  Port : Int
  Data : ByteArray
  Badge : Int
  Writ : Int
  deriving DecidableEq
structure Change where
  Key : ByteArray
  Val : ByteArray
  Gone : Bool
  deriving DecidableEq
structure Realm where
  Writs : List Writ
  Things : List Thing
  Held : List Held
  Notes : List Note
  NextWrit : Int
  NextThing : Int
  deriving DecidableEq

abbrev Writ.cs (x : Writ) : List Value := [.int .i64 x.ID, .int .i64 x.Thing, .int .i64 x.Rights, .int .i64 x.Badge, .int .i64 x.From]
abbrev Writ.val (x : Writ) : Value := .agg #[.int .i64 x.ID, .int .i64 x.Thing, .int .i64 x.Rights, .int .i64 x.Badge, .int .i64 x.From]
abbrev Place.val (x : Place) : Value := .agg #[.int .i64 x.Holder, .int .i64 x.Slot]
abbrev Held.cs (x : Held) : List Value := [.int .i64 x.Place.Holder, .int .i64 x.Place.Slot, .int .i64 x.Writ]
abbrev Held.val (x : Held) : Value := .agg #[.int .i64 x.Place.Holder, .int .i64 x.Place.Slot, .int .i64 x.Writ]
abbrev Thing.cs (x : Thing) : List Value := [.int .i64 x.ID, .int .i64 x.Kind, .string x.Data]
abbrev Thing.val (x : Thing) : Value := .agg #[.int .i64 x.ID, .int .i64 x.Kind, .string x.Data]
abbrev Note.cs (x : Note) : List Value := [.int .i64 x.Port, .string x.Data, .int .i64 x.Badge, .int .i64 x.Writ]
abbrev Note.val (x : Note) : Value := .agg #[.int .i64 x.Port, .string x.Data, .int .i64 x.Badge, .int .i64 x.Writ]
abbrev Change.cs (x : Change) : List Value := [.string x.Key, .string x.Val, .bool x.Gone]
abbrev Change.val (x : Change) : Value := .agg #[.string x.Key, .string x.Val, .bool x.Gone]

instance : Enc Writ := ⟨5, Writ.cs, fun _ => rfl, fun x u hu => by simp [Writ.cs] at hu; rcases hu with rfl | rfl | rfl | rfl | rfl <;> rfl, by decide⟩
instance : Enc Held := ⟨3, Held.cs, fun _ => rfl, fun x u hu => by simp [Held.cs] at hu; rcases hu with rfl | rfl | rfl <;> rfl, by decide⟩
instance : Enc Thing := ⟨3, Thing.cs, fun _ => rfl, fun x u hu => by simp [Thing.cs] at hu; rcases hu with rfl | rfl | rfl <;> rfl, by decide⟩
instance : Enc Note := ⟨4, Note.cs, fun _ => rfl, fun x u hu => by simp [Note.cs] at hu; rcases hu with rfl | rfl | rfl | rfl <;> rfl, by decide⟩
instance : Enc Change := ⟨3, Change.cs, fun _ => rfl, fun x u hu => by simp [Change.cs] at hu; rcases hu with rfl | rfl | rfl <;> rfl, by decide⟩

/-- What a slice's element gives: its cells, spelled as a walk asks for them. -/
theorem Sl.atW {w : World} {v : Value} {l : List Writ} (h : Sl w v l) {i : Nat} (hi : i < l.length) : ∃ b off c, v = .slice (some ⟨b, off, none⟩) l.length c ∧ b < w.heap.size ∧
    w.cell? ⟨b, off + i * 5, none⟩ = some (.int .i64 l[i].ID) ∧ w.cell? ⟨b, off + i * 5 + 1, none⟩ = some (.int .i64 l[i].Thing) ∧ w.cell? ⟨b, off + i * 5 + 2, none⟩ = some (.int .i64 l[i].Rights) ∧
    w.cell? ⟨b, off + i * 5 + 3, none⟩ = some (.int .i64 l[i].Badge) ∧ w.cell? ⟨b, off + i * 5 + 4, none⟩ = some (.int .i64 l[i].From) := by
  obtain ⟨b, off, c, hv, hb, hc⟩ := h.at hi
  exact ⟨b, off, c, hv, hb, hc 0 _ rfl, hc 1 _ rfl, hc 2 _ rfl, hc 3 _ rfl, hc 4 _ rfl⟩
theorem Sl.atH {w : World} {v : Value} {l : List Held} (h : Sl w v l) {i : Nat} (hi : i < l.length) : ∃ b off c, v = .slice (some ⟨b, off, none⟩) l.length c ∧ b < w.heap.size ∧
    w.cell? ⟨b, off + i * 3, none⟩ = some (.int .i64 l[i].Place.Holder) ∧ w.cell? ⟨b, off + i * 3 + 1, none⟩ = some (.int .i64 l[i].Place.Slot) ∧ w.cell? ⟨b, off + i * 3 + 2, none⟩ = some (.int .i64 l[i].Writ) := by
  obtain ⟨b, off, c, hv, hb, hc⟩ := h.at hi
  exact ⟨b, off, c, hv, hb, hc 0 _ rfl, hc 1 _ rfl, hc 2 _ rfl⟩
theorem Sl.atT {w : World} {v : Value} {l : List Thing} (h : Sl w v l) {i : Nat} (hi : i < l.length) : ∃ b off c, v = .slice (some ⟨b, off, none⟩) l.length c ∧ b < w.heap.size ∧
    w.cell? ⟨b, off + i * 3, none⟩ = some (.int .i64 l[i].ID) ∧ w.cell? ⟨b, off + i * 3 + 1, none⟩ = some (.int .i64 l[i].Kind) ∧ w.cell? ⟨b, off + i * 3 + 2, none⟩ = some (.string l[i].Data) := by
  obtain ⟨b, off, c, hv, hb, hc⟩ := h.at hi
  exact ⟨b, off, c, hv, hb, hc 0 _ rfl, hc 1 _ rfl, hc 2 _ rfl⟩
theorem Sl.atN {w : World} {v : Value} {l : List Note} (h : Sl w v l) {i : Nat} (hi : i < l.length) : ∃ b off c, v = .slice (some ⟨b, off, none⟩) l.length c ∧ b < w.heap.size ∧
    w.cell? ⟨b, off + i * 4, none⟩ = some (.int .i64 l[i].Port) ∧ w.cell? ⟨b, off + i * 4 + 1, none⟩ = some (.string l[i].Data) ∧ w.cell? ⟨b, off + i * 4 + 2, none⟩ = some (.int .i64 l[i].Badge) ∧ w.cell? ⟨b, off + i * 4 + 3, none⟩ = some (.int .i64 l[i].Writ) := by
  obtain ⟨b, off, c, hv, hb, hc⟩ := h.at hi
  exact ⟨b, off, c, hv, hb, hc 0 _ rfl, hc 1 _ rfl, hc 2 _ rfl, hc 3 _ rfl⟩
theorem Sl.atC {w : World} {v : Value} {l : List Change} (h : Sl w v l) {i : Nat} (hi : i < l.length) : ∃ b off c, v = .slice (some ⟨b, off, none⟩) l.length c ∧ b < w.heap.size ∧
    w.cell? ⟨b, off + i * 3, none⟩ = some (.string l[i].Key) ∧ w.cell? ⟨b, off + i * 3 + 1, none⟩ = some (.string l[i].Val) ∧ w.cell? ⟨b, off + i * 3 + 2, none⟩ = some (.bool l[i].Gone) := by
  obtain ⟨b, off, c, hv, hb, hc⟩ := h.at hi
  exact ⟨b, off, c, hv, hb, hc 0 _ rfl, hc 1 _ rfl, hc 2 _ rfl⟩
theorem Sl.atI {w : World} {v : Value} {l : List Int} (h : Sl w v l) {i : Nat} (hi : i < l.length) : ∃ b off c, v = .slice (some ⟨b, off, none⟩) l.length c ∧ b < w.heap.size ∧ w.cell? ⟨b, off + i, none⟩ = some (.int .i64 l[i]) := by
  obtain ⟨b, off, c, hv, hb, hc⟩ := h.at hi
  refine ⟨b, off, c, hv, hb, ?_⟩
  have := hc 0 _ rfl
  simpa [Enc.k] using this
theorem Sl.atS {w : World} {v : Value} {l : List ByteArray} (h : Sl w v l) {i : Nat} (hi : i < l.length) : ∃ b off c, v = .slice (some ⟨b, off, none⟩) l.length c ∧ b < w.heap.size ∧ w.cell? ⟨b, off + i, none⟩ = some (.string l[i]) := by
  obtain ⟨b, off, c, hv, hb, hc⟩ := h.at hi
  refine ⟨b, off, c, hv, hb, ?_⟩
  have := hc 0 _ rfl
  simpa [Enc.k] using this

theorem Sl.cellsW {w : World} {b off n c : Nat} {l : List Writ} (h : Sl w (.slice (some ⟨b, off, none⟩) n c) l) {i : Nat} (hi : i < l.length) :
    w.cell? ⟨b, off + i * 5, none⟩ = some (.int .i64 l[i].ID) ∧ w.cell? ⟨b, off + i * 5 + 1, none⟩ = some (.int .i64 l[i].Thing) ∧ w.cell? ⟨b, off + i * 5 + 2, none⟩ = some (.int .i64 l[i].Rights) ∧
    w.cell? ⟨b, off + i * 5 + 3, none⟩ = some (.int .i64 l[i].Badge) ∧ w.cell? ⟨b, off + i * 5 + 4, none⟩ = some (.int .i64 l[i].From) := by
  obtain ⟨b', off', c', hv, hb, r⟩ := h.atW hi
  simp only [Value.slice.injEq, Option.some.injEq, Addr.mk.injEq] at hv
  obtain ⟨⟨rfl, rfl, -⟩, -, -⟩ := hv
  exact r
/-! ### a writ that lies in a block of its own -/
def BoxW (w : World) (b : Nat) (x : Writ) : Prop := w.cell? ⟨b, 0, none⟩ = some (.int .i64 x.ID) ∧ w.cell? ⟨b, 1, none⟩ = some (.int .i64 x.Thing) ∧ w.cell? ⟨b, 2, none⟩ = some (.int .i64 x.Rights) ∧ w.cell? ⟨b, 3, none⟩ = some (.int .i64 x.Badge) ∧ w.cell? ⟨b, 4, none⟩ = some (.int .i64 x.From)
theorem BoxW.new (w : World) (x : Writ) (t : TypeId) : BoxW (w.alloc (.cells #[.int .i64 x.ID, .int .i64 x.Thing, .int .i64 x.Rights, .int .i64 x.Badge, .int .i64 x.From] t)) w.heap.size x := by
  unfold BoxW; simp [go_sem]
theorem BoxW.ext {w w' : World} {b : Nat} {x : Writ} (h : BoxW w b x) (e : Ext w w') : BoxW w' b x := ⟨e.cellSome h.1, e.cellSome h.2.1, e.cellSome h.2.2.1, e.cellSome h.2.2.2.1, e.cellSome h.2.2.2.2⟩

/-- what a callee leaves of a block that was laid ahead of it -/
def Laid5 (w2 : World) (b : Nat) (z0 z1 z2 z3 z4 : Value) : Prop :=
  (w2.cell? ⟨b, 0, none⟩ = some z0 ∧ w2.cell? ⟨b, 1, none⟩ = some z1 ∧ w2.cell? ⟨b, 2, none⟩ = some z2 ∧ w2.cell? ⟨b, 3, none⟩ = some z3 ∧ w2.cell? ⟨b, 4, none⟩ = some z4) ∧ ∀ i, w2.frozen? ⟨b, i, none⟩ = false
theorem laid5_ext {W w2 : World} {t : TypeId} {m : Nat} {z0 z1 z2 z3 z4 : Value} (h : Ext ((W.drewN m).alloc (.cells #[z0, z1, z2, z3, z4] t)) w2) : Laid5 w2 W.heap.size z0 z1 z2 z3 z4 := by
  have h : Ext (W.alloc (.cells #[z0, z1, z2, z3, z4] t)) w2 := (show Ext (W.alloc (.cells #[z0, z1, z2, z3, z4] t)) ((W.drewN m).alloc (.cells #[z0, z1, z2, z3, z4] t)) from ((Ext.refl (W.alloc (.cells #[z0, z1, z2, z3, z4] t))).drewN m)).trans h
  have hb : W.heap.size < (W.alloc (.cells #[z0, z1, z2, z3, z4] t)).heap.size := by simp
  refine ⟨⟨?_, ?_, ?_, ?_, ?_⟩, fun i => ?_⟩
  · rw [h.cell _ _ hb]; simp [go_sem]
  · rw [h.cell _ _ hb]; simp [go_sem]
  · rw [h.cell _ _ hb]; simp [go_sem]
  · rw [h.cell _ _ hb]; simp [go_sem]
  · rw [h.cell _ _ hb]; simp [go_sem]
  · rw [h.frozen _ _ hb]
    simp only [World.frozen?, heap_alloc_new]
    simp

/-! ### errors: a number, 0 for none -/
def errv (n : Int) : Value := if n = 0 then .nilIface else .iface 23 (.int .i64 n)
theorem errv_zero : errv 0 = .nilIface := rfl
theorem errv_pos {n : Int} (h : n ≠ 0) : errv n = .iface 23 (.int .i64 n) := by unfold errv; rw [if_neg h]
end Go.Proofs.YtbkfhjaibhnkmaaDoor
