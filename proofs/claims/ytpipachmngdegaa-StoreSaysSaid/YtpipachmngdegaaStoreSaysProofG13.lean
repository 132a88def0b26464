import Derived.Test.YtpipachmngdegaaStoreSaysProofG12
import Derived.Test.YtpipachmngdegaaStoreSaysProofG3
section
/-
  An act of the laws as plain data (its changes lie in a slice of their own), and what is told of it.
-/
namespace Go.Proofs.Ytpipachmngdegaa
open Go Go.RowKit
set_option linter.unusedVariables false

structure Deed where
  Kind : ByteArray
  S : ByteArray
  P : Place
  Q : Place
  A : Int
  B : Int
  N : Int
  K : Int
  ca : Option Addr
  cn : Nat
  cc : Nat
  Changes : List Change
abbrev Deed.cv (x : Deed) : Value := .slice x.ca x.cn x.cc
abbrev Deed.cs (x : Deed) : List Value := [.string x.Kind, .string x.S, .int .i64 x.P.Holder, .int .i64 x.P.Slot, .int .i64 x.Q.Holder, .int .i64 x.Q.Slot, .int .i64 x.A, .int .i64 x.B, .int .i64 x.N, .int .u64 x.K, x.cv]
abbrev Deed.val (x : Deed) : Value := .agg #[.string x.Kind, .string x.S, .int .i64 x.P.Holder, .int .i64 x.P.Slot, .int .i64 x.Q.Holder, .int .i64 x.Q.Slot, .int .i64 x.A, .int .i64 x.B, .int .i64 x.N, .int .u64 x.K, x.cv]
instance : Enc Deed := ⟨11, Deed.cs, fun _ => rfl, fun x u hu => by simp [Deed.cs] at hu; rcases hu with rfl | rfl | rfl | rfl | rfl | rfl | rfl | rfl | rfl | rfl | rfl <;> rfl, by decide⟩

/-- the changes of all acts read as what they are -/
def Res.acts (l : List Deed) : Res := ⟨l.flatMap (fun x => (Res.ls x.cv x.Changes).blk), fun w => ∀ x ∈ l, Sl w x.cv x.Changes, fun w w' h hs x hx => (Res.ls x.cv x.Changes).loc w w' (fun k hk => h k (List.mem_flatMap.2 ⟨x, hx, hk⟩)) (hs x hx)⟩
theorem acts_lt {w : World} {l : List Deed} (h : ∀ x ∈ l, Sl w x.cv x.Changes) : ∀ k ∈ (Res.acts l).blk, k < w.heap.size := fun k hk => by
  obtain ⟨x, hx, hk⟩ := List.mem_flatMap.1 hk
  exact ls_lt (h x hx) k hk
theorem acts_one {w : World} {x : Deed} (h : Sl w x.cv x.Changes) : ∀ y ∈ [x], Sl w y.cv y.Changes := fun y hy => by
  rw [List.mem_singleton.1 hy]; exact h
theorem Wd.acts {we w : World} {X : List Nat} {B F : List Res} {l : List Deed} (i : Nat) (h : F[i]? = some (Res.acts l)) (hw : Wd we X B F w) : ∀ x ∈ l, Sl w x.cv x.Changes := hw.f i h
theorem Wd.actX {we w : World} {X : List Nat} {B F : List Res} {l : List Deed} {x : Deed} (i : Nat) (h : F[i]? = some (Res.acts l)) (hx : x ∈ l) (hw : Wd we X B F w) : Sl w x.cv x.Changes := hw.f i h x hx
theorem act_blk {l : List Deed} {x : Deed} (hx : x ∈ l) : ∀ k ∈ (Res.ls x.cv x.Changes).blk, k ∈ (Res.acts l).blk := fun k hk => List.mem_flatMap.2 ⟨x, hx, hk⟩
end Go.Proofs.Ytpipachmngdegaa
end

section
/-
  The readings of a change, and of an act, out of their cells.
-/
namespace Go.Proofs.Ytpipachmngdegaa
open Go.ChangeShapes Go.WideShapes Go.ChangeAt Go.RowKit Go.Deep
set_option linter.unusedVariables false
set_option maxRecDepth 100000
def Change.Fit (x : Change) : Prop := x.Key.size ≤ maxLen ∧ x.Val.size ≤ maxLen
def InU (n : Int) : Prop := 0 ≤ n ∧ n ≤ 18446744073709551615
def Deed.Fit (x : Deed) : Prop := x.Kind.size ≤ maxLen ∧ x.S.size ≤ maxLen ∧ x.P.Fit ∧ x.Q.Fit ∧ InI x.A ∧ InI x.B ∧ InI x.N ∧ InU x.K ∧ ∀ z ∈ x.Changes, z.Fit
section
variable {H : Type} {enc : TypeId × Value → H} {w : World} {base : Nat} {spare : Nat → Bool} {held : Bool}
theorem cellsString : Try.prog.cellsOf 9 = 1 := by kernel_rfl
theorem cellsBool : Try.prog.cellsOf 4 = 1 := by kernel_rfl
theorem cellsU64 : Try.prog.cellsOf 45 = 1 := by kernel_rfl
theorem cellsChange : Try.prog.cellsOf 51 = 3 := by kernel_rfl
theorem cellsChanges : Try.prog.cellsOf 46 = 1 := by kernel_rfl
theorem cellsDeed : Try.prog.cellsOf 48 = 11 := by kernel_rfl
theorem rd_str {m : Nat} {c : Value} {y : DataW H × List MemPlace} (h : DataW.trod enc Try.prog w base spare held m 9 [c] = some y) : ∃ s, c = .string s ∧ s.size ≤ maxLen := by
  obtain ⟨s, hs, _, hw⟩ := DataW.trod_string Try.underlying9 h
  injection hs with hs _
  exact ⟨s, hs, hw⟩
theorem rd_bool {m : Nat} {c : Value} {y : DataW H × List MemPlace} (h : DataW.trod enc Try.prog w base spare held m 4 [c] = some y) : ∃ b, c = .bool b := by
  obtain ⟨b, hs, _⟩ := DataW.trod_bool Try.underlying4 h
  injection hs with hs _
  exact ⟨b, hs⟩
theorem rd_u64 {m : Nat} {c : Value} {y : DataW H × List MemPlace} (h : DataW.trod enc Try.prog w base spare held m 45 [c] = some y) : ∃ n, c = .int .u64 n ∧ InU n := by
  obtain ⟨n, hn, _, hw⟩ := DataW.trod_int Try.underlying45 h
  injection hn with hn _
  exact ⟨n, hn, bounds_u64 hw⟩
theorem rd_change {m : Nat} {cs : List Value} {y : DataW H × List MemPlace} (hl : cs.length = 3) (h : DataW.trod enc Try.prog w base spare held m 51 cs = some y) : ∃ z : Change, cs = Enc.cells z ∧ z.Fit := by
  match cs, hl with
  | [c0, c1, c2], _ =>
    obtain ⟨xs, n, _, _, _, hlen, hf⟩ := DataW.trod_struct Try.underlying51 h
    match xs, hlen with
    | [y0, y1, y2], _ =>
      have g0 := field_of hf 0 _ rfl 9 0 1 rfl rfl cellsString; have g1 := field_of hf 1 _ rfl 9 1 1 rfl rfl cellsString; have g2 := field_of hf 2 _ rfl 4 2 1 rfl rfl cellsBool
      obtain ⟨n0, rfl, w0⟩ := rd_str (c := c0) (by simpa using g0)
      obtain ⟨n1, rfl, w1⟩ := rd_str (c := c1) (by simpa using g1)
      obtain ⟨n2, rfl⟩ := rd_bool (c := c2) (by simpa using g2)
      exact ⟨⟨n0, n1, n2⟩, rfl, w0, w1⟩
theorem rd_act {m : Nat} {cs : List Value} {y : DataW H × List MemPlace} (hl : cs.length = 11) (h : DataW.trod enc Try.prog w base spare held m 48 cs = some y) : ∃ z : Deed, cs = Enc.cells z ∧ (Sl w z.cv z.Changes ∧ z.Fit) := by
  match cs, hl with
  | [c0, c1, c2, c3, c4, c5, c6, c7, c8, c9, c10], _ =>
    obtain ⟨xs, n, _, _, _, hlen, hf⟩ := DataW.trod_struct Try.underlying48 h
    match xs, hlen with
    | [y0, y1, y2, y3, y4, y5, y6, y7, y8], _ =>
      have g0 := field_of hf 0 _ rfl 9 0 1 rfl rfl cellsString; have g1 := field_of hf 1 _ rfl 9 1 1 rfl rfl cellsString
      have g2 := field_of hf 2 _ rfl 44 2 2 rfl rfl cellsPlace; have g3 := field_of hf 3 _ rfl 44 4 2 rfl rfl cellsPlace
      have g4 := field_of hf 4 _ rfl 3 6 1 rfl rfl cellsInt; have g5 := field_of hf 5 _ rfl 3 7 1 rfl rfl cellsInt; have g6 := field_of hf 6 _ rfl 3 8 1 rfl rfl cellsInt
      have g7 := field_of hf 7 _ rfl 45 9 1 rfl rfl cellsU64; have g8 := field_of hf 8 _ rfl 46 10 1 rfl rfl cellsChanges
      obtain ⟨n0, rfl, w0⟩ := rd_str (c := c0) (by simpa using g0)
      obtain ⟨n1, rfl, w1⟩ := rd_str (c := c1) (by simpa using g1)
      obtain ⟨z0, e0, w2⟩ := rd_place (cs := [c2, c3]) rfl (by simpa using g2)
      simp only [List.cons.injEq, and_true] at e0
      obtain ⟨rfl, rfl⟩ := e0
      obtain ⟨z1, e1, w3⟩ := rd_place (cs := [c4, c5]) rfl (by simpa using g3)
      simp only [List.cons.injEq, and_true] at e1
      obtain ⟨rfl, rfl⟩ := e1
      obtain ⟨n4, rfl, w4⟩ := rd_int (c := c6) (by simpa using g4)
      obtain ⟨n5, rfl, w5⟩ := rd_int (c := c7) (by simpa using g5)
      obtain ⟨n6, rfl, w6⟩ := rd_int (c := c8) (by simpa using g6)
      obtain ⟨n7, rfl, w7⟩ := rd_u64 (c := c9) (by simpa using g7)
      obtain ⟨l, hs, hg⟩ := open_list (v := c10) Try.underlying46 cellsChange Change.Fit (fun _ _ _ hl hy => rd_change hl hy) (by simpa using g8)
      have hs' := hs
      obtain ⟨A, c, rfl, _⟩ := hs
      exact ⟨⟨n0, n1, z0, z1, n4, n5, n6, n7, A, l.length, c, l⟩, rfl, hs', w0, w1, w2, w3, w4, w5, w6, w7, hg⟩
theorem arg_act {r : Reach} {b0 : Nat} {v : Value} {d : DataW H} {p : List MemPlace} (hv : Value.okWide Try.prog w r b0 48 v) (h : DataW.Trod enc Try.prog w base spare held 48 v d p) : ∃ x : Deed, v = x.val ∧ Sl w x.cv x.Changes ∧ x.Fit := by
  obtain ⟨cs, rfl, hsz⟩ := okWide_struct Try.underlying48 hv
  obtain ⟨m, hm⟩ := h
  obtain ⟨z, hz, hg⟩ := rd_act (cs := cs.toList) (by simpa using hsz.trans cellsDeed) (by simpa [Value.cells] using hm)
  refine ⟨z, ?_, hg⟩
  have : cs = (Enc.cells z).toArray := by rw [← hz]
  rw [this]; rfl
theorem arg_acts {r : Reach} {b0 : Nat} {v : Value} {d : DataW H} {p : List MemPlace} (hv : Value.okWide Try.prog w r b0 23 v) (h : DataW.Trod enc Try.prog w base spare held 23 v d p) : ∃ l : List Deed, Sl w v l ∧ (∀ z ∈ l, Sl w z.cv z.Changes) ∧ ∀ z ∈ l, z.Fit := by
  obtain ⟨a, len, cap, rfl⟩ := okWide_slice Try.underlying23 hv
  obtain ⟨m, hm⟩ := h
  obtain ⟨l, h1, h2⟩ := open_list Try.underlying23 cellsDeed (fun z : Deed => Sl w z.cv z.Changes ∧ z.Fit) (fun _ _ _ hl hy => rd_act hl hy) hm
  exact ⟨l, h1, fun z hz => (h2 z hz).1, fun z hz => (h2 z hz).2⟩
theorem arg_u64 {r : Reach} {b0 : Nat} {v : Value} {d : DataW H} {p : List MemPlace} (hv : Value.okWide Try.prog w r b0 45 v) (h : DataW.Trod enc Try.prog w base spare held 45 v d p) : ∃ n, v = .int .u64 n ∧ InU n := by
  obtain ⟨n, hn, _, _, hw⟩ := open_int Try.underlying45 hv h
  exact ⟨n, hn, bounds_u64 hw⟩
theorem arg_change {r : Reach} {b0 : Nat} {v : Value} {d : DataW H} {p : List MemPlace} (hv : Value.okWide Try.prog w r b0 51 v) (h : DataW.Trod enc Try.prog w base spare held 51 v d p) : ∃ x : Change, v = x.val ∧ x.Fit := by
  obtain ⟨cs, rfl, hsz⟩ := okWide_struct Try.underlying51 hv
  obtain ⟨m, hm⟩ := h
  obtain ⟨z, hz, hg⟩ := rd_change (cs := cs.toList) (by simpa using hsz.trans cellsChange) (by simpa [Value.cells] using hm)
  refine ⟨z, ?_, hg⟩
  have : cs = (Enc.cells z).toArray := by rw [← hz]
  rw [this]; rfl
theorem arg_changes {r : Reach} {b0 : Nat} {v : Value} {d : DataW H} {p : List MemPlace} (hv : Value.okWide Try.prog w r b0 46 v) (h : DataW.Trod enc Try.prog w base spare held 46 v d p) : ∃ l : List Change, Sl w v l ∧ ∀ z ∈ l, z.Fit := by
  obtain ⟨a, len, cap, rfl⟩ := okWide_slice Try.underlying46 hv
  obtain ⟨m, hm⟩ := h
  exact open_list Try.underlying46 cellsChange Change.Fit (fun _ _ _ hl hy => rd_change hl hy) hm
end
end Go.Proofs.Ytpipachmngdegaa
end
