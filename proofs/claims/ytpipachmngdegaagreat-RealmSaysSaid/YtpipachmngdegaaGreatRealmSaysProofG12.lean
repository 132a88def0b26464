import Derived.Test.YtpipachmngdegaaGreatRealmSaysProofG11
import Derived.Test.YtpipachmngdegaaGreatRealmSaysProofG3
section
/-
  The calculus of walks, on: numbers of other kinds, texts by their bytes, pointers against nil. Plain lemmas over any program.
-/
namespace Go.Proofs.YtpipachmngdegaaGreat
open Go Go.RowKit
set_option linter.unusedVariables false
set_option linter.unusedSimpArgs false

theorem wr_u64 {n r : Int} (h : n = r ∧ 0 ≤ r ∧ r ≤ 18446744073709551615) : IntKind.u64.wrap n = r := by
  obtain ⟨rfl, h1, h2⟩ := h
  have : IntKind.u64.wrap n = n % 18446744073709551616 := rfl
  rw [this]; omega
theorem wr_u8 {n r : Int} (h : n = r ∧ 0 ≤ r ∧ r ≤ 255) : IntKind.u8.wrap n = r := by
  obtain ⟨rfl, h1, h2⟩ := h
  have : IntKind.u8.wrap n = n % 256 := rfl
  rw [this]; omega
theorem wr_u8m {n : Int} : IntKind.u8.wrap n = n % 256 := rfl
theorem shrI {m e D : Int} (h : e = D) (h0 : 0 ≤ D) : m.fdiv e = m / D := by subst h; exact Int.fdiv_eq_ediv_of_nonneg m h0
theorem shrN {m D : Nat} {e : Int} (h : e = ((D : Nat) : Int)) : ((m : Nat) : Int).fdiv e = ((m / D : Nat) : Int) := by
  subst h; rw [Int.fdiv_eq_ediv_of_nonneg _ (by omega)]; rfl
section
variable {P : Program} {n : Nat} {we : World} {X : List Nat} {Q : Exit → Act → World → Prop} {k k' : List It} {L : Fm} {B F : List Res} {ops rest : List Oper}
variable {dst : Option Nat} {d : Nat} {op : Op} {ty : TypeId} {pos : String} {aft : Array Edge} {g : Option (Nat × Bool)} {v : Value}
variable {x y z : Operand} {xT yT t e : TypeId} {kd kd2 : IntKind} {α : Type} [Enc α] {l : List α}
theorem q.cvb {op : Op} {v v' : Value} (h : v = v') (hq : Qt P n we X L B F op ty v) : Qt P n we X L B F op ty v' := h ▸ hq
/-- a byte of a text -/
theorem q.sIdx {s : ByteArray} {m : Int} {i : Nat} {c : UInt8} (hx : ev L x = some (.string s)) (hy : ev L y = some (.int kd m)) (ht : P.underlying xT = some .string) (hm : m = (i : Int)) (hi : s.data[i]? = some c) :
    Qt P n we X L B F (.index xT x y) ty (.int .u8 ((c.toNat : Nat) : Int)) := fun _ _ _ _ a w ha hw => by
  subst hm
  have hlt : i < s.size := (Array.getElem?_eq_some_iff.1 hi).1
  have h2 : s[i] = c := (Array.getElem?_eq_some_iff.1 hi).2
  have := run_index_string (P := P) w xT s kd (i : Int) ht
  simp only [execOp, ha.ev hx, ha.ev hy]
  simp [Instr.index, run_underlying ht, asIntOf, hlt, h2]
/-- a piece of a text -/
theorem q.sSl {s : ByteArray} {m r : Int} {i j : Nat} (hx : ev L x = some (.string s)) (hy : ev L y = some (.int kd m)) (hz : ev L z = some (.int kd2 r)) (ht : P.underlying xT = some .string) (hm : m = (i : Int)) (hr : r = (j : Int)) (hij : i ≤ j) (hj : j ≤ s.size) :
    Qt P n we X L B F (.slice xT x (some y) (some z) none) ty (.string (s.extract i j)) := fun _ _ _ _ a w ha hw => by
  subst hm; subst hr
  have e : (Instr.slice xT (.string s) (some (.int kd (i : Int))) (some (.int kd2 (j : Int))) none).run P w = .ok (.string (s.extract i j)) w := by
    have h1 : (i : Int) ≤ (j : Int) := by omega
    have h2 : (j : Int) ≤ (s.size : Int) := by omega
    simp [Instr.slice, run_underlying ht, Instr.sliceBounds, run_sliceBound, sliced, *]
  simp only [execOp, ha.ev hx, Option.map_some, Option.map_none, ha.ev hy, ha.ev hz, Sem.run_bind, run_sliceAt_string w xT _ _ _ _ ht, e, Result.andThen_ok, Sem.run_pure]
theorem q.sFrom {s : ByteArray} {m : Int} {i : Nat} (hx : ev L x = some (.string s)) (hy : ev L y = some (.int kd m)) (ht : P.underlying xT = some .string) (hm : m = (i : Int)) (hi : i ≤ s.size) :
    Qt P n we X L B F (.slice xT x (some y) none none) ty (.string (s.extract i s.size)) := fun _ _ _ _ a w ha hw => by
  subst hm
  have e := run_slice_string_l (P := P) w xT s ht kd (i : Int) (by omega) (by omega)
  simp only [Int.toNat_natCast] at e
  simp only [execOp, ha.ev hx, Option.map_some, Option.map_none, ha.ev hy, Sem.run_bind, run_sliceAt_string w xT _ _ _ _ ht, e, Result.andThen_ok, Sem.run_pure]
theorem q.sTo {s : ByteArray} {m : Int} {i : Nat} (hx : ev L x = some (.string s)) (hy : ev L y = some (.int kd m)) (ht : P.underlying xT = some .string) (hm : m = (i : Int)) (hi : i ≤ s.size) :
    Qt P n we X L B F (.slice xT x none (some y) none) ty (.string (s.extract 0 i)) := fun _ _ _ _ a w ha hw => by
  subst hm
  have e := run_slice_string_h (P := P) w xT s ht kd (i : Int) (by omega) (by omega)
  simp only [Int.toNat_natCast] at e
  simp only [execOp, ha.ev hx, Option.map_some, Option.map_none, ha.ev hy, Sem.run_bind, run_sliceAt_string w xT _ _ _ _ ht, e, Result.andThen_ok, Sem.run_pure]
/-- texts in order -/
def ltS (a b : ByteArray) : Bool := Op.bytesLess a.toList b.toList
theorem q.lssS {a b : ByteArray} {r : Bool} (hx : ev L x = some (.string a)) (hy : ev L y = some (.string b)) (h : ltS a b = r) : Qt P n we X L B F (.binOp .lss xT x y yT) ty (.bool r) := fun _ _ _ _ q w ha hw => by
  subst h; simp only [execOp, ha.ev hx, ha.ev hy, binOp, Op.stringOp, eqGuard, ltS]; simp
theorem q.leqS {a b : ByteArray} {r : Bool} (hx : ev L x = some (.string a)) (hy : ev L y = some (.string b)) (h : (ltS a b || decide (a = b)) = r) : Qt P n we X L B F (.binOp .leq xT x y yT) ty (.bool r) := fun _ _ _ _ q w ha hw => by
  subst h; simp only [execOp, ha.ev hx, ha.ev hy, binOp, Op.stringOp, eqGuard, ltS, bytes_eq]; simp
/-- a pointer against nil -/
theorem pointee_of {P : Program} {t pT : TypeId} (h : P.underlying t = some (.pointer pT)) : P.underlying t = some (.pointer (P.pointee t)) := by
  simp [Program.pointee, h]
theorem q.eqlP {a : Option Addr} {pT : TypeId} (hx : ev L x = some (.pointer a)) (hy : ev L y = some (.pointer none)) (ht : P.underlying xT = some (.pointer pT)) : Qt P n we X L B F (.binOp .eql xT x y yT) ty (.bool a.isNone) := fun _ _ _ _ q w ha hw => by
  simp only [execOp, ha.ev hx, ha.ev hy, eqGuard_at_pointer, Sem.run_bind, Sem.run_pure, Result.andThen_ok, run_eql_pointer_nil w xT a (pointee_of ht)]
theorem q.neqP {a : Option Addr} {pT : TypeId} (hx : ev L x = some (.pointer a)) (hy : ev L y = some (.pointer none)) (ht : P.underlying xT = some (.pointer pT)) : Qt P n we X L B F (.binOp .neq xT x y yT) ty (.bool (!a.isNone)) := fun _ _ _ _ q w ha hw => by
  simp only [execOp, ha.ev hx, ha.ev hy, eqGuard_at_pointer, Sem.run_bind, Sem.run_pure, Result.andThen_ok, run_neq_pointer_nil w xT a (pointee_of ht)]
/-- a slice against nil -/
def snil (v : Value) : Bool := match v with | .slice A _ _ => A.isNone | _ => true
theorem Sl.snil {w : World} {v : Value} {l : List α} (h : Sl w v l) (hn : YtpipachmngdegaaGreat.snil v = true) : l = [] := by
  obtain ⟨A, c, rfl, h1, h2, h3⟩ := h
  cases l with
  | nil => rfl
  | cons x l =>
    obtain ⟨b, off, hA, _⟩ := h3 0 x rfl
    simp [YtpipachmngdegaaGreat.snil, hA] at hn
theorem q.eqlSl {c : Value} (hs : ∀ w, Wd we X B F w → Sl w v l) (hx : ev L x = some v) (hy : ev L (.const c) = some (.slice none 0 0)) (ht : P.underlying xT = some (.slice e)) : Qt P n we X L B F (.binOp .eql xT x (.const c) yT) ty (.bool (snil v)) := fun _ _ _ _ q w ha hw => by
  obtain ⟨A, cc, rfl, h1, h2, h3⟩ := hs w hw
  have hc : c = .slice none 0 0 := by simpa [YtpipachmngdegaaGreat.ev] using hy
  subst hc
  have he : (Op.equal xT (.slice A l.length cc) (.slice none 0 0)).run P w = .ok A.isNone w := by
    show (Op.equalIn (9999 + 1) xT _ _).run P w = _
    unfold Op.equalIn
    cases A <;> simp [run_underlying ht]
  have hev : q.eval (.const (.slice none 0 0)) = .slice none 0 0 := rfl
  simp only [execOp, ha.ev hx, hev, eqGuard_at_slice, binOp, Sem.run_bind, Sem.run_pure, Result.andThen_ok, he, YtpipachmngdegaaGreat.snil]
end
end Go.Proofs.YtpipachmngdegaaGreat
end

section
/-
  An act of the laws as plain data (its changes lie in a slice of their own), and what is told of it.
-/
namespace Go.Proofs.YtpipachmngdegaaGreat
open Go Go.RowKit
set_option linter.unusedVariables false

structure Deed where
  Kind : ByteArray
  S : ByteArray
  P : Place
  Q : Place
  A : Int
  B : Int
  N : Int
  K : Int
  ca : Option Addr
  cn : Nat
  cc : Nat
  Changes : List Change
abbrev Deed.cv (x : Deed) : Value := .slice x.ca x.cn x.cc
abbrev Deed.cs (x : Deed) : List Value := [.string x.Kind, .string x.S, .int .i64 x.P.Holder, .int .i64 x.P.Slot, .int .i64 x.Q.Holder, .int .i64 x.Q.Slot, .int .i64 x.A, .int .i64 x.B, .int .i64 x.N, .int .u64 x.K, x.cv]
abbrev Deed.val (x : Deed) : Value := .agg #[.string x.Kind, .string x.S, .int .i64 x.P.Holder, .int .i64 x.P.Slot, .int .i64 x.Q.Holder, .int .i64 x.Q.Slot, .int .i64 x.A, .int .i64 x.B, .int .i64 x.N, .int .u64 x.K, x.cv]
instance : Enc Deed := ⟨11, Deed.cs, fun _ => rfl, fun x u hu => by simp [Deed.cs] at hu; rcases hu with rfl | rfl | rfl | rfl | rfl | rfl | rfl | rfl | rfl | rfl | rfl <;> rfl, by decide⟩

/-- the changes of all acts read as what they are -/
def Res.acts (l : List Deed) : Res := ⟨l.flatMap (fun x => (Res.ls x.cv x.Changes).blk), fun w => ∀ x ∈ l, Sl w x.cv x.Changes, fun w w' h hs x hx => (Res.ls x.cv x.Changes).loc w w' (fun k hk => h k (List.mem_flatMap.2 ⟨x, hx, hk⟩)) (hs x hx)⟩
theorem acts_lt {w : World} {l : List Deed} (h : ∀ x ∈ l, Sl w x.cv x.Changes) : ∀ k ∈ (Res.acts l).blk, k < w.heap.size := fun k hk => by
  obtain ⟨x, hx, hk⟩ := List.mem_flatMap.1 hk
  exact ls_lt (h x hx) k hk
theorem acts_one {w : World} {x : Deed} (h : Sl w x.cv x.Changes) : ∀ y ∈ [x], Sl w y.cv y.Changes := fun y hy => by
  rw [List.mem_singleton.1 hy]; exact h
theorem Wd.acts {we w : World} {X : List Nat} {B F : List Res} {l : List Deed} (i : Nat) (h : F[i]? = some (Res.acts l)) (hw : Wd we X B F w) : ∀ x ∈ l, Sl w x.cv x.Changes := hw.f i h
theorem Wd.actX {we w : World} {X : List Nat} {B F : List Res} {l : List Deed} {x : Deed} (i : Nat) (h : F[i]? = some (Res.acts l)) (hx : x ∈ l) (hw : Wd we X B F w) : Sl w x.cv x.Changes := hw.f i h x hx
theorem act_blk {l : List Deed} {x : Deed} (hx : x ∈ l) : ∀ k ∈ (Res.ls x.cv x.Changes).blk, k ∈ (Res.acts l).blk := fun k hk => List.mem_flatMap.2 ⟨x, hx, hk⟩
end Go.Proofs.YtpipachmngdegaaGreat
end

section
/-
  The readings of a change, and of an act, out of their cells.
-/
namespace Go.Proofs.YtpipachmngdegaaGreat
open Go.ChangeShapes Go.WideShapes Go.ChangeAt Go.RowKit Go.Deep
set_option linter.unusedVariables false
set_option maxRecDepth 100000
def Change.Fit (x : Change) : Prop := x.Key.size ≤ maxLen ∧ x.Val.size ≤ maxLen
def InU (n : Int) : Prop := 0 ≤ n ∧ n ≤ 18446744073709551615
def Deed.Fit (x : Deed) : Prop := x.Kind.size ≤ maxLen ∧ x.S.size ≤ maxLen ∧ x.P.Fit ∧ x.Q.Fit ∧ InI x.A ∧ InI x.B ∧ InI x.N ∧ InU x.K ∧ ∀ z ∈ x.Changes, z.Fit
section
variable {H : Type} {enc : TypeId × Value → H} {w : World} {base : Nat} {spare : Nat → Bool} {held : Bool}
theorem cellsString : Tryz.prog.cellsOf 9 = 1 := by kernel_rfl
theorem cellsBool : Tryz.prog.cellsOf 4 = 1 := by kernel_rfl
theorem cellsU64 : Tryz.prog.cellsOf 34 = 1 := by kernel_rfl
theorem cellsChange : Tryz.prog.cellsOf 106 = 3 := by kernel_rfl
theorem cellsChanges : Tryz.prog.cellsOf 35 = 1 := by kernel_rfl
theorem cellsDeed : Tryz.prog.cellsOf 37 = 11 := by kernel_rfl
theorem rd_str {m : Nat} {c : Value} {y : DataW H × List MemPlace} (h : DataW.trod enc Tryz.prog w base spare held m 9 [c] = some y) : ∃ s, c = .string s ∧ s.size ≤ maxLen := by
  obtain ⟨s, hs, _, hw⟩ := DataW.trod_string Tryz.underlying9 h
  injection hs with hs _
  exact ⟨s, hs, hw⟩
theorem rd_bool {m : Nat} {c : Value} {y : DataW H × List MemPlace} (h : DataW.trod enc Tryz.prog w base spare held m 4 [c] = some y) : ∃ b, c = .bool b := by
  obtain ⟨b, hs, _⟩ := DataW.trod_bool Tryz.underlying4 h
  injection hs with hs _
  exact ⟨b, hs⟩
theorem rd_u64 {m : Nat} {c : Value} {y : DataW H × List MemPlace} (h : DataW.trod enc Tryz.prog w base spare held m 34 [c] = some y) : ∃ n, c = .int .u64 n ∧ InU n := by
  obtain ⟨n, hn, _, hw⟩ := DataW.trod_int Tryz.underlying34 h
  injection hn with hn _
  exact ⟨n, hn, bounds_u64 hw⟩
theorem rd_change {m : Nat} {cs : List Value} {y : DataW H × List MemPlace} (hl : cs.length = 3) (h : DataW.trod enc Tryz.prog w base spare held m 106 cs = some y) : ∃ z : Change, cs = Enc.cells z ∧ z.Fit := by
  match cs, hl with
  | [c0, c1, c2], _ =>
    obtain ⟨xs, n, _, _, _, hlen, hf⟩ := DataW.trod_struct Tryz.underlying106 h
    match xs, hlen with
    | [y0, y1, y2], _ =>
      have g0 := field_of hf 0 _ rfl 9 0 1 rfl rfl cellsString; have g1 := field_of hf 1 _ rfl 9 1 1 rfl rfl cellsString; have g2 := field_of hf 2 _ rfl 4 2 1 rfl rfl cellsBool
      obtain ⟨n0, rfl, w0⟩ := rd_str (c := c0) (by simpa using g0)
      obtain ⟨n1, rfl, w1⟩ := rd_str (c := c1) (by simpa using g1)
      obtain ⟨n2, rfl⟩ := rd_bool (c := c2) (by simpa using g2)
      exact ⟨⟨n0, n1, n2⟩, rfl, w0, w1⟩
theorem rd_act {m : Nat} {cs : List Value} {y : DataW H × List MemPlace} (hl : cs.length = 11) (h : DataW.trod enc Tryz.prog w base spare held m 37 cs = some y) : ∃ z : Deed, cs = Enc.cells z ∧ (Sl w z.cv z.Changes ∧ z.Fit) := by
  match cs, hl with
  | [c0, c1, c2, c3, c4, c5, c6, c7, c8, c9, c10], _ =>
    obtain ⟨xs, n, _, _, _, hlen, hf⟩ := DataW.trod_struct Tryz.underlying37 h
    match xs, hlen with
    | [y0, y1, y2, y3, y4, y5, y6, y7, y8], _ =>
      have g0 := field_of hf 0 _ rfl 9 0 1 rfl rfl cellsString; have g1 := field_of hf 1 _ rfl 9 1 1 rfl rfl cellsString
      have g2 := field_of hf 2 _ rfl 33 2 2 rfl rfl cellsPlace; have g3 := field_of hf 3 _ rfl 33 4 2 rfl rfl cellsPlace
      have g4 := field_of hf 4 _ rfl 3 6 1 rfl rfl cellsInt; have g5 := field_of hf 5 _ rfl 3 7 1 rfl rfl cellsInt; have g6 := field_of hf 6 _ rfl 3 8 1 rfl rfl cellsInt
      have g7 := field_of hf 7 _ rfl 34 9 1 rfl rfl cellsU64; have g8 := field_of hf 8 _ rfl 35 10 1 rfl rfl cellsChanges
      obtain ⟨n0, rfl, w0⟩ := rd_str (c := c0) (by simpa using g0)
      obtain ⟨n1, rfl, w1⟩ := rd_str (c := c1) (by simpa using g1)
      obtain ⟨z0, e0, w2⟩ := rd_place (cs := [c2, c3]) rfl (by simpa using g2)
      simp only [List.cons.injEq, and_true] at e0
      obtain ⟨rfl, rfl⟩ := e0
      obtain ⟨z1, e1, w3⟩ := rd_place (cs := [c4, c5]) rfl (by simpa using g3)
      simp only [List.cons.injEq, and_true] at e1
      obtain ⟨rfl, rfl⟩ := e1
      obtain ⟨n4, rfl, w4⟩ := rd_int (c := c6) (by simpa using g4)
      obtain ⟨n5, rfl, w5⟩ := rd_int (c := c7) (by simpa using g5)
      obtain ⟨n6, rfl, w6⟩ := rd_int (c := c8) (by simpa using g6)
      obtain ⟨n7, rfl, w7⟩ := rd_u64 (c := c9) (by simpa using g7)
      obtain ⟨l, hs, hg⟩ := open_list (v := c10) Tryz.underlying35 cellsChange Change.Fit (fun _ _ _ hl hy => rd_change hl hy) (by simpa using g8)
      have hs' := hs
      obtain ⟨A, c, rfl, _⟩ := hs
      exact ⟨⟨n0, n1, z0, z1, n4, n5, n6, n7, A, l.length, c, l⟩, rfl, hs', w0, w1, w2, w3, w4, w5, w6, w7, hg⟩
theorem arg_act {r : Reach} {b0 : Nat} {v : Value} {d : DataW H} {p : List MemPlace} (hv : Value.okWide Tryz.prog w r b0 37 v) (h : DataW.Trod enc Tryz.prog w base spare held 37 v d p) : ∃ x : Deed, v = x.val ∧ Sl w x.cv x.Changes ∧ x.Fit := by
  obtain ⟨cs, rfl, hsz⟩ := okWide_struct Tryz.underlying37 hv
  obtain ⟨m, hm⟩ := h
  obtain ⟨z, hz, hg⟩ := rd_act (cs := cs.toList) (by simpa using hsz.trans cellsDeed) (by simpa [Value.cells] using hm)
  refine ⟨z, ?_, hg⟩
  have : cs = (Enc.cells z).toArray := by rw [← hz]
  rw [this]; rfl
theorem arg_acts {r : Reach} {b0 : Nat} {v : Value} {d : DataW H} {p : List MemPlace} (hv : Value.okWide Tryz.prog w r b0 22 v) (h : DataW.Trod enc Tryz.prog w base spare held 22 v d p) : ∃ l : List Deed, Sl w v l ∧ (∀ z ∈ l, Sl w z.cv z.Changes) ∧ ∀ z ∈ l, z.Fit := by
  obtain ⟨a, len, cap, rfl⟩ := okWide_slice Tryz.underlying22 hv
  obtain ⟨m, hm⟩ := h
  obtain ⟨l, h1, h2⟩ := open_list Tryz.underlying22 cellsDeed (fun z : Deed => Sl w z.cv z.Changes ∧ z.Fit) (fun _ _ _ hl hy => rd_act hl hy) hm
  exact ⟨l, h1, fun z hz => (h2 z hz).1, fun z hz => (h2 z hz).2⟩
theorem arg_u64 {r : Reach} {b0 : Nat} {v : Value} {d : DataW H} {p : List MemPlace} (hv : Value.okWide Tryz.prog w r b0 34 v) (h : DataW.Trod enc Tryz.prog w base spare held 34 v d p) : ∃ n, v = .int .u64 n ∧ InU n := by
  obtain ⟨n, hn, _, _, hw⟩ := open_int Tryz.underlying34 hv h
  exact ⟨n, hn, bounds_u64 hw⟩
theorem arg_change {r : Reach} {b0 : Nat} {v : Value} {d : DataW H} {p : List MemPlace} (hv : Value.okWide Tryz.prog w r b0 106 v) (h : DataW.Trod enc Tryz.prog w base spare held 106 v d p) : ∃ x : Change, v = x.val ∧ x.Fit := by
  obtain ⟨cs, rfl, hsz⟩ := okWide_struct Tryz.underlying106 hv
  obtain ⟨m, hm⟩ := h
  obtain ⟨z, hz, hg⟩ := rd_change (cs := cs.toList) (by simpa using hsz.trans cellsChange) (by simpa [Value.cells] using hm)
  refine ⟨z, ?_, hg⟩
  have : cs = (Enc.cells z).toArray := by rw [← hz]
  rw [this]; rfl
theorem arg_changes {r : Reach} {b0 : Nat} {v : Value} {d : DataW H} {p : List MemPlace} (hv : Value.okWide Tryz.prog w r b0 35 v) (h : DataW.Trod enc Tryz.prog w base spare held 35 v d p) : ∃ l : List Change, Sl w v l ∧ ∀ z ∈ l, z.Fit := by
  obtain ⟨a, len, cap, rfl⟩ := okWide_slice Tryz.underlying35 hv
  obtain ⟨m, hm⟩ := h
  exact open_list Tryz.underlying35 cellsChange Change.Fit (fun _ _ _ hl hy => rd_change hl hy) hm
end
end Go.Proofs.YtpipachmngdegaaGreat
end
