/-
  The calculus of walks, on: numbers of other kinds, texts by their bytes, pointers against nil. Plain lemmas over any program.
-/
import Derived.Test.YtbkfhjaibhnkmaaDoorR8
namespace Go.Proofs.YtbkfhjaibhnkmaaDoor
open Go Go.RowKit
set_option linter.unusedVariables false
set_option linter.unusedSimpArgs false

theorem wr_u64 {n r : Int} (h : n = r ∧ 0 ≤ r ∧ r ≤ 18446744073709551615) : IntKind.u64.wrap n = r := by
  obtain ⟨rfl, h1, h2⟩ := h
  have : IntKind.u64.wrap n = n % 18446744073709551616 := rfl
  rw [this]; omega
theorem wr_u8 {n r : Int} (h : n = r ∧ 0 ≤ r ∧ r ≤ 255) : IntKind.u8.wrap n = r := by
  obtain ⟨rfl, h1, h2⟩ := h
  have : IntKind.u8.wrap n = n % 256 := rfl
  rw [this]; omega
theorem wr_u8m {n : Int} : IntKind.u8.wrap n = n % 256 := rfl
theorem shrI {m e D : Int} (h : e = D) (h0 : 0 ≤ D) : m.fdiv e = m / D := by subst h; exact Int.fdiv_eq_ediv_of_nonneg m h0
theorem shrN {m D : Nat} {e : Int} (h : e = ((D : Nat) : Int)) : ((m : Nat) : Int).fdiv e = ((m / D : Nat) : Int) := by
  subst h; rw [Int.fdiv_eq_ediv_of_nonneg _ (by omega)]; rfl
section
variable {P : Program} {n : Nat} {we : World} {X : List Nat} {Q : Exit → Act → World → Prop} {k k' : List It} {L : Fm} {B F : List Res} {ops rest : List Oper}
variable {dst : Option Nat} {d : Nat} {op : Op} {ty : TypeId} {pos : String} {aft : Array Edge} {g : Option (Nat × Bool)} {v : Value}
variable {x y z : Operand} {xT yT t e : TypeId} {kd kd2 : IntKind} {α : Type} [Enc α] {l : List α}
theorem q.cvb {op : Op} {v v' : Value} (h : v = v') (hq : Qt P n we X L B F op ty v) : Qt P n we X L B F op ty v' := h ▸ hq
/-- a byte of a text -/
theorem q.sIdx {s : ByteArray} {m : Int} {i : Nat} {c : UInt8} (hx : ev L x = some (.string s)) (hy : ev L y = some (.int kd m)) (ht : P.underlying xT = some .string) (hm : m = (i : Int)) (hi : s.data[i]? = some c) :
    Qt P n we X L B F (.index xT x y) ty (.int .u8 ((c.toNat : Nat) : Int)) := fun _ _ _ _ a w ha hw => by
  subst hm
  have hlt : i < s.size := (Array.getElem?_eq_some_iff.1 hi).1
  have h2 : s[i] = c := (Array.getElem?_eq_some_iff.1 hi).2
  have := run_index_string (P := P) w xT s kd (i : Int) ht
  simp only [execOp, ha.ev hx, ha.ev hy]
  simp [Instr.index, run_underlying ht, asIntOf, hlt, h2]
/-- a piece of a text -/
theorem q.sSl {s : ByteArray} {m r : Int} {i j : Nat} (hx : ev L x = some (.string s)) (hy : ev L y = some (.int kd m)) (hz : ev L z = some (.int kd2 r)) (ht : P.underlying xT = some .string) (hm : m = (i : Int)) (hr : r = (j : Int)) (hij : i ≤ j) (hj : j ≤ s.size) :
    Qt P n we X L B F (.slice xT x (some y) (some z) none) ty (.string (s.extract i j)) := fun _ _ _ _ a w ha hw => by
  subst hm; subst hr
  have e : (Instr.slice xT (.string s) (some (.int kd (i : Int))) (some (.int kd2 (j : Int))) none).run P w = .ok (.string (s.extract i j)) w := by
    have h1 : (i : Int) ≤ (j : Int) := by omega
    have h2 : (j : Int) ≤ (s.size : Int) := by omega
    simp [Instr.slice, run_underlying ht, Instr.sliceBounds, run_sliceBound, sliced, *]
  simp only [execOp, ha.ev hx, Option.map_some, Option.map_none, ha.ev hy, ha.ev hz, Sem.run_bind, run_sliceAt_string w xT _ _ _ _ ht, e, Result.andThen_ok, Sem.run_pure]
theorem q.sFrom {s : ByteArray} {m : Int} {i : Nat} (hx : ev L x = some (.string s)) (hy : ev L y = some (.int kd m)) (ht : P.underlying xT = some .string) (hm : m = (i : Int)) (hi : i ≤ s.size) :
    Qt P n we X L B F (.slice xT x (some y) none none) ty (.string (s.extract i s.size)) := fun _ _ _ _ a w ha hw => by
  subst hm
  have e := run_slice_string_l (P := P) w xT s ht kd (i : Int) (by omega) (by omega)
  simp only [Int.toNat_natCast] at e
  simp only [execOp, ha.ev hx, Option.map_some, Option.map_none, ha.ev hy, Sem.run_bind, run_sliceAt_string w xT _ _ _ _ ht, e, Result.andThen_ok, Sem.run_pure]
theorem q.sTo {s : ByteArray} {m : Int} {i : Nat} (hx : ev L x = some (.string s)) (hy : ev L y = some (.int kd m)) (ht : P.underlying xT = some .string) (hm : m = (i : Int)) (hi : i ≤ s.size) :
    Qt P n we X L B F (.slice xT x none (some y) none) ty (.string (s.extract 0 i)) := fun _ _ _ _ a w ha hw => by
  subst hm
  have e := run_slice_string_h (P := P) w xT s ht kd (i : Int) (by omega) (by omega)
  simp only [Int.toNat_natCast] at e
  simp only [execOp, ha.ev hx, Option.map_some, Option.map_none, ha.ev hy, Sem.run_bind, run_sliceAt_string w xT _ _ _ _ ht, e, Result.andThen_ok, Sem.run_pure]
/-- texts in order -/
def ltS (a b : ByteArray) : Bool := Op.bytesLess a.toList b.toList
theorem q.lssS {a b : ByteArray} {r : Bool} (hx : ev L x = some (.string a)) (hy : ev L y = some (.string b)) (h : ltS a b = r) : Qt P n we X L B F (.binOp .lss xT x y yT) ty (.bool r) := fun _ _ _ _ q w ha hw => by
  subst h; simp only [execOp, ha.ev hx, ha.ev hy, binOp, Op.stringOp, eqGuard, ltS]; simp
theorem q.leqS {a b : ByteArray} {r : Bool} (hx : ev L x = some (.string a)) (hy : ev L y = some (.string b)) (h : (ltS a b || decide (a = b)) = r) : Qt P n we X L B F (.binOp .leq xT x y yT) ty (.bool r) := fun _ _ _ _ q w ha hw => by
  subst h; simp only [execOp, ha.ev hx, ha.ev hy, binOp, Op.stringOp, eqGuard, ltS, bytes_eq]; simp
/-- a pointer against nil -/
theorem pointee_of {P : Program} {t pT : TypeId} (h : P.underlying t = some (.pointer pT)) : P.underlying t = some (.pointer (P.pointee t)) := by
  simp [Program.pointee, h]
theorem q.eqlP {a : Option Addr} {pT : TypeId} (hx : ev L x = some (.pointer a)) (hy : ev L y = some (.pointer none)) (ht : P.underlying xT = some (.pointer pT)) : Qt P n we X L B F (.binOp .eql xT x y yT) ty (.bool a.isNone) := fun _ _ _ _ q w ha hw => by
  simp only [execOp, ha.ev hx, ha.ev hy, eqGuard_at_pointer, Sem.run_bind, Sem.run_pure, Result.andThen_ok, run_eql_pointer_nil w xT a (pointee_of ht)]
theorem q.neqP {a : Option Addr} {pT : TypeId} (hx : ev L x = some (.pointer a)) (hy : ev L y = some (.pointer none)) (ht : P.underlying xT = some (.pointer pT)) : Qt P n we X L B F (.binOp .neq xT x y yT) ty (.bool (!a.isNone)) := fun _ _ _ _ q w ha hw => by
  simp only [execOp, ha.ev hx, ha.ev hy, eqGuard_at_pointer, Sem.run_bind, Sem.run_pure, Result.andThen_ok, run_neq_pointer_nil w xT a (pointee_of ht)]
/-- a slice against nil -/
def snil (v : Value) : Bool := match v with | .slice A _ _ => A.isNone | _ => true
theorem Sl.snil {w : World} {v : Value} {l : List α} (h : Sl w v l) (hn : YtbkfhjaibhnkmaaDoor.snil v = true) : l = [] := by
  obtain ⟨A, c, rfl, h1, h2, h3⟩ := h
  cases l with
  | nil => rfl
  | cons x l =>
    obtain ⟨b, off, hA, _⟩ := h3 0 x rfl
    simp [YtbkfhjaibhnkmaaDoor.snil, hA] at hn
theorem q.eqlSl {c : Value} (hs : ∀ w, Wd we X B F w → Sl w v l) (hx : ev L x = some v) (hy : ev L (.const c) = some (.slice none 0 0)) (ht : P.underlying xT = some (.slice e)) : Qt P n we X L B F (.binOp .eql xT x (.const c) yT) ty (.bool (snil v)) := fun _ _ _ _ q w ha hw => by
  obtain ⟨A, cc, rfl, h1, h2, h3⟩ := hs w hw
  have hc : c = .slice none 0 0 := by simpa [YtbkfhjaibhnkmaaDoor.ev] using hy
  subst hc
  have he : (Op.equal xT (.slice A l.length cc) (.slice none 0 0)).run P w = .ok A.isNone w := by
    show (Op.equalIn (9999 + 1) xT _ _).run P w = _
    unfold Op.equalIn
    cases A <;> simp [run_underlying ht]
  have hev : q.eval (.const (.slice none 0 0)) = .slice none 0 0 := rfl
  simp only [execOp, ha.ev hx, hev, eqGuard_at_slice, binOp, Sem.run_bind, Sem.run_pure, Result.andThen_ok, he, YtbkfhjaibhnkmaaDoor.snil]
end
end Go.Proofs.YtbkfhjaibhnkmaaDoor
