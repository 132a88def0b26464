import Derived.Test.YtpipachmngdegaaStoreSaysProofG22
import Derived.Test.YtpipachmngdegaaStoreSaysProofG26
import Derived.Test.YtpipachmngdegaaStoreSaysProofG12
section
/-
  Rows that rise and may each be, as a test of one after the other. No program.
-/
namespace Go.Proofs.Ytpipachmngdegaa
open Go
set_option linter.unusedVariables false
def goodAt (l : List Change) (j : Nat) : Bool :=
  match l[j]? with
  | some x => decide (chF x = 0) && !x.Gone && (decide (j = 0) || (match l[j - 1]? with | some y => ltS y.Key x.Key | none => true))
  | none => true
def goodC (l : List Change) : Bool := (List.range l.length).all (goodAt l)
section
variable {l : List Change} {k : Nat} {x y : Change}
theorem goodC_no (hx : l[k]? = some x) (h : goodAt l k = false) : goodC l = false := by
  rw [Bool.eq_false_iff]; intro hg
  have := List.all_eq_true.1 hg k (List.mem_range.2 (List.getElem?_eq_some_iff.1 hx).1)
  rw [h] at this; cases this
theorem goodC_yes (h : ∀ j, j < l.length → goodAt l j = true) : goodC l = true := List.all_eq_true.2 fun j hj => h j (List.mem_range.1 hj)
theorem good_next (h : ∀ j, j < k → goodAt l j = true) (hk : goodAt l k = true) : ∀ j, j < k + 1 → goodAt l j = true := fun j hj => by
  rcases Nat.lt_or_ge j k with h1 | h1
  · exact h j h1
  · have : j = k := by omega
    subst this; exact hk
theorem at_fault (hx : l[k]? = some x) (h : 0 < chF x) : goodAt l k = false := by unfold goodAt; rw [hx]; dsimp only; rw [decide_eq_false (by omega)]; rfl
theorem at_gone (hx : l[k]? = some x) (h : x.Gone = true) : goodAt l k = false := by unfold goodAt; rw [hx]; dsimp only; rw [h]; simp
theorem leq_yes {a b : ByteArray} (h : (ltS a b || decide (a = b)) = true) : ltS b a = false := by
  rcases Bool.or_eq_true_iff.1 h with h | h
  · exact ltS_asymm h
  · have e := of_decide_eq_true h; subst e; exact ltS_irr _
theorem leq_no {a b : ByteArray} (h : (ltS a b || decide (a = b)) = false) : ltS b a = true := by
  obtain ⟨h1, h2⟩ := Bool.or_eq_false_iff.1 h
  exact ltS_le h1 (of_decide_eq_false h2)
theorem at_leq (hx : l[k]? = some x) (hy : l[k - 1]? = some y) (h0 : 0 < k) (h : (ltS x.Key y.Key || decide (x.Key = y.Key)) = true) : goodAt l k = false := by
  unfold goodAt; rw [hx]; dsimp only; rw [hy]; dsimp only; rw [leq_yes h, decide_eq_false (by omega : ¬ k = 0)]; simp
theorem at_yes (hx : l[k]? = some x) (hy : l[k - 1]? = some y) (h1 : chF x = 0) (h2 : x.Gone = false) (h : (ltS x.Key y.Key || decide (x.Key = y.Key)) = false) : goodAt l k = true := by
  unfold goodAt; rw [hx]; dsimp only; rw [hy]; dsimp only; rw [leq_no h, decide_eq_true h1, h2]; simp
theorem at_yes0 (hx : l[k]? = some x) (h0 : k = 0) (h1 : chF x = 0) (h2 : x.Gone = false) : goodAt l k = true := by
  subst h0; unfold goodAt; rw [hx]; dsimp only; rw [decide_eq_true h1, h2]; simp
theorem goodAt_ok (h : goodAt l k = true) (hx : l[k]? = some x) : chF x = 0 ∧ x.Gone = false ∧ ∀ y, 0 < k → l[k - 1]? = some y → ltS y.Key x.Key = true := by
  unfold goodAt at h; rw [hx] at h; dsimp only at h
  simp only [Bool.and_eq_true, Bool.or_eq_true, decide_eq_true_eq, Bool.not_eq_true'] at h
  refine ⟨h.1.1, h.1.2, fun y h0 hy => ?_⟩
  rw [hy] at h; dsimp only at h
  exact h.2.resolve_left (by omega)
theorem goodC_all (h : goodC l = true) : ∀ x ∈ l, chF x = 0 ∧ x.Gone = false := fun x hx => by
  obtain ⟨k, hk⟩ := List.mem_iff_getElem?.1 hx
  have := goodAt_ok (List.all_eq_true.1 h k (List.mem_range.2 (List.getElem?_eq_some_iff.1 hk).1)) hk
  exact ⟨this.1, this.2.1⟩
theorem goodC_rise (h : goodC l = true) : RiseC l := by
  have step : ∀ (d i : Nat) x y, l[i]? = some x → l[i + d + 1]? = some y → ltS x.Key y.Key = true := by
    intro d
    induction d with
    | zero => intro i x y hx hy; exact (goodAt_ok (List.all_eq_true.1 h (i + 0 + 1) (List.mem_range.2 (List.getElem?_eq_some_iff.1 hy).1)) hy).2.2 x (by omega) (by simpa using hx)
    | succ d ih =>
      intro i x y hx hy
      have hlt := (List.getElem?_eq_some_iff.1 hy).1
      have hz : l[i + d + 1]? = some l[i + d + 1] := List.getElem?_eq_getElem (by omega)
      exact ltS_trans (ih i x _ hx hz) ((goodAt_ok (List.all_eq_true.1 h (i + (d + 1) + 1) (List.mem_range.2 hlt)) hy).2.2 _ (by omega) (by rw [show i + (d + 1) + 1 - 1 = i + d + 1 by omega]; exact hz))
  refine List.pairwise_iff_getElem.2 fun i j hi hj hij => ?_
  have e : j = i + (j - i - 1) + 1 := by omega
  exact step (j - i - 1) i _ _ (List.getElem?_eq_getElem hi) (by rw [← e]; exact List.getElem?_eq_getElem hj)
end
end Go.Proofs.Ytpipachmngdegaa
end

section
/-
  A store as plain data: its heads, its rows as bytes, how a disk is formatted, opened, how a deed is committed, how all is laid as a whole. No program.
-/
namespace Go.Proofs.Ytpipachmngdegaa
open Go Go.RowKit
set_option linter.unusedVariables false

structure Hed where
  Epoch : Int
  Side : Int
  Size : Int
  First : Int
  deriving DecidableEq
structure Sto where
  Epoch : Int
  Side : Int
  Size : Int
  First : Int
  L : Lg
  Rows : List Change
def headT (h : Hed) : ByteArray := ⟨#[72]⟩ ++ fourB h.Epoch ++ fourB h.Side ++ fourB h.Size ++ fourB h.First
/-- a number of four bytes -/
def unN (s : ByteArray) : Nat := byteAt s 0 + byteAt s 1 * 256 + byteAt s 2 * 65536 + byteAt s 3 * 16777216
theorem unN_lt (s : ByteArray) : unN s < 4294967296 := by
  have h0 := byteAt_lt s 0; have h1 := byteAt_lt s 1; have h2 := byteAt_lt s 2; have h3 := byteAt_lt s 3
  unfold unN; omega
def headR (s : ByteArray) : Hed := ⟨(unN (s.extract 1 5) : Int), (unN (s.extract 5 9) : Int), (unN (s.extract 9 13) : Int), (unN (s.extract 13 17) : Int)⟩
def headB (s : ByteArray) : Prop := ¬ byteAt s 0 = 72 ∨ 1 < unN (s.extract 5 9) ∨ 2400 < unN (s.extract 9 13) ∨ unN (s.extract 13 17) < 1
instance (s : ByteArray) : Decidable (headB s) := by unfold headB; infer_instance
def headO (s : ByteArray) : Hed := if headB s then ⟨0, 0, 0, 0⟩ else headR s
theorem headO_bad {s : ByteArray} (h : headB s) : headO s = ⟨0, 0, 0, 0⟩ := if_pos h
theorem headO_ok {s : ByteArray} (h : ¬ headB s) : headO s = headR s := if_neg h
theorem headO_in (s : ByteArray) : 0 ≤ (headO s).Epoch ∧ (headO s).Epoch < 4294967296 ∧ 0 ≤ (headO s).Side ∧ (headO s).Side ≤ 1 ∧ 0 ≤ (headO s).Size ∧ (headO s).Size ≤ 2400 ∧ 0 ≤ (headO s).First ∧ (headO s).First < 4294967296 ∧ (¬ (headO s).Epoch = 0 → 1 ≤ (headO s).First) := by
  by_cases h : headB s
  · rw [headO_bad h]; exact ⟨by decide, by decide, by decide, by decide, by decide, by decide, by decide, by decide, fun h => absurd rfl h⟩
  · rw [headO_ok h]
    unfold headB at h
    have h1 := unN_lt (s.extract 1 5); have h4 := unN_lt (s.extract 13 17)
    unfold headR; dsimp only
    refine ⟨?_, ?_, ?_, ?_, ?_, ?_, ?_, ?_, fun _ => ?_⟩ <;> omega
/-! ### a disk is formatted -/
def dThen (s : Dsk × Int) (f : Dsk → Dsk × Int) : Dsk × Int := if s.2 = 0 then f s.1 else s
theorem dThen_go {s : Dsk × Int} {f : Dsk → Dsk × Int} (h : s.2 = 0) : dThen s f = f s.1 := if_pos h
theorem dThen_no {s : Dsk × Int} {f : Dsk → Dsk × Int} (h : ¬ s.2 = 0) : dThen s f = s := if_neg h
def blankL : Nat → Nat → Dsk × Int → Dsk × Int
  | 0, _, s => s
  | k + 1, i, s => if s.2 = 0 then blankL k (i + 1) (dWrite s.1 (i : Int) ⟨#[]⟩) else s
def fmt1 (d : Dsk) : Dsk × Int := blankL (d.Now.length - 102) 102 (dWrite d 0 ⟨#[]⟩)
def fmt2 (d : Dsk) : Dsk × Int := dThen (fmt1 d) dFlush
def fmt3 (d : Dsk) : Dsk × Int := dThen (fmt2 d) fun e => dWrite e 1 (headT ⟨1, 0, 0, 1⟩)
def fmt4 (d : Dsk) : Dsk × Int := dThen (fmt3 d) dFlush
def fmtD (d : Dsk) : Dsk × Int := if d.Now.length < 166 then (d, 9) else fmt4 d
/-! ### rows as bytes -/
def rowB (c : Change) : ByteArray := ⟨#[UInt8.ofNat c.Key.size, UInt8.ofNat c.Val.size, UInt8.ofNat (c.Val.size / 256)]⟩ ++ c.Key ++ c.Val
def allB (l : List Change) : ByteArray := l.foldl (fun b c => b ++ rowB c) ⟨#[]⟩
theorem allB_snoc {l : List Change} {k : Nat} {c : Change} (h : l[k]? = some c) : allB (l.take (k + 1)) = allB (l.take k) ++ rowB c := by
  unfold allB; rw [List.take_add_one, h]; simp
theorem rowB_size (c : Change) : (rowB c).size = 3 + c.Key.size + c.Val.size := by
  unfold rowB; simp only [ByteArray.size_append]; rfl
theorem allB_size {b : ByteArray} {m : Nat} : ∀ (l : List Change) (b : ByteArray), (∀ c ∈ l, chF c = 0) → (l.foldl (fun b c => b ++ rowB c) b).size ≤ b.size + 35 * l.length
  | [], b, h => by simp
  | c :: l, b, h => by
    rw [List.foldl_cons, List.length_cons]
    have h1 := allB_size (b := b) (m := m) l (b ++ rowB c) (fun x hx => h x (List.mem_cons_of_mem _ hx))
    obtain ⟨_, _, h3, h4⟩ := chF_zero (h c (List.mem_cons_self ..))
    rw [ByteArray.size_append, rowB_size] at h1
    omega
theorem allB_le {l : List Change} (h : ∀ c ∈ l, chF c = 0) : (allB l).size ≤ 35 * l.length := by
  have := allB_size (b := ⟨#[]⟩) (m := 0) l ⟨#[]⟩ h
  rw [show (⟨#[]⟩ : ByteArray).size = 0 from rfl, Nat.zero_add] at this
  exact this
/-- how many bytes a row takes; the row -/
def parN (t : ByteArray) : Nat := 3 + byteAt t 0 + byteAt t 1 + 256 * byteAt t 2
def parC (t : ByteArray) : Change := ⟨t.extract 3 (3 + byteAt t 0), t.extract (3 + byteAt t 0) (parN t), false⟩
def parS : Nat → ByteArray → List Change → List Change × Bool
  | 0, _, l => (l, true)
  | k + 1, t, l =>
    if t = ⟨#[]⟩ then (l, true)
    else if t.size < 3 ∨ t.size < parN t then ([], false)
    else if chF (parC t) = 0 then parS k (t.extract (parN t) t.size) (applyR l [parC t]) else ([], false)
def parseB (t : ByteArray) : List Change × Bool := parS (t.size + 1) t []
section
variable {t : ByteArray} {l : List Change} {Z : List Change × Bool} {k : Nat}
theorem par_end (h : parS k t l = Z) (hk : t.size < k) (ht : t = ⟨#[]⟩) : Z = (l, true) := by
  cases k with
  | zero => omega
  | succ k => rw [parS, if_pos ht] at h; exact h.symm
theorem par_bad (h : parS k t l = Z) (hk : t.size < k) (ht : ¬ t = ⟨#[]⟩) (hb : t.size < 3 ∨ t.size < parN t) : Z = ([], false) := by
  cases k with
  | zero => omega
  | succ k => rw [parS, if_neg ht, if_pos hb] at h; exact h.symm
theorem par_fault (h : parS k t l = Z) (hk : t.size < k) (ht : ¬ t = ⟨#[]⟩) (hb : ¬ (t.size < 3 ∨ t.size < parN t)) (hf : ¬ chF (parC t) = 0) : Z = ([], false) := by
  cases k with
  | zero => omega
  | succ k => rw [parS, if_neg ht, if_neg hb, if_neg hf] at h; exact h.symm
theorem par_go (h : parS k t l = Z) (hk : t.size < k) (ht : ¬ t = ⟨#[]⟩) (hb : ¬ (t.size < 3 ∨ t.size < parN t)) (hf : chF (parC t) = 0) :
    parS (k - 1) (t.extract (parN t) t.size) (applyR l [parC t]) = Z ∧ (t.extract (parN t) t.size).size < k - 1 := by
  cases k with
  | zero => omega
  | succ k =>
    rw [parS, if_neg ht, if_neg hb, if_pos hf] at h
    refine ⟨h, ?_⟩
    rw [ByteArray.size_extract]; unfold parN at *; omega
end
/-! ### a store is opened -/
def pick1 (a b : Hed) : Hed := if a.Epoch < b.Epoch then b else a
def headD (d : Dsk) : Hed := pick1 (pick1 ⟨0, 0, 0, 0⟩ (headO (dRead d 0).1)) (headO (dRead d 1).1)
/-- so many sectors, one behind the other -/
def catS (d : Dsk) (f : Int) : Nat → ByteArray
  | 0 => ⟨#[]⟩
  | k + 1 => catS d f k ++ (dRead d (f + (k : Int))).1
def halfD (d : Dsk) : ByteArray := (catS d (2 + (headD d).Side * 50) 50).extract 0 (headD d).Size.toNat
def openF (d : Dsk) : Int := if d.Now.length < 166 then 4 else if (headD d).Epoch = 0 then 4 else if (parseB (halfD d)).2 = true then 0 else 4
def applyD (rows : List Change) (W : List (List Change)) : List Change := W.foldl applyR rows
theorem applyD_snoc {rows : List Change} {W : List (List Change)} {k : Nat} {c : List Change} (h : W[k]? = some c) : applyD rows (W.take (k + 1)) = applyR (applyD rows (W.take k)) c := by
  unfold applyD; rw [List.take_add_one, h]; simp
def openS (d : Dsk) : Sto :=
  ⟨(headD d).Epoch, (headD d).Side, (headD d).Size, (headD d).First, ⟨102, (d.Now.length : Int) - 102, (headD d).First, (opnU d 102 ((d.Now.length : Int) - 102).toNat (headD d).First : Int)⟩,
    applyD (parseB (halfD d)).1 (opnD d 102 ((d.Now.length : Int) - 102).toNat (headD d).First)⟩
/-! ### all is laid as a whole -/
def chunkL (f : Int) (t : ByteArray) : Nat → Nat → Dsk → Dsk × Int
  | 0, _, d => (d, 0)
  | k + 1, i, d =>
    if i * 48 < t.size then
      (if (dWrite d (f + (i : Int)) (t.extract (i * 48) (i * 48 + min 48 (t.size - i * 48)))).2 = 0 then chunkL f t k (i + 1) (dWrite d (f + (i : Int)) (t.extract (i * 48) (i * 48 + min 48 (t.size - i * 48)))).1
       else dWrite d (f + (i : Int)) (t.extract (i * 48) (i * 48 + min 48 (t.size - i * 48))))
    else (d, 0)
def ckH (st : Sto) : Hed := ⟨st.Epoch + 1, 1 - st.Side, ((allB st.Rows).size : Int), st.L.First + st.L.Many⟩
def ck1 (st : Sto) (d : Dsk) : Dsk × Int := chunkL (2 + (1 - st.Side) * 50) (allB st.Rows) ((allB st.Rows).size + 1) 0 d
def ck2 (st : Sto) (d : Dsk) : Dsk × Int := dThen (ck1 st d) dFlush
def ck3 (st : Sto) (d : Dsk) : Dsk × Int := dThen (ck2 st d) fun e => dWrite e ((st.Epoch + 1) % 2) (headT (ckH st))
def ck4 (st : Sto) (d : Dsk) : Dsk × Int := dThen (ck3 st d) dFlush
def ckO (st : Sto) (d : Dsk) : Sto :=
  ⟨st.Epoch + 1, 1 - st.Side, ((allB st.Rows).size : Int), st.L.First + st.L.Many, ⟨102, (d.Now.length : Int) - 102, st.L.First + st.L.Many, (opnU d 102 ((d.Now.length : Int) - 102).toNat (st.L.First + st.L.Many) : Int)⟩, st.Rows⟩
def ckS (st : Sto) (d : Dsk) : Sto × Dsk × Int := if (ck4 st d).2 = 0 then (ckO st (ck4 st d).1, (ck4 st d).1, 0) else (st, ck4 st d)
/-! ### a deed is committed -/
def comF (st : Sto) (n : Nat) (l : List Change) : Int :=
  if 62 < l.length then 2 else if ¬ chFs l = 0 then chFs l else if 60 < (applyR st.Rows l).length ∨ (n : Int) - 102 < (l.length : Int) + 1 then 9 else 0
def comP (st : Sto) (d : Dsk) (l : List Change) : Sto × Dsk × Int := if st.L.Many - st.L.Next < (l.length : Int) + 1 then ckS st d else (st, d, 0)
def withL (st : Sto) (lg : Lg) (rows : List Change) : Sto := ⟨st.Epoch, st.Side, st.Size, st.First, lg, rows⟩
def comA (st st0 : Sto) (d : Dsk) (l : List Change) : Sto × Dsk × Int :=
  if (addL st.L d l).2.2 = 0 then (withL st (addL st.L d l).1 (applyR st0.Rows l), (addL st.L d l).2.1, 0) else (withL st (addL st.L d l).1 st.Rows, (addL st.L d l).2.1, (addL st.L d l).2.2)
def comS (st : Sto) (d : Dsk) (l : List Change) : Sto × Dsk × Int :=
  if ¬ comF st d.Now.length l = 0 then (st, d, comF st d.Now.length l)
  else if ¬ (comP st d l).2.2 = 0 then comP st d l
  else comA (comP st d l).1 st (comP st d l).2.1 l
end Go.Proofs.Ytpipachmngdegaa
end

section
/-
  Numbers out of bytes: shifted, and put together.
-/
namespace Go.Proofs.Ytpipachmngdegaa
open Go Go.RowKit

theorem shlN {a b : Nat} (D : Nat) (hD : 2 ^ (min b IntKind.i64.bits) = D) (h : a * D < 9223372036854775808) : IntKind.i64.wrap (((a : Nat) : Int) * 2 ^ (min b IntKind.i64.bits)) = ((a * D : Nat) : Int) := by
  have e : ((2 : Int) ^ (min b IntKind.i64.bits)) = (D : Int) := by rw [← hD]; simp
  rw [e, ← Int.natCast_mul]
  exact wr (by omega)
theorem or_nat {a b : Nat} (k : Nat) (ha : a < 2 ^ k) : a ||| (b * 2 ^ k) = a + b * 2 ^ k := by
  have h := Nat.shiftLeft_add_eq_or_of_lt ha b
  rw [Nat.shiftLeft_eq] at h
  rw [Nat.or_comm, ← h, Nat.add_comm]
theorem orN {a b : Nat} (k : Nat) (D : Nat) (hD : 2 ^ k = D) (ha : a < D) (h : a + b * D < 9223372036854775808) : bits .or .i64 ((a : Nat) : Int) ((b * D : Nat) : Int) = ((a + b * D : Nat) : Int) := by
  subst hD
  have e := or_nat (b := b) k ha
  have key : ∀ x : Nat, x < 9223372036854775808 → (BitVec.ofInt 64 (x : Int)).toNat = x := fun x hx => by
    rw [BitVec.toNat_ofInt]; omega
  unfold bits
  show IntKind.i64.wrap ((BitVec.ofInt 64 (a : Int) ||| BitVec.ofInt 64 ((b * 2 ^ k : Nat) : Int)).toNat : Int) = _
  rw [BitVec.toNat_or, key a (by omega), key (b * 2 ^ k) (by omega), e]
  exact wr (by omega)
end Go.Proofs.Ytpipachmngdegaa
end
