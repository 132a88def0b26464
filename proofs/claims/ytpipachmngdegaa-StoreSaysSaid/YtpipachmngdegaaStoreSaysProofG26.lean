import Derived.Test.YtpipachmngdegaaStoreSaysProofG24
import Derived.Test.YtpipachmngdegaaStoreSaysProofG25
section
/-
  A log as plain data: looking at a sector, opening a log, adding a deed. No program.
-/
namespace Go.Proofs.Ytpipachmngdegaa
open Go Go.RowKit
set_option linter.unusedVariables false

structure ChB where
  C : List Change
structure IntB where
  E : Int
def lookB (s : ByteArray) (n : Int) : Bool := decide (s.extract 1 5 = fourB n) && (decide (byteAt s 0 = 111) || decide (byteAt s 0 = 99)) && decide (lenB s ≤ 41)
def lookK (s : ByteArray) (n : Int) : Nat := if lookB s n = true then byteAt s 0 else 0
def lookX (s : ByteArray) (n : Int) : ByteArray := if lookB s n = true then txtB s else ⟨#[]⟩
section
variable {s : ByteArray} {n k : Int}
theorem look_no1 (h : ¬ s.extract 1 5 = fourB n) : lookB s n = false := by unfold lookB; simp [h]
theorem look_no2 (h : ¬ byteAt s 0 = 111) (h' : ¬ byteAt s 0 = 99) : lookB s n = false := by unfold lookB; simp [h, h']
theorem look_no3 (h : 41 < lenB s) : lookB s n = false := by unfold lookB; simp; intros; omega
theorem look_yes (h : s.extract 1 5 = fourB n) (h' : byteAt s 0 = 111 ∨ byteAt s 0 = 99) (hl : lenB s ≤ 41) : lookB s n = true := by
  unfold lookB; rcases h' with h' | h' <;> simp [h, h', hl]
theorem look_none (h : lookB s n = false) : lookK s n = 0 ∧ lookX s n = ⟨#[]⟩ := by unfold lookK lookX; simp [h]
theorem look_some (h : lookB s n = true) : lookK s n = byteAt s 0 ∧ lookX s n = txtB s := by unfold lookK lookX; simp [h]
theorem look_parts (h : lookB s n = true) : s.extract 1 5 = fourB n ∧ (byteAt s 0 = 111 ∨ byteAt s 0 = 99) ∧ lenB s ≤ 41 := by
  unfold lookB at h; simpa [and_assoc] using h
theorem look_C (h : lookB s n = true) (hk : lookK s n = 99) (hx : lookX s n = fourB k) : isC s n k = true := by
  obtain ⟨h1, h2, h3⟩ := look_parts h
  obtain ⟨e1, e2⟩ := look_some h
  unfold isC; simp [h1, h3, ← e1, hk, ← e2, hx]
theorem look_noB (h : lookB s n = false) : isC s n k = false ∧ isO s n = false := by
  constructor
  · rw [Bool.eq_false_iff]; intro hc
    unfold isC at hc; simp only [Bool.and_eq_true, decide_eq_true_eq] at hc
    rw [look_yes hc.1.1.1 (.inr hc.1.2) hc.1.1.2] at h; cases h
  · rw [Bool.eq_false_iff]; intro hc
    unfold isO at hc; simp only [Bool.and_eq_true, decide_eq_true_eq] at hc
    rw [look_yes hc.1.1.1 (.inl hc.1.2) hc.1.1.2] at h; cases h
theorem look_noC (h : lookB s n = true) (hk : lookK s n = 99) (hx : ¬ lookX s n = fourB k) : isC s n k = false ∧ isO s n = false := by
  obtain ⟨e1, e2⟩ := look_some h
  refine ⟨?_, isO_not (by rw [← e1, hk]; decide)⟩
  unfold isC; simp [← e2, hx]
theorem look_O (h : lookB s n = true) (hk : ¬ lookK s n = 99) (hp : (chP (lookX s n)).2 = 0) : isC s n k = false ∧ isO s n = true ∧ lookX s n = txtB s := by
  obtain ⟨h1, h2, h3⟩ := look_parts h
  obtain ⟨e1, e2⟩ := look_some h
  have h4 : ¬ byteAt s 0 = 99 := by rw [← e1]; exact hk
  have h5 : byteAt s 0 = 111 := h2.resolve_right h4
  refine ⟨isC_not h4, ?_, e2⟩
  unfold isO; simp [h1, h3, h5, ← e2, hp]
theorem look_noO (h : lookB s n = true) (hk : ¬ lookK s n = 99) (hp : ¬ (chP (lookX s n)).2 = 0) : isC s n k = false ∧ isO s n = false := by
  obtain ⟨e1, e2⟩ := look_some h
  refine ⟨isC_not (by rw [← e1]; exact hk), ?_⟩
  unfold isO; simp [← e2, hp]
theorem lookX_size (hs : s.size = 48) : (lookX s n).size ≤ 48 := by
  unfold lookX txtB; split
  · rw [ByteArray.size_extract]; omega
  · decide
end
/-- the sectors of a part of a disk -/
def regS (d : Dsk) (frm : Int) (many : Nat) : List ByteArray := (List.range many).map fun (i : Nat) => (dRead d (frm + (i : Int))).1
theorem regS_len (d : Dsk) (frm : Int) (many : Nat) : (regS d frm many).length = many := by simp [regS]
theorem regS_at {d : Dsk} {frm : Int} {many i : Nat} (h : i < many) : (regS d frm many)[i]? = some ((dRead d (frm + (i : Int))).1) := by
  simp [regS, h]
/-- what a log that is opened has -/
def opnD (d : Dsk) (frm : Int) (many : Nat) (first : Int) : List (List Change) := (scan (regS d frm many) first).1
def opnU (d : Dsk) (frm : Int) (many : Nat) (first : Int) : Nat := (scan (regS d frm many) first).2
/-! ### a deed is added -/
def layL (lg : Lg) : Dsk → List Change → Nat → Dsk × Int
  | d, [], i => (d, 0)
  | d, x :: r, i =>
    if (dWrite d (lg.From + lg.Next + (i : Int)) (secT 111 (lg.First + lg.Next + (i : Int)) (chB x).1)).2 = 0 then layL lg (dWrite d (lg.From + lg.Next + (i : Int)) (secT 111 (lg.First + lg.Next + (i : Int)) (chB x).1)).1 r (i + 1)
    else dWrite d (lg.From + lg.Next + (i : Int)) (secT 111 (lg.First + lg.Next + (i : Int)) (chB x).1)
def layA (lg : Lg) (d : Dsk) (c : List Change) : Dsk × Int :=
  if (layL lg d c 0).2 = 0 then (if lg.Next + (c.length : Int) + 1 < lg.Many then dWrite (layL lg d c 0).1 (lg.From + (lg.Next + (c.length : Int) + 1)) ⟨#[]⟩ else ((layL lg d c 0).1, 0)) else layL lg d c 0
def addB (lg : Lg) (d : Dsk) (c : List Change) : Dsk × Int := dFlush (layA lg d c).1
def addC (lg : Lg) (d : Dsk) (c : List Change) : Dsk × Int := dWrite (addB lg d c).1 (lg.From + (lg.Next + (c.length : Int))) (secT 99 (lg.First + (lg.Next + (c.length : Int))) (fourB (c.length : Int)))
def addD (lg : Lg) (d : Dsk) (c : List Change) : Dsk × Int := dFlush (addC lg d c).1
def chFs : List Change → Int
  | [] => 0
  | x :: r => if chF x = 0 then chFs r else chF x
def addF (lg : Lg) (c : List Change) : Int := if 62 < c.length then 2 else if lg.Many - lg.Next < (c.length : Int) + 1 then 9 else chFs c
def addL (lg : Lg) (d : Dsk) (c : List Change) : Lg × Dsk × Int :=
  if ¬ addF lg c = 0 then (lg, d, addF lg c)
  else if ¬ (layA lg d c).2 = 0 then (lg, layA lg d c)
  else if ¬ (addB lg d c).2 = 0 then (lg, addB lg d c)
  else if ¬ (addC lg d c).2 = 0 then (lg, addC lg d c)
  else if ¬ (addD lg d c).2 = 0 then (lg, addD lg d c)
  else (⟨lg.From, lg.Many, lg.First, lg.Next + (c.length : Int) + 1⟩, (addD lg d c).1, 0)
section
variable {lg : Lg} {d dm : Dsk} {c : List Change} {i n m : Nat} {x : Change} {Z : Dsk × Int}
theorem lay_go (h : layL lg dm (c.drop i) i = Z) (hx : c[i]? = some x) (hw : (dWrite dm (lg.From + lg.Next + (i : Int)) (secT 111 (lg.First + lg.Next + (i : Int)) (chB x).1)).2 = 0) :
    layL lg (dWrite dm (lg.From + lg.Next + (i : Int)) (secT 111 (lg.First + lg.Next + (i : Int)) (chB x).1)).1 (c.drop (i + 1)) (i + 1) = Z := by
  rw [drop_at hx] at h; unfold layL at h; rw [if_pos hw] at h; exact h
theorem lay_stop (h : layL lg dm (c.drop i) i = Z) (hx : c[i]? = some x) (hw : ¬ (dWrite dm (lg.From + lg.Next + (i : Int)) (secT 111 (lg.First + lg.Next + (i : Int)) (chB x).1)).2 = 0) :
    Z = dWrite dm (lg.From + lg.Next + (i : Int)) (secT 111 (lg.First + lg.Next + (i : Int)) (chB x).1) := by
  rw [drop_at hx] at h; unfold layL at h; rw [if_neg hw] at h; exact h.symm
theorem lay_end (h : layL lg dm (c.drop i) i = Z) (hi : c.length ≤ i) : Z = (dm, 0) := by
  rw [List.drop_of_length_le hi] at h; unfold layL at h; exact h.symm
theorem layA_stop (h : Z = layL lg d c 0) (hz : ¬ Z.2 = 0) : layA lg d c = (Z.1, Z.2) := by
  unfold layA; rw [← h, if_neg hz]
theorem layA_end (h : layL lg d c 0 = (dm, 0)) (hl : lg.Next + (c.length : Int) + 1 < lg.Many) : layA lg d c = ((dWrite dm (lg.From + (lg.Next + (c.length : Int) + 1)) ⟨#[]⟩).1, (dWrite dm (lg.From + (lg.Next + (c.length : Int) + 1)) ⟨#[]⟩).2) := by
  unfold layA; rw [h, if_pos rfl, if_pos hl]
theorem layA_last (h : layL lg d c 0 = (dm, 0)) (hl : ¬ lg.Next + (c.length : Int) + 1 < lg.Many) : layA lg d c = (dm, 0) := by
  unfold layA; rw [h, if_pos rfl, if_neg hl]
theorem dRead_in (h : DOk n m d) (hd : d.Down = false) {i : Int} (h0 : 0 ≤ i) (h1 : i < (n : Int)) : (dRead d i).2 = 0 ∧ (dRead d i).1.size = 48 := by
  have hn := h.nl
  obtain ⟨x, hx⟩ : ∃ x, d.Now[i.toNat]? = some x := ⟨_, List.getElem?_eq_getElem (by omega)⟩
  rw [dRead_ok hd h0 hx]
  exact ⟨rfl, h.ns x (List.mem_of_getElem? hx)⟩
theorem chB_fit (h : chF x = 0) : (chB x).2 = 0 ∧ (chB x).1.size ≤ 41 := by
  obtain ⟨_, _, h3, h4⟩ := chF_zero h
  exact ⟨by unfold chB; rw [if_pos h], by rw [chB_size h]; omega⟩
theorem layL_ok : ∀ (c : List Change) (d : Dsk) (i m : Nat), DOk n m d → DOk n (m + c.length) (layL lg d c i).1
  | [], d, i, m, h => by unfold layL; simpa using h
  | x :: r, d, i, m, h => by
    unfold layL
    have h1 := h.write (lg.From + lg.Next + (i : Int)) (secT 111 (lg.First + lg.Next + (i : Int)) (chB x).1)
    split
    · have := layL_ok r _ (i + 1) (m + 1) h1
      rw [List.length_cons, show m + (r.length + 1) = m + 1 + r.length by omega]; exact this
    · exact h1.up (by rw [List.length_cons]; omega)
theorem layA_ok (h : DOk n m d) : DOk n (m + c.length + 1) (layA lg d c).1 := by
  have h1 := layL_ok (lg := lg) c d 0 m h
  unfold layA
  split
  · split
    · exact h1.write _ _
    · exact h1.up (by omega)
  · exact h1.up (by omega)
theorem addB_ok (h : DOk n m d) : DOk n (m + c.length + 1) (addB lg d c).1 := (layA_ok h).flush
theorem addC_ok (h : DOk n m d) : DOk n (m + c.length + 2) (addC lg d c).1 := (addB_ok h).write _ _
theorem addD_ok (h : DOk n m d) : DOk n (m + c.length + 2) (addD lg d c).1 := (addC_ok h).flush
theorem addL_ok (h : DOk n m d) : DOk n (m + c.length + 2) (addL lg d c).2.1 := by
  unfold addL
  (repeat' split)
  · exact h.up (by omega)
  · exact (layA_ok h).up (by omega)
  · exact (addB_ok h).up (by omega)
  · exact addC_ok h
  · exact addD_ok h
  · exact addD_ok h
theorem chFs_nonneg : ∀ c : List Change, 0 ≤ chFs c
  | [] => Int.le_refl _
  | x :: r => by
    unfold chFs; have := chF_023 x; have := chFs_nonneg r
    split <;> omega
theorem chFs_zero : ∀ {c : List Change}, chFs c = 0 → ∀ x ∈ c, chF x = 0
  | [], _, x, hx => by cases hx
  | y :: r, h, x, hx => by
    unfold chFs at h
    split at h
    · rename_i h0
      rcases List.mem_cons.1 hx with rfl | hx
      · exact h0
      · exact chFs_zero h x hx
    · exact absurd h (by assumption)
theorem fs_go {f : Int} (h : chFs (c.drop i) = f) (hx : c[i]? = some x) (h0 : chF x = 0) : chFs (c.drop (i + 1)) = f := by
  rw [drop_at hx] at h; unfold chFs at h; rw [if_pos h0] at h; exact h
theorem fs_stop {f : Int} (h : chFs (c.drop i) = f) (hx : c[i]? = some x) (h0 : ¬ chF x = 0) : f = chF x := by
  rw [drop_at hx] at h; unfold chFs at h; rw [if_neg h0] at h; exact h.symm
theorem fs_end {f : Int} (h : chFs (c.drop i) = f) (hi : c.length ≤ i) : f = 0 := by
  rw [List.drop_of_length_le hi] at h; unfold chFs at h; exact h.symm
theorem addF_nonneg : 0 ≤ addF lg c := by unfold addF; have := chFs_nonneg c; (repeat' split) <;> omega
theorem add_many (h : 62 < c.length) : addL lg d c = (lg, d, 2) := by
  have e : addF lg c = 2 := by unfold addF; rw [if_pos h]
  unfold addL; rw [e, if_pos (by decide)]
theorem add_full (h : ¬ 62 < c.length) (h' : lg.Many - lg.Next < (c.length : Int) + 1) : addL lg d c = (lg, d, 9) := by
  have e : addF lg c = 9 := by unfold addF; rw [if_neg h, if_pos h']
  unfold addL; rw [e, if_pos (by decide)]
theorem add_fault {f : Int} (h : ¬ 62 < c.length) (h' : ¬ lg.Many - lg.Next < (c.length : Int) + 1) (hf : chFs c = f) (h0 : ¬ f = 0) : addL lg d c = (lg, d, f) := by
  have e : addF lg c = f := by unfold addF; rw [if_neg h, if_neg h', hf]
  unfold addL; rw [e, if_pos h0]
theorem addF_ok (h : ¬ 62 < c.length) (h' : ¬ lg.Many - lg.Next < (c.length : Int) + 1) (hf : chFs c = 0) : addF lg c = 0 := by
  unfold addF; rw [if_neg h, if_neg h', hf]
theorem add_a (h : addF lg c = 0) (ha : ¬ (layA lg d c).2 = 0) : addL lg d c = (lg, (layA lg d c).1, (layA lg d c).2) := by
  unfold addL; rw [if_neg (by omega), if_pos ha]
theorem add_b (h : addF lg c = 0) (ha : (layA lg d c).2 = 0) (hb : ¬ (addB lg d c).2 = 0) : addL lg d c = (lg, (addB lg d c).1, (addB lg d c).2) := by
  unfold addL; rw [if_neg (by omega), if_neg (by omega), if_pos hb]
theorem add_c (h : addF lg c = 0) (ha : (layA lg d c).2 = 0) (hb : (addB lg d c).2 = 0) (hc : ¬ (addC lg d c).2 = 0) : addL lg d c = (lg, (addC lg d c).1, (addC lg d c).2) := by
  unfold addL; rw [if_neg (by omega), if_neg (by omega), if_neg (by omega), if_pos hc]
theorem add_d (h : addF lg c = 0) (ha : (layA lg d c).2 = 0) (hb : (addB lg d c).2 = 0) (hc : (addC lg d c).2 = 0) (hd : ¬ (addD lg d c).2 = 0) : addL lg d c = (lg, (addD lg d c).1, (addD lg d c).2) := by
  unfold addL; rw [if_neg (by omega), if_neg (by omega), if_neg (by omega), if_neg (by omega), if_pos hd]
theorem add_ok (h : addF lg c = 0) (ha : (layA lg d c).2 = 0) (hb : (addB lg d c).2 = 0) (hc : (addC lg d c).2 = 0) (hd : (addD lg d c).2 = 0) : addL lg d c = (⟨lg.From, lg.Many, lg.First, lg.Next + (c.length : Int) + 1⟩, (addD lg d c).1, 0) := by
  unfold addL; rw [if_neg (by omega), if_neg (by omega), if_neg (by omega), if_neg (by omega), if_neg (by omega)]
theorem layL_nonneg : ∀ (c : List Change) (d : Dsk) (i : Nat), 0 ≤ (layL lg d c i).2
  | [], d, i => by unfold layL; exact Int.le_refl _
  | x :: r, d, i => by
    unfold layL; split
    · exact layL_nonneg r _ _
    · exact dWrite_nonneg _ _ _
theorem layA_nonneg : 0 ≤ (layA lg d c).2 := by
  unfold layA; have := layL_nonneg (lg := lg) c d 0
  split
  · split
    · exact dWrite_nonneg _ _ _
    · exact Int.le_refl _
  · exact this
theorem addL_nonneg : 0 ≤ (addL lg d c).2.2 := by
  unfold addL
  have h1 := addF_nonneg (lg := lg) (c := c); have h2 := layA_nonneg (lg := lg) (d := d) (c := c); have h3 : 0 ≤ (addB lg d c).2 := dFlush_nonneg _; have h4 : 0 ≤ (addC lg d c).2 := dWrite_nonneg _ _ _; have h5 : 0 ≤ (addD lg d c).2 := dFlush_nonneg _
  (repeat' split) <;> first | assumption | exact Int.le_refl _
end
end Go.Proofs.Ytpipachmngdegaa
end
