import Derived.Test.YtpipachmngdegaaStoreSaysProofG2
section
/-
  A disk as plain data, and what is done to it. No program.
-/
namespace Go.Proofs.Ytpipachmngdegaa
open Go.RowKit
set_option linter.unusedVariables false

structure Turn where
  At : Int
  Data : ByteArray
  deriving DecidableEq
abbrev Turn.cs (x : Turn) : List Value := [.int .i64 x.At, .string x.Data]
abbrev Turn.val (x : Turn) : Value := .agg #[.int .i64 x.At, .string x.Data]
instance : Enc Turn := ⟨2, Turn.cs, fun _ => rfl, fun x u hu => by simp [Turn.cs] at hu; rcases hu with rfl | rfl <;> rfl, by decide⟩
structure Dsk where
  Kept : List ByteArray
  Now : List ByteArray
  Wait : List Turn
  Fuse : Int
  Down : Bool
  deriving DecidableEq
/-- so many noughts -/
def nou (n : Nat) : ByteArray := ⟨(List.replicate n (0 : UInt8)).toArray⟩
theorem nou_size (n : Nat) : (nou n).size = n := by unfold nou; simp [ByteArray.size]
def full (s : ByteArray) : ByteArray := s ++ nou (48 - s.size)
theorem full_size {s : ByteArray} (h : s.size ≤ 48) : (full s).size = 48 := by unfold full; rw [ByteArray.size_append, nou_size]; omega
def dNew (n : Nat) : Dsk := ⟨List.replicate n (nou 48), List.replicate n (nou 48), [], -1, false⟩
def dStep (d : Dsk) : Dsk × Int :=
  if d.Down = true then (d, 10) else if d.Fuse = 0 then (⟨d.Kept, d.Now, d.Wait, -1, true⟩, 10) else (⟨d.Kept, d.Now, d.Wait, max (d.Fuse - 1) (-1), d.Down⟩, 0)
def dRead (d : Dsk) (i : Int) : ByteArray × Int :=
  if d.Down = true then (⟨#[]⟩, 10) else if i < 0 ∨ (d.Now.length : Int) ≤ i then (⟨#[]⟩, 1) else ((d.Now[i.toNat]?).getD ⟨#[]⟩, 0)
def dWrite (d : Dsk) (i : Int) (s : ByteArray) : Dsk × Int :=
  if i < 0 ∨ (d.Now.length : Int) ≤ i ∨ 48 < s.size then (d, 1)
  else if (dStep d).2 = 0 then (⟨(dStep d).1.Kept, (dStep d).1.Now.set i.toNat (full s), (dStep d).1.Wait ++ [⟨i, full s⟩], (dStep d).1.Fuse, (dStep d).1.Down⟩, 0) else dStep d
def dFlush (d : Dsk) : Dsk × Int :=
  if (dStep d).2 = 0 then (⟨(dStep d).1.Now, (dStep d).1.Now, [], (dStep d).1.Fuse, (dStep d).1.Down⟩, 0) else dStep d
def dArm (d : Dsk) (n : Int) : Dsk := ⟨d.Kept, d.Now, d.Wait, max n (-1), d.Down⟩
/-- the bit of a number -/
def bitOf (k : Int) (i : Nat) : Bool := decide (k / ((2 ^ (i % 64) : Nat) : Int) % 2 = 1)
def lay1 (k : Int) (l : List ByteArray) (p : Turn × Nat) : List ByteArray := if bitOf k p.2 = true then l.set p.1.At.toNat p.1.Data else l
/-- what is kept behind a fall -/
def layT (k : Int) (w : List Turn) (l : List ByteArray) : List ByteArray := w.zipIdx.foldl (lay1 k) l
def dRestart (d : Dsk) (k : Int) : Dsk := ⟨layT k d.Wait d.Kept, layT k d.Wait d.Kept, [], -1, false⟩
/-- a disk of so many sectors, of which not too much waits -/
structure DOk (n m : Nat) (d : Dsk) : Prop where
  kl : d.Kept.length = n
  nl : d.Now.length = n
  ks : ∀ s ∈ d.Kept, s.size = 48
  ns : ∀ s ∈ d.Now, s.size = 48
  wl : d.Wait.length ≤ m
  wat : ∀ t ∈ d.Wait, 0 ≤ t.At ∧ t.At < (n : Int) ∧ t.Data.size = 48
  f0 : -1 ≤ d.Fuse
  f1 : d.Fuse ≤ 9223372036854775807
section
variable {n m : Nat} {d : Dsk}
theorem dNew_ok (n : Nat) : DOk n 0 (dNew n) := ⟨by simp [dNew], by simp [dNew], fun s hs => by
  rw [(List.mem_replicate.1 hs).2, nou_size], fun s hs => by rw [(List.mem_replicate.1 hs).2, nou_size], Nat.le_refl _, fun t ht => (by cases ht), (by show (-1 : Int) ≤ -1; decide), (by show (-1 : Int) ≤ 9223372036854775807; decide)⟩
theorem DOk.up (h : DOk n m d) {k : Nat} (hk : m ≤ k) : DOk n k d := ⟨h.kl, h.nl, h.ks, h.ns, Nat.le_trans h.wl hk, h.wat, h.f0, h.f1⟩
theorem dStep_down (h : d.Down = true) : dStep d = (⟨d.Kept, d.Now, d.Wait, d.Fuse, true⟩, 10) := by unfold dStep; rw [if_pos h]; cases d; simp_all
theorem dStep_blow (h : d.Down = false) (f : d.Fuse = 0) : dStep d = (⟨d.Kept, d.Now, d.Wait, -1, true⟩, 10) := by unfold dStep; rw [if_neg (by rw [h]; decide), if_pos f]
theorem dStep_go (h : d.Down = false) (f : ¬ d.Fuse = 0) : dStep d = (⟨d.Kept, d.Now, d.Wait, max (d.Fuse - 1) (-1), false⟩, 0) := by unfold dStep; rw [if_neg (by rw [h]; decide), if_neg f, h]
theorem dStep_down' (h : d.Down = true) : dStep d = (d, 10) := by unfold dStep; rw [if_pos h]
theorem dStep_go1 (h : d.Down = false) (f : 0 < d.Fuse) : dStep d = (⟨d.Kept, d.Now, d.Wait, d.Fuse - 1, d.Down⟩, 0) := by
  rw [dStep_go h (by omega), show max (d.Fuse - 1) (-1) = d.Fuse - 1 by omega, h]
theorem dStep_go0 (h : d.Down = false) (f : d.Fuse = -1) : dStep d = (d, 0) := by
  rw [dStep_go h (by omega), show max (d.Fuse - 1) (-1) = d.Fuse by omega, ← h]
theorem dRead_down {i : Int} (h : d.Down = true) : dRead d i = (⟨#[]⟩, 10) := by unfold dRead; rw [if_pos h]
theorem dRead_bad {i : Int} (h : d.Down = false) (hi : i < 0 ∨ (d.Now.length : Int) ≤ i) : dRead d i = (⟨#[]⟩, 1) := by unfold dRead; rw [if_neg (by rw [h]; decide), if_pos hi]
theorem dRead_ok {i : Int} {x : ByteArray} (h : d.Down = false) (hi : 0 ≤ i) (hx : d.Now[i.toNat]? = some x) : dRead d i = (x, 0) := by
  have := (List.getElem?_eq_some_iff.1 hx).1
  unfold dRead; rw [if_neg (by rw [h]; decide), if_neg (by omega), hx]; rfl
theorem dWrite_bad {i : Int} {x : ByteArray} (hi : i < 0 ∨ (d.Now.length : Int) ≤ i ∨ 48 < x.size) : dWrite d i x = (d, 1) := by unfold dWrite; rw [if_pos hi]
theorem dWrite_err {i : Int} {x : ByteArray} (h0 : 0 ≤ i) (h1 : i < (d.Now.length : Int)) (h2 : x.size ≤ 48) (h : ¬ (dStep d).2 = 0) : dWrite d i x = dStep d := by unfold dWrite; rw [if_neg (by omega), if_neg h]
theorem dWrite_ok {i : Int} {x : ByteArray} (h0 : 0 ≤ i) (h1 : i < (d.Now.length : Int)) (h2 : x.size ≤ 48) (h : (dStep d).2 = 0) :
    dWrite d i x = (⟨(dStep d).1.Kept, (dStep d).1.Now.set i.toNat (full x), (dStep d).1.Wait ++ [⟨i, full x⟩], (dStep d).1.Fuse, (dStep d).1.Down⟩, 0) := by unfold dWrite; rw [if_neg (by omega), if_pos h]
theorem dStep_lists (d : Dsk) : (dStep d).1.Kept = d.Kept ∧ (dStep d).1.Now = d.Now ∧ (dStep d).1.Wait = d.Wait := by
  unfold dStep; (repeat' split) <;> exact ⟨rfl, rfl, rfl⟩
theorem DOk.step (h : DOk n m d) : DOk n m (dStep d).1 := by
  obtain ⟨e1, e2, e3⟩ := dStep_lists d
  have f0 := h.f0; have f1 := h.f1
  refine ⟨by rw [e1]; exact h.kl, by rw [e2]; exact h.nl, by rw [e1]; exact h.ks, by rw [e2]; exact h.ns, by rw [e3]; exact h.wl, by rw [e3]; exact h.wat, ?_, ?_⟩ <;>
    (unfold dStep; (repeat' split) <;> (try dsimp only) <;> omega)
theorem dStep_err (d : Dsk) : (dStep d).2 = 0 ∨ (dStep d).2 = 10 := by unfold dStep; (repeat' split) <;> simp
theorem set_all {l : List ByteArray} (h : ∀ s ∈ l, s.size = 48) {i : Nat} {x : ByteArray} (hx : x.size = 48) : ∀ s ∈ l.set i x, s.size = 48 := fun s hs => by
  rcases List.mem_or_eq_of_mem_set hs with h1 | h1
  · exact h s h1
  · rw [h1]; exact hx
theorem DOk.write (h : DOk n m d) (i : Int) (s : ByteArray) : DOk n (m + 1) (dWrite d i s).1 := by
  unfold dWrite
  split
  · exact h.up (Nat.le_succ m)
  · rename_i hb
    split
    · have hs := h.step
      have hf := full_size (s := s) (by omega)
      have e := (dStep_lists d).2.1
      have nl := h.nl
      refine ⟨hs.kl, by dsimp only; rw [List.length_set]; exact hs.nl, hs.ks, set_all hs.ns hf, by dsimp only; rw [List.length_append, List.length_singleton]; have := hs.wl; omega, fun t ht => ?_, hs.f0, hs.f1⟩
      rcases List.mem_append.1 ht with ht | ht
      · exact hs.wat t ht
      · rw [List.mem_singleton.1 ht]; exact ⟨by dsimp only; omega, by dsimp only; omega, hf⟩
    · exact h.step.up (Nat.le_succ m)
theorem DOk.flush (h : DOk n m d) : DOk n m (dFlush d).1 := by
  unfold dFlush
  have hs := h.step
  split
  · exact ⟨hs.nl, hs.nl, hs.ns, hs.ns, Nat.zero_le _, fun t ht => (by cases ht), hs.f0, hs.f1⟩
  · exact hs
theorem DOk.arm (h : DOk n m d) {k : Int} (hk : k ≤ 9223372036854775807) : DOk n m (dArm d k) := ⟨h.kl, h.nl, h.ks, h.ns, h.wl, h.wat, by unfold dArm; dsimp only; omega, by unfold dArm; dsimp only; omega⟩
theorem lay_ok (k : Int) : ∀ (w : List Turn) (j : Nat) (l : List ByteArray), (∀ s ∈ l, s.size = 48) → (∀ t ∈ w, t.Data.size = 48) → (((w.zipIdx j).foldl (lay1 k) l).length = l.length ∧ ∀ s ∈ (w.zipIdx j).foldl (lay1 k) l, s.size = 48)
  | [], j, l, h, hw => ⟨rfl, h⟩
  | t :: w, j, l, h, hw => by
    rw [List.zipIdx_cons, List.foldl_cons]
    have h1 : (lay1 k l (t, j)).length = l.length := by unfold lay1; split <;> simp
    have h2 : ∀ s ∈ lay1 k l (t, j), s.size = 48 := by
      unfold lay1; split
      · exact set_all h (hw t (List.mem_cons_self ..))
      · exact h
    obtain ⟨a, b⟩ := lay_ok k w (j + 1) _ h2 (fun t ht => hw t (List.mem_cons_of_mem _ ht))
    exact ⟨a.trans h1, b⟩
theorem layT_snoc {k : Int} {w : List Turn} {l : List ByteArray} {i : Nat} {t : Turn} (h : w[i]? = some t) : layT k (w.take (i + 1)) l = lay1 k (layT k (w.take i) l) (t, i) := by
  unfold layT
  have hi := (List.getElem?_eq_some_iff.1 h).1
  rw [List.take_add_one, h]
  simp only [Option.toList_some, List.zipIdx_append, List.foldl_append, List.length_take, Nat.min_eq_left (Nat.le_of_lt hi), Nat.zero_add]
  rfl
theorem layT_skip {k : Int} {w : List Turn} {l : List ByteArray} {i : Nat} (h : ¬ bitOf k i = true) : layT k (w.take (i + 1)) l = layT k (w.take i) l := by
  cases hw : w[i]? with
  | none =>
    have := List.getElem?_eq_none_iff.1 hw
    rw [List.take_of_length_le (by omega), List.take_of_length_le (by omega)]
  | some t => rw [layT_snoc hw]; exact if_neg h
theorem layT_len {k : Int} {w : List Turn} {l : List ByteArray} : (layT k w l).length = l.length := by
  unfold layT
  generalize w.zipIdx = z
  induction z generalizing l with
  | nil => rfl
  | cons p z ih => rw [List.foldl_cons, ih]; unfold lay1; split <;> simp
theorem DOk.restart (h : DOk n m d) (k : Int) : DOk n 0 (dRestart d k) := by
  obtain ⟨a, b⟩ := lay_ok k d.Wait 0 d.Kept h.ks (fun t ht => (h.wat t ht).2.2)
  exact ⟨a.trans h.kl, a.trans h.kl, b, b, Nat.le_refl _, fun t ht => (by cases ht), (by show (-1 : Int) ≤ -1; decide), (by show (-1 : Int) ≤ 9223372036854775807; decide)⟩
theorem DOk.fine (h : DOk n m d) (hn : n ≤ 100000) (hm : m ≤ 100000) : d.Kept.length = d.Now.length ∧ d.Now.length ≤ 100000 ∧ d.Wait.length ≤ 100000 ∧ -1 ≤ d.Fuse ∧ d.Fuse ≤ 9223372036854775807 := by
  have h1 := h.kl; have h2 := h.nl; have h3 := h.wl; have h4 := h.f0; have h5 := h.f1
  refine ⟨?_, ?_, ?_, ?_, ?_⟩ <;> omega
theorem DOk.rest (h : DOk n m d) (hm : m ≤ 100000) : d.Kept.length = d.Now.length ∧ d.Wait.length ≤ 100000 ∧ (∀ t ∈ d.Wait, 0 ≤ t.At ∧ t.At < (d.Kept.length : Int)) := by
  have h1 := h.kl; have h2 := h.nl; have h3 := h.wl
  refine ⟨by omega, by omega, fun t ht => ?_⟩
  have h4 := h.wat t ht
  rw [h1]; exact ⟨h4.1, h4.2.1⟩
theorem DOk.rest2 (h : DOk n m d) (hn : n ≤ 100000) (hm : m ≤ 100000) : d.Kept.length ≤ 100000 ∧ d.Wait.length ≤ 100000 ∧ (∀ t ∈ d.Wait, 0 ≤ t.At ∧ t.At < (d.Kept.length : Int)) := by
  have h1 := h.kl; have h3 := h.rest hm
  exact ⟨by omega, h3.2⟩
theorem dWrite_nonneg (d : Dsk) (i : Int) (x : ByteArray) : 0 ≤ (dWrite d i x).2 := by
  have := dStep_err d; unfold dWrite; (repeat' split) <;> (try dsimp only) <;> omega
theorem dFlush_nonneg (d : Dsk) : 0 ≤ (dFlush d).2 := by
  have := dStep_err d; unfold dFlush; (repeat' split) <;> (try dsimp only) <;> omega
theorem dRead_nonneg (d : Dsk) (i : Int) : 0 ≤ (dRead d i).2 := by
  unfold dRead; (repeat' split) <;> (try dsimp only) <;> omega
/-! ### a disk that doesn't fall -/
theorem dStep_live (hd : d.Down = false) (hf : d.Fuse = -1) : dStep d = (⟨d.Kept, d.Now, d.Wait, -1, false⟩, 0) := by rw [dStep_go hd (by omega), hf]; rfl
theorem dWrite_keep {i : Int} {x : ByteArray} (hd : d.Down = false) (hf : d.Fuse = -1) (h : ¬ (dWrite d i x).2 = 0) : (dWrite d i x).1 = d := by
  by_cases hb : i < 0 ∨ (d.Now.length : Int) ≤ i ∨ 48 < x.size
  · rw [dWrite_bad hb]
  · exfalso; apply h; rw [dWrite_ok (by omega) (by omega) (by omega) (by rw [dStep_live hd hf])]
theorem dWrite_yes {i : Int} {x : ByteArray} (hd : d.Down = false) (hf : d.Fuse = -1) (h : (dWrite d i x).2 = 0) : dWrite d i x = (⟨d.Kept, d.Now.set i.toNat (full x), d.Wait ++ [⟨i, full x⟩], -1, false⟩, 0) ∧ 0 ≤ i ∧ i < (d.Now.length : Int) ∧ x.size ≤ 48 := by
  by_cases hb : i < 0 ∨ (d.Now.length : Int) ≤ i ∨ 48 < x.size
  · rw [dWrite_bad hb] at h; simp at h
  · refine ⟨?_, by omega, by omega, by omega⟩
    rw [dWrite_ok (by omega) (by omega) (by omega) (by rw [dStep_live hd hf]), dStep_live hd hf]
theorem dWrite_live {i : Int} {x : ByteArray} (hd : d.Down = false) (hf : d.Fuse = -1) : (dWrite d i x).1.Down = false ∧ (dWrite d i x).1.Fuse = -1 := by
  by_cases h : (dWrite d i x).2 = 0
  · rw [(dWrite_yes hd hf h).1]; exact ⟨rfl, rfl⟩
  · rw [dWrite_keep hd hf h]; exact ⟨hd, hf⟩
theorem dFlush_live (hd : d.Down = false) (hf : d.Fuse = -1) : dFlush d = (⟨d.Now, d.Now, [], -1, false⟩, 0) := by
  unfold dFlush; rw [dStep_live hd hf, if_pos rfl]
theorem dRead_live {i : Nat} {x : ByteArray} (hd : d.Down = false) (hx : d.Now[i]? = some x) : dRead d (i : Int) = (x, 0) := dRead_ok hd (by omega) (by rw [Int.toNat_natCast]; exact hx)
theorem bitOf_small {k : Int} {c : Nat} (h : c < 64) : (bitOf k c = true) = (k / ((2 ^ c : Nat) : Int) % 2 = 1) := by
  unfold bitOf; rw [Nat.mod_eq_of_lt h]; exact propext decide_eq_true_iff
theorem layT_add (k : Int) (w : List Turn) (t : Turn) (l : List ByteArray) : layT k (w ++ [t]) l = lay1 k (layT k w l) (t, w.length) := by
  unfold layT; rw [List.zipIdx_append, List.foldl_append]; simp
end
end Go.Proofs.Ytpipachmngdegaa
end
