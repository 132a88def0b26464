import Derived.Test.YtpipachmngdegaaStoreSaysProofG21
import Derived.Test.YtpipachmngdegaaStoreSaysProofG20
section
/-
  Rows, their changes and their bytes as plain functions: as the program does it and as the document does it. No program.
-/
namespace Go.Proofs.Ytpipachmngdegaa
open Go
set_option linter.unusedVariables false

def c0 : Change := ⟨⟨#[]⟩, ⟨#[]⟩, false⟩
def chF (c : Change) : Int :=
  if c.Key = ⟨#[]⟩ ∨ (c.Gone = true ∧ ¬ c.Val = ⟨#[]⟩) then 3 else if 8 < c.Key.size ∨ 24 < c.Val.size then 2 else 0
theorem chF_023 (c : Change) : chF c = 0 ∨ chF c = 2 ∨ chF c = 3 := by unfold chF; (repeat' split) <;> simp
theorem chF_zero {c : Change} (h : chF c = 0) : c.Key ≠ ⟨#[]⟩ ∧ (c.Gone = true → c.Val = ⟨#[]⟩) ∧ c.Key.size ≤ 8 ∧ c.Val.size ≤ 24 := by
  unfold chF at h
  split at h
  · cases h
  · split at h
    · cases h
    · rename_i h1 h2
      exact ⟨fun e => h1 (.inl e), fun g => Classical.byContradiction fun e => h1 (.inr ⟨g, e⟩), by omega, by omega⟩
theorem chF_ok {c : Change} (h1 : c.Key ≠ ⟨#[]⟩) (h2 : c.Gone = true → c.Val = ⟨#[]⟩) (h3 : c.Key.size ≤ 8) (h4 : c.Val.size ≤ 24) : chF c = 0 := by
  unfold chF
  rw [if_neg (fun h => h.elim h1 (fun h => h.2 (h2 h.1))), if_neg (by omega)]
def goneB (b : Bool) : UInt8 := if b = true then 1 else 0
def chB (c : Change) : ByteArray × Int :=
  if chF c = 0 then (⟨#[goneB c.Gone, UInt8.ofNat c.Key.size]⟩ ++ c.Key ++ c.Val, 0) else (⟨#[]⟩, chF c)
theorem chB_nonneg (c : Change) : 0 ≤ (chB c).2 := by
  have := chF_023 c; unfold chB; split <;> dsimp only <;> omega
def byteAt (s : ByteArray) (i : Nat) : Nat := ((s.data[i]?).getD 0).toNat
theorem byteAt_of {s : ByteArray} {i : Nat} {x : UInt8} (h : s.data[i]? = some x) : byteAt s i = x.toNat := by unfold byteAt; rw [h]; rfl
theorem byteAt_lt (s : ByteArray) (i : Nat) : byteAt s i < 256 := by unfold byteAt; exact UInt8.toNat_lt _
def chOf (s : ByteArray) : Change := ⟨s.extract 2 (2 + byteAt s 1), s.extract (2 + byteAt s 1) s.size, decide (byteAt s 0 = 1)⟩
def chP (s : ByteArray) : Change × Int :=
  if s.size < 2 ∨ 1 < byteAt s 0 ∨ s.size < 2 + byteAt s 1 then (c0, 4) else if chF (chOf s) = 0 then (chOf s, 0) else (c0, 4)
theorem chP_04 (s : ByteArray) : (chP s).2 = 0 ∨ (chP s).2 = 4 := by unfold chP; (repeat' split) <;> simp
theorem chP_zero {s : ByteArray} (h : (chP s).2 = 0) : chP s = (chOf s, 0) ∧ chF (chOf s) = 0 := by
  unfold chP at h ⊢
  split at h
  · cases h
  · split at h
    · rename_i h1 h2; rw [if_neg h1, if_pos h2]; exact ⟨rfl, h2⟩
    · cases h
theorem chP_fault {s : ByteArray} (h : (chP s).2 = 0) : chF (chP s).1 = 0 := by obtain ⟨a, b⟩ := chP_zero h; rw [a]; exact b
/-! ### lists of bytes -/
abbrev bl (s : ByteArray) : List UInt8 := s.data.toList
theorem bl_len (s : ByteArray) : (bl s).length = s.size := Array.length_toList
theorem bl_app (a b : ByteArray) : bl (a ++ b) = bl a ++ bl b := by simp [bl, ByteArray.data_append]
theorem bl_ext (s : ByteArray) (i j : Nat) : bl (s.extract i j) = ((bl s).take j).drop i := by
  simp only [bl, ByteArray.data_extract, Array.toList_extract, List.extract_eq_take_drop]
  rw [List.drop_take]
theorem bl_nil : bl ⟨#[]⟩ = [] := rfl
theorem byteAt_bl (s : ByteArray) (i : Nat) : byteAt s i = (((bl s)[i]?).getD 0).toNat := by simp [byteAt, bl]
theorem size_nil {s : ByteArray} (h : s.size = 0) : s = ⟨#[]⟩ := ba_ext (by rw [List.eq_nil_of_length_eq_zero (l := s.data.toList) (by rw [Array.length_toList]; exact h)])
theorem u8_small {n : Nat} (h : n < 256) : (UInt8.ofNat n).toNat = n := by rw [UInt8.toNat_ofNat']; omega
theorem chB_bl {c : Change} (h : chF c = 0) : bl (chB c).1 = goneB c.Gone :: UInt8.ofNat c.Key.size :: (bl c.Key ++ bl c.Val) := by
  unfold chB; rw [if_pos h]; simp only [bl_app]; simp [bl]
theorem chB_size {c : Change} (h : chF c = 0) : (chB c).1.size = 2 + c.Key.size + c.Val.size := by
  rw [← bl_len, chB_bl h]; simp only [List.length_cons, List.length_append, bl_len]; omega
theorem chP_chB {c : Change} (h : chF c = 0) : chP (chB c).1 = (c, 0) := by
  obtain ⟨h1, h2, h3, h4⟩ := chF_zero h
  have hb := chB_bl h
  have hs := chB_size h
  have b0 : byteAt (chB c).1 0 = (goneB c.Gone).toNat := by rw [byteAt_bl, hb]; rfl
  have b1 : byteAt (chB c).1 1 = c.Key.size := by rw [byteAt_bl, hb]; exact u8_small (by omega)
  have g : (goneB c.Gone).toNat = 1 ∧ c.Gone = true ∨ (goneB c.Gone).toNat = 0 ∧ c.Gone = false := by cases c.Gone <;> simp [goneB]
  have hof : chOf (chB c).1 = c := by
    unfold chOf
    rw [b0, b1]
    have e1 : (chB c).1.extract 2 (2 + c.Key.size) = c.Key := ba_ext (by
      have := bl_ext (chB c).1 2 (2 + c.Key.size)
      rw [hb] at this
      refine this.trans ?_
      rw [show 2 + c.Key.size = c.Key.size + 1 + 1 by omega, List.take_succ_cons, List.take_succ_cons, List.drop_succ_cons, List.drop_succ_cons, List.drop_zero, ← bl_len c.Key, List.take_left])
    have e2 : (chB c).1.extract (2 + c.Key.size) (chB c).1.size = c.Val := ba_ext (by
      have := bl_ext (chB c).1 (2 + c.Key.size) (chB c).1.size
      rw [hb] at this
      refine this.trans ?_
      rw [List.take_of_length_le (by simp only [List.length_cons, List.length_append, bl_len]; omega), show 2 + c.Key.size = c.Key.size + 1 + 1 by omega, List.drop_succ_cons, List.drop_succ_cons, ← bl_len c.Key, List.drop_left])
    rw [e1, e2]
    rcases g with ⟨g1, g2⟩ | ⟨g1, g2⟩ <;> (rw [g1]; cases c; simp_all)
  unfold chP
  rw [if_neg (by omega), hof, if_pos h]
/-! ### rows -/
def fK (k : ByteArray) (x : Change) : Int := cmpS x.Key k
def ap1 (rows : List Change) (c : Change) : List Change :=
  if bsF (fK c.Key) rows = true then (if c.Gone = true then rows.take (bsL (fK c.Key) rows) ++ rows.drop (bsL (fK c.Key) rows + 1) else rows.set (bsL (fK c.Key) rows) c)
  else if c.Gone = true then rows else rows.take (bsL (fK c.Key) rows) ++ [c] ++ rows.drop (bsL (fK c.Key) rows)
def applyR (rows l : List Change) : List Change := l.foldl ap1 rows
theorem apply_snoc {rows l : List Change} {k : Nat} {c : Change} (h : l[k]? = some c) : applyR rows (l.take (k + 1)) = ap1 (applyR rows (l.take k)) c := by
  unfold applyR; rw [List.take_add_one, h]; simp
theorem ap1_len (rows : List Change) (c : Change) : (ap1 rows c).length ≤ rows.length + 1 := by
  unfold ap1; (repeat' split) <;> simp <;> omega
theorem applyR_len : ∀ (l rows : List Change), (applyR rows l).length ≤ rows.length + l.length
  | [], rows => by simp [applyR]
  | c :: l, rows => by
    have h1 := applyR_len l (ap1 rows c)
    have h2 := ap1_len rows c
    show (applyR (ap1 rows c) l).length ≤ _
    rw [List.length_cons]; omega
/-- one round of the document's: (what is laid so far, is it laid?) -/
def rfStep (c : Change) (s : List Change × Bool) (x : Change) : List Change × Bool :=
  let s1 := if s.2 = false ∧ (ltS c.Key x.Key || decide (c.Key = x.Key)) = true then (s.1 ++ [c], true) else s
  (if x.Key = c.Key then s1.1 else s1.1 ++ [x], s1.2)
def rfGo (rows : List Change) (c : Change) : List Change × Bool := rows.foldl (rfStep c) ([], c.Gone)
def rf1 (rows : List Change) (c : Change) : List Change := if (rfGo rows c).2 = true then (rfGo rows c).1 else (rfGo rows c).1 ++ [c]
def appliedR (rows l : List Change) : List Change := l.foldl rf1 rows
theorem applied_snoc {rows l : List Change} {k : Nat} {c : Change} (h : l[k]? = some c) : appliedR rows (l.take (k + 1)) = rf1 (appliedR rows (l.take k)) c := by
  unfold appliedR; rw [List.take_add_one, h]; simp
theorem rfGo_snoc {rows : List Change} {c : Change} {k : Nat} {x : Change} (h : rows[k]? = some x) : rfGo (rows.take (k + 1)) c = rfStep c (rfGo (rows.take k) c) x := by
  unfold rfGo; rw [List.take_add_one, h]; simp
theorem rfStep_len (c : Change) (s : List Change × Bool) (x : Change) : (rfStep c s x).1.length ≤ s.1.length + 2 := by
  unfold rfStep; dsimp only; split <;> split <;> simp <;> omega
theorem rfStep_len2 (c : Change) (s : List Change × Bool) (x : Change) : (rfStep c s x).1.length + (if (rfStep c s x).2 = true then 0 else 1) ≤ s.1.length + (if s.2 = true then 0 else 1) + 1 := by
  unfold rfStep; dsimp only
  by_cases h : s.2 = false ∧ (ltS c.Key x.Key || decide (c.Key = x.Key)) = true
  · rw [if_pos h, h.1]; dsimp only; split <;> simp
  · rw [if_neg h]; split <;> (try simp only [List.length_append, List.length_singleton]) <;> split <;> omega
theorem rfGo_len (c : Change) : ∀ (rows : List Change) (s : List Change × Bool), (rows.foldl (rfStep c) s).1.length + (if (rows.foldl (rfStep c) s).2 = true then 0 else 1) ≤ s.1.length + (if s.2 = true then 0 else 1) + rows.length
  | [], s => Nat.le_refl _
  | x :: rows, s => by
    rw [List.foldl_cons, List.length_cons]
    have h1 := rfGo_len c rows (rfStep c s x)
    have h2 := rfStep_len2 c s x
    omega
theorem rf1_len (rows : List Change) (c : Change) : (rf1 rows c).length ≤ rows.length + 1 := by
  have h := rfGo_len c rows ([], c.Gone)
  unfold rf1 rfGo
  cases hg : (rows.foldl (rfStep c) ([], c.Gone)).2 <;> rw [hg] at h <;> simp at h ⊢
  · have : (if c.Gone = true then 0 else 1) ≤ 1 := by split <;> omega
    omega
  · have : (if c.Gone = true then 0 else 1) ≤ 1 := by split <;> omega
    omega
theorem appliedR_len : ∀ (l rows : List Change), (appliedR rows l).length ≤ rows.length + l.length
  | [], rows => by simp [appliedR]
  | c :: l, rows => by
    have h1 := appliedR_len l (rf1 rows c)
    have h2 := rf1_len rows c
    show (appliedR (rf1 rows c) l).length ≤ _
    rw [List.length_cons]; omega
/-! ### rows that rise -/
def RiseC (l : List Change) : Prop := l.Pairwise (fun a b => ltS a.Key b.Key = true)
inductive Cut (l : List Change) (k : ByteArray) : Prop where
  | hit (A B : List Change) (x : Change) (e : l = A ++ x :: B) (hx : x.Key = k) (ha : ∀ y ∈ A, ltS y.Key k = true) (hb : ∀ y ∈ B, ltS k y.Key = true)
  | miss (A B : List Change) (e : l = A ++ B) (ha : ∀ y ∈ A, ltS y.Key k = true) (hb : ∀ y ∈ B, ltS k y.Key = true)
theorem RiseC.cut : ∀ {l : List Change} (h : RiseC l) (k : ByteArray), Cut l k
  | [], h, k => .miss [] [] rfl (fun y hy => by cases hy) (fun y hy => by cases hy)
  | x :: l, h, k => by
    obtain ⟨h1, h2⟩ := List.pairwise_cons.1 h
    rcases ltS_tri x.Key k with hl | hl | hl
    · rcases RiseC.cut h2 k with ⟨A, B, y, e, hy, ha, hb⟩ | ⟨A, B, e, ha, hb⟩
      · exact .hit (x :: A) B y (by rw [e]; rfl) hy (fun z hz => by rcases List.mem_cons.1 hz with r | r; exact r ▸ hl; exact ha z r) hb
      · exact .miss (x :: A) B (by rw [e]; rfl) (fun z hz => by rcases List.mem_cons.1 hz with r | r; exact r ▸ hl; exact ha z r) hb
    · subst hl; exact .hit [] l x rfl rfl (fun y hy => by cases hy) h1
    · exact .miss [] (x :: l) rfl (fun y hy => by cases hy) (fun z hz => by rcases List.mem_cons.1 hz with r | r; exact r ▸ hl; exact ltS_trans hl (h1 z r))
theorem bs_at {f : Change → Int} {A R : List Change} (ha : ∀ y ∈ A, f y < 0) (hr : ∀ y ∈ R, ¬ f y < 0) : bsL f (A ++ R) = A.length := by
  have hm : ∀ (i j : Nat) x y, i ≤ j → (A ++ R)[i]? = some x → (A ++ R)[j]? = some y → f y < 0 → f x < 0 := fun i j x y hij hx hy hf => by
    by_cases hj : j < A.length
    · rw [List.getElem?_append_left (by omega)] at hx; exact ha x (List.mem_of_getElem? hx)
    · rw [List.getElem?_append_right (by omega)] at hy; exact absurd hf (hr y (List.mem_of_getElem? hy))
  obtain ⟨h1, h2⟩ := bsL_rise hm
  rcases Nat.lt_trichotomy (bsL f (A ++ R)) A.length with h | h | h
  · have hg := List.getElem?_eq_getElem h
    exact absurd (ha _ (List.mem_of_getElem? hg)) (h2 (bsL f (A ++ R)) _ (Nat.le_refl _) (by rw [List.getElem?_append_left h]; exact hg))
  · exact h
  · have hle : bsL f (A ++ R) ≤ (A ++ R).length := bsL_le
    have hlt : A.length < (A ++ R).length := by omega
    have hg := List.getElem?_eq_getElem hlt
    have := h1 A.length _ h hg
    rw [List.getElem?_append_right (Nat.le_refl _)] at hg
    exact absurd this (hr _ (List.mem_of_getElem? hg))
theorem fK_neg {k : ByteArray} {x : Change} : fK k x < 0 ↔ ltS x.Key k = true := cmpS_neg
theorem fK_pos {k : ByteArray} {x : Change} (h : ltS k x.Key = true) : ¬ fK k x < 0 ∧ fK k x ≠ 0 := by
  refine ⟨fun hh => ?_, fun hh => ?_⟩
  · have := ltS_asymm (fK_neg.1 hh); rw [h] at this; cases this
  · have e := cmpS_zero.1 hh; rw [e, ltS_irr] at h; cases h
def mid (c : Change) : List Change := if c.Gone = true then [] else [c]
theorem bs_hit {A B : List Change} {x : Change} {k : ByteArray} (hx : x.Key = k) (ha : ∀ y ∈ A, ltS y.Key k = true) (hb : ∀ y ∈ B, ltS k y.Key = true) : bsL (fK k) (A ++ x :: B) = A.length ∧ bsF (fK k) (A ++ x :: B) = true := by
  have e : bsL (fK k) (A ++ x :: B) = A.length := bs_at (fun y hy => fK_neg.2 (ha y hy)) (fun y hy => by
    rcases List.mem_cons.1 hy with r | r
    · subst r; intro hh; have := fK_neg.1 hh; rw [hx, ltS_irr] at this; cases this
    · exact (fK_pos (hb y r)).1)
  refine ⟨e, ?_⟩
  unfold bsF; rw [e, List.getElem?_append_right (Nat.le_refl _), Nat.sub_self]
  exact decide_eq_true (cmpS_zero.2 hx)
theorem bs_miss {A B : List Change} {k : ByteArray} (ha : ∀ y ∈ A, ltS y.Key k = true) (hb : ∀ y ∈ B, ltS k y.Key = true) : bsL (fK k) (A ++ B) = A.length ∧ bsF (fK k) (A ++ B) = false := by
  have e : bsL (fK k) (A ++ B) = A.length := bs_at (fun y hy => fK_neg.2 (ha y hy)) (fun y hy => (fK_pos (hb y hy)).1)
  refine ⟨e, ?_⟩
  unfold bsF; rw [e, List.getElem?_append_right (Nat.le_refl _), Nat.sub_self]
  cases B with
  | nil => rfl
  | cons y B => exact decide_eq_false (fK_pos (hb y (List.mem_cons_self ..))).2
theorem ap1_hit {A B : List Change} {x c : Change} (hx : x.Key = c.Key) (ha : ∀ y ∈ A, ltS y.Key c.Key = true) (hb : ∀ y ∈ B, ltS c.Key y.Key = true) : ap1 (A ++ x :: B) c = A ++ mid c ++ B := by
  obtain ⟨e1, e2⟩ := bs_hit hx ha hb
  unfold ap1 mid
  rw [if_pos e2, e1]
  split
  · rw [List.take_left, show A ++ x :: B = (A ++ [x]) ++ B by simp, show A.length + 1 = (A ++ [x]).length by simp, List.drop_left]; simp
  · rw [List.set_append_right _ _ (Nat.le_refl _), Nat.sub_self]; simp
theorem ap1_miss {A B : List Change} {c : Change} (ha : ∀ y ∈ A, ltS y.Key c.Key = true) (hb : ∀ y ∈ B, ltS c.Key y.Key = true) : ap1 (A ++ B) c = A ++ mid c ++ B := by
  obtain ⟨e1, e2⟩ := bs_miss ha hb
  unfold ap1 mid
  rw [if_neg (by rw [e2]; simp), e1]
  split
  · simp
  · rw [List.take_left, List.drop_left]
theorem rf_low {c : Change} : ∀ (A : List Change) (s : List Change × Bool), (∀ y ∈ A, ltS y.Key c.Key = true) → A.foldl (rfStep c) s = (s.1 ++ A, s.2)
  | [], s, h => by simp
  | x :: A, s, h => by
    have hx := h x (List.mem_cons_self ..)
    have e : rfStep c s x = (s.1 ++ [x], s.2) := by
      unfold rfStep
      have h1 : (ltS c.Key x.Key || decide (c.Key = x.Key)) = false := by
        rw [ltS_asymm hx]; simp; intro e; rw [e, ltS_irr] at hx; cases hx
      rw [if_neg (by rw [h1]; simp)]
      have h2 : ¬ x.Key = c.Key := fun e => by rw [e, ltS_irr] at hx; cases hx
      dsimp only; rw [if_neg h2]
    rw [List.foldl_cons, e, rf_low A _ (fun y hy => h y (List.mem_cons_of_mem _ hy))]; simp
theorem rf_high {c : Change} : ∀ (B : List Change) (acc : List Change), (∀ y ∈ B, ltS c.Key y.Key = true) → B.foldl (rfStep c) (acc, true) = (acc ++ B, true)
  | [], s, h => by simp
  | x :: B, acc, h => by
    have hx := h x (List.mem_cons_self ..)
    have e : rfStep c (acc, true) x = (acc ++ [x], true) := by
      unfold rfStep
      rw [if_neg (by simp)]
      have h2 : ¬ x.Key = c.Key := fun e => by rw [e, ltS_irr] at hx; cases hx
      dsimp only; rw [if_neg h2]
    rw [List.foldl_cons, e, rf_high B _ (fun y hy => h y (List.mem_cons_of_mem _ hy))]; simp
theorem rf_tail {c : Change} {acc B : List Change} {b : Bool} (hb : ∀ y ∈ B, ltS c.Key y.Key = true) (hg : b = c.Gone) :
    (if (B.foldl (rfStep c) (acc, b)).2 = true then (B.foldl (rfStep c) (acc, b)).1 else (B.foldl (rfStep c) (acc, b)).1 ++ [c]) = acc ++ mid c ++ B := by
  unfold mid
  cases b with
  | true => rw [rf_high B acc hb, ← hg]; simp
  | false =>
    rw [← hg]
    cases B with
    | nil => simp
    | cons x B =>
      have hx := hb x (List.mem_cons_self ..)
      have e : rfStep c (acc, false) x = (acc ++ [c] ++ [x], true) := by
        unfold rfStep
        rw [if_pos ⟨rfl, by rw [hx]; rfl⟩]
        have h2 : ¬ x.Key = c.Key := fun e => by rw [e, ltS_irr] at hx; cases hx
        dsimp only; rw [if_neg h2]
      rw [List.foldl_cons, e, rf_high B _ (fun y hy => hb y (List.mem_cons_of_mem _ hy))]; simp
theorem rf1_hit {A B : List Change} {x c : Change} (hx : x.Key = c.Key) (ha : ∀ y ∈ A, ltS y.Key c.Key = true) (hb : ∀ y ∈ B, ltS c.Key y.Key = true) : rf1 (A ++ x :: B) c = A ++ mid c ++ B := by
  unfold rf1 rfGo
  rw [List.foldl_append, rf_low A _ ha, List.nil_append, List.foldl_cons]
  have h1 : (ltS c.Key x.Key || decide (c.Key = x.Key)) = true := by rw [hx]; simp
  cases hg : c.Gone with
  | true =>
    have e : rfStep c (A, true) x = (A, true) := by unfold rfStep; rw [if_neg (by simp)]; dsimp only; rw [if_pos hx]
    rw [e, rf_high B A hb]; simp [mid, hg]
  | false =>
    have e : rfStep c (A, false) x = (A ++ [c], true) := by unfold rfStep; rw [if_pos ⟨rfl, h1⟩]; dsimp only; rw [if_pos hx]
    rw [e, rf_high B _ hb]; simp [mid, hg]
theorem rf1_miss {A B : List Change} {c : Change} (ha : ∀ y ∈ A, ltS y.Key c.Key = true) (hb : ∀ y ∈ B, ltS c.Key y.Key = true) : rf1 (A ++ B) c = A ++ mid c ++ B := by
  unfold rf1 rfGo
  rw [List.foldl_append, rf_low A _ ha, List.nil_append]
  exact rf_tail hb rfl
theorem ap1_eq {l : List Change} (h : RiseC l) (c : Change) : ap1 l c = rf1 l c := by
  rcases h.cut c.Key with ⟨A, B, x, rfl, hx, ha, hb⟩ | ⟨A, B, rfl, ha, hb⟩
  · rw [ap1_hit hx ha hb, rf1_hit hx ha hb]
  · rw [ap1_miss ha hb, rf1_miss ha hb]
theorem ap1_mid {l : List Change} (h : RiseC l) (c : Change) : ∃ A B, ap1 l c = A ++ mid c ++ B ∧ (∀ y ∈ A, ltS y.Key c.Key = true) ∧ (∀ y ∈ B, ltS c.Key y.Key = true) ∧ RiseC (A ++ B) ∧ ∀ y, y ∈ A ++ B ↔ y ∈ l ∧ y.Key ≠ c.Key := by
  have hlt : ∀ {y : Change}, ltS y.Key c.Key = true → y.Key ≠ c.Key := fun h e => by rw [e, ltS_irr] at h; cases h
  have hgt : ∀ {y : Change}, ltS c.Key y.Key = true → y.Key ≠ c.Key := fun h e => by rw [e, ltS_irr] at h; cases h
  rcases h.cut c.Key with ⟨A, B, x, rfl, hx, ha, hb⟩ | ⟨A, B, rfl, ha, hb⟩
  · refine ⟨A, B, ap1_hit hx ha hb, ha, hb, ?_, fun y => ?_⟩
    · obtain ⟨h1, h2, h3⟩ := List.pairwise_append.1 h
      exact List.pairwise_append.2 ⟨h1, (List.pairwise_cons.1 h2).2, fun a ha b hb => h3 a ha b (List.mem_cons_of_mem _ hb)⟩
    · simp only [List.mem_append, List.mem_cons]
      constructor
      · rintro (h | h)
        · exact ⟨.inl h, hlt (ha y h)⟩
        · exact ⟨.inr (.inr h), hgt (hb y h)⟩
      · rintro ⟨h | h | h, k⟩
        · exact .inl h
        · subst h; exact absurd hx k
        · exact .inr h
  · refine ⟨A, B, ap1_miss ha hb, ha, hb, h, fun y => ⟨fun hy => ⟨hy, ?_⟩, And.left⟩⟩
    rcases List.mem_append.1 hy with h | h
    · exact hlt (ha y h)
    · exact hgt (hb y h)
theorem ap1_rise {l : List Change} (h : RiseC l) (c : Change) : RiseC (ap1 l c) := by
  obtain ⟨A, B, e, ha, hb, hr, _⟩ := ap1_mid h c
  rw [e]
  obtain ⟨h1, h2, h3⟩ := List.pairwise_append.1 hr
  unfold mid
  split
  · rw [List.append_nil]; exact hr
  · exact List.pairwise_append.2 ⟨List.pairwise_append.2 ⟨h1, List.pairwise_singleton _ _, fun a haa b hbb => by rw [List.mem_singleton.1 hbb]; exact ha a haa⟩, h2, fun a haa b hbb => by
      rcases List.mem_append.1 haa with q | q
      · exact h3 a q b hbb
      · rw [List.mem_singleton.1 q]; exact hb b hbb⟩
theorem mem_ap1 {l : List Change} (h : RiseC l) {c y : Change} : y ∈ ap1 l c ↔ (y ∈ l ∧ y.Key ≠ c.Key) ∨ (c.Gone = false ∧ y = c) := by
  obtain ⟨A, B, e, ha, hb, hr, hm⟩ := ap1_mid h c
  rw [e, ← hm y]
  simp only [List.mem_append, mid]
  cases c.Gone
  · rw [if_neg (by decide)]
    simp only [List.mem_singleton, true_and]
    constructor
    · rintro ((h | h) | h)
      · exact .inl (.inl h)
      · exact .inr h
      · exact .inl (.inr h)
    · rintro ((h | h) | h)
      · exact .inl (.inl h)
      · exact .inr h
      · exact .inl (.inr h)
  · rw [if_pos rfl]
    simp
theorem apply_rise : ∀ (l : List Change) {rows : List Change}, RiseC rows → RiseC (applyR rows l)
  | [], rows, h => h
  | c :: l, rows, h => apply_rise l (ap1_rise h c)
theorem apply_eq : ∀ (l : List Change) {rows : List Change}, RiseC rows → applyR rows l = appliedR rows l
  | [], rows, h => rfl
  | c :: l, rows, h => by
    show applyR (ap1 rows c) l = appliedR (rf1 rows c) l
    rw [← ap1_eq h c]; exact apply_eq l (ap1_rise h c)
theorem riseC_ext : ∀ (a b : List Change), RiseC a → RiseC b → (∀ x, x ∈ a ↔ x ∈ b) → a = b
  | [], [], _, _, _ => rfl
  | [], y :: b, _, _, h => absurd ((h y).2 (List.mem_cons_self ..)) (by simp)
  | x :: a, [], _, _, h => absurd ((h x).1 (List.mem_cons_self ..)) (by simp)
  | x :: a, y :: b, ha, hb, h => by
    obtain ⟨a1, a2⟩ := List.pairwise_cons.1 ha
    obtain ⟨b1, b2⟩ := List.pairwise_cons.1 hb
    have no : ∀ {u v : Change}, ltS u.Key v.Key = true → ltS v.Key u.Key = true → False := fun h k => by
      have := ltS_asymm h; rw [k] at this; cases this
    have hxy : x = y := by
      rcases List.mem_cons.1 ((h x).1 (List.mem_cons_self ..)) with e | e
      · exact e
      · rcases List.mem_cons.1 ((h y).2 (List.mem_cons_self ..)) with e2 | e2
        · exact e2.symm
        · exact (no (b1 x e) (a1 y e2)).elim
    subst hxy
    congr 1
    refine riseC_ext a b a2 b2 fun z => ⟨fun hz => ?_, fun hz => ?_⟩
    · rcases List.mem_cons.1 ((h z).1 (List.mem_cons_of_mem _ hz)) with e | e
      · subst e; have := a1 z hz; rw [ltS_irr] at this; cases this
      · exact e
    · rcases List.mem_cons.1 ((h z).2 (List.mem_cons_of_mem _ hz)) with e | e
      · subst e; have := b1 z hz; rw [ltS_irr] at this; cases this
      · exact e
end Go.Proofs.Ytpipachmngdegaa
end
