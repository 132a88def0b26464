import Derived.Test.YtpipachmngdegaaStoreSaysProofG18
import Derived.Test.YtpipachmngdegaaStoreSaysProofG22
import Derived.Test.YtpipachmngdegaaStoreSaysProofG17
section
/-
  A log as plain data: its sectors, how they are read, how a deed is added. No program.
-/
namespace Go.Proofs.Ytpipachmngdegaa
open Go Go.RowKit
set_option linter.unusedVariables false

structure Lg where
  From : Int
  Many : Int
  First : Int
  Next : Int
  deriving DecidableEq
/-- four bytes of a number -/
def fourB (n : Int) : ByteArray := ⟨#[u8 (n % 256), u8 (n / 256 % 256), u8 (n / 65536 % 256), u8 (n / 16777216 % 256)]⟩
theorem fourB_size (n : Int) : (fourB n).size = 4 := rfl
theorem fourB_bl (n : Int) : bl (fourB n) = [u8 (n % 256), u8 (n / 256 % 256), u8 (n / 65536 % 256), u8 (n / 16777216 % 256)] := rfl
theorem u8_inj {a b : Int} (ha : 0 ≤ a ∧ a ≤ 255) (hb : 0 ≤ b ∧ b ≤ 255) (h : u8 a = u8 b) : a = b := by
  rw [← u8_toNat ha, ← u8_toNat hb, h]
theorem fourB_inj {a b : Int} (ha : 0 ≤ a ∧ a < 4294967296) (hb : 0 ≤ b ∧ b < 4294967296) (h : fourB a = fourB b) : a = b := by
  have h1 : bl (fourB a) = bl (fourB b) := by rw [h]
  rw [fourB_bl, fourB_bl] at h1
  simp only [List.cons.injEq, and_true] at h1
  obtain ⟨e0, e1, e2, e3⟩ := h1
  have i0 := u8_inj (by omega) (by omega) e0
  have i1 := u8_inj (by omega) (by omega) e1
  have i2 := u8_inj (by omega) (by omega) e2
  have i3 := u8_inj (by omega) (by omega) e3
  omega
/-- a sector's text -/
def secT (k : Int) (n : Int) (s : ByteArray) : ByteArray := ⟨#[u8 k]⟩ ++ fourB n ++ ⟨#[UInt8.ofNat s.size, UInt8.ofNat (s.size / 256)]⟩ ++ s
theorem secT_bl (k n : Int) (s : ByteArray) : bl (secT k n s) = u8 k :: u8 (n % 256) :: u8 (n / 256 % 256) :: u8 (n / 65536 % 256) :: u8 (n / 16777216 % 256) :: UInt8.ofNat s.size :: UInt8.ofNat (s.size / 256) :: bl s := by
  unfold secT; simp only [bl_app, fourB_bl]; rfl
theorem secT_size (k n : Int) (s : ByteArray) : (secT k n s).size = 7 + s.size := by
  rw [← bl_len, secT_bl]; simp only [List.length_cons, bl_len]; omega
/-- how long a sector says that its text is, and its text -/
def lenB (s : ByteArray) : Nat := byteAt s 5 + 256 * byteAt s 6
def txtB (s : ByteArray) : ByteArray := s.extract 7 (7 + lenB s)
def lookS (s : ByteArray) (n : Int) : Int × ByteArray × Bool :=
  if s.extract 1 5 = fourB n ∧ (byteAt s 0 = 111 ∨ byteAt s 0 = 99) ∧ lenB s ≤ 41 then ((byteAt s 0 : Int), txtB s, true) else (0, ⟨#[]⟩, false)
/-- the end of a deed of so many changes; a change -/
def isC (s : ByteArray) (n k : Int) : Bool := decide (s.extract 1 5 = fourB n) && decide (lenB s ≤ 41) && decide (byteAt s 0 = 99) && decide (txtB s = fourB k)
def isO (s : ByteArray) (n : Int) : Bool := decide (s.extract 1 5 = fourB n) && decide (lenB s ≤ 41) && decide (byteAt s 0 = 111) && decide ((chP (txtB s)).2 = 0)
def scD : List ByteArray → Int → List (List Change) → List Change → Nat → Nat → List (List Change) × Nat
  | [], _, out, _, used, _ => (out, used)
  | s :: r, n, out, deed, used, pos =>
    if isC s n (deed.length : Int) = true then scD r (n + 1) (out ++ [deed]) [] (pos + 1) (pos + 1)
    else if isO s n = true then scD r (n + 1) out (deed ++ [(chP (txtB s)).1]) used (pos + 1)
    else (out, used)
def scan (l : List ByteArray) (first : Int) : List (List Change) × Nat := scD l first [] [] 0 0
section
variable {l : List ByteArray} {first n : Int} {out : List (List Change)} {deed : List Change} {used pos i : Nat} {s : ByteArray} {Z : List (List Change) × Nat}
theorem drop_at {α : Type} {l : List α} {i : Nat} {s : α} (h : l[i]? = some s) : l.drop i = s :: l.drop (i + 1) := by
  obtain ⟨h1, h2⟩ := List.getElem?_eq_some_iff.1 h
  rw [List.drop_eq_getElem_cons h1, h2]
theorem sc_close (h : scD (l.drop i) (first + (i : Int)) out deed used i = Z) (hs : l[i]? = some s) (hc : isC s (first + (i : Int)) (deed.length : Int) = true) :
    scD (l.drop (i + 1)) (first + ((i + 1 : Nat) : Int)) (out ++ [deed]) [] (i + 1) (i + 1) = Z := by
  rw [drop_at hs] at h
  unfold scD at h
  rw [if_pos hc] at h
  rw [show first + ((i + 1 : Nat) : Int) = first + (i : Int) + 1 by omega]
  exact h
theorem sc_open (h : scD (l.drop i) (first + (i : Int)) out deed used i = Z) (hs : l[i]? = some s) (hc : isC s (first + (i : Int)) (deed.length : Int) = false) (ho : isO s (first + (i : Int)) = true) :
    scD (l.drop (i + 1)) (first + ((i + 1 : Nat) : Int)) out (deed ++ [(chP (txtB s)).1]) used (i + 1) = Z := by
  rw [drop_at hs] at h
  unfold scD at h
  rw [if_neg (by rw [hc]; decide), if_pos ho] at h
  rw [show first + ((i + 1 : Nat) : Int) = first + (i : Int) + 1 by omega]
  exact h
theorem sc_stop (h : scD (l.drop i) (first + (i : Int)) out deed used i = Z) (hs : l[i]? = some s) (hc : isC s (first + (i : Int)) (deed.length : Int) = false) (ho : isO s (first + (i : Int)) = false) : Z = (out, used) := by
  rw [drop_at hs] at h
  unfold scD at h
  rw [if_neg (by rw [hc]; decide), if_neg (by rw [ho]; decide)] at h
  exact h.symm
theorem sc_end (h : scD (l.drop i) (first + (i : Int)) out deed used i = Z) (hl : l.length ≤ i) : Z = (out, used) := by
  rw [List.drop_of_length_le hl] at h
  exact h.symm
theorem isC_not {k : Int} (h : ¬ byteAt s 0 = 99) : isC s n k = false := by unfold isC; simp [h]
theorem isO_not (h : ¬ byteAt s 0 = 111) : isO s n = false := by unfold isO; simp [h]
theorem isC_head {k : Int} (h : ¬ s.extract 1 5 = fourB n) : isC s n k = false := by unfold isC; simp [h]
theorem isO_head (h : ¬ s.extract 1 5 = fourB n) : isO s n = false := by unfold isO; simp [h]
/-- of a scan that is known, how it goes on from the last deed's end, whatever stands there -/
theorem sc_cut : ∀ (l : List ByteArray) (n : Int) (out : List (List Change)) (deed : List Change) (used pos : Nat),
    scD l n out deed used pos = (out, used) ∨ (pos < (scD l n out deed used pos).2 ∧ (scD l n out deed used pos).2 ≤ pos + l.length ∧
      ∀ l' : List ByteArray, l'.take ((scD l n out deed used pos).2 - pos) = l.take ((scD l n out deed used pos).2 - pos) →
        scD l' n out deed used pos = scD (l'.drop ((scD l n out deed used pos).2 - pos)) (n + (((scD l n out deed used pos).2 - pos : Nat) : Int)) (scD l n out deed used pos).1 [] (scD l n out deed used pos).2 (scD l n out deed used pos).2)
  | [], n, out, deed, used, pos => .inl rfl
  | s :: r, n, out, deed, used, pos => by
    have key : ∀ (out' : List (List Change)) (deed' : List Change) (used' : Nat), scD (s :: r) n out deed used pos = scD r (n + 1) out' deed' used' (pos + 1) →
        (∀ r', scD (s :: r') n out deed used pos = scD r' (n + 1) out' deed' used' (pos + 1)) →
        (pos + 1 < (scD r (n + 1) out' deed' used' (pos + 1)).2 ∧ (scD r (n + 1) out' deed' used' (pos + 1)).2 ≤ pos + 1 + r.length ∧
          ∀ l' : List ByteArray, l'.take ((scD r (n + 1) out' deed' used' (pos + 1)).2 - (pos + 1)) = r.take ((scD r (n + 1) out' deed' used' (pos + 1)).2 - (pos + 1)) →
            scD l' (n + 1) out' deed' used' (pos + 1) = scD (l'.drop ((scD r (n + 1) out' deed' used' (pos + 1)).2 - (pos + 1))) (n + 1 + (((scD r (n + 1) out' deed' used' (pos + 1)).2 - (pos + 1) : Nat) : Int)) (scD r (n + 1) out' deed' used' (pos + 1)).1 [] (scD r (n + 1) out' deed' used' (pos + 1)).2 (scD r (n + 1) out' deed' used' (pos + 1)).2) →
        (pos < (scD (s :: r) n out deed used pos).2 ∧ (scD (s :: r) n out deed used pos).2 ≤ pos + (s :: r).length ∧
          ∀ l' : List ByteArray, l'.take ((scD (s :: r) n out deed used pos).2 - pos) = (s :: r).take ((scD (s :: r) n out deed used pos).2 - pos) →
            scD l' n out deed used pos = scD (l'.drop ((scD (s :: r) n out deed used pos).2 - pos)) (n + (((scD (s :: r) n out deed used pos).2 - pos : Nat) : Int)) (scD (s :: r) n out deed used pos).1 [] (scD (s :: r) n out deed used pos).2 (scD (s :: r) n out deed used pos).2) := by
      intro out' deed' used' e e' h
      rw [e]
      generalize scD r (n + 1) out' deed' used' (pos + 1) = R at h
      obtain ⟨h1, h2, h3⟩ := h
      refine ⟨by omega, by rw [List.length_cons]; omega, fun l' hl' => ?_⟩
      obtain ⟨m, hm⟩ : ∃ m, R.2 - pos = m + 1 := ⟨R.2 - pos - 1, by omega⟩
      have hm' : R.2 - (pos + 1) = m := by omega
      rw [hm] at hl' ⊢
      rw [hm'] at h3
      cases l' with
      | nil => simp at hl'
      | cons s' r' =>
        rw [List.take_succ_cons, List.take_succ_cons] at hl'
        injection hl' with q1 q2
        subst q1
        rw [e', h3 r' q2, List.drop_succ_cons]
        rw [show n + 1 + (m : Int) = n + ((m + 1 : Nat) : Int) by omega]
    by_cases hc : isC s n (deed.length : Int) = true
    · right
      have e : ∀ r', scD (s :: r') n out deed used pos = scD r' (n + 1) (out ++ [deed]) [] (pos + 1) (pos + 1) := fun r' => by rw [scD, if_pos hc]
      rcases sc_cut r (n + 1) (out ++ [deed]) [] (pos + 1) (pos + 1) with h | h
      · rw [e r, h]
        refine ⟨by omega, by rw [List.length_cons]; omega, fun l' hl' => ?_⟩
        dsimp only at hl' ⊢
        rw [show pos + 1 - pos = 1 by omega] at hl' ⊢
        cases l' with
        | nil => simp at hl'
        | cons s' r' =>
          rw [List.take_succ_cons, List.take_succ_cons] at hl'
          injection hl' with q1 q2
          subst q1
          rw [e]; rfl
      · exact key _ _ _ (e r) e h
    · by_cases ho : isO s n = true
      · have e : ∀ r', scD (s :: r') n out deed used pos = scD r' (n + 1) out (deed ++ [(chP (txtB s)).1]) used (pos + 1) := fun r' => by rw [scD, if_neg hc, if_pos ho]
        rcases sc_cut r (n + 1) out (deed ++ [(chP (txtB s)).1]) used (pos + 1) with h | h
        · left; rw [e r, h]
        · right; exact key _ _ _ (e r) e h
      · left; rw [scD, if_neg hc, if_neg ho]
theorem scan_le (l : List ByteArray) (first : Int) : (scan l first).2 ≤ l.length := by
  rcases sc_cut l first [] [] 0 0 with h | ⟨_, h, _⟩
  · unfold scan; rw [h]; exact Nat.zero_le _
  · unfold scan; omega
theorem scan_cut {l l' : List ByteArray} {first : Int} (h : l'.take (scan l first).2 = l.take (scan l first).2) :
    scan l' first = scD (l'.drop (scan l first).2) (first + ((scan l first).2 : Int)) (scan l first).1 [] (scan l first).2 (scan l first).2 := by
  rcases sc_cut l first [] [] 0 0 with h1 | ⟨_, _, h1⟩
  · have e : scan l first = ([], 0) := h1
    rw [e]; simp [scan]
  · unfold scan at h ⊢
    exact h1 l' (by simpa using h)
/-- no deed ends in what follows: nothing is added -/
theorem sc_none : ∀ (l : List ByteArray) (n : Int) (out : List (List Change)) (deed : List Change) (used pos : Nat), (∀ s ∈ l, ¬ byteAt s 0 = 99) → scD l n out deed used pos = (out, used)
  | [], n, out, deed, used, pos, _ => rfl
  | s :: r, n, out, deed, used, pos, h => by
    rw [scD, if_neg (by rw [isC_not (h s (List.mem_cons_self ..))]; decide)]
    split
    · exact sc_none r _ _ _ _ _ fun s hs => h s (List.mem_cons_of_mem _ hs)
    · rfl
end
/-! ### a sector that was laid, read -/
theorem nou_bl (n : Nat) : bl (nou n) = List.replicate n 0 := by simp [bl, nou]
theorem full_bl (s : ByteArray) : bl (full s) = bl s ++ List.replicate (48 - s.size) 0 := by unfold full; rw [bl_app, nou_bl]
section
variable {k n : Int} {s : ByteArray}
theorem full_sec (hs : s.size ≤ 41) : bl (full (secT k n s)) = u8 k :: u8 (n % 256) :: u8 (n / 256 % 256) :: u8 (n / 65536 % 256) :: u8 (n / 16777216 % 256) :: UInt8.ofNat s.size :: UInt8.ofNat (s.size / 256) :: (bl s ++ List.replicate (41 - s.size) 0) := by
  rw [full_bl, secT_bl, secT_size, show 48 - (7 + s.size) = 41 - s.size by omega]; rfl
theorem sec_kind (hs : s.size ≤ 41) : byteAt (full (secT k n s)) 0 = (u8 k).toNat := by rw [byteAt_bl, full_sec hs]; rfl
theorem sec_head (hs : s.size ≤ 41) : (full (secT k n s)).extract 1 5 = fourB n := ba_ext (by
  have := bl_ext (full (secT k n s)) 1 5
  rw [full_sec hs] at this
  refine this.trans ?_
  rfl)
theorem sec_len (hs : s.size ≤ 41) : lenB (full (secT k n s)) = s.size := by
  unfold lenB
  have b5 : byteAt (full (secT k n s)) 5 = s.size := by rw [byteAt_bl, full_sec hs]; exact u8_small (by omega)
  have b6 : byteAt (full (secT k n s)) 6 = 0 := by rw [byteAt_bl, full_sec hs]; show (UInt8.ofNat (s.size / 256)).toNat = 0; rw [u8_small (by omega)]; omega
  rw [b5, b6]; omega
theorem sec_txt (hs : s.size ≤ 41) : txtB (full (secT k n s)) = s := by
  unfold txtB
  rw [sec_len hs]
  exact ba_ext (by
    have := bl_ext (full (secT k n s)) 7 (7 + s.size)
    rw [full_sec hs] at this
    refine this.trans ?_
    rw [show 7 + s.size = s.size + 1 + 1 + 1 + 1 + 1 + 1 + 1 by omega]
    simp only [List.take_succ_cons, List.drop_succ_cons, List.drop_zero]
    rw [← bl_len s, List.take_left])
theorem sec_isC {c : Int} (n : Int) : isC (full (secT 99 n (fourB c))) n c = true := by
  have h : (fourB c).size ≤ 41 := by rw [fourB_size]; omega
  unfold isC
  rw [sec_head h, sec_len h, sec_kind h, sec_txt h, fourB_size]
  simp; rfl
theorem sec_noC {c : Int} (hs : s.size ≤ 41) (n m : Int) : isC (full (secT 111 n s)) m c = false := isC_not (by rw [sec_kind hs]; decide)
theorem sec_isO {c : Change} (hc : chF c = 0) (n : Int) : isO (full (secT 111 n (chB c).1)) n = true := by
  have h : (chB c).1.size ≤ 41 := by
    obtain ⟨_, _, h3, h4⟩ := chF_zero hc
    rw [chB_size hc]; omega
  unfold isO
  rw [sec_head h, sec_len h, sec_kind h, sec_txt h, chP_chB hc]
  simp [h]; rfl
theorem sec_chP {c : Change} (hc : chF c = 0) (n : Int) : (chP (txtB (full (secT 111 n (chB c).1)))).1 = c := by
  have h : (chB c).1.size ≤ 41 := by
    obtain ⟨_, _, h3, h4⟩ := chF_zero hc
    rw [chB_size hc]; omega
  rw [sec_txt h, chP_chB hc]
theorem blank_kind : byteAt (full ⟨#[]⟩) 0 = 0 := by decide +kernel
theorem nou_kind : byteAt (nou 48) 0 = 0 := by decide +kernel
theorem full_nil : full ⟨#[]⟩ = nou 48 := by decide +kernel
end
/-- the sectors of a deed that is open -/
def oSecs (n : Int) : List Change → List ByteArray
  | [] => []
  | c :: l => full (secT 111 n (chB c).1) :: oSecs (n + 1) l
theorem oSecs_len : ∀ (l : List Change) (n : Int), (oSecs n l).length = l.length
  | [], _ => rfl
  | c :: l, n => by simp [oSecs, oSecs_len l]
theorem oSecs_kind : ∀ (l : List Change) (n : Int), (∀ c ∈ l, chF c = 0) → ∀ s ∈ oSecs n l, ¬ byteAt s 0 = 99
  | [], _, _, s, hs => by cases hs
  | c :: l, n, h, s, hs => by
    rcases List.mem_cons.1 hs with rfl | hs
    · have hc := h c (List.mem_cons_self ..)
      obtain ⟨_, _, h3, h4⟩ := chF_zero hc
      rw [sec_kind (by rw [chB_size hc]; omega)]; decide
    · exact oSecs_kind l _ (fun c hc => h c (List.mem_cons_of_mem _ hc)) s hs
theorem oSecs_get : ∀ (l : List Change) (n : Int) (i : Nat) (c : Change), l[i]? = some c → (oSecs n l)[i]? = some (full (secT 111 (n + (i : Int)) (chB c).1))
  | [], _, i, c, h => by simp at h
  | x :: l, n, 0, c, h => by
    simp at h; subst h; simp [oSecs]
  | x :: l, n, i + 1, c, h => by
    simp at h
    have := oSecs_get l (n + 1) i c h
    simp only [oSecs, List.getElem?_cons_succ]
    rw [this, show n + 1 + (i : Int) = n + ((i + 1 : Nat) : Int) by omega]
theorem sc_oSecs : ∀ (l : List Change) (n : Int) (r : List ByteArray) (out : List (List Change)) (deed : List Change) (used pos : Nat), (∀ c ∈ l, chF c = 0) →
    scD (oSecs n l ++ r) n out deed used pos = scD r (n + (l.length : Int)) out (deed ++ l) used (pos + l.length)
  | [], n, r, out, deed, used, pos, _ => by simp [oSecs]
  | c :: l, n, r, out, deed, used, pos, h => by
    have hc := h c (List.mem_cons_self ..)
    obtain ⟨_, _, h3, h4⟩ := chF_zero hc
    have hs : (chB c).1.size ≤ 41 := by rw [chB_size hc]; omega
    simp only [oSecs, List.cons_append]
    rw [scD, if_neg (by rw [sec_noC hs]; decide), if_pos (sec_isO hc n), sec_chP hc, sc_oSecs l _ r _ _ _ _ (fun c hc => h c (List.mem_cons_of_mem _ hc))]
    rw [List.append_assoc, List.length_cons, show n + 1 + (l.length : Int) = n + ((l.length + 1 : Nat) : Int) by omega, show pos + 1 + l.length = pos + (l.length + 1) by omega]
    rfl
/-- what a whole deed adds -/
theorem sc_deed {l : List Change} {n : Int} {r : List ByteArray} {out : List (List Change)} {used : Nat} (hl : ∀ c ∈ l, chF c = 0) (hr : r = [] ∨ ∃ s r', r = s :: r' ∧ byteAt s 0 = 0) :
    scD (oSecs n l ++ full (secT 99 (n + (l.length : Int)) (fourB (l.length : Int))) :: r) n out [] used used = (out ++ [l], used + l.length + 1) := by
  rw [sc_oSecs l n _ _ _ _ _ hl]
  rw [scD, List.nil_append, if_pos (sec_isC _)]
  rcases hr with rfl | ⟨s, r', rfl, hs⟩
  · rfl
  · rw [scD, if_neg (by rw [isC_not (by omega)]; decide), if_neg (by rw [isO_not (by omega)]; decide)]
end Go.Proofs.Ytpipachmngdegaa
end
