import Derived.Test.YtpipachmngdegaaStoreSaysProofG20
import Derived.Test.YtpipachmngdegaaStoreSaysProofG15
import Derived.Test.YtpipachmngdegaaStoreSaysProofG12
import Derived.Lib.Bytealg
import Derived.Sort.Walk0
section
/-
  Chapter 4 as plain functions: places, what is held, as the program looks for it. No program.
-/
namespace Go.Proofs.Ytpipachmngdegaa
set_option linter.unusedVariables false

def placeFault (p : Place) : Int := if p.Holder < 1 ∨ 4 < p.Holder ∨ p.Slot < 0 ∨ 5 < p.Slot then 1 else 0
def cmpP (p q : Place) : Int := if cmpI p.Holder q.Holder = 0 then cmpI p.Slot q.Slot else cmpI p.Holder q.Holder
theorem cmpP_or (p q : Place) : orI [cmpI p.Holder q.Holder, cmpI p.Slot q.Slot] = cmpP p q := by
  simp only [orI, cmpP]
  split
  · split
    · rename_i h; exact h.symm
    · rfl
  · rfl
theorem cmpP_zero {p q : Place} (h : cmpP p q = 0) : p = q := by
  cases p; cases q
  simp only [cmpP, cmpI] at h
  simp only [Place.mk.injEq]
  split at h <;> (try split at h) <;> (try split at h) <;> (try split at h) <;> omega
theorem cmpP_self (p : Place) : cmpP p p = 0 := by simp [cmpP, cmpI]
def posH (l : List Held) (p : Place) : Nat := bsL (fun h => cmpP h.Place p) l
def isH (l : List Held) (p : Place) : Bool := bsF (fun h => cmpP h.Place p) l
theorem posH_le (l : List Held) (p : Place) : posH l p ≤ l.length := bsL_le
theorem isH_cases (l : List Held) (p : Place) : isH l p = false ∨ ∃ x, l[posH l p]? = some x ∧ isH l p = true ∧ x.Place = p ∧ posH l p < l.length := by
  cases h : isH l p with
  | false => exact .inl rfl
  | true =>
    obtain ⟨x, h1, h2⟩ := bsF_true h
    exact .inr ⟨x, h1, rfl, cmpP_zero h2, (List.getElem?_eq_some_iff.1 h1).1⟩
def atH (l : List Held) (p : Place) : Int := if isH l p then (match l[posH l p]? with | some x => x.Writ | none => 0) else 0
theorem atH_no {l : List Held} {p : Place} (h : isH l p = false) : atH l p = 0 := by simp [atH, h]
theorem atH_hit {l : List Held} {p : Place} {x : Held} (h : isH l p = true) (hx : l[posH l p]? = some x) : atH l p = x.Writ := by simp [atH, h, hx]
def putH (l : List Held) (p : Place) (id : Int) : List Held :=
  if isH l p then (if id = 0 then l.take (posH l p) ++ l.drop (posH l p + 1) else l.set (posH l p) ⟨p, id⟩)
  else if id = 0 then l else l.take (posH l p) ++ [⟨p, id⟩] ++ l.drop (posH l p)
theorem putH_len (l : List Held) (p : Place) (id : Int) : (putH l p id).length ≤ l.length + 1 := by
  have := posH_le l p
  unfold putH; split <;> split <;> simp <;> omega
def freeGo (l : List Held) (h : Int) : Nat → Nat → Int
  | 0, _ => -1
  | n + 1, s => if atH l ⟨h, s⟩ = 0 then s else freeGo l h n (s + 1)
def freeH (l : List Held) (h : Int) : Int := freeGo l h 6 0
theorem freeGo_hit {l : List Held} {h : Int} {n s : Nat} (e : atH l ⟨h, s⟩ = 0) (hn : 0 < n) : freeGo l h n s = s := by
  cases n with
  | zero => omega
  | succ n => simp [freeGo, e]
theorem freeGo_step {l : List Held} {h : Int} {s : Nat} (e : ¬ atH l ⟨h, s⟩ = 0) (hs : s < 6) : freeGo l h (6 - s) s = freeGo l h (6 - (s + 1)) (s + 1) := by
  have : 6 - s = (6 - (s + 1)) + 1 := by omega
  rw [this]; simp only [freeGo]; rw [if_neg e]
def whereH (l : List Held) (id : Int) : Place × Bool := match l.find? (fun h => h.Writ == id) with | some h => (h.Place, true) | none => (⟨0, 0⟩, false)
theorem whereH_hit {l : List Held} {id : Int} {k : Nat} {x : Held} (hx : l[k]? = some x) (he : x.Writ = id) (hb : ∀ (j : Nat) y, j < k → l[j]? = some y → ¬ y.Writ = id) : whereH l id = (x.Place, true) := by
  have hk := (List.getElem?_eq_some_iff.1 hx).1
  have : l.find? (fun h => h.Writ == id) = some x := by
    rw [List.find?_eq_some_iff_getElem]
    refine ⟨by simp [he], k, hk, (List.getElem?_eq_some_iff.1 hx).2, fun j hj => ?_⟩
    have := hb j l[j] hj (List.getElem?_eq_getElem (by omega))
    simp [this]
  simp [whereH, this]
theorem whereH_none {l : List Held} {id : Int} (hb : ∀ (j : Nat) y, j < l.length → l[j]? = some y → ¬ y.Writ = id) : whereH l id = (⟨0, 0⟩, false) := by
  have : l.find? (fun h => h.Writ == id) = none := by
    rw [List.find?_eq_none]
    intro x hx
    obtain ⟨j, hj⟩ := List.mem_iff_getElem?.1 hx
    have := hb j x (List.getElem?_eq_some_iff.1 hj).1 hj
    simp [this]
  simp [whereH, this]
theorem whereH_cases (l : List Held) (id : Int) : (whereH l id = (⟨0, 0⟩, false) ∧ ∀ y ∈ l, ¬ y.Writ = id) ∨ ∃ j x, l[j]? = some x ∧ x.Writ = id ∧ (∀ (i : Nat) y, i < j → l[i]? = some y → ¬ y.Writ = id) ∧ whereH l id = (x.Place, true) := by
  cases h : l.find? (fun h => h.Writ == id) with
  | none =>
    refine .inl ⟨by simp [whereH, h], fun y hy => ?_⟩
    have := List.find?_eq_none.1 h y hy
    simpa using this
  | some x =>
    obtain ⟨hp, j, hj, hx, hb⟩ := List.find?_eq_some_iff_getElem.1 h
    refine .inr ⟨j, x, by rw [List.getElem?_eq_getElem hj, hx], by simpa using hp, fun i y hi hy => ?_, by simp [whereH, h]⟩
    have := hb i hi
    have he := (List.getElem?_eq_some_iff.1 hy).2
    rw [he] at this; simpa using this
/-! ### the document's -/
def atRef (l : List Held) (p : Place) : Int := match l.find? (fun h => h.Place == p) with | some h => h.Writ | none => 0
theorem atRef_hit {l : List Held} {p : Place} {k : Nat} {x : Held} (hx : l[k]? = some x) (he : x.Place = p) (hb : ∀ (j : Nat) y, j < k → l[j]? = some y → ¬ y.Place = p) : atRef l p = x.Writ := by
  have hk := (List.getElem?_eq_some_iff.1 hx).1
  have : l.find? (fun h => h.Place == p) = some x := by
    rw [List.find?_eq_some_iff_getElem]
    refine ⟨by simp [he], k, hk, (List.getElem?_eq_some_iff.1 hx).2, fun j hj => ?_⟩
    have := hb j l[j] hj (List.getElem?_eq_getElem (by omega))
    simp [this]
  simp [atRef, this]
theorem atRef_none {l : List Held} {p : Place} (hb : ∀ (j : Nat) y, j < l.length → l[j]? = some y → ¬ y.Place = p) : atRef l p = 0 := by
  have : l.find? (fun h => h.Place == p) = none := by
    rw [List.find?_eq_none]
    intro x hx
    obtain ⟨j, hj⟩ := List.mem_iff_getElem?.1 hx
    have := hb j x (List.getElem?_eq_some_iff.1 hj).1 hj
    simp [this]
  simp [atRef, this]
/-- one round of putting: (what is laid so far, is it laid?) -/
def putStep (p : Place) (id : Int) (s : List Held × Bool) (h : Held) : List Held × Bool :=
  let s1 := if s.2 = false ∧ (p.Holder < h.Place.Holder ∨ (p.Holder = h.Place.Holder ∧ p.Slot ≤ h.Place.Slot)) then (s.1 ++ [⟨p, id⟩], true) else s
  (if h.Place = p then s1.1 else s1.1 ++ [h], s1.2)
theorem putStep_in {p : Place} {id : Int} {acc : List Held} {h : Held} (ho : p.Holder < h.Place.Holder ∨ (p.Holder = h.Place.Holder ∧ p.Slot ≤ h.Place.Slot)) : putStep p id (acc, false) h = (if h.Place = p then acc ++ [⟨p, id⟩] else acc ++ [⟨p, id⟩] ++ [h], true) := by
  unfold putStep; rw [if_pos ⟨rfl, ho⟩]
theorem putStep_out {p : Place} {id : Int} {acc : List Held} {b : Bool} {h : Held} (ho : b = true ∨ ¬ (p.Holder < h.Place.Holder ∨ (p.Holder = h.Place.Holder ∧ p.Slot ≤ h.Place.Slot))) : putStep p id (acc, b) h = (if h.Place = p then acc else acc ++ [h], b) := by
  unfold putStep; rw [if_neg (fun hh => by rcases ho with ho | ho; · rw [ho] at hh; cases hh.1
                                           · exact ho hh.2)]
def putGo (l : List Held) (p : Place) (id : Int) : List Held × Bool := l.foldl (putStep p id) ([], id == 0)
def putRef (l : List Held) (p : Place) (id : Int) : List Held := if (putGo l p id).2 then (putGo l p id).1 else (putGo l p id).1 ++ [⟨p, id⟩]
theorem putGo_snoc (l : List Held) (p : Place) (id : Int) (k : Nat) (x : Held) (h : l[k]? = some x) : putGo (l.take (k + 1)) p id = putStep p id (putGo (l.take k) p id) x := by
  have hk := (List.getElem?_eq_some_iff.1 h).1
  have : l.take (k + 1) = l.take k ++ [x] := by rw [List.take_add_one, h]; rfl
  rw [this]; simp [putGo]
theorem putStep_len (p : Place) (id : Int) (s : List Held × Bool) (h : Held) : (putStep p id s h).1.length ≤ s.1.length + 2 := by
  unfold putStep; dsimp only; split <;> split <;> simp <;> omega
theorem putGo_len (l : List Held) (p : Place) (id : Int) : (putGo l p id).1.length ≤ 2 * l.length := by
  have : ∀ (l : List Held) (s : List Held × Bool), (l.foldl (putStep p id) s).1.length ≤ s.1.length + 2 * l.length := by
    intro l
    induction l with
    | nil => intro s; simp
    | cons h l ih => intro s; simp only [List.foldl_cons, List.length_cons]; have := ih (putStep p id s h); have := putStep_len p id s h; omega
  simpa [putGo] using this l ([], id == 0)
def freeRGo (l : List Held) (h : Int) : Nat → Nat → Int
  | 0, _ => -1
  | n + 1, s => if atRef l ⟨h, s⟩ = 0 then s else freeRGo l h n (s + 1)
def freeRef (l : List Held) (h : Int) : Int := freeRGo l h 6 0
theorem freeRGo_hit {l : List Held} {h : Int} {n s : Nat} (e : atRef l ⟨h, s⟩ = 0) (hn : 0 < n) : freeRGo l h n s = s := by
  cases n with
  | zero => omega
  | succ n => simp [freeRGo, e]
theorem freeRGo_step {l : List Held} {h : Int} {s : Nat} (e : ¬ atRef l ⟨h, s⟩ = 0) (hs : s < 6) : freeRGo l h (6 - s) s = freeRGo l h (6 - (s + 1)) (s + 1) := by
  have : 6 - s = (6 - (s + 1)) + 1 := by omega
  rw [this]; simp only [freeRGo]; rw [if_neg e]
theorem placeFault_01 (p : Place) : placeFault p = 0 ∨ placeFault p = 1 := by unfold placeFault; split <;> simp
theorem placeFault_bad {p : Place} (h : p.Holder < 1 ∨ 4 < p.Holder ∨ p.Slot < 0 ∨ 5 < p.Slot) : placeFault p = 1 := if_pos h
theorem placeFault_ok {p : Place} (h : 1 ≤ p.Holder ∧ p.Holder ≤ 4 ∧ 0 ≤ p.Slot ∧ p.Slot ≤ 5) : placeFault p = 0 := if_neg (by omega)
theorem placeFault_zero {p : Place} (h : placeFault p = 0) : 1 ≤ p.Holder ∧ p.Holder ≤ 4 ∧ 0 ≤ p.Slot ∧ p.Slot ≤ 5 := by
  unfold placeFault at h; split at h <;> omega
/-- do places rise, may each be, and is something there? -/
def ltPl (p q : Place) : Prop := p.Holder < q.Holder ∨ (p.Holder = q.Holder ∧ p.Slot < q.Slot)
def GoodAt (l : List Held) (k : Nat) : Prop := ∀ h, l[k]? = some h → placeFault h.Place = 0 ∧ h.Writ ≠ 0 ∧ ∀ g, 0 < k → l[k - 1]? = some g → ltPl g.Place h.Place
def Good (l : List Held) : Prop := ∀ k, k < l.length → GoodAt l k
noncomputable def goodHeld (l : List Held) : Bool := @decide (Good l) (Classical.propDecidable _)
theorem goodHeld_yes {l : List Held} (h : Good l) : goodHeld l = true := by unfold goodHeld; simp [h]
theorem goodHeld_no {l : List Held} {k : Nat} (hk : k < l.length) (h : ¬ GoodAt l k) : goodHeld l = false := by
  unfold goodHeld; simp; exact fun hg => h (hg k hk)
theorem goodHeld_good {l : List Held} (h : goodHeld l = true) : Good l := by unfold goodHeld at h; simpa using h
theorem good_more {l : List Held} {k : Nat} (h : ∀ j, j < k → GoodAt l j) (hk : GoodAt l k) : ∀ j, j < k + 1 → GoodAt l j := fun j hj => by
  rcases Nat.lt_or_ge j k with h1 | h1
  · exact h j h1
  · have : j = k := by omega
    subst this; exact hk
end Go.Proofs.Ytpipachmngdegaa
end

section
/-
  The walks of chapter 4: where writs are held. The program's and the document's.
-/
namespace Go.Proofs.Ytpipachmngdegaa
open Go Go.RowKit
set_option linter.unusedVariables false
set_option linter.unusedSimpArgs false
set_option maxRecDepth 100000


end Go.Proofs.Ytpipachmngdegaa
end

section
/-
  Texts in order: as lists of bytes. No program.
-/
namespace Go.Proofs.Ytpipachmngdegaa
open Go
set_option linter.unusedVariables false

theorem ba_list (a : ByteArray) : a.toList = a.data.toList := Lib.toList_data a
theorem ba_ext {a b : ByteArray} (h : a.data.toList = b.data.toList) : a = b := by
  cases a with | mk x => cases b with | mk y => congr; exact Array.toList_inj.1 h
theorem ltS_iff (a b : ByteArray) : ltS a b = true ↔ a.data.toList < b.data.toList := by
  unfold ltS; rw [Proofs.bytesLess_eq, ba_list, ba_list]; exact decide_eq_true_iff
theorem ltS_irr (a : ByteArray) : ltS a a = false := by
  rw [Bool.eq_false_iff]; intro h; exact List.lt_irrefl _ ((ltS_iff a a).1 h)
theorem ltS_trans {a b c : ByteArray} (h : ltS a b = true) (k : ltS b c = true) : ltS a c = true := (ltS_iff _ _).2 (List.lt_trans ((ltS_iff _ _).1 h) ((ltS_iff _ _).1 k))
theorem ltS_asymm {a b : ByteArray} (h : ltS a b = true) : ltS b a = false := by
  rw [Bool.eq_false_iff]; intro k; have := ltS_trans h k; rw [ltS_irr] at this; cases this
theorem list_tri : ∀ (x y : List UInt8), x < y ∨ x = y ∨ y < x
  | [], [] => .inr (.inl rfl)
  | [], _ :: _ => .inl (List.Lex.nil)
  | _ :: _, [] => .inr (.inr (List.Lex.nil))
  | a :: x, b :: y => by
    rcases Nat.lt_trichotomy a.toNat b.toNat with h | h | h
    · exact .inl (List.Lex.rel (UInt8.lt_iff_toNat_lt.2 h))
    · have e : a = b := UInt8.toNat_inj.1 h
      subst e
      rcases list_tri x y with h | h | h
      · exact .inl (List.Lex.cons h)
      · exact .inr (.inl (by rw [h]))
      · exact .inr (.inr (List.Lex.cons h))
    · exact .inr (.inr (List.Lex.rel (UInt8.lt_iff_toNat_lt.2 h)))
theorem ltS_tri (a b : ByteArray) : ltS a b = true ∨ a = b ∨ ltS b a = true := by
  rcases list_tri a.data.toList b.data.toList with h | h | h
  · exact .inl ((ltS_iff _ _).2 h)
  · exact .inr (.inl (ba_ext h))
  · exact .inr (.inr ((ltS_iff _ _).2 h))
theorem ltS_le {a b : ByteArray} (h : ltS a b = false) (hn : a ≠ b) : ltS b a = true := by
  rcases ltS_tri a b with k | k | k
  · rw [h] at k; cases k
  · exact absurd k hn
  · exact k
/-- strings.Compare -/
def cmpS (a b : ByteArray) : Int := if ltS a b = true then -1 else if a = b then 0 else 1
theorem cmp_list : ∀ (x y : List UInt8), Lib.compareBytes x y = if x < y then -1 else if x = y then 0 else 1
  | [], [] => rfl
  | [], b :: y => by rw [if_pos (show ([] : List UInt8) < b :: y from List.Lex.nil)]; rfl
  | a :: x, [] => by rw [if_neg (show ¬ (a :: x) < [] from List.not_lt_nil _), if_neg (by simp)]; rfl
  | a :: x, b :: y => by
    unfold Lib.compareBytes
    rw [cmp_list x y]
    by_cases h : a < b
    · rw [if_pos h, if_pos (show a :: x < b :: y from List.Lex.rel h)]
    · rw [if_neg h]
      by_cases k : b < a
      · have hne : ¬ a = b := fun e => by subst e; exact UInt8.lt_irrefl _ k
        rw [if_pos k, if_neg (fun hh => by
          cases hh with
          | rel hh => exact h hh
          | cons _ => exact hne rfl), if_neg (by simp [hne])]
      · have e : a = b := UInt8.toNat_inj.1 (by have h1 := (not_congr UInt8.lt_iff_toNat_lt).1 h; have h2 := (not_congr UInt8.lt_iff_toNat_lt).1 k; omega)
        subst e
        rw [if_neg k]
        have hc : (a :: x < a :: y) = (x < y) := propext ⟨fun hh => by
          cases hh with
          | rel hh => exact absurd hh h
          | cons hh => exact hh, fun hh => List.Lex.cons hh⟩
        simp only [hc, List.cons.injEq, true_and]
theorem cmpS_eq (a b : ByteArray) : Lib.compareBytes a.toList b.toList = cmpS a b := by
  rw [cmp_list, ba_list, ba_list]; unfold cmpS
  have e : (a.data.toList = b.data.toList) = (a = b) := propext ⟨ba_ext, fun h => by rw [h]⟩
  by_cases h : ltS a b = true
  · rw [if_pos ((ltS_iff _ _).1 h), if_pos h]
  · rw [if_neg (fun k => h ((ltS_iff _ _).2 k)), if_neg h]; simp only [e]
theorem cmpS_zero {a b : ByteArray} : cmpS a b = 0 ↔ a = b := by
  unfold cmpS
  by_cases h : ltS a b = true
  · rw [if_pos h]; constructor
    · intro k; cases k
    · intro k; subst k; rw [ltS_irr] at h; cases h
  · rw [if_neg h]; by_cases k : a = b
    · rw [if_pos k]; simp [k]
    · rw [if_neg k]; simp [k]
theorem cmpS_neg {a b : ByteArray} : cmpS a b < 0 ↔ ltS a b = true := by
  unfold cmpS
  by_cases h : ltS a b = true
  · rw [if_pos h]; simp [h]
  · rw [if_neg h]; by_cases k : a = b
    · rw [if_pos k]; simp [h]
    · rw [if_neg k]; simp [h]
end Go.Proofs.Ytpipachmngdegaa
end
