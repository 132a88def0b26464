/-
  Texts in order: as lists of bytes. No program.
-/
import Derived.Test.YtpipachmngdegaaR9
import Derived.Lib.Bytealg
import Derived.Sort.Walk0
namespace Go.Proofs.Ytpipachmngdegaa
open Go
set_option linter.unusedVariables false

theorem ba_list (a : ByteArray) : a.toList = a.data.toList := Lib.toList_data a
theorem ba_ext {a b : ByteArray} (h : a.data.toList = b.data.toList) : a = b := by
  cases a with | mk x => cases b with | mk y => congr; exact Array.toList_inj.1 h
theorem ltS_iff (a b : ByteArray) : ltS a b = true ↔ a.data.toList < b.data.toList := by
  unfold ltS; rw [Proofs.bytesLess_eq, ba_list, ba_list]; exact decide_eq_true_iff
theorem ltS_irr (a : ByteArray) : ltS a a = false := by
  rw [Bool.eq_false_iff]; intro h; exact List.lt_irrefl _ ((ltS_iff a a).1 h)
theorem ltS_trans {a b c : ByteArray} (h : ltS a b = true) (k : ltS b c = true) : ltS a c = true := (ltS_iff _ _).2 (List.lt_trans ((ltS_iff _ _).1 h) ((ltS_iff _ _).1 k))
theorem ltS_asymm {a b : ByteArray} (h : ltS a b = true) : ltS b a = false := by
  rw [Bool.eq_false_iff]; intro k; have := ltS_trans h k; rw [ltS_irr] at this; cases this
theorem list_tri : ∀ (x y : List UInt8), x < y ∨ x = y ∨ y < x
  | [], [] => .inr (.inl rfl)
  | [], _ :: _ => .inl (List.Lex.nil)
  | _ :: _, [] => .inr (.inr (List.Lex.nil))
  | a :: x, b :: y => by
    rcases Nat.lt_trichotomy a.toNat b.toNat with h | h | h
    · exact .inl (List.Lex.rel (UInt8.lt_iff_toNat_lt.2 h))
    · have e : a = b := UInt8.toNat_inj.1 h
      subst e
      rcases list_tri x y with h | h | h
      · exact .inl (List.Lex.cons h)
      · exact .inr (.inl (by rw [h]))
      · exact .inr (.inr (List.Lex.cons h))
    · exact .inr (.inr (List.Lex.rel (UInt8.lt_iff_toNat_lt.2 h)))
theorem ltS_tri (a b : ByteArray) : ltS a b = true ∨ a = b ∨ ltS b a = true := by
  rcases list_tri a.data.toList b.data.toList with h | h | h
  · exact .inl ((ltS_iff _ _).2 h)
  · exact .inr (.inl (ba_ext h))
  · exact .inr (.inr ((ltS_iff _ _).2 h))
theorem ltS_le {a b : ByteArray} (h : ltS a b = false) (hn : a ≠ b) : ltS b a = true := by
  rcases ltS_tri a b with k | k | k
  · rw [h] at k; cases k
  · exact absurd k hn
  · exact k
/-- strings.Compare -/
def cmpS (a b : ByteArray) : Int := if ltS a b = true then -1 else if a = b then 0 else 1
theorem cmp_list : ∀ (x y : List UInt8), Lib.compareBytes x y = if x < y then -1 else if x = y then 0 else 1
  | [], [] => rfl
  | [], b :: y => by rw [if_pos (show ([] : List UInt8) < b :: y from List.Lex.nil)]; rfl
  | a :: x, [] => by rw [if_neg (show ¬ (a :: x) < [] from List.not_lt_nil _), if_neg (by simp)]; rfl
  | a :: x, b :: y => by
    unfold Lib.compareBytes
    rw [cmp_list x y]
    by_cases h : a < b
    · rw [if_pos h, if_pos (show a :: x < b :: y from List.Lex.rel h)]
    · rw [if_neg h]
      by_cases k : b < a
      · have hne : ¬ a = b := fun e => by subst e; exact UInt8.lt_irrefl _ k
        rw [if_pos k, if_neg (fun hh => by
          cases hh with
          | rel hh => exact h hh
          | cons _ => exact hne rfl), if_neg (by simp [hne])]
      · have e : a = b := UInt8.toNat_inj.1 (by have h1 := (not_congr UInt8.lt_iff_toNat_lt).1 h; have h2 := (not_congr UInt8.lt_iff_toNat_lt).1 k; omega)
        subst e
        rw [if_neg k]
        have hc : (a :: x < a :: y) = (x < y) := propext ⟨fun hh => by
          cases hh with
          | rel hh => exact absurd hh h
          | cons hh => exact hh, fun hh => List.Lex.cons hh⟩
        simp only [hc, List.cons.injEq, true_and]
theorem cmpS_eq (a b : ByteArray) : Lib.compareBytes a.toList b.toList = cmpS a b := by
  rw [cmp_list, ba_list, ba_list]; unfold cmpS
  have e : (a.data.toList = b.data.toList) = (a = b) := propext ⟨ba_ext, fun h => by rw [h]⟩
  by_cases h : ltS a b = true
  · rw [if_pos ((ltS_iff _ _).1 h), if_pos h]
  · rw [if_neg (fun k => h ((ltS_iff _ _).2 k)), if_neg h]; simp only [e]
theorem cmpS_zero {a b : ByteArray} : cmpS a b = 0 ↔ a = b := by
  unfold cmpS
  by_cases h : ltS a b = true
  · rw [if_pos h]; constructor
    · intro k; cases k
    · intro k; subst k; rw [ltS_irr] at h; cases h
  · rw [if_neg h]; by_cases k : a = b
    · rw [if_pos k]; simp [k]
    · rw [if_neg k]; simp [k]
theorem cmpS_neg {a b : ByteArray} : cmpS a b < 0 ↔ ltS a b = true := by
  unfold cmpS
  by_cases h : ltS a b = true
  · rw [if_pos h]; simp [h]
  · rw [if_neg h]; by_cases k : a = b
    · rw [if_pos k]; simp [h]
    · rw [if_neg k]; simp [h]
end Go.Proofs.Ytpipachmngdegaa
