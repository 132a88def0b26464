/-
  A sector, as the document looks at it; lists of lists held against each other. No program.
-/
import Derived.Test.YtpipachmngdegaaLogSpec2
import Derived.Test.YtpipachmngdegaaBat
namespace Go.Proofs.Ytpipachmngdegaa
open Go Go.RowKit
set_option linter.unusedVariables false
section
variable {s : ByteArray} {n k : Int}
theorem cC (h1 : s.extract 1 5 = fourB n) (h2 : ¬ 41 < lenB s) (h3 : byteAt s 0 = 99) (h4 : txtB s = fourB k) : isC s n k = true := by unfold isC; simp [h1, h3, h4]; omega
theorem cO (h1 : s.extract 1 5 = fourB n) (h2 : ¬ 41 < lenB s) (h3 : byteAt s 0 = 111) (h4 : (chP (txtB s)).2 = 0) : isC s n k = false ∧ isO s n = true := by
  refine ⟨isC_not (by omega), ?_⟩
  unfold isO; simp [h1, h3, h4]; omega
theorem noH (h : ¬ s.extract 1 5 = fourB n) : isC s n k = false ∧ isO s n = false := ⟨isC_head h, isO_head h⟩
theorem noL (h : 41 < lenB s) : isC s n k = false ∧ isO s n = false := by
  have : ¬ lenB s ≤ 41 := by omega
  unfold isC isO; simp [this]
theorem noC (h3 : byteAt s 0 = 99) (h4 : ¬ txtB s = fourB k) : isC s n k = false ∧ isO s n = false := ⟨by unfold isC; simp [h4], isO_not (by omega)⟩
theorem noK (h : ¬ byteAt s 0 = 99) (h' : ¬ byteAt s 0 = 111) : isC s n k = false ∧ isO s n = false := ⟨isC_not h, isO_not h'⟩
theorem noP (h : ¬ byteAt s 0 = 99) (h4 : ¬ (chP (txtB s)).2 = 0) : isC s n k = false ∧ isO s n = false := ⟨isC_not h, by unfold isO; simp [h4]⟩
theorem regS_snoc {d : Dsk} {f : Int} {i : Nat} : regS d f (i + 1) = regS d f i ++ [(dRead d (f + (i : Int))).1] := by unfold regS; rw [List.range_succ, List.map_append]; rfl
end
def bL (l : List Bat) : List (List Change) := l.map Bat.L
section
variable {a b : List Bat} {x y : Bat} {k : Nat}
theorem bL_at (h : a[k]? = some x) : (a.map Bat.L)[k]? = some x.L := by rw [List.getElem?_map, h]; rfl
end
end Go.Proofs.Ytpipachmngdegaa
