import Derived.Test.YtbkfhjaibhnkmaaGreatDoorTSD35
namespace Go.Proofs.YtbkfhjaibhnkmaaGreatDoor
open Go
set_option linter.unusedVariables false
section
variable {l:List Change} {k:Nat} {x y:Change}
theorem yO {a b:ByteArray}(h:(fT a b||decide (a=b))=true):fT b a=false:=by
 rcases Bool.or_eq_true_iff.1 h with h|h
 ·exact jj h
 ·have e:=of_decide_eq_true h;subst e;exact fO _
theorem AQ {a b:ByteArray}(h:(fT a b||decide (a=b))=false):fT b a=true:=by
 obtain ⟨h1,h2⟩:=Bool.or_eq_false_iff.1 h
 exact AB h1 (of_decide_eq_false h2)
end
end Go.Proofs.YtbkfhjaibhnkmaaGreatDoor
