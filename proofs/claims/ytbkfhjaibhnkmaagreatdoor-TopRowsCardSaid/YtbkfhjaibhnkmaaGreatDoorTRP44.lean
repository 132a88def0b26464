import Derived.Test.YtbkfhjaibhnkmaaGreatDoorTRP41
import Derived.Test.YtbkfhjaibhnkmaaGreatDoorTRP36
section
namespace Go.Proofs.YtbkfhjaibhnkmaaGreatDoor
set_option linter.unusedVariables false
set_option linter.unusedSimpArgs false
def CZ (t:ai):Bool:=decide ((t.Kind=1∨t.Kind=2∧t.Data.size=0)∧t.Data.size≤8)
def xr (a b:Int):Change:=⟨kX,aZ a++aZ b,false⟩
structure Kinds (l:List Change)(hs:List Held)(ts:List ai)(ws:List ak)(xs:List Change):Prop where
  eq:l=hs.map hrow++ts.map gx++ws.map iH++xs
  h:∀x∈hs,aW x.Place=0
  t:∀x∈ts,CZ x=true
  x:(xs=[] ∧ ∀r:au,l.foldl lv r=⟨r.aj++ws,r.Things++ts,r.Held++hs,r.Notes,r.ae,r.af⟩) ∨ ∃a b,xs=[xr a b] ∧ ∀r:au,l.foldl lv r=⟨r.aj++ws,r.Things++ts,r.Held++hs,r.Notes,a,b⟩
end Go.Proofs.YtbkfhjaibhnkmaaGreatDoor
end
section
namespace Go.Proofs.YtbkfhjaibhnkmaaGreatDoor
open Go
set_option linter.unusedVariables false
section
variable {l:List Change} {k:Nat} {x y:Change}
theorem xp {a b:ByteArray}(h:(ke a b||decide (a=b))=true):ke b a=false:=by
  rcases Bool.or_eq_true_iff.1 h with h|h
  · exact tT h
  · have e:=of_decide_eq_true h;subst e;exact sR _
theorem zi {a b:ByteArray}(h:(ke a b||decide (a=b))=false):ke b a=true:=by
  obtain ⟨h1,h2⟩:=Bool.or_eq_false_iff.1 h
  exact zc h1 (of_decide_eq_false h2)
end
end Go.Proofs.YtbkfhjaibhnkmaaGreatDoor
end
