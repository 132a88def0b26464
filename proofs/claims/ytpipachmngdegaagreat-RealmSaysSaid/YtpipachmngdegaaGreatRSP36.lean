import Derived.Test.YtpipachmngdegaaGreatRSP12
import Derived.Laws.OwnMore
section
namespace Go.Proofs.YtpipachmngdegaaGreat
open Go Go.RowKit
set_option linter.unusedVariables false
section
variable {P:Program} {n:Nat} {we:World} {X:List Nat} {L:Fm} {B F:List ah} {x y z':Operand} {v:Value} {d:Nat} {ty:TypeId} {pos:String} {dQ:Array Edge} {g:Option (Nat×Bool)} {t e:TypeId} {α:Type} [Enc α] {l:List α}
end
section
variable {P:Program} {n:Nat} {we:World} {X:List Nat} {L:Fm} {B F:List ah} {ty xT e:TypeId} {x y:Operand}
end
def rj (places:List (Nat×Nat)):List Value→List (Nat×List Value)→Option (List Value)
  | cells,[]=>some cells
  | cells,(i,v)::rest=>match places[i]? with
    | none=>none
    | some (off,size)=>bif Nat.beq v.length size&&Nat.ble (off+size) cells.length then rj places (cells.take off++v++cells.drop (off+size)) rest else none
theorem pv (places:List (Nat×Nat)):∀ (parts:List (Nat×Value)) (cells:List Value),l3 places cells parts=rj places cells (parts.map fun p=>(p.1,p.2.cells.toList))
  | [],cells=>rfl
  | (i,v)::rest,cells=>by
    simp only [l3,List.map_cons,rj]
    cases places[i]? with
    | none=>rfl
    | some q =>
      obtain ⟨off,size⟩:=q
      simp only [pv places rest]
theorem nI:∀ (is:List Nat) (vs:List Value),(is.zip vs).map (fun p=>(p.1,p.2.cells.toList))=is.zip (vs.map fun v=>v.cells.toList)
  | [],vs=>by simp
  | i::is,[]=>by simp
  | i::is,v::vs=>by simp [nI is vs]
theorem vK:([]:List Value).map (fun v=>v.cells.toList)=[]:=rfl
theorem ou {v:Value}{vs:List Value}{u:List Value}{us:List (List Value)}(h:v.cells.toList=u)(hs:vs.map (fun v=>v.cells.toList)=us):(v::vs).map (fun v=>v.cells.toList)=u::us:=by
  rw [List.map_cons,h,hs]
theorem Sl.vL {α:Type}[Enc α]{w:World}{v:Value}{l:List α}(h:Sl w v l):v.cells.toList=[v]:=by rw [h.bJ]
section
variable {P:Program} {n:Nat} {we:World} {X:List Nat} {L:Fm} {B F:List ah} {ty:TypeId}
theorem q.vM {t:TypeId}{parts:Array (Nat×Operand)}{places:List (Nat×Nat)}{zs vs cs:List Value}{us:List (List Value)}(ht:tB P t=some (places,zs))(hp:evs L (parts.toList.map (·.2))=some vs)
    (hv:∀w,Wd we X B F w→vs.map (fun v=>v.cells.toList)=us) (hf:rj places zs ((parts.toList.map (·.1)).zip us)=some cs) :
    Qt P n we X L B F (.build t parts) ty (.agg cs.toArray):=fun q1 q2 q3 q4 a w ha hw =>
  q.build ht hp (by rw [pv,nI,hv w hw];exact hf) q1 q2 q3 q4 a w ha hw
end
section
variable {we w w':World} {X:List Nat} {B0 Bl Br B1 F Fl:List ah}
end
section
variable {P:Program} {n:Nat} {we:World} {X:List Nat} {L:Fm} {B F:List ah} {d:Nat} {ty:TypeId} {pos:String} {dQ:Array Edge} {g:Option (Nat×Bool)}
end
end Go.Proofs.YtpipachmngdegaaGreat
end
