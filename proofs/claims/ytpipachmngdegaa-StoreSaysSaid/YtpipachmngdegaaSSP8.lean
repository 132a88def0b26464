import Derived.Test.YtpipachmngdegaaSSP7
import Derived.MapKept
section
namespace Go.Proofs.Ytpipachmngdegaa
open Go Go.RowKit
set_option linter.unusedVariables false
def xw (es:List MapEntry)(S:List Int):Prop:=(∀e∈es,∃x∈S,e.key = .int .i64 x∧e.val = .bool true) ∧ ∀x∈S,∃e∈es,e.key = .int .i64 x
def af.xx (b:Nat)(S:List Int):af:=⟨[b],fun w => ∃es c,w.heap[b]? = some (.map es c)∧xw es.toList S,fun w w' h=>fun ⟨es,c,h1,h2⟩=>⟨es,c,(h b (by simp)).trans h1,h2⟩⟩
section
variable {P:Program} {n:Nat} {we:World} {X:List Nat} {Q:Exit→Act→World→Prop} {k k':List It} {L:Fm} {B F:List af} {ops rest:List Oper}
variable {dst:Option Nat} {d:Nat} {ty:TypeId} {pos:String} {cz:Array Edge} {g:Option (Nat×Bool)} {v:Value}
variable {x y m:Operand} {t:TypeId}
theorem s.mk (hd:Nat.blt d n=true):Stp P n we X L B F ⟨some d,.makeMap t none,ty,pos,cz,g⟩ (fun b:Nat=>(d,.map (some b))::L) (fun b=>af.xx b []::B) (fun _=>F):=by
  intro K Q' a w ha hw hK
  unfold Oper.wp
  have hrun:(execOp a.eval ⟨some d,.makeMap t none,ty,pos,cz,g⟩).run P w = .ok (.value (.map (some w.heap.size))) (w.alloc (.map #[] 0)):=by
    simp only [execOp,Sem.run_bind,Instr.makeMap,newObj,Option.map_none];rfl
  rw [hrun,Oper.upon_value]
  exact hK _ _ _ (ha.put d _ hd) (hw.alloc (r:=af.xx w.heap.size []) ⟨#[],0,heap_alloc_new w _,by simp [xw]⟩ rfl)
end
end Go.Proofs.Ytpipachmngdegaa
end
