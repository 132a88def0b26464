import Derived.Test.YtpipachmngdegaaTCP7
import Derived.MapKept
section
namespace Go.Proofs.Ytpipachmngdegaa
open Go Go.RowKit
set_option linter.unusedVariables false
def w6 (es:List MapEntry)(S:List Int):Prop:=(∀e∈es,∃x∈S,e.key = .int .i64 x∧e.val = .bool true) ∧ ∀x∈S,∃e∈es,e.key = .int .i64 x
def ah.w7 (b:Nat)(S:List Int):ah:=⟨[b],fun w => ∃es c,w.heap[b]? = some (.map es c)∧w6 es.toList S,fun w w' h=>fun ⟨es,c,h1,h2⟩=>⟨es,c,(h b (by simp)).trans h1,h2⟩⟩
section
variable {P:Program} {n:Nat} {we:World} {X:List Nat} {Q:Exit→Act→World→Prop} {k k':List It} {L:Fm} {B F:List ah} {ops rest:List Oper}
variable {dst:Option Nat} {d:Nat} {ty:TypeId} {pos:String} {cx:Array Edge} {g:Option (Nat×Bool)} {v:Value}
variable {x y m:Operand} {t:TypeId}
theorem s.mk (hd:Nat.blt d n=true):Stp P n we X L B F ⟨some d,.makeMap t none,ty,pos,cx,g⟩ (fun b:Nat=>(d,.map (some b))::L) (fun b=>ah.w7 b []::B) (fun _=>F):=by
  intro K Q' a w ha hw hK
  unfold Oper.wp
  have hrun:(execOp a.eval ⟨some d,.makeMap t none,ty,pos,cx,g⟩).run P w = .ok (.value (.map (some w.heap.size))) (w.alloc (.map #[] 0)):=by
    simp only [execOp,Sem.run_bind,Instr.makeMap,newObj,Option.map_none];rfl
  rw [hrun,Oper.upon_value]
  exact hK _ _ _ (ha.put d _ hd) (hw.alloc (r:=ah.w7 w.heap.size []) ⟨#[],0,heap_alloc_new w _,by simp [w6]⟩ rfl)
end
end Go.Proofs.Ytpipachmngdegaa
end
