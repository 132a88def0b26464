import Derived.Test.YtpipachmngdegaaTCP13
section
namespace Go.Proofs.Ytpipachmngdegaa
set_option linter.unusedVariables false
def cH (c:Change):Bool:=decide (c.Key.size≤20)&&decide (c.Val.size≤40)
def fk (l:List Change)(most:Int):Bool:=decide ((l.length:Int)≤most)&&l.all cH
theorem eQ {α:Type}{p:α→Bool}{l:List α}{k:Nat}{x:α}(hx:l[k]? = some x)(h:p x=false):l.all p=false:=by
  rw [Bool.eq_false_iff];intro h'
  have:=List.all_eq_true.1 h' x (List.mem_of_getElem? hx)
  rw [h] at this;simp at this
theorem jG {α:Type}{p:α→Bool}{l:List α}{k:Nat}(hk:¬ k<l.length)(h:(l.take k).all p=true):l.all p=true:=by
  rwa [List.take_of_length_le (by omega)] at h
theorem oZ {α:Type}{p:α→Bool}{l:List α}{k:Nat}{x:α}(hx:l[k]? = some x)(h:(l.take k).all p=true)(hp:p x=true):(l.take (k+1)).all p=true:=by
  rw [List.take_add_one,hx];simp [List.all_append,h,hp]
theorem pN {l:List Change}{m:Int}(h:fk l m=true):(l.length:Int)≤m:=by
  unfold fk at h;simp only [Bool.and_eq_true,decide_eq_true_eq] at h;exact h.1
end Go.Proofs.Ytpipachmngdegaa
end
