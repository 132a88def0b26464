import Derived.Test.YtbkfhjaibhnkmaaGreatDoorTRP16
section
namespace Go.Proofs.YtbkfhjaibhnkmaaGreatDoor
open Go.RowKit
set_option linter.unusedVariables false
def eD (l:List ak)(i:Nat):Int :=
  match l[i]? with
  | none=>0
  | some x =>
    if bB x=1 then 1
    else if 0<i ∧ ∃y,l[i-1]? = some y∧x.ID≤y.ID then 3
    else if x.From=0 then 0
    else match (l.take i).find? (fun y=>y.ID==x.From) with
      | none=>5
      | some y=>if (derived y x.ID x.Rights x.ar).2≠0 then (derived y x.ID x.Rights x.ar).2 else if (derived y x.ID x.Rights x.ar).1≠x then 7 else 0
def cO (l:List ak):Int:=match (List.range l.length).find? (fun i=>eD l i != 0) with|some i=>eD l i|none=>0
theorem eo {l:List ak}{k:Nat}{f:Int}(hk:k<l.length)(h:eD l k=f)(hf:f≠0)(h0:∀j,j<k→eD l j=0):cO l=f:=by
  unfold cO
  have:(List.range l.length).find? (fun i=>eD l i != 0)=some k:=by
    rw [List.find?_range_eq_some]
    refine ⟨by simpa [h] using hf,by simpa using hk,fun j hj=>by simp [h0 j hj]⟩
  rw [this];exact h
theorem jD {l:List ak}(h0:∀j,j<l.length→eD l j=0):cO l=0:=by
  unfold cO
  have:(List.range l.length).find? (fun i=>eD l i != 0)=none:=by
    rw [List.find?_eq_none]
    intro i hi
    simp [h0 i (List.mem_range.1 hi)]
  rw [this]
theorem mq {l:List ak}(h:cO l=0):∀j,j<l.length→eD l j=0:=by
  unfold cO at h
  cases hf:(List.range l.length).find? (fun i=>eD l i != 0) with
  | none =>
    intro j hj
    have:=List.find?_eq_none.1 hf j (List.mem_range.2 hj)
    simpa using this
  | some i =>
    rw [hf] at h
    have:=List.find?_some hf
    simp at this;exact absurd h this
theorem fW {l:List ak}{id:Int}:(bC l id = -1∧l.find? (fun y=>y.ID==id)=none) ∨ ∃ (k:Nat) (h:k<l.length),bC l id=k∧l.find? (fun y=>y.ID==id)=some l[k]:=by
  rcases dB l id with ⟨h,h2⟩ | ⟨k,hk,h1,h2,h3⟩
  · exact .inl ⟨h,by rw [List.find?_eq_none];intro x hx;simpa using h2 x hx⟩
  ·
    refine .inr ⟨k,hk,h1,?_⟩
    rw [List.find?_eq_some_iff_getElem]
    exact ⟨by simpa using h2,k,hk,rfl,fun j hj=>by simpa using h3 j hj⟩
end Go.Proofs.YtbkfhjaibhnkmaaGreatDoor
end
section
namespace Go.Proofs.YtbkfhjaibhnkmaaGreatDoor
open Go.RowKit
set_option linter.unusedVariables false
structure zt (x:ak):Prop where
  id1:1≤x.ID
  xU:x.ID≤999
  yH:1≤x.ai
  yI:x.ai≤999
  yJ:0≤x.ar
  yK:x.ar≤99
  zu:0≤x.From
  yL:x.From<x.ID
  uX:0≤x.Rights
  uY:x.Rights≤7
theorem o9 {x:ak}(h:bB x=0):zt x:=by
  rcases ea x with ⟨h1,_⟩ | ⟨_,h2⟩
  · omega
  · obtain ⟨a,b,c,d,e,f,g,i,j,k⟩:=h2;exact ⟨a,b,c,d,e,f,g,i,j,k⟩
theorem fK (x:ak):bB x=0∨bB x=1:=by
  rcases ea x with ⟨h1,_⟩ | ⟨h1,_⟩
  · exact .inr h1
  · exact .inl h1
theorem eZ {l:List ak}{k:Nat}{x:ak}(hx:l[k]? = some x)(h:¬ bB x=0):eD l k=1:=by
  have:bB x=1:=by rcases ea x with ⟨h1,_⟩ | ⟨h1,_⟩;exact h1;exact absurd h1 h
  unfold eD;rw [hx];simp only [];rw [if_pos this]
theorem hD {l:List ak}{k:Nat}{x y:ak}(hx:l[k]? = some x)(h:bB x=0)(hk:0<k)(hy:l[k-1]? = some y)(hle:¬ y.ID<x.ID):eD l k=3:=by
  unfold eD;rw [hx];simp only [];rw [if_neg (by omega),if_pos ⟨hk,y,hy,by omega⟩]
theorem np {l:List ak}{k:Nat}{x:ak}(hx:l[k]? = some x)(h:bB x=0)(hs:¬ 0<k ∨ ∃y,l[k-1]? = some y∧y.ID<x.ID)(h0:x.From=0):eD l k=0:=by
  unfold eD;rw [hx];simp only [];rw [if_neg (by omega),if_neg,if_pos h0]
  rintro ⟨hk,y,hy,hle⟩
  rcases hs with hs|⟨z,hz,hlt⟩
  · exact hs hk
  · rw [hy] at hz;injection hz with hz;subst hz;omega
theorem nq {l:List ak}{k:Nat}{x:ak}(hx:l[k]? = some x)(h:bB x=0)(hs:¬ 0<k ∨ ∃y,l[k-1]? = some y∧y.ID<x.ID)(h0:¬ x.From=0)(hf:bC (l.take k) x.From = -1):eD l k=5:=by
  have hn:(l.take k).find? (fun y=>y.ID==x.From)=none:=by
    rcases fW (l:=l.take k) (id:=x.From) with ⟨_,h2⟩ | ⟨j,hj,h1,h2⟩
    · exact h2
    · omega
  unfold eD;rw [hx];simp only [];rw [if_neg (by omega),if_neg,if_neg h0,hn]
  rintro ⟨hk,y,hy,hle⟩
  rcases hs with hs|⟨z,hz,hlt⟩
  · exact hs hk
  · rw [hy] at hz;injection hz with hz;subst hz;omega
theorem e5 {l:List ak}{k j:Nat}{x y:ak}(hx:l[k]? = some x)(h:bB x=0)(hs:¬ 0<k ∨ ∃y,l[k-1]? = some y∧y.ID<x.ID)(h0:¬ x.From=0)(hf:bC (l.take k) x.From=(j:Int))(hj:j<k)(hy:l[j]? = some y) :
    eD l k=if (derived y x.ID x.Rights x.ar).2≠0 then (derived y x.ID x.Rights x.ar).2 else if (derived y x.ID x.Rights x.ar).1≠x then 7 else 0:=by
  have hn:(l.take k).find? (fun y=>y.ID==x.From)=some y:=by
    rcases fW (l:=l.take k) (id:=x.From) with ⟨h1,h2⟩ | ⟨i,hi,h1,h2⟩
    · omega
    ·
      have:i=j:=by omega
      subst this
      rw [h2,List.getElem_take,(List.getElem?_eq_some_iff.1 hy).2]
  unfold eD;rw [hx];simp only [];rw [if_neg (by omega),if_neg,if_neg h0,hn]
  rintro ⟨hk,y,hy,hle⟩
  rcases hs with hs|⟨z,hz,hlt⟩
  · exact hs hk
  · rw [hy] at hz;injection hz with hz;subst hz;omega
theorem k6 {l:List ak}{k:Nat}{x:ak}(hx:l[k]? = some x)(h:eD l k=0):zt x:=by
  by_cases h1:bB x=0
  · exact o9 h1
  · rw [eZ hx h1] at h;omega
theorem nT (x:ak)(id r b:Int):(derived x id r b).2=0∨(derived x id r b).2=1∨(derived x id r b).2=7:=by
  unfold derived;(repeat' split) <;> simp
def bQ (l:List ak):Prop:=cO l=0
theorem bQ.steps {l:List ak}(h:bQ l):∀j,j<l.length→eD l j=0:=mq h
theorem bQ.mem {l:List ak}(h:bQ l){x:ak}(hx:x∈l):zt x:=by
  obtain ⟨j,hj⟩:=List.mem_iff_getElem?.1 hx
  exact k6 hj (h.steps j (List.getElem?_eq_some_iff.1 hj).1)
theorem kv {l:List ak}{k:Nat}(h:∀j,j<k→eD l j=0)(hk:eD l k=0):∀j,j<k+1→eD l j=0:=by
  intro j hj
  rcases Nat.lt_or_ge j k with h1|h1
  · exact h j h1
  ·
    have:j=k:=by omega
    subst this;exact hk
theorem pW (l:List ak)(c:Int)(h:0≤bC l c):∃x,l[(bC l c).toNat]? = some x∧x.ID=c∧x∈l:=by
  rcases dB l c with ⟨h1,_⟩ | ⟨k,hk,h1,h2,_⟩
  · omega
  ·
    refine ⟨l[k],?_,h2,List.getElem_mem hk⟩
    rw [h1];simp
def gW (id from':Int)(x:ak):ak:=if x.From=id then { x with From:=from' } else x
def qR (id from':Int)(l:List ak):List ak:=(l.filter (fun x=>decide (x.ID≠id))).map (gW id from')
theorem sB {id f:Int}{l:List ak}{k:Nat}{x:ak}(hx:l[k]? = some x)(h:x.ID=id):qR id f (l.take (k+1))=qR id f (l.take k):=by
  unfold qR
  rw [List.take_add_one,hx,List.filter_append];simp [h]
theorem k7 {id f:Int}{l:List ak}{k:Nat}{x:ak}(hx:l[k]? = some x)(h:¬ x.ID=id):qR id f (l.take (k+1))=qR id f (l.take k)++[gW id f x]:=by
  unfold qR
  rw [List.take_add_one,hx,List.filter_append];simp [h]
theorem pb (id f:Int)(l:List ak):(qR id f l).length≤l.length:=by unfold qR;simp;exact List.length_filter_le _ _
theorem pX {id f:Int}{x:ak}(h:x.From=id):gW id f x=⟨x.ID,x.ai,x.Rights,x.ar,f⟩:=by unfold gW;rw [if_pos h]
theorem oC {id f:Int}{x:ak}(h:¬ x.From=id):gW id f x=x:=by unfold gW;rw [if_neg h]
def dj (l:List ak)(id:Int):Int:=match l.find? (fun y=>y.ID==id) with|some y=>y.From|none=>0
theorem l5 {l:List ak}{id:Int}{j:Nat}{y:ak}(hf:bC l id=(j:Int))(hy:l[j]? = some y):dj l id=y.From:=by
  unfold dj
  rcases fW (l:=l) (id:=id) with ⟨h1,_⟩ | ⟨i,hi,h1,h2⟩
  · omega
  ·
    have:i=j:=by omega
    subst this;rw [h2,(List.getElem?_eq_some_iff.1 hy).2]
theorem l6 {l:List ak}{id:Int}(hf:bC l id = -1):dj l id=0:=by
  unfold dj
  rcases fW (l:=l) (id:=id) with ⟨_,h2⟩ | ⟨i,hi,h1,h2⟩
  · rw [h2]
  · omega
def without (l:List ak)(id:Int):List ak:=qR id (dj l id) l
def Cz (l:List ak)(id:Int)(x:ak):ak:=if bC l id<0 then x else gW id (dj l id) x
def AA (l:List ak)(id:Int)(m:List ak):List ak:=(m.filter (fun x=>decide (x.ID≠id))).map (Cz l id)
end Go.Proofs.YtbkfhjaibhnkmaaGreatDoor
end
