import Derived.Test.YtpipachmngdegaaGreatRSP18
section
namespace Go.Proofs.YtpipachmngdegaaGreat
open Go.RowKit
set_option linter.unusedVariables false
def fB (l:List ao)(i:Nat):Int :=
  match l[i]? with
  | none=>0
  | some x =>
    if cK x=1 then 1
    else if 0<i ∧ ∃y,l[i-1]? = some y∧x.ID≤y.ID then 3
    else if x.From=0 then 0
    else match (l.take i).find? (fun y=>y.ID==x.From) with
      | none=>5
      | some y=>if (derived y x.ID x.Rights x.ar).2≠0 then (derived y x.ID x.Rights x.ar).2 else if (derived y x.ID x.Rights x.ar).1≠x then 7 else 0
def iM (l:List ao):Int:=match (List.range l.length).find? (fun i=>fB l i != 0) with|some i=>fB l i|none=>0
theorem my {l:List ao}(h0:∀j,j<l.length→fB l j=0):iM l=0:=by
  unfold iM
  have:(List.range l.length).find? (fun i=>fB l i != 0)=none:=by
    rw [List.find?_eq_none]
    intro i hi
    simp [h0 i (List.mem_range.1 hi)]
  rw [this]
theorem lH {l:List ao}(h:iM l=0):∀j,j<l.length→fB l j=0:=by
  unfold iM at h
  cases hf:(List.range l.length).find? (fun i=>fB l i != 0) with
  | none =>
    intro j hj
    have:=List.find?_eq_none.1 hf j (List.mem_range.2 hj)
    simpa using this
  | some i =>
    rw [hf] at h
    have:=List.find?_some hf
    simp at this;exact absurd h this
theorem fT {l:List ao}{id:Int}:(cb l id = -1∧l.find? (fun y=>y.ID==id)=none) ∨ ∃ (k:Nat) (h:k<l.length),cb l id=k∧l.find? (fun y=>y.ID==id)=some l[k]:=by
  rcases dm l id with ⟨h,h2⟩ | ⟨k,hk,h1,h2,h3⟩
  · exact .inl ⟨h,by rw [List.find?_eq_none];intro x hx;simpa using h2 x hx⟩
  ·
    refine .inr ⟨k,hk,h1,?_⟩
    rw [List.find?_eq_some_iff_getElem]
    exact ⟨by simpa using h2,k,hk,rfl,fun j hj=>by simpa using h3 j hj⟩
end Go.Proofs.YtpipachmngdegaaGreat
end
section
namespace Go.Proofs.YtpipachmngdegaaGreat
open Go.RowKit
set_option linter.unusedVariables false
structure xY (x:ao):Prop where
  id1:1≤x.ID
  yw:x.ID≤999
  xZ:1≤x.ai
  x6:x.ai≤999
  x7:0≤x.ar
  x8:x.ar≤99
  xF:0≤x.From
  xG:x.From<x.ID
  vq:0≤x.Rights
  vr:x.Rights≤7
theorem ob {x:ao}(h:cK x=0):xY x:=by
  rcases eC x with ⟨h1,_⟩ | ⟨_,h2⟩
  · omega
  · obtain ⟨a,b,c,d,e,f,g,i,j,k⟩:=h2;exact ⟨a,b,c,d,e,f,g,i,j,k⟩
theorem iZ (x:ao):cK x=0∨cK x=1:=by
  rcases eC x with ⟨h1,_⟩ | ⟨h1,_⟩
  · exact .inr h1
  · exact .inl h1
theorem hO {l:List ao}{k:Nat}{x:ao}(hx:l[k]? = some x)(h:¬ cK x=0):fB l k=1:=by
  have:cK x=1:=by rcases eC x with ⟨h1,_⟩ | ⟨h1,_⟩;exact h1;exact absurd h1 h
  unfold fB;rw [hx];simp only [];rw [if_pos this]
theorem oW {l:List ao}{k:Nat}{x y:ao}(hx:l[k]? = some x)(h:cK x=0)(hk:0<k)(hy:l[k-1]? = some y)(hle:¬ y.ID<x.ID):fB l k=3:=by
  unfold fB;rw [hx];simp only [];rw [if_neg (by omega),if_pos ⟨hk,y,hy,by omega⟩]
theorem pV {l:List ao}{k:Nat}{x:ao}(hx:l[k]? = some x)(h:cK x=0)(hs:¬ 0<k ∨ ∃y,l[k-1]? = some y∧y.ID<x.ID)(h0:x.From=0):fB l k=0:=by
  unfold fB;rw [hx];simp only [];rw [if_neg (by omega),if_neg,if_pos h0]
  rintro ⟨hk,y,hy,hle⟩
  rcases hs with hs|⟨z,hz,hlt⟩
  · exact hs hk
  · rw [hy] at hz;injection hz with hz;subst hz;omega
theorem pW {l:List ao}{k:Nat}{x:ao}(hx:l[k]? = some x)(h:cK x=0)(hs:¬ 0<k ∨ ∃y,l[k-1]? = some y∧y.ID<x.ID)(h0:¬ x.From=0)(hf:cb (l.take k) x.From = -1):fB l k=5:=by
  have hn:(l.take k).find? (fun y=>y.ID==x.From)=none:=by
    rcases fT (l:=l.take k) (id:=x.From) with ⟨_,h2⟩ | ⟨j,hj,h1,h2⟩
    · exact h2
    · omega
  unfold fB;rw [hx];simp only [];rw [if_neg (by omega),if_neg,if_neg h0,hn]
  rintro ⟨hk,y,hy,hle⟩
  rcases hs with hs|⟨z,hz,hlt⟩
  · exact hs hk
  · rw [hy] at hz;injection hz with hz;subst hz;omega
theorem mA {l:List ao}{k j:Nat}{x y:ao}(hx:l[k]? = some x)(h:cK x=0)(hs:¬ 0<k ∨ ∃y,l[k-1]? = some y∧y.ID<x.ID)(h0:¬ x.From=0)(hf:cb (l.take k) x.From=(j:Int))(hj:j<k)(hy:l[j]? = some y) :
    fB l k=if (derived y x.ID x.Rights x.ar).2≠0 then (derived y x.ID x.Rights x.ar).2 else if (derived y x.ID x.Rights x.ar).1≠x then 7 else 0:=by
  have hn:(l.take k).find? (fun y=>y.ID==x.From)=some y:=by
    rcases fT (l:=l.take k) (id:=x.From) with ⟨h1,h2⟩ | ⟨i,hi,h1,h2⟩
    · omega
    ·
      have:i=j:=by omega
      subst this
      rw [h2,List.getElem_take,(List.getElem?_eq_some_iff.1 hy).2]
  unfold fB;rw [hx];simp only [];rw [if_neg (by omega),if_neg,if_neg h0,hn]
  rintro ⟨hk,y,hy,hle⟩
  rcases hs with hs|⟨z,hz,hlt⟩
  · exact hs hk
  · rw [hy] at hz;injection hz with hz;subst hz;omega
theorem mB {l:List ao}{k:Nat}{x:ao}(hx:l[k]? = some x)(h:fB l k=0):xY x:=by
  by_cases h1:cK x=0
  · exact ob h1
  · rw [hO hx h1] at h;omega
theorem e8 (x:ao)(id r b:Int):(derived x id r b).2=0∨(derived x id r b).2=1∨(derived x id r b).2=7:=by
  unfold derived;(repeat' split) <;> simp
def ct (l:List ao):Prop:=iM l=0
theorem ct.steps {l:List ao}(h:ct l):∀j,j<l.length→fB l j=0:=lH h
theorem ct.mem {l:List ao}(h:ct l){x:ao}(hx:x∈l):xY x:=by
  obtain ⟨j,hj⟩:=List.mem_iff_getElem?.1 hx
  exact mB hj (h.steps j (List.getElem?_eq_some_iff.1 hj).1)
theorem mC (l:List ao)(c:Int)(h:0≤cb l c):∃x,l[(cb l c).toNat]? = some x∧x.ID=c∧x∈l:=by
  rcases dm l c with ⟨h1,_⟩ | ⟨k,hk,h1,h2,_⟩
  · omega
  ·
    refine ⟨l[k],?_,h2,List.getElem_mem hk⟩
    rw [h1];simp
def gR (id from':Int)(x:ao):ao:=if x.From=id then { x with From:=from' } else x
def oX (id from':Int)(l:List ao):List ao:=(l.filter (fun x=>decide (x.ID≠id))).map (gR id from')
theorem qY {id f:Int}{l:List ao}{k:Nat}{x:ao}(hx:l[k]? = some x)(h:x.ID=id):oX id f (l.take (k+1))=oX id f (l.take k):=by
  unfold oX
  rw [List.take_add_one,hx,List.filter_append];simp [h]
theorem kK {id f:Int}{l:List ao}{k:Nat}{x:ao}(hx:l[k]? = some x)(h:¬ x.ID=id):oX id f (l.take (k+1))=oX id f (l.take k)++[gR id f x]:=by
  unfold oX
  rw [List.take_add_one,hx,List.filter_append];simp [h]
theorem oc (id f:Int)(l:List ao):(oX id f l).length≤l.length:=by unfold oX;simp;exact List.length_filter_le _ _
theorem mD {id f:Int}{x:ao}(h:x.From=id):gR id f x=⟨x.ID,x.ai,x.Rights,x.ar,f⟩:=by unfold gR;rw [if_pos h]
theorem jM {id f:Int}{x:ao}(h:¬ x.From=id):gR id f x=x:=by unfold gR;rw [if_neg h]
def dB (l:List ao)(id:Int):Int:=match l.find? (fun y=>y.ID==id) with|some y=>y.From|none=>0
theorem hX {l:List ao}{id:Int}{j:Nat}{y:ao}(hf:cb l id=(j:Int))(hy:l[j]? = some y):dB l id=y.From:=by
  unfold dB
  rcases fT (l:=l) (id:=id) with ⟨h1,_⟩ | ⟨i,hi,h1,h2⟩
  · omega
  ·
    have:i=j:=by omega
    subst this;rw [h2,(List.getElem?_eq_some_iff.1 hy).2]
theorem lu {l:List ao}{id:Int}(hf:cb l id = -1):dB l id=0:=by
  unfold dB
  rcases fT (l:=l) (id:=id) with ⟨_,h2⟩ | ⟨i,hi,h1,h2⟩
  · rw [h2]
  · omega
def without (l:List ao)(id:Int):List ao:=oX id (dB l id) l
def oY (l:List ao)(id:Int):List ao:=if cb l id<0 then l.filter (fun x=>decide (x.ID≠id)) else without l id
def s5 (l:List ao)(id:Int)(x:ao):ao:=if cb l id<0 then x else gR id (dB l id) x
def jX (l:List ao)(id:Int)(m:List ao):List ao:=(m.filter (fun x=>decide (x.ID≠id))).map (s5 l id)
theorem mE {l0:List ao}{id:Int}{l:List ao}{k:Nat}{x:ao}(hx:l[k]? = some x)(h:x.ID=id):jX l0 id (l.take (k+1))=jX l0 id (l.take k):=by
  unfold jX
  rw [List.take_add_one,hx,List.filter_append];simp [h]
theorem kY {l0:List ao}{id:Int}{l:List ao}{k:Nat}{x:ao}(hx:l[k]? = some x)(h:¬ x.ID=id):jX l0 id (l.take (k+1))=jX l0 id (l.take k)++[s5 l0 id x]:=by
  unfold jX
  rw [List.take_add_one,hx,List.filter_append];simp [h]
theorem oZ (l0:List ao)(id:Int)(l:List ao):(jX l0 id l).length≤l.length:=by unfold jX;simp;exact List.length_filter_le _ _
theorem o0 (l:List ao)(wid:Int):jX l wid l=oY l wid:=by
  unfold jX oY without oX
  split
  ·
    rename_i h
    have:s5 l wid=fun x=>x:=by funext x;unfold s5;rw [if_pos h]
    rw [this];exact List.map_id' _
  ·
    rename_i h
    congr 1;funext x;unfold s5;rw [if_neg h]
end Go.Proofs.YtpipachmngdegaaGreat
end
