import Derived.Test.YtbkfhjaibhnkmaaGreatDoorTSD15
section
namespace Go.Proofs.YtbkfhjaibhnkmaaGreatDoor
open Go.RowKit
set_option linter.unusedVariables false
def eW (l:List aj)(i:Nat):Int :=
  match l[i]? with
  | none=>0
  | some x =>
    if bK x=1 then 1
    else if 0<i ∧ ∃y,l[i-1]? = some y∧x.ID≤y.ID then 3
    else if x.From=0 then 0
    else match (l.take i).find? (fun y=>y.ID==x.From) with
      | none=>5
      | some y=>if (derived y x.ID x.Rights x.aG).2≠0 then (derived y x.ID x.Rights x.aG).2 else if (derived y x.ID x.Rights x.aG).1≠x then 7 else 0
def cW (l:List aj):Int:=match (List.range l.length).find? (fun i=>eW l i != 0) with|some i=>eW l i|none=>0
theorem eM {l:List aj}{k:Nat}{f:Int}(hk:k<l.length)(h:eW l k=f)(hf:f≠0)(h0:∀j,j<k→eW l j=0):cW l=f:=by
 unfold cW
 have:(List.range l.length).find? (fun i=>eW l i != 0)=some k:=by
  rw [List.find?_range_eq_some]
  refine ⟨by simpa [h] using hf,by simpa using hk,fun j hj=>by simp [h0 j hj]⟩
 rw [this];exact h
theorem kc {l:List aj}(h0:∀j,j<l.length→eW l j=0):cW l=0:=by
 unfold cW
 have:(List.range l.length).find? (fun i=>eW l i != 0)=none:=by
  rw [List.find?_eq_none]
  intro i hi
  simp [h0 i (List.mem_range.1 hi)]
 rw [this]
theorem nx {l:List aj}(h:cW l=0):∀j,j<l.length→eW l j=0:=by
 unfold cW at h
 cases hf:(List.range l.length).find? (fun i=>eW l i != 0) with
 | none =>
  intro j hj
  have:=List.find?_eq_none.1 hf j (List.mem_range.2 hj)
  simpa using this
 | some i =>
  rw [hf] at h
  have:=List.find?_some hf
  simp at this;exact absurd h this
theorem gD {l:List aj}{id:Int}:(bL l id = -1∧l.find? (fun y=>y.ID==id)=none) ∨ ∃ (k:Nat) (h:k<l.length),bL l id=k∧l.find? (fun y=>y.ID==id)=some l[k]:=by
 rcases dO l id with ⟨h,h2⟩ | ⟨k,hk,h1,h2,h3⟩
 ·exact .inl ⟨h,by rw [List.find?_eq_none];intro x hx;simpa using h2 x hx⟩
 ·
  refine .inr ⟨k,hk,h1,?_⟩
  rw [List.find?_eq_some_iff_getElem]
  exact ⟨by simpa using h2,k,hk,rfl,fun j hj=>by simpa using h3 j hj⟩
end Go.Proofs.YtbkfhjaibhnkmaaGreatDoor
end
section
namespace Go.Proofs.YtbkfhjaibhnkmaaGreatDoor
open Go.RowKit
set_option linter.unusedVariables false
structure C6 (x:aj):Prop where
  id1:1≤x.ID
  Ah:x.ID≤999
  Ai:1≤x.ah
  A9:x.ah≤999
  Ba:0≤x.aG
  Bb:x.aG≤99
  Ct:0≤x.From
  Bc:x.From<x.ID
  xD:0≤x.Rights
  xE:x.Rights≤7
theorem qp {x:aj}(h:bK x=0):C6 x:=by
 rcases eE x with ⟨h1,_⟩ | ⟨_,h2⟩
 ·omega
 ·obtain ⟨a,b,c,d,e,f,g,i,j,k⟩:=h2;exact ⟨a,b,c,d,e,f,g,i,j,k⟩
theorem gq (x:aj):bK x=0∨bK x=1:=by
 rcases eE x with ⟨h1,_⟩ | ⟨h1,_⟩
 ·exact .inr h1
 ·exact .inl h1
theorem fC {l:List aj}{k:Nat}{x:aj}(hx:l[k]? = some x)(h:¬ bK x=0):eW l k=1:=by
 have:bK x=1:=by rcases eE x with ⟨h1,_⟩ | ⟨h1,_⟩;exact h1;exact absurd h1 h
 unfold eW;rw [hx];simp only [];rw [if_pos this]
theorem iK {l:List aj}{k:Nat}{x y:aj}(hx:l[k]? = some x)(h:bK x=0)(hk:0<k)(hy:l[k-1]? = some y)(hle:¬ y.ID<x.ID):eW l k=3:=by
 unfold eW;rw [hx];simp only [];rw [if_neg (by omega),if_pos ⟨hk,y,hy,by omega⟩]
theorem oy {l:List aj}{k:Nat}{x:aj}(hx:l[k]? = some x)(h:bK x=0)(hs:¬ 0<k ∨ ∃y,l[k-1]? = some y∧y.ID<x.ID)(h0:x.From=0):eW l k=0:=by
 unfold eW;rw [hx];simp only [];rw [if_neg (by omega),if_neg,if_pos h0]
 rintro ⟨hk,y,hy,hle⟩
 rcases hs with hs|⟨z,hz,hlt⟩
 ·exact hs hk
 ·rw [hy] at hz;injection hz with hz;subst hz;omega
theorem oz {l:List aj}{k:Nat}{x:aj}(hx:l[k]? = some x)(h:bK x=0)(hs:¬ 0<k ∨ ∃y,l[k-1]? = some y∧y.ID<x.ID)(h0:¬ x.From=0)(hf:bL (l.take k) x.From = -1):eW l k=5:=by
 have hn:(l.take k).find? (fun y=>y.ID==x.From)=none:=by
  rcases gD (l:=l.take k) (id:=x.From) with ⟨_,h2⟩ | ⟨j,hj,h1,h2⟩
  ·exact h2
  ·omega
 unfold eW;rw [hx];simp only [];rw [if_neg (by omega),if_neg,if_neg h0,hn]
 rintro ⟨hk,y,hy,hle⟩
 rcases hs with hs|⟨z,hz,hlt⟩
 ·exact hs hk
 ·rw [hy] at hz;injection hz with hz;subst hz;omega
theorem fD {l:List aj}{k j:Nat}{x y:aj}(hx:l[k]? = some x)(h:bK x=0)(hs:¬ 0<k ∨ ∃y,l[k-1]? = some y∧y.ID<x.ID)(h0:¬ x.From=0)(hf:bL (l.take k) x.From=(j:Int))(hj:j<k)(hy:l[j]? = some y) :
 eW l k=if (derived y x.ID x.Rights x.aG).2≠0 then (derived y x.ID x.Rights x.aG).2 else if (derived y x.ID x.Rights x.aG).1≠x then 7 else 0:=by
 have hn:(l.take k).find? (fun y=>y.ID==x.From)=some y:=by
  rcases gD (l:=l.take k) (id:=x.From) with ⟨h1,h2⟩ | ⟨i,hi,h1,h2⟩
  ·omega
  ·
   have:i=j:=by omega
   subst this
   rw [h2,List.getElem_take,(List.getElem?_eq_some_iff.1 hy).2]
 unfold eW;rw [hx];simp only [];rw [if_neg (by omega),if_neg,if_neg h0,hn]
 rintro ⟨hk,y,hy,hle⟩
 rcases hs with hs|⟨z,hz,hlt⟩
 ·exact hs hk
 ·rw [hy] at hz;injection hz with hz;subst hz;omega
theorem lV {l:List aj}{k:Nat}{x:aj}(hx:l[k]? = some x)(h:eW l k=0):C6 x:=by
 by_cases h1:bK x=0
 ·exact qp h1
 ·rw [fC hx h1] at h;omega
theorem pg (x:aj)(id r b:Int):(derived x id r b).2=0∨(derived x id r b).2=1∨(derived x id r b).2=7:=by
 unfold derived;(repeat' split) <;> simp
def cj (l:List aj):Prop:=cW l=0
theorem cj.steps {l:List aj}(h:cj l):∀j,j<l.length→eW l j=0:=nx h
theorem cj.mem {l:List aj}(h:cj l){x:aj}(hx:x∈l):C6 x:=by
 obtain ⟨j,hj⟩:=List.mem_iff_getElem?.1 hx
 exact lV hj (h.steps j (List.getElem?_eq_some_iff.1 hj).1)
theorem ln {l:List aj}{k:Nat}(h:∀j,j<k→eW l j=0)(hk:eW l k=0):∀j,j<k+1→eW l j=0:=by
 intro j hj
 rcases Nat.lt_or_ge j k with h1|h1
 ·exact h j h1
 ·
  have:j=k:=by omega
  subst this;exact hk
theorem ra (l:List aj)(c:Int)(h:0≤bL l c):∃x,l[(bL l c).toNat]? = some x∧x.ID=c∧x∈l:=by
 rcases dO l c with ⟨h1,_⟩ | ⟨k,hk,h1,h2,_⟩
 ·omega
 ·
  refine ⟨l[k],?_,h2,List.getElem_mem hk⟩
  rw [h1];simp
def iD (id from':Int)(x:aj):aj:=if x.From=id then { x with From:=from' } else x
def sC (id from':Int)(l:List aj):List aj:=(l.filter (fun x=>decide (x.ID≠id))).map (iD id from')
theorem tX {id f:Int}{l:List aj}{k:Nat}{x:aj}(hx:l[k]? = some x)(h:x.ID=id):sC id f (l.take (k+1))=sC id f (l.take k):=by
 unfold sC
 rw [List.take_add_one,hx,List.filter_append];simp [h]
theorem lW {id f:Int}{l:List aj}{k:Nat}{x:aj}(hx:l[k]? = some x)(h:¬ x.ID=id):sC id f (l.take (k+1))=sC id f (l.take k)++[iD id f x]:=by
 unfold sC
 rw [List.take_add_one,hx,List.filter_append];simp [h]
theorem qq (id f:Int)(l:List aj):(sC id f l).length≤l.length:=by unfold sC;simp;exact List.length_filter_le _ _
theorem rh {id f:Int}{x:aj}(h:x.From=id):iD id f x=⟨x.ID,x.ah,x.Rights,x.aG,f⟩:=by unfold iD;rw [if_pos h]
theorem pO {id f:Int}{x:aj}(h:¬ x.From=id):iD id f x=x:=by unfold iD;rw [if_neg h]
def dy (l:List aj)(id:Int):Int:=match l.find? (fun y=>y.ID==id) with|some y=>y.From|none=>0
theorem m5 {l:List aj}{id:Int}{j:Nat}{y:aj}(hf:bL l id=(j:Int))(hy:l[j]? = some y):dy l id=y.From:=by
 unfold dy
 rcases gD (l:=l) (id:=id) with ⟨h1,_⟩ | ⟨i,hi,h1,h2⟩
 ·omega
 ·
  have:i=j:=by omega
  subst this;rw [h2,(List.getElem?_eq_some_iff.1 hy).2]
theorem m6 {l:List aj}{id:Int}(hf:bL l id = -1):dy l id=0:=by
 unfold dy
 rcases gD (l:=l) (id:=id) with ⟨_,h2⟩ | ⟨i,hi,h1,h2⟩
 ·rw [h2]
 ·omega
def without (l:List aj)(id:Int):List aj:=sC id (dy l id) l
def Ep (l:List aj)(id:Int)(x:aj):aj:=if bL l id<0 then x else iD id (dy l id) x
def Cv (l:List aj)(id:Int)(m:List aj):List aj:=(m.filter (fun x=>decide (x.ID≠id))).map (Ep l id)
end Go.Proofs.YtbkfhjaibhnkmaaGreatDoor
end
