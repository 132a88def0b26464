import Derived.Test.YtbkfhjaibhnkmaaGreatDoorIMS14
section
namespace Go.Proofs.YtbkfhjaibhnkmaaGreatDoor
open Go.RowKit
set_option linter.unusedVariables false
def fO (l:List ak)(i:Nat):Int :=
  match l[i]? with
  | none=>0
  | some x =>
    if cM x=1 then 1
    else if 0<i ∧ ∃y,l[i-1]? = some y∧x.ID≤y.ID then 3
    else if x.From=0 then 0
    else match (l.take i).find? (fun y=>y.ID==x.From) with
      | none=>5
      | some y=>if (derived y x.ID x.Rights x.aI).2≠0 then (derived y x.ID x.Rights x.aI).2 else if (derived y x.ID x.Rights x.aI).1≠x then 7 else 0
def ej (l:List ak):Int:=match (List.range l.length).find? (fun i=>fO l i != 0) with|some i=>fO l i|none=>0
theorem fG {l:List ak}{k:Nat}{f:Int}(hk:k<l.length)(h:fO l k=f)(hf:f≠0)(h0:∀j,j<k→fO l j=0):ej l=f:=by
 unfold ej
 have:(List.range l.length).find? (fun i=>fO l i != 0)=some k:=by
  rw [List.find?_range_eq_some]
  refine ⟨by simpa [h] using hf,by simpa using hk,fun j hj=>by simp [h0 j hj]⟩
 rw [this];exact h
theorem mh {l:List ak}(h0:∀j,j<l.length→fO l j=0):ej l=0:=by
 unfold ej
 have:(List.range l.length).find? (fun i=>fO l i != 0)=none:=by
  rw [List.find?_eq_none]
  intro i hi
  simp [h0 i (List.mem_range.1 hi)]
 rw [this]
theorem qj {l:List ak}(h:ej l=0):∀j,j<l.length→fO l j=0:=by
 unfold ej at h
 cases hf:(List.range l.length).find? (fun i=>fO l i != 0) with
 | none =>
  intro j hj
  have:=List.find?_eq_none.1 hf j (List.mem_range.2 hj)
  simpa using this
 | some i =>
  rw [hf] at h
  have:=List.find?_some hf
  simp at this;exact absurd h this
theorem iF {l:List ak}{id:Int}:(cB l id = -1∧l.find? (fun y=>y.ID==id)=none) ∨ ∃ (k:Nat) (h:k<l.length),cB l id=k∧l.find? (fun y=>y.ID==id)=some l[k]:=by
 rcases dR l id with ⟨h,h2⟩ | ⟨k,hk,h1,h2,h3⟩
 ·exact .inl ⟨h,by rw [List.find?_eq_none];intro x hx;simpa using h2 x hx⟩
 ·
  refine .inr ⟨k,hk,h1,?_⟩
  rw [List.find?_eq_some_iff_getElem]
  exact ⟨by simpa using h2,k,hk,rfl,fun j hj=>by simpa using h3 j hj⟩
end Go.Proofs.YtbkfhjaibhnkmaaGreatDoor
end
section
namespace Go.Proofs.YtbkfhjaibhnkmaaGreatDoor
open Go.RowKit
set_option linter.unusedVariables false
structure Gi (x:ak):Prop where
  id1:1≤x.ID
  Dl:x.ID≤999
  EH:1≤x.ao
  Fu:x.ao≤999
  Fv:0≤x.aI
  Fw:x.aI≤99
  EI:0≤x.From
  EJ:x.From<x.ID
  Bm:0≤x.Rights
  Bn:x.Rights≤7
theorem ud {x:ak}(h:cM x=0):Gi x:=by
 rcases fk x with ⟨h1,_⟩ | ⟨_,h2⟩
 ·omega
 ·obtain ⟨a,b,c,d,e,f,g,i,j,k⟩:=h2;exact ⟨a,b,c,d,e,f,g,i,j,k⟩
theorem ig (x:ak):cM x=0∨cM x=1:=by
 rcases fk x with ⟨h1,_⟩ | ⟨h1,_⟩
 ·exact .inr h1
 ·exact .inl h1
theorem gv {l:List ak}{k:Nat}{x:ak}(hx:l[k]? = some x)(h:¬ cM x=0):fO l k=1:=by
 have:cM x=1:=by rcases fk x with ⟨h1,_⟩ | ⟨h1,_⟩;exact h1;exact absurd h1 h
 unfold fO;rw [hx];simp only [];rw [if_pos this]
theorem j7 {l:List ak}{k:Nat}{x y:ak}(hx:l[k]? = some x)(h:cM x=0)(hk:0<k)(hy:l[k-1]? = some y)(hle:¬ y.ID<x.ID):fO l k=3:=by
 unfold fO;rw [hx];simp only [];rw [if_neg (by omega),if_pos ⟨hk,y,hy,by omega⟩]
theorem rm {l:List ak}{k:Nat}{x:ak}(hx:l[k]? = some x)(h:cM x=0)(hs:¬ 0<k ∨ ∃y,l[k-1]? = some y∧y.ID<x.ID)(h0:x.From=0):fO l k=0:=by
 unfold fO;rw [hx];simp only [];rw [if_neg (by omega),if_neg,if_pos h0]
 rintro ⟨hk,y,hy,hle⟩
 rcases hs with hs|⟨z,hz,hlt⟩
 ·exact hs hk
 ·rw [hy] at hz;injection hz with hz;subst hz;omega
theorem rq {l:List ak}{k:Nat}{x:ak}(hx:l[k]? = some x)(h:cM x=0)(hs:¬ 0<k ∨ ∃y,l[k-1]? = some y∧y.ID<x.ID)(h0:¬ x.From=0)(hf:cB (l.take k) x.From = -1):fO l k=5:=by
 have hn:(l.take k).find? (fun y=>y.ID==x.From)=none:=by
  rcases iF (l:=l.take k) (id:=x.From) with ⟨_,h2⟩ | ⟨j,hj,h1,h2⟩
  ·exact h2
  ·omega
 unfold fO;rw [hx];simp only [];rw [if_neg (by omega),if_neg,if_neg h0,hn]
 rintro ⟨hk,y,hy,hle⟩
 rcases hs with hs|⟨z,hz,hlt⟩
 ·exact hs hk
 ·rw [hy] at hz;injection hz with hz;subst hz;omega
theorem gw {l:List ak}{k j:Nat}{x y:ak}(hx:l[k]? = some x)(h:cM x=0)(hs:¬ 0<k ∨ ∃y,l[k-1]? = some y∧y.ID<x.ID)(h0:¬ x.From=0)(hf:cB (l.take k) x.From=(j:Int))(hj:j<k)(hy:l[j]? = some y) :
 fO l k=if (derived y x.ID x.Rights x.aI).2≠0 then (derived y x.ID x.Rights x.aI).2 else if (derived y x.ID x.Rights x.aI).1≠x then 7 else 0:=by
 have hn:(l.take k).find? (fun y=>y.ID==x.From)=some y:=by
  rcases iF (l:=l.take k) (id:=x.From) with ⟨h1,h2⟩ | ⟨i,hi,h1,h2⟩
  ·omega
  ·
   have:i=j:=by omega
   subst this
   rw [h2,List.getElem_take,(List.getElem?_eq_some_iff.1 hy).2]
 unfold fO;rw [hx];simp only [];rw [if_neg (by omega),if_neg,if_neg h0,hn]
 rintro ⟨hk,y,hy,hle⟩
 rcases hs with hs|⟨z,hz,hlt⟩
 ·exact hs hk
 ·rw [hy] at hz;injection hz with hz;subst hz;omega
theorem oy {l:List ak}{k:Nat}{x:ak}(hx:l[k]? = some x)(h:fO l k=0):Gi x:=by
 by_cases h1:cM x=0
 ·exact ud h1
 ·rw [gv hx h1] at h;omega
theorem f8 (x:ak)(id r b:Int):(derived x id r b).2=0∨(derived x id r b).2=1∨(derived x id r b).2=7:=by
 unfold derived;(repeat' split) <;> simp
def cR (l:List ak):Prop:=ej l=0
theorem cR.steps {l:List ak}(h:cR l):∀j,j<l.length→fO l j=0:=qj h
theorem cR.mem {l:List ak}(h:cR l){x:ak}(hx:x∈l):Gi x:=by
 obtain ⟨j,hj⟩:=List.mem_iff_getElem?.1 hx
 exact oy hj (h.steps j (List.getElem?_eq_some_iff.1 hj).1)
theorem nM {l:List ak}{k:Nat}(h:∀j,j<k→fO l j=0)(hk:fO l k=0):∀j,j<k+1→fO l j=0:=by
 intro j hj
 rcases Nat.lt_or_ge j k with h1|h1
 ·exact h j h1
 ·
  have:j=k:=by omega
  subst this;exact hk
theorem rr (l:List ak)(c:Int)(h:0≤cB l c):∃x,l[(cB l c).toNat]? = some x∧x.ID=c∧x∈l:=by
 rcases dR l c with ⟨h1,_⟩ | ⟨k,hk,h1,h2,_⟩
 ·omega
 ·
  refine ⟨l[k],?_,h2,List.getElem_mem hk⟩
  rw [h1];simp
def jt (id from':Int)(x:ak):ak:=if x.From=id then { x with From:=from' } else x
def vx (id from':Int)(l:List ak):List ak:=(l.filter (fun x=>decide (x.ID≠id))).map (jt id from')
theorem yA {id f:Int}{l:List ak}{k:Nat}{x:ak}(hx:l[k]? = some x)(h:x.ID=id):vx id f (l.take (k+1))=vx id f (l.take k):=by
 unfold vx
 rw [List.take_add_one,hx,List.filter_append];simp [h]
theorem oz {id f:Int}{l:List ak}{k:Nat}{x:ak}(hx:l[k]? = some x)(h:¬ x.ID=id):vx id f (l.take (k+1))=vx id f (l.take k)++[jt id f x]:=by
 unfold vx
 rw [List.take_add_one,hx,List.filter_append];simp [h]
theorem uf (id f:Int)(l:List ak):(vx id f l).length≤l.length:=by unfold vx;simp;exact List.length_filter_le _ _
theorem ru {id f:Int}{x:ak}(h:x.From=id):jt id f x=⟨x.ID,x.ao,x.Rights,x.aI,f⟩:=by unfold jt;rw [if_pos h]
theorem o7 {id f:Int}{x:ak}(h:¬ x.From=id):jt id f x=x:=by unfold jt;rw [if_neg h]
def ey (l:List ak)(id:Int):Int:=match l.find? (fun y=>y.ID==id) with|some y=>y.From|none=>0
theorem j8 {l:List ak}{id:Int}{j:Nat}{y:ak}(hf:cB l id=(j:Int))(hy:l[j]? = some y):ey l id=y.From:=by
 unfold ey
 rcases iF (l:=l) (id:=id) with ⟨h1,_⟩ | ⟨i,hi,h1,h2⟩
 ·omega
 ·
  have:i=j:=by omega
  subst this;rw [h2,(List.getElem?_eq_some_iff.1 hy).2]
theorem pW {l:List ak}{id:Int}(hf:cB l id = -1):ey l id=0:=by
 unfold ey
 rcases iF (l:=l) (id:=id) with ⟨_,h2⟩ | ⟨i,hi,h1,h2⟩
 ·rw [h2]
 ·omega
def without (l:List ak)(id:Int):List ak:=vx id (ey l id) l
def vy (l:List ak)(id:Int):List ak:=if cB l id<0 then l.filter (fun x=>decide (x.ID≠id)) else without l id
def Bo (l:List ak)(id:Int)(x:ak):ak:=if cB l id<0 then x else jt id (ey l id) x
def ni (l:List ak)(id:Int)(m:List ak):List ak:=(m.filter (fun x=>decide (x.ID≠id))).map (Bo l id)
theorem rx {l0:List ak}{id:Int}{l:List ak}{k:Nat}{x:ak}(hx:l[k]? = some x)(h:x.ID=id):ni l0 id (l.take (k+1))=ni l0 id (l.take k):=by
 unfold ni
 rw [List.take_add_one,hx,List.filter_append];simp [h]
theorem o8 {l0:List ak}{id:Int}{l:List ak}{k:Nat}{x:ak}(hx:l[k]? = some x)(h:¬ x.ID=id):ni l0 id (l.take (k+1))=ni l0 id (l.take k)++[Bo l0 id x]:=by
 unfold ni
 rw [List.take_add_one,hx,List.filter_append];simp [h]
theorem vz (l0:List ak)(id:Int)(l:List ak):(ni l0 id l).length≤l.length:=by unfold ni;simp;exact List.length_filter_le _ _
theorem vA (l:List ak)(wid:Int):ni l wid l=vy l wid:=by
 unfold ni vy without vx
 split
 ·
  rename_i h
  have:Bo l wid=fun x=>x:=by funext x;unfold Bo;rw [if_pos h]
  rw [this];exact List.map_id' _
 ·
  rename_i h
  congr 1;funext x;unfold Bo;rw [if_neg h]
end Go.Proofs.YtbkfhjaibhnkmaaGreatDoor
end
