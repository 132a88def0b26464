import Derived.Test.YtbkfhjaibhnkmaaGreatDoorIMS10
import Derived.Lib.Bytealg
import Derived.Sort.Walk0
import Derived.Test.YtbkfhjaibhnkmaaGreatDoorIMS12
import Derived.Test.YtbkfhjaibhnkmaaGreatDoorIMS30
import Derived.Lib.Atoi
import Derived.Lib.ItoaNum
import Derived.Lib.Repeat
section
namespace Go.Proofs.YtbkfhjaibhnkmaaGreatDoor
open Go
set_option linter.unusedVariables false
theorem kj (a:ByteArray):a.toList=a.data.toList:=Lib.toList_data a
theorem iw {a b:ByteArray}(h:a.data.toList=b.data.toList):a=b:=by
 cases a with|mk x=>cases b with|mk y=>congr;exact Array.toList_inj.1 h
theorem iW (a b:ByteArray):fS a b=true↔a.data.toList<b.data.toList:=by
 unfold fS;rw [Proofs.bytesLess_eq,kj,kj];exact decide_eq_true_iff
theorem eR (a:ByteArray):fS a a=false:=by
 rw [Bool.eq_false_iff];intro h;exact List.lt_irrefl _ ((iW a a).1 h)
theorem hN {a b c:ByteArray}(h:fS a b=true)(k:fS b c=true):fS a c=true:=(iW _ _).2 (List.lt_trans ((iW _ _).1 h) ((iW _ _).1 k))
theorem kR {a b:ByteArray}(h:fS a b=true):fS b a=false:=by
 rw [Bool.eq_false_iff];intro k;have:=hN h k;rw [eR] at this;cases this
theorem vW:∀ (x y:List UInt8),x<y∨x=y∨y<x
 | [],[] => .inr (.inl rfl)
 | [],_::_ => .inl (List.Lex.nil)
 | _::_,[] => .inr (.inr (List.Lex.nil))
 | a::x,b::y=>by
  rcases Nat.lt_trichotomy a.toNat b.toNat with h|h|h
  ·exact .inl (List.Lex.rel (UInt8.lt_iff_toNat_lt.2 h))
  ·
   have e:a=b:=UInt8.toNat_inj.1 h
   subst e
   rcases vW x y with h|h|h
   ·exact .inl (List.Lex.cons h)
   ·exact .inr (.inl (by rw [h]))
   ·exact .inr (.inr (List.Lex.cons h))
  ·exact .inr (.inr (List.Lex.rel (UInt8.lt_iff_toNat_lt.2 h)))
theorem m6 (a b:ByteArray):fS a b=true∨a=b∨fS b a=true:=by
 rcases vW a.data.toList b.data.toList with h|h|h
 ·exact .inl ((iW _ _).2 h)
 ·exact .inr (.inl (iw h))
 ·exact .inr (.inr ((iW _ _).2 h))
theorem FK {a b:ByteArray}(h:fS a b=false)(hn:a≠b):fS b a=true:=by
 rcases m6 a b with k|k|k
 ·rw [h] at k;cases k
 ·exact absurd k hn
 ·exact k
def ut (a b:ByteArray):Int:=if fS a b=true then -1 else if a=b then 0 else 1
theorem vX:∀ (x y:List UInt8),Lib.compareBytes x y=if x<y then -1 else if x=y then 0 else 1
 | [],[]=>rfl
 | [],b::y=>by rw [if_pos (show ([]:List UInt8)<b::y from List.Lex.nil)];rfl
 | a::x,[]=>by rw [if_neg (show ¬ (a::x)<[] from List.not_lt_nil _),if_neg (by simp)];rfl
 | a::x,b::y=>by
  unfold Lib.compareBytes
  rw [vX x y]
  by_cases h:a<b
  ·rw [if_pos h,if_pos (show a::x<b::y from List.Lex.rel h)]
  ·
   rw [if_neg h]
   by_cases k:b<a
   ·
    have hne:¬ a=b:=fun e=>by subst e;exact UInt8.lt_irrefl _ k
    rw [if_pos k,if_neg (fun hh=>by
     cases hh with
     | rel hh=>exact h hh
     | cons _=>exact hne rfl),if_neg (by simp [hne])]
   ·
    have e:a=b:=UInt8.toNat_inj.1 (by have h1:=(not_congr UInt8.lt_iff_toNat_lt).1 h;have h2:=(not_congr UInt8.lt_iff_toNat_lt).1 k;omega)
    subst e
    rw [if_neg k]
    have hc:(a::x<a::y)=(x<y):=propext ⟨fun hh=>by
     cases hh with
     | rel hh=>exact absurd hh h
     | cons hh=>exact hh,fun hh=>List.Lex.cons hh⟩
    simp only [hc,List.cons.injEq,true_and]
theorem yN (a b:ByteArray):Lib.compareBytes a.toList b.toList=ut a b:=by
 rw [vX,kj,kj];unfold ut
 have e:(a.data.toList=b.data.toList)=(a=b):=propext ⟨iw,fun h=>by rw [h]⟩
 by_cases h:fS a b=true
 ·rw [if_pos ((iW _ _).1 h),if_pos h]
 ·rw [if_neg (fun k=>h ((iW _ _).2 k)),if_neg h];simp only [e]
theorem tv {a b:ByteArray}:ut a b=0↔a=b:=by
 unfold ut
 by_cases h:fS a b=true
 ·
  rw [if_pos h];constructor
  ·intro k;cases k
  ·intro k;subst k;rw [eR] at h;cases h
 ·
  rw [if_neg h];by_cases k:a=b
  ·rw [if_pos k];simp [k]
  ·rw [if_neg k];simp [k]
theorem rY {a b:ByteArray}:ut a b<0↔fS a b=true:=by
 unfold ut
 by_cases h:fS a b=true
 ·rw [if_pos h];simp [h]
 ·
  rw [if_neg h];by_cases k:a=b
  ·rw [if_pos k];simp [h]
  ·rw [if_neg k];simp [h]
end Go.Proofs.YtbkfhjaibhnkmaaGreatDoor
end
section
namespace Go.Proofs.YtbkfhjaibhnkmaaGreatDoor
open Go
set_option linter.unusedVariables false
def c0:Change:=⟨⟨#[]⟩,⟨#[]⟩,false⟩
def fa (s:ByteArray)(i:Nat):Nat:=((s.data[i]?).getD 0).toNat
abbrev bl (s:ByteArray):List UInt8:=s.data.toList
theorem gi (s:ByteArray):(bl s).length=s.size:=Array.length_toList
theorem iy (a b:ByteArray):bl (a++b)=bl a++bl b:=by simp [bl,ByteArray.data_append]
theorem ku (s:ByteArray)(i j:Nat):bl (s.extract i j)=((bl s).take j).drop i:=by
 simp only [bl,ByteArray.data_extract,Array.toList_extract,List.extract_eq_take_drop]
 rw [List.drop_take]
theorem kS (s:ByteArray)(i:Nat):fa s i=(((bl s)[i]?).getD 0).toNat:=by simp [fa,bl]
theorem vY {s:ByteArray}(h:s.size=0):s=⟨#[]⟩:=iw (by rw [List.eq_nil_of_length_eq_zero (l:=s.data.toList) (by rw [Array.length_toList];exact h)])
theorem BR {n:Nat}(h:n<256):(UInt8.ofNat n).toNat=n:=by rw [UInt8.toNat_ofNat'];omega
def fK (k:ByteArray)(x:Change):Int:=ut x.Key k
def dY (l:List Change):Prop:=l.Pairwise (fun a b=>fS a.Key b.Key=true)
inductive Cut (l:List Change)(k:ByteArray):Prop where
  | hit (A B:List Change) (x:Change) (e:l=A++x::B) (hx:x.Key=k) (ha:∀y∈A,fS y.Key k=true) (hb:∀y∈B,fS k y.Key=true)
  | miss (A B:List Change) (e:l=A++B) (ha:∀y∈A,fS y.Key k=true) (hb:∀y∈B,fS k y.Key=true)
theorem dY.cut:∀ {l:List Change} (h:dY l) (k:ByteArray),Cut l k
 | [],h,k => .miss [] [] rfl (fun y hy=>by cases hy) (fun y hy=>by cases hy)
 | x::l,h,k=>by
  obtain ⟨h1,h2⟩:=List.pairwise_cons.1 h
  rcases m6 x.Key k with hl|hl|hl
  ·
   rcases dY.cut h2 k with ⟨A,B,y,e,hy,ha,hb⟩ | ⟨A,B,e,ha,hb⟩
   ·exact .hit (x::A) B y (by rw [e];rfl) hy (fun z hz=>by rcases List.mem_cons.1 hz with r|r;exact r▸hl;exact ha z r) hb
   ·exact .miss (x::A) B (by rw [e];rfl) (fun z hz=>by rcases List.mem_cons.1 hz with r|r;exact r▸hl;exact ha z r) hb
  ·subst hl;exact .hit [] l x rfl rfl (fun y hy=>by cases hy) h1
  ·exact .miss [] (x::l) rfl (fun y hy=>by cases hy) (fun z hz=>by rcases List.mem_cons.1 hz with r|r;exact r▸hl;exact hN hl (h1 z r))
theorem EP {f:Change→Int}{A R:List Change}(ha:∀y∈A,f y<0)(hr:∀y∈R,¬ f y<0):mQ f (A++R)=A.length:=by
 have hm:∀ (i j:Nat) x y,i≤j→(A++R)[i]? = some x→(A++R)[j]? = some y→f y<0→f x<0:=fun i j x y hij hx hy hf=>by
  by_cases hj:j<A.length
  ·rw [List.getElem?_append_left (by omega)] at hx;exact ha x (List.mem_of_getElem? hx)
  ·rw [List.getElem?_append_right (by omega)] at hy;exact absurd hf (hr y (List.mem_of_getElem? hy))
 obtain ⟨h1,h2⟩:=vm hm
 rcases Nat.lt_trichotomy (mQ f (A++R)) A.length with h|h|h
 ·
  have hg:=List.getElem?_eq_getElem h
  exact absurd (ha _ (List.mem_of_getElem? hg)) (h2 (mQ f (A++R)) _ (Nat.le_refl _) (by rw [List.getElem?_append_left h];exact hg))
 ·exact h
 ·
  have hle:mQ f (A++R)≤(A++R).length:=A8
  have hlt:A.length<(A++R).length:=by omega
  have hg:=List.getElem?_eq_getElem hlt
  have:=h1 A.length _ h hg
  rw [List.getElem?_append_right (Nat.le_refl _)] at hg
  exact absurd this (hr _ (List.mem_of_getElem? hg))
theorem uu {k:ByteArray}{x:Change}:fK k x<0↔fS x.Key k=true:=rY
theorem xE {k:ByteArray}{x:Change}(h:fS k x.Key=true):¬ fK k x<0∧fK k x≠0:=by
 refine ⟨fun hh=>?_,fun hh=>?_⟩
 ·have:=kR (uu.1 hh);rw [h] at this;cases this
 ·have e:=tv.1 hh;rw [e,eR] at h;cases h
theorem BS {A B:List Change}{x:Change}{k:ByteArray}(hx:x.Key=k)(ha:∀y∈A,fS y.Key k=true)(hb:∀y∈B,fS k y.Key=true):mQ (fK k) (A++x::B)=A.length∧mR (fK k) (A++x::B)=true:=by
 have e:mQ (fK k) (A++x::B)=A.length:=EP (fun y hy=>uu.2 (ha y hy)) (fun y hy=>by
  rcases List.mem_cons.1 hy with r|r
  ·subst r;intro hh;have:=uu.1 hh;rw [hx,eR] at this;cases this
  ·exact (xE (hb y r)).1)
 refine ⟨e,?_⟩
 unfold mR;rw [e,List.getElem?_append_right (Nat.le_refl _),Nat.sub_self]
 exact decide_eq_true (tv.2 hx)
theorem DJ {A B:List Change}{k:ByteArray}(ha:∀y∈A,fS y.Key k=true)(hb:∀y∈B,fS k y.Key=true):mQ (fK k) (A++B)=A.length∧mR (fK k) (A++B)=false:=by
 have e:mQ (fK k) (A++B)=A.length:=EP (fun y hy=>uu.2 (ha y hy)) (fun y hy=>(xE (hb y hy)).1)
 refine ⟨e,?_⟩
 unfold mR;rw [e,List.getElem?_append_right (Nat.le_refl _),Nat.sub_self]
 cases B with
 | nil=>rfl
 | cons y B=>exact decide_eq_false (xE (hb y (List.mem_cons_self ..))).2
theorem tw:∀ (a b:List Change),dY a→dY b→(∀x,x∈a↔x∈b)→a=b
 | [],[],_,_,_=>rfl
 | [],y::b,_,_,h=>absurd ((h y).2 (List.mem_cons_self ..)) (by simp)
 | x::a,[],_,_,h=>absurd ((h x).1 (List.mem_cons_self ..)) (by simp)
 | x::a,y::b,ha,hb,h=>by
  obtain ⟨a1,a2⟩:=List.pairwise_cons.1 ha
  obtain ⟨b1,b2⟩:=List.pairwise_cons.1 hb
  have no:∀ {u v:Change},fS u.Key v.Key=true→fS v.Key u.Key=true→False:=fun h k=>by
   have:=kR h;rw [k] at this;cases this
  have hxy:x=y:=by
   rcases List.mem_cons.1 ((h x).1 (List.mem_cons_self ..)) with e|e
   ·exact e
   ·
    rcases List.mem_cons.1 ((h y).2 (List.mem_cons_self ..)) with e2|e2
    ·exact e2.symm
    ·exact (no (b1 x e) (a1 y e2)).elim
  subst hxy
  congr 1
  refine tw a b a2 b2 fun z=>⟨fun hz=>?_,fun hz=>?_⟩
  ·
   rcases List.mem_cons.1 ((h z).1 (List.mem_cons_of_mem _ hz)) with e|e
   ·subst e;have:=a1 z hz;rw [eR] at this;cases this
   ·exact e
  ·
   rcases List.mem_cons.1 ((h z).2 (List.mem_cons_of_mem _ hz)) with e|e
   ·subst e;have:=b1 z hz;rw [eR] at this;cases this
   ·exact e
end Go.Proofs.YtbkfhjaibhnkmaaGreatDoor
end
section
namespace Go.Proofs.YtbkfhjaibhnkmaaGreatDoor
set_option linter.unusedVariables false
def dr (n:Int):ByteArray:=⟨(Lib.itoa n).toArray⟩
def aW (n:Int):ByteArray:=⟨(Lib.repeatL [48] (4-(dr n).size)).toArray⟩++dr n
def nn (s:ByteArray):Option Int:=match Lib.atoi s.data.toList with|some n=>if aW n=s then some n else none|none=>none
def fR (s:ByteArray):Nat→Option (List Int)
  | 0=>some []
  | k+1=>match fR s k with
    | some l=>match nn (s.extract (4*k) (4*k+4)) with|some n=>some (l++[n])|none=>none
    | none=>none
def cx (s:ByteArray)(m:Nat):Option (List Int):=if s.size<4*m then none else fR s m
theorem kU {s:ByteArray}:∀ {k:Nat} {l:List Int},fR s k=some l→l.length=k
 | 0,l,h=>by simp [fR] at h;subst h;rfl
 | k+1,l,h=>by
  simp only [fR] at h
  split at h
  ·
   rename_i l' h'
   split at h
   ·injection h with h;subst h;simp [kU h']
   ·cases h
  ·cases h
theorem rZ {s:ByteArray}{k:Nat}{l:List Int}{n:Int}(h:fR s k=some l)(hn:nn (s.extract (4*k) (4*k+4))=some n):fR s (k+1)=some (l++[n]):=by simp only [fR,h,hn]
theorem r5 {s:ByteArray}:∀ {m k:Nat},k≤m→fR s k=none→fR s m=none
 | 0,k,hk,h=>by
  have:k=0:=by omega
  subst this;exact h
 | m+1,k,hk,h=>by
  rcases Nat.lt_or_ge k (m+1) with h1|h1
  ·simp only [fR,r5 (m:=m) (by omega) h]
  ·
   have:k=m+1:=by omega
   subst this;exact h
theorem zH {s:ByteArray}{k m:Nat}{l:List Int}(hk:k<m)(h:fR s k=some l)(hn:nn (s.extract (4*k) (4*k+4))=none):fR s m=none :=
 r5 (k:=k+1) (by omega) (by simp only [fR,h,hn])
theorem pz {s:ByteArray}:∀ {m k:Nat} {l:List Int},fR s m=some l→k≤m→fR s k=some (l.take k)
 | 0,k,l,h,hk=>by
  have:k=0:=by omega
  subst this;simp [fR] at h ⊢
 | m+1,k,l,h,hk=>by
  simp only [fR] at h
  split at h
  ·
   rename_i l' h'
   split at h
   ·
    rename_i n hn
    injection h with h;subst h
    have hl:=kU h'
    rcases Nat.lt_or_ge k (m+1) with h1|h1
    ·rw [List.take_append_of_le_length (by omega)];exact pz h' (by omega)
    ·
     have:k=m+1:=by omega
     subst this
     rw [List.take_of_length_le (by simp;omega)];exact rZ h' hn
   ·cases h
  ·cases h
theorem BU {s:ByteArray}{m j:Nat}{l:List Int}{n:Int}(h:fR s m=some l)(hn:l[j]? = some n):nn (s.extract (4*j) (4*j+4))=some n:=by
 have hl:=kU h
 have hj:=(List.getElem?_eq_some_iff.1 hn).1
 have h1:=pz h (k:=j+1) (by omega)
 have h0:=pz h (k:=j) (by omega)
 simp only [fR,h0] at h1
 split at h1
 ·
  rename_i x hx
  injection h1 with h1
  have e:(l.take (j+1))[j]? = some n:=by rw [List.getElem?_take_of_lt (by omega)];exact hn
  rw [← h1,List.getElem?_append_right (by simp;omega)] at e
  have:j-(l.take j).length=0:=by simp;omega
  rw [this] at e;simp at e;rw [hx,e]
 ·cases h1
theorem jS {s:ByteArray}{m j:Nat}{l:List Int}{n:Int}(h:cx s m=some l)(hn:l[j]? = some n):nn (s.extract (4*j) (4*j+4))=some n:=by
 unfold cx at h;split at h
 ·cases h
 ·exact BU h hn
theorem kV {s:ByteArray}{m:Nat}{l:List Int}(h:cx s m=some l):l.length=m∧4*m≤s.size:=by
 unfold cx at h;split at h
 ·cases h
 ·exact ⟨kU h,by omega⟩
def kH:ByteArray:=⟨#[104]⟩
def kT:ByteArray:=⟨#[116]⟩
def kW:ByteArray:=⟨#[119]⟩
def kX:ByteArray:=⟨#[120]⟩
def hrow (h:Held):Change:=⟨kH++dr h.Place.aj++dr h.Place.Slot,aW h.ak,false⟩
def gV (t:ao):Change:=⟨kT++aW t.ID,aW t.Kind++t.Data,false⟩
def jo (w:ak):Change:=⟨kW++aW w.ID,aW w.ao++aW w.Rights++aW w.aI++aW w.From,false⟩
def vZ (r:ar):Change:=⟨kX,aW r.ae++aW r.af,false⟩
def rowsOf (q:ar):List Change:=q.Held.map hrow++q.Things.map gV++q.ai.map jo++[vZ q]
def aU (r:ar):List Change:=rowsOf (aH r)
def DK (s:ByteArray)(i:Nat):Int:=(fa s i:Int)
def uP (c:Change):Place:=⟨DK c.Key 1-48,DK c.Key 2-48⟩
def sD (r:ar)(h:Held):ar:=⟨r.ai,r.Things,r.Held++[h],r.Notes,r.ae,r.af⟩
def sE (r:ar)(t:ao):ar:=⟨r.ai,r.Things++[t],r.Held,r.Notes,r.ae,r.af⟩
def oL (r:ar)(w:ak):ar:=⟨r.ai++[w],r.Things,r.Held,r.Notes,r.ae,r.af⟩
def xF (r:ar)(a b:Int):ar:=⟨r.ai,r.Things,r.Held,r.Notes,a,b⟩
def pA (o:Option (List Int))(j:Nat):Int:=((o.getD [])[j]?).getD 0
def rowP (r:ar)(c:Change):ar×Bool :=
  if c.Key.size=0 then (r,false) else
  let key:=cx (c.Key.extract 1 c.Key.size) 1
  let ok:=key.isSome&&decide (c.Key.size=5)
  let n1:=cx c.Val 1
  let n4:=cx c.Val 4
  let n2:=cx c.Val 2
  if fa c.Key 0=104 then (if n1.isSome=false∨c.Val.size≠4∨c.Key.size≠3 then (r,false) else (sD r ⟨uP c,pA n1 0⟩,decide (bu (uP c)=0)))
  else if fa c.Key 0=116 then (if ok=false∨n1.isSome=false∨12<c.Val.size then (r,false) else (sE r ⟨pA key 0,pA n1 0,c.Val.extract 4 c.Val.size⟩,decide (pA n1 0=1∨pA n1 0=2∧c.Val.size=4)))
  else if fa c.Key 0=119 then (if ok=false∨n4.isSome=false∨c.Val.size≠16 then (r,false) else (oL r ⟨pA key 0,pA n4 0,pA n4 1,pA n4 2,pA n4 3⟩,true))
  else if c.Key≠kX∨n2.isSome=false∨c.Val.size≠8 then (r,false) else (xF r (pA n2 0) (pA n2 1),true)
def mF (pv:Option ByteArray)(c:Change):Bool:=match pv with|some k=>fS k c.Key|none=>true
def pgo:List Change→Option ByteArray→ar→Option ar
  | [],_,r=>some r
  | c::l,pv,r=>if mF pv c && !c.Gone&&(rowP r c).2 then pgo l (some c.Key) (rowP r c).1 else none
structure Whole (r:ar):Prop where
  tree:cR r.ai
  gh:r.Things.length≤10
  ki:1≤r.ae
  lC:r.ae≤1000
  kv:1≤r.af
  ky:r.af≤1000
  hlen:r.Held.length=r.ai.length
  eo:∀h∈r.Held,0≤cB r.ai h.ak
  once:(r.Held.map Held.ak).Nodup
  things:r.Things.map ao.ID=aX r.ai
  BV:∀w,r.ai.getLast? = some w→w.ID<r.ae
  BW:∀t,r.Things.getLast? = some t→t.ID<r.af
noncomputable def ef (r:ar):Bool:= @decide (Whole r) (Classical.propDecidable _)
noncomputable def aO (l:List Change):ar×Int:=match pgo l none r0 with|some r=>if ef r=true then (r,0) else (r0,4)|none=>(r0,4)
theorem nV {r:ar}(h:Whole r):ef r=true:=by unfold ef;simp [h]
theorem e6 {r:ar}(h:¬ Whole r):ef r=false:=by unfold ef;simp [h]
theorem mG (l:List Change):(∃z,pgo l none r0=some z∧Whole z∧aO l=(z,0))∨aO l=(r0,4):=by
 unfold aO
 cases h:pgo l none r0 with
 | none=>exact .inr rfl
 | some z =>
  by_cases hw:Whole z
  ·left;exact ⟨z,rfl,hw,by dsimp only;rw [if_pos (nV hw)]⟩
  ·right;dsimp only;rw [if_neg (by rw [e6 hw];decide)]
end Go.Proofs.YtbkfhjaibhnkmaaGreatDoor
end
