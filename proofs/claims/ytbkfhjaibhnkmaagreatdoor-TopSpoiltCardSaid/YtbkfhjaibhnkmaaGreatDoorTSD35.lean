import Derived.Test.YtbkfhjaibhnkmaaGreatDoorTSD34
import Derived.Test.YtbkfhjaibhnkmaaGreatDoorTSD12
namespace Go.Proofs.YtbkfhjaibhnkmaaGreatDoor
open Go
set_option linter.unusedVariables false
def c0:Change:=⟨⟨#[]⟩,⟨#[]⟩,false⟩
def fQ (s:ByteArray)(i:Nat):Nat:=((s.data[i]?).getD 0).toNat
abbrev bl (s:ByteArray):List UInt8:=s.data.toList
theorem iy (s:ByteArray):(bl s).length=s.size:=Array.length_toList
theorem gW (a b:ByteArray):bl (a++b)=bl a++bl b:=by simp [bl,ByteArray.data_append]
theorem lB (s:ByteArray)(i j:Nat):bl (s.extract i j)=((bl s).take j).drop i:=by
 simp only [bl,ByteArray.data_extract,Array.toList_extract,List.extract_eq_take_drop]
 rw [List.drop_take]
theorem kM (s:ByteArray)(i:Nat):fQ s i=(((bl s)[i]?).getD 0).toNat:=by simp [fQ,bl]
theorem rR {s:ByteArray}(h:s.size=0):s=⟨#[]⟩:=lA (by rw [List.eq_nil_of_length_eq_zero (l:=s.data.toList) (by rw [Array.length_toList];exact h)])
theorem wZ {n:Nat}(h:n<256):(UInt8.ofNat n).toNat=n:=by rw [UInt8.toNat_ofNat'];omega
def fK (k:ByteArray)(x:Change):Int:=wX x.Key k
def xJ (rows:List Change)(c:Change):List Change :=
  if tT (fK c.Key) rows=true then (if c.Gone=true then rows.take (pb (fK c.Key) rows)++rows.drop (pb (fK c.Key) rows+1) else rows.set (pb (fK c.Key) rows) c)
  else if c.Gone=true then rows else rows.take (pb (fK c.Key) rows)++[c]++rows.drop (pb (fK c.Key) rows)
def w8 (rows l:List Change):List Change:=l.foldl xJ rows
def dh (c:Change)(s:List Change×Bool)(x:Change):List Change×Bool :=
  let s1:=if s.2=false∧(fT c.Key x.Key||decide (c.Key=x.Key))=true then (s.1++[c],true) else s
  (if x.Key=c.Key then s1.1 else s1.1++[x],s1.2)
def pw (rows:List Change)(c:Change):List Change×Bool:=rows.foldl (dh c) ([],c.Gone)
def uq (rows:List Change)(c:Change):List Change:=if (pw rows c).2=true then (pw rows c).1 else (pw rows c).1++[c]
def aP (rows l:List Change):List Change:=l.foldl uq rows
theorem l9 {rows l:List Change}{k:Nat}{c:Change}(h:l[k]? = some c):aP rows (l.take (k+1))=uq (aP rows (l.take k)) c:=by
 unfold aP;rw [List.take_add_one,h];simp
theorem hO {rows:List Change}{c:Change}{k:Nat}{x:Change}(h:rows[k]? = some x):pw (rows.take (k+1)) c=dh c (pw (rows.take k) c) x:=by
 unfold pw;rw [List.take_add_one,h];simp
theorem rT (c:Change)(s:List Change×Bool)(x:Change):(dh c s x).1.length+(if (dh c s x).2=true then 0 else 1)≤s.1.length+(if s.2=true then 0 else 1)+1:=by
 unfold dh;dsimp only
 by_cases h:s.2=false∧(fT c.Key x.Key||decide (c.Key=x.Key))=true
 ·rw [if_pos h,h.1];dsimp only;split <;> simp
 ·rw [if_neg h];split <;> (try simp only [List.length_append,List.length_singleton]) <;> split <;> omega
theorem oQ (c:Change):∀ (rows:List Change) (s:List Change×Bool),(rows.foldl (dh c) s).1.length+(if (rows.foldl (dh c) s).2=true then 0 else 1)≤s.1.length+(if s.2=true then 0 else 1)+rows.length
 | [],s=>Nat.le_refl _
 | x::rows,s=>by
  rw [List.foldl_cons,List.length_cons]
  have h1:=oQ c rows (dh c s x)
  have h2:=rT c s x
  omega
theorem yD (rows:List Change)(c:Change):(uq rows c).length≤rows.length+1:=by
 have h:=oQ c rows ([],c.Gone)
 unfold uq pw
 cases hg:(rows.foldl (dh c) ([],c.Gone)).2 <;> rw [hg] at h <;> simp at h ⊢
 ·
  have:(if c.Gone=true then 0 else 1)≤1:=by split <;> omega
  omega
 ·
  have:(if c.Gone=true then 0 else 1)≤1:=by split <;> omega
  omega
theorem jK:∀ (l rows:List Change),(aP rows l).length≤rows.length+l.length
 | [],rows=>by simp [aP]
 | c::l,rows=>by
  have h1:=jK l (uq rows c)
  have h2:=yD rows c
  show (aP (uq rows c) l).length≤_
  rw [List.length_cons];omega
def gR (l:List Change):Prop:=l.Pairwise (fun a b=>fT a.Key b.Key=true)
inductive Cut (l:List Change)(k:ByteArray):Prop where
  | hit (A B:List Change) (x:Change) (e:l=A++x::B) (hx:x.Key=k) (ha:∀y∈A,fT y.Key k=true) (hb:∀y∈B,fT k y.Key=true)
  | miss (A B:List Change) (e:l=A++B) (ha:∀y∈A,fT y.Key k=true) (hb:∀y∈B,fT k y.Key=true)
theorem gR.cut:∀ {l:List Change} (h:gR l) (k:ByteArray),Cut l k
 | [],h,k => .miss [] [] rfl (fun y hy=>by cases hy) (fun y hy=>by cases hy)
 | x::l,h,k=>by
  obtain ⟨h1,h2⟩:=List.pairwise_cons.1 h
  rcases uo x.Key k with hl|hl|hl
  ·
   rcases gR.cut h2 k with ⟨A,B,y,e,hy,ha,hb⟩ | ⟨A,B,e,ha,hb⟩
   ·exact .hit (x::A) B y (by rw [e];rfl) hy (fun z hz=>by rcases List.mem_cons.1 hz with r|r;exact r▸hl;exact ha z r) hb
   ·exact .miss (x::A) B (by rw [e];rfl) (fun z hz=>by rcases List.mem_cons.1 hz with r|r;exact r▸hl;exact ha z r) hb
  ·subst hl;exact .hit [] l x rfl rfl (fun y hy=>by cases hy) h1
  ·exact .miss [] (x::l) rfl (fun y hy=>by cases hy) (fun z hz=>by rcases List.mem_cons.1 hz with r|r;exact r▸hl;exact mO hl (h1 z r))
theorem zv {f:Change→Int}{A R:List Change}(ha:∀y∈A,f y<0)(hr:∀y∈R,¬ f y<0):pb f (A++R)=A.length:=by
 have hm:∀ (i j:Nat) x y,i≤j→(A++R)[i]? = some x→(A++R)[j]? = some y→f y<0→f x<0:=fun i j x y hij hx hy hf=>by
  by_cases hj:j<A.length
  ·rw [List.getElem?_append_left (by omega)] at hx;exact ha x (List.mem_of_getElem? hx)
  ·rw [List.getElem?_append_right (by omega)] at hy;exact absurd hf (hr y (List.mem_of_getElem? hy))
 obtain ⟨h1,h2⟩:=qX hm
 rcases Nat.lt_trichotomy (pb f (A++R)) A.length with h|h|h
 ·
  have hg:=List.getElem?_eq_getElem h
  exact absurd (ha _ (List.mem_of_getElem? hg)) (h2 (pb f (A++R)) _ (Nat.le_refl _) (by rw [List.getElem?_append_left h];exact hg))
 ·exact h
 ·
  have hle:pb f (A++R)≤(A++R).length:=wh
  have hlt:A.length<(A++R).length:=by omega
  have hg:=List.getElem?_eq_getElem hlt
  have:=h1 A.length _ h hg
  rw [List.getElem?_append_right (Nat.le_refl _)] at hg
  exact absurd this (hr _ (List.mem_of_getElem? hg))
theorem qB {k:ByteArray}{x:Change}:fK k x<0↔fT x.Key k=true:=wY
theorem ta {k:ByteArray}{x:Change}(h:fT k x.Key=true):¬ fK k x<0∧fK k x≠0:=by
 refine ⟨fun hh=>?_,fun hh=>?_⟩
 ·have:=jj (qB.1 hh);rw [h] at this;cases this
 ·have e:=p5.1 hh;rw [e,fO] at h;cases h
def mid (c:Change):List Change:=if c.Gone=true then [] else [c]
theorem AE {A B:List Change}{x:Change}{k:ByteArray}(hx:x.Key=k)(ha:∀y∈A,fT y.Key k=true)(hb:∀y∈B,fT k y.Key=true):pb (fK k) (A++x::B)=A.length∧tT (fK k) (A++x::B)=true:=by
 have e:pb (fK k) (A++x::B)=A.length:=zv (fun y hy=>qB.2 (ha y hy)) (fun y hy=>by
  rcases List.mem_cons.1 hy with r|r
  ·subst r;intro hh;have:=qB.1 hh;rw [hx,fO] at this;cases this
  ·exact (ta (hb y r)).1)
 refine ⟨e,?_⟩
 unfold tT;rw [e,List.getElem?_append_right (Nat.le_refl _),Nat.sub_self]
 exact decide_eq_true (p5.2 hx)
theorem yE {A B:List Change}{k:ByteArray}(ha:∀y∈A,fT y.Key k=true)(hb:∀y∈B,fT k y.Key=true):pb (fK k) (A++B)=A.length∧tT (fK k) (A++B)=false:=by
 have e:pb (fK k) (A++B)=A.length:=zv (fun y hy=>qB.2 (ha y hy)) (fun y hy=>(ta (hb y hy)).1)
 refine ⟨e,?_⟩
 unfold tT;rw [e,List.getElem?_append_right (Nat.le_refl _),Nat.sub_self]
 cases B with
 | nil=>rfl
 | cons y B=>exact decide_eq_false (ta (hb y (List.mem_cons_self ..))).2
theorem ut {A B:List Change}{x c:Change}(hx:x.Key=c.Key)(ha:∀y∈A,fT y.Key c.Key=true)(hb:∀y∈B,fT c.Key y.Key=true):xJ (A++x::B) c=A++mid c++B:=by
 obtain ⟨e1,e2⟩:=AE hx ha hb
 unfold xJ mid
 rw [if_pos e2,e1]
 split
 ·rw [List.take_left,show A++x::B=(A++[x])++B by simp,show A.length+1=(A++[x]).length by simp,List.drop_left];simp
 ·rw [List.set_append_right _ _ (Nat.le_refl _),Nat.sub_self];simp
theorem rU {A B:List Change}{c:Change}(ha:∀y∈A,fT y.Key c.Key=true)(hb:∀y∈B,fT c.Key y.Key=true):xJ (A++B) c=A++mid c++B:=by
 obtain ⟨e1,e2⟩:=yE ha hb
 unfold xJ mid
 rw [if_neg (by rw [e2];simp),e1]
 split
 ·simp
 ·rw [List.take_left,List.drop_left]
theorem td {c:Change}:∀ (A:List Change) (s:List Change×Bool),(∀y∈A,fT y.Key c.Key=true)→A.foldl (dh c) s=(s.1++A,s.2)
 | [],s,h=>by simp
 | x::A,s,h=>by
  have hx:=h x (List.mem_cons_self ..)
  have e:dh c s x=(s.1++[x],s.2):=by
   unfold dh
   have h1:(fT c.Key x.Key||decide (c.Key=x.Key))=false:=by
    rw [jj hx];simp;intro e;rw [e,fO] at hx;cases hx
   rw [if_neg (by rw [h1];simp)]
   have h2:¬ x.Key=c.Key:=fun e=>by rw [e,fO] at hx;cases hx
   dsimp only;rw [if_neg h2]
  rw [List.foldl_cons,e,td A _ (fun y hy=>h y (List.mem_cons_of_mem _ hy))];simp
theorem ma {c:Change}:∀ (B:List Change) (acc:List Change),(∀y∈B,fT c.Key y.Key=true)→B.foldl (dh c) (acc,true)=(acc++B,true)
 | [],s,h=>by simp
 | x::B,acc,h=>by
  have hx:=h x (List.mem_cons_self ..)
  have e:dh c (acc,true) x=(acc++[x],true):=by
   unfold dh
   rw [if_neg (by simp)]
   have h2:¬ x.Key=c.Key:=fun e=>by rw [e,fO] at hx;cases hx
   dsimp only;rw [if_neg h2]
  rw [List.foldl_cons,e,ma B _ (fun y hy=>h y (List.mem_cons_of_mem _ hy))];simp
theorem yF {c:Change}{acc B:List Change}{b:Bool}(hb:∀y∈B,fT c.Key y.Key=true)(hg:b=c.Gone) :
 (if (B.foldl (dh c) (acc,b)).2=true then (B.foldl (dh c) (acc,b)).1 else (B.foldl (dh c) (acc,b)).1++[c])=acc++mid c++B:=by
 unfold mid
 cases b with
 | true=>rw [ma B acc hb,← hg];simp
 | false =>
  rw [← hg]
  cases B with
  | nil=>simp
  | cons x B =>
   have hx:=hb x (List.mem_cons_self ..)
   have e:dh c (acc,false) x=(acc++[c]++[x],true):=by
    unfold dh
    rw [if_pos ⟨rfl,by rw [hx];rfl⟩]
    have h2:¬ x.Key=c.Key:=fun e=>by rw [e,fO] at hx;cases hx
    dsimp only;rw [if_neg h2]
   rw [List.foldl_cons,e,ma B _ (fun y hy=>hb y (List.mem_cons_of_mem _ hy))];simp
theorem yG {A B:List Change}{x c:Change}(hx:x.Key=c.Key)(ha:∀y∈A,fT y.Key c.Key=true)(hb:∀y∈B,fT c.Key y.Key=true):uq (A++x::B) c=A++mid c++B:=by
 unfold uq pw
 rw [List.foldl_append,td A _ ha,List.nil_append,List.foldl_cons]
 have h1:(fT c.Key x.Key||decide (c.Key=x.Key))=true:=by rw [hx];simp
 cases hg:c.Gone with
 | true =>
  have e:dh c (A,true) x=(A,true):=by unfold dh;rw [if_neg (by simp)];dsimp only;rw [if_pos hx]
  rw [e,ma B A hb];simp [mid,hg]
 | false =>
  have e:dh c (A,false) x=(A++[c],true):=by unfold dh;rw [if_pos ⟨rfl,h1⟩];dsimp only;rw [if_pos hx]
  rw [e,ma B _ hb];simp [mid,hg]
theorem w9 {A B:List Change}{c:Change}(ha:∀y∈A,fT y.Key c.Key=true)(hb:∀y∈B,fT c.Key y.Key=true):uq (A++B) c=A++mid c++B:=by
 unfold uq pw
 rw [List.foldl_append,td A _ ha,List.nil_append]
 exact yF hb rfl
theorem AF {l:List Change}(h:gR l)(c:Change):xJ l c=uq l c:=by
 rcases h.cut c.Key with ⟨A,B,x,rfl,hx,ha,hb⟩ | ⟨A,B,rfl,ha,hb⟩
 ·rw [ut hx ha hb,yG hx ha hb]
 ·rw [rU ha hb,w9 ha hb]
theorem uu {l:List Change}(h:gR l)(c:Change):∃A B,xJ l c=A++mid c++B∧(∀y∈A,fT y.Key c.Key=true)∧(∀y∈B,fT c.Key y.Key=true)∧gR (A++B) ∧ ∀y,y∈A++B↔y∈l∧y.Key≠c.Key:=by
 have hlt:∀ {y:Change},fT y.Key c.Key=true→y.Key≠c.Key:=fun h e=>by rw [e,fO] at h;cases h
 have hgt:∀ {y:Change},fT c.Key y.Key=true→y.Key≠c.Key:=fun h e=>by rw [e,fO] at h;cases h
 rcases h.cut c.Key with ⟨A,B,x,rfl,hx,ha,hb⟩ | ⟨A,B,rfl,ha,hb⟩
 ·
  refine ⟨A,B,ut hx ha hb,ha,hb,?_,fun y=>?_⟩
  ·
   obtain ⟨h1,h2,h3⟩:=List.pairwise_append.1 h
   exact List.pairwise_append.2 ⟨h1,(List.pairwise_cons.1 h2).2,fun a ha b hb=>h3 a ha b (List.mem_cons_of_mem _ hb)⟩
  ·
   simp only [List.mem_append,List.mem_cons]
   constructor
   ·
    rintro (h|h)
    ·exact ⟨.inl h,hlt (ha y h)⟩
    ·exact ⟨.inr (.inr h),hgt (hb y h)⟩
   ·
    rintro ⟨h|h|h,k⟩
    ·exact .inl h
    ·subst h;exact absurd hx k
    ·exact .inr h
 ·
  refine ⟨A,B,rU ha hb,ha,hb,h,fun y=>⟨fun hy=>⟨hy,?_⟩,And.left⟩⟩
  rcases List.mem_append.1 hy with h|h
  ·exact hlt (ha y h)
  ·exact hgt (hb y h)
theorem xa {l:List Change}(h:gR l)(c:Change):gR (xJ l c):=by
 obtain ⟨A,B,e,ha,hb,hr,_⟩:=uu h c
 rw [e]
 obtain ⟨h1,h2,h3⟩:=List.pairwise_append.1 hr
 unfold mid
 split
 ·rw [List.append_nil];exact hr
 ·exact List.pairwise_append.2 ⟨List.pairwise_append.2 ⟨h1,List.pairwise_singleton _ _,fun a Dx b hbb=>by rw [List.mem_singleton.1 hbb];exact ha a Dx⟩,h2,fun a Dx b hbb=>by
   rcases List.mem_append.1 Dx with q|q
   ·exact h3 a q b hbb
   ·rw [List.mem_singleton.1 q];exact hb b hbb⟩
theorem yH {l:List Change}(h:gR l){c y:Change}:y∈xJ l c↔(y∈l∧y.Key≠c.Key)∨(c.Gone=false∧y=c):=by
 obtain ⟨A,B,e,ha,hb,hr,hm⟩:=uu h c
 rw [e,← hm y]
 simp only [List.mem_append,mid]
 cases c.Gone
 ·
  rw [if_neg (by decide)]
  simp only [List.mem_singleton,true_and]
  constructor
  ·
   rintro ((h|h)|h)
   ·exact .inl (.inl h)
   ·exact .inr h
   ·exact .inl (.inr h)
  ·
   rintro ((h|h)|h)
   ·exact .inl (.inl h)
   ·exact .inr h
   ·exact .inl (.inr h)
 ·
  rw [if_pos rfl]
  simp
theorem rV:∀ (l:List Change) {rows:List Change},gR rows→w8 rows l=aP rows l
 | [],rows,h=>rfl
 | c::l,rows,h=>by
  show w8 (xJ rows c) l=aP (uq rows c) l
  rw [← AF h c];exact rV l (xa h c)
end Go.Proofs.YtbkfhjaibhnkmaaGreatDoor
