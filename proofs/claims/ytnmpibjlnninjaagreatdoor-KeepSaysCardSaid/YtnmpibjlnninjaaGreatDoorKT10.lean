import Derived.Test.YtnmpibjlnninjaaGreatDoorKT9
import Derived.Lib.Atoi
import Derived.Lib.ItoaNum
import Derived.Lib.Repeat
namespace Go.Proofs.YtnmpibjlnninjaaGreatDoor
set_option linter.unusedVariables false
set_option linter.unusedSimpArgs false
set_option maxRecDepth 100000
set_option maxHeartbeats 90000000
section
open Go
def c0:Change:=⟨⟨#[]⟩,⟨#[]⟩,false⟩
def gu (c:Change):Int :=
  if c.Key=⟨#[]⟩∨(c.Gone=true/\¬ c.Val=⟨#[]⟩) then 3 else if 8<c.Key.size∨24<c.Val.size then 2 else 0
theorem i7 (c:Change):gu c=0∨gu c=2∨gu c=3:=by grind [gu]
theorem gv {c:Change}(h:gu c=0):c.Key≠⟨#[]⟩/\(c.Gone=true->c.Val=⟨#[]⟩)/\c.Key.size<=8/\c.Val.size<=24:=by
 unfold gu at h
 grind
theorem Ll {c:Change}(h1:c.Key≠⟨#[]⟩)(h2:c.Gone=true->c.Val=⟨#[]⟩)(h3:c.Key.size<=8)(h4:c.Val.size<=24):gu c=0:=by
 simp_all [gu,if_neg]
def Av (b:Bool):UInt8:=if b=true then 1 else 0
def jZ (c:Change):ByteArray×Int :=
  if gu c=0 then (⟨#[Av c.Gone,UInt8.ofNat c.Key.size]⟩++c.Key++c.Val,0) else (⟨#[]⟩,gu c)
def bq (s:ByteArray)(i:Nat):Nat:=((s.data[i]?).getD 0).toNat
theorem aH {s:ByteArray}{i:Nat}{x:UInt8}(h:s.data[i]? = some x):bq s i=x.toNat:=by grind [bq]
theorem Jf (s:ByteArray)(i:Nat):bq s i<256:=by grind [bq,UInt8.toNat_lt]
def Lm (s:ByteArray):Change:=⟨s.extract 2 (2+bq s 1),s.extract (2+bq s 1) s.size,decide (bq s 0=1)⟩
def sh (s:ByteArray):Change×Int :=
  if s.size<2∨1<bq s 0∨s.size<2+bq s 1 then (c0,4) else if gu (Lm s)=0 then (Lm s,0) else (c0,4)
abbrev bl (s:ByteArray):List UInt8:=s.data.toList
theorem gC (s:ByteArray):(bl s).length=s.size:=Array.length_toList
theorem jl (a b:ByteArray):bl (a++b)=bl a++bl b:=eF
theorem oI (s:ByteArray)(i j:Nat):bl (s.extract i j)=((bl s).take j).drop i:=by
 grind [ByteArray.data_extract,Array.toList_extract,List.extract_eq_take_drop,List.drop_take]
theorem jA (s:ByteArray)(i:Nat):bq s i=(((bl s)[i]?).getD 0).toNat:=by simp [bq,bl]
theorem Ln {s:ByteArray}(h:s.size=0):s=⟨#[]⟩:=gX sH
theorem qc {n:Nat}(h:n<256):(UInt8.ofNat n).toNat=n:=sH
theorem Lp {c:Change}(h:gu c=0):bl (jZ c).1=Av c.Gone::UInt8.ofNat c.Key.size::(bl c.Key++bl c.Val):=by
 simp_all [jZ,bl,if_pos,jl]
theorem kS {c:Change}(h:gu c=0):(jZ c).1.size=2+c.Key.size+c.Val.size:=by
 grind [gC,Lp,List.length_cons,List.length_append]
theorem HV {c:Change}(h:gu c=0):sh (jZ c).1=(c,0):=by
 obtain ⟨h1,h2,h3,h4⟩:=gv h
 have hb:=Lp h
 have hs:=kS h
 have b0:bq (jZ c).1 0=(Av c.Gone).toNat:=by grind [jA]
 have b1:bq (jZ c).1 1=c.Key.size:=by grind [jA,qc]
 have g:(Av c.Gone).toNat=1/\c.Gone=true∨(Av c.Gone).toNat=0/\c.Gone=false:=by cases c.Gone <;> simp [Av]
 have hof:Lm (jZ c).1=c:=by
  unfold Lm
  rw [b0,b1]
  have e1:(jZ c).1.extract 2 (2+c.Key.size)=c.Key:=gX (by
   simp_all)
  have e2:(jZ c).1.extract (2+c.Key.size) (jZ c).1.size=c.Val:=gX (by
   grind [jZ,oI,List.take_of_length_le,List.length_cons,List.length_append,gC,List.drop_left])
  rw [e1,e2]
  rcases g with ⟨g1,g2⟩ | ⟨g1,g2⟩ <;> (rw [g1];cases c;grind)
 unfold sh
 grind
def fK (k:ByteArray)(x:Change):Int:=BU x.Key k
def zx (rows:List Change)(c:Change):List Change :=
  if py (fK c.Key) rows=true then (if c.Gone=true then rows.take (jw (fK c.Key) rows)++rows.drop (jw (fK c.Key) rows+1) else rows.set (jw (fK c.Key) rows) c)
  else if c.Gone=true then rows else rows.take (jw (fK c.Key) rows)++[c]++rows.drop (jw (fK c.Key) rows)
def bI (rows l:List Change):List Change:=l.foldl zx rows
theorem oJ {rows l:List Change}{k:Nat}{c:Change}(h:l[k]? = some c):bI rows (l.take (k+1))=zx (bI rows (l.take k)) c:=by
 grind [bI,List.take_add_one]
theorem Oa (rows:List Change)(c:Change):(zx rows c).length<=rows.length+1:=by
 grind [zx]
theorem ko:∀ (l rows:List Change),(bI rows l).length<=rows.length+l.length
 | [],rows=>by simp [bI]
 | c::l,rows=>by
  have h1:=ko l (zx rows c)
  have h2:=Oa rows c
  show (bI (zx rows c) l).length<=_
  rw [List.length_cons];omega
def dW (c:Change)(s:List Change×Bool)(x:Change):List Change×Bool :=
  let s1:=if s.2=false/\(fR c.Key x.Key||decide (c.Key=x.Key))=true then (s.1++[c],true) else s
  (if x.Key=c.Key then s1.1 else s1.1++[x],s1.2)
def zE (rows:List Change)(c:Change):List Change×Bool:=rows.foldl (dW c) ([],c.Gone)
def HY (rows:List Change)(c:Change):List Change:=if (zE rows c).2=true then (zE rows c).1 else (zE rows c).1++[c]
def dw (rows l:List Change):List Change:=l.foldl HY rows
theorem tA {rows l:List Change}{k:Nat}{c:Change}(h:l[k]? = some c):dw rows (l.take (k+1))=HY (dw rows (l.take k)) c:=by
 grind [dw,List.take_add_one]
theorem lP {rows:List Change}{c:Change}{k:Nat}{x:Change}(h:rows[k]? = some x):zE (rows.take (k+1)) c=dW c (zE (rows.take k) c) x:=by
 grind [zE,List.take_add_one]
theorem Ed (c:Change)(s:List Change×Bool)(x:Change):(dW c s x).1.length+(if (dW c s x).2=true then 0 else 1)<=s.1.length+(if s.2=true then 0 else 1)+1:=by
 unfold dW;grind
theorem xP (c:Change):∀ (rows:List Change) (s:List Change×Bool),(rows.foldl (dW c) s).1.length+(if (rows.foldl (dW c) s).2=true then 0 else 1)<=s.1.length+(if s.2=true then 0 else 1)+rows.length
 | [],s=>Nat.le_refl _
 | x::rows,s=>by
  rw [List.foldl_cons,List.length_cons]
  have h1:=xP c rows (dW c s x)
  have h2:=Ed c s x
  omega
theorem Ob (rows:List Change)(c:Change):(HY rows c).length<=rows.length+1:=by
 have h:=xP c rows ([],c.Gone)
 grind [HY,zE,dW]
theorem oK:∀ (l rows:List Change),(dw rows l).length<=rows.length+l.length
 | [],rows=>by simp [dw]
 | c::l,rows=>by
  have h1:=oK l (HY rows c)
  have h2:=Ob rows c
  show (dw (HY rows c) l).length<=_
  rw [List.length_cons];omega
def cX (l:List Change):Prop:=l.Pairwise (fun a b=>fR a.Key b.Key=true)
inductive Cut (l:List Change)(k:ByteArray):Prop where
  | hit (A B:List Change) (x:Change) (e:l=A++x::B) (hx:x.Key=k) (ha:∀y∈A,fR y.Key k=true) (hb:∀y∈B,fR k y.Key=true)
  | miss (A B:List Change) (e:l=A++B) (ha:∀y∈A,fR y.Key k=true) (hb:∀y∈B,fR k y.Key=true)
theorem cX.cut:∀ {l:List Change} (h:cX l) (k:ByteArray),Cut l k
 | [],h,k => .miss [] [] rfl (fun y hy=>by cases hy) (fun y hy=>by cases hy)
 | x::l,h,k=>by
  obtain ⟨h1,h2⟩:=List.pairwise_cons.1 h
  rcases tw x.Key k with hl|hl|hl
  .
   rcases cX.cut h2 k with ⟨A,B,y,e,hy,ha,hb⟩ | ⟨A,B,e,ha,hb⟩
   .exact .hit (x::A) B y (by rw [e];rfl) hy (fun z hz=>by rcases List.mem_cons.1 hz with r|r;exact r▸hl;exact ha z r) hb
   exact .miss (x::A) B (by rw [e];rfl) (fun z hz=>by rcases List.mem_cons.1 hz with r|r;exact r▸hl;exact ha z r) hb
  .subst hl;exact .hit [] l x rfl rfl (fun y hy=>by cases hy) h1
  exact .miss [] (x::l) rfl (fun y hy=>by cases hy) (fun z hz=>by rcases List.mem_cons.1 hz with r|r;exact r▸hl;exact lO hl (h1 z r))
theorem Qc {f:Change->Int}{A R:List Change}(ha:∀y∈A,f y<0)(hr:∀y∈R,¬ f y<0):jw f (A++R)=A.length:=by
 have hm:∀ (i j:Nat) x y,i<=j->(A++R)[i]? = some x->(A++R)[j]? = some y->f y<0->f x<0:=fun i j x y hij hx hy hf=>by
  grind
 obtain ⟨h1,h2⟩:=Dz hm
 rcases Nat.lt_trichotomy (jw f (A++R)) A.length with h|h|h
 .
  have hg:=List.getElem?_eq_getElem h
  exact absurd (ha _ (List.mem_of_getElem? hg)) (h2 (jw f (A++R)) _ (Nat.le_refl _) au)
 .exact h
 have hle:jw f (A++R)<=(A++R).length:=pU
 have hlt:A.length<(A++R).length:=ae
 have hg:=List.getElem?_eq_getElem hlt
 grind
theorem BV {k:ByteArray}{x:Change}:fK k x<0↔fR x.Key k=true:=Ec
theorem F7 {k:ByteArray}{x:Change}(h:fR k x.Key=true):¬ fK k x<0/\fK k x≠0:=by
 refine ⟨fun hh=>?_,fun hh=>?_⟩
 .grind [qN,BV]
 have e:=Au.1 hh;grind [eQ]
def mid (c:Change):List Change:=if c.Gone=true then [] else [c]
theorem F8 {A B:List Change}{x:Change}{k:ByteArray}(hx:x.Key=k)(ha:∀y∈A,fR y.Key k=true)(hb:∀y∈B,fR k y.Key=true):jw (fK k) (A++x::B)=A.length/\py (fK k) (A++x::B)=true:=by
 have e:jw (fK k) (A++x::B)=A.length:=Qc (fun y hy=>BV.2 (ha y hy)) (fun y hy=>by
  rcases List.mem_cons.1 hy with r|r
  .grind [BV,eQ]
  exact (F7 (hb y r)).1)
 refine ⟨e,?_⟩
 unfold py;rw [e,List.getElem?_append_right (Nat.le_refl _),Nat.sub_self]
 exact decide_eq_true (Au.2 hx)
theorem HZ {A B:List Change}{k:ByteArray}(ha:∀y∈A,fR y.Key k=true)(hb:∀y∈B,fR k y.Key=true):jw (fK k) (A++B)=A.length/\py (fK k) (A++B)=false:=by
 have e:jw (fK k) (A++B)=A.length:=Qc (fun y hy=>BV.2 (ha y hy)) (fun y hy=>(F7 (hb y hy)).1)
 refine ⟨e,?_⟩
 unfold py;rw [e,List.getElem?_append_right (Nat.le_refl _),Nat.sub_self]
 cases B with
 | nil=>rfl
 | cons y B=>exact decide_eq_false (F7 (hb y (List.mem_cons_self ..))).2
theorem H0 {A B:List Change}{x c:Change}(hx:x.Key=c.Key)(ha:∀y∈A,fR y.Key c.Key=true)(hb:∀y∈B,fR c.Key y.Key=true):zx (A++x::B) c=A++mid c++B:=by
 obtain ⟨e1,e2⟩:=F8 hx ha hb
 unfold zx mid
 rw [if_pos e2,e1]
 split
 .simp
 grind
theorem xQ {A B:List Change}{c:Change}(ha:∀y∈A,fR y.Key c.Key=true)(hb:∀y∈B,fR c.Key y.Key=true):zx (A++B) c=A++mid c++B:=by
 obtain ⟨e1,e2⟩:=HZ ha hb
 unfold zx mid
 grind
theorem F9 {c:Change}:∀ (A:List Change) (s:List Change×Bool),(∀y∈A,fR y.Key c.Key=true)->A.foldl (dW c) s=(s.1++A,s.2)
 | [],s,h=>by simp
 | x::A,s,h=>by
  have hx:=h x (List.mem_cons_self ..)
  have e:dW c s x=(s.1++[x],s.2):=by
   unfold dW
   have h1:(fR c.Key x.Key||decide (c.Key=x.Key))=false:=by
    rw [qN hx];simp;intro e;rw [e,eQ] at hx;cases hx
   rw [if_neg (by rw [h1];simp)]
   have h2:¬ x.Key=c.Key:=fun e=>by rw [e,eQ] at hx;cases hx
   dsimp only;rw [if_neg h2]
  rw [List.foldl_cons,e,F9 A _ (fun y hy=>h y (List.mem_cons_of_mem _ hy))];simp
theorem tC {c:Change}:∀ (B:List Change) (acc:List Change),(∀y∈B,fR c.Key y.Key=true)->B.foldl (dW c) (acc,true)=(acc++B,true)
 | [],s,h=>by simp
 | x::B,acc,h=>by
  have hx:=h x (List.mem_cons_self ..)
  have e:dW c (acc,true) x=(acc++[x],true):=by
   unfold dW
   rw [if_neg bC]
   have h2:¬ x.Key=c.Key:=fun e=>by rw [e,eQ] at hx;cases hx
   dsimp only;rw [if_neg h2]
  rw [List.foldl_cons,e,tC B _ (fun y hy=>h y (List.mem_cons_of_mem _ hy))];simp
theorem Oc {c:Change}{acc B:List Change}{b:Bool}(hb:∀y∈B,fR c.Key y.Key=true)(hg:b=c.Gone) :
 (if (B.foldl (dW c) (acc,b)).2=true then (B.foldl (dW c) (acc,b)).1 else (B.foldl (dW c) (acc,b)).1++[c])=acc++mid c++B:=by
 unfold mid
 cases b with
 | true=>grind [tC]
 | false =>
  rw [<- hg]
  cases B with
  | nil=>simp
  | cons x B =>
   have hx:=hb x (List.mem_cons_self ..)
   have e:dW c (acc,false) x=(acc++[c]++[x],true):=by
    unfold dW
    rw [if_pos ⟨rfl,au⟩]
    have h2:¬ x.Key=c.Key:=fun e=>by grind [eQ]
    grind
   grind [tC,List.mem_cons_of_mem]
theorem Od {A B:List Change}{x c:Change}(hx:x.Key=c.Key)(ha:∀y∈A,fR y.Key c.Key=true)(hb:∀y∈B,fR c.Key y.Key=true):HY (A++x::B) c=A++mid c++B:=by
 unfold HY zE
 rw [List.foldl_append,F9 A _ ha,List.nil_append,List.foldl_cons]
 have h1:(fR c.Key x.Key||decide (c.Key=x.Key))=true:=au
 cases hg:c.Gone with
 | true =>
  simp_all [dW,mid,if_neg,if_pos,tC]
 | false =>
  have e:dW c (A,false) x=(A++[c],true):=by unfold dW;grind
  grind [mid,tC]
theorem Lq {A B:List Change}{c:Change}(ha:∀y∈A,fR y.Key c.Key=true)(hb:∀y∈B,fR c.Key y.Key=true):HY (A++B) c=A++mid c++B:=by
 unfold HY zE
 rw [List.foldl_append,F9 A _ ha,List.nil_append]
 grind [Oc]
theorem Rp {l:List Change}(h:cX l)(c:Change):zx l c=HY l c:=by
 rcases h.cut c.Key with ⟨A,B,x,rfl,hx,ha,hb⟩ | ⟨A,B,rfl,ha,hb⟩
 .grind [H0,Od]
 grind [xQ,Lq]
theorem H2 {l:List Change}(h:cX l)(c:Change):∃A B,zx l c=A++mid c++B/\(∀y∈A,fR y.Key c.Key=true)/\(∀y∈B,fR c.Key y.Key=true)/\cX (A++B) /\ ∀y,y∈A++B↔y∈l/\y.Key≠c.Key:=by
 have hlt:∀ {y:Change},fR y.Key c.Key=true->y.Key≠c.Key:=fun h e=>by grind [eQ]
 have hgt:∀ {y:Change},fR c.Key y.Key=true->y.Key≠c.Key:=fun h e=>by grind
 rcases h.cut c.Key with ⟨A,B,x,rfl,hx,ha,hb⟩ | ⟨A,B,rfl,ha,hb⟩
 .
  refine ⟨A,B,H0 hx ha hb,ha,hb,?_,fun y=>?_⟩
  .
   obtain ⟨h1,h2,h3⟩:=List.pairwise_append.1 h
   exact List.pairwise_append.2 ⟨h1,(List.pairwise_cons.1 h2).2,fun a ha b hb=>h3 a ha b (List.mem_cons_of_mem _ hb)⟩
  grind
 refine ⟨A,B,xQ ha hb,ha,hb,h,fun y=>⟨fun hy=>⟨hy,?_⟩,And.left⟩⟩
 grind
theorem tD {l:List Change}(h:cX l)(c:Change):cX (zx l c):=by
 obtain ⟨A,B,e,ha,hb,hr,_⟩:=H2 h c
 rw [e]
 obtain ⟨h1,h2,h3⟩:=List.pairwise_append.1 hr
 unfold mid
 split
 .grind
 exact List.pairwise_append.2 ⟨List.pairwise_append.2 ⟨h1,List.pairwise_singleton _ _,fun a YR b hbb=>by grind⟩,h2,fun a YR b hbb=>by
  grind⟩
theorem H3 {l:List Change}(h:cX l){c y:Change}:y∈zx l c↔(y∈l/\y.Key≠c.Key)∨(c.Gone=false/\y=c):=by
 obtain ⟨A,B,e,ha,hb,hr,hm⟩:=H2 h c
 rw [e,<- hm y]
 simp only [List.mem_append,mid]
 grind
theorem si:∀ (l:List Change) {rows:List Change},cX rows->cX (bI rows l)
 | [],rows,h=>h
 | c::l,rows,h=>si l (tD h c)
theorem tE:∀ (l:List Change) {rows:List Change},cX rows->bI rows l=dw rows l
 | [],rows,h=>rfl
 | c::l,rows,h=>by
  show bI (zx rows c) l=dw (HY rows c) l
  rw [<- Rp h c];exact tE l (tD h c)
theorem uG:∀ (a b:List Change),cX a->cX b->(∀x,x∈a↔x∈b)->a=b
 | [],[],_,_,_=>rfl
 | [],y::b,_,_,h=>absurd ((h y).2 (List.mem_cons_self ..)) bC
 | x::a,[],_,_,h=>absurd ((h x).1 (List.mem_cons_self ..)) bC
 | x::a,y::b,ha,hb,h=>by
  obtain ⟨a1,a2⟩:=List.pairwise_cons.1 ha
  obtain ⟨b1,b2⟩:=List.pairwise_cons.1 hb
  have no:∀ {u v:Change},fR u.Key v.Key=true->fR v.Key u.Key=true->False:=fun h k=>by
   have:=qN h;rw [k] at this;cases this
  have hxy:x=y:=by
   rcases List.mem_cons.1 ((h x).1 (List.mem_cons_self ..)) with e|e
   .exact e
   rcases List.mem_cons.1 ((h y).2 (List.mem_cons_self ..)) with e2|e2
   .exact e2.symm
   exact (no (b1 x e) (a1 y e2)).elim
  subst hxy
  congr 1
  refine uG a b a2 b2 fun z=>⟨fun hz=>?_,fun hz=>?_⟩
  .
   rcases List.mem_cons.1 ((h z).1 (List.mem_cons_of_mem _ hz)) with e|e
   .subst e;have:=a1 z hz;rw [eQ] at this;cases this
   exact e
  rcases List.mem_cons.1 ((h z).2 (List.mem_cons_of_mem _ hz)) with e|e
  .subst e;have:=b1 z hz;rw [eQ] at this;cases this
  exact e
end
def dx (n:Int):ByteArray:=⟨(Lib.itoa n).toArray⟩
def bm (n:Int):ByteArray:=⟨(Lib.repeatL [48] (4-(dx n).size)).toArray⟩++dx n
def vV (s:ByteArray):Option Int:=match Lib.atoi s.data.toList with|some n=>if bm n=s then some n else none|none=>none
def iU (s:ByteArray):Nat->Option (List Int)
  | 0=>some []
  | k+1=>match iU s k with
    | some l=>match vV (s.extract (4*k) (4*k+4)) with|some n=>some (l++[n])|none=>none
    | none=>none
def dP (s:ByteArray)(m:Nat):Option (List Int):=if s.size<4*m then none else iU s m
theorem uH {s:ByteArray}:∀ {k:Nat} {l:List Int},iU s k=some l->l.length=k
 | 0,l,h=>by simp [iU] at h;subst h;rfl
 | k+1,l,h=>by
  simp only [iU] at h
  split at h
  .
   rename_i l' h'
   split at h
   .injection h with h;subst h;simp [uH h']
   cases h
  cases h
theorem Ga {s:ByteArray}{k:Nat}{l:List Int}{n:Int}(h:iU s k=some l)(hn:vV (s.extract (4*k) (4*k+4))=some n):iU s (k+1)=some (l++[n]):=by grind [iU]
theorem xR {s:ByteArray}:∀ {m k:Nat},k<=m->iU s k=none->iU s m=none
 | 0,k,hk,h=>by
  have:k=0:=ae
  subst this;exact h
 | m+1,k,hk,h=>by
  rcases Nat.lt_or_ge k (m+1) with h1|h1
  .simp only [iU,xR (m:=m) ae h]
  have:k=m+1:=ae
  subst this;exact h
theorem Jg {s:ByteArray}{k m:Nat}{l:List Int}(hk:k<m)(h:iU s k=some l)(hn:vV (s.extract (4*k) (4*k+4))=none):iU s m=none :=
 xR (k:=k+1) ae (by grind [iU])
theorem Jh {s:ByteArray}{m:Nat}{l:List Int}(h:dP s m=some l):l.length=m/\4*m<=s.size:=by
 grind [dP,uH]
def kH:ByteArray:=⟨#[104]⟩
def kT:ByteArray:=⟨#[116]⟩
def kW:ByteArray:=⟨#[119]⟩
def kX:ByteArray:=⟨#[120]⟩
def hrow (h:Held):Change:=⟨kH++dx h.Place.aB++dx h.Place.Slot,bm h.ak,false⟩
def kr (t:av):Change:=⟨kT++bm t.ID,bm t.Kind++t.Data,false⟩
def mK (w:ak):Change:=⟨kW++bm w.ID,bm w.av++bm w.Rights++bm w.aO++bm w.From,false⟩
def Ee (r:aA):Change:=⟨kX,bm r.ag++bm r.ai,false⟩
def rowsOf (q:aA):List Change:=q.Held.map hrow++q.Things.map kr++q.aj.map mK++[Ee q]
def aQ (r:aA):List Change:=rowsOf (aK r)
def Oe (s:ByteArray)(i:Nat):Int:=(bq s i:Int)
def Uk (c:Change):Place:=⟨Oe c.Key 1-48,Oe c.Key 2-48⟩
def Ji (r:aA)(h:Held):aA:=⟨r.aj,r.Things,r.Held++[h],r.Notes,r.ag,r.ai⟩
def Jj (r:aA)(t:av):aA:=⟨r.aj,r.Things++[t],r.Held,r.Notes,r.ag,r.ai⟩
def Ef (r:aA)(w:ak):aA:=⟨r.aj++[w],r.Things,r.Held,r.Notes,r.ag,r.ai⟩
def Og (r:aA)(a b:Int):aA:=⟨r.aj,r.Things,r.Held,r.Notes,a,b⟩
def Jk (o:Option (List Int))(j:Nat):Int:=((o.getD [])[j]?).getD 0
def rowP (r:aA)(c:Change):aA×Bool :=
  if c.Key.size=0 then (r,false) else
  let key:=dP (c.Key.extract 1 c.Key.size) 1
  let ok:=key.isSome&&decide (c.Key.size=5)
  let n1:=dP c.Val 1
  let n4:=dP c.Val 4
  let n2:=dP c.Val 2
  if bq c.Key 0=104 then (if n1.isSome=false∨c.Val.size≠4∨c.Key.size≠3 then (r,false) else (Ji r ⟨Uk c,Jk n1 0⟩,decide (aY (Uk c)=0)))
  else if bq c.Key 0=116 then (if ok=false∨n1.isSome=false∨12<c.Val.size then (r,false) else (Jj r ⟨Jk key 0,Jk n1 0,c.Val.extract 4 c.Val.size⟩,decide (Jk n1 0=1∨Jk n1 0=2/\c.Val.size=4)))
  else if bq c.Key 0=119 then (if ok=false∨n4.isSome=false∨c.Val.size≠16 then (r,false) else (Ef r ⟨Jk key 0,Jk n4 0,Jk n4 1,Jk n4 2,Jk n4 3⟩,true))
  else if c.Key≠kX∨n2.isSome=false∨c.Val.size≠8 then (r,false) else (Og r (Jk n2 0) (Jk n2 1),true)
def sj (pv:Option ByteArray)(c:Change):Bool:=match pv with|some k=>fR k c.Key|none=>true
def pgo:List Change->Option ByteArray->aA->Option aA
  | [],_,r=>some r
  | c::l,pv,r=>if sj pv c && !c.Gone&&(rowP r c).2 then pgo l (some c.Key) (rowP r c).1 else none
structure Whole (r:aA):Prop where
  tree:cb r.aj
  ia:r.Things.length<=10
  nM:1<=r.ag
  pI:r.ag<=1000
  oF:1<=r.ai
  oG:r.ai<=1000
  hlen:r.Held.length=r.aj.length
  eD:∀h∈r.Held,0<=bY r.aj h.ak
  once:(r.Held.map Held.ak).Nodup
  things:r.Things.map av.ID=a8 r.aj
  Qd:∀w,r.aj.getLast? = some w->w.ID<r.ag
  Qe:∀t,r.Things.getLast? = some t->t.ID<r.ai
noncomputable def dQ (r:aA):Bool:= @decide (Whole r) (Classical.propDecidable _)
noncomputable def bQ (l:List Change):aA×Int:=match pgo l none r0 with|some r=>if dQ r=true then (r,0) else (r0,4)|none=>(r0,4)
theorem xS {r:aA}(h:Whole r):dQ r=true:=by grind [dQ]
theorem fJ {r:aA}(h:¬ Whole r):dQ r=false:=by grind [dQ]
def d8 (k:Nat):UInt8:=UInt8.ofNat (48+k)
def Gb (k:Nat):List UInt8:=[d8 (k / 1000),d8 (k / 100 % 10),d8 (k / 10 % 10),d8 (k % 10)]
theorem xU {k:Nat}(h:k<10):(d8 k).toNat=48+k:=qc ae
theorem Aw {a b:Nat}(ha:a<10)(hb:b<10):d8 a<d8 b↔a<b:=by
 grind [UInt8.lt_iff_toNat_lt,xU]
theorem Lr (u:Nat):Lib.decDigits u=if u<10 then [d8 u] else Lib.decDigits (u / 10)++[d8 (u % 10)]:=by
 rw [Lib.decDigits];rfl
theorem Ul (l:List UInt8):bl ⟨l.toArray⟩=l:=rfl
theorem size_mk (l:List UInt8):(⟨l.toArray⟩:ByteArray).size=l.length:=eF
theorem wD {n:Int}(h:0<=n):bl (dx n)=Lib.decDigits n.toNat:=by
 show Lib.itoa n=_
 simp_all [Lib.itoa,if_neg]
theorem Oh {u:Nat}(h:u<10):Lib.decDigits u=[d8 u]:=by rw [Lr,if_pos h]
theorem Um {u:Nat}(h0:10<=u)(h:u<100):Lib.decDigits u=[d8 (u / 10),d8 (u % 10)]:=by rw [Lr,if_neg ae,Oh ae];rfl
theorem Un {u:Nat}(h0:100<=u)(h:u<1000):Lib.decDigits u=[d8 (u / 100),d8 (u / 10 % 10),d8 (u % 10)]:=by
 rw [Lr,if_neg ae,Um ae ae,show u / 10 / 10=u / 100 by omega];rfl
theorem WX {u:Nat}(h0:1000<=u)(h:u<10000):Lib.decDigits u=Gb u:=by
 rw [Lr,if_neg ae,Un ae ae,show u / 10 / 100=u / 1000 by omega,show u / 10 / 10 % 10=u / 100 % 10 by omega];rfl
theorem wE {n:Int}(h0:0<=n)(h1:n<10000):bl (bm n)=Gb n.toNat:=by
 have hs:(dx n).size=(Lib.decDigits n.toNat).length:=by grind [gC,wD]
 unfold bm
 rw [jl,Ul,wD h0,hs]
 generalize hk:n.toNat=k
 have hk4:k<10000:=ae
 have z0:(48:UInt8)=d8 0:=rfl
 by_cases c1:k<10
 .
  rw [Oh c1];unfold Gb
  rw [show k / 1000=0 by omega,show k / 100 % 10=0 by omega,show k / 10 % 10=0 by omega,show k % 10=k by omega];rfl
 by_cases c2:k<100
 .
  rw [Um ae c2];unfold Gb
  rw [show k / 1000=0 by omega,show k / 100 % 10=0 by omega,show k / 10 % 10=k / 10 by omega];rfl
 by_cases c3:k<1000
 .
  rw [Un ae c3];unfold Gb
  rw [show k / 1000=0 by omega,show k / 100 % 10=k / 100 by omega];rfl
 rw [WX ae hk4];rfl
theorem dJ {n:Int}(h0:0<=n)(h1:n<10000):(bm n).size=4:=by rw [<- gC,wE h0 h1];rfl
theorem tF {k:Nat}(h:k<10):Lib.digitVal (d8 k)=some k:=by
 unfold Lib.digitVal;rw [xU h,if_pos ae];grind
theorem Qf {k:Nat}(h:k<10){c:UInt8}(hc:c.toNat<48):(d8 k==c)=false:=by
 rw [beq_eq_false_iff_ne];intro e;have:=congrArg UInt8.toNat e;grind [xU]
theorem Ls {k:Nat}(h:k<10000):Lib.atoi (Gb k)=some (k:Int):=by
 unfold Gb Lib.atoi
 dsimp only
 rw [if_neg (by rw [Qf ae aD];decide),if_neg (by rw [Qf ae aD];decide)]
 simp only [Lib.decNat,List.isEmpty_cons,Bool.false_eq_true,if_false,Lib.decFrom,tF (show k / 1000<10 by omega),tF (show k / 100 % 10<10 by omega),tF (show k / 10 % 10<10 by omega),tF (show k % 10<10 by omega),Option.map_some]
 grind
theorem qO {n:Int}(h0:0<=n)(h1:n<10000):vV (bm n)=some n:=by
 unfold vV
 have e:(bm n).data.toList=Gb n.toNat:=wE h0 h1
 rw [e,Ls ae]
 grind
theorem Lt {a b:Nat}(hb:b<10000)(h:a<b):Gb a<Gb b:=by
 unfold Gb
 simp only [List.cons_lt_cons_iff,Aw (show a / 1000<10 by omega) (show b / 1000<10 by omega),Aw (show a / 100 % 10<10 by omega) (show b / 100 % 10<10 by omega),Aw (show a / 10 % 10<10 by omega) (show b / 10 % 10<10 by omega),Aw (show a % 10<10 by omega) (show b % 10<10 by omega)]
 by_cases c1:a / 1000<b / 1000
 .omega
 refine .inr ⟨au,?_⟩
 by_cases c2:a / 100 % 10<b / 100 % 10
 .omega
 refine .inr ⟨au,?_⟩
 by_cases c3:a / 10 % 10<b / 10 % 10
 .omega
 refine .inr ⟨by rw [show a / 10 % 10=b / 10 % 10 by omega],?_⟩
 omega
theorem Eg {n:Int}(h0:0<=n)(h1:n<10):bl (dx n)=[d8 n.toNat]:=by grind [wD,Oh]
theorem hkey {h:Held}(hp:aY h.Place=0):bl (hrow h).Key=[104,d8 h.Place.aB.toNat,d8 h.Place.Slot.toNat]:=by
 have:=bG hp
 show bl (kH++dx h.Place.aB++dx h.Place.Slot)=_
 rw [jl,jl,Eg ae ae,Eg ae ae];rfl
theorem tkey {t:av}(h0:0<=t.ID)(h1:t.ID<10000):bl (kr t).Key=116::Gb t.ID.toNat:=by
 show bl (kT++bm t.ID)=_
 rw [jl,wE h0 h1];rfl
theorem Lu {w:ak}(h0:0<=w.ID)(h1:w.ID<10000):bl (mK w).Key=119::Gb w.ID.toNat:=by
 show bl (kW++bm w.ID)=_
 rw [jl,wE h0 h1];rfl
theorem tG {a b:ByteArray}{x y:UInt8}{l m:List UInt8}(ha:bl a=x::l)(hb:bl b=y::m)(h:x<y):fR a b=true:=by
 grind [lE,List.cons_lt_cons_iff]
theorem BW {a b:ByteArray}{x:UInt8}{l m:List UInt8}(ha:bl a=x::l)(hb:bl b=x::m)(h:l<m):fR a b=true:=by
 grind [lE,List.cons_lt_cons_iff]
theorem Oi {g h:Held}(hg:aY g.Place=0)(hh:aY h.Place=0)(hl:jI g.Place h.Place):fR (hrow g).Key (hrow h).Key=true:=by
 have:=bG hg;have:=bG hh
 refine BW (hkey hg) (hkey hh) ?_
 rw [List.cons_lt_cons_iff,Aw ae ae]
 rcases hl with hl|⟨he,hl⟩
 .omega
 grind [List.cons_lt_cons_iff,Aw]
theorem Oj {s t:av}(h0:0<=s.ID)(h1:t.ID<10000)(h:s.ID<t.ID):fR (kr s).Key (kr t).Key=true :=
 BW (tkey h0 ae) (tkey ae h1) (Lt ae ae)
theorem Ol {v w:ak}(h0:0<=v.ID)(h1:w.ID<10000)(h:v.ID<w.ID):fR (mK v).Key (mK w).Key=true :=
 BW (Lu h0 ae) (Lu ae h1) (Lt ae ae)
theorem tH (a b:ByteArray)(i j:Nat)(hi:i=a.size)(hj:j=a.size+b.size):(a++b).extract i j=b:=by
 apply gX;grind [oI,jl,List.take_of_length_le,List.length_append,gC,List.drop_left]
theorem BX (a b:ByteArray)(i j:Nat)(hj:j<=a.size):(a++b).extract i j=a.extract i j:=by
 grind [gX,oI,jl,gC]
theorem wF (a:ByteArray)(j:Nat)(hj:j=a.size):a.extract 0 j=a:=by
 simp_all
theorem kU (a b:ByteArray):(a++b).size=a.size+b.size:=ByteArray.size_append
theorem Uo {a b:ByteArray}{n:Int}(h0:0<=n)(h1:n<10000)(ha:a=bm n):dP (a++b) 1=some [n]:=by
 simp_all [dP,iU,dJ,if_neg,kU,BX,wF,qO]
theorem Gc {n:Int}(h0:0<=n)(h1:n<10000):dP (bm n) 1=some [n]:=by
 simp_all [dP,iU,dJ,if_neg,wF,qO]
theorem Up {a b:Int}(ha:0<=a/\a<10000)(hb:0<=b/\b<10000):dP (bm a++bm b) 2=some [a,b]:=by
 have s1:=dJ ha.1 ha.2;have s2:=dJ hb.1 hb.2
 simp_all [dP,iU,if_neg,kU,BX,wF,qO,tH]
theorem Ur {a b c d:Int}(ha:0<=a/\a<10000)(hb:0<=b/\b<10000)(hc:0<=c/\c<10000)(hd:0<=d/\d<10000):dP (bm a++bm b++bm c++bm d) 4=some [a,b,c,d]:=by
 have s1:=dJ ha.1 ha.2;have s2:=dJ hb.1 hb.2;have s3:=dJ hc.1 hc.2;have s4:=dJ hd.1 hd.2
 simp_all [dP,iU,if_neg,kU,BX,wF,qO,tH]
theorem Eh {s:ByteArray}{l:List UInt8}{i:Nat}{x:UInt8}(h:bl s=l)(hx:l[i]? = some x):bq s i=x.toNat:=by grind [jA]
theorem Lv (r:aA){h:Held}(hp:aY h.Place=0)(h0:0<=h.ak)(h1:h.ak<10000):rowP r (hrow h)=(Ji r h,true):=by
 have hk:=hkey hp;have hz:=bG hp
 have hs:(hrow h).Key.size=3:=by grind [gC]
 have b0:bq (hrow h).Key 0=104:=Eh (x:=104) hk rfl
 have b1:bq (hrow h).Key 1=48+h.Place.aB.toNat:=by rw [Eh hk rfl,xU ae]
 have b2:bq (hrow h).Key 2=48+h.Place.Slot.toNat:=by rw [Eh hk rfl,xU ae]
 have hpl:Uk (hrow h)=h.Place:=by
  unfold Uk Oe;rw [b1,b2]
  show (⟨_,_⟩:Place)=⟨h.Place.aB,h.Place.Slot⟩
  grind
 have hv:dP (hrow h).Val 1=some [h.ak]:=Gc h0 h1
 have hvs:(hrow h).Val.size=4:=dJ h0 h1
 unfold rowP
 rw [if_neg ae]
 dsimp only
 rw [if_pos b0,hv,if_neg au,hpl,decide_eq_true hp];rfl
theorem Lw (r:aA){t:av}(h0:0<=t.ID)(h1:t.ID<10000)(hk:t.Kind=1∨t.Kind=2/\t.Data.size=0)(hd:t.Data.size<=8):rowP r (kr t)=(Jj r t,true):=by
 have hky:=tkey h0 h1
 have hs:(kr t).Key.size=5:=by rw [<- gC,hky];rfl
 have b0:bq (kr t).Key 0=116:=Eh (x:=116) hky rfl
 have e1:dP ((kr t).Key.extract 1 (kr t).Key.size) 1=some [t.ID]:=by
  show dP ((kT++bm t.ID).extract 1 _) 1=_
  have hf:=dJ h0 h1
  rw [tH _ _ _ _ eF (by rw [hs,hf];rfl)];grind [Gc]
 have k4:0<=t.Kind/\t.Kind<10000:=ae
 have hf:=dJ k4.1 k4.2
 have hv:dP (kr t).Val 1=some [t.Kind]:=Uo k4.1 k4.2 rfl
 have hvs:(kr t).Val.size=4+t.Data.size:=by show (bm t.Kind++t.Data).size=_;grind
 have hx:(kr t).Val.extract 4 (kr t).Val.size=t.Data:=by
  rw [hvs];show (bm t.Kind++t.Data).extract _ _=_
  grind [tH]
 unfold rowP
 rw [if_neg ae]
 dsimp only
 rw [if_neg ae,if_pos b0,e1,hv,if_neg au,hx]
 show (Jj r ⟨t.ID,t.Kind,t.Data⟩,decide (t.Kind=1∨t.Kind=2/\(kr t).Val.size=4))=_
 simp_all
theorem Lx (r:aA){w:ak}(h:Tj w):rowP r (mK w)=(Ef r w,true):=by
 have i1:=h.id1;have i9:=h.P5;have t1:=h.Tk;have t9:=h.Tl;have a0:=h.Tm;have a9:=h.Tn;have f0:=h.P6;have fl:=h.P7;have q0:=h.P8;have q7:=h.P9
 have hky:=Lu (w:=w) ae ae
 have hs:(mK w).Key.size=5:=by rw [<- gC,hky];rfl
 have b0:bq (mK w).Key 0=119:=Eh (x:=119) hky rfl
 have e1:dP ((mK w).Key.extract 1 (mK w).Key.size) 1=some [w.ID]:=by
  show dP ((kW++bm w.ID).extract 1 _) 1=_
  have hf:=dJ (n:=w.ID) ae ae
  rw [tH _ _ _ _ eF (by rw [hs,hf];rfl)];grind [Gc]
 have hv:dP (mK w).Val 4=some [w.av,w.Rights,w.aO,w.From]:=Ur ae ae ae ae
 have hvs:(mK w).Val.size=16:=by
  show (bm w.av++bm w.Rights++bm w.aO++bm w.From).size=_
  grind [kU,dJ]
 unfold rowP
 rw [if_neg ae]
 dsimp only
 rw [if_neg ae,if_neg ae,if_pos b0,e1,hv,if_neg au];rfl
theorem Ly (r q:aA)(ha:0<=q.ag/\q.ag<10000)(hb:0<=q.ai/\q.ai<10000):rowP r (Ee q)=(Og r q.ag q.ai,true):=by
 have hv:dP (Ee q).Val 2=some [q.ag,q.ai]:=Up ha hb
 have hvs:(Ee q).Val.size=8:=by
  show (bm q.ag++bm q.ai).size=_
  grind [kU,dJ]
 have b0:bq (Ee q).Key 0=120:=rfl
 unfold rowP
 rw [if_neg (show ¬ (Ee q).Key.size=0 from (by decide:¬ kX.size=0))]
 dsimp only
 rw [if_neg ae,if_neg ae,if_neg ae,hv,if_neg (by rw [hvs];simp;rfl)];rfl
def tI (r:aA)(c:Change):aA:=(rowP r c).1
theorem H4:∀ (l:List Change) (pv:Option ByteArray) (r:aA),(∀c∈l,sj pv c=true)->cX l->(∀c∈l,c.Gone=false /\ ∀s,(rowP s c).2=true)->pgo l pv r=some (l.foldl tI r)
 | [],_,r,_,_,_=>rfl
 | c::l,pv,r,h1,h2,h3=>by
  obtain ⟨hc,hl⟩:=List.pairwise_cons.1 h2
  have g:=h3 c (List.mem_cons_self ..)
  simp only [pgo]
  rw [if_pos au]
  exact H4 l (some c.Key) _ (fun x hx=>hc x hx) hl (fun x hx=>h3 x (List.mem_cons_of_mem _ hx))
theorem Lz:∀ (hs:List Held) (r:aA),(∀h∈hs,aY h.Place=0/\0<=h.ak/\h.ak<10000)->(hs.map hrow).foldl tI r=⟨r.aj,r.Things,r.Held++hs,r.Notes,r.ag,r.ai⟩
 | [],r,_=>by simp
 | h::hs,r,k=>by
  obtain ⟨k1,k2,k3⟩:=k h (List.mem_cons_self ..)
  rw [List.map_cons,List.foldl_cons,show tI r (hrow h)=Ji r h by grind [tI,Lv],Lz hs _ (fun x hx=>k x (List.mem_cons_of_mem _ hx))]
  grind [Ji,List.append_assoc]
structure X0 (t:av):Prop where
  i0:0<=t.ID
  i9:t.ID<10000
  kd:t.Kind=1∨t.Kind=2/\t.Data.size=0
  ds:t.Data.size<=8
theorem LA:∀ (ts:List av) (r:aA),(∀t∈ts,X0 t)->(ts.map kr).foldl tI r=⟨r.aj,r.Things++ts,r.Held,r.Notes,r.ag,r.ai⟩
 | [],r,_=>by simp
 | t::ts,r,k=>by
  obtain ⟨k1,k2,k3,k4⟩:=k t (List.mem_cons_self ..)
  rw [List.map_cons,List.foldl_cons,show tI r (kr t)=Jj r t by grind [tI,Lw],LA ts _ (fun x hx=>k x (List.mem_cons_of_mem _ hx))]
  grind [Jj,List.append_assoc]
theorem LB:∀ (ws:List ak) (r:aA),(∀w∈ws,Tj w)->(ws.map mK).foldl tI r=⟨r.aj++ws,r.Things,r.Held,r.Notes,r.ag,r.ai⟩
 | [],r,_=>by simp
 | w::ws,r,k=>by
  rw [List.map_cons,List.foldl_cons,show tI r (mK w)=Ef r w by grind [tI,Lx,List.mem_cons_self],LB ws _ (fun x hx=>k x (List.mem_cons_of_mem _ hx))]
  grind [Ef,List.append_assoc]
theorem Jl {l:List ak}(h:cb l):l.Pairwise (fun a b=>a.ID<b.ID):=by
 have key:∀ (n i j:Nat) (x y:ak),j=i+n+1->l[i]? = some x->l[j]? = some y->x.ID<y.ID:=by
  intro n
  induction n with
  | zero =>
   intro i j x y e hx hy
   have hs:=h.steps j (List.getElem?_eq_some_iff.1 hy).1
   grind [mQ,ig]
  | succ n ih =>
   intro i j x y e hx hy
   have hj:j-1<l.length:=au
   have hz:=List.getElem?_eq_getElem hj
   exact Int.lt_trans (ih i (j-1) x l[j-1] ae hx hz) (by
    have hs:=h.steps j (List.getElem?_eq_some_iff.1 hy).1
    grind [mQ,ig])
 rw [List.pairwise_iff_getElem]
 intro i j hi hj hij
 exact key (j-i-1) i j _ _ ae (List.getElem?_eq_getElem hi) (List.getElem?_eq_getElem hj)
theorem Inv.Qg {r:aA}(h:Inv r){t:av}(ht:t∈r.Things):X0 t:=by
 have a:=h.wA t ht;have b:=h.oG;have c:=h.iL t ht;have d:=h.iM t ht
 refine ⟨ae,ae,?_,d.1⟩
 rcases c with c|c
 .omega
 exact .inr ⟨c,by rw [d.2 c];rfl⟩
theorem Inv.H5 {r:aA}(h:Inv r){x:Held}(hx:x∈r.Held):aY x.Place=0/\1<=x.ak/\x.ak<10000:=by
 obtain ⟨w,hw,e⟩:=h.eD x hx
 have k:=h.tree.mem hw
 have:=k.id1;have:=k.P5
 exact ⟨((D2.1 h.good).2 x hx).1,ae,ae⟩
theorem xV {α β:Type}{R:β->β->Prop}{S:α->α->Prop}(f:α->β):∀ {l:List α},l.Pairwise S->(∀x∈l,∀y∈l,S x y->R (f x) (f y))->(l.map f).Pairwise R
 | [],_,_=>List.Pairwise.nil
 | a::l,h,k=>by
  obtain ⟨h1,h2⟩:=List.pairwise_cons.1 h
  refine List.pairwise_cons.2 ⟨fun y hy=>?_,xV f h2 (fun x hx y hy=>k x (List.mem_cons_of_mem _ hx) y (List.mem_cons_of_mem _ hy))⟩
  obtain ⟨x,hx,rfl⟩:=List.mem_map.1 hy
  exact k a (List.mem_cons_self ..) x (List.mem_cons_of_mem _ hx) (h1 x hx)
theorem Ax {r:aA}(h:Inv r):cX (rowsOf r):=by
 have hx:bl kX=[120]:=rfl
 have kh:∀x∈r.Held,bl (hrow x).Key=[104,d8 x.Place.aB.toNat,d8 x.Place.Slot.toNat]:=fun x hx=>hkey (h.H5 hx).1
 have kt:∀t∈r.Things,bl (kr t).Key=116::Gb t.ID.toNat:=fun t ht=>tkey (h.Qg ht).i0 (h.Qg ht).i9
 have kw:∀w∈r.aj,bl (mK w).Key=119::Gb w.ID.toNat:=fun w hw=>by
  have:=(h.tree.mem hw).id1;have:=(h.tree.mem hw).P5;grind [Lu]
 unfold cX rowsOf
 refine List.pairwise_append.2 ⟨List.pairwise_append.2 ⟨List.pairwise_append.2 ⟨?_,?_,?_⟩,?_,?_⟩,List.pairwise_singleton _ _,?_⟩
 .exact xV hrow (D2.1 h.good).1 (fun x hx y hy hl=>Oi (h.H5 hx).1 (h.H5 hy).1 hl)
 .exact xV kr h.iu (fun x hx y hy hl=>Oj (h.Qg hx).i0 (h.Qg hy).i9 hl)
 .grind [tG]
 .exact xV mK (Jl h.tree) (fun x hx y hy hl=>by
   have:=(h.tree.mem hx).id1;have:=(h.tree.mem hy).P5;grind [Ol])
 .grind [tG]
 intro a ha b hb
 rw [List.mem_singleton.1 hb]
 rcases List.mem_append.1 ha with ha|ha
 .
  rcases List.mem_append.1 ha with ha|ha
  .
   obtain ⟨x,hx',rfl⟩:=List.mem_map.1 ha
   exact tG (kh x hx') hx aD
  obtain ⟨x,hx',rfl⟩:=List.mem_map.1 ha
  exact tG (kt x hx') hx aD
 obtain ⟨x,hx',rfl⟩:=List.mem_map.1 ha
 exact tG (kw x hx') hx aD
theorem Jm {r:aA}(h:Inv r):∀c∈rowsOf r,c.Gone=false /\ ∀s,(rowP s c).2=true:=by
 have a1:=h.nM;have a2:=h.pI;have a3:=h.oF;have a4:=h.oG
 intro c hc
 unfold rowsOf at hc
 rcases List.mem_append.1 hc with hc|hc
 .
  rcases List.mem_append.1 hc with hc|hc
  .
   rcases List.mem_append.1 hc with hc|hc
   .
    obtain ⟨x,hx,rfl⟩:=List.mem_map.1 hc
    have k:=h.H5 hx
    exact ⟨rfl,fun s=>by grind [Lv]⟩
   obtain ⟨x,hx,rfl⟩:=List.mem_map.1 hc
   have k:=h.Qg hx
   exact ⟨rfl,fun s=>by rw [Lw s k.i0 k.i9 k.kd k.ds]⟩
  obtain ⟨x,hx,rfl⟩:=List.mem_map.1 hc
  exact ⟨rfl,fun s=>by rw [Lx s (h.tree.mem hx)]⟩
 rw [List.mem_singleton.1 hc]
 exact ⟨rfl,fun s=>by grind [Ly]⟩
theorem Jn {r:aA}(h:Inv r)(hn:r.Notes=[]):(rowsOf r).foldl tI r0=r:=by
 have a1:=h.nM;have a2:=h.pI;have a3:=h.oF;have a4:=h.oG
 unfold rowsOf
 rw [List.foldl_append,List.foldl_append,List.foldl_append,Lz _ _ (fun x hx=>⟨(h.H5 hx).1,by have:=(h.H5 hx).2.1;omega,(h.H5 hx).2.2⟩),LA _ _ (fun t ht=>h.Qg ht),LB _ _ (fun w hw=>h.tree.mem hw)]
 rw [List.foldl_cons,List.foldl_nil]
 unfold tI
 rw [Ly _ r ae ae]
 obtain ⟨a,b,c,d,e,f⟩:=r
 grind [Og,r0]
theorem Ay:∀ (a b:List Int),a.Pairwise (· < ·)->b.Pairwise (· < ·)->(∀x,x∈a↔x∈b)->a=b
 | [],[],_,_,_=>rfl
 | [],y::b,_,_,h=>by have:=(h y).2 (List.mem_cons_self ..);cases this
 | x::a,[],_,_,h=>by have:=(h x).1 (List.mem_cons_self ..);cases this
 | x::a,y::b,ha,hb,h=>by
  obtain ⟨a1,a2⟩:=List.pairwise_cons.1 ha
  obtain ⟨b1,b2⟩:=List.pairwise_cons.1 hb
  have e:x=y:=by
   rcases List.mem_cons.1 ((h x).1 (List.mem_cons_self ..)) with e|h1
   .exact e
   rcases List.mem_cons.1 ((h y).2 (List.mem_cons_self ..)) with e|h2
   .exact e.symm
   have:=b1 x h1;have:=a1 y h2;omega
  subst e
  congr 1
  refine Ay a b a2 b2 (fun z=>?_)
  have hz:=h z
  simp only [List.mem_cons] at hz
  constructor
  .
   intro h1
   rcases hz.1 (.inr h1) with e|h2
   .have:=a1 z h1;omega
   exact h2
  intro h1
  rcases hz.2 (.inr h1) with e|h2
  .have:=b1 z h1;omega
  exact h2
theorem Ei {l:List ak}(h:cb l):(a8 l).Pairwise (· < ·):=by
 unfold a8;rw [uy h];exact (mS l 999).1
theorem Ej {α:Type}{l:List α}{y:α}(hy:l.getLast? = some y):y∈l:=by
 grind
theorem Inv.ids {r:aA}(h:Inv r):r.Things.map av.ID=a8 r.aj :=
 Ay _ _ (xV av.ID h.iu (fun _ _ _ _ h=>h)) (Ei h.tree) fun x=>by
  rw [km h.tree,List.mem_map]
  constructor
  .rintro ⟨t,ht,rfl⟩;exact h.used t ht
  rintro ⟨w,hw,rfl⟩;exact h.thing w hw
theorem Inv.nodup {r:aA}(h:Inv r):(r.Held.map Held.ak).Nodup:=by
 rw [List.nodup_iff_count]
 intro a
 by_cases ha:∃w∈r.aj,w.ID=a
 .
  obtain ⟨w,hw,rfl⟩:=ha
  have:=h.once w hw
  have e:(r.Held.map Held.ak).count w.ID=cH r.Held w.ID:=by
   unfold cH;rw [List.count,List.countP_map];rfl
  omega
 rw [List.count_eq_zero.2 (fun hm=>?_)]
 .omega
 obtain ⟨x,hx,rfl⟩:=List.mem_map.1 hm
 exact ha (h.eD x hx)
theorem Inv.whole {r:aA}(h:Inv r)(hl:r.Held.length=r.aj.length):Whole r where
 tree:=h.tree
 ia:=h.ia
 nM:=h.nM
 pI:=h.pI
 oF:=h.oF
 oG:=h.oG
 hlen:=hl
 eD:=fun x hx=>by
  obtain ⟨w,hw,e⟩:=h.eD x hx
  exact jk.2 ⟨w,hw,e⟩
 once:=h.nodup
 things:=h.ids
 Qd:=fun w hw=>h.sf w (Ej hw)
 Qe:=fun t ht=>(h.wA t (Ej ht)).2
theorem Gd {r:aA}(h:Inv r)(hn:r.Notes=[])(hl:r.Held.length=r.aj.length):bQ (rowsOf r)=(r,0):=by
 have h1:=H4 (rowsOf r) none r0 (fun _ _=>rfl) (Ax h) (Jm h)
 unfold bQ
 rw [h1,Jn h hn]
 dsimp only
 rw [if_pos (xS (h.whole hl))]
theorem vE {r:aA}(h:Inv r):bQ (aQ r)=(aK r,0):=by
 obtain ⟨h1,h2,h3,h4,h5⟩:=gq h
 exact Gd h1 h2 h4
theorem gQ {r:aA}(h:Inv r):(aQ r).length<=60:=by
 obtain ⟨h1,h2,h3,h4,h5⟩:=gq h
 have a:=p9 h1;have b:=h1.ia
 grind [aQ,rowsOf,List.length_append,List.length_map,List.length_cons,List.length_nil]
theorem hk0 (h:Held):∃l,bl (hrow h).Key=104::l:=⟨_,by show bl (kH++dx h.Place.aB++dx h.Place.Slot)=_;rw [jl,jl];rfl⟩
def YS (t:av):Bool:=decide ((t.Kind=1∨t.Kind=2/\t.Data.size=0)/\t.Data.size<=8)
def xr (a b:Int):Change:=⟨kX,bm a++bm b,false⟩
structure Kinds (l:List Change)(hs:List Held)(ts:List av)(ws:List ak)(xs:List Change):Prop where
  eq:l=hs.map hrow++ts.map kr++ws.map mK++xs
  h:∀x∈hs,aY x.Place=0
  t:∀x∈ts,YS x=true
  x:(xs=[] /\ ∀r:aA,l.foldl tI r=⟨r.aj++ws,r.Things++ts,r.Held++hs,r.Notes,r.ag,r.ai⟩) ∨ ∃a b,xs=[xr a b] /\ ∀r:aA,l.foldl tI r=⟨r.aj++ws,r.Things++ts,r.Held++hs,r.Notes,a,b⟩
theorem xW {z:aA}(h:Inv z)(hn:z.Notes=[]):aK z=z:=by
 obtain ⟨a,b,c,d,e,f⟩:=z
 simp only at hn;subst hn
 exact xM h
def rK (k:ByteArray):Change:=⟨k,⟨#[]⟩,true⟩
def xX (a b:List Change):List Change:=(a.filter (fun c => !py (fK c.Key) b)).map (fun c=>rK c.Key)
def Ek (a b:List Change):List Change:=b.filter (fun c => !py (fK c.Key) a || !decide (a[jw (fK c.Key) a]? = some c))
def tJ (a b:List Change):List Change:=xX a b++Ek a b
def bj:List Change->List Change->List Change
  | [],b=>b
  | x::a,[]=>rK x.Key::bj a []
  | x::a,y::b=>if fR x.Key y.Key=true then rK x.Key::bj a (y::b) else if fR y.Key x.Key=true then y::bj (x::a) b else if x=y then bj a b else y::bj a b
termination_by a b=>a.length+b.length
decreasing_by all_goals grind
theorem lQ (b:List Change):bj [] b=b:=by rw [bj]
theorem Az (x:Change)(a:List Change):bj (x::a) []=rK x.Key::bj a []:=by rw [bj]
theorem l9 (x y:Change)(a b:List Change):bj (x::a) (y::b)=if fR x.Key y.Key=true then rK x.Key::bj a (y::b) else if fR y.Key x.Key=true then y::bj (x::a) b else if x=y then bj a b else y::bj a b:=by rw [bj]
theorem Om {l:List Change}(h:cX l)(k:ByteArray):py (fK k) l=true ↔ ∃x∈l,x.Key=k:=by
 rcases cX.cut h k with ⟨A,B,x,e,hx,ha,hb⟩ | ⟨A,B,e,ha,hb⟩
 .rw [e,(F8 hx ha hb).2];grind
 rw [e,(HZ ha hb).2]
 grind [eQ]
theorem uI {l:List Change}(h:cX l){x y:Change}(hx:x∈l)(hy:y∈l)(e:x.Key=y.Key):x=y:=by
 rcases cX.cut h x.Key with ⟨A,B,z,e1,hz,ha,hb⟩ | ⟨A,B,e1,ha,hb⟩
 .grind [eQ]
 grind [eQ]
theorem LC {l:List Change}(h:cX l){c:Change}:(py (fK c.Key) l=true/\l[jw (fK c.Key) l]? = some c)↔c∈l:=by
 constructor
 .grind
 intro hc
 rcases cX.cut h c.Key with ⟨A,B,z,e1,hz,ha,hb⟩ | ⟨A,B,e1,ha,hb⟩
 .
  have hk:=F8 hz ha hb
  have e2:z=c:=uI h au hc hz
  grind
 grind [eQ]
def Tp (a b:List Change)(x:Change):Prop:=(∃c∈a,(∀y∈b,y.Key≠c.Key)/\x=rK c.Key)∨(x∈b/\¬ x∈a)
theorem El {a b:List Change}(hb:cX b){x:Change}:x∈xX a b ↔ ∃c∈a,(∀y∈b,y.Key≠c.Key)/\x=rK c.Key:=by
 unfold xX
 grind [Om]
theorem Em {a b:List Change}(ha:cX a){x:Change}:x∈Ek a b↔x∈b/\¬ x∈a:=by
 unfold Ek
 rw [List.mem_filter,<- LC ha (c:=x)]
 grind
theorem LD {a b:List Change}(ha:cX a)(hb:cX b){x:Change}:x∈tJ a b↔Tp a b x:=by
 grind [tJ,Tp,El,Em]
theorem jB:∀ (n:Nat) (a b:List Change),a.length+b.length<=n->cX a->cX b->(∀x,x∈bj a b↔Tp a b x)/\cX (bj a b)
 | n,[],b,_,_,hb=>by
  rw [lQ]
  refine ⟨fun x=>⟨fun h => .inr ⟨h,fun q=>by cases q⟩,?_⟩,hb⟩
  rintro (⟨c,hc,_⟩ | ⟨h,_⟩)
  .grind
  omega
 | 0,x::a,b,h,_,_=>by grind
 | n+1,x::a,[],hn,ha,hb=>by
  obtain ⟨a1,a2⟩:=List.pairwise_cons.1 ha
  obtain ⟨i1,i2⟩:=jB n a [] au a2 hb
  rw [Az]
  refine ⟨fun z=>?_,List.pairwise_cons.2 ⟨fun z hz=>?_,i2⟩⟩
  .
   rw [List.mem_cons,i1 z]
   constructor
   .
    rintro (rfl|⟨c,hc,hh,rfl⟩ | ⟨h,_⟩)
    .exact .inl ⟨x,List.mem_cons_self ..,(fun y hy=>by grind),rfl⟩
    .exact .inl ⟨c,List.mem_cons_of_mem _ hc,hh,rfl⟩
    grind
   rintro (⟨c,hc,hh,rfl⟩ | ⟨h,_⟩)
   .
    rcases List.mem_cons.1 hc with rfl|hc
    .grind
    exact .inr (.inl ⟨c,hc,hh,rfl⟩)
   grind
  rcases (i1 z).1 hz with ⟨c,hc,_,rfl⟩ | ⟨h,_⟩
  .exact a1 c hc
  grind
 | n+1,x::a,y::b,hn,ha,hb=>by
  obtain ⟨a1,a2⟩:=List.pairwise_cons.1 ha
  obtain ⟨b1,b2⟩:=List.pairwise_cons.1 hb
  simp only [List.length_cons] at hn
  have ne_of:∀ {u v:ByteArray},fR u v=true->u≠v:=fun h e=>by grind [eQ]
  rw [l9]
  by_cases c1:fR x.Key y.Key=true
  .
   rw [if_pos c1]
   obtain ⟨i1,i2⟩:=jB n a (y::b) au a2 hb
   have hxb:∀z∈y::b,fR x.Key z.Key=true:=fun z hz=>by
    grind [lO]
   refine ⟨fun z=>?_,List.pairwise_cons.2 ⟨fun z hz=>?_,i2⟩⟩
   .
    rw [List.mem_cons,i1 z]
    constructor
    .
     rintro (rfl|⟨c,hc,hh,rfl⟩ | ⟨h,h'⟩)
     .exact .inl ⟨x,List.mem_cons_self ..,(fun z hz e=>ne_of (hxb z hz) e.symm),rfl⟩
     .exact .inl ⟨c,List.mem_cons_of_mem _ hc,hh,rfl⟩
     exact .inr ⟨h,fun q=>by
      grind⟩
    rintro (⟨c,hc,hh,rfl⟩ | ⟨h,h'⟩)
    .
     rcases List.mem_cons.1 hc with rfl|hc
     .grind
     exact .inr (.inl ⟨c,hc,hh,rfl⟩)
    exact .inr (.inr ⟨h,fun q=>h' (List.mem_cons_of_mem _ q)⟩)
   rcases (i1 z).1 hz with ⟨c,hc,_,rfl⟩ | ⟨h,_⟩
   .exact a1 c hc
   exact hxb z h
  rw [if_neg c1]
  by_cases c2:fR y.Key x.Key=true
  .
   rw [if_pos c2]
   obtain ⟨i1,i2⟩:=jB n (x::a) b au ha b2
   have hya:∀z∈x::a,fR y.Key z.Key=true:=fun z hz=>by
    grind [lO]
   refine ⟨fun z=>?_,List.pairwise_cons.2 ⟨fun z hz=>?_,i2⟩⟩
   .
    rw [List.mem_cons,i1 z]
    constructor
    .
     rintro (rfl|⟨c,hc,hh,rfl⟩ | ⟨h,h'⟩)
     .exact .inr ⟨List.mem_cons_self ..,fun q=>ne_of (hya z q) rfl⟩
     .exact .inl ⟨c,hc,(fun w hw=>by
       grind),rfl⟩
     exact .inr ⟨List.mem_cons_of_mem _ h,h'⟩
    rintro (⟨c,hc,hh,rfl⟩ | ⟨h,h'⟩)
    .exact .inr (.inl ⟨c,hc,(fun w hw=>hh w (List.mem_cons_of_mem _ hw)),rfl⟩)
    rcases List.mem_cons.1 h with rfl|h
    .grind
    exact .inr (.inr ⟨h,h'⟩)
   rcases (i1 z).1 hz with ⟨c,hc,_,rfl⟩ | ⟨h,_⟩
   .exact hya c hc
   grind
  rw [if_neg c2]
  have e:x.Key=y.Key:=by
   grind [tw]
  obtain ⟨i1,i2⟩:=jB n a b ae a2 b2
  have hz0:∀z∈bj a b,fR y.Key z.Key=true:=fun z hz=>by
   rcases (i1 z).1 hz with ⟨c,hc,_,rfl⟩ | ⟨h,_⟩
   .rw [<- e];exact a1 c hc
   grind
  have hgen:∀z,Tp (x::a) (y::b) z↔(z=y/\x≠y)∨Tp a b z:=fun z=>by
   constructor
   .
    rintro (⟨c,hc,hh,rfl⟩ | ⟨h,h'⟩)
    .
     rcases List.mem_cons.1 hc with rfl|hc
     .grind
     exact .inr (.inl ⟨c,hc,(fun w hw=>hh w (List.mem_cons_of_mem _ hw)),rfl⟩)
    rcases List.mem_cons.1 h with rfl|h
    .grind
    exact .inr (.inr ⟨h,fun q=>h' (List.mem_cons_of_mem _ q)⟩)
   rintro (⟨rfl,hne⟩ | ⟨c,hc,hh,rfl⟩ | ⟨h,h'⟩)
   .
    refine .inr ⟨List.mem_cons_self ..,fun q=>?_⟩
    grind
   .
    refine .inl ⟨c,List.mem_cons_of_mem _ hc,fun w hw=>?_,rfl⟩
    grind
   refine .inr ⟨List.mem_cons_of_mem _ h,fun q=>?_⟩
   grind
  by_cases c3:x=y
  .grind
  rw [if_neg c3]
  refine ⟨fun z=>?_,List.pairwise_cons.2 ⟨hz0,i2⟩⟩
  grind
theorem mem_merge {a b:List Change}(ha:cX a)(hb:cX b){x:Change}:x∈bj a b↔Tp a b x:=(jB _ a b (Nat.le_refl _) ha hb).1 x
theorem oL {a b:List Change}(ha:cX a)(hb:cX b):cX (bj a b):=(jB _ a b (Nat.le_refl _) ha hb).2
abbrev Apart (l:List Change):Prop:=l.Pairwise (fun x y=>x.Key≠y.Key)
theorem oM {l:List Change}(h:cX l):Apart l:=List.Pairwise.imp (fun q e=>by grind [eQ]) h
theorem Jo {a b:List Change}(ha:cX a)(hb:cX b):Apart (tJ a b):=by
 unfold tJ
 refine List.pairwise_append.2 ⟨?_,(oM hb).filter _,?_⟩
 .
  unfold xX
  exact List.pairwise_map.2 ((oM ha).filter _)
 intro x hx y hy e
 obtain ⟨c,hc,hn,rfl⟩:=(El hb).1 hx
 exact hn y ((Em ha).1 hy).1 e.symm
theorem Ge {a b d:List Change}(ha:cX a)(hb:cX b)(hp:d.Perm (tJ a b))(hs:d.Pairwise (fun x y => ¬ fR y.Key x.Key=true)):d=bj a b:=by
 have h1:Apart d:=hp.symm.pairwise (Jo ha hb) (fun q e=>q e.symm)
 have h2:cX d:=by
  refine List.Pairwise.imp ?_ (hs.and h1)
  grind [tw]
 grind [uG,oL,LD,mem_merge]
theorem AA:∀ (l:List Change) {rows:List Change},cX rows->cX l -> ∀ {y:Change},y∈bI rows l↔(y∈rows /\ ∀c∈l,c.Key≠y.Key)∨(y∈l/\y.Gone=false)
 | [],rows,hr,_,y=>by
  show y∈rows↔_
  grind
 | c::l,rows,hr,hl,y=>by
  obtain ⟨l1,l2⟩:=List.pairwise_cons.1 hl
  show y∈bI (zx rows c) l↔_
  rw [AA l (tD hr c) l2,H3 hr]
  grind [List.mem_cons_self,List.mem_cons_of_mem,eQ]
theorem qe {a b:List Change}(ha:cX a)(hb:cX b)(hg:∀c∈b,c.Gone=false):bI a (bj a b)=b:=by
 refine uG _ _ (si _ ha) hb fun y=>?_
 rw [AA _ ha (oL ha hb)]
 constructor
 .
  rintro (⟨h1,h2⟩ | ⟨h1,h2⟩)
  .
   by_cases hy:∃z∈b,z.Key=y.Key
   .
    obtain ⟨z,hz,e⟩:=hy
    by_cases hza:z∈a
    .grind [uI]
    exact absurd e (h2 z ((mem_merge ha hb).2 (.inr ⟨hz,hza⟩)))
   exact absurd rfl (h2 (rK y.Key) ((mem_merge ha hb).2 (.inl ⟨y,h1,fun z hz e=>hy ⟨z,hz,e⟩,rfl⟩)))
  rcases (mem_merge ha hb).1 h1 with ⟨c,_,_,rfl⟩ | ⟨q,_⟩
  .cases h2
  omega
 intro h
 by_cases hya:y∈a
 .
  refine .inl ⟨hya,fun c hc e=>?_⟩
  rcases (mem_merge ha hb).1 hc with ⟨d,_,hn,rfl⟩ | ⟨q1,q2⟩
  .exact hn y h e.symm
  grind [uI]
 exact .inr ⟨(mem_merge ha hb).2 (.inr ⟨h,hya⟩),hg y h⟩
structure Jp (c:Change):Prop where
  k0:0<c.Key.size
  k8:c.Key.size<=8
  v:c.Val.size<=24
  g:c.Gone=false
theorem Rr {r:aA}(h:Inv r):∀c∈rowsOf r,Jp c:=by
 have a1:=h.nM;have a2:=h.pI;have a3:=h.oF;have a4:=h.oG
 intro c hc
 unfold rowsOf at hc
 rcases List.mem_append.1 hc with hc|hc
 .
  rcases List.mem_append.1 hc with hc|hc
  .
   rcases List.mem_append.1 hc with hc|hc
   .
    obtain ⟨x,hx,rfl⟩:=List.mem_map.1 hc
    have k:=h.H5 hx;have k1:=k.2.1;have k2:=k.2.2
    have e:(hrow x).Key.size=3:=by grind [gC,hkey]
    have e2:(hrow x).Val.size=4:=dJ ae ae
    exact ⟨ae,ae,ae,rfl⟩
   obtain ⟨x,hx,rfl⟩:=List.mem_map.1 hc
   have k:=h.Qg hx;have k1:=k.i0;have k2:=k.i9;have k3:=k.kd;have k4:=k.ds
   have e:(kr x).Key.size=5:=by rw [<- gC,tkey k1 k2];rfl
   have e2:(kr x).Val.size=4+x.Data.size:=by show (bm x.Kind++x.Data).size=_;grind [kU,dJ]
   exact ⟨ae,ae,ae,rfl⟩
  obtain ⟨x,hx,rfl⟩:=List.mem_map.1 hc
  have k:=h.tree.mem hx
  have i1:=k.id1;have i9:=k.P5;have t1:=k.Tk;have t9:=k.Tl;have b0:=k.Tm;have b9:=k.Tn;have f0:=k.P6;have fl:=k.P7;have q0:=k.P8;have q7:=k.P9
  have e:(mK x).Key.size=5:=by rw [<- gC,Lu ae ae];rfl
  have e2:(mK x).Val.size=16:=by
   show (bm x.av++bm x.Rights++bm x.aO++bm x.From).size=_
   grind [kU,dJ]
  exact ⟨ae,ae,ae,rfl⟩
 rw [List.mem_singleton.1 hc]
 have e2:(Ee r).Val.size=8:=by
  show (bm r.ag++bm r.ai).size=_
  grind [kU,dJ]
 exact ⟨(by decide:0<kX.size),(by decide:kX.size<=8),ae,rfl⟩
theorem mX {r:aA}(h:Inv r):∀c∈aQ r,Jp c:=Rr (gq h).1
theorem ec {r:aA}(h:Inv r):cX (aQ r):=Ax (gq h).1
theorem Gf {r:aA}(h:Inv r):∀c∈aQ r,c.Key.size<=1000/\c.Val.size<=1000:=fun c hc=>by
 have k:=mX h c hc;have:=k.k8;have:=k.v;omega
section
open Go.RowKit
structure Turn where
  At:Int
  Data:ByteArray
  deriving DecidableEq
abbrev Turn.cs (x:Turn):List Value:=[.int .i64 x.At,.string x.Data]
abbrev Turn.val (x:Turn):Value:= .agg #[.int .i64 x.At,.string x.Data]
instance:Enc Turn:=⟨2,Turn.cs,fun _=>rfl,fun x u hu=>by simp [Turn.cs] at hu;rcases hu with rfl|rfl <;> rfl,by decide⟩
structure bZ where
  Kept:List ByteArray
  Now:List ByteArray
  Wait:List Turn
  Fuse:Int
  Down:Bool
  deriving DecidableEq
def wG (n:Nat):ByteArray:=⟨(List.replicate n (0:UInt8)).toArray⟩
theorem xY (n:Nat):(wG n).size=n:=by grind [wG,ByteArray.size]
def full (s:ByteArray):ByteArray:=s++wG (48-s.size)
theorem Jq {s:ByteArray}(h:s.size<=48):(full s).size=48:=by grind [full,ByteArray.size_append,xY]
def dNew (n:Nat):bZ:=⟨List.replicate n (wG 48),List.replicate n (wG 48),[],-1,false⟩
def bE (d:bZ):bZ×Int :=
  if d.Down=true then (d,10) else if d.Fuse=0 then (⟨d.Kept,d.Now,d.Wait,-1,true⟩,10) else (⟨d.Kept,d.Now,d.Wait,max (d.Fuse-1) (-1),d.Down⟩,0)
def cC (d:bZ)(i:Int):ByteArray×Int :=
  if d.Down=true then (⟨#[]⟩,10) else if i<0∨(d.Now.length:Int)<=i then (⟨#[]⟩,1) else ((d.Now[i.toNat]?).getD ⟨#[]⟩,0)
def aP (d:bZ)(i:Int)(s:ByteArray):bZ×Int :=
  if i<0∨(d.Now.length:Int)<=i∨48<s.size then (d,1)
  else if (bE d).2=0 then (⟨(bE d).1.Kept,(bE d).1.Now.set i.toNat (full s),(bE d).1.Wait++[⟨i,full s⟩],(bE d).1.Fuse,(bE d).1.Down⟩,0) else bE d
def aN (d:bZ):bZ×Int :=
  if (bE d).2=0 then (⟨(bE d).1.Now,(bE d).1.Now,[],(bE d).1.Fuse,(bE d).1.Down⟩,0) else bE d
def Qh (k:Int)(i:Nat):Bool:=decide (k / ((2 ^ (i % 64):Nat):Int) % 2=1)
def oN (k:Int)(l:List ByteArray)(p:Turn×Nat):List ByteArray:=if Qh k p.2=true then l.set p.1.At.toNat p.1.Data else l
def nO (k:Int)(w:List Turn)(l:List ByteArray):List ByteArray:=w.zipIdx.foldl (oN k) l
def gH (d:bZ)(k:Int):bZ:=⟨nO k d.Wait d.Kept,nO k d.Wait d.Kept,[],-1,false⟩
structure fx (n m:Nat)(d:bZ):Prop where
  kl:d.Kept.length=n
  nl:d.Now.length=n
  ks:∀s∈d.Kept,s.size=48
  ns:∀s∈d.Now,s.size=48
  wl:d.Wait.length<=m
  Ja:∀t∈d.Wait,0<=t.At/\t.At<(n:Int)/\t.Data.size=48
  f0 : -1<=d.Fuse
  f1:d.Fuse<=9223372036854775807
section
variable {n m:Nat} {d:bZ}
theorem BZ (n:Nat):fx n 0 (dNew n):=⟨by simp [dNew],by simp [dNew],fun s hs=>by
 rw [(List.mem_replicate.1 hs).2,xY],fun s hs=>by rw [(List.mem_replicate.1 hs).2,xY],Nat.le_refl _,fun t ht=>(by cases ht),(by show (-1:Int) <= -1;decide),(by show (-1:Int)<=9223372036854775807;decide)⟩
theorem fx.up (h:fx n m d){k:Nat}(hk:m<=k):fx n k d:=⟨h.kl,h.nl,h.ks,h.ns,Nat.le_trans h.wl hk,h.Ja,h.f0,h.f1⟩
theorem xZ (h:d.Down=true):bE d=(⟨d.Kept,d.Now,d.Wait,d.Fuse,true⟩,10):=by unfold bE;rw [if_pos h];cases d;grind
theorem sq (h:d.Down=false)(f:d.Fuse=0):bE d=(⟨d.Kept,d.Now,d.Wait,-1,true⟩,10):=by simp_all [bE,if_neg,if_pos]
theorem tK (h:d.Down=false)(f:¬ d.Fuse=0):bE d=(⟨d.Kept,d.Now,d.Wait,max (d.Fuse-1) (-1),false⟩,0):=by simp_all [bE,if_neg]
theorem ya {i:Int}(h:d.Down=true):cC d i=(⟨#[]⟩,10):=by simp_all [cC,if_pos]
theorem qP {i:Int}(h:d.Down=false)(hi:i<0∨(d.Now.length:Int)<=i):cC d i=(⟨#[]⟩,1):=by simp_all [cC,if_neg,if_pos]
theorem qf {i:Int}{x:ByteArray}(h:d.Down=false)(hi:0<=i)(hx:d.Now[i.toNat]? = some x):cC d i=(x,0):=by
 have:=(List.getElem?_eq_some_iff.1 hx).1
 simp_all [cC,if_neg]
theorem ma {i:Int}{x:ByteArray}(hi:i<0∨(d.Now.length:Int)<=i∨48<x.size):aP d i x=(d,1):=by simp_all [aP,if_pos]
theorem yb {i:Int}{x:ByteArray}(h0:0<=i)(h1:i<(d.Now.length:Int))(h2:x.size<=48)(h:¬ (bE d).2=0):aP d i x=bE d:=by simp_all [aP,if_neg]
theorem gR {i:Int}{x:ByteArray}(h0:0<=i)(h1:i<(d.Now.length:Int))(h2:x.size<=48)(h:(bE d).2=0) :
 aP d i x=(⟨(bE d).1.Kept,(bE d).1.Now.set i.toNat (full x),(bE d).1.Wait++[⟨i,full x⟩],(bE d).1.Fuse,(bE d).1.Down⟩,0):=by simp_all [aP,if_neg,if_pos]
theorem mY (d:bZ):(bE d).1.Kept=d.Kept/\(bE d).1.Now=d.Now/\(bE d).1.Wait=d.Wait:=by
 unfold bE;grind
theorem fx.step (h:fx n m d):fx n m (bE d).1:=by
 obtain ⟨e1,e2,e3⟩:=mY d
 have f0:=h.f0;have f1:=h.f1
 refine ⟨by rw [e1];exact h.kl,by rw [e2];exact h.nl,by rw [e1];exact h.ks,by rw [e2];exact h.ns,by rw [e3];exact h.wl,by rw [e3];exact h.Ja,?_,?_⟩ <;>
  (grind [bE])
theorem H6 {l:List ByteArray}(h:∀s∈l,s.size=48){i:Nat}{x:ByteArray}(hx:x.size=48):∀s∈l.set i x,s.size=48:=fun s hs=>by
 grind
theorem fx.write (h:fx n m d)(i:Int)(s:ByteArray):fx n (m+1) (aP d i s).1:=by
 unfold aP
 split
 .exact h.up (Nat.le_succ m)
 rename_i hb
 split
 .
  have hs:=h.step
  have hf:=Jq (s:=s) ae
  have e:=(mY d).2.1
  have nl:=h.nl
  refine ⟨hs.kl,au,hs.ks,H6 hs.ns hf,by dsimp only;rw [List.length_append,List.length_singleton];have:=hs.wl;omega,fun t ht=>?_,hs.f0,hs.f1⟩
  rcases List.mem_append.1 ht with ht|ht
  .exact hs.Ja t ht
  grind
 exact h.step.up (Nat.le_succ m)
theorem fx.flush (h:fx n m d):fx n m (aN d).1:=by
 unfold aN
 have hs:=h.step
 split
 .exact ⟨hs.nl,hs.nl,hs.ns,hs.ns,Nat.zero_le _,fun t ht=>au,hs.f0,hs.f1⟩
 omega
theorem LF (k:Int):∀ (w:List Turn) (j:Nat) (l:List ByteArray),(∀s∈l,s.size=48)->(∀t∈w,t.Data.size=48)->(((w.zipIdx j).foldl (oN k) l).length=l.length /\ ∀s∈(w.zipIdx j).foldl (oN k) l,s.size=48)
 | [],j,l,h,hw=>⟨rfl,h⟩
 | t::w,j,l,h,hw=>by
  rw [List.zipIdx_cons,List.foldl_cons]
  have h1:(oN k l (t,j)).length=l.length:=by unfold oN;split <;> simp
  have h2:∀s∈oN k l (t,j),s.size=48:=by
   unfold oN;split
   .exact H6 h (hw t (List.mem_cons_self ..))
   exact h
  obtain ⟨a,b⟩:=LF k w (j+1) _ h2 (fun t ht=>hw t (List.mem_cons_of_mem _ ht))
  exact ⟨a.trans h1,b⟩
theorem En {k:Int}{w:List Turn}{l:List ByteArray}:(nO k w l).length=l.length:=by
 unfold nO
 generalize w.zipIdx=z
 induction z generalizing l with
 | nil=>rfl
 | cons p z ih=>grind [oN]
theorem fx.restart (h:fx n m d)(k:Int):fx n 0 (gH d k):=by
 obtain ⟨a,b⟩:=LF k d.Wait 0 d.Kept h.ks (fun t ht=>(h.Ja t ht).2.2)
 exact ⟨a.trans h.kl,a.trans h.kl,b,b,Nat.le_refl _,fun t ht=>(by cases ht),(by show (-1:Int) <= -1;decide),(by show (-1:Int)<=9223372036854775807;decide)⟩
theorem fx.fine (h:fx n m d)(hn:n<=100000)(hm:m<=100000):d.Kept.length=d.Now.length/\d.Now.length<=100000/\d.Wait.length<=100000 /\ -1<=d.Fuse/\d.Fuse<=9223372036854775807:=by
 have h1:=h.kl;have h2:=h.nl;have h3:=h.wl;have h4:=h.f0;have h5:=h.f1
 omega
theorem oO (hd:d.Down=false)(hf:d.Fuse = -1):bE d=(⟨d.Kept,d.Now,d.Wait,-1,false⟩,0):=by grind [tK]
theorem Eo {i:Int}{x:ByteArray}(hd:d.Down=false)(hf:d.Fuse = -1)(h:¬ (aP d i x).2=0):(aP d i x).1=d:=by
 grind [ma,gR,oO]
theorem Gg {i:Int}{x:ByteArray}(hd:d.Down=false)(hf:d.Fuse = -1)(h:(aP d i x).2=0):aP d i x=(⟨d.Kept,d.Now.set i.toNat (full x),d.Wait++[⟨i,full x⟩],-1,false⟩,0)/\0<=i/\i<(d.Now.length:Int)/\x.size<=48:=by
 grind [ma,gR,oO]
theorem Ep {i:Int}{x:ByteArray}(hd:d.Down=false)(hf:d.Fuse = -1):(aP d i x).1.Down=false/\(aP d i x).1.Fuse = -1:=by
 grind [Gg,Eo]
theorem kV (hd:d.Down=false)(hf:d.Fuse = -1):aN d=(⟨d.Now,d.Now,[],-1,false⟩,0):=by
 unfold aN;rw [oO hd hf,if_pos rfl]
theorem yc {i:Nat}{x:ByteArray}(hd:d.Down=false)(hx:d.Now[i]? = some x):cC d (i:Int)=(x,0):=qf hd ae au
end
end
section
open Go Go.RowKit
def u8 (n:Int):UInt8:=UInt8.ofNat n.toNat
theorem yd {n:Int}(h:0<=n/\n<=255):(((u8 n).toNat:Nat):Int)=n:=by
 grind [u8,UInt8.toNat_ofNat']
theorem Jr {n:Nat}(h:n<=255):(UInt8.ofNat n).toNat=n:=by
 grind [UInt8.toNat_ofNat']
theorem eR {n:Int}(h:0<=n/\n<=255):(Value.int .u8 n).cells.toList=Enc.cells (u8 n):=by
 show [Value.int .u8 n]=[Value.int .u8 (((u8 n).toNat:Nat):Int)]
 rw [yd h]
theorem dy {n:Nat}(h:n<=255):(Value.int .u8 ((n:Nat):Int)).cells.toList=Enc.cells (UInt8.ofNat n):=by
 show [Value.int .u8 (n:Int)]=[Value.int .u8 (((UInt8.ofNat n).toNat:Nat):Int)]
 rw [Jr h]
theorem da (l:List UInt8):(⟨l.toArray⟩:ByteArray).size=l.length:=eF
section
variable {α:Type} [Enc α]
theorem eM:([]:List Value).map (fun v=>v.cells.toList)=([]:List α).map Enc.cells:=rfl
theorem bO {v:Value}{x:α}{vs:List Value}{l:List α}(h:v.cells.toList=Enc.cells x)(hs:vs.map (fun v=>v.cells.toList)=l.map Enc.cells) :
 (v::vs).map (fun v=>v.cells.toList)=(x::l).map Enc.cells:=by
 grind
end
end
end Go.Proofs.YtnmpibjlnninjaaGreatDoor
