import Derived.Test.YtkbhcbipadkcaaaGreatDoorTO13
import Derived.Lib.Bytealg
import Derived.Sort.Walk0
namespace Go.Proofs.YtkbhcbipadkcaaaGreatDoor
set_option linter.unusedVariables false
set_option linter.unusedSimpArgs false
section
open Go
theorem m4 (a:ByteArray):a.toList=a.data.toList:=Lib.toList_data a
theorem gP {a b:ByteArray}(h:a.data.toList=b.data.toList):a=b:=by
 cases a with|mk x=>cases b with|mk y=>congr;exact Array.toList_inj.1 h
theorem lp (a b:ByteArray):jA a b=true↔a.data.toList<b.data.toList:=by
 unfold jA;rw [Proofs.bytesLess_eq,m4,m4];exact decide_eq_true_iff
theorem e9 (a:ByteArray):jA a a=false:=by
 rw [Bool.eq_false_iff];intro h;exact List.lt_irrefl _ ((lp a a).1 h)
theorem l8 {a b c:ByteArray}(h:jA a b=true)(k:jA b c=true):jA a c=true:=(lp _ _).2 (List.lt_trans ((lp _ _).1 h) ((lp _ _).1 k))
theorem tQ {a b:ByteArray}(h:jA a b=true):jA b a=false:=by
 rw [Bool.eq_false_iff];intro k;have:=l8 h k;rw [e9] at this;cases this
theorem CH:∀ (x y:List UInt8),x<y∨x=y∨y<x
 | [],[] => .inr (.inl rfl)
 | [],_::_ => .inl (List.Lex.nil)
 | _::_,[] => .inr (.inr (List.Lex.nil))
 | a::x,b::y=>by
  rcases Nat.lt_trichotomy a.toNat b.toNat with h|h|h
  .exact .inl (List.Lex.rel (UInt8.lt_iff_toNat_lt.2 h))
  .
   have e:a=b:=UInt8.toNat_inj.1 h
   subst e
   rcases CH x y with h|h|h
   .exact .inl (List.Lex.cons h)
   .exact .inr (.inl (by rw [h]))
   .exact .inr (.inr (List.Lex.cons h))
  .exact .inr (.inr (List.Lex.rel (UInt8.lt_iff_toNat_lt.2 h)))
theorem sT (a b:ByteArray):jA a b=true∨a=b∨jA b a=true:=by
 rcases CH a.data.toList b.data.toList with h|h|h
 .exact .inl ((lp _ _).2 h)
 .exact .inr (.inl (gP h))
 .exact .inr (.inr ((lp _ _).2 h))
theorem PL {a b:ByteArray}(h:jA a b=false)(hn:a≠b):jA b a=true:=by
 rcases sT a b with k|k|k
 .rw [h] at k;cases k
 .exact absurd k hn
 .exact k
def AR (a b:ByteArray):Int:=if jA a b=true then -1 else if a=b then 0 else 1
theorem CJ:∀ (x y:List UInt8),Lib.compareBytes x y=if x<y then -1 else if x=y then 0 else 1
 | [],[]=>rfl
 | [],b::y=>by rw [if_pos (show ([]:List UInt8)<b::y from List.Lex.nil)];rfl
 | a::x,[]=>by rw [if_neg (show ¬ (a::x)<[] from List.not_lt_nil _),if_neg (by simp)];rfl
 | a::x,b::y=>by
  unfold Lib.compareBytes
  rw [CJ x y]
  by_cases h:a<b
  .rw [if_pos h,if_pos (show a::x<b::y from List.Lex.rel h)]
  .
   rw [if_neg h]
   by_cases k:b<a
   .
    have hne:¬ a=b:=fun e=>by subst e;exact UInt8.lt_irrefl _ k
    rw [if_pos k,if_neg (fun hh=>by
     cases hh with
     | rel hh=>exact h hh
     | cons _=>exact hne rfl),if_neg (by simp [hne])]
   .
    have e:a=b:=UInt8.toNat_inj.1 (by have h1:=(not_congr UInt8.lt_iff_toNat_lt).1 h;have h2:=(not_congr UInt8.lt_iff_toNat_lt).1 k;omega)
    subst e
    rw [if_neg k]
    have hc:(a::x<a::y)=(x<y):=propext ⟨fun hh=>by
     cases hh with
     | rel hh=>exact absurd hh h
     | cons hh=>exact hh,fun hh=>List.Lex.cons hh⟩
    simp only [hc,List.cons.injEq,true_and]
theorem F7 (a b:ByteArray):Lib.compareBytes a.toList b.toList=AR a b:=by
 rw [CJ,m4,m4];unfold AR
 have e:(a.data.toList=b.data.toList)=(a=b):=propext ⟨gP,fun h=>by rw [h]⟩
 by_cases h:jA a b=true
 .rw [if_pos ((lp _ _).1 h),if_pos h]
 .rw [if_neg (fun k=>h ((lp _ _).2 k)),if_neg h];simp only [e]
theorem zr {a b:ByteArray}:AR a b=0↔a=b:=by
 unfold AR
 by_cases h:jA a b=true
 .
  rw [if_pos h];constructor
  .intro k;cases k
  .intro k;subst k;rw [e9] at h;cases h
 .
  rw [if_neg h];by_cases k:a=b
  .rw [if_pos k];simp [k]
  .rw [if_neg k];simp [k]
theorem wS {a b:ByteArray}:AR a b<0↔jA a b=true:=by
 unfold AR
 by_cases h:jA a b=true
 .rw [if_pos h];simp [h]
 .
  rw [if_neg h];by_cases k:a=b
  .rw [if_pos k];simp [h]
  .rw [if_neg k];simp [h]
end
section
open Go
def c0:Change:=⟨⟨#[]⟩,⟨#[]⟩,false⟩
def iI (c:Change):Int :=
  if c.Key=⟨#[]⟩∨(c.Gone=true/\¬ c.Val=⟨#[]⟩) then 3 else if 8<c.Key.size∨24<c.Val.size then 2 else 0
theorem br (c:Change):iI c=0∨iI c=2∨iI c=3:=by unfold iI;(repeat' split) <;> simp
theorem g9 {c:Change}(h:iI c=0):c.Key≠⟨#[]⟩/\(c.Gone=true->c.Val=⟨#[]⟩)/\c.Key.size<=8/\c.Val.size<=24:=by
 unfold iI at h
 split at h
 .cases h
 .
  split at h
  .cases h
  .
   rename_i h1 h2
   exact ⟨fun e=>h1 (.inl e),fun g=>Classical.byContradiction fun e=>h1 (.inr ⟨g,e⟩),by omega,by omega⟩
theorem JK {c:Change}(h1:c.Key≠⟨#[]⟩)(h2:c.Gone=true->c.Val=⟨#[]⟩)(h3:c.Key.size<=8)(h4:c.Val.size<=24):iI c=0:=by
 unfold iI
 rw [if_neg (fun h=>h.elim h1 (fun h=>h.2 (h2 h.1))),if_neg (by omega)]
def zt (b:Bool):UInt8:=if b=true then 1 else 0
def ke (c:Change):ByteArray×Int :=
  if iI c=0 then (⟨#[zt c.Gone,UInt8.ofNat c.Key.size]⟩++c.Key++c.Val,0) else (⟨#[]⟩,iI c)
def bf (s:ByteArray)(i:Nat):Nat:=((s.data[i]?).getD 0).toNat
theorem aK {s:ByteArray}{i:Nat}{x:UInt8}(h:s.data[i]? = some x):bf s i=x.toNat:=by unfold bf;rw [h];rfl
theorem qH (s:ByteArray)(i:Nat):bf s i<256:=by unfold bf;exact UInt8.toNat_lt _
def JL (s:ByteArray):Change:=⟨s.extract 2 (2+bf s 1),s.extract (2+bf s 1) s.size,decide (bf s 0=1)⟩
def rU (s:ByteArray):Change×Int :=
  if s.size<2∨1<bf s 0∨s.size<2+bf s 1 then (c0,4) else if iI (JL s)=0 then (JL s,0) else (c0,4)
abbrev bl (s:ByteArray):List UInt8:=s.data.toList
theorem ez (s:ByteArray):(bl s).length=s.size:=Array.length_toList
theorem iN (a b:ByteArray):bl (a++b)=bl a++bl b:=by simp [bl,ByteArray.data_append]
theorem jf (s:ByteArray)(i j:Nat):bl (s.extract i j)=((bl s).take j).drop i:=by
 simp only [bl,ByteArray.data_extract,Array.toList_extract,List.extract_eq_take_drop]
 rw [List.drop_take]
theorem hG (s:ByteArray)(i:Nat):bf s i=(((bl s)[i]?).getD 0).toNat:=by simp [bf,bl]
theorem JM {s:ByteArray}(h:s.size=0):s=⟨#[]⟩:=gP (by rw [List.eq_nil_of_length_eq_zero (l:=s.data.toList) (by rw [Array.length_toList];exact h)])
theorem nU {n:Nat}(h:n<256):(UInt8.ofNat n).toNat=n:=by rw [UInt8.toNat_ofNat'];omega
theorem JN {c:Change}(h:iI c=0):bl (ke c).1=zt c.Gone::UInt8.ofNat c.Key.size::(bl c.Key++bl c.Val):=by
 unfold ke;rw [if_pos h];simp only [iN];simp [bl]
theorem lA {c:Change}(h:iI c=0):(ke c).1.size=2+c.Key.size+c.Val.size:=by
 rw [<- ez,JN h];simp only [List.length_cons,List.length_append,ez];omega
theorem F8 {c:Change}(h:iI c=0):rU (ke c).1=(c,0):=by
 obtain ⟨h1,h2,h3,h4⟩:=g9 h
 have hb:=JN h
 have hs:=lA h
 have b0:bf (ke c).1 0=(zt c.Gone).toNat:=by rw [hG,hb];rfl
 have b1:bf (ke c).1 1=c.Key.size:=by rw [hG,hb];exact nU (by omega)
 have g:(zt c.Gone).toNat=1/\c.Gone=true∨(zt c.Gone).toNat=0/\c.Gone=false:=by cases c.Gone <;> simp [zt]
 have hof:JL (ke c).1=c:=by
  unfold JL
  rw [b0,b1]
  have e1:(ke c).1.extract 2 (2+c.Key.size)=c.Key:=gP (by
   have:=jf (ke c).1 2 (2+c.Key.size)
   rw [hb] at this
   refine this.trans ?_
   rw [show 2+c.Key.size=c.Key.size+1+1 by omega,List.take_succ_cons,List.take_succ_cons,List.drop_succ_cons,List.drop_succ_cons,List.drop_zero,<- ez c.Key,List.take_left])
  have e2:(ke c).1.extract (2+c.Key.size) (ke c).1.size=c.Val:=gP (by
   have:=jf (ke c).1 (2+c.Key.size) (ke c).1.size
   rw [hb] at this
   refine this.trans ?_
   rw [List.take_of_length_le (by simp only [List.length_cons,List.length_append,ez];omega),show 2+c.Key.size=c.Key.size+1+1 by omega,List.drop_succ_cons,List.drop_succ_cons,<- ez c.Key,List.drop_left])
  rw [e1,e2]
  rcases g with ⟨g1,g2⟩ | ⟨g1,g2⟩ <;> (rw [g1];cases c;simp_all)
 unfold rU
 rw [if_neg (by omega),hof,if_pos h]
def fK (k:ByteArray)(x:Change):Int:=AR x.Key k
def zu (rows:List Change)(c:Change):List Change :=
  if lG (fK c.Key) rows=true then (if c.Gone=true then rows.take (jF (fK c.Key) rows)++rows.drop (jF (fK c.Key) rows+1) else rows.set (jF (fK c.Key) rows) c)
  else if c.Gone=true then rows else rows.take (jF (fK c.Key) rows)++[c]++rows.drop (jF (fK c.Key) rows)
def bW (rows l:List Change):List Change:=l.foldl zu rows
theorem oH {rows l:List Change}{k:Nat}{c:Change}(h:l[k]? = some c):bW rows (l.take (k+1))=zu (bW rows (l.take k)) c:=by
 unfold bW;rw [List.take_add_one,h];simp
theorem Mg (rows:List Change)(c:Change):(zu rows c).length<=rows.length+1:=by
 unfold zu;(repeat' split) <;> simp <;> omega
theorem kU:∀ (l rows:List Change),(bW rows l).length<=rows.length+l.length
 | [],rows=>by simp [bW]
 | c::l,rows=>by
  have h1:=kU l (zu rows c)
  have h2:=Mg rows c
  show (bW (zu rows c) l).length<=_
  rw [List.length_cons];omega
def dq (l:List Change):Prop:=l.Pairwise (fun a b=>jA a.Key b.Key=true)
inductive Cut (l:List Change)(k:ByteArray):Prop where
  | hit (A B:List Change) (x:Change) (e:l=A++x::B) (hx:x.Key=k) (ha:∀y∈A,jA y.Key k=true) (hb:∀y∈B,jA k y.Key=true)
  | miss (A B:List Change) (e:l=A++B) (ha:∀y∈A,jA y.Key k=true) (hb:∀y∈B,jA k y.Key=true)
theorem dq.cut:∀ {l:List Change} (h:dq l) (k:ByteArray),Cut l k
 | [],h,k => .miss [] [] rfl (fun y hy=>by cases hy) (fun y hy=>by cases hy)
 | x::l,h,k=>by
  obtain ⟨h1,h2⟩:=List.pairwise_cons.1 h
  rcases sT x.Key k with hl|hl|hl
  .
   rcases dq.cut h2 k with ⟨A,B,y,e,hy,ha,hb⟩ | ⟨A,B,e,ha,hb⟩
   .exact .hit (x::A) B y (by rw [e];rfl) hy (fun z hz=>by rcases List.mem_cons.1 hz with r|r;exact r▸hl;exact ha z r) hb
   .exact .miss (x::A) B (by rw [e];rfl) (fun z hz=>by rcases List.mem_cons.1 hz with r|r;exact r▸hl;exact ha z r) hb
  .subst hl;exact .hit [] l x rfl rfl (fun y hy=>by cases hy) h1
  .exact .miss [] (x::l) rfl (fun y hy=>by cases hy) (fun z hz=>by rcases List.mem_cons.1 hz with r|r;exact r▸hl;exact l8 hl (h1 z r))
theorem N4 {f:Change->Int}{A R:List Change}(ha:∀y∈A,f y<0)(hr:∀y∈R,¬ f y<0):jF f (A++R)=A.length:=by
 have hm:∀ (i j:Nat) x y,i<=j->(A++R)[i]? = some x->(A++R)[j]? = some y->f y<0->f x<0:=fun i j x y hij hx hy hf=>by
  by_cases hj:j<A.length
  .rw [List.getElem?_append_left (by omega)] at hx;exact ha x (List.mem_of_getElem? hx)
  .rw [List.getElem?_append_right (by omega)] at hy;exact absurd hf (hr y (List.mem_of_getElem? hy))
 obtain ⟨h1,h2⟩:=CC hm
 rcases Nat.lt_trichotomy (jF f (A++R)) A.length with h|h|h
 .
  have hg:=List.getElem?_eq_getElem h
  exact absurd (ha _ (List.mem_of_getElem? hg)) (h2 (jF f (A++R)) _ (Nat.le_refl _) (by rw [List.getElem?_append_left h];exact hg))
 .exact h
 .
  have hle:jF f (A++R)<=(A++R).length:=pW
  have hlt:A.length<(A++R).length:=by omega
  have hg:=List.getElem?_eq_getElem hlt
  have:=h1 A.length _ h hg
  rw [List.getElem?_append_right (Nat.le_refl _)] at hg
  exact absurd this (hr _ (List.mem_of_getElem? hg))
theorem AU {k:ByteArray}{x:Change}:fK k x<0↔jA x.Key k=true:=wS
theorem EJ {k:ByteArray}{x:Change}(h:jA k x.Key=true):¬ fK k x<0/\fK k x≠0:=by
 refine ⟨fun hh=>?_,fun hh=>?_⟩
 .have:=tQ (AU.1 hh);rw [h] at this;cases this
 .have e:=zr.1 hh;rw [e,e9] at h;cases h
def mid (c:Change):List Change:=if c.Gone=true then [] else [c]
theorem EK {A B:List Change}{x:Change}{k:ByteArray}(hx:x.Key=k)(ha:∀y∈A,jA y.Key k=true)(hb:∀y∈B,jA k y.Key=true):jF (fK k) (A++x::B)=A.length/\lG (fK k) (A++x::B)=true:=by
 have e:jF (fK k) (A++x::B)=A.length:=N4 (fun y hy=>AU.2 (ha y hy)) (fun y hy=>by
  rcases List.mem_cons.1 hy with r|r
  .subst r;intro hh;have:=AU.1 hh;rw [hx,e9] at this;cases this
  .exact (EJ (hb y r)).1)
 refine ⟨e,?_⟩
 unfold lG;rw [e,List.getElem?_append_right (Nat.le_refl _),Nat.sub_self]
 exact decide_eq_true (zr.2 hx)
theorem F9 {A B:List Change}{k:ByteArray}(ha:∀y∈A,jA y.Key k=true)(hb:∀y∈B,jA k y.Key=true):jF (fK k) (A++B)=A.length/\lG (fK k) (A++B)=false:=by
 have e:jF (fK k) (A++B)=A.length:=N4 (fun y hy=>AU.2 (ha y hy)) (fun y hy=>(EJ (hb y hy)).1)
 refine ⟨e,?_⟩
 unfold lG;rw [e,List.getElem?_append_right (Nat.le_refl _),Nat.sub_self]
 cases B with
 | nil=>rfl
 | cons y B=>exact decide_eq_false (EJ (hb y (List.mem_cons_self ..))).2
theorem Mh {A B:List Change}{x c:Change}(hx:x.Key=c.Key)(ha:∀y∈A,jA y.Key c.Key=true)(hb:∀y∈B,jA c.Key y.Key=true):zu (A++x::B) c=A++mid c++B:=by
 obtain ⟨e1,e2⟩:=EK hx ha hb
 unfold zu mid
 rw [if_pos e2,e1]
 split
 .rw [List.take_left,show A++x::B=(A++[x])++B by simp,show A.length+1=(A++[x]).length by simp,List.drop_left];simp
 .rw [List.set_append_right _ _ (Nat.le_refl _),Nat.sub_self];simp
theorem CK {A B:List Change}{c:Change}(ha:∀y∈A,jA y.Key c.Key=true)(hb:∀y∈B,jA c.Key y.Key=true):zu (A++B) c=A++mid c++B:=by
 obtain ⟨e1,e2⟩:=F9 ha hb
 unfold zu mid
 rw [if_neg (by rw [e2];simp),e1]
 split
 .simp
 .rw [List.take_left,List.drop_left]
theorem Ga {l:List Change}(h:dq l)(c:Change):∃A B,zu l c=A++mid c++B/\(∀y∈A,jA y.Key c.Key=true)/\(∀y∈B,jA c.Key y.Key=true)/\dq (A++B) /\ ∀y,y∈A++B↔y∈l/\y.Key≠c.Key:=by
 have hlt:∀ {y:Change},jA y.Key c.Key=true->y.Key≠c.Key:=fun h e=>by rw [e,e9] at h;cases h
 have hgt:∀ {y:Change},jA c.Key y.Key=true->y.Key≠c.Key:=fun h e=>by rw [e,e9] at h;cases h
 rcases h.cut c.Key with ⟨A,B,x,rfl,hx,ha,hb⟩ | ⟨A,B,rfl,ha,hb⟩
 .
  refine ⟨A,B,Mh hx ha hb,ha,hb,?_,fun y=>?_⟩
  .
   obtain ⟨h1,h2,h3⟩:=List.pairwise_append.1 h
   exact List.pairwise_append.2 ⟨h1,(List.pairwise_cons.1 h2).2,fun a ha b hb=>h3 a ha b (List.mem_cons_of_mem _ hb)⟩
  .
   simp only [List.mem_append,List.mem_cons]
   constructor
   .
    rintro (h|h)
    .exact ⟨.inl h,hlt (ha y h)⟩
    .exact ⟨.inr (.inr h),hgt (hb y h)⟩
   .
    rintro ⟨h|h|h,k⟩
    .exact .inl h
    .subst h;exact absurd hx k
    .exact .inr h
 .
  refine ⟨A,B,CK ha hb,ha,hb,h,fun y=>⟨fun hy=>⟨hy,?_⟩,And.left⟩⟩
  rcases List.mem_append.1 hy with h|h
  .exact hlt (ha y h)
  .exact hgt (hb y h)
theorem wT {l:List Change}(h:dq l)(c:Change):dq (zu l c):=by
 obtain ⟨A,B,e,ha,hb,hr,_⟩:=Ga h c
 rw [e]
 obtain ⟨h1,h2,h3⟩:=List.pairwise_append.1 hr
 unfold mid
 split
 .rw [List.append_nil];exact hr
 .exact List.pairwise_append.2 ⟨List.pairwise_append.2 ⟨h1,List.pairwise_singleton _ _,fun a T0 b hbb=>by rw [List.mem_singleton.1 hbb];exact ha a T0⟩,h2,fun a T0 b hbb=>by
   rcases List.mem_append.1 T0 with q|q
   .exact h3 a q b hbb
   .rw [List.mem_singleton.1 q];exact hb b hbb⟩
theorem Gb {l:List Change}(h:dq l){c y:Change}:y∈zu l c↔(y∈l/\y.Key≠c.Key)∨(c.Gone=false/\y=c):=by
 obtain ⟨A,B,e,ha,hb,hr,hm⟩:=Ga h c
 rw [e,<- hm y]
 simp only [List.mem_append,mid]
 cases c.Gone
 .
  rw [if_neg (by decide)]
  simp only [List.mem_singleton,true_and]
  constructor
  .
   rintro ((h|h)|h)
   .exact .inl (.inl h)
   .exact .inr h
   .exact .inl (.inr h)
  .
   rintro ((h|h)|h)
   .exact .inl (.inl h)
   .exact .inr h
   .exact .inl (.inr h)
 .
  rw [if_pos rfl]
  simp
theorem rV:∀ (l:List Change) {rows:List Change},dq rows->dq (bW rows l)
 | [],rows,h=>h
 | c::l,rows,h=>rV l (wT h c)
theorem tT:∀ (a b:List Change),dq a->dq b->(∀x,x∈a↔x∈b)->a=b
 | [],[],_,_,_=>rfl
 | [],y::b,_,_,h=>absurd ((h y).2 (List.mem_cons_self ..)) (by simp)
 | x::a,[],_,_,h=>absurd ((h x).1 (List.mem_cons_self ..)) (by simp)
 | x::a,y::b,ha,hb,h=>by
  obtain ⟨a1,a2⟩:=List.pairwise_cons.1 ha
  obtain ⟨b1,b2⟩:=List.pairwise_cons.1 hb
  have no:∀ {u v:Change},jA u.Key v.Key=true->jA v.Key u.Key=true->False:=fun h k=>by
   have:=tQ h;rw [k] at this;cases this
  have hxy:x=y:=by
   rcases List.mem_cons.1 ((h x).1 (List.mem_cons_self ..)) with e|e
   .exact e
   .
    rcases List.mem_cons.1 ((h y).2 (List.mem_cons_self ..)) with e2|e2
    .exact e2.symm
    .exact (no (b1 x e) (a1 y e2)).elim
  subst hxy
  congr 1
  refine tT a b a2 b2 fun z=>⟨fun hz=>?_,fun hz=>?_⟩
  .
   rcases List.mem_cons.1 ((h z).1 (List.mem_cons_of_mem _ hz)) with e|e
   .subst e;have:=a1 z hz;rw [e9] at this;cases this
   .exact e
  .
   rcases List.mem_cons.1 ((h z).2 (List.mem_cons_of_mem _ hz)) with e|e
   .subst e;have:=b1 z hz;rw [e9] at this;cases this
   .exact e
end
end Go.Proofs.YtkbhcbipadkcaaaGreatDoor
