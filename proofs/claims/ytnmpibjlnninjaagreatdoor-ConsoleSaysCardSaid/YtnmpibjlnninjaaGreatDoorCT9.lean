import Derived.Test.YtnmpibjlnninjaaGreatDoorCT8
import Derived.Lib.Atoi
import Derived.Lib.ItoaNum
import Derived.Lib.Repeat
namespace Go.Proofs.YtnmpibjlnninjaaGreatDoor
set_option linter.unusedVariables false
set_option linter.unusedSimpArgs false
set_option maxRecDepth 100000
set_option maxHeartbeats 90000000
section
open Go
def c0:Change:=⟨⟨#[]⟩,⟨#[]⟩,false⟩
def iT (c:Change):Int :=
  if c.Key=⟨#[]⟩∨(c.Gone=true/\¬ c.Val=⟨#[]⟩) then 3 else if 8<c.Key.size∨24<c.Val.size then 2 else 0
theorem ku (c:Change):iT c=0∨iT c=2∨iT c=3:=by grind [iT]
theorem iM {c:Change}(h:iT c=0):c.Key≠⟨#[]⟩/\(c.Gone=true->c.Val=⟨#[]⟩)/\c.Key.size<=8/\c.Val.size<=24:=by
 unfold iT at h
 grind
theorem N2 {c:Change}(h1:c.Key≠⟨#[]⟩)(h2:c.Gone=true->c.Val=⟨#[]⟩)(h3:c.Key.size<=8)(h4:c.Val.size<=24):iT c=0:=by
 simp_all [iT,if_neg]
def CX (b:Bool):UInt8:=if b=true then 1 else 0
def lI (c:Change):ByteArray×Int :=
  if iT c=0 then (⟨#[CX c.Gone,UInt8.ofNat c.Key.size]⟩++c.Key++c.Val,0) else (⟨#[]⟩,iT c)
def bC (s:ByteArray)(i:Nat):Nat:=((s.data[i]?).getD 0).toNat
theorem aK {s:ByteArray}{i:Nat}{x:UInt8}(h:s.data[i]? = some x):bC s i=x.toNat:=by grind [bC]
theorem LH (s:ByteArray)(i:Nat):bC s i<256:=by grind [bC,UInt8.toNat_lt]
def N3 (s:ByteArray):Change:=⟨s.extract 2 (2+bC s 1),s.extract (2+bC s 1) s.size,decide (bC s 0=1)⟩
def uJ (s:ByteArray):Change×Int :=
  if s.size<2∨1<bC s 0∨s.size<2+bC s 1 then (c0,4) else if iT (N3 s)=0 then (N3 s,0) else (c0,4)
abbrev bl (s:ByteArray):List UInt8:=s.data.toList
theorem iZ (s:ByteArray):(bl s).length=s.size:=Array.length_toList
theorem kF (a b:ByteArray):bl (a++b)=bl a++bl b:=eH
theorem qz (s:ByteArray)(i j:Nat):bl (s.extract i j)=((bl s).take j).drop i:=by
 grind [ByteArray.data_extract,Array.toList_extract,List.extract_eq_take_drop,List.drop_take]
theorem k9 (s:ByteArray)(i:Nat):bC s i=(((bl s)[i]?).getD 0).toNat:=by simp [bC,bl]
theorem N4 {s:ByteArray}(h:s.size=0):s=⟨#[]⟩:=fY uY
theorem sj {n:Nat}(h:n<256):(UInt8.ofNat n).toNat=n:=uY
theorem N5 {c:Change}(h:iT c=0):bl (lI c).1=CX c.Gone::UInt8.ofNat c.Key.size::(bl c.Key++bl c.Val):=by
 simp_all [lI,bl,if_pos,kF]
theorem mD {c:Change}(h:iT c=0):(lI c).1.size=2+c.Key.size+c.Val.size:=by
 grind [iZ,N5,List.length_cons,List.length_append]
theorem Kl {c:Change}(h:iT c=0):uJ (lI c).1=(c,0):=by
 obtain ⟨h1,h2,h3,h4⟩:=iM h
 have hb:=N5 h
 have hs:=mD h
 have b0:bC (lI c).1 0=(CX c.Gone).toNat:=by grind [k9]
 have b1:bC (lI c).1 1=c.Key.size:=by grind [k9,sj]
 have g:(CX c.Gone).toNat=1/\c.Gone=true∨(CX c.Gone).toNat=0/\c.Gone=false:=by cases c.Gone <;> simp [CX]
 have hof:N3 (lI c).1=c:=by
  unfold N3
  rw [b0,b1]
  have e1:(lI c).1.extract 2 (2+c.Key.size)=c.Key:=fY (by
   simp_all)
  have e2:(lI c).1.extract (2+c.Key.size) (lI c).1.size=c.Val:=fY (by
   grind [lI,qz,List.take_of_length_le,List.length_cons,List.length_append,iZ,List.drop_left])
  rw [e1,e2]
  rcases g with ⟨g1,g2⟩ | ⟨g1,g2⟩ <;> (rw [g1];cases c;grind)
 unfold uJ
 grind
def fK (k:ByteArray)(x:Change):Int:=Ex x.Key k
def BU (rows:List Change)(c:Change):List Change :=
  if rk (fK c.Key) rows=true then (if c.Gone=true then rows.take (kS (fK c.Key) rows)++rows.drop (kS (fK c.Key) rows+1) else rows.set (kS (fK c.Key) rows) c)
  else if c.Gone=true then rows else rows.take (kS (fK c.Key) rows)++[c]++rows.drop (kS (fK c.Key) rows)
def bX (rows l:List Change):List Change:=l.foldl BU rows
theorem qB {rows l:List Change}{k:Nat}{c:Change}(h:l[k]? = some c):bX rows (l.take (k+1))=BU (bX rows (l.take k)) c:=by
 grind [bX,List.take_add_one]
theorem RR (rows:List Change)(c:Change):(BU rows c).length<=rows.length+1:=by
 grind [BU]
theorem lX:∀ (l rows:List Change),(bX rows l).length<=rows.length+l.length
 | [],rows=>by simp [bX]
 | c::l,rows=>by
  have h1:=lX l (BU rows c)
  have h2:=RR rows c
  show (bX (BU rows c) l).length<=_
  rw [List.length_cons];omega
def eW (c:Change)(s:List Change×Bool)(x:Change):List Change×Bool :=
  let s1:=if s.2=false/\(hY c.Key x.Key||decide (c.Key=x.Key))=true then (s.1++[c],true) else s
  (if x.Key=c.Key then s1.1 else s1.1++[x],s1.2)
def B5 (rows:List Change)(c:Change):List Change×Bool:=rows.foldl (eW c) ([],c.Gone)
def Km (rows:List Change)(c:Change):List Change:=if (B5 rows c).2=true then (B5 rows c).1 else (B5 rows c).1++[c]
def ej (rows l:List Change):List Change:=l.foldl Km rows
theorem vK {rows l:List Change}{k:Nat}{c:Change}(h:l[k]? = some c):ej rows (l.take (k+1))=Km (ej rows (l.take k)) c:=by
 grind [ej,List.take_add_one]
theorem nE {rows:List Change}{c:Change}{k:Nat}{x:Change}(h:rows[k]? = some x):B5 (rows.take (k+1)) c=eW c (B5 (rows.take k) c) x:=by
 grind [B5,List.take_add_one]
theorem Gp (c:Change)(s:List Change×Bool)(x:Change):(eW c s x).1.length+(if (eW c s x).2=true then 0 else 1)<=s.1.length+(if s.2=true then 0 else 1)+1:=by
 unfold eW;grind
theorem Af (c:Change):∀ (rows:List Change) (s:List Change×Bool),(rows.foldl (eW c) s).1.length+(if (rows.foldl (eW c) s).2=true then 0 else 1)<=s.1.length+(if s.2=true then 0 else 1)+rows.length
 | [],s=>Nat.le_refl _
 | x::rows,s=>by
  rw [List.foldl_cons,List.length_cons]
  have h1:=Af c rows (eW c s x)
  have h2:=Gp c s x
  omega
theorem RU (rows:List Change)(c:Change):(Km rows c).length<=rows.length+1:=by
 have h:=Af c rows ([],c.Gone)
 grind [Km,B5,eW]
theorem qC:∀ (l rows:List Change),(ej rows l).length<=rows.length+l.length
 | [],rows=>by simp [ej]
 | c::l,rows=>by
  have h1:=qC l (Km rows c)
  have h2:=RU rows c
  show (ej (Km rows c) l).length<=_
  rw [List.length_cons];omega
def dC (l:List Change):Prop:=l.Pairwise (fun a b=>hY a.Key b.Key=true)
inductive Cut (l:List Change)(k:ByteArray):Prop where
  | hit (A B:List Change) (x:Change) (e:l=A++x::B) (hx:x.Key=k) (ha:∀y∈A,hY y.Key k=true) (hb:∀y∈B,hY k y.Key=true)
  | miss (A B:List Change) (e:l=A++B) (ha:∀y∈A,hY y.Key k=true) (hb:∀y∈B,hY k y.Key=true)
theorem dC.cut:∀ {l:List Change} (h:dC l) (k:ByteArray),Cut l k
 | [],h,k => .miss [] [] rfl (fun y hy=>by cases hy) (fun y hy=>by cases hy)
 | x::l,h,k=>by
  obtain ⟨h1,h2⟩:=List.pairwise_cons.1 h
  rcases vJ x.Key k with hl|hl|hl
  .
   rcases dC.cut h2 k with ⟨A,B,y,e,hy,ha,hb⟩ | ⟨A,B,e,ha,hb⟩
   .exact .hit (x::A) B y (by rw [e];rfl) hy (fun z hz=>by rcases List.mem_cons.1 hz with r|r;exact r▸hl;exact ha z r) hb
   exact .miss (x::A) B (by rw [e];rfl) (fun z hz=>by rcases List.mem_cons.1 hz with r|r;exact r▸hl;exact ha z r) hb
  .subst hl;exact .hit [] l x rfl rfl (fun y hy=>by cases hy) h1
  exact .miss [] (x::l) rfl (fun y hy=>by cases hy) (fun z hz=>by rcases List.mem_cons.1 hz with r|r;exact r▸hl;exact nD hl (h1 z r))
theorem TW {f:Change->Int}{A R:List Change}(ha:∀y∈A,f y<0)(hr:∀y∈R,¬ f y<0):kS f (A++R)=A.length:=by
 have hm:∀ (i j:Nat) x y,i<=j->(A++R)[i]? = some x->(A++R)[j]? = some y->f y<0->f x<0:=fun i j x y hij hx hy hf=>by
  grind
 obtain ⟨h1,h2⟩:=FU hm
 rcases Nat.lt_trichotomy (kS f (A++R)) A.length with h|h|h
 .
  have hg:=List.getElem?_eq_getElem h
  exact absurd (ha _ (List.mem_of_getElem? hg)) (h2 (kS f (A++R)) _ (Nat.le_refl _) az)
 .exact h
 have hle:kS f (A++R)<=(A++R).length:=rY
 have hlt:A.length<(A++R).length:=ae
 have hg:=List.getElem?_eq_getElem hlt
 grind
theorem Ey {k:ByteArray}{x:Change}:fK k x<0↔hY x.Key k=true:=Gn
theorem IL {k:ByteArray}{x:Change}(h:hY k x.Key=true):¬ fK k x<0/\fK k x≠0:=by
 refine ⟨fun hh=>?_,fun hh=>?_⟩
 .grind [ta,Ey]
 have e:=CW.1 hh;grind [fL]
def mid (c:Change):List Change:=if c.Gone=true then [] else [c]
theorem IP {A B:List Change}{x:Change}{k:ByteArray}(hx:x.Key=k)(ha:∀y∈A,hY y.Key k=true)(hb:∀y∈B,hY k y.Key=true):kS (fK k) (A++x::B)=A.length/\rk (fK k) (A++x::B)=true:=by
 have e:kS (fK k) (A++x::B)=A.length:=TW (fun y hy=>Ey.2 (ha y hy)) (fun y hy=>by
  rcases List.mem_cons.1 hy with r|r
  .grind [Ey,fL]
  exact (IL (hb y r)).1)
 refine ⟨e,?_⟩
 unfold rk;rw [e,List.getElem?_append_right (Nat.le_refl _),Nat.sub_self]
 exact decide_eq_true (CW.2 hx)
theorem Kn {A B:List Change}{k:ByteArray}(ha:∀y∈A,hY y.Key k=true)(hb:∀y∈B,hY k y.Key=true):kS (fK k) (A++B)=A.length/\rk (fK k) (A++B)=false:=by
 have e:kS (fK k) (A++B)=A.length:=TW (fun y hy=>Ey.2 (ha y hy)) (fun y hy=>(IL (hb y hy)).1)
 refine ⟨e,?_⟩
 unfold rk;rw [e,List.getElem?_append_right (Nat.le_refl _),Nat.sub_self]
 cases B with
 | nil=>rfl
 | cons y B=>exact decide_eq_false (IL (hb y (List.mem_cons_self ..))).2
theorem Kp {A B:List Change}{x c:Change}(hx:x.Key=c.Key)(ha:∀y∈A,hY y.Key c.Key=true)(hb:∀y∈B,hY c.Key y.Key=true):BU (A++x::B) c=A++mid c++B:=by
 obtain ⟨e1,e2⟩:=IP hx ha hb
 unfold BU mid
 rw [if_pos e2,e1]
 split
 .simp
 grind
theorem Ag {A B:List Change}{c:Change}(ha:∀y∈A,hY y.Key c.Key=true)(hb:∀y∈B,hY c.Key y.Key=true):BU (A++B) c=A++mid c++B:=by
 obtain ⟨e1,e2⟩:=Kn ha hb
 unfold BU mid
 grind
theorem IQ {c:Change}:∀ (A:List Change) (s:List Change×Bool),(∀y∈A,hY y.Key c.Key=true)->A.foldl (eW c) s=(s.1++A,s.2)
 | [],s,h=>by simp
 | x::A,s,h=>by
  have hx:=h x (List.mem_cons_self ..)
  have e:eW c s x=(s.1++[x],s.2):=by
   unfold eW
   have h1:(hY c.Key x.Key||decide (c.Key=x.Key))=false:=by
    rw [ta hx];simp;intro e;rw [e,fL] at hx;cases hx
   rw [if_neg (by rw [h1];simp)]
   have h2:¬ x.Key=c.Key:=fun e=>by rw [e,fL] at hx;cases hx
   dsimp only;rw [if_neg h2]
  rw [List.foldl_cons,e,IQ A _ (fun y hy=>h y (List.mem_cons_of_mem _ hy))];simp
theorem vL {c:Change}:∀ (B:List Change) (acc:List Change),(∀y∈B,hY c.Key y.Key=true)->B.foldl (eW c) (acc,true)=(acc++B,true)
 | [],s,h=>by simp
 | x::B,acc,h=>by
  have hx:=h x (List.mem_cons_self ..)
  have e:eW c (acc,true) x=(acc++[x],true):=by
   unfold eW
   rw [if_neg bA]
   have h2:¬ x.Key=c.Key:=fun e=>by rw [e,fL] at hx;cases hx
   dsimp only;rw [if_neg h2]
  rw [List.foldl_cons,e,vL B _ (fun y hy=>h y (List.mem_cons_of_mem _ hy))];simp
theorem RX {c:Change}{acc B:List Change}{b:Bool}(hb:∀y∈B,hY c.Key y.Key=true)(hg:b=c.Gone) :
 (if (B.foldl (eW c) (acc,b)).2=true then (B.foldl (eW c) (acc,b)).1 else (B.foldl (eW c) (acc,b)).1++[c])=acc++mid c++B:=by
 unfold mid
 cases b with
 | true=>grind [vL]
 | false =>
  rw [<- hg]
  cases B with
  | nil=>simp
  | cons x B =>
   have hx:=hb x (List.mem_cons_self ..)
   have e:eW c (acc,false) x=(acc++[c]++[x],true):=by
    unfold eW
    rw [if_pos ⟨rfl,az⟩]
    have h2:¬ x.Key=c.Key:=fun e=>by grind [fL]
    grind
   grind [vL,List.mem_cons_of_mem]
theorem RY {A B:List Change}{x c:Change}(hx:x.Key=c.Key)(ha:∀y∈A,hY y.Key c.Key=true)(hb:∀y∈B,hY c.Key y.Key=true):Km (A++x::B) c=A++mid c++B:=by
 unfold Km B5
 rw [List.foldl_append,IQ A _ ha,List.nil_append,List.foldl_cons]
 have h1:(hY c.Key x.Key||decide (c.Key=x.Key))=true:=az
 cases hg:c.Gone with
 | true =>
  simp_all [eW,mid,if_neg,if_pos,vL]
 | false =>
  have e:eW c (A,false) x=(A++[c],true):=by unfold eW;grind
  grind [mid,vL]
theorem N6 {A B:List Change}{c:Change}(ha:∀y∈A,hY y.Key c.Key=true)(hb:∀y∈B,hY c.Key y.Key=true):Km (A++B) c=A++mid c++B:=by
 unfold Km B5
 rw [List.foldl_append,IQ A _ ha,List.nil_append]
 grind [RX]
theorem Vj {l:List Change}(h:dC l)(c:Change):BU l c=Km l c:=by
 rcases h.cut c.Key with ⟨A,B,x,rfl,hx,ha,hb⟩ | ⟨A,B,rfl,ha,hb⟩
 .grind [Kp,RY]
 grind [Ag,N6]
theorem Kq {l:List Change}(h:dC l)(c:Change):∃A B,BU l c=A++mid c++B/\(∀y∈A,hY y.Key c.Key=true)/\(∀y∈B,hY c.Key y.Key=true)/\dC (A++B) /\ ∀y,y∈A++B↔y∈l/\y.Key≠c.Key:=by
 have hlt:∀ {y:Change},hY y.Key c.Key=true->y.Key≠c.Key:=fun h e=>by grind [fL]
 have hgt:∀ {y:Change},hY c.Key y.Key=true->y.Key≠c.Key:=fun h e=>by grind
 rcases h.cut c.Key with ⟨A,B,x,rfl,hx,ha,hb⟩ | ⟨A,B,rfl,ha,hb⟩
 .
  refine ⟨A,B,Kp hx ha hb,ha,hb,?_,fun y=>?_⟩
  .
   obtain ⟨h1,h2,h3⟩:=List.pairwise_append.1 h
   exact List.pairwise_append.2 ⟨h1,(List.pairwise_cons.1 h2).2,fun a ha b hb=>h3 a ha b (List.mem_cons_of_mem _ hb)⟩
  grind
 refine ⟨A,B,Ag ha hb,ha,hb,h,fun y=>⟨fun hy=>⟨hy,?_⟩,And.left⟩⟩
 grind
theorem vM {l:List Change}(h:dC l)(c:Change):dC (BU l c):=by
 obtain ⟨A,B,e,ha,hb,hr,_⟩:=Kq h c
 rw [e]
 obtain ⟨h1,h2,h3⟩:=List.pairwise_append.1 hr
 unfold mid
 split
 .grind
 exact List.pairwise_append.2 ⟨List.pairwise_append.2 ⟨h1,List.pairwise_singleton _ _,fun a haa b hbb=>by grind⟩,h2,fun a haa b hbb=>by
  grind⟩
theorem Kr {l:List Change}(h:dC l){c y:Change}:y∈BU l c↔(y∈l/\y.Key≠c.Key)∨(c.Gone=false/\y=c):=by
 obtain ⟨A,B,e,ha,hb,hr,hm⟩:=Kq h c
 rw [e,<- hm y]
 simp only [List.mem_append,mid]
 grind
theorem uK:∀ (l:List Change) {rows:List Change},dC rows->dC (bX rows l)
 | [],rows,h=>h
 | c::l,rows,h=>uK l (vM h c)
theorem vN:∀ (l:List Change) {rows:List Change},dC rows->bX rows l=ej rows l
 | [],rows,h=>rfl
 | c::l,rows,h=>by
  show bX (BU rows c) l=ej (Km rows c) l
  rw [<- Vj h c];exact vN l (vM h c)
theorem w9:∀ (a b:List Change),dC a->dC b->(∀x,x∈a↔x∈b)->a=b
 | [],[],_,_,_=>rfl
 | [],y::b,_,_,h=>absurd ((h y).2 (List.mem_cons_self ..)) bA
 | x::a,[],_,_,h=>absurd ((h x).1 (List.mem_cons_self ..)) bA
 | x::a,y::b,ha,hb,h=>by
  obtain ⟨a1,a2⟩:=List.pairwise_cons.1 ha
  obtain ⟨b1,b2⟩:=List.pairwise_cons.1 hb
  have no:∀ {u v:Change},hY u.Key v.Key=true->hY v.Key u.Key=true->False:=fun h k=>by
   have:=ta h;rw [k] at this;cases this
  have hxy:x=y:=by
   rcases List.mem_cons.1 ((h x).1 (List.mem_cons_self ..)) with e|e
   .exact e
   rcases List.mem_cons.1 ((h y).2 (List.mem_cons_self ..)) with e2|e2
   .exact e2.symm
   exact (no (b1 x e) (a1 y e2)).elim
  subst hxy
  congr 1
  refine w9 a b a2 b2 fun z=>⟨fun hz=>?_,fun hz=>?_⟩
  .
   rcases List.mem_cons.1 ((h z).1 (List.mem_cons_of_mem _ hz)) with e|e
   .subst e;have:=a1 z hz;rw [fL] at this;cases this
   exact e
  rcases List.mem_cons.1 ((h z).2 (List.mem_cons_of_mem _ hz)) with e|e
  .subst e;have:=b1 z hz;rw [fL] at this;cases this
  exact e
end
def bS (n:Int):ByteArray:=⟨(Lib.itoa n).toArray⟩
def bF (n:Int):ByteArray:=⟨(Lib.repeatL [48] (4-(bS n).size)).toArray⟩++bS n
def yv (s:ByteArray):Option Int:=match Lib.atoi s.data.toList with|some n=>if bF n=s then some n else none|none=>none
def kg (s:ByteArray):Nat->Option (List Int)
  | 0=>some []
  | k+1=>match kg s k with
    | some l=>match yv (s.extract (4*k) (4*k+4)) with|some n=>some (l++[n])|none=>none
    | none=>none
def eM (s:ByteArray)(m:Nat):Option (List Int):=if s.size<4*m then none else kg s m
theorem xa {s:ByteArray}:∀ {k:Nat} {l:List Int},kg s k=some l->l.length=k
 | 0,l,h=>by simp [kg] at h;subst h;rfl
 | k+1,l,h=>by
  simp only [kg] at h
  split at h
  .
   rename_i l' h'
   split at h
   .injection h with h;subst h;simp [xa h']
   cases h
  cases h
theorem IU {s:ByteArray}{k:Nat}{l:List Int}{n:Int}(h:kg s k=some l)(hn:yv (s.extract (4*k) (4*k+4))=some n):kg s (k+1)=some (l++[n]):=by grind [kg]
theorem Ah {s:ByteArray}:∀ {m k:Nat},k<=m->kg s k=none->kg s m=none
 | 0,k,hk,h=>by
  have:k=0:=ae
  subst this;exact h
 | m+1,k,hk,h=>by
  rcases Nat.lt_or_ge k (m+1) with h1|h1
  .simp only [kg,Ah (m:=m) ae h]
  have:k=m+1:=ae
  subst this;exact h
theorem LJ {s:ByteArray}{k m:Nat}{l:List Int}(hk:k<m)(h:kg s k=some l)(hn:yv (s.extract (4*k) (4*k+4))=none):kg s m=none :=
 Ah (k:=k+1) ae (by grind [kg])
theorem LK {s:ByteArray}{m:Nat}{l:List Int}(h:eM s m=some l):l.length=m/\4*m<=s.size:=by
 grind [eM,xa]
def kH:ByteArray:=⟨#[104]⟩
def kT:ByteArray:=⟨#[116]⟩
def kW:ByteArray:=⟨#[119]⟩
def kX:ByteArray:=⟨#[120]⟩
def hrow (h:Held):Change:=⟨kH++bS h.Place.aD++bS h.Place.Slot,bF h.ak,false⟩
def lY (t:aA):Change:=⟨kT++bF t.ID,bF t.Kind++t.Data,false⟩
def oJ (w:ak):Change:=⟨kW++bF w.ID,bF w.aA++bF w.Rights++bF w.aM++bF w.From,false⟩
def Gq (r:aB):Change:=⟨kX,bF r.ah++bF r.ai,false⟩
def rowsOf (q:aB):List Change:=q.Held.map hrow++q.Things.map lY++q.aj.map oJ++[Gq q]
def aY (r:aB):List Change:=rowsOf (aN r)
def RZ (s:ByteArray)(i:Nat):Int:=(bC s i:Int)
def Yw (c:Change):Place:=⟨RZ c.Key 1-48,RZ c.Key 2-48⟩
def LL (r:aB)(h:Held):aB:=⟨r.aj,r.Things,r.Held++[h],r.Notes,r.ah,r.ai⟩
def LM (r:aB)(t:aA):aB:=⟨r.aj,r.Things++[t],r.Held,r.Notes,r.ah,r.ai⟩
def Gr (r:aB)(w:ak):aB:=⟨r.aj++[w],r.Things,r.Held,r.Notes,r.ah,r.ai⟩
def R0 (r:aB)(a b:Int):aB:=⟨r.aj,r.Things,r.Held,r.Notes,a,b⟩
def LN (o:Option (List Int))(j:Nat):Int:=((o.getD [])[j]?).getD 0
def rowP (r:aB)(c:Change):aB×Bool :=
  if c.Key.size=0 then (r,false) else
  let key:=eM (c.Key.extract 1 c.Key.size) 1
  let ok:=key.isSome&&decide (c.Key.size=5)
  let n1:=eM c.Val 1
  let n4:=eM c.Val 4
  let n2:=eM c.Val 2
  if bC c.Key 0=104 then (if n1.isSome=false∨c.Val.size≠4∨c.Key.size≠3 then (r,false) else (LL r ⟨Yw c,LN n1 0⟩,decide (bq (Yw c)=0)))
  else if bC c.Key 0=116 then (if ok=false∨n1.isSome=false∨12<c.Val.size then (r,false) else (LM r ⟨LN key 0,LN n1 0,c.Val.extract 4 c.Val.size⟩,decide (LN n1 0=1∨LN n1 0=2/\c.Val.size=4)))
  else if bC c.Key 0=119 then (if ok=false∨n4.isSome=false∨c.Val.size≠16 then (r,false) else (Gr r ⟨LN key 0,LN n4 0,LN n4 1,LN n4 2,LN n4 3⟩,true))
  else if c.Key≠kX∨n2.isSome=false∨c.Val.size≠8 then (r,false) else (R0 r (LN n2 0) (LN n2 1),true)
def uL (pv:Option ByteArray)(c:Change):Bool:=match pv with|some k=>hY k c.Key|none=>true
def pgo:List Change->Option ByteArray->aB->Option aB
  | [],_,r=>some r
  | c::l,pv,r=>if uL pv c && !c.Gone&&(rowP r c).2 then pgo l (some c.Key) (rowP r c).1 else none
structure Whole (r:aB):Prop where
  tree:cJ r.aj
  jG:r.Things.length<=10
  pO:1<=r.ah
  rK:r.ah<=1000
  qw:1<=r.ai
  qx:r.ai<=1000
  hlen:r.Held.length=r.aj.length
  fh:∀h∈r.Held,0<=cE r.aj h.ak
  once:(r.Held.map Held.ak).Nodup
  things:r.Things.map aA.ID=br r.aj
  TX:∀w,r.aj.getLast? = some w->w.ID<r.ah
  TY:∀t,r.Things.getLast? = some t->t.ID<r.ai
noncomputable def eQ (r:aB):Bool:= @decide (Whole r) (Classical.propDecidable _)
noncomputable def bY (l:List Change):aB×Int:=match pgo l none r0 with|some r=>if eQ r=true then (r,0) else (r0,4)|none=>(r0,4)
theorem Ai {r:aB}(h:Whole r):eQ r=true:=by grind [eQ]
theorem gT {r:aB}(h:¬ Whole r):eQ r=false:=by grind [eQ]
def d8 (k:Nat):UInt8:=UInt8.ofNat (48+k)
def IV (k:Nat):List UInt8:=[d8 (k / 1000),d8 (k / 100 % 10),d8 (k / 10 % 10),d8 (k % 10)]
theorem Aj {k:Nat}(h:k<10):(d8 k).toNat=48+k:=sj ae
theorem CY {a b:Nat}(ha:a<10)(hb:b<10):d8 a<d8 b↔a<b:=by
 grind [UInt8.lt_iff_toNat_lt,Aj]
theorem LO (u:Nat):Lib.decDigits u=if u<10 then [d8 u] else Lib.decDigits (u / 10)++[d8 (u % 10)]:=by
 rw [Lib.decDigits];rfl
theorem Yx (l:List UInt8):bl ⟨l.toArray⟩=l:=rfl
theorem size_mk (l:List UInt8):(⟨l.toArray⟩:ByteArray).size=l.length:=eH
theorem vO {n:Int}(h:0<=n):bl (bS n)=Lib.decDigits n.toNat:=by
 show Lib.itoa n=_
 simp_all [Lib.itoa,if_neg]
theorem LP {u:Nat}(h:u<10):Lib.decDigits u=[d8 u]:=by rw [LO,if_pos h]
theorem Yy {u:Nat}(h0:10<=u)(h:u<100):Lib.decDigits u=[d8 (u / 10),d8 (u % 10)]:=by rw [LO,if_neg ae,LP ae];rfl
theorem Yz {u:Nat}(h0:100<=u)(h:u<1000):Lib.decDigits u=[d8 (u / 100),d8 (u / 10 % 10),d8 (u % 10)]:=by
 rw [LO,if_neg ae,Yy ae ae,show u / 10 / 10=u / 100 by omega];rfl
theorem aaW {u:Nat}(h0:1000<=u)(h:u<10000):Lib.decDigits u=IV u:=by
 rw [LO,if_neg ae,Yz ae ae,show u / 10 / 100=u / 1000 by omega,show u / 10 / 10 % 10=u / 100 % 10 by omega];rfl
theorem yQ {n:Int}(h0:0<=n)(h1:n<10000):bl (bF n)=IV n.toNat:=by
 have hs:(bS n).size=(Lib.decDigits n.toNat).length:=by grind [iZ,vO]
 unfold bF
 rw [kF,Yx,vO h0,hs]
 generalize hk:n.toNat=k
 have hk4:k<10000:=ae
 have z0:(48:UInt8)=d8 0:=rfl
 by_cases c1:k<10
 .
  rw [LP c1];unfold IV
  rw [show k / 1000=0 by omega,show k / 100 % 10=0 by omega,show k / 10 % 10=0 by omega,show k % 10=k by omega];rfl
 by_cases c2:k<100
 .
  rw [Yy ae c2];unfold IV
  rw [show k / 1000=0 by omega,show k / 100 % 10=0 by omega,show k / 10 % 10=k / 10 by omega];rfl
 by_cases c3:k<1000
 .
  rw [Yz ae c3];unfold IV
  rw [show k / 1000=0 by omega,show k / 100 % 10=k / 100 by omega];rfl
 rw [aaW ae hk4];rfl
theorem eF {n:Int}(h0:0<=n)(h1:n<10000):(bF n).size=4:=by rw [<- iZ,yQ h0 h1];rfl
theorem vP {k:Nat}(h:k<10):Lib.digitVal (d8 k)=some k:=by
 unfold Lib.digitVal;rw [Aj h,if_pos ae];grind
theorem T0 {k:Nat}(h:k<10){c:UInt8}(hc:c.toNat<48):(d8 k==c)=false:=by
 rw [beq_eq_false_iff_ne];intro e;have:=congrArg UInt8.toNat e;grind [Aj]
theorem N7 {k:Nat}(h:k<10000):Lib.atoi (IV k)=some (k:Int):=by
 unfold IV Lib.atoi
 dsimp only
 rw [if_neg (by rw [T0 ae aC];decide),if_neg (by rw [T0 ae aC];decide)]
 simp only [Lib.decNat,List.isEmpty_cons,Bool.false_eq_true,if_false,Lib.decFrom,vP (show k / 1000<10 by omega),vP (show k / 100 % 10<10 by omega),vP (show k / 10 % 10<10 by omega),vP (show k % 10<10 by omega),Option.map_some]
 grind
theorem td {n:Int}(h0:0<=n)(h1:n<10000):yv (bF n)=some n:=by
 unfold yv
 have e:(bF n).data.toList=IV n.toNat:=yQ h0 h1
 rw [e,N7 ae]
 grind
theorem N8 {a b:Nat}(hb:b<10000)(h:a<b):IV a<IV b:=by
 unfold IV
 simp only [List.cons_lt_cons_iff,CY (show a / 1000<10 by omega) (show b / 1000<10 by omega),CY (show a / 100 % 10<10 by omega) (show b / 100 % 10<10 by omega),CY (show a / 10 % 10<10 by omega) (show b / 10 % 10<10 by omega),CY (show a % 10<10 by omega) (show b % 10<10 by omega)]
 by_cases c1:a / 1000<b / 1000
 .omega
 refine .inr ⟨az,?_⟩
 by_cases c2:a / 100 % 10<b / 100 % 10
 .omega
 refine .inr ⟨az,?_⟩
 by_cases c3:a / 10 % 10<b / 10 % 10
 .omega
 refine .inr ⟨by rw [show a / 10 % 10=b / 10 % 10 by omega],?_⟩
 omega
theorem Gs {n:Int}(h0:0<=n)(h1:n<10):bl (bS n)=[d8 n.toNat]:=by grind [vO,LP]
theorem hkey {h:Held}(hp:bq h.Place=0):bl (hrow h).Key=[104,d8 h.Place.aD.toNat,d8 h.Place.Slot.toNat]:=by
 have:=bP hp
 show bl (kH++bS h.Place.aD++bS h.Place.Slot)=_
 rw [kF,kF,Gs ae ae,Gs ae ae];rfl
theorem tkey {t:aA}(h0:0<=t.ID)(h1:t.ID<10000):bl (lY t).Key=116::IV t.ID.toNat:=by
 show bl (kT++bF t.ID)=_
 rw [kF,yQ h0 h1];rfl
theorem N9 {w:ak}(h0:0<=w.ID)(h1:w.ID<10000):bl (oJ w).Key=119::IV w.ID.toNat:=by
 show bl (kW++bF w.ID)=_
 rw [kF,yQ h0 h1];rfl
theorem vQ {a b:ByteArray}{x y:UInt8}{l m:List UInt8}(ha:bl a=x::l)(hb:bl b=y::m)(h:x<y):hY a b=true:=by
 grind [ng,List.cons_lt_cons_iff]
theorem Ez {a b:ByteArray}{x:UInt8}{l m:List UInt8}(ha:bl a=x::l)(hb:bl b=x::m)(h:l<m):hY a b=true:=by
 grind [ng,List.cons_lt_cons_iff]
theorem R1 {g h:Held}(hg:bq g.Place=0)(hh:bq h.Place=0)(hl:ln g.Place h.Place):hY (hrow g).Key (hrow h).Key=true:=by
 have:=bP hg;have:=bP hh
 refine Ez (hkey hg) (hkey hh) ?_
 rw [List.cons_lt_cons_iff,CY ae ae]
 rcases hl with hl|⟨he,hl⟩
 .omega
 grind [List.cons_lt_cons_iff,CY]
theorem R2 {s t:aA}(h0:0<=s.ID)(h1:t.ID<10000)(h:s.ID<t.ID):hY (lY s).Key (lY t).Key=true :=
 Ez (tkey h0 ae) (tkey ae h1) (N8 ae ae)
theorem R3 {v w:ak}(h0:0<=v.ID)(h1:w.ID<10000)(h:v.ID<w.ID):hY (oJ v).Key (oJ w).Key=true :=
 Ez (N9 h0 ae) (N9 ae h1) (N8 ae ae)
theorem vR (a b:ByteArray)(i j:Nat)(hi:i=a.size)(hj:j=a.size+b.size):(a++b).extract i j=b:=by
 apply fY;grind [qz,kF,List.take_of_length_le,List.length_append,iZ,List.drop_left]
theorem EA (a b:ByteArray)(i j:Nat)(hj:j<=a.size):(a++b).extract i j=a.extract i j:=by
 grind [fY,qz,kF,iZ]
theorem yR (a:ByteArray)(j:Nat)(hj:j=a.size):a.extract 0 j=a:=by
 simp_all
theorem mE (a b:ByteArray):(a++b).size=a.size+b.size:=ByteArray.size_append
theorem YA {a b:ByteArray}{n:Int}(h0:0<=n)(h1:n<10000)(ha:a=bF n):eM (a++b) 1=some [n]:=by
 simp_all [eM,kg,eF,if_neg,mE,EA,yR,td]
theorem IW {n:Int}(h0:0<=n)(h1:n<10000):eM (bF n) 1=some [n]:=by
 simp_all [eM,kg,eF,if_neg,yR,td]
theorem YB {a b:Int}(ha:0<=a/\a<10000)(hb:0<=b/\b<10000):eM (bF a++bF b) 2=some [a,b]:=by
 have s1:=eF ha.1 ha.2;have s2:=eF hb.1 hb.2
 simp_all [eM,kg,if_neg,mE,EA,yR,td,vR]
theorem YC {a b c d:Int}(ha:0<=a/\a<10000)(hb:0<=b/\b<10000)(hc:0<=c/\c<10000)(hd:0<=d/\d<10000):eM (bF a++bF b++bF c++bF d) 4=some [a,b,c,d]:=by
 have s1:=eF ha.1 ha.2;have s2:=eF hb.1 hb.2;have s3:=eF hc.1 hc.2;have s4:=eF hd.1 hd.2
 simp_all [eM,kg,if_neg,mE,EA,yR,td,vR]
theorem Gt {s:ByteArray}{l:List UInt8}{i:Nat}{x:UInt8}(h:bl s=l)(hx:l[i]? = some x):bC s i=x.toNat:=by grind [k9]
theorem Oa (r:aB){h:Held}(hp:bq h.Place=0)(h0:0<=h.ak)(h1:h.ak<10000):rowP r (hrow h)=(LL r h,true):=by
 have hk:=hkey hp;have hz:=bP hp
 have hs:(hrow h).Key.size=3:=by grind [iZ]
 have b0:bC (hrow h).Key 0=104:=Gt (x:=104) hk rfl
 have b1:bC (hrow h).Key 1=48+h.Place.aD.toNat:=by rw [Gt hk rfl,Aj ae]
 have b2:bC (hrow h).Key 2=48+h.Place.Slot.toNat:=by rw [Gt hk rfl,Aj ae]
 have hpl:Yw (hrow h)=h.Place:=by
  unfold Yw RZ;rw [b1,b2]
  show (⟨_,_⟩:Place)=⟨h.Place.aD,h.Place.Slot⟩
  grind
 have hv:eM (hrow h).Val 1=some [h.ak]:=IW h0 h1
 have hvs:(hrow h).Val.size=4:=eF h0 h1
 unfold rowP
 rw [if_neg ae]
 dsimp only
 rw [if_pos b0,hv,if_neg az,hpl,decide_eq_true hp];rfl
theorem Ob (r:aB){t:aA}(h0:0<=t.ID)(h1:t.ID<10000)(hk:t.Kind=1∨t.Kind=2/\t.Data.size=0)(hd:t.Data.size<=8):rowP r (lY t)=(LM r t,true):=by
 have hky:=tkey h0 h1
 have hs:(lY t).Key.size=5:=by rw [<- iZ,hky];rfl
 have b0:bC (lY t).Key 0=116:=Gt (x:=116) hky rfl
 have e1:eM ((lY t).Key.extract 1 (lY t).Key.size) 1=some [t.ID]:=by
  show eM ((kT++bF t.ID).extract 1 _) 1=_
  have hf:=eF h0 h1
  rw [vR _ _ _ _ eH (by rw [hs,hf];rfl)];grind [IW]
 have k4:0<=t.Kind/\t.Kind<10000:=ae
 have hf:=eF k4.1 k4.2
 have hv:eM (lY t).Val 1=some [t.Kind]:=YA k4.1 k4.2 rfl
 have hvs:(lY t).Val.size=4+t.Data.size:=by show (bF t.Kind++t.Data).size=_;grind
 have hx:(lY t).Val.extract 4 (lY t).Val.size=t.Data:=by
  rw [hvs];show (bF t.Kind++t.Data).extract _ _=_
  grind [vR]
 unfold rowP
 rw [if_neg ae]
 dsimp only
 rw [if_neg ae,if_pos b0,e1,hv,if_neg az,hx]
 show (LM r ⟨t.ID,t.Kind,t.Data⟩,decide (t.Kind=1∨t.Kind=2/\(lY t).Val.size=4))=_
 simp_all
theorem Oc (r:aB){w:ak}(h:XH w):rowP r (oJ w)=(Gr r w,true):=by
 have i1:=h.id1;have i9:=h.Q0;have t1:=h.U5;have t9:=h.U6;have a0:=h.U7;have a9:=h.U8;have f0:=h.Rw;have fl:=h.Rx;have q0:=h.Ry;have q7:=h.Rz
 have hky:=N9 (w:=w) ae ae
 have hs:(oJ w).Key.size=5:=by rw [<- iZ,hky];rfl
 have b0:bC (oJ w).Key 0=119:=Gt (x:=119) hky rfl
 have e1:eM ((oJ w).Key.extract 1 (oJ w).Key.size) 1=some [w.ID]:=by
  show eM ((kW++bF w.ID).extract 1 _) 1=_
  have hf:=eF (n:=w.ID) ae ae
  rw [vR _ _ _ _ eH (by rw [hs,hf];rfl)];grind [IW]
 have hv:eM (oJ w).Val 4=some [w.aA,w.Rights,w.aM,w.From]:=YC ae ae ae ae
 have hvs:(oJ w).Val.size=16:=by
  show (bF w.aA++bF w.Rights++bF w.aM++bF w.From).size=_
  grind [mE,eF]
 unfold rowP
 rw [if_neg ae]
 dsimp only
 rw [if_neg ae,if_neg ae,if_pos b0,e1,hv,if_neg az];rfl
theorem Od (r q:aB)(ha:0<=q.ah/\q.ah<10000)(hb:0<=q.ai/\q.ai<10000):rowP r (Gq q)=(R0 r q.ah q.ai,true):=by
 have hv:eM (Gq q).Val 2=some [q.ah,q.ai]:=YB ha hb
 have hvs:(Gq q).Val.size=8:=by
  show (bF q.ah++bF q.ai).size=_
  grind [mE,eF]
 have b0:bC (Gq q).Key 0=120:=rfl
 unfold rowP
 rw [if_neg (show ¬ (Gq q).Key.size=0 from (by decide:¬ kX.size=0))]
 dsimp only
 rw [if_neg ae,if_neg ae,if_neg ae,hv,if_neg (by rw [hvs];simp;rfl)];rfl
def vS (r:aB)(c:Change):aB:=(rowP r c).1
theorem Ks:∀ (l:List Change) (pv:Option ByteArray) (r:aB),(∀c∈l,uL pv c=true)->dC l->(∀c∈l,c.Gone=false /\ ∀s,(rowP s c).2=true)->pgo l pv r=some (l.foldl vS r)
 | [],_,r,_,_,_=>rfl
 | c::l,pv,r,h1,h2,h3=>by
  obtain ⟨hc,hl⟩:=List.pairwise_cons.1 h2
  have g:=h3 c (List.mem_cons_self ..)
  simp only [pgo]
  rw [if_pos az]
  exact Ks l (some c.Key) _ (fun x hx=>hc x hx) hl (fun x hx=>h3 x (List.mem_cons_of_mem _ hx))
theorem Oe:∀ (hs:List Held) (r:aB),(∀h∈hs,bq h.Place=0/\0<=h.ak/\h.ak<10000)->(hs.map hrow).foldl vS r=⟨r.aj,r.Things,r.Held++hs,r.Notes,r.ah,r.ai⟩
 | [],r,_=>by simp
 | h::hs,r,k=>by
  obtain ⟨k1,k2,k3⟩:=k h (List.mem_cons_self ..)
  rw [List.map_cons,List.foldl_cons,show vS r (hrow h)=LL r h by grind [vS,Oa],Oe hs _ (fun x hx=>k x (List.mem_cons_of_mem _ hx))]
  grind [LL,List.append_assoc]
structure TOk (t:aA):Prop where
  i0:0<=t.ID
  i9:t.ID<10000
  kd:t.Kind=1∨t.Kind=2/\t.Data.size=0
  ds:t.Data.size<=8
theorem Og:∀ (ts:List aA) (r:aB),(∀t∈ts,TOk t)->(ts.map lY).foldl vS r=⟨r.aj,r.Things++ts,r.Held,r.Notes,r.ah,r.ai⟩
 | [],r,_=>by simp
 | t::ts,r,k=>by
  obtain ⟨k1,k2,k3,k4⟩:=k t (List.mem_cons_self ..)
  rw [List.map_cons,List.foldl_cons,show vS r (lY t)=LM r t by grind [vS,Ob],Og ts _ (fun x hx=>k x (List.mem_cons_of_mem _ hx))]
  grind [LM,List.append_assoc]
theorem Oh:∀ (ws:List ak) (r:aB),(∀w∈ws,XH w)->(ws.map oJ).foldl vS r=⟨r.aj++ws,r.Things,r.Held,r.Notes,r.ah,r.ai⟩
 | [],r,_=>by simp
 | w::ws,r,k=>by
  rw [List.map_cons,List.foldl_cons,show vS r (oJ w)=Gr r w by grind [vS,Oc,List.mem_cons_self],Oh ws _ (fun x hx=>k x (List.mem_cons_of_mem _ hx))]
  grind [Gr,List.append_assoc]
theorem LQ {l:List ak}(h:cJ l):l.Pairwise (fun a b=>a.ID<b.ID):=by
 have key:∀ (n i j:Nat) (x y:ak),j=i+n+1->l[i]? = some x->l[j]? = some y->x.ID<y.ID:=by
  intro n
  induction n with
  | zero =>
   intro i j x y e hx hy
   have hs:=h.steps j (List.getElem?_eq_some_iff.1 hy).1
   grind [oT,jJ]
  | succ n ih =>
   intro i j x y e hx hy
   have hj:j-1<l.length:=az
   have hz:=List.getElem?_eq_getElem hj
   exact Int.lt_trans (ih i (j-1) x l[j-1] ae hx hz) (by
    have hs:=h.steps j (List.getElem?_eq_some_iff.1 hy).1
    grind [oT,jJ])
 rw [List.pairwise_iff_getElem]
 intro i j hi hj hij
 exact key (j-i-1) i j _ _ ae (List.getElem?_eq_getElem hi) (List.getElem?_eq_getElem hj)
theorem Inv.T1 {r:aB}(h:Inv r){t:aA}(ht:t∈r.Things):TOk t:=by
 have a:=h.yN t ht;have b:=h.qx;have c:=h.j7 t ht;have d:=h.j8 t ht
 refine ⟨ae,ae,?_,d.1⟩
 rcases c with c|c
 .omega
 exact .inr ⟨c,by rw [d.2 c];rfl⟩
theorem Inv.Kt {r:aB}(h:Inv r){x:Held}(hx:x∈r.Held):bq x.Place=0/\1<=x.ak/\x.ak<10000:=by
 obtain ⟨w,hw,e⟩:=h.fh x hx
 have k:=h.tree.mem hw
 have:=k.id1;have:=k.Q0
 exact ⟨((Gd.1 h.good).2 x hx).1,ae,ae⟩
theorem Ak {α β:Type}{R:β->β->Prop}{S:α->α->Prop}(f:α->β):∀ {l:List α},l.Pairwise S->(∀x∈l,∀y∈l,S x y->R (f x) (f y))->(l.map f).Pairwise R
 | [],_,_=>List.Pairwise.nil
 | a::l,h,k=>by
  obtain ⟨h1,h2⟩:=List.pairwise_cons.1 h
  refine List.pairwise_cons.2 ⟨fun y hy=>?_,Ak f h2 (fun x hx y hy=>k x (List.mem_cons_of_mem _ hx) y (List.mem_cons_of_mem _ hy))⟩
  obtain ⟨x,hx,rfl⟩:=List.mem_map.1 hy
  exact k a (List.mem_cons_self ..) x (List.mem_cons_of_mem _ hx) (h1 x hx)
theorem CZ {r:aB}(h:Inv r):dC (rowsOf r):=by
 have hx:bl kX=[120]:=rfl
 have kh:∀x∈r.Held,bl (hrow x).Key=[104,d8 x.Place.aD.toNat,d8 x.Place.Slot.toNat]:=fun x hx=>hkey (h.Kt hx).1
 have kt:∀t∈r.Things,bl (lY t).Key=116::IV t.ID.toNat:=fun t ht=>tkey (h.T1 ht).i0 (h.T1 ht).i9
 have kw:∀w∈r.aj,bl (oJ w).Key=119::IV w.ID.toNat:=fun w hw=>by
  have:=(h.tree.mem hw).id1;have:=(h.tree.mem hw).Q0;grind [N9]
 unfold dC rowsOf
 refine List.pairwise_append.2 ⟨List.pairwise_append.2 ⟨List.pairwise_append.2 ⟨?_,?_,?_⟩,?_,?_⟩,List.pairwise_singleton _ _,?_⟩
 .exact Ak hrow (Gd.1 h.good).1 (fun x hx y hy hl=>R1 (h.Kt hx).1 (h.Kt hy).1 hl)
 .exact Ak lY h.jL (fun x hx y hy hl=>R2 (h.T1 hx).i0 (h.T1 hy).i9 hl)
 .grind [vQ]
 .exact Ak oJ (LQ h.tree) (fun x hx y hy hl=>by
   have:=(h.tree.mem hx).id1;have:=(h.tree.mem hy).Q0;grind [R3])
 .grind [vQ]
 intro a ha b hb
 rw [List.mem_singleton.1 hb]
 rcases List.mem_append.1 ha with ha|ha
 .
  rcases List.mem_append.1 ha with ha|ha
  .
   obtain ⟨x,hx',rfl⟩:=List.mem_map.1 ha
   exact vQ (kh x hx') hx aC
  obtain ⟨x,hx',rfl⟩:=List.mem_map.1 ha
  exact vQ (kt x hx') hx aC
 obtain ⟨x,hx',rfl⟩:=List.mem_map.1 ha
 exact vQ (kw x hx') hx aC
theorem LR {r:aB}(h:Inv r):∀c∈rowsOf r,c.Gone=false /\ ∀s,(rowP s c).2=true:=by
 have a1:=h.pO;have a2:=h.rK;have a3:=h.qw;have a4:=h.qx
 intro c hc
 unfold rowsOf at hc
 rcases List.mem_append.1 hc with hc|hc
 .
  rcases List.mem_append.1 hc with hc|hc
  .
   rcases List.mem_append.1 hc with hc|hc
   .
    obtain ⟨x,hx,rfl⟩:=List.mem_map.1 hc
    have k:=h.Kt hx
    exact ⟨rfl,fun s=>by grind [Oa]⟩
   obtain ⟨x,hx,rfl⟩:=List.mem_map.1 hc
   have k:=h.T1 hx
   exact ⟨rfl,fun s=>by rw [Ob s k.i0 k.i9 k.kd k.ds]⟩
  obtain ⟨x,hx,rfl⟩:=List.mem_map.1 hc
  exact ⟨rfl,fun s=>by rw [Oc s (h.tree.mem hx)]⟩
 rw [List.mem_singleton.1 hc]
 exact ⟨rfl,fun s=>by grind [Od]⟩
theorem LS {r:aB}(h:Inv r)(hn:r.Notes=[]):(rowsOf r).foldl vS r0=r:=by
 have a1:=h.pO;have a2:=h.rK;have a3:=h.qw;have a4:=h.qx
 unfold rowsOf
 rw [List.foldl_append,List.foldl_append,List.foldl_append,Oe _ _ (fun x hx=>⟨(h.Kt hx).1,by have:=(h.Kt hx).2.1;omega,(h.Kt hx).2.2⟩),Og _ _ (fun t ht=>h.T1 ht),Oh _ _ (fun w hw=>h.tree.mem hw)]
 rw [List.foldl_cons,List.foldl_nil]
 unfold vS
 rw [Od _ r ae ae]
 obtain ⟨a,b,c,d,e,f⟩:=r
 grind [R0,r0]
theorem C0:∀ (a b:List Int),a.Pairwise (· < ·)->b.Pairwise (· < ·)->(∀x,x∈a↔x∈b)->a=b
 | [],[],_,_,_=>rfl
 | [],y::b,_,_,h=>by have:=(h y).2 (List.mem_cons_self ..);cases this
 | x::a,[],_,_,h=>by have:=(h x).1 (List.mem_cons_self ..);cases this
 | x::a,y::b,ha,hb,h=>by
  obtain ⟨a1,a2⟩:=List.pairwise_cons.1 ha
  obtain ⟨b1,b2⟩:=List.pairwise_cons.1 hb
  have e:x=y:=by
   rcases List.mem_cons.1 ((h x).1 (List.mem_cons_self ..)) with e|h1
   .exact e
   rcases List.mem_cons.1 ((h y).2 (List.mem_cons_self ..)) with e|h2
   .exact e.symm
   have:=b1 x h1;have:=a1 y h2;omega
  subst e
  congr 1
  refine C0 a b a2 b2 (fun z=>?_)
  have hz:=h z
  simp only [List.mem_cons] at hz
  constructor
  .
   intro h1
   rcases hz.1 (.inr h1) with e|h2
   .have:=a1 z h1;omega
   exact h2
  intro h1
  rcases hz.2 (.inr h1) with e|h2
  .have:=b1 z h1;omega
  exact h2
theorem Gu {l:List ak}(h:cJ l):(br l).Pairwise (· < ·):=by
 unfold br;rw [sW h];exact (oV l 999).1
theorem Gv {α:Type}{l:List α}{y:α}(hy:l.getLast? = some y):y∈l:=by
 grind
theorem Inv.ids {r:aB}(h:Inv r):r.Things.map aA.ID=br r.aj :=
 C0 _ _ (Ak aA.ID h.jL (fun _ _ _ _ h=>h)) (Gu h.tree) fun x=>by
  rw [lW h.tree,List.mem_map]
  constructor
  .rintro ⟨t,ht,rfl⟩;exact h.used t ht
  rintro ⟨w,hw,rfl⟩;exact h.thing w hw
theorem Inv.nodup {r:aB}(h:Inv r):(r.Held.map Held.ak).Nodup:=by
 rw [List.nodup_iff_count]
 intro a
 by_cases ha:∃w∈r.aj,w.ID=a
 .
  obtain ⟨w,hw,rfl⟩:=ha
  have:=h.once w hw
  have e:(r.Held.map Held.ak).count w.ID=cH r.Held w.ID:=by
   unfold cH;rw [List.count,List.countP_map];rfl
  omega
 rw [List.count_eq_zero.2 (fun hm=>?_)]
 .omega
 obtain ⟨x,hx,rfl⟩:=List.mem_map.1 hm
 exact ha (h.fh x hx)
theorem Inv.whole {r:aB}(h:Inv r)(hl:r.Held.length=r.aj.length):Whole r where
 tree:=h.tree
 jG:=h.jG
 pO:=h.pO
 rK:=h.rK
 qw:=h.qw
 qx:=h.qx
 hlen:=hl
 fh:=fun x hx=>by
  obtain ⟨w,hw,e⟩:=h.fh x hx
  exact kE.2 ⟨w,hw,e⟩
 once:=h.nodup
 things:=h.ids
 TX:=fun w hw=>h.uH w (Gv hw)
 TY:=fun t ht=>(h.yN t (Gv ht)).2
theorem IX {r:aB}(h:Inv r)(hn:r.Notes=[])(hl:r.Held.length=r.aj.length):bY (rowsOf r)=(r,0):=by
 have h1:=Ks (rowsOf r) none r0 (fun _ _=>rfl) (CZ h) (LR h)
 unfold bY
 rw [h1,LS h hn]
 dsimp only
 rw [if_pos (Ai (h.whole hl))]
theorem xV {r:aB}(h:Inv r):bY (aY r)=(aN r,0):=by
 obtain ⟨h1,h2,h3,h4,h5⟩:=iL h
 exact IX h1 h2 h4
theorem jt {r:aB}(h:Inv r):(aY r).length<=60:=by
 obtain ⟨h1,h2,h3,h4,h5⟩:=iL h
 have a:=sh h1;have b:=h1.jG
 grind [aY,rowsOf,List.length_append,List.length_map,List.length_cons,List.length_nil]
theorem hk0 (h:Held):∃l,bl (hrow h).Key=104::l:=⟨_,by show bl (kH++bS h.Place.aD++bS h.Place.Slot)=_;rw [kF,kF];rfl⟩
def okT (t:aA):Bool:=decide ((t.Kind=1∨t.Kind=2/\t.Data.size=0)/\t.Data.size<=8)
def xr (a b:Int):Change:=⟨kX,bF a++bF b,false⟩
structure Kinds (l:List Change)(hs:List Held)(ts:List aA)(ws:List ak)(xs:List Change):Prop where
  eq:l=hs.map hrow++ts.map lY++ws.map oJ++xs
  h:∀x∈hs,bq x.Place=0
  t:∀x∈ts,okT x=true
  x:(xs=[] /\ ∀r:aB,l.foldl vS r=⟨r.aj++ws,r.Things++ts,r.Held++hs,r.Notes,r.ah,r.ai⟩) ∨ ∃a b,xs=[xr a b] /\ ∀r:aB,l.foldl vS r=⟨r.aj++ws,r.Things++ts,r.Held++hs,r.Notes,a,b⟩
theorem IY {z:aB}(h:Inv z)(hn:z.Notes=[]):aN z=z:=by
 obtain ⟨a,b,c,d,e,f⟩:=z
 simp only at hn;subst hn
 exact Ad h
def ub (k:ByteArray):Change:=⟨k,⟨#[]⟩,true⟩
def Al (a b:List Change):List Change:=(a.filter (fun c => !rk (fK c.Key) b)).map (fun c=>ub c.Key)
def Gw (a b:List Change):List Change:=b.filter (fun c => !rk (fK c.Key) a || !decide (a[kS (fK c.Key) a]? = some c))
def vT (a b:List Change):List Change:=Al a b++Gw a b
def bE:List Change->List Change->List Change
  | [],b=>b
  | x::a,[]=>ub x.Key::bE a []
  | x::a,y::b=>if hY x.Key y.Key=true then ub x.Key::bE a (y::b) else if hY y.Key x.Key=true then y::bE (x::a) b else if x=y then bE a b else y::bE a b
termination_by a b=>a.length+b.length
decreasing_by all_goals grind
theorem nG (b:List Change):bE [] b=b:=by rw [bE]
theorem C2 (x:Change)(a:List Change):bE (x::a) []=ub x.Key::bE a []:=by rw [bE]
theorem od (x y:Change)(a b:List Change):bE (x::a) (y::b)=if hY x.Key y.Key=true then ub x.Key::bE a (y::b) else if hY y.Key x.Key=true then y::bE (x::a) b else if x=y then bE a b else y::bE a b:=by rw [bE]
theorem R4 {l:List Change}(h:dC l)(k:ByteArray):rk (fK k) l=true ↔ ∃x∈l,x.Key=k:=by
 rcases dC.cut h k with ⟨A,B,x,e,hx,ha,hb⟩ | ⟨A,B,e,ha,hb⟩
 .rw [e,(IP hx ha hb).2];grind
 rw [e,(Kn ha hb).2]
 grind [fL]
theorem xb {l:List Change}(h:dC l){x y:Change}(hx:x∈l)(hy:y∈l)(e:x.Key=y.Key):x=y:=by
 rcases dC.cut h x.Key with ⟨A,B,z,e1,hz,ha,hb⟩ | ⟨A,B,e1,ha,hb⟩
 .grind [fL]
 grind [fL]
theorem Oi {l:List Change}(h:dC l){c:Change}:(rk (fK c.Key) l=true/\l[kS (fK c.Key) l]? = some c)↔c∈l:=by
 constructor
 .grind
 intro hc
 rcases dC.cut h c.Key with ⟨A,B,z,e1,hz,ha,hb⟩ | ⟨A,B,e1,ha,hb⟩
 .
  have hk:=IP hz ha hb
  have e2:z=c:=xb h az hc hz
  grind
 grind [fL]
def XI (a b:List Change)(x:Change):Prop:=(∃c∈a,(∀y∈b,y.Key≠c.Key)/\x=ub c.Key)∨(x∈b/\¬ x∈a)
theorem Gx {a b:List Change}(hb:dC b){x:Change}:x∈Al a b ↔ ∃c∈a,(∀y∈b,y.Key≠c.Key)/\x=ub c.Key:=by
 unfold Al
 grind [R4]
theorem Gy {a b:List Change}(ha:dC a){x:Change}:x∈Gw a b↔x∈b/\¬ x∈a:=by
 unfold Gw
 rw [List.mem_filter,<- Oi ha (c:=x)]
 grind
theorem Oj {a b:List Change}(ha:dC a)(hb:dC b){x:Change}:x∈vT a b↔XI a b x:=by
 grind [vT,XI,Gx,Gy]
theorem lf:∀ (n:Nat) (a b:List Change),a.length+b.length<=n->dC a->dC b->(∀x,x∈bE a b↔XI a b x)/\dC (bE a b)
 | n,[],b,_,_,hb=>by
  rw [nG]
  refine ⟨fun x=>⟨fun h => .inr ⟨h,fun q=>by cases q⟩,?_⟩,hb⟩
  rintro (⟨c,hc,_⟩ | ⟨h,_⟩)
  .grind
  omega
 | 0,x::a,b,h,_,_=>by grind
 | n+1,x::a,[],hn,ha,hb=>by
  obtain ⟨a1,a2⟩:=List.pairwise_cons.1 ha
  obtain ⟨i1,i2⟩:=lf n a [] az a2 hb
  rw [C2]
  refine ⟨fun z=>?_,List.pairwise_cons.2 ⟨fun z hz=>?_,i2⟩⟩
  .
   rw [List.mem_cons,i1 z]
   constructor
   .
    rintro (rfl|⟨c,hc,hh,rfl⟩ | ⟨h,_⟩)
    .exact .inl ⟨x,List.mem_cons_self ..,(fun y hy=>by grind),rfl⟩
    .exact .inl ⟨c,List.mem_cons_of_mem _ hc,hh,rfl⟩
    grind
   rintro (⟨c,hc,hh,rfl⟩ | ⟨h,_⟩)
   .
    rcases List.mem_cons.1 hc with rfl|hc
    .grind
    exact .inr (.inl ⟨c,hc,hh,rfl⟩)
   grind
  rcases (i1 z).1 hz with ⟨c,hc,_,rfl⟩ | ⟨h,_⟩
  .exact a1 c hc
  grind
 | n+1,x::a,y::b,hn,ha,hb=>by
  obtain ⟨a1,a2⟩:=List.pairwise_cons.1 ha
  obtain ⟨b1,b2⟩:=List.pairwise_cons.1 hb
  simp only [List.length_cons] at hn
  have ne_of:∀ {u v:ByteArray},hY u v=true->u≠v:=fun h e=>by grind [fL]
  rw [od]
  by_cases c1:hY x.Key y.Key=true
  .
   rw [if_pos c1]
   obtain ⟨i1,i2⟩:=lf n a (y::b) az a2 hb
   have hxb:∀z∈y::b,hY x.Key z.Key=true:=fun z hz=>by
    grind [nD]
   refine ⟨fun z=>?_,List.pairwise_cons.2 ⟨fun z hz=>?_,i2⟩⟩
   .
    rw [List.mem_cons,i1 z]
    constructor
    .
     rintro (rfl|⟨c,hc,hh,rfl⟩ | ⟨h,h'⟩)
     .exact .inl ⟨x,List.mem_cons_self ..,(fun z hz e=>ne_of (hxb z hz) e.symm),rfl⟩
     .exact .inl ⟨c,List.mem_cons_of_mem _ hc,hh,rfl⟩
     exact .inr ⟨h,fun q=>by
      grind⟩
    rintro (⟨c,hc,hh,rfl⟩ | ⟨h,h'⟩)
    .
     rcases List.mem_cons.1 hc with rfl|hc
     .grind
     exact .inr (.inl ⟨c,hc,hh,rfl⟩)
    exact .inr (.inr ⟨h,fun q=>h' (List.mem_cons_of_mem _ q)⟩)
   rcases (i1 z).1 hz with ⟨c,hc,_,rfl⟩ | ⟨h,_⟩
   .exact a1 c hc
   exact hxb z h
  rw [if_neg c1]
  by_cases c2:hY y.Key x.Key=true
  .
   rw [if_pos c2]
   obtain ⟨i1,i2⟩:=lf n (x::a) b az ha b2
   have hya:∀z∈x::a,hY y.Key z.Key=true:=fun z hz=>by
    grind [nD]
   refine ⟨fun z=>?_,List.pairwise_cons.2 ⟨fun z hz=>?_,i2⟩⟩
   .
    rw [List.mem_cons,i1 z]
    constructor
    .
     rintro (rfl|⟨c,hc,hh,rfl⟩ | ⟨h,h'⟩)
     .exact .inr ⟨List.mem_cons_self ..,fun q=>ne_of (hya z q) rfl⟩
     .exact .inl ⟨c,hc,(fun w hw=>by
       grind),rfl⟩
     exact .inr ⟨List.mem_cons_of_mem _ h,h'⟩
    rintro (⟨c,hc,hh,rfl⟩ | ⟨h,h'⟩)
    .exact .inr (.inl ⟨c,hc,(fun w hw=>hh w (List.mem_cons_of_mem _ hw)),rfl⟩)
    rcases List.mem_cons.1 h with rfl|h
    .grind
    exact .inr (.inr ⟨h,h'⟩)
   rcases (i1 z).1 hz with ⟨c,hc,_,rfl⟩ | ⟨h,_⟩
   .exact hya c hc
   grind
  rw [if_neg c2]
  have e:x.Key=y.Key:=by
   grind [vJ]
  obtain ⟨i1,i2⟩:=lf n a b ae a2 b2
  have hz0:∀z∈bE a b,hY y.Key z.Key=true:=fun z hz=>by
   rcases (i1 z).1 hz with ⟨c,hc,_,rfl⟩ | ⟨h,_⟩
   .rw [<- e];exact a1 c hc
   grind
  have hgen:∀z,XI (x::a) (y::b) z↔(z=y/\x≠y)∨XI a b z:=fun z=>by
   constructor
   .
    rintro (⟨c,hc,hh,rfl⟩ | ⟨h,h'⟩)
    .
     rcases List.mem_cons.1 hc with rfl|hc
     .grind
     exact .inr (.inl ⟨c,hc,(fun w hw=>hh w (List.mem_cons_of_mem _ hw)),rfl⟩)
    rcases List.mem_cons.1 h with rfl|h
    .grind
    exact .inr (.inr ⟨h,fun q=>h' (List.mem_cons_of_mem _ q)⟩)
   rintro (⟨rfl,hne⟩ | ⟨c,hc,hh,rfl⟩ | ⟨h,h'⟩)
   .
    refine .inr ⟨List.mem_cons_self ..,fun q=>?_⟩
    grind
   .
    refine .inl ⟨c,List.mem_cons_of_mem _ hc,fun w hw=>?_,rfl⟩
    grind
   refine .inr ⟨List.mem_cons_of_mem _ h,fun q=>?_⟩
   grind
  by_cases c3:x=y
  .grind
  rw [if_neg c3]
  refine ⟨fun z=>?_,List.pairwise_cons.2 ⟨hz0,i2⟩⟩
  grind
theorem mem_merge {a b:List Change}(ha:dC a)(hb:dC b){x:Change}:x∈bE a b↔XI a b x:=(lf _ a b (Nat.le_refl _) ha hb).1 x
theorem qD {a b:List Change}(ha:dC a)(hb:dC b):dC (bE a b):=(lf _ a b (Nat.le_refl _) ha hb).2
abbrev Apart (l:List Change):Prop:=l.Pairwise (fun x y=>x.Key≠y.Key)
theorem qE {l:List Change}(h:dC l):Apart l:=List.Pairwise.imp (fun q e=>by grind [fL]) h
theorem LU {a b:List Change}(ha:dC a)(hb:dC b):Apart (vT a b):=by
 unfold vT
 refine List.pairwise_append.2 ⟨?_,(qE hb).filter _,?_⟩
 .
  unfold Al
  exact List.pairwise_map.2 ((qE ha).filter _)
 intro x hx y hy e
 obtain ⟨c,hc,hn,rfl⟩:=(Gx hb).1 hx
 exact hn y ((Gy ha).1 hy).1 e.symm
theorem IZ {a b d:List Change}(ha:dC a)(hb:dC b)(hp:d.Perm (vT a b))(hs:d.Pairwise (fun x y => ¬ hY y.Key x.Key=true)):d=bE a b:=by
 have h1:Apart d:=hp.symm.pairwise (LU ha hb) (fun q e=>q e.symm)
 have h2:dC d:=by
  refine List.Pairwise.imp ?_ (hs.and h1)
  grind [vJ]
 grind [w9,qD,Oj,mem_merge]
theorem C4:∀ (l:List Change) {rows:List Change},dC rows->dC l -> ∀ {y:Change},y∈bX rows l↔(y∈rows /\ ∀c∈l,c.Key≠y.Key)∨(y∈l/\y.Gone=false)
 | [],rows,hr,_,y=>by
  show y∈rows↔_
  grind
 | c::l,rows,hr,hl,y=>by
  obtain ⟨l1,l2⟩:=List.pairwise_cons.1 hl
  show y∈bX (BU rows c) l↔_
  rw [C4 l (vM hr c) l2,Kr hr]
  grind [List.mem_cons_self,List.mem_cons_of_mem,fL]
theorem sq {a b:List Change}(ha:dC a)(hb:dC b)(hg:∀c∈b,c.Gone=false):bX a (bE a b)=b:=by
 refine w9 _ _ (uK _ ha) hb fun y=>?_
 rw [C4 _ ha (qD ha hb)]
 constructor
 .
  rintro (⟨h1,h2⟩ | ⟨h1,h2⟩)
  .
   by_cases hy:∃z∈b,z.Key=y.Key
   .
    obtain ⟨z,hz,e⟩:=hy
    by_cases hza:z∈a
    .grind [xb]
    exact absurd e (h2 z ((mem_merge ha hb).2 (.inr ⟨hz,hza⟩)))
   exact absurd rfl (h2 (ub y.Key) ((mem_merge ha hb).2 (.inl ⟨y,h1,fun z hz e=>hy ⟨z,hz,e⟩,rfl⟩)))
  rcases (mem_merge ha hb).1 h1 with ⟨c,_,_,rfl⟩ | ⟨q,_⟩
  .cases h2
  omega
 intro h
 by_cases hya:y∈a
 .
  refine .inl ⟨hya,fun c hc e=>?_⟩
  rcases (mem_merge ha hb).1 hc with ⟨d,_,hn,rfl⟩ | ⟨q1,q2⟩
  .exact hn y h e.symm
  grind [xb]
 exact .inr ⟨(mem_merge ha hb).2 (.inr ⟨h,hya⟩),hg y h⟩
end Go.Proofs.YtnmpibjlnninjaaGreatDoor
