import Derived.Test.YtnmpibjlnninjaaGreatDoorKS8
import Derived.Lib.Atoi
import Derived.Lib.ItoaNum
import Derived.Lib.Repeat
namespace Go.Proofs.YtnmpibjlnninjaaGreatDoor
set_option linter.unusedVariables false
set_option linter.unusedSimpArgs false
set_option maxRecDepth 100000
set_option maxHeartbeats 90000000
section
open Go
def c0:Change:=⟨⟨#[]⟩,⟨#[]⟩,false⟩
def gY (c:Change):Int :=
  if c.Key=⟨#[]⟩∨(c.Gone=true/\¬ c.Val=⟨#[]⟩) then 3 else if 8<c.Key.size∨24<c.Val.size then 2 else 0
theorem jP (c:Change):gY c=0∨gY c=2∨gY c=3:=by grind [gY]
theorem ig {c:Change}(h:gY c=0):c.Key≠⟨#[]⟩/\(c.Gone=true->c.Val=⟨#[]⟩)/\c.Key.size<=8/\c.Val.size<=24:=by
 unfold gY at h
 grind
theorem MY {c:Change}(h1:c.Key≠⟨#[]⟩)(h2:c.Gone=true->c.Val=⟨#[]⟩)(h3:c.Key.size<=8)(h4:c.Val.size<=24):gY c=0:=by
 simp_all [gY,if_neg]
def B3 (b:Bool):UInt8:=if b=true then 1 else 0
def kM (c:Change):ByteArray×Int :=
  if gY c=0 then (⟨#[B3 c.Gone,UInt8.ofNat c.Key.size]⟩++c.Key++c.Val,0) else (⟨#[]⟩,gY c)
def bO (s:ByteArray)(i:Nat):Nat:=((s.data[i]?).getD 0).toNat
theorem aQ {s:ByteArray}{i:Nat}{x:UInt8}(h:s.data[i]? = some x):bO s i=x.toNat:=by grind [bO]
theorem KL (s:ByteArray)(i:Nat):bO s i<256:=by grind [bO,UInt8.toNat_lt]
def MZ (s:ByteArray):Change:=⟨s.extract 2 (2+bO s 1),s.extract (2+bO s 1) s.size,decide (bO s 0=1)⟩
def tA (s:ByteArray):Change×Int :=
  if s.size<2∨1<bO s 0∨s.size<2+bO s 1 then (c0,4) else if gY (MZ s)=0 then (MZ s,0) else (c0,4)
abbrev bl (s:ByteArray):List UInt8:=s.data.toList
theorem iz (s:ByteArray):(bl s).length=s.size:=Array.length_toList
theorem jW (a b:ByteArray):bl (a++b)=bl a++bl b:=ck
theorem pJ (s:ByteArray)(i j:Nat):bl (s.extract i j)=((bl s).take j).drop i:=by
 grind [ByteArray.data_extract,Array.toList_extract,List.extract_eq_take_drop,List.drop_take]
theorem ka (s:ByteArray)(i:Nat):bO s i=(((bl s)[i]?).getD 0).toNat:=by simp [bO,bl]
theorem M0 {s:ByteArray}(h:s.size=0):s=⟨#[]⟩:=iW tT
theorem qW {n:Nat}(h:n<256):(UInt8.ofNat n).toNat=n:=tT
theorem M1 {c:Change}(h:gY c=0):bl (kM c).1=B3 c.Gone::UInt8.ofNat c.Key.size::(bl c.Key++bl c.Val):=by
 simp_all [kM,bl,if_pos,jW]
theorem lS {c:Change}(h:gY c=0):(kM c).1.size=2+c.Key.size+c.Val.size:=by
 grind [iz,M1,List.length_cons,List.length_append]
theorem Jz {c:Change}(h:gY c=0):tA (kM c).1=(c,0):=by
 obtain ⟨h1,h2,h3,h4⟩:=ig h
 have hb:=M1 h
 have hs:=lS h
 have b0:bO (kM c).1 0=(B3 c.Gone).toNat:=by grind [ka]
 have b1:bO (kM c).1 1=c.Key.size:=by grind [ka,qW]
 have g:(B3 c.Gone).toNat=1/\c.Gone=true∨(B3 c.Gone).toNat=0/\c.Gone=false:=by cases c.Gone <;> simp [B3]
 have hof:MZ (kM c).1=c:=by
  unfold MZ
  rw [b0,b1]
  have e1:(kM c).1.extract 2 (2+c.Key.size)=c.Key:=iW (by
   simp_all)
  have e2:(kM c).1.extract (2+c.Key.size) (kM c).1.size=c.Val:=iW (by
   grind [kM,pJ,List.take_of_length_le,List.length_cons,List.length_append,iz,List.drop_left])
  rw [e1,e2]
  rcases g with ⟨g1,g2⟩ | ⟨g1,g2⟩ <;> (rw [g1];cases c;grind)
 unfold tA
 grind
def fK (k:ByteArray)(x:Change):Int:=De x.Key k
def AO (rows:List Change)(c:Change):List Change :=
  if qn (fK c.Key) rows=true then (if c.Gone=true then rows.take (jF (fK c.Key) rows)++rows.drop (jF (fK c.Key) rows+1) else rows.set (jF (fK c.Key) rows) c)
  else if c.Gone=true then rows else rows.take (jF (fK c.Key) rows)++[c]++rows.drop (jF (fK c.Key) rows)
def cm (rows l:List Change):List Change:=l.foldl AO rows
theorem pK {rows l:List Change}{k:Nat}{c:Change}(h:l[k]? = some c):cm rows (l.take (k+1))=AO (cm rows (l.take k)) c:=by
 grind [cm,List.take_add_one]
theorem Qm (rows:List Change)(c:Change):(AO rows c).length<=rows.length+1:=by
 grind [AO]
theorem lr:∀ (l rows:List Change),(cm rows l).length<=rows.length+l.length
 | [],rows=>by simp [cm]
 | c::l,rows=>by
  have h1:=lr l (AO rows c)
  have h2:=Qm rows c
  show (cm (AO rows c) l).length<=_
  rw [List.length_cons];omega
def eU (c:Change)(s:List Change×Bool)(x:Change):List Change×Bool :=
  let s1:=if s.2=false/\(gQ c.Key x.Key||decide (c.Key=x.Key))=true then (s.1++[c],true) else s
  (if x.Key=c.Key then s1.1 else s1.1++[x],s1.2)
def AR (rows:List Change)(c:Change):List Change×Bool:=rows.foldl (eU c) ([],c.Gone)
def JA (rows:List Change)(c:Change):List Change:=if (AR rows c).2=true then (AR rows c).1 else (AR rows c).1++[c]
def ej (rows l:List Change):List Change:=l.foldl JA rows
theorem uC {rows l:List Change}{k:Nat}{c:Change}(h:l[k]? = some c):ej rows (l.take (k+1))=JA (ej rows (l.take k)) c:=by
 grind [ej,List.take_add_one]
theorem mK {rows:List Change}{c:Change}{k:Nat}{x:Change}(h:rows[k]? = some x):AR (rows.take (k+1)) c=eU c (AR (rows.take k) c) x:=by
 grind [AR,List.take_add_one]
theorem Ft (c:Change)(s:List Change×Bool)(x:Change):(eU c s x).1.length+(if (eU c s x).2=true then 0 else 1)<=s.1.length+(if s.2=true then 0 else 1)+1:=by
 unfold eU;grind
theorem y9 (c:Change):∀ (rows:List Change) (s:List Change×Bool),(rows.foldl (eU c) s).1.length+(if (rows.foldl (eU c) s).2=true then 0 else 1)<=s.1.length+(if s.2=true then 0 else 1)+rows.length
 | [],s=>Nat.le_refl _
 | x::rows,s=>by
  rw [List.foldl_cons,List.length_cons]
  have h1:=y9 c rows (eU c s x)
  have h2:=Ft c s x
  omega
theorem Qn (rows:List Change)(c:Change):(JA rows c).length<=rows.length+1:=by
 have h:=y9 c rows ([],c.Gone)
 grind [JA,AR,eU]
theorem pL:∀ (l rows:List Change),(ej rows l).length<=rows.length+l.length
 | [],rows=>by simp [ej]
 | c::l,rows=>by
  have h1:=pL l (JA rows c)
  have h2:=Qn rows c
  show (ej (JA rows c) l).length<=_
  rw [List.length_cons];omega
def dN (l:List Change):Prop:=l.Pairwise (fun a b=>gQ a.Key b.Key=true)
inductive Cut (l:List Change)(k:ByteArray):Prop where
  | hit (A B:List Change) (x:Change) (e:l=A++x::B) (hx:x.Key=k) (ha:∀y∈A,gQ y.Key k=true) (hb:∀y∈B,gQ k y.Key=true)
  | miss (A B:List Change) (e:l=A++B) (ha:∀y∈A,gQ y.Key k=true) (hb:∀y∈B,gQ k y.Key=true)
theorem dN.cut:∀ {l:List Change} (h:dN l) (k:ByteArray),Cut l k
 | [],h,k => .miss [] [] rfl (fun y hy=>by cases hy) (fun y hy=>by cases hy)
 | x::l,h,k=>by
  obtain ⟨h1,h2⟩:=List.pairwise_cons.1 h
  rcases uB x.Key k with hl|hl|hl
  .
   rcases dN.cut h2 k with ⟨A,B,y,e,hy,ha,hb⟩ | ⟨A,B,e,ha,hb⟩
   .exact .hit (x::A) B y (by rw [e];rfl) hy (fun z hz=>by rcases List.mem_cons.1 hz with r|r;exact r▸hl;exact ha z r) hb
   exact .miss (x::A) B (by rw [e];rfl) (fun z hz=>by rcases List.mem_cons.1 hz with r|r;exact r▸hl;exact ha z r) hb
  .subst hl;exact .hit [] l x rfl rfl (fun y hy=>by cases hy) h1
  exact .miss [] (x::l) rfl (fun y hy=>by cases hy) (fun z hz=>by rcases List.mem_cons.1 hz with r|r;exact r▸hl;exact mJ hl (h1 z r))
theorem R6 {f:Change->Int}{A R:List Change}(ha:∀y∈A,f y<0)(hr:∀y∈R,¬ f y<0):jF f (A++R)=A.length:=by
 have hm:∀ (i j:Nat) x y,i<=j->(A++R)[i]? = some x->(A++R)[j]? = some y->f y<0->f x<0:=fun i j x y hij hx hy hf=>by
  grind
 obtain ⟨h1,h2⟩:=ET hm
 rcases Nat.lt_trichotomy (jF f (A++R)) A.length with h|h|h
 .
  have hg:=List.getElem?_eq_getElem h
  exact absurd (ha _ (List.mem_of_getElem? hg)) (h2 (jF f (A++R)) _ (Nat.le_refl _) aB)
 .exact h
 have hle:jF f (A++R)<=(A++R).length:=qM
 have hlt:A.length<(A++R).length:=ae
 have hg:=List.getElem?_eq_getElem hlt
 grind
theorem Df {k:ByteArray}{x:Change}:fK k x<0↔gQ x.Key k=true:=Fq
theorem Hw {k:ByteArray}{x:Change}(h:gQ k x.Key=true):¬ fK k x<0/\fK k x≠0:=by
 refine ⟨fun hh=>?_,fun hh=>?_⟩
 .grind [rW,Df]
 have e:=BZ.1 hh;grind [fN]
def mid (c:Change):List Change:=if c.Gone=true then [] else [c]
theorem Hy {A B:List Change}{x:Change}{k:ByteArray}(hx:x.Key=k)(ha:∀y∈A,gQ y.Key k=true)(hb:∀y∈B,gQ k y.Key=true):jF (fK k) (A++x::B)=A.length/\qn (fK k) (A++x::B)=true:=by
 have e:jF (fK k) (A++x::B)=A.length:=R6 (fun y hy=>Df.2 (ha y hy)) (fun y hy=>by
  rcases List.mem_cons.1 hy with r|r
  .grind [Df,fN]
  exact (Hw (hb y r)).1)
 refine ⟨e,?_⟩
 unfold qn;rw [e,List.getElem?_append_right (Nat.le_refl _),Nat.sub_self]
 exact decide_eq_true (BZ.2 hx)
theorem JB {A B:List Change}{k:ByteArray}(ha:∀y∈A,gQ y.Key k=true)(hb:∀y∈B,gQ k y.Key=true):jF (fK k) (A++B)=A.length/\qn (fK k) (A++B)=false:=by
 have e:jF (fK k) (A++B)=A.length:=R6 (fun y hy=>Df.2 (ha y hy)) (fun y hy=>(Hw (hb y hy)).1)
 refine ⟨e,?_⟩
 unfold qn;rw [e,List.getElem?_append_right (Nat.le_refl _),Nat.sub_self]
 cases B with
 | nil=>rfl
 | cons y B=>exact decide_eq_false (Hw (hb y (List.mem_cons_self ..))).2
theorem JC {A B:List Change}{x c:Change}(hx:x.Key=c.Key)(ha:∀y∈A,gQ y.Key c.Key=true)(hb:∀y∈B,gQ c.Key y.Key=true):AO (A++x::B) c=A++mid c++B:=by
 obtain ⟨e1,e2⟩:=Hy hx ha hb
 unfold AO mid
 rw [if_pos e2,e1]
 split
 .simp
 grind
theorem za {A B:List Change}{c:Change}(ha:∀y∈A,gQ y.Key c.Key=true)(hb:∀y∈B,gQ c.Key y.Key=true):AO (A++B) c=A++mid c++B:=by
 obtain ⟨e1,e2⟩:=JB ha hb
 unfold AO mid
 grind
theorem Hz {c:Change}:∀ (A:List Change) (s:List Change×Bool),(∀y∈A,gQ y.Key c.Key=true)->A.foldl (eU c) s=(s.1++A,s.2)
 | [],s,h=>by simp
 | x::A,s,h=>by
  have hx:=h x (List.mem_cons_self ..)
  have e:eU c s x=(s.1++[x],s.2):=by
   unfold eU
   have h1:(gQ c.Key x.Key||decide (c.Key=x.Key))=false:=by
    rw [rW hx];simp;intro e;rw [e,fN] at hx;cases hx
   rw [if_neg (by rw [h1];simp)]
   have h2:¬ x.Key=c.Key:=fun e=>by rw [e,fN] at hx;cases hx
   dsimp only;rw [if_neg h2]
  rw [List.foldl_cons,e,Hz A _ (fun y hy=>h y (List.mem_cons_of_mem _ hy))];simp
theorem uD {c:Change}:∀ (B:List Change) (acc:List Change),(∀y∈B,gQ c.Key y.Key=true)->B.foldl (eU c) (acc,true)=(acc++B,true)
 | [],s,h=>by simp
 | x::B,acc,h=>by
  have hx:=h x (List.mem_cons_self ..)
  have e:eU c (acc,true) x=(acc++[x],true):=by
   unfold eU
   rw [if_neg bW]
   have h2:¬ x.Key=c.Key:=fun e=>by rw [e,fN] at hx;cases hx
   dsimp only;rw [if_neg h2]
  rw [List.foldl_cons,e,uD B _ (fun y hy=>h y (List.mem_cons_of_mem _ hy))];simp
theorem Qo {c:Change}{acc B:List Change}{b:Bool}(hb:∀y∈B,gQ c.Key y.Key=true)(hg:b=c.Gone) :
 (if (B.foldl (eU c) (acc,b)).2=true then (B.foldl (eU c) (acc,b)).1 else (B.foldl (eU c) (acc,b)).1++[c])=acc++mid c++B:=by
 unfold mid
 cases b with
 | true=>grind [uD]
 | false =>
  rw [<- hg]
  cases B with
  | nil=>simp
  | cons x B =>
   have hx:=hb x (List.mem_cons_self ..)
   have e:eU c (acc,false) x=(acc++[c]++[x],true):=by
    unfold eU
    rw [if_pos ⟨rfl,aB⟩]
    have h2:¬ x.Key=c.Key:=fun e=>by grind [fN]
    grind
   grind [uD,List.mem_cons_of_mem]
theorem Qp {A B:List Change}{x c:Change}(hx:x.Key=c.Key)(ha:∀y∈A,gQ y.Key c.Key=true)(hb:∀y∈B,gQ c.Key y.Key=true):JA (A++x::B) c=A++mid c++B:=by
 unfold JA AR
 rw [List.foldl_append,Hz A _ ha,List.nil_append,List.foldl_cons]
 have h1:(gQ c.Key x.Key||decide (c.Key=x.Key))=true:=aB
 cases hg:c.Gone with
 | true =>
  simp_all [eU,mid,if_neg,if_pos,uD]
 | false =>
  have e:eU c (A,false) x=(A++[c],true):=by unfold eU;grind
  grind [mid,uD]
theorem M3 {A B:List Change}{c:Change}(ha:∀y∈A,gQ y.Key c.Key=true)(hb:∀y∈B,gQ c.Key y.Key=true):JA (A++B) c=A++mid c++B:=by
 unfold JA AR
 rw [List.foldl_append,Hz A _ ha,List.nil_append]
 grind [Qo]
theorem Tx {l:List Change}(h:dN l)(c:Change):AO l c=JA l c:=by
 rcases h.cut c.Key with ⟨A,B,x,rfl,hx,ha,hb⟩ | ⟨A,B,rfl,ha,hb⟩
 .grind [JC,Qp]
 grind [za,M3]
theorem JD {l:List Change}(h:dN l)(c:Change):∃A B,AO l c=A++mid c++B/\(∀y∈A,gQ y.Key c.Key=true)/\(∀y∈B,gQ c.Key y.Key=true)/\dN (A++B) /\ ∀y,y∈A++B↔y∈l/\y.Key≠c.Key:=by
 have hlt:∀ {y:Change},gQ y.Key c.Key=true->y.Key≠c.Key:=fun h e=>by grind [fN]
 have hgt:∀ {y:Change},gQ c.Key y.Key=true->y.Key≠c.Key:=fun h e=>by grind
 rcases h.cut c.Key with ⟨A,B,x,rfl,hx,ha,hb⟩ | ⟨A,B,rfl,ha,hb⟩
 .
  refine ⟨A,B,JC hx ha hb,ha,hb,?_,fun y=>?_⟩
  .
   obtain ⟨h1,h2,h3⟩:=List.pairwise_append.1 h
   exact List.pairwise_append.2 ⟨h1,(List.pairwise_cons.1 h2).2,fun a ha b hb=>h3 a ha b (List.mem_cons_of_mem _ hb)⟩
  grind
 refine ⟨A,B,za ha hb,ha,hb,h,fun y=>⟨fun hy=>⟨hy,?_⟩,And.left⟩⟩
 grind
theorem uE {l:List Change}(h:dN l)(c:Change):dN (AO l c):=by
 obtain ⟨A,B,e,ha,hb,hr,_⟩:=JD h c
 rw [e]
 obtain ⟨h1,h2,h3⟩:=List.pairwise_append.1 hr
 unfold mid
 split
 .grind
 exact List.pairwise_append.2 ⟨List.pairwise_append.2 ⟨h1,List.pairwise_singleton _ _,fun a haa b hbb=>by grind⟩,h2,fun a haa b hbb=>by
  grind⟩
theorem JE {l:List Change}(h:dN l){c y:Change}:y∈AO l c↔(y∈l/\y.Key≠c.Key)∨(c.Gone=false/\y=c):=by
 obtain ⟨A,B,e,ha,hb,hr,hm⟩:=JD h c
 rw [e,<- hm y]
 simp only [List.mem_append,mid]
 grind
theorem tC:∀ (l:List Change) {rows:List Change},dN rows->dN (cm rows l)
 | [],rows,h=>h
 | c::l,rows,h=>tC l (uE h c)
theorem uF:∀ (l:List Change) {rows:List Change},dN rows->cm rows l=ej rows l
 | [],rows,h=>rfl
 | c::l,rows,h=>by
  show cm (AO rows c) l=ej (JA rows c) l
  rw [<- Tx h c];exact uF l (uE h c)
theorem vJ:∀ (a b:List Change),dN a->dN b->(∀x,x∈a↔x∈b)->a=b
 | [],[],_,_,_=>rfl
 | [],y::b,_,_,h=>absurd ((h y).2 (List.mem_cons_self ..)) bW
 | x::a,[],_,_,h=>absurd ((h x).1 (List.mem_cons_self ..)) bW
 | x::a,y::b,ha,hb,h=>by
  obtain ⟨a1,a2⟩:=List.pairwise_cons.1 ha
  obtain ⟨b1,b2⟩:=List.pairwise_cons.1 hb
  have no:∀ {u v:Change},gQ u.Key v.Key=true->gQ v.Key u.Key=true->False:=fun h k=>by
   have:=rW h;rw [k] at this;cases this
  have hxy:x=y:=by
   rcases List.mem_cons.1 ((h x).1 (List.mem_cons_self ..)) with e|e
   .exact e
   rcases List.mem_cons.1 ((h y).2 (List.mem_cons_self ..)) with e2|e2
   .exact e2.symm
   exact (no (b1 x e) (a1 y e2)).elim
  subst hxy
  congr 1
  refine vJ a b a2 b2 fun z=>⟨fun hz=>?_,fun hz=>?_⟩
  .
   rcases List.mem_cons.1 ((h z).1 (List.mem_cons_of_mem _ hz)) with e|e
   .subst e;have:=a1 z hz;rw [fN] at this;cases this
   exact e
  rcases List.mem_cons.1 ((h z).2 (List.mem_cons_of_mem _ hz)) with e|e
  .subst e;have:=b1 z hz;rw [fN] at this;cases this
  exact e
end
def eo (n:Int):ByteArray:=⟨(Lib.itoa n).toArray⟩
def bN (n:Int):ByteArray:=⟨(Lib.repeatL [48] (4-(eo n).size)).toArray⟩++eo n
def xw (s:ByteArray):Option Int:=match Lib.atoi s.data.toList with|some n=>if bN n=s then some n else none|none=>none
def jJ (s:ByteArray):Nat->Option (List Int)
  | 0=>some []
  | k+1=>match jJ s k with
    | some l=>match xw (s.extract (4*k) (4*k+4)) with|some n=>some (l++[n])|none=>none
    | none=>none
def eO (s:ByteArray)(m:Nat):Option (List Int):=if s.size<4*m then none else jJ s m
theorem vK {s:ByteArray}:∀ {k:Nat} {l:List Int},jJ s k=some l->l.length=k
 | 0,l,h=>by simp [jJ] at h;subst h;rfl
 | k+1,l,h=>by
  simp only [jJ] at h
  split at h
  .
   rename_i l' h'
   split at h
   .injection h with h;subst h;simp [vK h']
   cases h
  cases h
theorem HD {s:ByteArray}{k:Nat}{l:List Int}{n:Int}(h:jJ s k=some l)(hn:xw (s.extract (4*k) (4*k+4))=some n):jJ s (k+1)=some (l++[n]):=by grind [jJ]
theorem zb {s:ByteArray}:∀ {m k:Nat},k<=m->jJ s k=none->jJ s m=none
 | 0,k,hk,h=>by
  have:k=0:=ae
  subst this;exact h
 | m+1,k,hk,h=>by
  rcases Nat.lt_or_ge k (m+1) with h1|h1
  .simp only [jJ,zb (m:=m) ae h]
  have:k=m+1:=ae
  subst this;exact h
theorem KN {s:ByteArray}{k m:Nat}{l:List Int}(hk:k<m)(h:jJ s k=some l)(hn:xw (s.extract (4*k) (4*k+4))=none):jJ s m=none :=
 zb (k:=k+1) ae (by grind [jJ])
theorem KO {s:ByteArray}{m:Nat}{l:List Int}(h:eO s m=some l):l.length=m/\4*m<=s.size:=by
 grind [eO,vK]
def kH:ByteArray:=⟨#[104]⟩
def kT:ByteArray:=⟨#[116]⟩
def kW:ByteArray:=⟨#[119]⟩
def kX:ByteArray:=⟨#[120]⟩
def hrow (h:Held):Change:=⟨kH++eo h.Place.ay++eo h.Place.Slot,bN h.ap,false⟩
def lu (t:aA):Change:=⟨kT++bN t.ID,bN t.Kind++t.Data,false⟩
def nH (w:ap):Change:=⟨kW++bN w.ID,bN w.aA++bN w.Rights++bN w.aU++bN w.From,false⟩
def Fu (r:av):Change:=⟨kX,bN r.ag++bN r.ah,false⟩
def rowsOf (q:av):List Change:=q.Held.map hrow++q.Things.map lu++q.ao.map nH++[Fu q]
def aY (r:av):List Change:=rowsOf (aP r)
def Qq (s:ByteArray)(i:Nat):Int:=(bO s i:Int)
def Wq (c:Change):Place:=⟨Qq c.Key 1-48,Qq c.Key 2-48⟩
def KP (r:av)(h:Held):av:=⟨r.ao,r.Things,r.Held++[h],r.Notes,r.ag,r.ah⟩
def KQ (r:av)(t:aA):av:=⟨r.ao,r.Things++[t],r.Held,r.Notes,r.ag,r.ah⟩
def Fv (r:av)(w:ap):av:=⟨r.ao++[w],r.Things,r.Held,r.Notes,r.ag,r.ah⟩
def Qr (r:av)(a b:Int):av:=⟨r.ao,r.Things,r.Held,r.Notes,a,b⟩
def KR (o:Option (List Int))(j:Nat):Int:=((o.getD [])[j]?).getD 0
def rowP (r:av)(c:Change):av×Bool :=
  if c.Key.size=0 then (r,false) else
  let key:=eO (c.Key.extract 1 c.Key.size) 1
  let ok:=key.isSome&&decide (c.Key.size=5)
  let n1:=eO c.Val 1
  let n4:=eO c.Val 4
  let n2:=eO c.Val 2
  if bO c.Key 0=104 then (if n1.isSome=false∨c.Val.size≠4∨c.Key.size≠3 then (r,false) else (KP r ⟨Wq c,KR n1 0⟩,decide (bB (Wq c)=0)))
  else if bO c.Key 0=116 then (if ok=false∨n1.isSome=false∨12<c.Val.size then (r,false) else (KQ r ⟨KR key 0,KR n1 0,c.Val.extract 4 c.Val.size⟩,decide (KR n1 0=1∨KR n1 0=2/\c.Val.size=4)))
  else if bO c.Key 0=119 then (if ok=false∨n4.isSome=false∨c.Val.size≠16 then (r,false) else (Fv r ⟨KR key 0,KR n4 0,KR n4 1,KR n4 2,KR n4 3⟩,true))
  else if c.Key≠kX∨n2.isSome=false∨c.Val.size≠8 then (r,false) else (Qr r (KR n2 0) (KR n2 1),true)
def tD (pv:Option ByteArray)(c:Change):Bool:=match pv with|some k=>gQ k c.Key|none=>true
def pgo:List Change->Option ByteArray->av->Option av
  | [],_,r=>some r
  | c::l,pv,r=>if tD pv c && !c.Gone&&(rowP r c).2 then pgo l (some c.Key) (rowP r c).1 else none
structure Whole (r:av):Prop where
  tree:cS r.ao
  je:r.Things.length<=10
  oT:1<=r.ag
  qB:r.ag<=1000
  pG:1<=r.ah
  pH:r.ah<=1000
  hlen:r.Held.length=r.ao.length
  fy:∀h∈r.Held,0<=cO r.ao h.ap
  once:(r.Held.map Held.ap).Nodup
  things:r.Things.map aA.ID=bC r.ao
  R7:∀w,r.ao.getLast? = some w->w.ID<r.ag
  R8:∀t,r.Things.getLast? = some t->t.ID<r.ah
noncomputable def eP (r:av):Bool:= @decide (Whole r) (Classical.propDecidable _)
noncomputable def cr (l:List Change):av×Int:=match pgo l none r0 with|some r=>if eP r=true then (r,0) else (r0,4)|none=>(r0,4)
theorem zc {r:av}(h:Whole r):eP r=true:=by grind [eP]
theorem gJ {r:av}(h:¬ Whole r):eP r=false:=by grind [eP]
def d8 (k:Nat):UInt8:=UInt8.ofNat (48+k)
def HE (k:Nat):List UInt8:=[d8 (k / 1000),d8 (k / 100 % 10),d8 (k / 10 % 10),d8 (k % 10)]
theorem zd {k:Nat}(h:k<10):(d8 k).toNat=48+k:=qW ae
theorem B5 {a b:Nat}(ha:a<10)(hb:b<10):d8 a<d8 b↔a<b:=by
 grind [UInt8.lt_iff_toNat_lt,zd]
theorem M4 (u:Nat):Lib.decDigits u=if u<10 then [d8 u] else Lib.decDigits (u / 10)++[d8 (u % 10)]:=by
 rw [Lib.decDigits];rfl
theorem Wr (l:List UInt8):bl ⟨l.toArray⟩=l:=rfl
theorem size_mk (l:List UInt8):(⟨l.toArray⟩:ByteArray).size=l.length:=ck
theorem xP {n:Int}(h:0<=n):bl (eo n)=Lib.decDigits n.toNat:=by
 show Lib.itoa n=_
 simp_all [Lib.itoa,if_neg]
theorem Qs {u:Nat}(h:u<10):Lib.decDigits u=[d8 u]:=by rw [M4,if_pos h]
theorem Ws {u:Nat}(h0:10<=u)(h:u<100):Lib.decDigits u=[d8 (u / 10),d8 (u % 10)]:=by rw [M4,if_neg ae,Qs ae];rfl
theorem Wt {u:Nat}(h0:100<=u)(h:u<1000):Lib.decDigits u=[d8 (u / 100),d8 (u / 10 % 10),d8 (u % 10)]:=by
 rw [M4,if_neg ae,Ws ae ae,show u / 10 / 10=u / 100 by omega];rfl
theorem YT {u:Nat}(h0:1000<=u)(h:u<10000):Lib.decDigits u=HE u:=by
 rw [M4,if_neg ae,Wt ae ae,show u / 10 / 100=u / 1000 by omega,show u / 10 / 10 % 10=u / 100 % 10 by omega];rfl
theorem xQ {n:Int}(h0:0<=n)(h1:n<10000):bl (bN n)=HE n.toNat:=by
 have hs:(eo n).size=(Lib.decDigits n.toNat).length:=by grind [iz,xP]
 unfold bN
 rw [jW,Wr,xP h0,hs]
 generalize hk:n.toNat=k
 have hk4:k<10000:=ae
 have z0:(48:UInt8)=d8 0:=rfl
 by_cases c1:k<10
 .
  rw [Qs c1];unfold HE
  rw [show k / 1000=0 by omega,show k / 100 % 10=0 by omega,show k / 10 % 10=0 by omega,show k % 10=k by omega];rfl
 by_cases c2:k<100
 .
  rw [Ws ae c2];unfold HE
  rw [show k / 1000=0 by omega,show k / 100 % 10=0 by omega,show k / 10 % 10=k / 10 by omega];rfl
 by_cases c3:k<1000
 .
  rw [Wt ae c3];unfold HE
  rw [show k / 1000=0 by omega,show k / 100 % 10=k / 100 by omega];rfl
 rw [YT ae hk4];rfl
theorem eJ {n:Int}(h0:0<=n)(h1:n<10000):(bN n).size=4:=by rw [<- iz,xQ h0 h1];rfl
theorem uG {k:Nat}(h:k<10):Lib.digitVal (d8 k)=some k:=by
 unfold Lib.digitVal;rw [zd h,if_pos ae];grind
theorem R9 {k:Nat}(h:k<10){c:UInt8}(hc:c.toNat<48):(d8 k==c)=false:=by
 rw [beq_eq_false_iff_ne];intro e;have:=congrArg UInt8.toNat e;grind [zd]
theorem M5 {k:Nat}(h:k<10000):Lib.atoi (HE k)=some (k:Int):=by
 unfold HE Lib.atoi
 dsimp only
 rw [if_neg (by rw [R9 ae aD];decide),if_neg (by rw [R9 ae aD];decide)]
 simp only [Lib.decNat,List.isEmpty_cons,Bool.false_eq_true,if_false,Lib.decFrom,uG (show k / 1000<10 by omega),uG (show k / 100 % 10<10 by omega),uG (show k / 10 % 10<10 by omega),uG (show k % 10<10 by omega),Option.map_some]
 grind
theorem rX {n:Int}(h0:0<=n)(h1:n<10000):xw (bN n)=some n:=by
 unfold xw
 have e:(bN n).data.toList=HE n.toNat:=xQ h0 h1
 rw [e,M5 ae]
 grind
theorem M6 {a b:Nat}(hb:b<10000)(h:a<b):HE a<HE b:=by
 unfold HE
 simp only [List.cons_lt_cons_iff,B5 (show a / 1000<10 by omega) (show b / 1000<10 by omega),B5 (show a / 100 % 10<10 by omega) (show b / 100 % 10<10 by omega),B5 (show a / 10 % 10<10 by omega) (show b / 10 % 10<10 by omega),B5 (show a % 10<10 by omega) (show b % 10<10 by omega)]
 by_cases c1:a / 1000<b / 1000
 .omega
 refine .inr ⟨aB,?_⟩
 by_cases c2:a / 100 % 10<b / 100 % 10
 .omega
 refine .inr ⟨aB,?_⟩
 by_cases c3:a / 10 % 10<b / 10 % 10
 .omega
 refine .inr ⟨by rw [show a / 10 % 10=b / 10 % 10 by omega],?_⟩
 omega
theorem Fw {n:Int}(h0:0<=n)(h1:n<10):bl (eo n)=[d8 n.toNat]:=by grind [xP,Qs]
theorem hkey {h:Held}(hp:bB h.Place=0):bl (hrow h).Key=[104,d8 h.Place.ay.toNat,d8 h.Place.Slot.toNat]:=by
 have:=bY hp
 show bl (kH++eo h.Place.ay++eo h.Place.Slot)=_
 rw [jW,jW,Fw ae ae,Fw ae ae];rfl
theorem tkey {t:aA}(h0:0<=t.ID)(h1:t.ID<10000):bl (lu t).Key=116::HE t.ID.toNat:=by
 show bl (kT++bN t.ID)=_
 rw [jW,xQ h0 h1];rfl
theorem M7 {w:ap}(h0:0<=w.ID)(h1:w.ID<10000):bl (nH w).Key=119::HE w.ID.toNat:=by
 show bl (kW++bN w.ID)=_
 rw [jW,xQ h0 h1];rfl
theorem uH {a b:ByteArray}{x y:UInt8}{l m:List UInt8}(ha:bl a=x::l)(hb:bl b=y::m)(h:x<y):gQ a b=true:=by
 grind [mA,List.cons_lt_cons_iff]
theorem Dh {a b:ByteArray}{x:UInt8}{l m:List UInt8}(ha:bl a=x::l)(hb:bl b=x::m)(h:l<m):gQ a b=true:=by
 grind [mA,List.cons_lt_cons_iff]
theorem Qu {g h:Held}(hg:bB g.Place=0)(hh:bB h.Place=0)(hl:kr g.Place h.Place):gQ (hrow g).Key (hrow h).Key=true:=by
 have:=bY hg;have:=bY hh
 refine Dh (hkey hg) (hkey hh) ?_
 rw [List.cons_lt_cons_iff,B5 ae ae]
 rcases hl with hl|⟨he,hl⟩
 .omega
 grind [List.cons_lt_cons_iff,B5]
theorem Qv {s t:aA}(h0:0<=s.ID)(h1:t.ID<10000)(h:s.ID<t.ID):gQ (lu s).Key (lu t).Key=true :=
 Dh (tkey h0 ae) (tkey ae h1) (M6 ae ae)
theorem Qw {v w:ap}(h0:0<=v.ID)(h1:w.ID<10000)(h:v.ID<w.ID):gQ (nH v).Key (nH w).Key=true :=
 Dh (M7 h0 ae) (M7 ae h1) (M6 ae ae)
theorem uI (a b:ByteArray)(i j:Nat)(hi:i=a.size)(hj:j=a.size+b.size):(a++b).extract i j=b:=by
 apply iW;grind [pJ,jW,List.take_of_length_le,List.length_append,iz,List.drop_left]
theorem Di (a b:ByteArray)(i j:Nat)(hj:j<=a.size):(a++b).extract i j=a.extract i j:=by
 grind [iW,pJ,jW,iz]
theorem xR (a:ByteArray)(j:Nat)(hj:j=a.size):a.extract 0 j=a:=by
 simp_all
theorem lT (a b:ByteArray):(a++b).size=a.size+b.size:=ByteArray.size_append
theorem Wu {a b:ByteArray}{n:Int}(h0:0<=n)(h1:n<10000)(ha:a=bN n):eO (a++b) 1=some [n]:=by
 simp_all [eO,jJ,eJ,if_neg,lT,Di,xR,rX]
theorem HG {n:Int}(h0:0<=n)(h1:n<10000):eO (bN n) 1=some [n]:=by
 simp_all [eO,jJ,eJ,if_neg,xR,rX]
theorem Wv {a b:Int}(ha:0<=a/\a<10000)(hb:0<=b/\b<10000):eO (bN a++bN b) 2=some [a,b]:=by
 have s1:=eJ ha.1 ha.2;have s2:=eJ hb.1 hb.2
 simp_all [eO,jJ,if_neg,lT,Di,xR,rX,uI]
theorem Ww {a b c d:Int}(ha:0<=a/\a<10000)(hb:0<=b/\b<10000)(hc:0<=c/\c<10000)(hd:0<=d/\d<10000):eO (bN a++bN b++bN c++bN d) 4=some [a,b,c,d]:=by
 have s1:=eJ ha.1 ha.2;have s2:=eJ hb.1 hb.2;have s3:=eJ hc.1 hc.2;have s4:=eJ hd.1 hd.2
 simp_all [eO,jJ,if_neg,lT,Di,xR,rX,uI]
theorem Fx {s:ByteArray}{l:List UInt8}{i:Nat}{x:UInt8}(h:bl s=l)(hx:l[i]? = some x):bO s i=x.toNat:=by grind [ka]
theorem M8 (r:av){h:Held}(hp:bB h.Place=0)(h0:0<=h.ap)(h1:h.ap<10000):rowP r (hrow h)=(KP r h,true):=by
 have hk:=hkey hp;have hz:=bY hp
 have hs:(hrow h).Key.size=3:=by grind [iz]
 have b0:bO (hrow h).Key 0=104:=Fx (x:=104) hk rfl
 have b1:bO (hrow h).Key 1=48+h.Place.ay.toNat:=by rw [Fx hk rfl,zd ae]
 have b2:bO (hrow h).Key 2=48+h.Place.Slot.toNat:=by rw [Fx hk rfl,zd ae]
 have hpl:Wq (hrow h)=h.Place:=by
  unfold Wq Qq;rw [b1,b2]
  show (⟨_,_⟩:Place)=⟨h.Place.ay,h.Place.Slot⟩
  grind
 have hv:eO (hrow h).Val 1=some [h.ap]:=HG h0 h1
 have hvs:(hrow h).Val.size=4:=eJ h0 h1
 unfold rowP
 rw [if_neg ae]
 dsimp only
 rw [if_pos b0,hv,if_neg aB,hpl,decide_eq_true hp];rfl
theorem M9 (r:av){t:aA}(h0:0<=t.ID)(h1:t.ID<10000)(hk:t.Kind=1∨t.Kind=2/\t.Data.size=0)(hd:t.Data.size<=8):rowP r (lu t)=(KQ r t,true):=by
 have hky:=tkey h0 h1
 have hs:(lu t).Key.size=5:=by rw [<- iz,hky];rfl
 have b0:bO (lu t).Key 0=116:=Fx (x:=116) hky rfl
 have e1:eO ((lu t).Key.extract 1 (lu t).Key.size) 1=some [t.ID]:=by
  show eO ((kT++bN t.ID).extract 1 _) 1=_
  have hf:=eJ h0 h1
  rw [uI _ _ _ _ ck (by rw [hs,hf];rfl)];grind [HG]
 have k4:0<=t.Kind/\t.Kind<10000:=ae
 have hf:=eJ k4.1 k4.2
 have hv:eO (lu t).Val 1=some [t.Kind]:=Wu k4.1 k4.2 rfl
 have hvs:(lu t).Val.size=4+t.Data.size:=by show (bN t.Kind++t.Data).size=_;grind
 have hx:(lu t).Val.extract 4 (lu t).Val.size=t.Data:=by
  rw [hvs];show (bN t.Kind++t.Data).extract _ _=_
  grind [uI]
 unfold rowP
 rw [if_neg ae]
 dsimp only
 rw [if_neg ae,if_pos b0,e1,hv,if_neg aB,hx]
 show (KQ r ⟨t.ID,t.Kind,t.Data⟩,decide (t.Kind=1∨t.Kind=2/\(lu t).Val.size=4))=_
 simp_all
theorem Na (r:av){w:ap}(h:Vy w):rowP r (nH w)=(Fv r w,true):=by
 have i1:=h.id1;have i9:=h.R0;have t1:=h.Vz;have t9:=h.VA;have a0:=h.VB;have a9:=h.VD;have f0:=h.R1;have fl:=h.R2;have q0:=h.R3;have q7:=h.R4
 have hky:=M7 (w:=w) ae ae
 have hs:(nH w).Key.size=5:=by rw [<- iz,hky];rfl
 have b0:bO (nH w).Key 0=119:=Fx (x:=119) hky rfl
 have e1:eO ((nH w).Key.extract 1 (nH w).Key.size) 1=some [w.ID]:=by
  show eO ((kW++bN w.ID).extract 1 _) 1=_
  have hf:=eJ (n:=w.ID) ae ae
  rw [uI _ _ _ _ ck (by rw [hs,hf];rfl)];grind [HG]
 have hv:eO (nH w).Val 4=some [w.aA,w.Rights,w.aU,w.From]:=Ww ae ae ae ae
 have hvs:(nH w).Val.size=16:=by
  show (bN w.aA++bN w.Rights++bN w.aU++bN w.From).size=_
  grind [lT,eJ]
 unfold rowP
 rw [if_neg ae]
 dsimp only
 rw [if_neg ae,if_neg ae,if_pos b0,e1,hv,if_neg aB];rfl
theorem Nb (r q:av)(ha:0<=q.ag/\q.ag<10000)(hb:0<=q.ah/\q.ah<10000):rowP r (Fu q)=(Qr r q.ag q.ah,true):=by
 have hv:eO (Fu q).Val 2=some [q.ag,q.ah]:=Wv ha hb
 have hvs:(Fu q).Val.size=8:=by
  show (bN q.ag++bN q.ah).size=_
  grind [lT,eJ]
 have b0:bO (Fu q).Key 0=120:=rfl
 unfold rowP
 rw [if_neg (show ¬ (Fu q).Key.size=0 from (by decide:¬ kX.size=0))]
 dsimp only
 rw [if_neg ae,if_neg ae,if_neg ae,hv,if_neg (by rw [hvs];simp;rfl)];rfl
def uJ (r:av)(c:Change):av:=(rowP r c).1
theorem JF:∀ (l:List Change) (pv:Option ByteArray) (r:av),(∀c∈l,tD pv c=true)->dN l->(∀c∈l,c.Gone=false /\ ∀s,(rowP s c).2=true)->pgo l pv r=some (l.foldl uJ r)
 | [],_,r,_,_,_=>rfl
 | c::l,pv,r,h1,h2,h3=>by
  obtain ⟨hc,hl⟩:=List.pairwise_cons.1 h2
  have g:=h3 c (List.mem_cons_self ..)
  simp only [pgo]
  rw [if_pos aB]
  exact JF l (some c.Key) _ (fun x hx=>hc x hx) hl (fun x hx=>h3 x (List.mem_cons_of_mem _ hx))
theorem Nc:∀ (hs:List Held) (r:av),(∀h∈hs,bB h.Place=0/\0<=h.ap/\h.ap<10000)->(hs.map hrow).foldl uJ r=⟨r.ao,r.Things,r.Held++hs,r.Notes,r.ag,r.ah⟩
 | [],r,_=>by simp
 | h::hs,r,k=>by
  obtain ⟨k1,k2,k3⟩:=k h (List.mem_cons_self ..)
  rw [List.map_cons,List.foldl_cons,show uJ r (hrow h)=KP r h by grind [uJ,M8],Nc hs _ (fun x hx=>k x (List.mem_cons_of_mem _ hx))]
  grind [KP,List.append_assoc]
structure ZS (t:aA):Prop where
  i0:0<=t.ID
  i9:t.ID<10000
  kd:t.Kind=1∨t.Kind=2/\t.Data.size=0
  ds:t.Data.size<=8
theorem Nf:∀ (ts:List aA) (r:av),(∀t∈ts,ZS t)->(ts.map lu).foldl uJ r=⟨r.ao,r.Things++ts,r.Held,r.Notes,r.ag,r.ah⟩
 | [],r,_=>by simp
 | t::ts,r,k=>by
  obtain ⟨k1,k2,k3,k4⟩:=k t (List.mem_cons_self ..)
  rw [List.map_cons,List.foldl_cons,show uJ r (lu t)=KQ r t by grind [uJ,M9],Nf ts _ (fun x hx=>k x (List.mem_cons_of_mem _ hx))]
  grind [KQ,List.append_assoc]
theorem Ng:∀ (ws:List ap) (r:av),(∀w∈ws,Vy w)->(ws.map nH).foldl uJ r=⟨r.ao++ws,r.Things,r.Held,r.Notes,r.ag,r.ah⟩
 | [],r,_=>by simp
 | w::ws,r,k=>by
  rw [List.map_cons,List.foldl_cons,show uJ r (nH w)=Fv r w by grind [uJ,Na,List.mem_cons_self],Ng ws _ (fun x hx=>k x (List.mem_cons_of_mem _ hx))]
  grind [Fv,List.append_assoc]
theorem KS {l:List ap}(h:cS l):l.Pairwise (fun a b=>a.ID<b.ID):=by
 have key:∀ (n i j:Nat) (x y:ap),j=i+n+1->l[i]? = some x->l[j]? = some y->x.ID<y.ID:=by
  intro n
  induction n with
  | zero =>
   intro i j x y e hx hy
   have hs:=h.steps j (List.getElem?_eq_some_iff.1 hy).1
   grind [nY,jh]
  | succ n ih =>
   intro i j x y e hx hy
   have hj:j-1<l.length:=aB
   have hz:=List.getElem?_eq_getElem hj
   exact Int.lt_trans (ih i (j-1) x l[j-1] ae hx hz) (by
    have hs:=h.steps j (List.getElem?_eq_some_iff.1 hy).1
    grind [nY,jh])
 rw [List.pairwise_iff_getElem]
 intro i j hi hj hij
 exact key (j-i-1) i j _ _ ae (List.getElem?_eq_getElem hi) (List.getElem?_eq_getElem hj)
theorem Inv.Sb {r:av}(h:Inv r){t:aA}(ht:t∈r.Things):ZS t:=by
 have a:=h.xL t ht;have b:=h.pH;have c:=h.jB t ht;have d:=h.jC t ht
 refine ⟨ae,ae,?_,d.1⟩
 rcases c with c|c
 .omega
 exact .inr ⟨c,by rw [d.2 c];rfl⟩
theorem Inv.JG {r:av}(h:Inv r){x:Held}(hx:x∈r.Held):bB x.Place=0/\1<=x.ap/\x.ap<10000:=by
 obtain ⟨w,hw,e⟩:=h.fy x hx
 have k:=h.tree.mem hw
 have:=k.id1;have:=k.R0
 exact ⟨((Fb.1 h.good).2 x hx).1,ae,ae⟩
theorem ze {α β:Type}{R:β->β->Prop}{S:α->α->Prop}(f:α->β):∀ {l:List α},l.Pairwise S->(∀x∈l,∀y∈l,S x y->R (f x) (f y))->(l.map f).Pairwise R
 | [],_,_=>List.Pairwise.nil
 | a::l,h,k=>by
  obtain ⟨h1,h2⟩:=List.pairwise_cons.1 h
  refine List.pairwise_cons.2 ⟨fun y hy=>?_,ze f h2 (fun x hx y hy=>k x (List.mem_cons_of_mem _ hx) y (List.mem_cons_of_mem _ hy))⟩
  obtain ⟨x,hx,rfl⟩:=List.mem_map.1 hy
  exact k a (List.mem_cons_self ..) x (List.mem_cons_of_mem _ hx) (h1 x hx)
theorem B6 {r:av}(h:Inv r):dN (rowsOf r):=by
 have hx:bl kX=[120]:=rfl
 have kh:∀x∈r.Held,bl (hrow x).Key=[104,d8 x.Place.ay.toNat,d8 x.Place.Slot.toNat]:=fun x hx=>hkey (h.JG hx).1
 have kt:∀t∈r.Things,bl (lu t).Key=116::HE t.ID.toNat:=fun t ht=>tkey (h.Sb ht).i0 (h.Sb ht).i9
 have kw:∀w∈r.ao,bl (nH w).Key=119::HE w.ID.toNat:=fun w hw=>by
  have:=(h.tree.mem hw).id1;have:=(h.tree.mem hw).R0;grind [M7]
 unfold dN rowsOf
 refine List.pairwise_append.2 ⟨List.pairwise_append.2 ⟨List.pairwise_append.2 ⟨?_,?_,?_⟩,?_,?_⟩,List.pairwise_singleton _ _,?_⟩
 .exact ze hrow (Fb.1 h.good).1 (fun x hx y hy hl=>Qu (h.JG hx).1 (h.JG hy).1 hl)
 .exact ze lu h.jk (fun x hx y hy hl=>Qv (h.Sb hx).i0 (h.Sb hy).i9 hl)
 .grind [uH]
 .exact ze nH (KS h.tree) (fun x hx y hy hl=>by
   have:=(h.tree.mem hx).id1;have:=(h.tree.mem hy).R0;grind [Qw])
 .grind [uH]
 intro a ha b hb
 rw [List.mem_singleton.1 hb]
 rcases List.mem_append.1 ha with ha|ha
 .
  rcases List.mem_append.1 ha with ha|ha
  .
   obtain ⟨x,hx',rfl⟩:=List.mem_map.1 ha
   exact uH (kh x hx') hx aD
  obtain ⟨x,hx',rfl⟩:=List.mem_map.1 ha
  exact uH (kt x hx') hx aD
 obtain ⟨x,hx',rfl⟩:=List.mem_map.1 ha
 exact uH (kw x hx') hx aD
theorem KT {r:av}(h:Inv r):∀c∈rowsOf r,c.Gone=false /\ ∀s,(rowP s c).2=true:=by
 have a1:=h.oT;have a2:=h.qB;have a3:=h.pG;have a4:=h.pH
 intro c hc
 unfold rowsOf at hc
 rcases List.mem_append.1 hc with hc|hc
 .
  rcases List.mem_append.1 hc with hc|hc
  .
   rcases List.mem_append.1 hc with hc|hc
   .
    obtain ⟨x,hx,rfl⟩:=List.mem_map.1 hc
    have k:=h.JG hx
    exact ⟨rfl,fun s=>by grind [M8]⟩
   obtain ⟨x,hx,rfl⟩:=List.mem_map.1 hc
   have k:=h.Sb hx
   exact ⟨rfl,fun s=>by rw [M9 s k.i0 k.i9 k.kd k.ds]⟩
  obtain ⟨x,hx,rfl⟩:=List.mem_map.1 hc
  exact ⟨rfl,fun s=>by rw [Na s (h.tree.mem hx)]⟩
 rw [List.mem_singleton.1 hc]
 exact ⟨rfl,fun s=>by grind [Nb]⟩
theorem KU {r:av}(h:Inv r)(hn:r.Notes=[]):(rowsOf r).foldl uJ r0=r:=by
 have a1:=h.oT;have a2:=h.qB;have a3:=h.pG;have a4:=h.pH
 unfold rowsOf
 rw [List.foldl_append,List.foldl_append,List.foldl_append,Nc _ _ (fun x hx=>⟨(h.JG hx).1,by have:=(h.JG hx).2.1;omega,(h.JG hx).2.2⟩),Nf _ _ (fun t ht=>h.Sb ht),Ng _ _ (fun w hw=>h.tree.mem hw)]
 rw [List.foldl_cons,List.foldl_nil]
 unfold uJ
 rw [Nb _ r ae ae]
 obtain ⟨a,b,c,d,e,f⟩:=r
 grind [Qr,r0]
theorem Ca:∀ (a b:List Int),a.Pairwise (· < ·)->b.Pairwise (· < ·)->(∀x,x∈a↔x∈b)->a=b
 | [],[],_,_,_=>rfl
 | [],y::b,_,_,h=>by have:=(h y).2 (List.mem_cons_self ..);cases this
 | x::a,[],_,_,h=>by have:=(h x).1 (List.mem_cons_self ..);cases this
 | x::a,y::b,ha,hb,h=>by
  obtain ⟨a1,a2⟩:=List.pairwise_cons.1 ha
  obtain ⟨b1,b2⟩:=List.pairwise_cons.1 hb
  have e:x=y:=by
   rcases List.mem_cons.1 ((h x).1 (List.mem_cons_self ..)) with e|h1
   .exact e
   rcases List.mem_cons.1 ((h y).2 (List.mem_cons_self ..)) with e|h2
   .exact e.symm
   have:=b1 x h1;have:=a1 y h2;omega
  subst e
  congr 1
  refine Ca a b a2 b2 (fun z=>?_)
  have hz:=h z
  simp only [List.mem_cons] at hz
  constructor
  .
   intro h1
   rcases hz.1 (.inr h1) with e|h2
   .have:=a1 z h1;omega
   exact h2
  intro h1
  rcases hz.2 (.inr h1) with e|h2
  .have:=b1 z h1;omega
  exact h2
theorem Fy {l:List ap}(h:cS l):(bC l).Pairwise (· < ·):=by
 unfold bC;rw [vB h];exact (oa l 999).1
theorem FA {α:Type}{l:List α}{y:α}(hy:l.getLast? = some y):y∈l:=by
 grind
theorem Inv.ids {r:av}(h:Inv r):r.Things.map aA.ID=bC r.ao :=
 Ca _ _ (ze aA.ID h.jk (fun _ _ _ _ h=>h)) (Fy h.tree) fun x=>by
  rw [lq h.tree,List.mem_map]
  constructor
  .rintro ⟨t,ht,rfl⟩;exact h.used t ht
  rintro ⟨w,hw,rfl⟩;exact h.thing w hw
theorem Inv.nodup {r:av}(h:Inv r):(r.Held.map Held.ap).Nodup:=by
 rw [List.nodup_iff_count]
 intro a
 by_cases ha:∃w∈r.ao,w.ID=a
 .
  obtain ⟨w,hw,rfl⟩:=ha
  have:=h.once w hw
  have e:(r.Held.map Held.ap).count w.ID=cH r.Held w.ID:=by
   unfold cH;rw [List.count,List.countP_map];rfl
  omega
 rw [List.count_eq_zero.2 (fun hm=>?_)]
 .omega
 obtain ⟨x,hx,rfl⟩:=List.mem_map.1 hm
 exact ha (h.fy x hx)
theorem Inv.whole {r:av}(h:Inv r)(hl:r.Held.length=r.ao.length):Whole r where
 tree:=h.tree
 je:=h.je
 oT:=h.oT
 qB:=h.qB
 pG:=h.pG
 pH:=h.pH
 hlen:=hl
 fy:=fun x hx=>by
  obtain ⟨w,hw,e⟩:=h.fy x hx
  exact jV.2 ⟨w,hw,e⟩
 once:=h.nodup
 things:=h.ids
 R7:=fun w hw=>h.tv w (FA hw)
 R8:=fun t ht=>(h.xL t (FA ht)).2
theorem HI {r:av}(h:Inv r)(hn:r.Notes=[])(hl:r.Held.length=r.ao.length):cr (rowsOf r)=(r,0):=by
 have h1:=JF (rowsOf r) none r0 (fun _ _=>rfl) (B6 h) (KT h)
 unfold cr
 rw [h1,KU h hn]
 dsimp only
 rw [if_pos (zc (h.whole hl))]
theorem xb {r:av}(h:Inv r):cr (aY r)=(aP r,0):=by
 obtain ⟨h1,h2,h3,h4,h5⟩:=ic h
 exact HI h1 h2 h4
theorem iN {r:av}(h:Inv r):(aY r).length<=60:=by
 obtain ⟨h1,h2,h3,h4,h5⟩:=ic h
 have a:=qU h1;have b:=h1.je
 grind [aY,rowsOf,List.length_append,List.length_map,List.length_cons,List.length_nil]
theorem hk0 (h:Held):∃l,bl (hrow h).Key=104::l:=⟨_,by show bl (kH++eo h.Place.ay++eo h.Place.Slot)=_;rw [jW,jW];rfl⟩
def okT (t:aA):Bool:=decide ((t.Kind=1∨t.Kind=2/\t.Data.size=0)/\t.Data.size<=8)
def xr (a b:Int):Change:=⟨kX,bN a++bN b,false⟩
structure Kinds (l:List Change)(hs:List Held)(ts:List aA)(ws:List ap)(xs:List Change):Prop where
  eq:l=hs.map hrow++ts.map lu++ws.map nH++xs
  h:∀x∈hs,bB x.Place=0
  t:∀x∈ts,okT x=true
  x:(xs=[] /\ ∀r:av,l.foldl uJ r=⟨r.ao++ws,r.Things++ts,r.Held++hs,r.Notes,r.ag,r.ah⟩) ∨ ∃a b,xs=[xr a b] /\ ∀r:av,l.foldl uJ r=⟨r.ao++ws,r.Things++ts,r.Held++hs,r.Notes,a,b⟩
theorem zf {z:av}(h:Inv z)(hn:z.Notes=[]):aP z=z:=by
 obtain ⟨a,b,c,d,e,f⟩:=z
 simp only at hn;subst hn
 exact yY h
def sO (k:ByteArray):Change:=⟨k,⟨#[]⟩,true⟩
def zg (a b:List Change):List Change:=(a.filter (fun c => !qn (fK c.Key) b)).map (fun c=>sO c.Key)
def FB (a b:List Change):List Change:=b.filter (fun c => !qn (fK c.Key) a || !decide (a[jF (fK c.Key) a]? = some c))
def nI (a b:List Change):List Change:=zg a b++FB a b
def bI:List Change->List Change->List Change
  | [],b=>b
  | x::a,[]=>sO x.Key::bI a []
  | x::a,y::b=>if gQ x.Key y.Key=true then sO x.Key::bI a (y::b) else if gQ y.Key x.Key=true then y::bI (x::a) b else if x=y then bI a b else y::bI a b
termination_by a b=>a.length+b.length
decreasing_by all_goals grind
theorem mL (b:List Change):bI [] b=b:=by rw [bI]
theorem Cb (x:Change)(a:List Change):bI (x::a) []=sO x.Key::bI a []:=by rw [bI]
theorem m4 (x y:Change)(a b:List Change):bI (x::a) (y::b)=if gQ x.Key y.Key=true then sO x.Key::bI a (y::b) else if gQ y.Key x.Key=true then y::bI (x::a) b else if x=y then bI a b else y::bI a b:=by rw [bI]
theorem Qx {l:List Change}(h:dN l)(k:ByteArray):qn (fK k) l=true ↔ ∃x∈l,x.Key=k:=by
 rcases dN.cut h k with ⟨A,B,x,e,hx,ha,hb⟩ | ⟨A,B,e,ha,hb⟩
 .rw [e,(Hy hx ha hb).2];grind
 rw [e,(JB ha hb).2]
 grind [fN]
theorem vL {l:List Change}(h:dN l){x y:Change}(hx:x∈l)(hy:y∈l)(e:x.Key=y.Key):x=y:=by
 rcases dN.cut h x.Key with ⟨A,B,z,e1,hz,ha,hb⟩ | ⟨A,B,e1,ha,hb⟩
 .grind [fN]
 grind [fN]
theorem Nh {l:List Change}(h:dN l){c:Change}:(qn (fK c.Key) l=true/\l[jF (fK c.Key) l]? = some c)↔c∈l:=by
 constructor
 .grind
 intro hc
 rcases dN.cut h c.Key with ⟨A,B,z,e1,hz,ha,hb⟩ | ⟨A,B,e1,ha,hb⟩
 .
  have hk:=Hy hz ha hb
  have e2:z=c:=vL h aB hc hz
  grind
 grind [fN]
def VE (a b:List Change)(x:Change):Prop:=(∃c∈a,(∀y∈b,y.Key≠c.Key)/\x=sO c.Key)∨(x∈b/\¬ x∈a)
theorem FC {a b:List Change}(hb:dN b){x:Change}:x∈zg a b ↔ ∃c∈a,(∀y∈b,y.Key≠c.Key)/\x=sO c.Key:=by
 unfold zg
 grind [Qx]
theorem FD {a b:List Change}(ha:dN a){x:Change}:x∈FB a b↔x∈b/\¬ x∈a:=by
 unfold FB
 rw [List.mem_filter,<- Nh ha (c:=x)]
 grind
theorem Ni {a b:List Change}(ha:dN a)(hb:dN b){x:Change}:x∈nI a b↔VE a b x:=by
 grind [nI,VE,FC,FD]
theorem kb:∀ (n:Nat) (a b:List Change),a.length+b.length<=n->dN a->dN b->(∀x,x∈bI a b↔VE a b x)/\dN (bI a b)
 | n,[],b,_,_,hb=>by
  rw [mL]
  refine ⟨fun x=>⟨fun h => .inr ⟨h,fun q=>by cases q⟩,?_⟩,hb⟩
  rintro (⟨c,hc,_⟩ | ⟨h,_⟩)
  .grind
  omega
 | 0,x::a,b,h,_,_=>by grind
 | n+1,x::a,[],hn,ha,hb=>by
  obtain ⟨a1,a2⟩:=List.pairwise_cons.1 ha
  obtain ⟨i1,i2⟩:=kb n a [] aB a2 hb
  rw [Cb]
  refine ⟨fun z=>?_,List.pairwise_cons.2 ⟨fun z hz=>?_,i2⟩⟩
  .
   rw [List.mem_cons,i1 z]
   constructor
   .
    rintro (rfl|⟨c,hc,hh,rfl⟩ | ⟨h,_⟩)
    .exact .inl ⟨x,List.mem_cons_self ..,(fun y hy=>by grind),rfl⟩
    .exact .inl ⟨c,List.mem_cons_of_mem _ hc,hh,rfl⟩
    grind
   rintro (⟨c,hc,hh,rfl⟩ | ⟨h,_⟩)
   .
    rcases List.mem_cons.1 hc with rfl|hc
    .grind
    exact .inr (.inl ⟨c,hc,hh,rfl⟩)
   grind
  rcases (i1 z).1 hz with ⟨c,hc,_,rfl⟩ | ⟨h,_⟩
  .exact a1 c hc
  grind
 | n+1,x::a,y::b,hn,ha,hb=>by
  obtain ⟨a1,a2⟩:=List.pairwise_cons.1 ha
  obtain ⟨b1,b2⟩:=List.pairwise_cons.1 hb
  simp only [List.length_cons] at hn
  have ne_of:∀ {u v:ByteArray},gQ u v=true->u≠v:=fun h e=>by grind [fN]
  rw [m4]
  by_cases c1:gQ x.Key y.Key=true
  .
   rw [if_pos c1]
   obtain ⟨i1,i2⟩:=kb n a (y::b) aB a2 hb
   have hxb:∀z∈y::b,gQ x.Key z.Key=true:=fun z hz=>by
    grind [mJ]
   refine ⟨fun z=>?_,List.pairwise_cons.2 ⟨fun z hz=>?_,i2⟩⟩
   .
    rw [List.mem_cons,i1 z]
    constructor
    .
     rintro (rfl|⟨c,hc,hh,rfl⟩ | ⟨h,h'⟩)
     .exact .inl ⟨x,List.mem_cons_self ..,(fun z hz e=>ne_of (hxb z hz) e.symm),rfl⟩
     .exact .inl ⟨c,List.mem_cons_of_mem _ hc,hh,rfl⟩
     exact .inr ⟨h,fun q=>by
      grind⟩
    rintro (⟨c,hc,hh,rfl⟩ | ⟨h,h'⟩)
    .
     rcases List.mem_cons.1 hc with rfl|hc
     .grind
     exact .inr (.inl ⟨c,hc,hh,rfl⟩)
    exact .inr (.inr ⟨h,fun q=>h' (List.mem_cons_of_mem _ q)⟩)
   rcases (i1 z).1 hz with ⟨c,hc,_,rfl⟩ | ⟨h,_⟩
   .exact a1 c hc
   exact hxb z h
  rw [if_neg c1]
  by_cases c2:gQ y.Key x.Key=true
  .
   rw [if_pos c2]
   obtain ⟨i1,i2⟩:=kb n (x::a) b aB ha b2
   have hya:∀z∈x::a,gQ y.Key z.Key=true:=fun z hz=>by
    grind [mJ]
   refine ⟨fun z=>?_,List.pairwise_cons.2 ⟨fun z hz=>?_,i2⟩⟩
   .
    rw [List.mem_cons,i1 z]
    constructor
    .
     rintro (rfl|⟨c,hc,hh,rfl⟩ | ⟨h,h'⟩)
     .exact .inr ⟨List.mem_cons_self ..,fun q=>ne_of (hya z q) rfl⟩
     .exact .inl ⟨c,hc,(fun w hw=>by
       grind),rfl⟩
     exact .inr ⟨List.mem_cons_of_mem _ h,h'⟩
    rintro (⟨c,hc,hh,rfl⟩ | ⟨h,h'⟩)
    .exact .inr (.inl ⟨c,hc,(fun w hw=>hh w (List.mem_cons_of_mem _ hw)),rfl⟩)
    rcases List.mem_cons.1 h with rfl|h
    .grind
    exact .inr (.inr ⟨h,h'⟩)
   rcases (i1 z).1 hz with ⟨c,hc,_,rfl⟩ | ⟨h,_⟩
   .exact hya c hc
   grind
  rw [if_neg c2]
  have e:x.Key=y.Key:=by
   grind [uB]
  obtain ⟨i1,i2⟩:=kb n a b ae a2 b2
  have hz0:∀z∈bI a b,gQ y.Key z.Key=true:=fun z hz=>by
   rcases (i1 z).1 hz with ⟨c,hc,_,rfl⟩ | ⟨h,_⟩
   .rw [<- e];exact a1 c hc
   grind
  have hgen:∀z,VE (x::a) (y::b) z↔(z=y/\x≠y)∨VE a b z:=fun z=>by
   constructor
   .
    rintro (⟨c,hc,hh,rfl⟩ | ⟨h,h'⟩)
    .
     rcases List.mem_cons.1 hc with rfl|hc
     .grind
     exact .inr (.inl ⟨c,hc,(fun w hw=>hh w (List.mem_cons_of_mem _ hw)),rfl⟩)
    rcases List.mem_cons.1 h with rfl|h
    .grind
    exact .inr (.inr ⟨h,fun q=>h' (List.mem_cons_of_mem _ q)⟩)
   rintro (⟨rfl,hne⟩ | ⟨c,hc,hh,rfl⟩ | ⟨h,h'⟩)
   .
    refine .inr ⟨List.mem_cons_self ..,fun q=>?_⟩
    grind
   .
    refine .inl ⟨c,List.mem_cons_of_mem _ hc,fun w hw=>?_,rfl⟩
    grind
   refine .inr ⟨List.mem_cons_of_mem _ h,fun q=>?_⟩
   grind
  by_cases c3:x=y
  .grind
  rw [if_neg c3]
  refine ⟨fun z=>?_,List.pairwise_cons.2 ⟨hz0,i2⟩⟩
  grind
theorem mem_merge {a b:List Change}(ha:dN a)(hb:dN b){x:Change}:x∈bI a b↔VE a b x:=(kb _ a b (Nat.le_refl _) ha hb).1 x
theorem pN {a b:List Change}(ha:dN a)(hb:dN b):dN (bI a b):=(kb _ a b (Nat.le_refl _) ha hb).2
abbrev Apart (l:List Change):Prop:=l.Pairwise (fun x y=>x.Key≠y.Key)
theorem pO {l:List Change}(h:dN l):Apart l:=List.Pairwise.imp (fun q e=>by grind [fN]) h
theorem KV {a b:List Change}(ha:dN a)(hb:dN b):Apart (nI a b):=by
 unfold nI
 refine List.pairwise_append.2 ⟨?_,(pO hb).filter _,?_⟩
 .
  unfold zg
  exact List.pairwise_map.2 ((pO ha).filter _)
 intro x hx y hy e
 obtain ⟨c,hc,hn,rfl⟩:=(FC hb).1 hx
 exact hn y ((FD ha).1 hy).1 e.symm
theorem HQ {a b d:List Change}(ha:dN a)(hb:dN b)(hp:d.Perm (nI a b))(hs:d.Pairwise (fun x y => ¬ gQ y.Key x.Key=true)):d=bI a b:=by
 have h1:Apart d:=hp.symm.pairwise (KV ha hb) (fun q e=>q e.symm)
 have h2:dN d:=by
  refine List.Pairwise.imp ?_ (hs.and h1)
  grind [uB]
 grind [vJ,pN,Ni,mem_merge]
theorem Cc:∀ (l:List Change) {rows:List Change},dN rows->dN l -> ∀ {y:Change},y∈cm rows l↔(y∈rows /\ ∀c∈l,c.Key≠y.Key)∨(y∈l/\y.Gone=false)
 | [],rows,hr,_,y=>by
  show y∈rows↔_
  grind
 | c::l,rows,hr,hl,y=>by
  obtain ⟨l1,l2⟩:=List.pairwise_cons.1 hl
  show y∈cm (AO rows c) l↔_
  rw [Cc l (uE hr c) l2,JE hr]
  grind [List.mem_cons_self,List.mem_cons_of_mem,fN]
theorem qX {a b:List Change}(ha:dN a)(hb:dN b)(hg:∀c∈b,c.Gone=false):cm a (bI a b)=b:=by
 refine vJ _ _ (tC _ ha) hb fun y=>?_
 rw [Cc _ ha (pN ha hb)]
 constructor
 .
  rintro (⟨h1,h2⟩ | ⟨h1,h2⟩)
  .
   by_cases hy:∃z∈b,z.Key=y.Key
   .
    obtain ⟨z,hz,e⟩:=hy
    by_cases hza:z∈a
    .grind [vL]
    exact absurd e (h2 z ((mem_merge ha hb).2 (.inr ⟨hz,hza⟩)))
   exact absurd rfl (h2 (sO y.Key) ((mem_merge ha hb).2 (.inl ⟨y,h1,fun z hz e=>hy ⟨z,hz,e⟩,rfl⟩)))
  rcases (mem_merge ha hb).1 h1 with ⟨c,_,_,rfl⟩ | ⟨q,_⟩
  .cases h2
  omega
 intro h
 by_cases hya:y∈a
 .
  refine .inl ⟨hya,fun c hc e=>?_⟩
  rcases (mem_merge ha hb).1 hc with ⟨d,_,hn,rfl⟩ | ⟨q1,q2⟩
  .exact hn y h e.symm
  grind [vL]
 exact .inr ⟨(mem_merge ha hb).2 (.inr ⟨h,hya⟩),hg y h⟩
end Go.Proofs.YtnmpibjlnninjaaGreatDoor
