import Derived.Test.YtpipachmngdegaaTCP21
import Derived.Test.YtpipachmngdegaaTCP20
section
namespace Go.Proofs.Ytpipachmngdegaa
open Go
set_option linter.unusedVariables false
def c0:Change:=⟨⟨#[]⟩,⟨#[]⟩,false⟩
def ea (c:Change):Int :=
  if c.Key=⟨#[]⟩∨(c.Gone=true∧¬ c.Val=⟨#[]⟩) then 3 else if 8<c.Key.size∨24<c.Val.size then 2 else 0
theorem aQ (c:Change):ea c=0∨ea c=2∨ea c=3:=by unfold ea;(repeat' split) <;> simp
theorem dx {c:Change}(h:ea c=0):c.Key≠⟨#[]⟩∧(c.Gone=true→c.Val=⟨#[]⟩)∧c.Key.size≤8∧c.Val.size≤24:=by
  unfold ea at h
  split at h
  · cases h
  ·
    split at h
    · cases h
    ·
      rename_i h1 h2
      exact ⟨fun e=>h1 (.inl e),fun g=>Classical.byContradiction fun e=>h1 (.inr ⟨g,e⟩),by omega,by omega⟩
def nh (b:Bool):UInt8:=if b=true then 1 else 0
def dO (c:Change):ByteArray×Int :=
  if ea c=0 then (⟨#[nh c.Gone,UInt8.ofNat c.Key.size]⟩++c.Key++c.Val,0) else (⟨#[]⟩,ea c)
def aV (s:ByteArray)(i:Nat):Nat:=((s.data[i]?).getD 0).toNat
theorem ag {s:ByteArray}{i:Nat}{x:UInt8}(h:s.data[i]? = some x):aV s i=x.toNat:=by unfold aV;rw [h];rfl
theorem jo (s:ByteArray)(i:Nat):aV s i<256:=by unfold aV;exact UInt8.toNat_lt _
def sY (s:ByteArray):Change:=⟨s.extract 2 (2+aV s 1),s.extract (2+aV s 1) s.size,decide (aV s 0=1)⟩
def ib (s:ByteArray):Change×Int :=
  if s.size<2∨1<aV s 0∨s.size<2+aV s 1 then (c0,4) else if ea (sY s)=0 then (sY s,0) else (c0,4)
abbrev bl (s:ByteArray):List UInt8:=s.data.toList
theorem eA (s:ByteArray):(bl s).length=s.size:=Array.length_toList
theorem iC (a b:ByteArray):bl (a++b)=bl a++bl b:=by simp [bl,ByteArray.data_append]
theorem fh (s:ByteArray)(i j:Nat):bl (s.extract i j)=((bl s).take j).drop i:=by
  simp only [bl,ByteArray.data_extract,Array.toList_extract,List.extract_eq_take_drop]
  rw [List.drop_take]
theorem dE (s:ByteArray)(i:Nat):aV s i=(((bl s)[i]?).getD 0).toNat:=by simp [aV,bl]
theorem i7 {n:Nat}(h:n<256):(UInt8.ofNat n).toNat=n:=by rw [UInt8.toNat_ofNat'];omega
theorem sZ {c:Change}(h:ea c=0):bl (dO c).1=nh c.Gone::UInt8.ofNat c.Key.size::(bl c.Key++bl c.Val):=by
  unfold dO;rw [if_pos h];simp only [iC];simp [bl]
theorem fC {c:Change}(h:ea c=0):(dO c).1.size=2+c.Key.size+c.Val.size:=by
  rw [← eA,sZ h];simp only [List.length_cons,List.length_append,eA];omega
theorem qM {c:Change}(h:ea c=0):ib (dO c).1=(c,0):=by
  obtain ⟨h1,h2,h3,h4⟩:=dx h
  have hb:=sZ h
  have hs:=fC h
  have b0:aV (dO c).1 0=(nh c.Gone).toNat:=by rw [dE,hb];rfl
  have b1:aV (dO c).1 1=c.Key.size:=by rw [dE,hb];exact i7 (by omega)
  have g:(nh c.Gone).toNat=1∧c.Gone=true∨(nh c.Gone).toNat=0∧c.Gone=false:=by cases c.Gone <;> simp [nh]
  have hof:sY (dO c).1=c:=by
    unfold sY
    rw [b0,b1]
    have e1:(dO c).1.extract 2 (2+c.Key.size)=c.Key:=dN (by
      have:=fh (dO c).1 2 (2+c.Key.size)
      rw [hb] at this
      refine this.trans ?_
      rw [show 2+c.Key.size=c.Key.size+1+1 by omega,List.take_succ_cons,List.take_succ_cons,List.drop_succ_cons,List.drop_succ_cons,List.drop_zero,← eA c.Key,List.take_left])
    have e2:(dO c).1.extract (2+c.Key.size) (dO c).1.size=c.Val:=dN (by
      have:=fh (dO c).1 (2+c.Key.size) (dO c).1.size
      rw [hb] at this
      refine this.trans ?_
      rw [List.take_of_length_le (by simp only [List.length_cons,List.length_append,eA];omega),show 2+c.Key.size=c.Key.size+1+1 by omega,List.drop_succ_cons,List.drop_succ_cons,← eA c.Key,List.drop_left])
    rw [e1,e2]
    rcases g with ⟨g1,g2⟩ | ⟨g1,g2⟩ <;> (rw [g1];cases c;simp_all)
  unfold ib
  rw [if_neg (by omega),hof,if_pos h]
def fK (k:ByteArray)(x:Change):Int:=oS x.Key k
def mF (rows:List Change)(c:Change):List Change :=
  if j6 (fK c.Key) rows=true then (if c.Gone=true then rows.take (eU (fK c.Key) rows)++rows.drop (eU (fK c.Key) rows+1) else rows.set (eU (fK c.Key) rows) c)
  else if c.Gone=true then rows else rows.take (eU (fK c.Key) rows)++[c]++rows.drop (eU (fK c.Key) rows)
def a7 (rows l:List Change):List Change:=l.foldl mF rows
theorem iD {rows l:List Change}{k:Nat}{c:Change}(h:l[k]? = some c):a7 rows (l.take (k+1))=mF (a7 rows (l.take k)) c:=by
  unfold a7;rw [List.take_add_one,h];simp
theorem uE (rows:List Change)(c:Change):(mF rows c).length≤rows.length+1:=by
  unfold mF;(repeat' split) <;> simp <;> omega
theorem fj:∀ (l rows:List Change),(a7 rows l).length≤rows.length+l.length
  | [],rows=>by simp [a7]
  | c::l,rows=>by
    have h1:=fj l (mF rows c)
    have h2:=uE rows c
    show (a7 (mF rows c) l).length≤_
    rw [List.length_cons];omega
def bX (c:Change)(s:List Change×Bool)(x:Change):List Change×Bool :=
  let s1:=if s.2=false∧(gh c.Key x.Key||decide (c.Key=x.Key))=true then (s.1++[c],true) else s
  (if x.Key=c.Key then s1.1 else s1.1++[x],s1.2)
def mG (rows:List Change)(c:Change):List Change×Bool:=rows.foldl (bX c) ([],c.Gone)
def qN (rows:List Change)(c:Change):List Change:=if (mG rows c).2=true then (mG rows c).1 else (mG rows c).1++[c]
def bz (rows l:List Change):List Change:=l.foldl qN rows
theorem j7 {rows l:List Change}{k:Nat}{c:Change}(h:l[k]? = some c):bz rows (l.take (k+1))=qN (bz rows (l.take k)) c:=by
  unfold bz;rw [List.take_add_one,h];simp
theorem gj {rows:List Change}{c:Change}{k:Nat}{x:Change}(h:rows[k]? = some x):mG (rows.take (k+1)) c=bX c (mG (rows.take k) c) x:=by
  unfold mG;rw [List.take_add_one,h];simp
theorem oU (c:Change)(s:List Change×Bool)(x:Change):(bX c s x).1.length+(if (bX c s x).2=true then 0 else 1)≤s.1.length+(if s.2=true then 0 else 1)+1:=by
  unfold bX;dsimp only
  by_cases h:s.2=false∧(gh c.Key x.Key||decide (c.Key=x.Key))=true
  · rw [if_pos h,h.1];dsimp only;split <;> simp
  · rw [if_neg h];split <;> (try simp only [List.length_append,List.length_singleton]) <;> split <;> omega
theorem lP (c:Change):∀ (rows:List Change) (s:List Change×Bool),(rows.foldl (bX c) s).1.length+(if (rows.foldl (bX c) s).2=true then 0 else 1)≤s.1.length+(if s.2=true then 0 else 1)+rows.length
  | [],s=>Nat.le_refl _
  | x::rows,s=>by
    rw [List.foldl_cons,List.length_cons]
    have h1:=lP c rows (bX c s x)
    have h2:=oU c s x
    omega
theorem uF (rows:List Change)(c:Change):(qN rows c).length≤rows.length+1:=by
  have h:=lP c rows ([],c.Gone)
  unfold qN mG
  cases hg:(rows.foldl (bX c) ([],c.Gone)).2 <;> rw [hg] at h <;> simp at h ⊢
  ·
    have:(if c.Gone=true then 0 else 1)≤1:=by split <;> omega
    omega
  ·
    have:(if c.Gone=true then 0 else 1)≤1:=by split <;> omega
    omega
theorem fT:∀ (l rows:List Change),(bz rows l).length≤rows.length+l.length
  | [],rows=>by simp [bz]
  | c::l,rows=>by
    have h1:=fT l (qN rows c)
    have h2:=uF rows c
    show (bz (qN rows c) l).length≤_
    rw [List.length_cons];omega
def fD (l:List Change):Prop:=l.Pairwise (fun a b=>gh a.Key b.Key=true)
inductive Cut (l:List Change)(k:ByteArray):Prop where
  | hit (A B:List Change) (x:Change) (e:l=A++x::B) (hx:x.Key=k) (ha:∀y∈A,gh y.Key k=true) (hb:∀y∈B,gh k y.Key=true)
  | miss (A B:List Change) (e:l=A++B) (ha:∀y∈A,gh y.Key k=true) (hb:∀y∈B,gh k y.Key=true)
theorem fD.cut:∀ {l:List Change} (h:fD l) (k:ByteArray),Cut l k
  | [],h,k => .miss [] [] rfl (fun y hy=>by cases hy) (fun y hy=>by cases hy)
  | x::l,h,k=>by
    obtain ⟨h1,h2⟩:=List.pairwise_cons.1 h
    rcases uC x.Key k with hl|hl|hl
    ·
      rcases fD.cut h2 k with ⟨A,B,y,e,hy,ha,hb⟩ | ⟨A,B,e,ha,hb⟩
      · exact .hit (x::A) B y (by rw [e];rfl) hy (fun z hz=>by rcases List.mem_cons.1 hz with r|r;exact r▸hl;exact ha z r) hb
      · exact .miss (x::A) B (by rw [e];rfl) (fun z hz=>by rcases List.mem_cons.1 hz with r|r;exact r▸hl;exact ha z r) hb
    · subst hl;exact .hit [] l x rfl rfl (fun y hy=>by cases hy) h1
    · exact .miss [] (x::l) rfl (fun y hy=>by cases hy) (fun z hz=>by rcases List.mem_cons.1 hz with r|r;exact r▸hl;exact m9 hl (h1 z r))
theorem vD {f:Change→Int}{A R:List Change}(ha:∀y∈A,f y<0)(hr:∀y∈R,¬ f y<0):eU f (A++R)=A.length:=by
  have hm:∀ (i j:Nat) x y,i≤j→(A++R)[i]? = some x→(A++R)[j]? = some y→f y<0→f x<0:=fun i j x y hij hx hy hf=>by
    by_cases hj:j<A.length
    · rw [List.getElem?_append_left (by omega)] at hx;exact ha x (List.mem_of_getElem? hx)
    · rw [List.getElem?_append_right (by omega)] at hy;exact absurd hf (hr y (List.mem_of_getElem? hy))
  obtain ⟨h1,h2⟩:=sW hm
  rcases Nat.lt_trichotomy (eU f (A++R)) A.length with h|h|h
  ·
    have hg:=List.getElem?_eq_getElem h
    exact absurd (ha _ (List.mem_of_getElem? hg)) (h2 (eU f (A++R)) _ (Nat.le_refl _) (by rw [List.getElem?_append_left h];exact hg))
  · exact h
  ·
    have hle:eU f (A++R)≤(A++R).length:=jF
    have hlt:A.length<(A++R).length:=by omega
    have hg:=List.getElem?_eq_getElem hlt
    have:=h1 A.length _ h hg
    rw [List.getElem?_append_right (Nat.le_refl _)] at hg
    exact absurd this (hr _ (List.mem_of_getElem? hg))
theorem nR {k:ByteArray}{x:Change}:fK k x<0↔gh x.Key k=true:=sX
theorem pK {k:ByteArray}{x:Change}(h:gh k x.Key=true):¬ fK k x<0∧fK k x≠0:=by
  refine ⟨fun hh=>?_,fun hh=>?_⟩
  · have:=nf (nR.1 hh);rw [h] at this;cases this
  · have e:=ng.1 hh;rw [e,fw] at h;cases h
def mid (c:Change):List Change:=if c.Gone=true then [] else [c]
theorem v8 {A B:List Change}{x:Change}{k:ByteArray}(hx:x.Key=k)(ha:∀y∈A,gh y.Key k=true)(hb:∀y∈B,gh k y.Key=true):eU (fK k) (A++x::B)=A.length∧j6 (fK k) (A++x::B)=true:=by
  have e:eU (fK k) (A++x::B)=A.length:=vD (fun y hy=>nR.2 (ha y hy)) (fun y hy=>by
    rcases List.mem_cons.1 hy with r|r
    · subst r;intro hh;have:=nR.1 hh;rw [hx,fw] at this;cases this
    · exact (pK (hb y r)).1)
  refine ⟨e,?_⟩
  unfold j6;rw [e,List.getElem?_append_right (Nat.le_refl _),Nat.sub_self]
  exact decide_eq_true (ng.2 hx)
theorem uG {A B:List Change}{k:ByteArray}(ha:∀y∈A,gh y.Key k=true)(hb:∀y∈B,gh k y.Key=true):eU (fK k) (A++B)=A.length∧j6 (fK k) (A++B)=false:=by
  have e:eU (fK k) (A++B)=A.length:=vD (fun y hy=>nR.2 (ha y hy)) (fun y hy=>(pK (hb y hy)).1)
  refine ⟨e,?_⟩
  unfold j6;rw [e,List.getElem?_append_right (Nat.le_refl _),Nat.sub_self]
  cases B with
  | nil=>rfl
  | cons y B=>exact decide_eq_false (pK (hb y (List.mem_cons_self ..))).2
theorem qO {A B:List Change}{x c:Change}(hx:x.Key=c.Key)(ha:∀y∈A,gh y.Key c.Key=true)(hb:∀y∈B,gh c.Key y.Key=true):mF (A++x::B) c=A++mid c++B:=by
  obtain ⟨e1,e2⟩:=v8 hx ha hb
  unfold mF mid
  rw [if_pos e2,e1]
  split
  · rw [List.take_left,show A++x::B=(A++[x])++B by simp,show A.length+1=(A++[x]).length by simp,List.drop_left];simp
  · rw [List.set_append_right _ _ (Nat.le_refl _),Nat.sub_self];simp
theorem lQ {A B:List Change}{c:Change}(ha:∀y∈A,gh y.Key c.Key=true)(hb:∀y∈B,gh c.Key y.Key=true):mF (A++B) c=A++mid c++B:=by
  obtain ⟨e1,e2⟩:=uG ha hb
  unfold mF mid
  rw [if_neg (by rw [e2];simp),e1]
  split
  · simp
  · rw [List.take_left,List.drop_left]
theorem pL {c:Change}:∀ (A:List Change) (s:List Change×Bool),(∀y∈A,gh y.Key c.Key=true)→A.foldl (bX c) s=(s.1++A,s.2)
  | [],s,h=>by simp
  | x::A,s,h=>by
    have hx:=h x (List.mem_cons_self ..)
    have e:bX c s x=(s.1++[x],s.2):=by
      unfold bX
      have h1:(gh c.Key x.Key||decide (c.Key=x.Key))=false:=by
        rw [nf hx];simp;intro e;rw [e,fw] at hx;cases hx
      rw [if_neg (by rw [h1];simp)]
      have h2:¬ x.Key=c.Key:=fun e=>by rw [e,fw] at hx;cases hx
      dsimp only;rw [if_neg h2]
    rw [List.foldl_cons,e,pL A _ (fun y hy=>h y (List.mem_cons_of_mem _ hy))];simp
theorem j8 {c:Change}:∀ (B:List Change) (acc:List Change),(∀y∈B,gh c.Key y.Key=true)→B.foldl (bX c) (acc,true)=(acc++B,true)
  | [],s,h=>by simp
  | x::B,acc,h=>by
    have hx:=h x (List.mem_cons_self ..)
    have e:bX c (acc,true) x=(acc++[x],true):=by
      unfold bX
      rw [if_neg (by simp)]
      have h2:¬ x.Key=c.Key:=fun e=>by rw [e,fw] at hx;cases hx
      dsimp only;rw [if_neg h2]
    rw [List.foldl_cons,e,j8 B _ (fun y hy=>h y (List.mem_cons_of_mem _ hy))];simp
theorem uH {c:Change}{acc B:List Change}{b:Bool}(hb:∀y∈B,gh c.Key y.Key=true)(hg:b=c.Gone) :
    (if (B.foldl (bX c) (acc,b)).2=true then (B.foldl (bX c) (acc,b)).1 else (B.foldl (bX c) (acc,b)).1++[c])=acc++mid c++B:=by
  unfold mid
  cases b with
  | true=>rw [j8 B acc hb,← hg];simp
  | false =>
    rw [← hg]
    cases B with
    | nil=>simp
    | cons x B =>
      have hx:=hb x (List.mem_cons_self ..)
      have e:bX c (acc,false) x=(acc++[c]++[x],true):=by
        unfold bX
        rw [if_pos ⟨rfl,by rw [hx];rfl⟩]
        have h2:¬ x.Key=c.Key:=fun e=>by rw [e,fw] at hx;cases hx
        dsimp only;rw [if_neg h2]
      rw [List.foldl_cons,e,j8 B _ (fun y hy=>hb y (List.mem_cons_of_mem _ hy))];simp
theorem uI {A B:List Change}{x c:Change}(hx:x.Key=c.Key)(ha:∀y∈A,gh y.Key c.Key=true)(hb:∀y∈B,gh c.Key y.Key=true):qN (A++x::B) c=A++mid c++B:=by
  unfold qN mG
  rw [List.foldl_append,pL A _ ha,List.nil_append,List.foldl_cons]
  have h1:(gh c.Key x.Key||decide (c.Key=x.Key))=true:=by rw [hx];simp
  cases hg:c.Gone with
  | true =>
    have e:bX c (A,true) x=(A,true):=by unfold bX;rw [if_neg (by simp)];dsimp only;rw [if_pos hx]
    rw [e,j8 B A hb];simp [mid,hg]
  | false =>
    have e:bX c (A,false) x=(A++[c],true):=by unfold bX;rw [if_pos ⟨rfl,h1⟩];dsimp only;rw [if_pos hx]
    rw [e,j8 B _ hb];simp [mid,hg]
theorem s7 {A B:List Change}{c:Change}(ha:∀y∈A,gh y.Key c.Key=true)(hb:∀y∈B,gh c.Key y.Key=true):qN (A++B) c=A++mid c++B:=by
  unfold qN mG
  rw [List.foldl_append,pL A _ ha,List.nil_append]
  exact uH hb rfl
theorem wa {l:List Change}(h:fD l)(c:Change):mF l c=qN l c:=by
  rcases h.cut c.Key with ⟨A,B,x,rfl,hx,ha,hb⟩ | ⟨A,B,rfl,ha,hb⟩
  · rw [qO hx ha hb,uI hx ha hb]
  · rw [lQ ha hb,s7 ha hb]
theorem qP {l:List Change}(h:fD l)(c:Change):∃A B,mF l c=A++mid c++B∧(∀y∈A,gh y.Key c.Key=true)∧(∀y∈B,gh c.Key y.Key=true)∧fD (A++B) ∧ ∀y,y∈A++B↔y∈l∧y.Key≠c.Key:=by
  have hlt:∀ {y:Change},gh y.Key c.Key=true→y.Key≠c.Key:=fun h e=>by rw [e,fw] at h;cases h
  have hgt:∀ {y:Change},gh c.Key y.Key=true→y.Key≠c.Key:=fun h e=>by rw [e,fw] at h;cases h
  rcases h.cut c.Key with ⟨A,B,x,rfl,hx,ha,hb⟩ | ⟨A,B,rfl,ha,hb⟩
  ·
    refine ⟨A,B,qO hx ha hb,ha,hb,?_,fun y=>?_⟩
    ·
      obtain ⟨h1,h2,h3⟩:=List.pairwise_append.1 h
      exact List.pairwise_append.2 ⟨h1,(List.pairwise_cons.1 h2).2,fun a ha b hb=>h3 a ha b (List.mem_cons_of_mem _ hb)⟩
    ·
      simp only [List.mem_append,List.mem_cons]
      constructor
      ·
        rintro (h|h)
        · exact ⟨.inl h,hlt (ha y h)⟩
        · exact ⟨.inr (.inr h),hgt (hb y h)⟩
      ·
        rintro ⟨h|h|h,k⟩
        · exact .inl h
        · subst h;exact absurd hx k
        · exact .inr h
  ·
    refine ⟨A,B,lQ ha hb,ha,hb,h,fun y=>⟨fun hy=>⟨hy,?_⟩,And.left⟩⟩
    rcases List.mem_append.1 hy with h|h
    · exact hlt (ha y h)
    · exact hgt (hb y h)
theorem lR {l:List Change}(h:fD l)(c:Change):fD (mF l c):=by
  obtain ⟨A,B,e,ha,hb,hr,_⟩:=qP h c
  rw [e]
  obtain ⟨h1,h2,h3⟩:=List.pairwise_append.1 hr
  unfold mid
  split
  · rw [List.append_nil];exact hr
  · exact List.pairwise_append.2 ⟨List.pairwise_append.2 ⟨h1,List.pairwise_singleton _ _,fun a yO b hbb=>by rw [List.mem_singleton.1 hbb];exact ha a yO⟩,h2,fun a yO b hbb=>by
      rcases List.mem_append.1 yO with q|q
      · exact h3 a q b hbb
      · rw [List.mem_singleton.1 q];exact hb b hbb⟩
theorem uJ {l:List Change}(h:fD l){c y:Change}:y∈mF l c↔(y∈l∧y.Key≠c.Key)∨(c.Gone=false∧y=c):=by
  obtain ⟨A,B,e,ha,hb,hr,hm⟩:=qP h c
  rw [e,← hm y]
  simp only [List.mem_append,mid]
  cases c.Gone
  ·
    rw [if_neg (by decide)]
    simp only [List.mem_singleton,true_and]
    constructor
    ·
      rintro ((h|h)|h)
      · exact .inl (.inl h)
      · exact .inr h
      · exact .inl (.inr h)
    ·
      rintro ((h|h)|h)
      · exact .inl (.inl h)
      · exact .inr h
      · exact .inl (.inr h)
  ·
    rw [if_pos rfl]
    simp
theorem lS:∀ (l:List Change) {rows:List Change},fD rows→fD (a7 rows l)
  | [],rows,h=>h
  | c::l,rows,h=>lS l (lR h c)
theorem oV:∀ (l:List Change) {rows:List Change},fD rows→a7 rows l=bz rows l
  | [],rows,h=>rfl
  | c::l,rows,h=>by
    show a7 (mF rows c) l=bz (qN rows c) l
    rw [← wa h c];exact oV l (lR h c)
end Go.Proofs.Ytpipachmngdegaa
end
