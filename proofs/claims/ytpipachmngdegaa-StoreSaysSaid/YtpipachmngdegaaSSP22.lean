import Derived.Test.YtpipachmngdegaaSSP21
import Derived.Test.YtpipachmngdegaaSSP20
section
namespace Go.Proofs.Ytpipachmngdegaa
open Go
set_option linter.unusedVariables false
def c0:Change:=⟨⟨#[]⟩,⟨#[]⟩,false⟩
def dH (c:Change):Int :=
  if c.Key=⟨#[]⟩∨(c.Gone=true∧¬ c.Val=⟨#[]⟩) then 3 else if 8<c.Key.size∨24<c.Val.size then 2 else 0
theorem aS (c:Change):dH c=0∨dH c=2∨dH c=3:=by unfold dH;(repeat' split) <;> simp
theorem dB {c:Change}(h:dH c=0):c.Key≠⟨#[]⟩∧(c.Gone=true→c.Val=⟨#[]⟩)∧c.Key.size≤8∧c.Val.size≤24:=by
  unfold dH at h
  split at h
  · cases h
  ·
    split at h
    · cases h
    ·
      rename_i h1 h2
      exact ⟨fun e=>h1 (.inl e),fun g=>Classical.byContradiction fun e=>h1 (.inr ⟨g,e⟩),by omega,by omega⟩
def ny (b:Bool):UInt8:=if b=true then 1 else 0
def ef (c:Change):ByteArray×Int :=
  if dH c=0 then (⟨#[ny c.Gone,UInt8.ofNat c.Key.size]⟩++c.Key++c.Val,0) else (⟨#[]⟩,dH c)
def aW (s:ByteArray)(i:Nat):Nat:=((s.data[i]?).getD 0).toNat
theorem ae {s:ByteArray}{i:Nat}{x:UInt8}(h:s.data[i]? = some x):aW s i=x.toNat:=by unfold aW;rw [h];rfl
theorem jB (s:ByteArray)(i:Nat):aW s i<256:=by unfold aW;exact UInt8.toNat_lt _
def tu (s:ByteArray):Change:=⟨s.extract 2 (2+aW s 1),s.extract (2+aW s 1) s.size,decide (aW s 0=1)⟩
def iy (s:ByteArray):Change×Int :=
  if s.size<2∨1<aW s 0∨s.size<2+aW s 1 then (c0,4) else if dH (tu s)=0 then (tu s,0) else (c0,4)
abbrev bl (s:ByteArray):List UInt8:=s.data.toList
theorem eO (s:ByteArray):(bl s).length=s.size:=Array.length_toList
theorem iJ (a b:ByteArray):bl (a++b)=bl a++bl b:=by simp [bl,ByteArray.data_append]
theorem fF (s:ByteArray)(i j:Nat):bl (s.extract i j)=((bl s).take j).drop i:=by
  simp only [bl,ByteArray.data_extract,Array.toList_extract,List.extract_eq_take_drop]
  rw [List.drop_take]
theorem dP (s:ByteArray)(i:Nat):aW s i=(((bl s)[i]?).getD 0).toNat:=by simp [aW,bl]
theorem jg {n:Nat}(h:n<256):(UInt8.ofNat n).toNat=n:=by rw [UInt8.toNat_ofNat'];omega
theorem tv {c:Change}(h:dH c=0):bl (ef c).1=ny c.Gone::UInt8.ofNat c.Key.size::(bl c.Key++bl c.Val):=by
  unfold ef;rw [if_pos h];simp only [iJ];simp [bl]
theorem fR {c:Change}(h:dH c=0):(ef c).1.size=2+c.Key.size+c.Val.size:=by
  rw [← eO,tv h];simp only [List.length_cons,List.length_append,eO];omega
theorem qT {c:Change}(h:dH c=0):iy (ef c).1=(c,0):=by
  obtain ⟨h1,h2,h3,h4⟩:=dB h
  have hb:=tv h
  have hs:=fR h
  have b0:aW (ef c).1 0=(ny c.Gone).toNat:=by rw [dP,hb];rfl
  have b1:aW (ef c).1 1=c.Key.size:=by rw [dP,hb];exact jg (by omega)
  have g:(ny c.Gone).toNat=1∧c.Gone=true∨(ny c.Gone).toNat=0∧c.Gone=false:=by cases c.Gone <;> simp [ny]
  have hof:tu (ef c).1=c:=by
    unfold tu
    rw [b0,b1]
    have e1:(ef c).1.extract 2 (2+c.Key.size)=c.Key:=ec (by
      have:=fF (ef c).1 2 (2+c.Key.size)
      rw [hb] at this
      refine this.trans ?_
      rw [show 2+c.Key.size=c.Key.size+1+1 by omega,List.take_succ_cons,List.take_succ_cons,List.drop_succ_cons,List.drop_succ_cons,List.drop_zero,← eO c.Key,List.take_left])
    have e2:(ef c).1.extract (2+c.Key.size) (ef c).1.size=c.Val:=ec (by
      have:=fF (ef c).1 (2+c.Key.size) (ef c).1.size
      rw [hb] at this
      refine this.trans ?_
      rw [List.take_of_length_le (by simp only [List.length_cons,List.length_append,eO];omega),show 2+c.Key.size=c.Key.size+1+1 by omega,List.drop_succ_cons,List.drop_succ_cons,← eO c.Key,List.drop_left])
    rw [e1,e2]
    rcases g with ⟨g1,g2⟩ | ⟨g1,g2⟩ <;> (rw [g1];cases c;simp_all)
  unfold iy
  rw [if_neg (by omega),hof,if_pos h]
def fK (k:ByteArray)(x:Change):Int:=o0 x.Key k
def mS (rows:List Change)(c:Change):List Change :=
  if kh (fK c.Key) rows=true then (if c.Gone=true then rows.take (fr (fK c.Key) rows)++rows.drop (fr (fK c.Key) rows+1) else rows.set (fr (fK c.Key) rows) c)
  else if c.Gone=true then rows else rows.take (fr (fK c.Key) rows)++[c]++rows.drop (fr (fK c.Key) rows)
def a8 (rows l:List Change):List Change:=l.foldl mS rows
theorem iK {rows l:List Change}{k:Nat}{c:Change}(h:l[k]? = some c):a8 rows (l.take (k+1))=mS (a8 rows (l.take k)) c:=by
  unfold a8;rw [List.take_add_one,h];simp
theorem uN (rows:List Change)(c:Change):(mS rows c).length≤rows.length+1:=by
  unfold mS;(repeat' split) <;> simp <;> omega
theorem fG:∀ (l rows:List Change),(a8 rows l).length≤rows.length+l.length
  | [],rows=>by simp [a8]
  | c::l,rows=>by
    have h1:=fG l (mS rows c)
    have h2:=uN rows c
    show (a8 (mS rows c) l).length≤_
    rw [List.length_cons];omega
def cb (c:Change)(s:List Change×Bool)(x:Change):List Change×Bool :=
  let s1:=if s.2=false∧(gw c.Key x.Key||decide (c.Key=x.Key))=true then (s.1++[c],true) else s
  (if x.Key=c.Key then s1.1 else s1.1++[x],s1.2)
def mT (rows:List Change)(c:Change):List Change×Bool:=rows.foldl (cb c) ([],c.Gone)
def qU (rows:List Change)(c:Change):List Change:=if (mT rows c).2=true then (mT rows c).1 else (mT rows c).1++[c]
def bQ (rows l:List Change):List Change:=l.foldl qU rows
theorem ki {rows l:List Change}{k:Nat}{c:Change}(h:l[k]? = some c):bQ rows (l.take (k+1))=qU (bQ rows (l.take k)) c:=by
  unfold bQ;rw [List.take_add_one,h];simp
theorem gB {rows:List Change}{c:Change}{k:Nat}{x:Change}(h:rows[k]? = some x):mT (rows.take (k+1)) c=cb c (mT (rows.take k) c) x:=by
  unfold mT;rw [List.take_add_one,h];simp
theorem o5 (c:Change)(s:List Change×Bool)(x:Change):(cb c s x).1.length+(if (cb c s x).2=true then 0 else 1)≤s.1.length+(if s.2=true then 0 else 1)+1:=by
  unfold cb;dsimp only
  by_cases h:s.2=false∧(gw c.Key x.Key||decide (c.Key=x.Key))=true
  · rw [if_pos h,h.1];dsimp only;split <;> simp
  · rw [if_neg h];split <;> (try simp only [List.length_append,List.length_singleton]) <;> split <;> omega
theorem l4 (c:Change):∀ (rows:List Change) (s:List Change×Bool),(rows.foldl (cb c) s).1.length+(if (rows.foldl (cb c) s).2=true then 0 else 1)≤s.1.length+(if s.2=true then 0 else 1)+rows.length
  | [],s=>Nat.le_refl _
  | x::rows,s=>by
    rw [List.foldl_cons,List.length_cons]
    have h1:=l4 c rows (cb c s x)
    have h2:=o5 c s x
    omega
theorem uO (rows:List Change)(c:Change):(qU rows c).length≤rows.length+1:=by
  have h:=l4 c rows ([],c.Gone)
  unfold qU mT
  cases hg:(rows.foldl (cb c) ([],c.Gone)).2 <;> rw [hg] at h <;> simp at h ⊢
  ·
    have:(if c.Gone=true then 0 else 1)≤1:=by split <;> omega
    omega
  ·
    have:(if c.Gone=true then 0 else 1)≤1:=by split <;> omega
    omega
theorem iL:∀ (l rows:List Change),(bQ rows l).length≤rows.length+l.length
  | [],rows=>by simp [bQ]
  | c::l,rows=>by
    have h1:=iL l (qU rows c)
    have h2:=uO rows c
    show (bQ (qU rows c) l).length≤_
    rw [List.length_cons];omega
def fS (l:List Change):Prop:=l.Pairwise (fun a b=>gw a.Key b.Key=true)
inductive Cut (l:List Change)(k:ByteArray):Prop where
  | hit (A B:List Change) (x:Change) (e:l=A++x::B) (hx:x.Key=k) (ha:∀y∈A,gw y.Key k=true) (hb:∀y∈B,gw k y.Key=true)
  | miss (A B:List Change) (e:l=A++B) (ha:∀y∈A,gw y.Key k=true) (hb:∀y∈B,gw k y.Key=true)
theorem fS.cut:∀ {l:List Change} (h:fS l) (k:ByteArray),Cut l k
  | [],h,k => .miss [] [] rfl (fun y hy=>by cases hy) (fun y hy=>by cases hy)
  | x::l,h,k=>by
    obtain ⟨h1,h2⟩:=List.pairwise_cons.1 h
    rcases uL x.Key k with hl|hl|hl
    ·
      rcases fS.cut h2 k with ⟨A,B,y,e,hy,ha,hb⟩ | ⟨A,B,e,ha,hb⟩
      · exact .hit (x::A) B y (by rw [e];rfl) hy (fun z hz=>by rcases List.mem_cons.1 hz with r|r;exact r▸hl;exact ha z r) hb
      · exact .miss (x::A) B (by rw [e];rfl) (fun z hz=>by rcases List.mem_cons.1 hz with r|r;exact r▸hl;exact ha z r) hb
    · subst hl;exact .hit [] l x rfl rfl (fun y hy=>by cases hy) h1
    · exact .miss [] (x::l) rfl (fun y hy=>by cases hy) (fun z hz=>by rcases List.mem_cons.1 hz with r|r;exact r▸hl;exact nt hl (h1 z r))
theorem vS {f:Change→Int}{A R:List Change}(ha:∀y∈A,f y<0)(hr:∀y∈R,¬ f y<0):fr f (A++R)=A.length:=by
  have hm:∀ (i j:Nat) x y,i≤j→(A++R)[i]? = some x→(A++R)[j]? = some y→f y<0→f x<0:=fun i j x y hij hx hy hf=>by
    by_cases hj:j<A.length
    · rw [List.getElem?_append_left (by omega)] at hx;exact ha x (List.mem_of_getElem? hx)
    · rw [List.getElem?_append_right (by omega)] at hy;exact absurd hf (hr y (List.mem_of_getElem? hy))
  obtain ⟨h1,h2⟩:=tq hm
  rcases Nat.lt_trichotomy (fr f (A++R)) A.length with h|h|h
  ·
    have hg:=List.getElem?_eq_getElem h
    exact absurd (ha _ (List.mem_of_getElem? hg)) (h2 (fr f (A++R)) _ (Nat.le_refl _) (by rw [List.getElem?_append_left h];exact hg))
  · exact h
  ·
    have hle:fr f (A++R)≤(A++R).length:=jT
    have hlt:A.length<(A++R).length:=by omega
    have hg:=List.getElem?_eq_getElem hlt
    have:=h1 A.length _ h hg
    rw [List.getElem?_append_right (Nat.le_refl _)] at hg
    exact absurd this (hr _ (List.mem_of_getElem? hg))
theorem oc {k:ByteArray}{x:Change}:fK k x<0↔gw x.Key k=true:=tr
theorem pV {k:ByteArray}{x:Change}(h:gw k x.Key=true):¬ fK k x<0∧fK k x≠0:=by
  refine ⟨fun hh=>?_,fun hh=>?_⟩
  · have:=nu (oc.1 hh);rw [h] at this;cases this
  · have e:=nw.1 hh;rw [e,fO] at h;cases h
def mid (c:Change):List Change:=if c.Gone=true then [] else [c]
theorem wv {A B:List Change}{x:Change}{k:ByteArray}(hx:x.Key=k)(ha:∀y∈A,gw y.Key k=true)(hb:∀y∈B,gw k y.Key=true):fr (fK k) (A++x::B)=A.length∧kh (fK k) (A++x::B)=true:=by
  have e:fr (fK k) (A++x::B)=A.length:=vS (fun y hy=>oc.2 (ha y hy)) (fun y hy=>by
    rcases List.mem_cons.1 hy with r|r
    · subst r;intro hh;have:=oc.1 hh;rw [hx,fO] at this;cases this
    · exact (pV (hb y r)).1)
  refine ⟨e,?_⟩
  unfold kh;rw [e,List.getElem?_append_right (Nat.le_refl _),Nat.sub_self]
  exact decide_eq_true (nw.2 hx)
theorem uP {A B:List Change}{k:ByteArray}(ha:∀y∈A,gw y.Key k=true)(hb:∀y∈B,gw k y.Key=true):fr (fK k) (A++B)=A.length∧kh (fK k) (A++B)=false:=by
  have e:fr (fK k) (A++B)=A.length:=vS (fun y hy=>oc.2 (ha y hy)) (fun y hy=>(pV (hb y hy)).1)
  refine ⟨e,?_⟩
  unfold kh;rw [e,List.getElem?_append_right (Nat.le_refl _),Nat.sub_self]
  cases B with
  | nil=>rfl
  | cons y B=>exact decide_eq_false (pV (hb y (List.mem_cons_self ..))).2
theorem qV {A B:List Change}{x c:Change}(hx:x.Key=c.Key)(ha:∀y∈A,gw y.Key c.Key=true)(hb:∀y∈B,gw c.Key y.Key=true):mS (A++x::B) c=A++mid c++B:=by
  obtain ⟨e1,e2⟩:=wv hx ha hb
  unfold mS mid
  rw [if_pos e2,e1]
  split
  · rw [List.take_left,show A++x::B=(A++[x])++B by simp,show A.length+1=(A++[x]).length by simp,List.drop_left];simp
  · rw [List.set_append_right _ _ (Nat.le_refl _),Nat.sub_self];simp
theorem l5 {A B:List Change}{c:Change}(ha:∀y∈A,gw y.Key c.Key=true)(hb:∀y∈B,gw c.Key y.Key=true):mS (A++B) c=A++mid c++B:=by
  obtain ⟨e1,e2⟩:=uP ha hb
  unfold mS mid
  rw [if_neg (by rw [e2];simp),e1]
  split
  · simp
  · rw [List.take_left,List.drop_left]
theorem pW {c:Change}:∀ (A:List Change) (s:List Change×Bool),(∀y∈A,gw y.Key c.Key=true)→A.foldl (cb c) s=(s.1++A,s.2)
  | [],s,h=>by simp
  | x::A,s,h=>by
    have hx:=h x (List.mem_cons_self ..)
    have e:cb c s x=(s.1++[x],s.2):=by
      unfold cb
      have h1:(gw c.Key x.Key||decide (c.Key=x.Key))=false:=by
        rw [nu hx];simp;intro e;rw [e,fO] at hx;cases hx
      rw [if_neg (by rw [h1];simp)]
      have h2:¬ x.Key=c.Key:=fun e=>by rw [e,fO] at hx;cases hx
      dsimp only;rw [if_neg h2]
    rw [List.foldl_cons,e,pW A _ (fun y hy=>h y (List.mem_cons_of_mem _ hy))];simp
theorem kj {c:Change}:∀ (B:List Change) (acc:List Change),(∀y∈B,gw c.Key y.Key=true)→B.foldl (cb c) (acc,true)=(acc++B,true)
  | [],s,h=>by simp
  | x::B,acc,h=>by
    have hx:=h x (List.mem_cons_self ..)
    have e:cb c (acc,true) x=(acc++[x],true):=by
      unfold cb
      rw [if_neg (by simp)]
      have h2:¬ x.Key=c.Key:=fun e=>by rw [e,fO] at hx;cases hx
      dsimp only;rw [if_neg h2]
    rw [List.foldl_cons,e,kj B _ (fun y hy=>h y (List.mem_cons_of_mem _ hy))];simp
theorem uQ {c:Change}{acc B:List Change}{b:Bool}(hb:∀y∈B,gw c.Key y.Key=true)(hg:b=c.Gone) :
    (if (B.foldl (cb c) (acc,b)).2=true then (B.foldl (cb c) (acc,b)).1 else (B.foldl (cb c) (acc,b)).1++[c])=acc++mid c++B:=by
  unfold mid
  cases b with
  | true=>rw [kj B acc hb,← hg];simp
  | false =>
    rw [← hg]
    cases B with
    | nil=>simp
    | cons x B =>
      have hx:=hb x (List.mem_cons_self ..)
      have e:cb c (acc,false) x=(acc++[c]++[x],true):=by
        unfold cb
        rw [if_pos ⟨rfl,by rw [hx];rfl⟩]
        have h2:¬ x.Key=c.Key:=fun e=>by rw [e,fO] at hx;cases hx
        dsimp only;rw [if_neg h2]
      rw [List.foldl_cons,e,kj B _ (fun y hy=>hb y (List.mem_cons_of_mem _ hy))];simp
theorem uR {A B:List Change}{x c:Change}(hx:x.Key=c.Key)(ha:∀y∈A,gw y.Key c.Key=true)(hb:∀y∈B,gw c.Key y.Key=true):qU (A++x::B) c=A++mid c++B:=by
  unfold qU mT
  rw [List.foldl_append,pW A _ ha,List.nil_append,List.foldl_cons]
  have h1:(gw c.Key x.Key||decide (c.Key=x.Key))=true:=by rw [hx];simp
  cases hg:c.Gone with
  | true =>
    have e:cb c (A,true) x=(A,true):=by unfold cb;rw [if_neg (by simp)];dsimp only;rw [if_pos hx]
    rw [e,kj B A hb];simp [mid,hg]
  | false =>
    have e:cb c (A,false) x=(A++[c],true):=by unfold cb;rw [if_pos ⟨rfl,h1⟩];dsimp only;rw [if_pos hx]
    rw [e,kj B _ hb];simp [mid,hg]
theorem tw {A B:List Change}{c:Change}(ha:∀y∈A,gw y.Key c.Key=true)(hb:∀y∈B,gw c.Key y.Key=true):qU (A++B) c=A++mid c++B:=by
  unfold qU mT
  rw [List.foldl_append,pW A _ ha,List.nil_append]
  exact uQ hb rfl
theorem wx {l:List Change}(h:fS l)(c:Change):mS l c=qU l c:=by
  rcases h.cut c.Key with ⟨A,B,x,rfl,hx,ha,hb⟩ | ⟨A,B,rfl,ha,hb⟩
  · rw [qV hx ha hb,uR hx ha hb]
  · rw [l5 ha hb,tw ha hb]
theorem qW {l:List Change}(h:fS l)(c:Change):∃A B,mS l c=A++mid c++B∧(∀y∈A,gw y.Key c.Key=true)∧(∀y∈B,gw c.Key y.Key=true)∧fS (A++B) ∧ ∀y,y∈A++B↔y∈l∧y.Key≠c.Key:=by
  have hlt:∀ {y:Change},gw y.Key c.Key=true→y.Key≠c.Key:=fun h e=>by rw [e,fO] at h;cases h
  have hgt:∀ {y:Change},gw c.Key y.Key=true→y.Key≠c.Key:=fun h e=>by rw [e,fO] at h;cases h
  rcases h.cut c.Key with ⟨A,B,x,rfl,hx,ha,hb⟩ | ⟨A,B,rfl,ha,hb⟩
  ·
    refine ⟨A,B,qV hx ha hb,ha,hb,?_,fun y=>?_⟩
    ·
      obtain ⟨h1,h2,h3⟩:=List.pairwise_append.1 h
      exact List.pairwise_append.2 ⟨h1,(List.pairwise_cons.1 h2).2,fun a ha b hb=>h3 a ha b (List.mem_cons_of_mem _ hb)⟩
    ·
      simp only [List.mem_append,List.mem_cons]
      constructor
      ·
        rintro (h|h)
        · exact ⟨.inl h,hlt (ha y h)⟩
        · exact ⟨.inr (.inr h),hgt (hb y h)⟩
      ·
        rintro ⟨h|h|h,k⟩
        · exact .inl h
        · subst h;exact absurd hx k
        · exact .inr h
  ·
    refine ⟨A,B,l5 ha hb,ha,hb,h,fun y=>⟨fun hy=>⟨hy,?_⟩,And.left⟩⟩
    rcases List.mem_append.1 hy with h|h
    · exact hlt (ha y h)
    · exact hgt (hb y h)
theorem l6 {l:List Change}(h:fS l)(c:Change):fS (mS l c):=by
  obtain ⟨A,B,e,ha,hb,hr,_⟩:=qW h c
  rw [e]
  obtain ⟨h1,h2,h3⟩:=List.pairwise_append.1 hr
  unfold mid
  split
  · rw [List.append_nil];exact hr
  · exact List.pairwise_append.2 ⟨List.pairwise_append.2 ⟨h1,List.pairwise_singleton _ _,fun a zl b hbb=>by rw [List.mem_singleton.1 hbb];exact ha a zl⟩,h2,fun a zl b hbb=>by
      rcases List.mem_append.1 zl with q|q
      · exact h3 a q b hbb
      · rw [List.mem_singleton.1 q];exact hb b hbb⟩
theorem uS {l:List Change}(h:fS l){c y:Change}:y∈mS l c↔(y∈l∧y.Key≠c.Key)∨(c.Gone=false∧y=c):=by
  obtain ⟨A,B,e,ha,hb,hr,hm⟩:=qW h c
  rw [e,← hm y]
  simp only [List.mem_append,mid]
  cases c.Gone
  ·
    rw [if_neg (by decide)]
    simp only [List.mem_singleton,true_and]
    constructor
    ·
      rintro ((h|h)|h)
      · exact .inl (.inl h)
      · exact .inr h
      · exact .inl (.inr h)
    ·
      rintro ((h|h)|h)
      · exact .inl (.inl h)
      · exact .inr h
      · exact .inl (.inr h)
  ·
    rw [if_pos rfl]
    simp
theorem l7:∀ (l:List Change) {rows:List Change},fS rows→fS (a8 rows l)
  | [],rows,h=>h
  | c::l,rows,h=>l7 l (l6 h c)
theorem l8:∀ (l:List Change) {rows:List Change},fS rows→a8 rows l=bQ rows l
  | [],rows,h=>rfl
  | c::l,rows,h=>by
    show a8 (mS rows c) l=bQ (qU rows c) l
    rw [← wx h c];exact l8 l (l6 h c)
end Go.Proofs.Ytpipachmngdegaa
end
