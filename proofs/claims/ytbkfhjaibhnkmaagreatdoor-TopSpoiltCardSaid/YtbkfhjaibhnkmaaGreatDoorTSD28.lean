import Derived.Test.YtbkfhjaibhnkmaaGreatDoorTSD12
section
namespace Go.Proofs.YtbkfhjaibhnkmaaGreatDoor
set_option linter.unusedVariables false
theorem lw {p q r:Place}(h:e7 p q)(k:e7 q r):e7 p r:=by unfold e7 at *;omega
theorem l4 {p:Place}(h:e7 p p):False:=by unfold e7 at h;omega
theorem rC (p q:Place):e7 p q∨p=q∨e7 q p:=by
 cases p;cases q;unfold e7;simp only [Place.mk.injEq];omega
theorem gL {p q:Place}(h:e7 p q):p≠q:=fun e=>l4 (e▸h)
theorem oJ (p q:Place):kO p q<0↔e7 p q:=by
 unfold kO kN e7
 constructor
 ·intro h;split at h <;> (repeat' split at h) <;> first|omega|(simp_all;done)|(simp_all;omega)
 ·intro h;split <;> (repeat' split) <;> omega
abbrev oK (l:List Held):Prop:=l.Pairwise fun a b=>e7 a.Place b.Place
def wN (l:List Held):Prop:= ∀h∈l,aX h.Place=0∧h.aj≠0
theorem fV {l:List Held}(h:Good l):oK l:=by
 have key:∀ (d i:Nat) x y,l[i]? = some x→l[i+d+1]? = some y→e7 x.Place y.Place:=by
  intro d
  induction d with
  | zero =>
   intro i x y hx hy
   have hi:=(List.getElem?_eq_some_iff.1 hy).1
   exact (h (i+1) hi y hy).2.2 x (by omega) (by simpa using hx)
  | succ d ih =>
   intro i x y hx hy
   have hi:=(List.getElem?_eq_some_iff.1 hy).1
   obtain ⟨z,hz⟩:∃z,l[i+d+1]? = some z:=⟨_,List.getElem?_eq_getElem (by omega)⟩
   exact lw (ih i x z hx hz) ((h (i+(d+1)+1) hi y hy).2.2 z (by omega) (by rw [← hz];congr 1))
 refine List.pairwise_iff_getElem.2 ?_
 intro i j hi hj hij
 exact key (j-i-1) i _ _ (List.getElem?_eq_getElem hi) (by rw [show i+(j-i-1)+1=j by omega];exact List.getElem?_eq_getElem hj)
theorem l5 {l:List Held}(h:Good l):wN l:=fun x hx=>by
 obtain ⟨i,hi⟩:=List.mem_iff_getElem?.1 hx
 have:=h i (List.getElem?_eq_some_iff.1 hi).1 x hi
 exact ⟨this.1,this.2.1⟩
theorem jI {l:List Held}(h:oK l)(hf:wN l):Good l:=fun k hk x hx=>by
 refine ⟨(hf x (List.mem_of_getElem? hx)).1,(hf x (List.mem_of_getElem? hx)).2,fun g h0 hg=>?_⟩
 have h:=List.pairwise_iff_getElem.1 h
 have:=h (k-1) k (by omega) hk (by omega)
 rw [(List.getElem?_eq_some_iff.1 hx).2,(List.getElem?_eq_some_iff.1 hg).2] at this
 exact this
theorem rD {l:List Held}:Good l↔oK l∧wN l:=⟨fun h=>⟨fV h,l5 h⟩,fun h=>jI h.1 h.2⟩
def rF (p:Place):Int:=6*p.ao+p.Slot
theorem yt {p q:Place}(hp:aX p=0)(hq:aX q=0)(h:e7 p q):rF p<rF q:=by
 have:=bS hp;have:=bS hq
 unfold e7 at h;unfold rF;omega
theorem wO {l:List Held}(h:Good l):l.length≤24:=by
 have hr:=fV h;have hf:=l5 h
 have key:∀ (l:List Held) (m:Int),oK l→wN l→(∀x∈l,m<rF x.Place)→m≤30→m+l.length≤29∨l=[]:=by
  intro l
  induction l with
  | nil=>intro m _ _ _ _;exact .inr rfl
  | cons x l ih =>
   intro m hr hf hm EP
   left
   have hx:=hf x (List.mem_cons_self ..)
   have hp:=bS hx.1
   have h1:=hm x (List.mem_cons_self ..)
   have h2:rF x.Place≤29:=by unfold rF;omega
   obtain ⟨hr1,hr2⟩:=List.pairwise_cons.1 hr
   have hf':wN l:=fun y hy=>hf y (List.mem_cons_of_mem _ hy)
   rcases ih (rF x.Place) hr2 hf' (fun y hy=>yt hx.1 (hf' y hy).1 (hr1 y hy)) (by omega) with h3|h3
   ·simp only [List.length_cons];omega
   ·subst h3;simp;omega
 rcases key l 5 hr hf (fun x hx=>by have:=bS (hf x hx).1;unfold rF;omega) (by omega) with h1|h1
 ·omega
 ·subst h1;simp
inductive Shape (l:List Held)(p:Place):Prop
  | hit (A B:List Held) (w:Int) (e:l=A++⟨p,w⟩::B) (h:uO l p=true) (k:dE l p=A.length) (ha:∀x∈A,e7 x.Place p) (hb:∀x∈B,e7 p x.Place)
  | miss (A B:List Held) (e:l=A++B) (h:uO l p=false) (k:dE l p=A.length) (ha:∀x∈A,e7 x.Place p) (hb:∀x∈B,e7 p x.Place)
theorem shape (l:List Held)(p:Place)(hr:oK l):Shape l p:=by
 have hm:=qX (f:=fun h:Held=>kO h.Place p) (l:=l) (fun i j x y hij hx hy hc=>by
  simp only [oJ] at hc ⊢
  rcases Nat.lt_or_ge i j with h1|h1
  ·
   have hr':=List.pairwise_iff_getElem.1 hr
   have:=hr' i j (List.getElem?_eq_some_iff.1 hx).1 (List.getElem?_eq_some_iff.1 hy).1 h1
   rw [(List.getElem?_eq_some_iff.1 hx).2,(List.getElem?_eq_some_iff.1 hy).2] at this
   exact lw this hc
  ·
   have:i=j:=by omega
   subst this;rw [hx] at hy;injection hy with hy;subst hy;exact hc)
 have hk:=nE l p
 have hsplit:l=l.take (dE l p)++l.drop (dE l p):=(List.take_append_drop _ _).symm
 have hlen:(l.take (dE l p)).length=dE l p:=by rw [List.length_take];omega
 have hA:∀x∈l.take (dE l p),e7 x.Place p:=fun x hx=>by
  obtain ⟨i,hi⟩:=List.mem_iff_getElem?.1 hx
  rw [List.getElem?_take] at hi
  split at hi
  ·exact (oJ _ _).1 (hm.1 i x (by assumption) hi)
  ·cases hi
 have hB:∀x∈l.drop (dE l p),¬ e7 x.Place p:=fun x hx=>by
  obtain ⟨i,hi⟩:=List.mem_iff_getElem?.1 hx
  rw [List.getElem?_drop] at hi
  exact fun hc=>hm.2 _ x (Nat.le_add_right _ _) hi ((oJ _ _).2 hc)
 rcases mB l p with h|⟨x,hx,h,hp,hlt⟩
 ·
  refine .miss _ _ hsplit h hlen.symm hA fun x hx=>?_
  have h1:=hB x hx
  rcases rC p x.Place with h2|h2|h2
  ·exact h2
  ·
   exfalso
   obtain ⟨y,hy⟩:∃y,l[dE l p]? = some y:=by
    obtain ⟨i,hi⟩:=List.mem_iff_getElem?.1 hx
    rw [List.getElem?_drop] at hi
    have:=(List.getElem?_eq_some_iff.1 hi).1
    exact ⟨_,List.getElem?_eq_getElem (by omega)⟩
   have hyn:kO y.Place p≠0:=fun hc=>by
    have:uO l p=true:=by
     show tT _ l=true
     unfold tT
     have hy':l[pb (fun h:Held=>kO h.Place p) l]? = some y:=hy
     rw [hy'];simp [hc]
    rw [h] at this;cases this
   have hym:y∈l.drop (dE l p):=List.mem_iff_getElem?.2 ⟨0,by rw [List.getElem?_drop];exact hy⟩
   have hyb:=hB y hym
   have hyp:e7 p y.Place:=by
    rcases rC p y.Place with h3|h3|h3
    ·exact h3
    ·exact absurd (by rw [h3];exact uN _) hyn
    ·exact absurd h3 hyb
   obtain ⟨i,hi⟩:=List.mem_iff_getElem?.1 hx
   rw [List.getElem?_drop] at hi
   rcases Nat.eq_zero_or_pos i with h0|h0
   ·
    subst h0;rw [Nat.add_zero,hy] at hi;injection hi with hi;subst hi
    exact l4 (h2▸hyp)
   ·
    have hr':=List.pairwise_iff_getElem.1 hr
    have:=hr' (dE l p) (dE l p+i) (List.getElem?_eq_some_iff.1 hy).1 (List.getElem?_eq_some_iff.1 hi).1 (by omega)
    rw [(List.getElem?_eq_some_iff.1 hy).2,(List.getElem?_eq_some_iff.1 hi).2] at this
    exact l4 (h2▸lw hyp this)
  ·exact absurd h2 h1
 ·
  have hd:l.drop (dE l p)=x::l.drop (dE l p+1):=by
   rw [List.drop_eq_getElem_cons hlt,(List.getElem?_eq_some_iff.1 hx).2]
  have hxe:x=⟨p,x.aj⟩:=by cases x;simp at hp;simp [hp]
  refine .hit (l.take (dE l p)) (l.drop (dE l p+1)) x.aj ?_ h hlen.symm hA fun y hy=>?_
  ·rw [← hxe,← hd,List.take_append_drop]
  ·
   obtain ⟨i,hi⟩:=List.mem_iff_getElem?.1 hy
   rw [List.getElem?_drop] at hi
   have hr':=List.pairwise_iff_getElem.1 hr
   have:=hr' (dE l p) (dE l p+1+i) hlt (List.getElem?_eq_some_iff.1 hi).1 (by omega)
   rw [(List.getElem?_eq_some_iff.1 hx).2,(List.getElem?_eq_some_iff.1 hi).2,hp] at this
   exact this
theorem ud {A:List Held}{p:Place}(h:∀x∈A,¬ x.Place=p):A.find? (fun h=>h.Place==p)=none:=by
 rw [List.find?_eq_none];intro x hx;simpa using h x hx
theorem mJ {A B:List Held}{p:Place}{w:Int}(h:∀x∈A,¬ x.Place=p):m0 (A++⟨p,w⟩::B) p=w:=by
 unfold m0;rw [List.find?_append,ud h];simp
theorem rG {A:List Held}{p:Place}(h:∀x∈A,¬ x.Place=p):m0 A p=0:=by
 unfold m0;rw [ud h]
theorem lx {A B:List Held}{x:Held}{q:Place}(h:¬ x.Place=q):m0 (A++x::B) q=m0 (A++B) q:=by
 unfold m0;rw [List.find?_append,List.find?_append,List.find?_cons]
 have:(x.Place==q)=false:=by simpa using h
 rw [this]
theorem at_eq {l:List Held}{p:Place}(hr:oK l):iQ l p=m0 l p:=by
 cases shape l p hr with
 | hit A B w e h k ha hb =>
  have hx:l[dE l p]? = some ⟨p,w⟩:=by rw [k,e];simp
  rw [qk h hx,e,mJ (fun x hx=>gL (ha x hx))]
 | miss A B e h k ha hb =>
  rw [sv h,e,rG]
  intro x hx
  rcases List.mem_append.1 hx with hx|hx
  ·exact gL (ha x hx)
  ·exact fun e=>gL (hb x hx) e.symm
theorem wP {p:Place}{id:Int}:∀ {A:List Held} (acc:List Held) (b:Bool),(∀x∈A,e7 x.Place p)→A.foldl (jA p id) (acc,b)=(acc++A,b)
 | [],acc,b,h=>by simp
 | x::A,acc,b,h=>by
  have hx:=h x (List.mem_cons_self ..)
  simp only [List.foldl_cons]
  rw [j9 (.inr (by unfold e7 at hx;omega)),if_neg (gL hx),wP _ _ (fun y hy=>h y (List.mem_cons_of_mem _ hy))]
  simp
theorem rH {p:Place}{id:Int}:∀ {B:List Held} (acc:List Held),(∀x∈B,e7 p x.Place)→B.foldl (jA p id) (acc,true)=(acc++B,true)
 | [],acc,h=>by simp
 | x::B,acc,h=>by
  have hx:=h x (List.mem_cons_self ..)
  simp only [List.foldl_cons]
  rw [j9 (.inl rfl),if_neg (fun e=>gL hx e.symm),rH _ (fun y hy=>h y (List.mem_cons_of_mem _ hy))]
  simp
theorem l6 {l A B:List Held}{p:Place}{w id:Int}(e:l=A++⟨p,w⟩::B)(h:uO l p=true)(k:dE l p=A.length):cE l p id=if id=0 then A++B else A++⟨p,id⟩::B:=by
 unfold cE;rw [if_pos h,k,e]
 split
 ·
  congr 1
  ·simp
  ·rw [List.drop_append,List.drop_of_length_le (by omega)];simp
 ·simp
theorem kJ {l A B:List Held}{p:Place}{id:Int}(e:l=A++B)(h:uO l p=false)(k:dE l p=A.length):cE l p id=if id=0 then A++B else A++⟨p,id⟩::B:=by
 unfold cE;rw [if_neg (by rw [h];simp),k,e]
 split
 ·rfl
 ·simp
theorem put_eq {l:List Held}{p:Place}{id:Int}(hr:oK l):cE l p id=sA l p id:=by
 cases shape l p hr with
 | hit A B w e h k ha hb =>
  rw [l6 e h k]
  unfold sA qZ
  rw [e,List.foldl_append,wP _ _ ha,List.foldl_cons]
  have hle:p.ao<(⟨p,w⟩:Held).Place.ao∨(p.ao=(⟨p,w⟩:Held).Place.ao∧p.Slot≤(⟨p,w⟩:Held).Place.Slot):= .inr ⟨rfl,Int.le_refl _⟩
  by_cases h0:id=0
  ·
   have:(id==0)=true:=by simpa using h0
   rw [this,j9 (.inl rfl),if_pos rfl,rH _ hb,if_pos h0,if_pos rfl];simp
  ·
   have:(id==0)=false:=by simpa using h0
   rw [this,ov hle,if_pos rfl,rH _ hb,if_neg h0,if_pos rfl];simp
 | miss A B e h k ha hb =>
  rw [kJ e h k]
  unfold sA qZ
  rw [e,List.foldl_append,wP _ _ ha]
  by_cases h0:id=0
  ·
   have:(id==0)=true:=by simpa using h0
   rw [this,rH _ hb,if_pos h0,if_pos rfl];simp
  ·
   have:(id==0)=false:=by simpa using h0
   rw [this,if_neg h0]
   cases B with
   | nil=>rw [List.foldl_nil,if_neg Bool.false_ne_true];simp
   | cons x B =>
    have hx:=hb x (List.mem_cons_self ..)
    have hne:¬ x.Place=p:=fun e=>gL hx e.symm
    rw [List.foldl_cons,ov (by unfold e7 at hx;omega),if_neg hne,rH _ (fun y hy=>hb y (List.mem_cons_of_mem _ hy)),if_pos rfl];simp
theorem rJ {A B:List Held}(h:oK (A++B)):oK A∧oK B ∧ ∀x∈A,∀y∈B,e7 x.Place y.Place:=List.pairwise_append.1 h
theorem jh {l:List Held}{p:Place}{id:Int}(hg:Good l)(hp:aX p=0):Good (cE l p id):=by
 have hr:=fV hg;have hf:=l5 hg
 cases shape l p hr with
 | hit A B w e h k ha hb =>
  rw [l6 e h k]
  rw [e] at hr hf
  obtain ⟨h1,h2,h3⟩:=rJ hr
  obtain ⟨h4,h5⟩:=List.pairwise_cons.1 h2
  split
  ·exact jI (List.pairwise_append.2 ⟨h1,h5,fun x hx y hy=>h3 x hx y (List.mem_cons_of_mem _ hy)⟩) (fun x hx=>hf x (by simp at hx ⊢;rcases hx with hx|hx <;> simp [hx]))
  ·
   refine jI (List.pairwise_append.2 ⟨h1,List.pairwise_cons.2 ⟨hb,h5⟩,fun x hx y hy=>?_⟩) (fun x hx=>?_)
   ·
    rcases List.mem_cons.1 hy with hy|hy
    ·subst hy;exact ha x hx
    ·exact h3 x hx y (List.mem_cons_of_mem _ hy)
   ·
    simp at hx
    rcases hx with hx|hx|hx
    ·exact hf x (by simp [hx])
    ·subst hx;exact ⟨hp,by assumption⟩
    ·exact hf x (by simp [hx])
 | miss A B e h k ha hb =>
  rw [kJ e h k]
  split
  ·rw [← e];exact hg
  ·
   rw [e] at hr hf
   obtain ⟨h1,h2,h3⟩:=rJ hr
   refine jI (List.pairwise_append.2 ⟨h1,List.pairwise_cons.2 ⟨hb,h2⟩,fun x hx y hy=>?_⟩) (fun x hx=>?_)
   ·
    rcases List.mem_cons.1 hy with hy|hy
    ·subst hy;exact ha x hx
    ·exact h3 x hx y hy
   ·
    simp at hx
    rcases hx with hx|hx|hx
    ·exact hf x (by simp [hx])
    ·subst hx;exact ⟨hp,by assumption⟩
    ·exact hf x (by simp [hx])
theorem vd {l:List Held}{p q:Place}{id:Int}(hg:Good l)(hp:aX p=0)(hq:¬ q=p):iQ (cE l p id) q=iQ l q:=by
 have hr:=fV hg
 rw [at_eq (fV (jh hg hp)),at_eq hr]
 have hpq:¬ p=q:=fun e=>hq e.symm
 cases shape l p hr with
 | hit A B w e h k ha hb =>
  rw [l6 e h k,e,lx (x:=⟨p,w⟩) hpq]
  split
  ·rfl
  ·rw [lx (x:=⟨p,id⟩) hpq]
 | miss A B e h k ha hb =>
  rw [kJ e h k,e]
  split
  ·rfl
  ·rw [lx (x:=⟨p,id⟩) hpq]
theorem nh {l:List Held}{h:Int}:∀ (n s:Nat),(ia l h n s = -1 ∧ ∀t,s≤t→t<s+n→iQ l ⟨h,(t:Int)⟩≠0) ∨ ∃k:Nat,ia l h n s=k∧s≤k∧k<s+n∧iQ l ⟨h,(k:Int)⟩=0 ∧ ∀t,s≤t→t<k→iQ l ⟨h,(t:Int)⟩≠0
 | 0,s => .inl ⟨rfl,fun t h1 h2=>by omega⟩
 | n+1,s=>by
  simp only [ia]
  by_cases e:iQ l ⟨h,s⟩=0
  ·rw [if_pos e];exact .inr ⟨s,rfl,Nat.le_refl _,by omega,e,fun t h1 h2=>by omega⟩
  ·
   rw [if_neg e]
   rcases nh (l:=l) (h:=h) n (s+1) with ⟨h1,h2⟩ | ⟨k,h1,h2,h3,h4,h5⟩
   ·
    refine .inl ⟨h1,fun t h3 h4=>?_⟩
    rcases Nat.eq_or_lt_of_le h3 with h5|h5
    ·subst h5;exact e
    ·exact h2 t h5 (by omega)
   ·
    refine .inr ⟨k,h1,by omega,by omega,h4,fun t h6 h7=>?_⟩
    rcases Nat.eq_or_lt_of_le h6 with h8|h8
    ·subst h8;exact e
    ·exact h5 t h8 h7
theorem free_spec (l:List Held)(h:Int):(eu l h = -1 ∧ ∀t:Int,0≤t→t≤5→iQ l ⟨h,t⟩≠0)∨(0≤eu l h∧eu l h≤5∧iQ l ⟨h,eu l h⟩=0 ∧ ∀t:Int,0≤t→t<eu l h→iQ l ⟨h,t⟩≠0):=by
 rcases nh (l:=l) (h:=h) 6 0 with ⟨h1,h2⟩ | ⟨k,h1,h2,h3,h4,h5⟩
 ·
  refine .inl ⟨h1,fun t h3 h4=>?_⟩
  have:=h2 t.toNat (Nat.zero_le _) (by omega)
  rwa [Int.toNat_of_nonneg h3] at this
 ·
  have hk:eu l h=k:=h1
  refine .inr ⟨by omega,by omega,by rw [hk];exact h4,fun t h6 h7=>?_⟩
  have:=h5 t.toNat (Nat.zero_le _) (by omega)
  rwa [Int.toNat_of_nonneg h6] at this
end Go.Proofs.YtbkfhjaibhnkmaaGreatDoor
end
section
namespace Go.Proofs.YtbkfhjaibhnkmaaGreatDoor
end Go.Proofs.YtbkfhjaibhnkmaaGreatDoor
end
