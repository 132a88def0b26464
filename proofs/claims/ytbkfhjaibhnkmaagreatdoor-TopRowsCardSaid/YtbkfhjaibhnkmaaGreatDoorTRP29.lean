import Derived.Test.YtbkfhjaibhnkmaaGreatDoorTRP14
section
namespace Go.Proofs.YtbkfhjaibhnkmaaGreatDoor
set_option linter.unusedVariables false
theorem kD {p q r:Place}(h:fD p q)(k:fD q r):fD p r:=by unfold fD at *;omega
theorem lj {p:Place}(h:fD p p):False:=by unfold fD at h;omega
theorem qc (p q:Place):fD p q∨p=q∨fD q p:=by
  cases p;cases q;unfold fD;simp only [Place.mk.injEq];omega
theorem gh {p q:Place}(h:fD p q):p≠q:=fun e=>lj (e▸h)
theorem nC (p q:Place):j9 p q<0↔fD p q:=by
  unfold j9 j8 fD
  constructor
  · intro h;split at h <;> (repeat' split at h) <;> first|omega|(simp_all;done)|(simp_all;omega)
  · intro h;split <;> (repeat' split) <;> omega
abbrev nZ (l:List Held):Prop:=l.Pairwise fun a b=>fD a.Place b.Place
def vr (l:List Held):Prop:= ∀h∈l,aW h.Place=0∧h.ak≠0
theorem ft {l:List Held}(h:Good l):nZ l:=by
  have key:∀ (d i:Nat) x y,l[i]? = some x→l[i+d+1]? = some y→fD x.Place y.Place:=by
    intro d
    induction d with
    | zero =>
      intro i x y hx hy
      have hi:=(List.getElem?_eq_some_iff.1 hy).1
      exact (h (i+1) hi y hy).2.2 x (by omega) (by simpa using hx)
    | succ d ih =>
      intro i x y hx hy
      have hi:=(List.getElem?_eq_some_iff.1 hy).1
      obtain ⟨z,hz⟩:∃z,l[i+d+1]? = some z:=⟨_,List.getElem?_eq_getElem (by omega)⟩
      exact kD (ih i x z hx hz) ((h (i+(d+1)+1) hi y hy).2.2 z (by omega) (by rw [← hz];congr 1))
  refine List.pairwise_iff_getElem.2 ?_
  intro i j hi hj hij
  exact key (j-i-1) i _ _ (List.getElem?_eq_getElem hi) (by rw [show i+(j-i-1)+1=j by omega];exact List.getElem?_eq_getElem hj)
theorem ln {l:List Held}(h:Good l):vr l:=fun x hx=>by
  obtain ⟨i,hi⟩:=List.mem_iff_getElem?.1 hx
  have:=h i (List.getElem?_eq_some_iff.1 hi).1 x hi
  exact ⟨this.1,this.2.1⟩
theorem j2 {l:List Held}(h:nZ l)(hf:vr l):Good l:=fun k hk x hx=>by
  refine ⟨(hf x (List.mem_of_getElem? hx)).1,(hf x (List.mem_of_getElem? hx)).2,fun g h0 hg=>?_⟩
  have h:=List.pairwise_iff_getElem.1 h
  have:=h (k-1) k (by omega) hk (by omega)
  rw [(List.getElem?_eq_some_iff.1 hx).2,(List.getElem?_eq_some_iff.1 hg).2] at this
  exact this
theorem qd {l:List Held}:Good l↔nZ l∧vr l:=⟨fun h=>⟨ft h,ln h⟩,fun h=>j2 h.1 h.2⟩
def qe (p:Place):Int:=6*p.ag+p.Slot
theorem w8 {p q:Place}(hp:aW p=0)(hq:aW q=0)(h:fD p q):qe p<qe q:=by
  have:=bS hp;have:=bS hq
  unfold fD at h;unfold qe;omega
theorem vt {l:List Held}(h:Good l):l.length≤24:=by
  have hr:=ft h;have hf:=ln h
  have key:∀ (l:List Held) (m:Int),nZ l→vr l→(∀x∈l,m<qe x.Place)→m≤30→m+l.length≤29∨l=[]:=by
    intro l
    induction l with
    | nil=>intro m _ _ _ _;exact .inr rfl
    | cons x l ih =>
      intro m hr hf hm C6
      left
      have hx:=hf x (List.mem_cons_self ..)
      have hp:=bS hx.1
      have h1:=hm x (List.mem_cons_self ..)
      have h2:qe x.Place≤29:=by unfold qe;omega
      obtain ⟨hr1,hr2⟩:=List.pairwise_cons.1 hr
      have hf':vr l:=fun y hy=>hf y (List.mem_cons_of_mem _ hy)
      rcases ih (qe x.Place) hr2 hf' (fun y hy=>w8 hx.1 (hf' y hy).1 (hr1 y hy)) (by omega) with h3|h3
      · simp only [List.length_cons];omega
      · subst h3;simp;omega
  rcases key l 5 hr hf (fun x hx=>by have:=bS (hf x hx).1;unfold qe;omega) (by omega) with h1|h1
  · omega
  · subst h1;simp
inductive Shape (l:List Held)(p:Place):Prop
  | hit (A B:List Held) (w:Int) (e:l=A++⟨p,w⟩::B) (h:tt l p=true) (k:dt l p=A.length) (ha:∀x∈A,fD x.Place p) (hb:∀x∈B,fD p x.Place)
  | miss (A B:List Held) (e:l=A++B) (h:tt l p=false) (k:dt l p=A.length) (ha:∀x∈A,fD x.Place p) (hb:∀x∈B,fD p x.Place)
theorem shape (l:List Held)(p:Place)(hr:nZ l):Shape l p:=by
  have hm:=uP (f:=fun h:Held=>j9 h.Place p) (l:=l) (fun i j x y hij hx hy hc=>by
    simp only [nC] at hc ⊢
    rcases Nat.lt_or_ge i j with h1|h1
    ·
      have hr':=List.pairwise_iff_getElem.1 hr
      have:=hr' i j (List.getElem?_eq_some_iff.1 hx).1 (List.getElem?_eq_some_iff.1 hy).1 h1
      rw [(List.getElem?_eq_some_iff.1 hx).2,(List.getElem?_eq_some_iff.1 hy).2] at this
      exact kD this hc
    ·
      have:i=j:=by omega
      subst this;rw [hx] at hy;injection hy with hy;subst hy;exact hc)
  have hk:=mH l p
  have hsplit:l=l.take (dt l p)++l.drop (dt l p):=(List.take_append_drop _ _).symm
  have hlen:(l.take (dt l p)).length=dt l p:=by rw [List.length_take];omega
  have hA:∀x∈l.take (dt l p),fD x.Place p:=fun x hx=>by
    obtain ⟨i,hi⟩:=List.mem_iff_getElem?.1 hx
    rw [List.getElem?_take] at hi
    split at hi
    · exact (nC _ _).1 (hm.1 i x (by assumption) hi)
    · cases hi
  have hB:∀x∈l.drop (dt l p),¬ fD x.Place p:=fun x hx=>by
    obtain ⟨i,hi⟩:=List.mem_iff_getElem?.1 hx
    rw [List.getElem?_drop] at hi
    exact fun hc=>hm.2 _ x (Nat.le_add_right _ _) hi ((nC _ _).2 hc)
  rcases lE l p with h|⟨x,hx,h,hp,hlt⟩
  ·
    refine .miss _ _ hsplit h hlen.symm hA fun x hx=>?_
    have h1:=hB x hx
    rcases qc p x.Place with h2|h2|h2
    · exact h2
    ·
      exfalso
      obtain ⟨y,hy⟩:∃y,l[dt l p]? = some y:=by
        obtain ⟨i,hi⟩:=List.mem_iff_getElem?.1 hx
        rw [List.getElem?_drop] at hi
        have:=(List.getElem?_eq_some_iff.1 hi).1
        exact ⟨_,List.getElem?_eq_getElem (by omega)⟩
      have hyn:j9 y.Place p≠0:=fun hc=>by
        have:tt l p=true:=by
          show wK _ l=true
          unfold wK
          have hy':l[wJ (fun h:Held=>j9 h.Place p) l]? = some y:=hy
          rw [hy'];simp [hc]
        rw [h] at this;cases this
      have hym:y∈l.drop (dt l p):=List.mem_iff_getElem?.2 ⟨0,by rw [List.getElem?_drop];exact hy⟩
      have hyb:=hB y hym
      have hyp:fD p y.Place:=by
        rcases qc p y.Place with h3|h3|h3
        · exact h3
        · exact absurd (by rw [h3];exact tr _) hyn
        · exact absurd h3 hyb
      obtain ⟨i,hi⟩:=List.mem_iff_getElem?.1 hx
      rw [List.getElem?_drop] at hi
      rcases Nat.eq_zero_or_pos i with h0|h0
      ·
        subst h0;rw [Nat.add_zero,hy] at hi;injection hi with hi;subst hi
        exact lj (h2▸hyp)
      ·
        have hr':=List.pairwise_iff_getElem.1 hr
        have:=hr' (dt l p) (dt l p+i) (List.getElem?_eq_some_iff.1 hy).1 (List.getElem?_eq_some_iff.1 hi).1 (by omega)
        rw [(List.getElem?_eq_some_iff.1 hy).2,(List.getElem?_eq_some_iff.1 hi).2] at this
        exact lj (h2▸kD hyp this)
    · exact absurd h2 h1
  ·
    have hd:l.drop (dt l p)=x::l.drop (dt l p+1):=by
      rw [List.drop_eq_getElem_cons hlt,(List.getElem?_eq_some_iff.1 hx).2]
    have hxe:x=⟨p,x.ak⟩:=by cases x;simp at hp;simp [hp]
    refine .hit (l.take (dt l p)) (l.drop (dt l p+1)) x.ak ?_ h hlen.symm hA fun y hy=>?_
    · rw [← hxe,← hd,List.take_append_drop]
    ·
      obtain ⟨i,hi⟩:=List.mem_iff_getElem?.1 hy
      rw [List.getElem?_drop] at hi
      have hr':=List.pairwise_iff_getElem.1 hr
      have:=hr' (dt l p) (dt l p+1+i) hlt (List.getElem?_eq_some_iff.1 hi).1 (by omega)
      rw [(List.getElem?_eq_some_iff.1 hx).2,(List.getElem?_eq_some_iff.1 hi).2,hp] at this
      exact this
theorem sJ {A:List Held}{p:Place}(h:∀x∈A,¬ x.Place=p):A.find? (fun h=>h.Place==p)=none:=by
  rw [List.find?_eq_none];intro x hx;simpa using h x hx
theorem lL {A B:List Held}{p:Place}{w:Int}(h:∀x∈A,¬ x.Place=p):l1 (A++⟨p,w⟩::B) p=w:=by
  unfold l1;rw [List.find?_append,sJ h];simp
theorem qf {A:List Held}{p:Place}(h:∀x∈A,¬ x.Place=p):l1 A p=0:=by
  unfold l1;rw [sJ h]
theorem kE {A B:List Held}{x:Held}{q:Place}(h:¬ x.Place=q):l1 (A++x::B) q=l1 (A++B) q:=by
  unfold l1;rw [List.find?_append,List.find?_append,List.find?_cons]
  have:(x.Place==q)=false:=by simpa using h
  rw [this]
theorem at_eq {l:List Held}{p:Place}(hr:nZ l):hY l p=l1 l p:=by
  cases shape l p hr with
  | hit A B w e h k ha hb =>
    have hx:l[dt l p]? = some ⟨p,w⟩:=by rw [k,e];simp
    rw [o6 h hx,e,lL (fun x hx=>gh (ha x hx))]
  | miss A B e h k ha hb =>
    rw [qN h,e,qf]
    intro x hx
    rcases List.mem_append.1 hx with hx|hx
    · exact gh (ha x hx)
    · exact fun e=>gh (hb x hx) e.symm
theorem vu {p:Place}{id:Int}:∀ {A:List Held} (acc:List Held) (b:Bool),(∀x∈A,fD x.Place p)→A.foldl (iU p id) (acc,b)=(acc++A,b)
  | [],acc,b,h=>by simp
  | x::A,acc,b,h=>by
    have hx:=h x (List.mem_cons_self ..)
    simp only [List.foldl_cons]
    rw [jB (.inr (by unfold fD at hx;omega)),if_neg (gh hx),vu _ _ (fun y hy=>h y (List.mem_cons_of_mem _ hy))]
    simp
theorem qh {p:Place}{id:Int}:∀ {B:List Held} (acc:List Held),(∀x∈B,fD p x.Place)→B.foldl (iU p id) (acc,true)=(acc++B,true)
  | [],acc,h=>by simp
  | x::B,acc,h=>by
    have hx:=h x (List.mem_cons_self ..)
    simp only [List.foldl_cons]
    rw [jB (.inl rfl),if_neg (fun e=>gh hx e.symm),qh _ (fun y hy=>h y (List.mem_cons_of_mem _ hy))]
    simp
theorem lp {l A B:List Held}{p:Place}{w id:Int}(e:l=A++⟨p,w⟩::B)(h:tt l p=true)(k:dt l p=A.length):ck l p id=if id=0 then A++B else A++⟨p,id⟩::B:=by
  unfold ck;rw [if_pos h,k,e]
  split
  ·
    congr 1
    · simp
    · rw [List.drop_append,List.drop_of_length_le (by omega)];simp
  · simp
theorem j3 {l A B:List Held}{p:Place}{id:Int}(e:l=A++B)(h:tt l p=false)(k:dt l p=A.length):ck l p id=if id=0 then A++B else A++⟨p,id⟩::B:=by
  unfold ck;rw [if_neg (by rw [h];simp),k,e]
  split
  · rfl
  · simp
theorem put_eq {l:List Held}{p:Place}{id:Int}(hr:nZ l):ck l p id=qP l p id:=by
  cases shape l p hr with
  | hit A B w e h k ha hb =>
    rw [lp e h k]
    unfold qP pR
    rw [e,List.foldl_append,vu _ _ ha,List.foldl_cons]
    have hle:p.ag<(⟨p,w⟩:Held).Place.ag∨(p.ag=(⟨p,w⟩:Held).Place.ag∧p.Slot≤(⟨p,w⟩:Held).Place.Slot):= .inr ⟨rfl,Int.le_refl _⟩
    by_cases h0:id=0
    ·
      have:(id==0)=true:=by simpa using h0
      rw [this,jB (.inl rfl),if_pos rfl,qh _ hb,if_pos h0,if_pos rfl];simp
    ·
      have:(id==0)=false:=by simpa using h0
      rw [this,ni hle,if_pos rfl,qh _ hb,if_neg h0,if_pos rfl];simp
  | miss A B e h k ha hb =>
    rw [j3 e h k]
    unfold qP pR
    rw [e,List.foldl_append,vu _ _ ha]
    by_cases h0:id=0
    ·
      have:(id==0)=true:=by simpa using h0
      rw [this,qh _ hb,if_pos h0,if_pos rfl];simp
    ·
      have:(id==0)=false:=by simpa using h0
      rw [this,if_neg h0]
      cases B with
      | nil=>rw [List.foldl_nil,if_neg Bool.false_ne_true];simp
      | cons x B =>
        have hx:=hb x (List.mem_cons_self ..)
        have hne:¬ x.Place=p:=fun e=>gh hx e.symm
        rw [List.foldl_cons,ni (by unfold fD at hx;omega),if_neg hne,qh _ (fun y hy=>hb y (List.mem_cons_of_mem _ hy)),if_pos rfl];simp
theorem qi {A B:List Held}(h:nZ (A++B)):nZ A∧nZ B ∧ ∀x∈A,∀y∈B,fD x.Place y.Place:=List.pairwise_append.1 h
theorem iF {l:List Held}{p:Place}{id:Int}(hg:Good l)(hp:aW p=0):Good (ck l p id):=by
  have hr:=ft hg;have hf:=ln hg
  cases shape l p hr with
  | hit A B w e h k ha hb =>
    rw [lp e h k]
    rw [e] at hr hf
    obtain ⟨h1,h2,h3⟩:=qi hr
    obtain ⟨h4,h5⟩:=List.pairwise_cons.1 h2
    split
    · exact j2 (List.pairwise_append.2 ⟨h1,h5,fun x hx y hy=>h3 x hx y (List.mem_cons_of_mem _ hy)⟩) (fun x hx=>hf x (by simp at hx ⊢;rcases hx with hx|hx <;> simp [hx]))
    ·
      refine j2 (List.pairwise_append.2 ⟨h1,List.pairwise_cons.2 ⟨hb,h5⟩,fun x hx y hy=>?_⟩) (fun x hx=>?_)
      ·
        rcases List.mem_cons.1 hy with hy|hy
        · subst hy;exact ha x hx
        · exact h3 x hx y (List.mem_cons_of_mem _ hy)
      ·
        simp at hx
        rcases hx with hx|hx|hx
        · exact hf x (by simp [hx])
        · subst hx;exact ⟨hp,by assumption⟩
        · exact hf x (by simp [hx])
  | miss A B e h k ha hb =>
    rw [j3 e h k]
    split
    · rw [← e];exact hg
    ·
      rw [e] at hr hf
      obtain ⟨h1,h2,h3⟩:=qi hr
      refine j2 (List.pairwise_append.2 ⟨h1,List.pairwise_cons.2 ⟨hb,h2⟩,fun x hx y hy=>?_⟩) (fun x hx=>?_)
      ·
        rcases List.mem_cons.1 hy with hy|hy
        · subst hy;exact ha x hx
        · exact h3 x hx y hy
      ·
        simp at hx
        rcases hx with hx|hx|hx
        · exact hf x (by simp [hx])
        · subst hx;exact ⟨hp,by assumption⟩
        · exact hf x (by simp [hx])
theorem tK {l:List Held}{p q:Place}{id:Int}(hg:Good l)(hp:aW p=0)(hq:¬ q=p):hY (ck l p id) q=hY l q:=by
  have hr:=ft hg
  rw [at_eq (ft (iF hg hp)),at_eq hr]
  have hpq:¬ p=q:=fun e=>hq e.symm
  cases shape l p hr with
  | hit A B w e h k ha hb =>
    rw [lp e h k,e,kE (x:=⟨p,w⟩) hpq]
    split
    · rfl
    · rw [kE (x:=⟨p,id⟩) hpq]
  | miss A B e h k ha hb =>
    rw [j3 e h k,e]
    split
    · rfl
    · rw [kE (x:=⟨p,id⟩) hpq]
theorem me {l:List Held}{h:Int}:∀ (n s:Nat),(gN l h n s = -1 ∧ ∀t,s≤t→t<s+n→hY l ⟨h,(t:Int)⟩≠0) ∨ ∃k:Nat,gN l h n s=k∧s≤k∧k<s+n∧hY l ⟨h,(k:Int)⟩=0 ∧ ∀t,s≤t→t<k→hY l ⟨h,(t:Int)⟩≠0
  | 0,s => .inl ⟨rfl,fun t h1 h2=>by omega⟩
  | n+1,s=>by
    simp only [gN]
    by_cases e:hY l ⟨h,s⟩=0
    · rw [if_pos e];exact .inr ⟨s,rfl,Nat.le_refl _,by omega,e,fun t h1 h2=>by omega⟩
    ·
      rw [if_neg e]
      rcases me (l:=l) (h:=h) n (s+1) with ⟨h1,h2⟩ | ⟨k,h1,h2,h3,h4,h5⟩
      ·
        refine .inl ⟨h1,fun t h3 h4=>?_⟩
        rcases Nat.eq_or_lt_of_le h3 with h5|h5
        · subst h5;exact e
        · exact h2 t h5 (by omega)
      ·
        refine .inr ⟨k,h1,by omega,by omega,h4,fun t h6 h7=>?_⟩
        rcases Nat.eq_or_lt_of_le h6 with h8|h8
        · subst h8;exact e
        · exact h5 t h8 h7
theorem free_spec (l:List Held)(h:Int):(dR l h = -1 ∧ ∀t:Int,0≤t→t≤5→hY l ⟨h,t⟩≠0)∨(0≤dR l h∧dR l h≤5∧hY l ⟨h,dR l h⟩=0 ∧ ∀t:Int,0≤t→t<dR l h→hY l ⟨h,t⟩≠0):=by
  rcases me (l:=l) (h:=h) 6 0 with ⟨h1,h2⟩ | ⟨k,h1,h2,h3,h4,h5⟩
  ·
    refine .inl ⟨h1,fun t h3 h4=>?_⟩
    have:=h2 t.toNat (Nat.zero_le _) (by omega)
    rwa [Int.toNat_of_nonneg h3] at this
  ·
    have hk:dR l h=k:=h1
    refine .inr ⟨by omega,by omega,by rw [hk];exact h4,fun t h6 h7=>?_⟩
    have:=h5 t.toNat (Nat.zero_le _) (by omega)
    rwa [Int.toNat_of_nonneg h6] at this
end Go.Proofs.YtbkfhjaibhnkmaaGreatDoor
end
section
namespace Go.Proofs.YtbkfhjaibhnkmaaGreatDoor
end Go.Proofs.YtbkfhjaibhnkmaaGreatDoor
end
