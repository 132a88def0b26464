import Derived.Test.YtpipachmngdegaaGreatRSP15
section
namespace Go.Proofs.YtpipachmngdegaaGreat
set_option linter.unusedVariables false
theorem ke {p q r:Place}(h:fS p q)(k:fS q r):fS p r:=by unfold fS at *;omega
theorem mP {p:Place}(h:fS p p):False:=by unfold fS at h;omega
theorem pk (p q:Place):fS p q∨p=q∨fS q p:=by
  cases p;cases q;unfold fS;simp only [Place.mk.injEq];omega
theorem f9 {p q:Place}(h:fS p q):p≠q:=fun e=>mP (e▸h)
theorem mQ (p q:Place):jW p q<0↔fS p q:=by
  unfold jW jV fS
  constructor
  · intro h;split at h <;> (repeat' split at h) <;> first|omega|(simp_all;done)|(simp_all;omega)
  · intro h;split <;> (repeat' split) <;> omega
abbrev oq (l:List Held):Prop:=l.Pairwise fun a b=>fS a.Place b.Place
def xP (l:List Held):Prop:= ∀h∈l,bH h.Place=0∧h.ao≠0
theorem fu {l:List Held}(h:Good l):oq l:=by
  have key:∀ (d i:Nat) x y,l[i]? = some x→l[i+d+1]? = some y→fS x.Place y.Place:=by
    intro d
    induction d with
    | zero =>
      intro i x y hx hy
      have hi:=(List.getElem?_eq_some_iff.1 hy).1
      exact (h (i+1) hi y hy).2.2 x (by omega) (by simpa using hx)
    | succ d ih =>
      intro i x y hx hy
      have hi:=(List.getElem?_eq_some_iff.1 hy).1
      obtain ⟨z,hz⟩:∃z,l[i+d+1]? = some z:=⟨_,List.getElem?_eq_getElem (by omega)⟩
      exact ke (ih i x z hx hz) ((h (i+(d+1)+1) hi y hy).2.2 z (by omega) (by rw [← hz];congr 1))
  refine List.pairwise_iff_getElem.2 ?_
  intro i j hi hj hij
  exact key (j-i-1) i _ _ (List.getElem?_eq_getElem hi) (by rw [show i+(j-i-1)+1=j by omega];exact List.getElem?_eq_getElem hj)
theorem ot {l:List Held}(h:Good l):xP l:=fun x hx=>by
  obtain ⟨i,hi⟩:=List.mem_iff_getElem?.1 hx
  have:=h i (List.getElem?_eq_some_iff.1 hi).1 x hi
  exact ⟨this.1,this.2.1⟩
theorem kP {l:List Held}(h:oq l)(hf:xP l):Good l:=fun k hk x hx=>by
  refine ⟨(hf x (List.mem_of_getElem? hx)).1,(hf x (List.mem_of_getElem? hx)).2,fun g h0 hg=>?_⟩
  have h:=List.pairwise_iff_getElem.1 h
  have:=h (k-1) k (by omega) hk (by omega)
  rw [(List.getElem?_eq_some_iff.1 hx).2,(List.getElem?_eq_some_iff.1 hg).2] at this
  exact this
inductive Shape (l:List Held)(p:Place):Prop
  | hit (A B:List Held) (w:Int) (e:l=A++⟨p,w⟩::B) (h:rL l p=true) (k:dE l p=A.length) (ha:∀x∈A,fS x.Place p) (hb:∀x∈B,fS p x.Place)
  | miss (A B:List Held) (e:l=A++B) (h:rL l p=false) (k:dE l p=A.length) (ha:∀x∈A,fS x.Place p) (hb:∀x∈B,fS p x.Place)
theorem shape (l:List Held)(p:Place)(hr:oq l):Shape l p:=by
  have hm:=sQ (f:=fun h:Held=>jW h.Place p) (l:=l) (fun i j x y hij hx hy hc=>by
    simp only [mQ] at hc ⊢
    rcases Nat.lt_or_ge i j with h1|h1
    ·
      have hr':=List.pairwise_iff_getElem.1 hr
      have:=hr' i j (List.getElem?_eq_some_iff.1 hx).1 (List.getElem?_eq_some_iff.1 hy).1 h1
      rw [(List.getElem?_eq_some_iff.1 hx).2,(List.getElem?_eq_some_iff.1 hy).2] at this
      exact ke this hc
    ·
      have:i=j:=by omega
      subst this;rw [hx] at hy;injection hy with hy;subst hy;exact hc)
  have hk:=lQ l p
  have hsplit:l=l.take (dE l p)++l.drop (dE l p):=(List.take_append_drop _ _).symm
  have hlen:(l.take (dE l p)).length=dE l p:=by rw [List.length_take];omega
  have hA:∀x∈l.take (dE l p),fS x.Place p:=fun x hx=>by
    obtain ⟨i,hi⟩:=List.mem_iff_getElem?.1 hx
    rw [List.getElem?_take] at hi
    split at hi
    · exact (mQ _ _).1 (hm.1 i x (by assumption) hi)
    · cases hi
  have hB:∀x∈l.drop (dE l p),¬ fS x.Place p:=fun x hx=>by
    obtain ⟨i,hi⟩:=List.mem_iff_getElem?.1 hx
    rw [List.getElem?_drop] at hi
    exact fun hc=>hm.2 _ x (Nat.le_add_right _ _) hi ((mQ _ _).2 hc)
  rcases kX l p with h|⟨x,hx,h,hp,hlt⟩
  ·
    refine .miss _ _ hsplit h hlen.symm hA fun x hx=>?_
    have h1:=hB x hx
    rcases pk p x.Place with h2|h2|h2
    · exact h2
    ·
      exfalso
      obtain ⟨y,hy⟩:∃y,l[dE l p]? = some y:=by
        obtain ⟨i,hi⟩:=List.mem_iff_getElem?.1 hx
        rw [List.getElem?_drop] at hi
        have:=(List.getElem?_eq_some_iff.1 hi).1
        exact ⟨_,List.getElem?_eq_getElem (by omega)⟩
      have hyn:jW y.Place p≠0:=fun hc=>by
        have:rL l p=true:=by
          show t6 _ l=true
          unfold t6
          have hy':l[tZ (fun h:Held=>jW h.Place p) l]? = some y:=hy
          rw [hy'];simp [hc]
        rw [h] at this;cases this
      have hym:y∈l.drop (dE l p):=List.mem_iff_getElem?.2 ⟨0,by rw [List.getElem?_drop];exact hy⟩
      have hyb:=hB y hym
      have hyp:fS p y.Place:=by
        rcases pk p y.Place with h3|h3|h3
        · exact h3
        · exact absurd (by rw [h3];exact rK _) hyn
        · exact absurd h3 hyb
      obtain ⟨i,hi⟩:=List.mem_iff_getElem?.1 hx
      rw [List.getElem?_drop] at hi
      rcases Nat.eq_zero_or_pos i with h0|h0
      ·
        subst h0;rw [Nat.add_zero,hy] at hi;injection hi with hi;subst hi
        exact mP (h2▸hyp)
      ·
        have hr':=List.pairwise_iff_getElem.1 hr
        have:=hr' (dE l p) (dE l p+i) (List.getElem?_eq_some_iff.1 hy).1 (List.getElem?_eq_some_iff.1 hi).1 (by omega)
        rw [(List.getElem?_eq_some_iff.1 hy).2,(List.getElem?_eq_some_iff.1 hi).2] at this
        exact mP (h2▸ke hyp this)
    · exact absurd h2 h1
  ·
    have hd:l.drop (dE l p)=x::l.drop (dE l p+1):=by
      rw [List.drop_eq_getElem_cons hlt,(List.getElem?_eq_some_iff.1 hx).2]
    have hxe:x=⟨p,x.ao⟩:=by cases x;simp at hp;simp [hp]
    refine .hit (l.take (dE l p)) (l.drop (dE l p+1)) x.ao ?_ h hlen.symm hA fun y hy=>?_
    · rw [← hxe,← hd,List.take_append_drop]
    ·
      obtain ⟨i,hi⟩:=List.mem_iff_getElem?.1 hy
      rw [List.getElem?_drop] at hi
      have hr':=List.pairwise_iff_getElem.1 hr
      have:=hr' (dE l p) (dE l p+1+i) hlt (List.getElem?_eq_some_iff.1 hi).1 (by omega)
      rw [(List.getElem?_eq_some_iff.1 hx).2,(List.getElem?_eq_some_iff.1 hi).2,hp] at this
      exact this
theorem rh {A:List Held}{p:Place}(h:∀x∈A,¬ x.Place=p):A.find? (fun h=>h.Place==p)=none:=by
  rw [List.find?_eq_none];intro x hx;simpa using h x hx
theorem k7 {A B:List Held}{p:Place}{w:Int}(h:∀x∈A,¬ x.Place=p):gj (A++⟨p,w⟩::B) p=w:=by
  unfold gj;rw [List.find?_append,rh h];simp
theorem pn {A:List Held}{p:Place}(h:∀x∈A,¬ x.Place=p):gj A p=0:=by
  unfold gj;rw [rh h]
theorem kf {A B:List Held}{x:Held}{q:Place}(h:¬ x.Place=q):gj (A++x::B) q=gj (A++B) q:=by
  unfold gj;rw [List.find?_append,List.find?_append,List.find?_cons]
  have:(x.Place==q)=false:=by simpa using h
  rw [this]
theorem at_eq {l:List Held}{p:Place}(hr:oq l):gI l p=gj l p:=by
  cases shape l p hr with
  | hit A B w e h k ha hb =>
    have hx:l[dE l p]? = some ⟨p,w⟩:=by rw [k,e];simp
    rw [nX h hx,e,k7 (fun x hx=>f9 (ha x hx))]
  | miss A B e h k ha hb =>
    rw [pQ h,e,pn]
    intro x hx
    rcases List.mem_append.1 hx with hx|hx
    · exact f9 (ha x hx)
    · exact fun e=>f9 (hb x hx) e.symm
theorem free_eq {l:List Held}{h:Int}(hr:oq l):cE l h=nY l h:=by
  have:∀n s,fR l h n s=fX l h n s:=by
    intro n
    induction n with
    | zero=>intro s;rfl
    | succ n ih=>intro s;simp only [fR,fX,at_eq hr,ih]
  exact this 6 0
theorem tv {p:Place}{id:Int}:∀ {A:List Held} (acc:List Held) (b:Bool),(∀x∈A,fS x.Place p)→A.foldl (ft p id) (acc,b)=(acc++A,b)
  | [],acc,b,h=>by simp
  | x::A,acc,b,h=>by
    have hx:=h x (List.mem_cons_self ..)
    simp only [List.foldl_cons]
    rw [bX (.inr (by unfold fS at hx;omega)),if_neg (f9 hx),tv _ _ (fun y hy=>h y (List.mem_cons_of_mem _ hy))]
    simp
theorem po {p:Place}{id:Int}:∀ {B:List Held} (acc:List Held),(∀x∈B,fS p x.Place)→B.foldl (ft p id) (acc,true)=(acc++B,true)
  | [],acc,h=>by simp
  | x::B,acc,h=>by
    have hx:=h x (List.mem_cons_self ..)
    simp only [List.foldl_cons]
    rw [bX (.inl rfl),if_neg (fun e=>f9 hx e.symm),po _ (fun y hy=>h y (List.mem_cons_of_mem _ hy))]
    simp
theorem kQ {l A B:List Held}{p:Place}{w id:Int}(e:l=A++⟨p,w⟩::B)(h:rL l p=true)(k:dE l p=A.length):bO l p id=if id=0 then A++B else A++⟨p,id⟩::B:=by
  unfold bO;rw [if_pos h,k,e]
  split
  ·
    congr 1
    · simp
    · rw [List.drop_append,List.drop_of_length_le (by omega)];simp
  · simp
theorem jQ {l A B:List Held}{p:Place}{id:Int}(e:l=A++B)(h:rL l p=false)(k:dE l p=A.length):bO l p id=if id=0 then A++B else A++⟨p,id⟩::B:=by
  unfold bO;rw [if_neg (by rw [h];simp),k,e]
  split
  · rfl
  · simp
theorem put_eq {l:List Held}{p:Place}{id:Int}(hr:oq l):bO l p id=gx l p id:=by
  cases shape l p hr with
  | hit A B w e h k ha hb =>
    rw [kQ e h k]
    unfold gx hJ
    rw [e,List.foldl_append,tv _ _ ha,List.foldl_cons]
    have hle:p.ag<(⟨p,w⟩:Held).Place.ag∨(p.ag=(⟨p,w⟩:Held).Place.ag∧p.Slot≤(⟨p,w⟩:Held).Place.Slot):= .inr ⟨rfl,Int.le_refl _⟩
    by_cases h0:id=0
    ·
      have:(id==0)=true:=by simpa using h0
      rw [this,bX (.inl rfl),if_pos rfl,po _ hb,if_pos h0,if_pos rfl];simp
    ·
      have:(id==0)=false:=by simpa using h0
      rw [this,cy hle,if_pos rfl,po _ hb,if_neg h0,if_pos rfl];simp
  | miss A B e h k ha hb =>
    rw [jQ e h k]
    unfold gx hJ
    rw [e,List.foldl_append,tv _ _ ha]
    by_cases h0:id=0
    ·
      have:(id==0)=true:=by simpa using h0
      rw [this,po _ hb,if_pos h0,if_pos rfl];simp
    ·
      have:(id==0)=false:=by simpa using h0
      rw [this,if_neg h0]
      cases B with
      | nil=>rw [List.foldl_nil,if_neg Bool.false_ne_true];simp
      | cons x B =>
        have hx:=hb x (List.mem_cons_self ..)
        have hne:¬ x.Place=p:=fun e=>f9 hx e.symm
        rw [List.foldl_cons,cy (by unfold fS at hx;omega),if_neg hne,po _ (fun y hy=>hb y (List.mem_cons_of_mem _ hy)),if_pos rfl];simp
theorem pq {A B:List Held}(h:oq (A++B)):oq A∧oq B ∧ ∀x∈A,∀y∈B,fS x.Place y.Place:=List.pairwise_append.1 h
theorem dD {l:List Held}{p:Place}{id:Int}(hg:Good l)(hp:bH p=0):Good (bO l p id):=by
  have hr:=fu hg;have hf:=ot hg
  cases shape l p hr with
  | hit A B w e h k ha hb =>
    rw [kQ e h k]
    rw [e] at hr hf
    obtain ⟨h1,h2,h3⟩:=pq hr
    obtain ⟨h4,h5⟩:=List.pairwise_cons.1 h2
    split
    · exact kP (List.pairwise_append.2 ⟨h1,h5,fun x hx y hy=>h3 x hx y (List.mem_cons_of_mem _ hy)⟩) (fun x hx=>hf x (by simp at hx ⊢;rcases hx with hx|hx <;> simp [hx]))
    ·
      refine kP (List.pairwise_append.2 ⟨h1,List.pairwise_cons.2 ⟨hb,h5⟩,fun x hx y hy=>?_⟩) (fun x hx=>?_)
      ·
        rcases List.mem_cons.1 hy with hy|hy
        · subst hy;exact ha x hx
        · exact h3 x hx y (List.mem_cons_of_mem _ hy)
      ·
        simp at hx
        rcases hx with hx|hx|hx
        · exact hf x (by simp [hx])
        · subst hx;exact ⟨hp,by assumption⟩
        · exact hf x (by simp [hx])
  | miss A B e h k ha hb =>
    rw [jQ e h k]
    split
    · rw [← e];exact hg
    ·
      rw [e] at hr hf
      obtain ⟨h1,h2,h3⟩:=pq hr
      refine kP (List.pairwise_append.2 ⟨h1,List.pairwise_cons.2 ⟨hb,h2⟩,fun x hx y hy=>?_⟩) (fun x hx=>?_)
      ·
        rcases List.mem_cons.1 hy with hy|hy
        · subst hy;exact ha x hx
        · exact h3 x hx y hy
      ·
        simp at hx
        rcases hx with hx|hx|hx
        · exact hf x (by simp [hx])
        · subst hx;exact ⟨hp,by assumption⟩
        · exact hf x (by simp [hx])
theorem rX {l:List Held}{p q:Place}{id:Int}(hg:Good l)(hp:bH p=0)(hq:¬ q=p):gI (bO l p id) q=gI l q:=by
  have hr:=fu hg
  rw [at_eq (fu (dD hg hp)),at_eq hr]
  have hpq:¬ p=q:=fun e=>hq e.symm
  cases shape l p hr with
  | hit A B w e h k ha hb =>
    rw [kQ e h k,e,kf (x:=⟨p,w⟩) hpq]
    split
    · rfl
    · rw [kf (x:=⟨p,id⟩) hpq]
  | miss A B e h k ha hb =>
    rw [jQ e h k,e]
    split
    · rfl
    · rw [kf (x:=⟨p,id⟩) hpq]
theorem lB {l:List Held}{h:Int}:∀ (n s:Nat),(fR l h n s = -1 ∧ ∀t,s≤t→t<s+n→gI l ⟨h,(t:Int)⟩≠0) ∨ ∃k:Nat,fR l h n s=k∧s≤k∧k<s+n∧gI l ⟨h,(k:Int)⟩=0 ∧ ∀t,s≤t→t<k→gI l ⟨h,(t:Int)⟩≠0
  | 0,s => .inl ⟨rfl,fun t h1 h2=>by omega⟩
  | n+1,s=>by
    simp only [fR]
    by_cases e:gI l ⟨h,s⟩=0
    · rw [if_pos e];exact .inr ⟨s,rfl,Nat.le_refl _,by omega,e,fun t h1 h2=>by omega⟩
    ·
      rw [if_neg e]
      rcases lB (l:=l) (h:=h) n (s+1) with ⟨h1,h2⟩ | ⟨k,h1,h2,h3,h4,h5⟩
      ·
        refine .inl ⟨h1,fun t h3 h4=>?_⟩
        rcases Nat.eq_or_lt_of_le h3 with h5|h5
        · subst h5;exact e
        · exact h2 t h5 (by omega)
      ·
        refine .inr ⟨k,h1,by omega,by omega,h4,fun t h6 h7=>?_⟩
        rcases Nat.eq_or_lt_of_le h6 with h8|h8
        · subst h8;exact e
        · exact h5 t h8 h7
theorem free_spec (l:List Held)(h:Int):(cE l h = -1 ∧ ∀t:Int,0≤t→t≤5→gI l ⟨h,t⟩≠0)∨(0≤cE l h∧cE l h≤5∧gI l ⟨h,cE l h⟩=0 ∧ ∀t:Int,0≤t→t<cE l h→gI l ⟨h,t⟩≠0):=by
  rcases lB (l:=l) (h:=h) 6 0 with ⟨h1,h2⟩ | ⟨k,h1,h2,h3,h4,h5⟩
  ·
    refine .inl ⟨h1,fun t h3 h4=>?_⟩
    have:=h2 t.toNat (Nat.zero_le _) (by omega)
    rwa [Int.toNat_of_nonneg h3] at this
  ·
    have hk:cE l h=k:=h1
    refine .inr ⟨by omega,by omega,by rw [hk];exact h4,fun t h6 h7=>?_⟩
    have:=h5 t.toNat (Nat.zero_le _) (by omega)
    rwa [Int.toNat_of_nonneg h6] at this
end Go.Proofs.YtpipachmngdegaaGreat
end
section
namespace Go.Proofs.YtpipachmngdegaaGreat
end Go.Proofs.YtpipachmngdegaaGreat
end
