import Derived.Test.YtbkfhjaibhnkmaaGreatDoorIMS34
import Derived.Test.YtbkfhjaibhnkmaaGreatDoorIMS31
section
namespace Go.Proofs.YtbkfhjaibhnkmaaGreatDoor
set_option linter.unusedVariables false
set_option linter.unusedSimpArgs false
theorem D1 (s:ByteArray){k:Nat}:s.extract 0 k++s.extract k s.size=s:=by
 apply iw;show bl _=bl _
 rw [iy,ku,ku,List.drop_zero,List.take_of_length_le (i:=s.size) (by rw [gi];exact Nat.le_refl _),List.take_append_drop]
theorem oP (s:ByteArray){i j k:Nat}(h1:i≤j)(h2:j≤k):s.extract i j++s.extract j k=s.extract i k:=by
 apply iw;show bl _=bl _
 rw [iy,ku,ku,ku]
 have e:(bl s).take j=((bl s).take k).take j:=by rw [List.take_take,Nat.min_eq_left h2]
 rw [e]
 generalize (bl s).take k=l
 rcases Nat.lt_or_ge l.length j with hj|hj
 ·rw [List.take_of_length_le (by omega),List.drop_of_length_le (i:=j) (by omega),List.append_nil]
 ·conv=>rhs;rw [← List.take_append_drop j l,List.drop_append_of_le_length (by rw [List.length_take];omega)]
theorem uG {s:ByteArray}{l:List Int}(h:cx s 1=some l):∃n,l=[n]∧aW n=s.extract 0 4:=by
 obtain ⟨h1,h2⟩:=kV h
 match l,h1 with
 | [n],_=>exact ⟨n,rfl,lD (jS h (j:=0) rfl)⟩
theorem FX {s:ByteArray}{l:List Int}(h:cx s 2=some l):∃a b,l=[a,b]∧aW a=s.extract 0 4∧aW b=s.extract 4 8:=by
 obtain ⟨h1,h2⟩:=kV h
 match l,h1 with
 | [a,b],_=>exact ⟨a,b,rfl,lD (jS h (j:=0) rfl),lD (jS h (j:=1) rfl)⟩
theorem D2 {s:ByteArray}{l:List Int}(h:cx s 4=some l):∃a b c d,l=[a,b,c,d]∧aW a=s.extract 0 4∧aW b=s.extract 4 8∧aW c=s.extract 8 12∧aW d=s.extract 12 16:=by
 obtain ⟨h1,h2⟩:=kV h
 match l,h1 with
 | [a,b,c,d],_=>exact ⟨a,b,c,d,rfl,lD (jS h (j:=0) rfl),lD (jS h (j:=1) rfl),lD (jS h (j:=2) rfl),lD (jS h (j:=3) rfl)⟩
theorem EU {x:UInt8}{n:Int}(h:(x.toNat:Int)-48=n)(h0:0≤n)(h9:n<10):d8 n.toNat=x:=by
 apply UInt8.toNat_inj.1
 rw [nW (by omega)];omega
theorem wu {s:ByteArray}{x:UInt8}(h0:0<s.size)(h:fa s 0=x.toNat):s=⟨#[x]⟩++s.extract 1 s.size:=by
 apply iw;show bl _=bl _
 rw [iy,ku,List.take_of_length_le (by rw [gi];exact Nat.le_refl _)]
 rw [kS] at h
 cases hl:bl s with
 | nil=>rw [← gi,hl] at h0;simp at h0
 | cons y l =>
  rw [hl] at h
  have:y=x:=UInt8.toNat_inj.1 (by simpa using h)
  subst this;rfl
theorem zP {c:Change}(hg:c.Gone=false)(hb:(rowP r0 c).2=true) :
 (∃h,c=hrow h∧bu h.Place=0 ∧ ∀r,jT r c=sD r h)∨(∃t,c=gV t∧(t.Kind=1∨t.Kind=2∧t.Data.size=0)∧t.Data.size≤8 ∧ ∀r,jT r c=sE r t) ∨
 (∃w,c=jo w ∧ ∀r,jT r c=oL r w)∨(∃a b,c=⟨kX,aW a++aW b,false⟩ ∧ ∀r,jT r c=xF r a b):=by
 obtain ⟨K,V,G⟩:=c
 simp only at hg;subst hg
 by_cases h0:K.size=0
 ·unfold rowP at hb;rw [if_pos h0] at hb;cases hb
 by_cases c1:fa K 0=104
 ·
  by_cases hv:(cx V 1).isSome=false∨V.size≠4∨K.size≠3
  ·unfold rowP at hb;rw [if_neg h0] at hb;dsimp only at hb;rw [if_pos c1,if_pos hv] at hb;cases hb
  ·
   have hd:∀r,rowP r ⟨K,V,false⟩=(sD r ⟨uP ⟨K,V,false⟩,pA (cx V 1) 0⟩,decide (bu (uP ⟨K,V,false⟩)=0)):=fun r=>by
    unfold rowP;rw [if_neg h0];dsimp only;rw [if_pos c1,if_neg hv]
   rw [hd] at hb
   have hp:bu (uP ⟨K,V,false⟩)=0:=of_decide_eq_true hb
   have hv1:(cx V 1).isSome=true:=by cases hq:(cx V 1).isSome with|true=>rfl|false=>exact absurd (.inl hq) hv
   have hv2:V.size=4:=Decidable.byContradiction fun hq=>hv (.inr (.inl hq))
   have hv3:K.size=3:=Decidable.byContradiction fun hq=>hv (.inr (.inr hq))
   obtain ⟨l,hl⟩:=Option.isSome_iff_exists.1 hv1
   obtain ⟨n,rfl,hn⟩:=uG hl
   refine .inl ⟨⟨uP ⟨K,V,false⟩,n⟩,?_,hp,fun r=>?_⟩
   ·
    have hz:=ck hp
    have hk:bl K=[104,d8 (uP ⟨K,V,false⟩).aj.toNat,d8 (uP ⟨K,V,false⟩).Slot.toNat]:=by
     have e0:=c1;rw [kS] at e0
     have e1:fa K 1=(((bl K)[1]?).getD 0).toNat:=kS _ _
     have e2:fa K 2=(((bl K)[2]?).getD 0).toNat:=kS _ _
     have hlen:=gi K
     rw [hv3] at hlen
     have z1:(fa K 1:Int)-48=(uP ⟨K,V,false⟩).aj:=rfl
     have z2:(fa K 2:Int)-48=(uP ⟨K,V,false⟩).Slot:=rfl
     generalize (uP ⟨K,V,false⟩).aj=A at hz z1 ⊢
     generalize (uP ⟨K,V,false⟩).Slot=B at hz z2 ⊢
     rw [e1] at z1;rw [e2] at z2
     match hq:bl K,hlen with
     | [x,y,z],_ =>
      rw [hq] at e0 z1 z2
      rw [EU (x:=y) z1 (by omega) (by omega),EU (x:=z) z2 (by omega) (by omega),show x=104 from UInt8.toNat_inj.1 e0]
    have:K=(hrow ⟨uP ⟨K,V,false⟩,n⟩).Key:=iw (hk.trans (hkey (h:=⟨uP ⟨K,V,false⟩,n⟩) hp).symm)
    have hvv:V=aW n:=by rw [hn,jv _ _ hv2.symm]
    show (⟨K,V,false⟩:Change)=⟨(hrow ⟨uP ⟨K,V,false⟩,n⟩).Key,aW n,false⟩
    rw [← this,← hvv]
   ·unfold jT;rw [hd r,hl];rfl
 by_cases c2:fa K 0=116
 ·
  by_cases hv:((cx (K.extract 1 K.size) 1).isSome&&decide (K.size=5))=false∨(cx V 1).isSome=false∨12<V.size
  ·unfold rowP at hb;rw [if_neg h0] at hb;dsimp only at hb;rw [if_neg c1,if_pos c2,if_pos hv] at hb;cases hb
  ·
   have hd:∀r,rowP r ⟨K,V,false⟩=(sE r ⟨pA (cx (K.extract 1 K.size) 1) 0,pA (cx V 1) 0,V.extract 4 V.size⟩,decide (pA (cx V 1) 0=1∨pA (cx V 1) 0=2∧V.size=4)):=fun r=>by
    unfold rowP;rw [if_neg h0];dsimp only;rw [if_neg c1,if_pos c2,if_neg hv]
   rw [hd] at hb
   have hp:=of_decide_eq_true hb
   have hv1:(cx V 1).isSome=true:=by cases hq:(cx V 1).isSome with|true=>rfl|false=>exact absurd (.inr (.inl hq)) hv
   have hv0:((cx (K.extract 1 K.size) 1).isSome&&decide (K.size=5))=true:=by cases hq:((cx (K.extract 1 K.size) 1).isSome&&decide (K.size=5)) with|true=>rfl|false=>exact absurd (.inl hq) hv
   have hv2:V.size≤12:=by
    rcases Nat.lt_or_ge 12 V.size with hq|hq
    ·exact absurd (.inr (.inr hq)) hv
    ·exact hq
   rw [Bool.and_eq_true] at hv0
   have hk5:=of_decide_eq_true hv0.2
   obtain ⟨l,hl⟩:=Option.isSome_iff_exists.1 hv1
   obtain ⟨n,rfl,hn⟩:=uG hl
   obtain ⟨m,hm⟩:=Option.isSome_iff_exists.1 hv0.1
   have Kq:=(kV hl).2
   obtain ⟨i,rfl,hi⟩:=uG hm
   have e1:pA (cx V 1) 0=n:=by rw [hl];rfl
   have e2:pA (cx (K.extract 1 K.size) 1) 0=i:=by rw [hm];rfl
   rw [e1] at hp
   have hds:(V.extract 4 V.size).size=V.size-4:=by rw [ByteArray.size_extract];omega
   refine .inr (.inl ⟨⟨i,n,V.extract 4 V.size⟩,?_,?_,by show (V.extract 4 V.size).size≤8;omega,fun r=>?_⟩)
   ·
    have hkk:K=kT++aW i:=by
     rw [hi,jv _ _ (by rw [ByteArray.size_extract];omega)]
     exact wu (x:=116) (by omega) c2
    have hvv:V=aW n++V.extract 4 V.size:=by rw [hn,D1]
    show (⟨K,V,false⟩:Change)=⟨kT++aW i,aW n++V.extract 4 V.size,false⟩
    rw [← hkk,← hvv]
   ·
    show n=1∨n=2∧(V.extract 4 V.size).size=0
    rw [hds];omega
   ·unfold jT;rw [hd r,e1,e2]
 by_cases c3:fa K 0=119
 ·
  by_cases hv:((cx (K.extract 1 K.size) 1).isSome&&decide (K.size=5))=false∨(cx V 4).isSome=false∨V.size≠16
  ·unfold rowP at hb;rw [if_neg h0] at hb;dsimp only at hb;rw [if_neg c1,if_neg c2,if_pos c3,if_pos hv] at hb;cases hb
  ·
   have hd:∀r,rowP r ⟨K,V,false⟩=(oL r ⟨pA (cx (K.extract 1 K.size) 1) 0,pA (cx V 4) 0,pA (cx V 4) 1,pA (cx V 4) 2,pA (cx V 4) 3⟩,true):=fun r=>by
    unfold rowP;rw [if_neg h0];dsimp only;rw [if_neg c1,if_neg c2,if_pos c3,if_neg hv]
   have hv1:(cx V 4).isSome=true:=by cases hq:(cx V 4).isSome with|true=>rfl|false=>exact absurd (.inr (.inl hq)) hv
   have hv0:((cx (K.extract 1 K.size) 1).isSome&&decide (K.size=5))=true:=by cases hq:((cx (K.extract 1 K.size) 1).isSome&&decide (K.size=5)) with|true=>rfl|false=>exact absurd (.inl hq) hv
   have hv2:V.size=16:=Decidable.byContradiction fun hq=>hv (.inr (.inr hq))
   rw [Bool.and_eq_true] at hv0
   have hk5:=of_decide_eq_true hv0.2
   obtain ⟨l,hl⟩:=Option.isSome_iff_exists.1 hv1
   obtain ⟨a,b,d,e,rfl,ha,hb',hd',he⟩:=D2 hl
   obtain ⟨m,hm⟩:=Option.isSome_iff_exists.1 hv0.1
   obtain ⟨i,rfl,hi⟩:=uG hm
   refine .inr (.inr (.inl ⟨⟨i,a,b,d,e⟩,?_,fun r=>?_⟩))
   ·
    have hkk:K=kW++aW i:=by
     rw [hi,jv _ _ (by rw [ByteArray.size_extract];omega)]
     exact wu (x:=119) (by omega) c3
    have hvv:V=aW a++aW b++aW d++aW e:=by
     rw [ha,hb',hd',he,oP _ (by omega) (by omega),oP _ (by omega) (by omega),oP _ (by omega) (by omega),jv _ _ hv2.symm]
    show (⟨K,V,false⟩:Change)=⟨kW++aW i,aW a++aW b++aW d++aW e,false⟩
    rw [← hkk,← hvv]
   ·unfold jT;rw [hd r,hl,hm];rfl
 ·
  by_cases hv:K≠kX∨(cx V 2).isSome=false∨V.size≠8
  ·unfold rowP at hb;rw [if_neg h0] at hb;dsimp only at hb;rw [if_neg c1,if_neg c2,if_neg c3,if_pos hv] at hb;cases hb
  ·
   have hd:∀r,rowP r ⟨K,V,false⟩=(xF r (pA (cx V 2) 0) (pA (cx V 2) 1),true):=fun r=>by
    unfold rowP;rw [if_neg h0];dsimp only;rw [if_neg c1,if_neg c2,if_neg c3,if_neg hv]
   have hv1:(cx V 2).isSome=true:=by cases hq:(cx V 2).isSome with|true=>rfl|false=>exact absurd (.inr (.inl hq)) hv
   have hv0:K=kX:=Decidable.byContradiction fun hq=>hv (.inl hq)
   have hv2:V.size=8:=Decidable.byContradiction fun hq=>hv (.inr (.inr hq))
   obtain ⟨l,hl⟩:=Option.isSome_iff_exists.1 hv1
   obtain ⟨a,b,rfl,ha,hb'⟩:=FX hl
   refine .inr (.inr (.inr ⟨a,b,?_,fun r=>?_⟩))
   ·
    have hvv:V=aW a++aW b:=by rw [ha,hb',oP _ (by omega) (by omega),jv _ _ hv2.symm]
    rw [← hvv,hv0]
   ·unfold jT;rw [hd r,hl];rfl
theorem hk0 (h:Held):∃l,bl (hrow h).Key=104::l:=⟨_,by show bl (kH++dr h.Place.aj++dr h.Place.Slot)=_;rw [iy,iy];rfl⟩
theorem Ja (t:ao):∃l,bl (gV t).Key=116::l:=⟨_,by show bl (kT++aW t.ID)=_;rw [iy];rfl⟩
theorem Jb (w:ak):∃l,bl (jo w).Key=119::l:=⟨_,by show bl (kW++aW w.ID)=_;rw [iy];rfl⟩
theorem tG {a b:ByteArray}{x y:UInt8}(ha:∃l,bl a=x::l)(hb:∃l,bl b=y::l)(h:y<x):¬ fS a b=true:=fun hl=>by
 obtain ⟨l,ha⟩:=ha;obtain ⟨m,hb⟩:=hb
 have:=kR (lE hb ha h);rw [hl] at this;cases this
def J5 (t:ao):Bool:=decide ((t.Kind=1∨t.Kind=2∧t.Data.size=0)∧t.Data.size≤8)
def xr (a b:Int):Change:=⟨kX,aW a++aW b,false⟩
theorem Jc (a b:Int):∃l,bl (xr a b).Key=120::l:=⟨[],rfl⟩
structure Kinds (l:List Change)(hs:List Held)(ts:List ao)(ws:List ak)(xs:List Change):Prop where
  eq:l=hs.map hrow++ts.map gV++ws.map jo++xs
  h:∀x∈hs,bu x.Place=0
  t:∀x∈ts,J5 x=true
  x:(xs=[] ∧ ∀r:ar,l.foldl jT r=⟨r.ai++ws,r.Things++ts,r.Held++hs,r.Notes,r.ae,r.af⟩) ∨ ∃a b,xs=[xr a b] ∧ ∀r:ar,l.foldl jT r=⟨r.ai++ws,r.Things++ts,r.Held++hs,r.Notes,a,b⟩
theorem sg:∀ (l:List Change),dY l→(∀c∈l,c.Gone=false∧(rowP r0 c).2=true) → ∃hs ts ws xs,Kinds l hs ts ws xs
 | [],_,_=>⟨[],[],[],[],rfl,(by intro x hx;cases hx),(by intro x hx;cases hx),.inl ⟨rfl,fun r=>by simp⟩⟩
 | c::l,h1,h2=>by
  obtain ⟨g1,g2⟩:=List.pairwise_cons.1 h1
  obtain ⟨hs,ts,ws,xs,K⟩:=sg l g2 (fun x hx=>h2 x (List.mem_cons_of_mem _ hx))
  obtain ⟨e,kh,kt,kx⟩:=K
  have hc:=h2 c (List.mem_cons_self ..)
  rcases zP hc.1 hc.2 with ⟨h,rfl,hp,hd⟩ | ⟨t,rfl,hk,hz,hd⟩ | ⟨w,rfl,hd⟩ | ⟨a,b,rfl,hd⟩
  ·
   refine ⟨h::hs,ts,ws,xs,by rw [e];rfl,fun x hx=>?_,kt,?_⟩
   ·
    rcases List.mem_cons.1 hx with q|hx
    ·rw [q];exact hp
    ·exact kh x hx
   ·
    rcases kx with ⟨x1,x2⟩ | ⟨a,b,x1,x2⟩
    ·exact .inl ⟨x1,fun r=>by rw [List.foldl_cons,hd r,x2];simp only [sD,List.append_assoc,List.cons_append,List.nil_append]⟩
    ·exact .inr ⟨a,b,x1,fun r=>by rw [List.foldl_cons,hd r,x2];simp only [sD,List.append_assoc,List.cons_append,List.nil_append]⟩
  ·
   have e0:hs=[]:=by
    cases hs with
    | nil=>rfl
    | cons y hs=>exact absurd (g1 (hrow y) (by rw [e];simp)) (tG (Ja t) (hk0 y) (by decide))
   subst e0
   refine ⟨[],t::ts,ws,xs,by rw [e];rfl,kh,fun x hx=>?_,?_⟩
   ·
    rcases List.mem_cons.1 hx with q|hx
    ·rw [q];exact decide_eq_true ⟨hk,hz⟩
    ·exact kt x hx
   ·
    rcases kx with ⟨x1,x2⟩ | ⟨a,b,x1,x2⟩
    ·exact .inl ⟨x1,fun r=>by rw [List.foldl_cons,hd r,x2];simp only [sE,List.append_assoc,List.cons_append,List.nil_append]⟩
    ·exact .inr ⟨a,b,x1,fun r=>by rw [List.foldl_cons,hd r,x2];simp only [sE,List.append_assoc,List.cons_append,List.nil_append]⟩
  ·
   have e0:hs=[]:=by
    cases hs with
    | nil=>rfl
    | cons y hs=>exact absurd (g1 (hrow y) (by rw [e];simp)) (tG (Jb w) (hk0 y) (by decide))
   subst e0
   have e1:ts=[]:=by
    cases ts with
    | nil=>rfl
    | cons y ts=>exact absurd (g1 (gV y) (by rw [e];simp)) (tG (Jb w) (Ja y) (by decide))
   subst e1
   refine ⟨[],[],w::ws,xs,by rw [e];rfl,kh,kt,?_⟩
   rcases kx with ⟨x1,x2⟩ | ⟨a,b,x1,x2⟩
   ·exact .inl ⟨x1,fun r=>by rw [List.foldl_cons,hd r,x2];simp only [oL,List.append_assoc,List.cons_append,List.nil_append]⟩
   ·exact .inr ⟨a,b,x1,fun r=>by rw [List.foldl_cons,hd r,x2];simp only [oL,List.append_assoc,List.cons_append,List.nil_append]⟩
  ·
   have e0:l=[]:=by
    cases l with
    | nil=>rfl
    | cons y l =>
     have hy:=g1 y (List.mem_cons_self ..)
     have hm:y∈hs.map hrow++ts.map gV++ws.map jo++xs:=by rw [← e];exact List.mem_cons_self ..
     rcases List.mem_append.1 hm with hm|hm
     ·
      rcases List.mem_append.1 hm with hm|hm
      ·
       rcases List.mem_append.1 hm with hm|hm
       ·obtain ⟨z,_,rfl⟩:=List.mem_map.1 hm;exact absurd hy (tG (Jc a b) (hk0 z) (by decide))
       ·obtain ⟨z,_,rfl⟩:=List.mem_map.1 hm;exact absurd hy (tG (Jc a b) (Ja z) (by decide))
      ·obtain ⟨z,_,rfl⟩:=List.mem_map.1 hm;exact absurd hy (tG (Jc a b) (Jb z) (by decide))
     ·
      rcases kx with ⟨x1,_⟩ | ⟨a',b',x1,_⟩
      ·rw [x1] at hm;cases hm
      ·
       rw [x1] at hm;rw [List.mem_singleton.1 hm] at hy
       have:fS kX kX=true:=hy
       rw [eR] at this;cases this
   subst e0
   refine ⟨[],[],[],[xr a b],rfl,(by intro x hx;cases hx),(by intro x hx;cases hx),.inr ⟨a,b,rfl,fun r=>?_⟩⟩
   rw [List.foldl_cons,List.foldl_nil,hd r];simp [xF]
theorem Cx:∀ (a b:List Int),a.Nodup→(∀x∈a,x∈b)→b.length≤a.length → ∀x∈b,x∈a
 | [],b,_,_,hl,x,hx=>by
  have:b=[]:=List.eq_nil_of_length_eq_zero (by simpa using hl)
  subst this;cases hx
 | y::a,b,hn,hs,hl,x,hx=>by
  obtain ⟨n1,n2⟩:=List.nodup_cons.1 hn
  have hy:=hs y (List.mem_cons_self ..)
  by_cases e:x=y
  ·rw [e];exact List.mem_cons_self ..
  ·
   refine List.mem_cons_of_mem _ (Cx a (b.erase y) n2 (fun z hz=>?_) ?_ x ?_)
   ·
    have hzy:z≠y:=fun q=>n1 (q▸hz)
    exact (List.mem_erase_of_ne hzy).2 (hs z (List.mem_cons_of_mem _ hz))
   ·rw [List.length_erase_of_mem hy];simp only [List.length_cons] at hl;omega
   ·exact (List.mem_erase_of_ne e).2 hx
theorem zQ {l:List Change}{z:ar}(h:pgo l none r0=some z)(hw:Whole z):Inv z∧z.Notes=[]∧rowsOf z=l∧z.Held.length=z.ai.length:=by
 obtain ⟨_,p2,p3,p4⟩:=Co l none r0 z h
 obtain ⟨hs,ts,ws,xs,K⟩:=sg l p2 (fun c hc=>⟨(p3 c hc).1,(p3 c hc).2 r0⟩)
 obtain ⟨e,kh,kt,kx⟩:=K
 rcases kx with ⟨x1,x2⟩ | ⟨a,b,x1,x2⟩
 ·rw [x2 r0] at p4;have:=hw.ki;rw [p4] at this;simp [r0] at this
 rw [x2 r0] at p4
 simp only [r0,List.nil_append] at p4
 subst p4
 have w1:=hw.tree
 have hth:=hw.things
 simp only at w1 hth
 have hrise:qm hs:=by
  have p:=p2;rw [e] at p
  have q:=(List.pairwise_append.1 (List.pairwise_append.1 (List.pairwise_append.1 p).1).1).1
  have q2:=List.pairwise_map.1 q
  refine List.Pairwise.imp_of_mem (fun {x y} hx hy hl=>?_) q2
  have fx:=ck (kh x hx);have fy:=ck (kh y hy)
  by_cases c1:gM x.Place y.Place
  ·exact c1
  ·
   by_cases c2:gM y.Place x.Place
   ·have:=kR (yO (kh y hy) (kh x hx) c2);rw [hl] at this;cases this
   ·
    have e1:x.Place.aj=y.Place.aj∧x.Place.Slot=y.Place.Slot:=by
     unfold gM at c1 c2;omega
    have:(hrow x).Key=(hrow y).Key:=by
     show kH++dr x.Place.aj++dr x.Place.Slot=kH++dr y.Place.aj++dr y.Place.Slot
     rw [e1.1,e1.2]
    rw [this,eR] at hl;cases hl
 have hin:∀x∈hs,∃w∈ws,w.ID=x.ak:=fun x hx=>gB.1 (hw.eo x hx)
 have hg:Good hs:=lB hrise fun x hx=>⟨kh x hx,by
  obtain ⟨w,hw',e'⟩:=hin x hx
  have:=(w1.mem hw').id1;omega⟩
 have Jr:∀t∈ts,∃w∈ws,w.ao=t.ID:=fun t ht=>(gC w1).1 (by rw [← hth];exact List.mem_map.2 ⟨t,ht,rfl⟩)
 have fP:ts.Pairwise (fun a b=>a.ID<b.ID):=by
  have:=qa w1;rw [← hth] at this;exact List.pairwise_map.1 this
 have hi:Inv ⟨ws,ts,hs,[],a,b⟩:={
  tree:=w1,good:=hg,ki:=hw.ki,lC:=hw.lC,kv:=hw.kv,ky:=hw.ky,fP:=fP,gh:=hw.gh
  nD:=fun w hm=>by
   have hm':w∈ws:=hm
   cases hq:ws.getLast? with
   | none=>rw [List.getLast?_eq_none_iff.1 hq] at hm';cases hm'
   | some y =>
    have h1:y.ID<a:=hw.BV y hq
    rcases yU (tD w1) hq hm' with q|q
    ·rw [q];exact h1
    ·show w.ID<a;omega
  qn:=fun t hm=>by
   have hm':t∈ts:=hm
   obtain ⟨w,hw',e'⟩:=Jr t hm'
   have:=(w1.mem hw').EH
   refine ⟨by omega,?_⟩
   cases hq:ts.getLast? with
   | none=>rw [List.getLast?_eq_none_iff.1 hq] at hm';cases hm'
   | some y =>
    have h1:y.ID<b:=hw.BW y hq
    rcases yU fP hq hm' with q|q
    ·rw [q];exact h1
    ·show t.ID<b;omega
  gD:=fun t hm=>by have:=of_decide_eq_true (kt t hm);omega
  gE:=fun t hm=>by
   have:=of_decide_eq_true (kt t hm)
   exact ⟨this.2,fun k2=>vY (by rcases this.1 with q|q;omega;exact q.2)⟩
  thing:=fun w hm=>by
   have:w.ao∈ts.map ao.ID:=by rw [hth];exact (gC w1).2 ⟨w,hm,rfl⟩
   obtain ⟨t,ht,e'⟩:=List.mem_map.1 this
   exact ⟨t,ht,e'⟩
  port:=by intro n hn;cases hn
  hM:=by intro n hn;cases hn
  wait:=fun q=>by simp [eM]
  gF:=by intro n hn;cases hn
  once:=fun w hm=>by
   have hm':w∈ws:=hm
   have hn:=hw.once
   have hl:hs.length=ws.length:=hw.hlen
   have hin2:w.ID∈hs.map Held.ak:=Cx (hs.map Held.ak) (ws.map ak.ID) hn (fun x hx=>by
    obtain ⟨y,hy,rfl⟩:=List.mem_map.1 hx
    obtain ⟨v,hv,e'⟩:=hin y hy
    rw [← e'];exact List.mem_map.2 ⟨v,hv,rfl⟩) (by rw [List.length_map,List.length_map];omega) w.ID (List.mem_map.2 ⟨w,hm',rfl⟩)
   have hc:cH hs w.ID=(hs.map Held.ak).count w.ID:=by unfold cH;rw [List.count,List.countP_map];rfl
   have h1:=List.count_pos_iff.2 hin2
   have h2:(hs.map Held.ak).count w.ID≤1:=List.nodup_iff_count.1 hn w.ID
   show cH hs w.ID+cN [] w.ID=1
   have h3:cN [] w.ID=0:=rfl
   omega
  fQ:=by intro n hn;cases hn
  eo:=hin
  used:=Jr }
 refine ⟨hi,rfl,?_,hw.hlen⟩
 rw [e,x1];rfl
theorem nX {z:ar}(h:Inv z)(hn:z.Notes=[]):aH z=z:=by
 obtain ⟨a,b,c,d,e,f⟩:=z
 simp only at hn;subst hn
 exact rW h
theorem Cy {l:List Change}(h:(aO l).2=0):Inv (aO l).1∧(aO l).1.Notes=[]∧aU (aO l).1=l∧(aO l).1.Held.length=(aO l).1.ai.length:=by
 rcases mG l with ⟨z,h1,h2,h3⟩ | h1
 ·
  obtain ⟨a,b,c,d⟩:=zQ h1 h2
  rw [h3]
  exact ⟨a,b,by unfold aU;rw [nX a b];exact c,d⟩
 ·rw [h1] at h;cases h
theorem zS {l:List Change}(h:¬ (aO l).2=0):aO l=(r0,4):=by
 rcases mG l with ⟨z,h1,h2,h3⟩ | h1
 ·rw [h3] at h;exact absurd rfl h
 ·exact h1
end Go.Proofs.YtbkfhjaibhnkmaaGreatDoor
end
section
namespace Go.Proofs.YtbkfhjaibhnkmaaGreatDoor
open Go
set_option linter.unusedVariables false
section
variable {l:List Change} {k:Nat} {x y:Change}
theorem D3 {a b:ByteArray}(h:(fS a b||decide (a=b))=true):fS b a=false:=by
 rcases Bool.or_eq_true_iff.1 h with h|h
 ·exact kR h
 ·have e:=of_decide_eq_true h;subst e;exact eR _
theorem FY {a b:ByteArray}(h:(fS a b||decide (a=b))=false):fS b a=true:=by
 obtain ⟨h1,h2⟩:=Bool.or_eq_false_iff.1 h
 exact FK h1 (of_decide_eq_false h2)
end
end Go.Proofs.YtbkfhjaibhnkmaaGreatDoor
end
