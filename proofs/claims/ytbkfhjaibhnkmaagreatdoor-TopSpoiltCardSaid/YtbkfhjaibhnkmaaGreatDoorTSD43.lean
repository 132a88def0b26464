import Derived.Test.YtbkfhjaibhnkmaaGreatDoorTSD40
namespace Go.Proofs.YtbkfhjaibhnkmaaGreatDoor
set_option linter.unusedVariables false
set_option linter.unusedSimpArgs false
theorem yM (s:ByteArray){k:Nat}:s.extract 0 k++s.extract k s.size=s:=by
 apply lA;show bl _=bl _
 rw [gW,lB,lB,List.drop_zero,List.take_of_length_le (i:=s.size) (by rw [iy];exact Nat.le_refl _),List.take_append_drop]
theorem mh (s:ByteArray){i j k:Nat}(h1:i≤j)(h2:j≤k):s.extract i j++s.extract j k=s.extract i k:=by
 apply lA;show bl _=bl _
 rw [gW,lB,lB,lB]
 have e:(bl s).take j=((bl s).take k).take j:=by rw [List.take_take,Nat.min_eq_left h2]
 rw [e]
 generalize (bl s).take k=l
 rcases Nat.lt_or_ge l.length j with hj|hj
 ·rw [List.take_of_length_le (by omega),List.drop_of_length_le (i:=j) (by omega),List.append_nil]
 ·conv=>rhs;rw [← List.take_append_drop j l,List.drop_append_of_le_length (by rw [List.length_take];omega)]
theorem qJ {s:ByteArray}{l:List Int}(h:bV s 1=some l):∃n,l=[n]∧bf n=s.extract 0 4:=by
 obtain ⟨h1,h2⟩:=jl h
 match l,h1 with
 | [n],_=>exact ⟨n,rfl,jL (iz h (j:=0) rfl)⟩
theorem AP {s:ByteArray}{l:List Int}(h:bV s 2=some l):∃a b,l=[a,b]∧bf a=s.extract 0 4∧bf b=s.extract 4 8:=by
 obtain ⟨h1,h2⟩:=jl h
 match l,h1 with
 | [a,b],_=>exact ⟨a,b,rfl,jL (iz h (j:=0) rfl),jL (iz h (j:=1) rfl)⟩
theorem yN {s:ByteArray}{l:List Int}(h:bV s 4=some l):∃a b c d,l=[a,b,c,d]∧bf a=s.extract 0 4∧bf b=s.extract 4 8∧bf c=s.extract 8 12∧bf d=s.extract 12 16:=by
 obtain ⟨h1,h2⟩:=jl h
 match l,h1 with
 | [a,b,c,d],_=>exact ⟨a,b,c,d,rfl,jL (iz h (j:=0) rfl),jL (iz h (j:=1) rfl),jL (iz h (j:=2) rfl),jL (iz h (j:=3) rfl)⟩
theorem zA {x:UInt8}{n:Int}(h:(x.toNat:Int)-48=n)(h0:0≤n)(h9:n<10):d8 n.toNat=x:=by
 apply UInt8.toNat_inj.1
 rw [tg (by omega)];omega
theorem sd {s:ByteArray}{x:UInt8}(h0:0<s.size)(h:fQ s 0=x.toNat):s=⟨#[x]⟩++s.extract 1 s.size:=by
 apply lA;show bl _=bl _
 rw [gW,lB,List.take_of_length_le (by rw [iy];exact Nat.le_refl _)]
 rw [kM] at h
 cases hl:bl s with
 | nil=>rw [← iy,hl] at h0;simp at h0
 | cons y l =>
  rw [hl] at h
  have:y=x:=UInt8.toNat_inj.1 (by simpa using h)
  subst this;rfl
theorem vt {c:Change}(hg:c.Gone=false)(hb:(rowP r0 c).2=true) :
 (∃h,c=hrow h∧aX h.Place=0 ∧ ∀r,oY r c=tf r h)∨(∃t,c=kQ t∧(t.Kind=1∨t.Kind=2∧t.Data.size=0)∧t.Data.size≤8 ∧ ∀r,oY r c=vo r t) ∨
 (∃w,c=me w ∧ ∀r,oY r c=p6 r w)∨(∃a b,c=⟨kX,bf a++bf b,false⟩ ∧ ∀r,oY r c=xc r a b):=by
 obtain ⟨K,V,G⟩:=c
 simp only at hg;subst hg
 by_cases h0:K.size=0
 ·unfold rowP at hb;rw [if_pos h0] at hb;cases hb
 by_cases c1:fQ K 0=104
 ·
  by_cases hv:(bV V 1).isSome=false∨V.size≠4∨K.size≠3
  ·unfold rowP at hb;rw [if_neg h0] at hb;dsimp only at hb;rw [if_pos c1,if_pos hv] at hb;cases hb
  ·
   have hd:∀r,rowP r ⟨K,V,false⟩=(tf r ⟨sh ⟨K,V,false⟩,mQ (bV V 1) 0⟩,decide (aX (sh ⟨K,V,false⟩)=0)):=fun r=>by
    unfold rowP;rw [if_neg h0];dsimp only;rw [if_pos c1,if_neg hv]
   rw [hd] at hb
   have hp:aX (sh ⟨K,V,false⟩)=0:=of_decide_eq_true hb
   have hv1:(bV V 1).isSome=true:=by cases hq:(bV V 1).isSome with|true=>rfl|false=>exact absurd (.inl hq) hv
   have hv2:V.size=4:=Decidable.byContradiction fun hq=>hv (.inr (.inl hq))
   have hv3:K.size=3:=Decidable.byContradiction fun hq=>hv (.inr (.inr hq))
   obtain ⟨l,hl⟩:=Option.isSome_iff_exists.1 hv1
   obtain ⟨n,rfl,hn⟩:=qJ hl
   refine .inl ⟨⟨sh ⟨K,V,false⟩,n⟩,?_,hp,fun r=>?_⟩
   ·
    have hz:=bS hp
    have hk:bl K=[104,d8 (sh ⟨K,V,false⟩).ao.toNat,d8 (sh ⟨K,V,false⟩).Slot.toNat]:=by
     have e0:=c1;rw [kM] at e0
     have e1:fQ K 1=(((bl K)[1]?).getD 0).toNat:=kM _ _
     have e2:fQ K 2=(((bl K)[2]?).getD 0).toNat:=kM _ _
     have hlen:=iy K
     rw [hv3] at hlen
     have z1:(fQ K 1:Int)-48=(sh ⟨K,V,false⟩).ao:=rfl
     have z2:(fQ K 2:Int)-48=(sh ⟨K,V,false⟩).Slot:=rfl
     generalize (sh ⟨K,V,false⟩).ao=A at hz z1 ⊢
     generalize (sh ⟨K,V,false⟩).Slot=B at hz z2 ⊢
     rw [e1] at z1;rw [e2] at z2
     match hq:bl K,hlen with
     | [x,y,z],_ =>
      rw [hq] at e0 z1 z2
      rw [zA (x:=y) z1 (by omega) (by omega),zA (x:=z) z2 (by omega) (by omega),show x=104 from UInt8.toNat_inj.1 e0]
    have:K=(hrow ⟨sh ⟨K,V,false⟩,n⟩).Key:=lA (hk.trans (hkey (h:=⟨sh ⟨K,V,false⟩,n⟩) hp).symm)
    have hvv:V=bf n:=by rw [hn,mg _ _ hv2.symm]
    show (⟨K,V,false⟩:Change)=⟨(hrow ⟨sh ⟨K,V,false⟩,n⟩).Key,bf n,false⟩
    rw [← this,← hvv]
   ·unfold oY;rw [hd r,hl];rfl
 by_cases c2:fQ K 0=116
 ·
  by_cases hv:((bV (K.extract 1 K.size) 1).isSome&&decide (K.size=5))=false∨(bV V 1).isSome=false∨12<V.size
  ·unfold rowP at hb;rw [if_neg h0] at hb;dsimp only at hb;rw [if_neg c1,if_pos c2,if_pos hv] at hb;cases hb
  ·
   have hd:∀r,rowP r ⟨K,V,false⟩=(vo r ⟨mQ (bV (K.extract 1 K.size) 1) 0,mQ (bV V 1) 0,V.extract 4 V.size⟩,decide (mQ (bV V 1) 0=1∨mQ (bV V 1) 0=2∧V.size=4)):=fun r=>by
    unfold rowP;rw [if_neg h0];dsimp only;rw [if_neg c1,if_pos c2,if_neg hv]
   rw [hd] at hb
   have hp:=of_decide_eq_true hb
   have hv1:(bV V 1).isSome=true:=by cases hq:(bV V 1).isSome with|true=>rfl|false=>exact absurd (.inr (.inl hq)) hv
   have hv0:((bV (K.extract 1 K.size) 1).isSome&&decide (K.size=5))=true:=by cases hq:((bV (K.extract 1 K.size) 1).isSome&&decide (K.size=5)) with|true=>rfl|false=>exact absurd (.inl hq) hv
   have hv2:V.size≤12:=by
    rcases Nat.lt_or_ge 12 V.size with hq|hq
    ·exact absurd (.inr (.inr hq)) hv
    ·exact hq
   rw [Bool.and_eq_true] at hv0
   have hk5:=of_decide_eq_true hv0.2
   obtain ⟨l,hl⟩:=Option.isSome_iff_exists.1 hv1
   obtain ⟨n,rfl,hn⟩:=qJ hl
   obtain ⟨m,hm⟩:=Option.isSome_iff_exists.1 hv0.1
   have E2:=(jl hl).2
   obtain ⟨i,rfl,hi⟩:=qJ hm
   have e1:mQ (bV V 1) 0=n:=by rw [hl];rfl
   have e2:mQ (bV (K.extract 1 K.size) 1) 0=i:=by rw [hm];rfl
   rw [e1] at hp
   have hds:(V.extract 4 V.size).size=V.size-4:=by rw [ByteArray.size_extract];omega
   refine .inr (.inl ⟨⟨i,n,V.extract 4 V.size⟩,?_,?_,by show (V.extract 4 V.size).size≤8;omega,fun r=>?_⟩)
   ·
    have hkk:K=kT++bf i:=by
     rw [hi,mg _ _ (by rw [ByteArray.size_extract];omega)]
     exact sd (x:=116) (by omega) c2
    have hvv:V=bf n++V.extract 4 V.size:=by rw [hn,yM]
    show (⟨K,V,false⟩:Change)=⟨kT++bf i,bf n++V.extract 4 V.size,false⟩
    rw [← hkk,← hvv]
   ·
    show n=1∨n=2∧(V.extract 4 V.size).size=0
    rw [hds];omega
   ·unfold oY;rw [hd r,e1,e2]
 by_cases c3:fQ K 0=119
 ·
  by_cases hv:((bV (K.extract 1 K.size) 1).isSome&&decide (K.size=5))=false∨(bV V 4).isSome=false∨V.size≠16
  ·unfold rowP at hb;rw [if_neg h0] at hb;dsimp only at hb;rw [if_neg c1,if_neg c2,if_pos c3,if_pos hv] at hb;cases hb
  ·
   have hd:∀r,rowP r ⟨K,V,false⟩=(p6 r ⟨mQ (bV (K.extract 1 K.size) 1) 0,mQ (bV V 4) 0,mQ (bV V 4) 1,mQ (bV V 4) 2,mQ (bV V 4) 3⟩,true):=fun r=>by
    unfold rowP;rw [if_neg h0];dsimp only;rw [if_neg c1,if_neg c2,if_pos c3,if_neg hv]
   have hv1:(bV V 4).isSome=true:=by cases hq:(bV V 4).isSome with|true=>rfl|false=>exact absurd (.inr (.inl hq)) hv
   have hv0:((bV (K.extract 1 K.size) 1).isSome&&decide (K.size=5))=true:=by cases hq:((bV (K.extract 1 K.size) 1).isSome&&decide (K.size=5)) with|true=>rfl|false=>exact absurd (.inl hq) hv
   have hv2:V.size=16:=Decidable.byContradiction fun hq=>hv (.inr (.inr hq))
   rw [Bool.and_eq_true] at hv0
   have hk5:=of_decide_eq_true hv0.2
   obtain ⟨l,hl⟩:=Option.isSome_iff_exists.1 hv1
   obtain ⟨a,b,d,e,rfl,ha,hb',hd',he⟩:=yN hl
   obtain ⟨m,hm⟩:=Option.isSome_iff_exists.1 hv0.1
   obtain ⟨i,rfl,hi⟩:=qJ hm
   refine .inr (.inr (.inl ⟨⟨i,a,b,d,e⟩,?_,fun r=>?_⟩))
   ·
    have hkk:K=kW++bf i:=by
     rw [hi,mg _ _ (by rw [ByteArray.size_extract];omega)]
     exact sd (x:=119) (by omega) c3
    have hvv:V=bf a++bf b++bf d++bf e:=by
     rw [ha,hb',hd',he,mh _ (by omega) (by omega),mh _ (by omega) (by omega),mh _ (by omega) (by omega),mg _ _ hv2.symm]
    show (⟨K,V,false⟩:Change)=⟨kW++bf i,bf a++bf b++bf d++bf e,false⟩
    rw [← hkk,← hvv]
   ·unfold oY;rw [hd r,hl,hm];rfl
 ·
  by_cases hv:K≠kX∨(bV V 2).isSome=false∨V.size≠8
  ·unfold rowP at hb;rw [if_neg h0] at hb;dsimp only at hb;rw [if_neg c1,if_neg c2,if_neg c3,if_pos hv] at hb;cases hb
  ·
   have hd:∀r,rowP r ⟨K,V,false⟩=(xc r (mQ (bV V 2) 0) (mQ (bV V 2) 1),true):=fun r=>by
    unfold rowP;rw [if_neg h0];dsimp only;rw [if_neg c1,if_neg c2,if_neg c3,if_neg hv]
   have hv1:(bV V 2).isSome=true:=by cases hq:(bV V 2).isSome with|true=>rfl|false=>exact absurd (.inr (.inl hq)) hv
   have hv0:K=kX:=Decidable.byContradiction fun hq=>hv (.inl hq)
   have hv2:V.size=8:=Decidable.byContradiction fun hq=>hv (.inr (.inr hq))
   obtain ⟨l,hl⟩:=Option.isSome_iff_exists.1 hv1
   obtain ⟨a,b,rfl,ha,hb'⟩:=AP hl
   refine .inr (.inr (.inr ⟨a,b,?_,fun r=>?_⟩))
   ·
    have hvv:V=bf a++bf b:=by rw [ha,hb',mh _ (by omega) (by omega),mg _ _ hv2.symm]
    rw [← hvv,hv0]
   ·unfold oY;rw [hd r,hl];rfl
theorem hk0 (h:Held):∃l,bl (hrow h).Key=104::l:=⟨_,by show bl (kH++dV h.Place.ao++dV h.Place.Slot)=_;rw [gW,gW];rfl⟩
theorem DT (t:ah):∃l,bl (kQ t).Key=116::l:=⟨_,by show bl (kT++bf t.ID)=_;rw [gW];rfl⟩
theorem DU (w:aj):∃l,bl (me w).Key=119::l:=⟨_,by show bl (kW++bf w.ID)=_;rw [gW];rfl⟩
theorem qa {a b:ByteArray}{x y:UInt8}(ha:∃l,bl a=x::l)(hb:∃l,bl b=y::l)(h:y<x):¬ fT a b=true:=fun hl=>by
 obtain ⟨l,ha⟩:=ha;obtain ⟨m,hb⟩:=hb
 have:=jj (jM hb ha h);rw [hl] at this;cases this
def EJ (t:ah):Bool:=decide ((t.Kind=1∨t.Kind=2∧t.Data.size=0)∧t.Data.size≤8)
def xr (a b:Int):Change:=⟨kX,bf a++bf b,false⟩
theorem DV (a b:Int):∃l,bl (xr a b).Key=120::l:=⟨[],rfl⟩
structure Kinds (l:List Change)(hs:List Held)(ts:List ah)(ws:List aj)(xs:List Change):Prop where
  eq:l=hs.map hrow++ts.map kQ++ws.map me++xs
  h:∀x∈hs,aX x.Place=0
  t:∀x∈ts,EJ x=true
  x:(xs=[] ∧ ∀r:ap,l.foldl oY r=⟨r.ai++ws,r.Things++ts,r.Held++hs,r.Notes,r.ae,r.af⟩) ∨ ∃a b,xs=[xr a b] ∧ ∀r:ap,l.foldl oY r=⟨r.ai++ws,r.Things++ts,r.Held++hs,r.Notes,a,b⟩
theorem o6:∀ (l:List Change),gR l→(∀c∈l,c.Gone=false∧(rowP r0 c).2=true) → ∃hs ts ws xs,Kinds l hs ts ws xs
 | [],_,_=>⟨[],[],[],[],rfl,(by intro x hx;cases hx),(by intro x hx;cases hx),.inl ⟨rfl,fun r=>by simp⟩⟩
 | c::l,h1,h2=>by
  obtain ⟨g1,g2⟩:=List.pairwise_cons.1 h1
  obtain ⟨hs,ts,ws,xs,K⟩:=o6 l g2 (fun x hx=>h2 x (List.mem_cons_of_mem _ hx))
  obtain ⟨e,kh,kt,kx⟩:=K
  have hc:=h2 c (List.mem_cons_self ..)
  rcases vt hc.1 hc.2 with ⟨h,rfl,hp,hd⟩ | ⟨t,rfl,hk,hz,hd⟩ | ⟨w,rfl,hd⟩ | ⟨a,b,rfl,hd⟩
  ·
   refine ⟨h::hs,ts,ws,xs,by rw [e];rfl,fun x hx=>?_,kt,?_⟩
   ·
    rcases List.mem_cons.1 hx with q|hx
    ·rw [q];exact hp
    ·exact kh x hx
   ·
    rcases kx with ⟨x1,x2⟩ | ⟨a,b,x1,x2⟩
    ·exact .inl ⟨x1,fun r=>by rw [List.foldl_cons,hd r,x2];simp only [tf,List.append_assoc,List.cons_append,List.nil_append]⟩
    ·exact .inr ⟨a,b,x1,fun r=>by rw [List.foldl_cons,hd r,x2];simp only [tf,List.append_assoc,List.cons_append,List.nil_append]⟩
  ·
   have e0:hs=[]:=by
    cases hs with
    | nil=>rfl
    | cons y hs=>exact absurd (g1 (hrow y) (by rw [e];simp)) (qa (DT t) (hk0 y) (by decide))
   subst e0
   refine ⟨[],t::ts,ws,xs,by rw [e];rfl,kh,fun x hx=>?_,?_⟩
   ·
    rcases List.mem_cons.1 hx with q|hx
    ·rw [q];exact decide_eq_true ⟨hk,hz⟩
    ·exact kt x hx
   ·
    rcases kx with ⟨x1,x2⟩ | ⟨a,b,x1,x2⟩
    ·exact .inl ⟨x1,fun r=>by rw [List.foldl_cons,hd r,x2];simp only [vo,List.append_assoc,List.cons_append,List.nil_append]⟩
    ·exact .inr ⟨a,b,x1,fun r=>by rw [List.foldl_cons,hd r,x2];simp only [vo,List.append_assoc,List.cons_append,List.nil_append]⟩
  ·
   have e0:hs=[]:=by
    cases hs with
    | nil=>rfl
    | cons y hs=>exact absurd (g1 (hrow y) (by rw [e];simp)) (qa (DU w) (hk0 y) (by decide))
   subst e0
   have e1:ts=[]:=by
    cases ts with
    | nil=>rfl
    | cons y ts=>exact absurd (g1 (kQ y) (by rw [e];simp)) (qa (DU w) (DT y) (by decide))
   subst e1
   refine ⟨[],[],w::ws,xs,by rw [e];rfl,kh,kt,?_⟩
   rcases kx with ⟨x1,x2⟩ | ⟨a,b,x1,x2⟩
   ·exact .inl ⟨x1,fun r=>by rw [List.foldl_cons,hd r,x2];simp only [p6,List.append_assoc,List.cons_append,List.nil_append]⟩
   ·exact .inr ⟨a,b,x1,fun r=>by rw [List.foldl_cons,hd r,x2];simp only [p6,List.append_assoc,List.cons_append,List.nil_append]⟩
  ·
   have e0:l=[]:=by
    cases l with
    | nil=>rfl
    | cons y l =>
     have hy:=g1 y (List.mem_cons_self ..)
     have hm:y∈hs.map hrow++ts.map kQ++ws.map me++xs:=by rw [← e];exact List.mem_cons_self ..
     rcases List.mem_append.1 hm with hm|hm
     ·
      rcases List.mem_append.1 hm with hm|hm
      ·
       rcases List.mem_append.1 hm with hm|hm
       ·obtain ⟨z,_,rfl⟩:=List.mem_map.1 hm;exact absurd hy (qa (DV a b) (hk0 z) (by decide))
       ·obtain ⟨z,_,rfl⟩:=List.mem_map.1 hm;exact absurd hy (qa (DV a b) (DT z) (by decide))
      ·obtain ⟨z,_,rfl⟩:=List.mem_map.1 hm;exact absurd hy (qa (DV a b) (DU z) (by decide))
     ·
      rcases kx with ⟨x1,_⟩ | ⟨a',b',x1,_⟩
      ·rw [x1] at hm;cases hm
      ·
       rw [x1] at hm;rw [List.mem_singleton.1 hm] at hy
       have:fT kX kX=true:=hy
       rw [fO] at this;cases this
   subst e0
   refine ⟨[],[],[],[xr a b],rfl,(by intro x hx;cases hx),(by intro x hx;cases hx),.inr ⟨a,b,rfl,fun r=>?_⟩⟩
   rw [List.foldl_cons,List.foldl_nil,hd r];simp [xc]
theorem xv:∀ (a b:List Int),a.Nodup→(∀x∈a,x∈b)→b.length≤a.length → ∀x∈b,x∈a
 | [],b,_,_,hl,x,hx=>by
  have:b=[]:=List.eq_nil_of_length_eq_zero (by simpa using hl)
  subst this;cases hx
 | y::a,b,hn,hs,hl,x,hx=>by
  obtain ⟨n1,n2⟩:=List.nodup_cons.1 hn
  have hy:=hs y (List.mem_cons_self ..)
  by_cases e:x=y
  ·rw [e];exact List.mem_cons_self ..
  ·
   refine List.mem_cons_of_mem _ (xv a (b.erase y) n2 (fun z hz=>?_) ?_ x ?_)
   ·
    have hzy:z≠y:=fun q=>n1 (q▸hz)
    exact (List.mem_erase_of_ne hzy).2 (hs z (List.mem_cons_of_mem _ hz))
   ·rw [List.length_erase_of_mem hy];simp only [List.length_cons] at hl;omega
   ·exact (List.mem_erase_of_ne e).2 hx
theorem vu {l:List Change}{z:ap}(h:pgo l none r0=some z)(hw:Whole z):Inv z∧z.Notes=[]∧rowsOf z=l∧z.Held.length=z.ai.length:=by
 obtain ⟨_,p2,p3,p4⟩:=xp l none r0 z h
 obtain ⟨hs,ts,ws,xs,K⟩:=o6 l p2 (fun c hc=>⟨(p3 c hc).1,(p3 c hc).2 r0⟩)
 obtain ⟨e,kh,kt,kx⟩:=K
 rcases kx with ⟨x1,x2⟩ | ⟨a,b,x1,x2⟩
 ·rw [x2 r0] at p4;have:=hw.jV;rw [p4] at this;simp [r0] at this
 rw [x2 r0] at p4
 simp only [r0,List.nil_append] at p4
 subst p4
 have w1:=hw.tree
 have hth:=hw.things
 simp only at w1 hth
 have hrise:oK hs:=by
  have p:=p2;rw [e] at p
  have q:=(List.pairwise_append.1 (List.pairwise_append.1 (List.pairwise_append.1 p).1).1).1
  have q2:=List.pairwise_map.1 q
  refine List.Pairwise.imp_of_mem (fun {x y} hx hy hl=>?_) q2
  have fx:=bS (kh x hx);have fy:=bS (kh y hy)
  by_cases c1:e7 x.Place y.Place
  ·exact c1
  ·
   by_cases c2:e7 y.Place x.Place
   ·have:=jj (uv (kh y hy) (kh x hx) c2);rw [hl] at this;cases this
   ·
    have e1:x.Place.ao=y.Place.ao∧x.Place.Slot=y.Place.Slot:=by
     unfold e7 at c1 c2;omega
    have:(hrow x).Key=(hrow y).Key:=by
     show kH++dV x.Place.ao++dV x.Place.Slot=kH++dV y.Place.ao++dV y.Place.Slot
     rw [e1.1,e1.2]
    rw [this,fO] at hl;cases hl
 have hin:∀x∈hs,∃w∈ws,w.ID=x.aj:=fun x hx=>gE.1 (hw.dz x hx)
 have hg:Good hs:=jI hrise fun x hx=>⟨kh x hx,by
  obtain ⟨w,hw',e'⟩:=hin x hx
  have:=(w1.mem hw').id1;omega⟩
 have D9:∀t∈ts,∃w∈ws,w.ah=t.ID:=fun t ht=>(fG w1).1 (by rw [← hth];exact List.mem_map.2 ⟨t,ht,rfl⟩)
 have eZ:ts.Pairwise (fun a b=>a.ID<b.ID):=by
  have:=nn w1;rw [← hth] at this;exact List.pairwise_map.1 this
 have hi:Inv ⟨ws,ts,hs,[],a,b⟩:={
  tree:=w1,good:=hg,jV:=hw.jV,kP:=hw.kP,jY:=hw.jY,jZ:=hw.jZ,eZ:=eZ,fN:=hw.fN
  ly:=fun w hm=>by
   have hm':w∈ws:=hm
   cases hq:ws.getLast? with
   | none=>rw [List.getLast?_eq_none_iff.1 hq] at hm';cases hm'
   | some y =>
    have h1:y.ID<a:=hw.zw y hq
    rcases uz (p8 w1) hq hm' with q|q
    ·rw [q];exact h1
    ·show w.ID<a;omega
  nG:=fun t hm=>by
   have hm':t∈ts:=hm
   obtain ⟨w,hw',e'⟩:=D9 t hm'
   have:=(w1.mem hw').Ai
   refine ⟨by omega,?_⟩
   cases hq:ts.getLast? with
   | none=>rw [List.getLast?_eq_none_iff.1 hq] at hm';cases hm'
   | some y =>
    have h1:y.ID<b:=hw.zx y hq
    rcases uz eZ hq hm' with q|q
    ·rw [q];exact h1
    ·show t.ID<b;omega
  fH:=fun t hm=>by have:=of_decide_eq_true (kt t hm);omega
  fI:=fun t hm=>by
   have:=of_decide_eq_true (kt t hm)
   exact ⟨this.2,fun k2=>rR (by rcases this.1 with q|q;omega;exact q.2)⟩
  thing:=fun w hm=>by
   have:w.ah∈ts.map ah.ID:=by rw [hth];exact (fG w1).2 ⟨w,hm,rfl⟩
   obtain ⟨t,ht,e'⟩:=List.mem_map.1 this
   exact ⟨t,ht,e'⟩
  port:=by intro n hn;cases hn
  f9:=by intro n hn;cases hn
  wait:=fun q=>by simp [ey]
  fJ:=by intro n hn;cases hn
  once:=fun w hm=>by
   have hm':w∈ws:=hm
   have hn:=hw.once
   have hl:hs.length=ws.length:=hw.hlen
   have hin2:w.ID∈hs.map Held.aj:=xv (hs.map Held.aj) (ws.map aj.ID) hn (fun x hx=>by
    obtain ⟨y,hy,rfl⟩:=List.mem_map.1 hx
    obtain ⟨v,hv,e'⟩:=hin y hy
    rw [← e'];exact List.mem_map.2 ⟨v,hv,rfl⟩) (by rw [List.length_map,List.length_map];omega) w.ID (List.mem_map.2 ⟨w,hm',rfl⟩)
   have hc:cH hs w.ID=(hs.map Held.aj).count w.ID:=by unfold cH;rw [List.count,List.countP_map];rfl
   have h1:=List.count_pos_iff.2 hin2
   have h2:(hs.map Held.aj).count w.ID≤1:=List.nodup_iff_count.1 hn w.ID
   show cH hs w.ID+cN [] w.ID=1
   have h3:cN [] w.ID=0:=rfl
   omega
  e5:=by intro n hn;cases hn
  dz:=hin
  used:=D9 }
 refine ⟨hi,rfl,?_,hw.hlen⟩
 rw [e,x1];rfl
theorem tv {z:ap}(h:Inv z)(hn:z.Notes=[]):aR z=z:=by
 obtain ⟨a,b,c,d,e,f⟩:=z
 simp only at hn;subst hn
 exact oO h
theorem xw {l:List Change}(h:(aZ l).2=0):Inv (aZ l).1∧(aZ l).1.Notes=[]∧bk (aZ l).1=l∧(aZ l).1.Held.length=(aZ l).1.ai.length:=by
 rcases nk l with ⟨z,h1,h2,h3⟩ | h1
 ·
  obtain ⟨a,b,c,d⟩:=vu h1 h2
  rw [h3]
  exact ⟨a,b,by unfold bk;rw [tv a b];exact c,d⟩
 ·rw [h1] at h;cases h
theorem vv {l:List Change}(h:¬ (aZ l).2=0):aZ l=(r0,4):=by
 rcases nk l with ⟨z,h1,h2,h3⟩ | h1
 ·rw [h3] at h;exact absurd rfl h
 ·exact h1
end Go.Proofs.YtbkfhjaibhnkmaaGreatDoor
