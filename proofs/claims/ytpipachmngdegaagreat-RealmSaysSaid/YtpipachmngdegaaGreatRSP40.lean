import Derived.Test.YtpipachmngdegaaGreatRSP32
import Derived.Test.YtpipachmngdegaaGreatRSP34
import Derived.Test.YtpipachmngdegaaGreatRSP24
section
namespace Go.Proofs.YtpipachmngdegaaGreat
set_option linter.unusedVariables false
theorem rl {l:List Held}{p:Place}{id:Int}(hg:Good l)(h:gI l p=0)(hi:id≠0):∃A B,l=A++B∧bO l p id=A++⟨p,id⟩::B:=by
  cases shape l p (fu hg) with
  | hit A B w e hh k ha hb =>
    have hw:w≠0:=(ot hg ⟨p,w⟩ (by rw [e];simp)).2
    rw [at_eq (fu hg),e,k7 (fun x hx=>f9 (ha x hx))] at h
    exact absurd h hw
  | miss A B e hh k ha hb=>exact ⟨A,B,e,by rw [jQ e hh k,if_neg hi]⟩
theorem rm {l:List Held}{p:Place}{w:Int}(hg:Good l)(h:gI l p=w)(hw:w≠0):∃A B,l=A++⟨p,w⟩::B∧bO l p 0=A++B:=by
  cases shape l p (fu hg) with
  | hit A B w' e hh k ha hb =>
    rw [at_eq (fu hg),e,k7 (fun x hx=>f9 (ha x hx))] at h
    subst h
    exact ⟨A,B,e,by rw [kQ e hh k,if_pos rfl]⟩
  | miss A B e hh k ha hb =>
    rw [at_eq (fu hg),e,pn (fun x hx=>by
      rcases List.mem_append.1 hx with hx|hx
      · exact f9 (ha x hx)
      · exact fun e=>f9 (hb x hx) e.symm)] at h
    exact absurd h.symm hw
theorem pz {l:List Held}(f:Held→Bool)(hg:Good l):Good (l.filter f) :=
  kP ((fu hg).filter _) (fun x hx=>ot hg x (List.mem_filter.1 hx).1)
def cH (l:List Held)(j:Int):Nat:=l.countP (fun h=>h.ao==j)
def cN (l:List Note)(j:Int):Nat:=l.countP (fun n=>n.ao==j)
theorem oy {l:List Held}{p:Place}{id:Int}(hg:Good l)(h:gI l p=0)(hi:id≠0)(j:Int):cH (bO l p id) j=cH l j+(if id=j then 1 else 0):=by
  obtain ⟨A,B,e,e2⟩:=rl hg h hi
  rw [e2,e];unfold cH
  rw [List.countP_append,List.countP_append,List.countP_cons]
  by_cases hj:id=j
  · rw [if_pos (by simpa using hj),if_pos hj];omega
  · rw [if_neg (by simpa using hj),if_neg hj];omega
theorem vO {l:List Held}{p:Place}{w:Int}(hg:Good l)(h:gI l p=w)(hw:w≠0)(j:Int):cH l j=cH (bO l p 0) j+(if w=j then 1 else 0):=by
  obtain ⟨A,B,e,e2⟩:=rm hg h hw
  rw [e2,e];unfold cH
  rw [List.countP_append,List.countP_append,List.countP_cons]
  by_cases hj:w=j
  · rw [if_pos (by simpa using hj),if_pos hj];omega
  · rw [if_neg (by simpa using hj),if_neg hj];omega
theorem vP {l:List Note}{i:Nat}{n:Note}(h:l[i]? = some n)(j:Int):cN l j=cN (k4 l i) j+(if n.ao=j then 1 else 0):=by
  obtain ⟨hi,rfl⟩:=List.getElem?_eq_some_iff.1 h
  have e:l=l.take i++l[i]::l.drop (i+1):=by rw [← List.drop_eq_getElem_cons hi,List.take_append_drop]
  unfold k4 cN
  conv=>lhs;rw [e]
  rw [List.countP_append,List.countP_append,List.countP_cons]
  by_cases hj:(l[i]).ao=j
  · rw [if_pos (by simpa using hj),if_pos hj];omega
  · rw [if_neg (by simpa using hj),if_neg hj];omega
theorem ut {l:List Note}{i:Nat}{x:Note}(h:x∈k4 l i):x∈l:=by
  unfold k4 at h
  rcases List.mem_append.1 h with h|h
  · exact List.mem_of_mem_take h
  · exact List.mem_of_mem_drop h
theorem nJ {l:List Note}{i:Nat}(q:Int):dN (k4 l i) q≤dN l q:=by
  unfold k4 dN
  have h:(l.take i++l.drop (i+1)).Sublist l:=by
    have:=List.Sublist.append (List.Sublist.refl (l.take i)) (List.drop_sublist_drop_left l (Nat.le_succ i))
    rwa [List.take_append_drop] at this
  exact (h.filter _).length_le
theorem i7 {l:List ao}{id:Int}:0≤cb l id ↔ ∃x∈l,x.ID=id:=by
  constructor
  · intro h;obtain ⟨x,_,h2,h3⟩:=mC l id h;exact ⟨x,h3,h2⟩
  · rintro ⟨x,hx,rfl⟩;exact gL hx
theorem mU {l:List ao}(h:ct l){t:Int}:t∈aQ l ↔ ∃w∈l,w.ai=t:=by
  unfold aQ
  rw [nC h]
  show t∈dy l 999↔_
  rw [(jy l 999).2]
  simp only [hasT?,List.any_eq_true,beq_iff_eq]
  constructor
  · rintro ⟨_,_,w,hw,e⟩;exact ⟨w,hw,e⟩
  ·
    rintro ⟨w,hw,e⟩
    have:=h.mem hw
    have h1:=this.xZ;have h2:=this.x6
    exact ⟨by omega,by omega,w,hw,e⟩
structure Pre (r:ay):Prop where
  tree:ct r.ap
  good:Good r.Held
  kh:∀w∈r.ap,w.ID<r.ae
  mX:1≤r.ae
  oD:r.ae≤1000
  m8:1≤r.af
  nK:r.af≤1000
  fb:r.Things.Pairwise (fun a b=>a.ID<b.ID)
  mY:∀t∈r.Things,1≤t.ID∧t.ID<r.af
  fc:∀t∈r.Things,t.Kind=1∨t.Kind=2
  fe:∀t∈r.Things,t.Data.size≤8∧(t.Kind=2→t.Data=⟨#[]⟩)
  iu:r.Things.length≤10
  thing:∀w∈r.ap,∃t∈r.Things,t.ID=w.ai
  port:∀n∈r.Notes,∃t∈r.Things,t.ID=n.Port∧t.Kind=2
  fO:∀n∈r.Notes,n.Data.size≤8∧0≤n.ar∧n.ar≤99
  wait:∀q,dN r.Notes q≤3
  ff:∀n∈r.Notes,0≤n.ao
  once:∀w∈r.ap,cH r.Held w.ID+cN r.Notes w.ID=1
structure Inv (r:ay):Prop extends Pre r where
  eG:∀n∈r.Notes,0<n.ao → ∃w∈r.ap,w.ID=n.ao
  eB:∀h∈r.Held,∃w∈r.ap,w.ID=h.ao
  used:∀t∈r.Things,∃w∈r.ap,w.ai=t.ID
theorem Inv.new:Inv newR:=by
  refine { tree:=rfl,good:=kP List.Pairwise.nil (fun x hx=>by cases hx),kh:=?_,mX:=by decide,oD:=by decide,m8:=by decide,nK:=by decide,fb:=List.Pairwise.nil,mY:=?_,fc:=?_,fe:=?_,iu:=by decide,thing:=?_,port:=?_,fO:=?_,wait:=fun q=>by simp [dN,newR],ff:=?_,once:=?_,eG:=?_,eB:=?_,used:=?_ } <;> intro x hx <;> cases hx
theorem Pre.ri {r:ay}(h:Pre r):∀w∈r.ap,0≤w.Rights∧w.Rights≤7:=fun w hw=>⟨(h.tree.mem hw).vq,(h.tree.mem hw).vr⟩
theorem k9:∀ (ids:List Int) (l:List ao),ct l→ct (ids.foldl without l)
  | [],l,h=>h
  | i::ids,l,h=>k9 ids _ (h.wo i)
structure Like (y x:ao):Prop where
  id:y.ID=x.ID
  th:y.ai=x.ai
  ri:y.Rights=x.Rights
  ba:y.ar=x.ar
theorem Like.refl (x:ao):Like x x:=⟨rfl,rfl,rfl,rfl⟩
theorem Like.trans {x y z:ao}(h:Like x y)(k:Like y z):Like x z:=⟨h.id.trans k.id,h.th.trans k.th,h.ri.trans k.ri,h.ba.trans k.ba⟩
theorem Like.symm {x y:ao}(h:Like x y):Like y x:=⟨h.id.symm,h.th.symm,h.ri.symm,h.ba.symm⟩
theorem oz (id f:Int)(x:ao):Like (gR id f x) x:=by have:=f8 (id:=id) (f:=f) x;exact ⟨this.1,this.2.1,this.2.2.1,this.2.2.2⟩
theorem pA:∀ (ids:List Int) (l:List ao) (w:ao),w∈ids.foldl without l→(∃y∈l,Like w y)∧¬ w.ID∈ids
  | [],l,w,h=>⟨⟨w,h,Like.refl w⟩,fun h=>by cases h⟩
  | i::ids,l,w,h=>by
    obtain ⟨⟨y,hy,hl⟩,hn⟩:=pA ids (without l i) w h
    obtain ⟨z,hz,hne,rfl⟩:=ey.1 hy
    refine ⟨⟨z,hz,hl.trans (oz _ _ z)⟩,fun hm=>?_⟩
    rcases List.mem_cons.1 hm with e|hm
    · exact hne (by rw [← e,hl.id,(f8 z).1])
    · exact hn hm
theorem fw (ws:List ao)(n:Note):(fG ws n).Port=n.Port∧(fG ws n).Data=n.Data∧(fG ws n).ar=n.ar∧((fG ws n).ao=n.ao∧0≤cb ws n.ao∨(fG ws n).ao=0):=by
  unfold fG;split
  · exact ⟨rfl,rfl,rfl,.inr rfl⟩
  · exact ⟨rfl,rfl,rfl,.inl ⟨rfl,by omega⟩⟩
theorem pB {ws:List ao}{ts:List Int}{ns:List Note}{n:Note}:n∈ew ws ts ns ↔ ∃m∈ns,n=fG ws m∧m.Port∈ts:=by
  unfold ew
  rw [List.mem_filter,List.mem_map]
  constructor
  ·
    rintro ⟨⟨m,hm,rfl⟩,hp⟩
    exact ⟨m,hm,rfl,by have:=of_decide_eq_true hp;rwa [(fw ws m).1] at this⟩
  ·
    rintro ⟨m,hm,rfl,hp⟩
    exact ⟨⟨m,hm,rfl⟩,decide_eq_true (by rw [(fw ws m).1];exact hp)⟩
theorem tA {ws:List ao}{ts:List Int}{ns:List Note}{j:Int}:j∈eI ws ts ns ↔ ∃m∈ns,j=(fG ws m).ao∧¬ m.Port∈ts∧0<j:=by
  unfold eI
  rw [List.mem_map]
  constructor
  ·
    rintro ⟨n,hn,rfl⟩
    obtain ⟨h1,h2⟩:=List.mem_filter.1 hn
    obtain ⟨m,hm,rfl⟩:=List.mem_map.1 h1
    simp only [Bool.and_eq_true,Bool.not_eq_true',decide_eq_false_iff_not,decide_eq_true_eq] at h2
    exact ⟨m,hm,rfl,by rw [← (fw ws m).1];exact h2.1,h2.2⟩
  ·
    rintro ⟨m,hm,rfl,hp,h0⟩
    refine ⟨fG ws m,List.mem_filter.2 ⟨List.mem_map.2 ⟨m,hm,rfl⟩,?_⟩,rfl⟩
    simp only [Bool.and_eq_true,Bool.not_eq_true',decide_eq_false_iff_not,decide_eq_true_eq]
    exact ⟨by rw [(fw ws m).1];exact hp,h0⟩
theorem nL (ws:List ao)(ts:List Int)(m:Note)(ns:List Note):ew ws ts (m::ns)=if m.Port∈ts then fG ws m::ew ws ts ns else ew ws ts ns:=by
  unfold ew
  rw [List.map_cons,List.filter_cons,(fw ws m).1]
  by_cases h:m.Port∈ts
  · rw [if_pos (decide_eq_true h),if_pos h]
  · rw [if_neg (by simpa using h),if_neg h]
theorem mV {ws:List ao}{ts:List Int}{j:Int}(hj:0≤cb ws j)(h0:0<j):∀ (ns:List Note),(∀n∈ns,n.ao=j→n.Port∈ts)→cN (ew ws ts ns) j=cN ns j
  | [],_=>rfl
  | m::ns,hl=>by
    have ih:=mV hj h0 ns (fun n hn=>hl n (List.mem_cons_of_mem _ hn))
    have hf:=fw ws m
    rw [nL]
    unfold cN at ih ⊢
    by_cases e:m.ao=j
    ·
      have hfm:(fG ws m).ao=j:=by
        rcases hf.2.2.2 with ⟨h1,_⟩ | h1
        · omega
        · unfold fG at h1 ⊢;rw [if_neg (by rw [e];omega)];exact e
      rw [if_pos (hl m (List.mem_cons_self ..) e),List.countP_cons,List.countP_cons,if_pos (by simpa using hfm),if_pos (by simpa using e),ih]
    ·
      have hfm:¬ (fG ws m).ao=j:=by rcases hf.2.2.2 with ⟨h1,_⟩ | h1 <;> omega
      split
      · rw [List.countP_cons,List.countP_cons,if_neg (by simpa using hfm),if_neg (by simpa using e),ih]
      · rw [List.countP_cons,if_neg (by simpa using e),ih];rfl
theorem nM (ws:List ao)(ts:List Int)(q:Int):∀ (ns:List Note),dN (ew ws ts ns) q≤dN ns q
  | []=>Nat.le_refl _
  | m::ns=>by
    have ih:=nM ws ts q ns
    have hf:=fw ws m
    rw [nL]
    unfold dN at ih ⊢
    have e:(fG ws m).Port=m.Port:=hf.1
    split
    · rw [List.filter_cons,List.filter_cons,e];split <;> simp <;> omega
    · rw [List.filter_cons];split <;> simp <;> omega
def sw (r:ay)(ids:List Int):ay:=⟨ids.foldl without r.ap,(dY r).Things,(dY r).Held,(dY r).Notes,r.ae,r.af⟩
theorem jR {r:ay}{t:ai}:t∈(dY r).Things↔t∈r.Things∧t.ID∈aQ r.ap:=by
  show t∈r.Things.filter _↔_
  rw [List.mem_filter];simp
theorem uu {r:ay}{h:Held}:h∈(dY r).Held↔h∈r.Held ∧ ∃w∈r.ap,w.ID=h.ao:=by
  show h∈r.Held.filter _↔_
  rw [List.mem_filter,← i7];simp
theorem Pre.sw {r:ay}(h:Pre r){ids:List Int}(hl:∀j∈jc r,j∈ids):Pre (YtpipachmngdegaaGreat.sw r ids):=by
  have hsub:∀w∈ids.foldl without r.ap,(∃y∈r.ap,Like w y)∧¬ w.ID∈ids:=fun w hw=>pA ids r.ap w hw
  have nN:∀n∈(dY r).Notes,∃m∈r.Notes,n=fG r.ap m∧m.Port∈aQ r.ap:=fun n hn=>pB.1 hn
  refine { tree:=k9 ids _ h.tree,good:=pz _ h.good,kh:=?_,mX:=h.mX,oD:=h.oD,m8:=h.m8,nK:=h.nK,fb:=h.fb.filter _,mY:=fun t ht=>h.mY t (jR.1 ht).1,fc:=fun t ht=>h.fc t (jR.1 ht).1,fe:=fun t ht=>h.fe t (jR.1 ht).1,iu:=Nat.le_trans (List.length_filter_le _ _) h.iu,thing:=?_,port:=?_,fO:=?_,wait:=fun q=>Nat.le_trans (nM _ _ q _) (h.wait q),ff:=?_,once:=?_ }
  ·
    intro w hw
    obtain ⟨⟨y,hy,hk⟩,_⟩:=hsub w hw
    rw [hk.id];exact h.kh y hy
  ·
    intro w hw
    obtain ⟨⟨y,hy,hk⟩,_⟩:=hsub w hw
    obtain ⟨t,ht,e⟩:=h.thing y hy
    exact ⟨t,jR.2 ⟨ht,(mU h.tree).2 ⟨y,hy,e.symm⟩⟩,by rw [e,hk.th]⟩
  ·
    intro n hn
    obtain ⟨m,hm,rfl,hp⟩:=nN n hn
    obtain ⟨t,ht,e,hk⟩:=h.port m hm
    exact ⟨t,jR.2 ⟨ht,by rw [e];exact hp⟩,by rw [(fw _ m).1];exact e,hk⟩
  ·
    intro n hn
    obtain ⟨m,hm,rfl,hp⟩:=nN n hn
    rw [(fw _ m).2.1,(fw _ m).2.2.1];exact h.fO m hm
  ·
    intro n hn
    obtain ⟨m,hm,rfl,hp⟩:=nN n hn
    have:=h.ff m hm
    rcases (fw r.ap m).2.2.2 with ⟨e,_⟩ | e <;> omega
  ·
    intro w hw
    obtain ⟨⟨y,hy,hk⟩,hn⟩:=hsub w hw
    have zA:0≤cb r.ap w.ID:=i7.2 ⟨y,hy,hk.id.symm⟩
    have h0:0<w.ID:=by have:=(h.tree.mem hy).id1;rw [hk.id];omega
    have h1:cH (dY r).Held w.ID=cH r.Held w.ID:=by
      show List.countP _ (r.Held.filter _)=List.countP _ r.Held
      rw [List.countP_filter]
      refine List.countP_congr fun x _=>?_
      simp only [Bool.and_eq_true,beq_iff_eq,Bool.not_eq_true',decide_eq_false_iff_not]
      exact ⟨fun h=>h.1,fun e=>⟨e,by rw [e];omega⟩⟩
    have h2:cN (dY r).Notes w.ID=cN r.Notes w.ID:=mV zA h0 r.Notes (fun n hnn e=>by
      by_cases hp:n.Port∈aQ r.ap
      · exact hp
      ·
        refine absurd (hl w.ID (tA.2 ⟨n,hnn,?_,hp,h0⟩)) hn
        rw [fG,if_neg (by rw [e];omega)];exact e.symm)
    show cH (dY r).Held w.ID+cN (dY r).Notes w.ID=1
    rw [h1,h2,hk.id];exact h.once y hy
theorem qn {r:ay}(h:Pre r)(hl:(jc r).length=0):Inv (dY r):=by
  have h1:Pre (dY r):=h.sw (ids:=[]) (fun j hj=>by rw [List.length_eq_zero_iff.1 hl] at hj;exact hj)
  refine { toPre:=h1,eG:=?_,eB:=fun x hx=>(uu.1 hx).2,used:=fun t ht=>(mU h.tree).1 (jR.1 ht).2 }
  intro n hn h0
  obtain ⟨m,hm,rfl,hp⟩:=pB.1 hn
  rcases (fw r.ap m).2.2.2 with ⟨e,hf⟩ | e
  · rw [e];exact i7.1 hf
  · omega
theorem lC:∀ (n:Nat) (r:ay),r.Notes.length<n→Pre r→Inv (fN n r)
  | 0,r,h,_=>by omega
  | n+1,r,h,hp=>by
    unfold fN;split
    · exact qn hp (by assumption)
    ·
      have:=i1 (r:=r) (by assumption)
      exact lC n _ (by omega) (hp.sw (ids:=jc r) (fun j hj=>hj))
theorem nO {r:ay}(h:Pre r):Inv (aP r):=lC _ r (Nat.lt_succ_self _) h
end Go.Proofs.YtpipachmngdegaaGreat
end
