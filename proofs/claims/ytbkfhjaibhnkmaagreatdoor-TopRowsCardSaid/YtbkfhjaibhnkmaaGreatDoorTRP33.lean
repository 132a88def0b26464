import Derived.Test.YtbkfhjaibhnkmaaGreatDoorTRP32
namespace Go.Proofs.YtbkfhjaibhnkmaaGreatDoor
set_option linter.unusedVariables false
theorem lO {r:au}{p:Place}(h:eE r p=0):aW p=0∧hY r.Held p=0:=by
  unfold eE at h
  by_cases h1:aW p=0
  ·
    rw [if_pos h1] at h
    by_cases h2:hY r.Held p=0
    · exact ⟨h1,h2⟩
    · rw [if_neg h2] at h;omega
  · rw [if_neg h1] at h;exact absurd h h1
theorem lq {l:List Held}{p:Place}{id:Int}(hg:Good l)(h:hY l p=0)(hi:id≠0){x:Held}:x∈ck l p id↔x=⟨p,id⟩∨x∈l:=by
  obtain ⟨A,B,e,e2⟩:=sL hg h hi
  rw [e2,e];simp only [List.mem_append,List.mem_cons];constructor <;> (rintro (h|h|h) <;> simp [h])
theorem vz {l:List Held}{p:Place}{w:Int}(hg:Good l)(h:hY l p=w)(hw:w≠0){x:Held}(hx:x∈ck l p 0):x∈l:=by
  obtain ⟨A,B,e,e2⟩:=sM hg h hw
  rw [e2] at hx;rw [e];simp only [List.mem_append,List.mem_cons] at hx ⊢;rcases hx with h|h <;> simp [h]
section
variable {r:au}
theorem Inv.get (h:Inv r){p:Place}(hg:(ap r p).2=0):aW p=0∧(ap r p).1∈r.aj∧(ap r p).1.ID=hY r.Held p∧1≤(ap r p).1.ID∧(ap r p).1.ID<r.ae:=by
  obtain ⟨h1,h2,h3⟩:=oF hg
  exact ⟨h1,h2,h3,(h.tree.mem h2).id1,h.kF _ h2⟩
theorem Inv.fresh (h:Inv r):cH r.Held r.ae=0∧cN r.Notes r.ae=0:=by
  constructor
  ·
    refine List.countP_eq_zero.2 fun x hx=>?_
    obtain ⟨w,hw,e⟩:=h.dk x hx
    have:=h.kF w hw
    simp;omega
  ·
    refine List.countP_eq_zero.2 fun x hx=>?_
    have h0:=h.ff x hx;have h1:=h.jk
    by_cases hp:0<x.ak
    ·
      obtain ⟨w,hw,e⟩:=h.eK x hx hp
      have:=h.kF w hw
      simp;omega
    · simp;omega
theorem oL {l:List ak}{w:ak}(h:bQ l)(hw:bB w=0)(hlt:∀y∈l,y.ID<w.ID)(hm:w.From≠0 → ∃y∈l,Made y w):bQ (l++[w]):=by
  have hi:=h.is
  refine lG.ok' ⟨fun x hx=>?_,List.pairwise_append.2 ⟨hi.rise,by simp,fun a ha b hb=>by simp at hb;subst hb;exact hlt a ha⟩,fun x hx h0=>?_⟩
  ·
    rcases List.mem_append.1 hx with hx|hx
    · exact hi.ok x hx
    · rw [List.mem_singleton.1 hx];exact hw
  ·
    rcases List.mem_append.1 hx with hx|hx
    ·
      obtain ⟨y,hy,hmd⟩:=hi.made x hx h0
      exact ⟨y,List.mem_append.2 (.inl hy),hmd⟩
    ·
      have e:=List.mem_singleton.1 hx
      subst e
      obtain ⟨y,hy,hmd⟩:=hm h0
      exact ⟨y,List.mem_append.2 (.inl hy),hmd⟩
theorem rA {p:Place}{kind:Int}(h:(bg r p kind).2=0):(kind=1∨kind=2)∧eE r p=0∧r.Things.length≠10∧r.af≤999∧r.ae≤999 ∧
    (0<p.ag→(bg r p kind).1=⟨r.aj++[⟨r.ae,r.af,7,0,0⟩],r.Things++[⟨r.af,kind,⟨#[]⟩⟩],ck r.Held p r.ae,r.Notes,r.ae+1,r.af+1⟩):=by
  unfold bg at h ⊢
  by_cases h1:kind=1∨kind=2
  ·
    rw [if_pos h1] at h ⊢
    by_cases h2:eE r p=0
    ·
      rw [if_pos h2] at h ⊢
      by_cases h3:r.Things.length=10∨999<r.af∨999<r.ae
      · rw [if_pos h3] at h;simp at h
      ·
        rw [if_neg h3]
        refine ⟨h1,h2,by omega,by omega,by omega,fun hp=>?_⟩
        unfold aQ;dsimp only;rw [if_pos hp]
    · rw [if_neg h2] at h;exact absurd h h2
  · rw [if_neg h1] at h;simp at h
theorem Inv.make (h:Inv r){p:Place}{kind:Int}(hm:(bg r p kind).2=0):Inv (bg r p kind).1:=by
  obtain ⟨hk,hf,hl,ht,hw,he⟩:=rA hm
  obtain ⟨hp,ha⟩:=lO hf
  have hpl:=bS hp
  rw [he (by omega)]
  have n1:=h.jk;have n2:=h.jo;have hfr:=h.fresh;have hmax:=h.fj
  have hi:r.ae≠0:=by omega
  have BM:=iF (id:=r.ae) h.good hp
  refine { tree:=oL h.tree (iV (by dsimp only;omega)) (fun y hy=>h.kF y hy) (fun h0=>absurd rfl h0),good:=BM,kF:=?_,jk:=by show 1≤r.ae+1;omega,j4:=by show r.ae+1≤1000;omega,jo:=by show 1≤r.af+1;omega,jq:=by show r.af+1≤1000;omega,e8:=List.pairwise_append.2 ⟨h.e8,by simp,fun a ha b hb=>by simp at hb;subst hb;exact (h.mJ a ha).2⟩,mJ:=?_,fc:=?_,fe:=?_,fj:=by show (r.Things++[_]).length≤10;simp;omega,thing:=?_,port:=?_,fP:=h.fP,wait:=h.wait,ff:=h.ff,once:=?_,eK:=?_,dk:=?_,used:=?_ }
  ·
    intro w hw
    show w.ID<r.ae+1
    rcases List.mem_append.1 hw with hw|hw
    · have:=h.kF w hw;omega
    · rw [List.mem_singleton.1 hw];show r.ae<_;omega
  ·
    intro t ht
    show 1≤t.ID∧t.ID<r.af+1
    rcases List.mem_append.1 ht with ht|ht
    · have:=h.mJ t ht;omega
    · rw [List.mem_singleton.1 ht];show 1≤r.af∧r.af<_;omega
  ·
    intro t ht
    rcases List.mem_append.1 ht with ht|ht
    · exact h.fc t ht
    · rw [List.mem_singleton.1 ht];exact hk
  ·
    intro t ht
    rcases List.mem_append.1 ht with ht|ht
    · exact h.fe t ht
    · rw [List.mem_singleton.1 ht];exact ⟨by show (0:Nat)≤8;decide,fun _=>rfl⟩
  ·
    intro w hw
    rcases List.mem_append.1 hw with hw|hw
    ·
      obtain ⟨t,ht,e⟩:=h.thing w hw
      exact ⟨t,List.mem_append.2 (.inl ht),e⟩
    · rw [List.mem_singleton.1 hw];exact ⟨_,List.mem_append.2 (.inr (List.mem_singleton.2 rfl)),rfl⟩
  ·
    intro n hn
    obtain ⟨t,ht,e⟩:=h.port n hn
    exact ⟨t,List.mem_append.2 (.inl ht),e⟩
  ·
    intro w hw
    show cH (ck r.Held p r.ae) w.ID+cN r.Notes w.ID=1
    rw [pn h.good ha hi]
    rcases List.mem_append.1 hw with hw|hw
    ·
      have:=h.kF w hw;have:=h.once w hw
      rw [if_neg (by omega)];omega
    ·
      rw [List.mem_singleton.1 hw];show cH r.Held r.ae+(if r.ae=r.ae then 1 else 0)+cN r.Notes r.ae=1
      rw [if_pos rfl];omega
  ·
    intro n hn h0
    obtain ⟨w,hw,e⟩:=h.eK n hn h0
    exact ⟨w,List.mem_append.2 (.inl hw),e⟩
  ·
    intro x hx
    rcases (lq h.good ha hi).1 hx with e|hx
    · rw [e];exact ⟨_,List.mem_append.2 (.inr (List.mem_singleton.2 rfl)),rfl⟩
    ·
      obtain ⟨w,hw,e⟩:=h.dk x hx
      exact ⟨w,List.mem_append.2 (.inl hw),e⟩
  ·
    intro t ht
    rcases List.mem_append.1 ht with ht|ht
    ·
      obtain ⟨w,hw,e⟩:=h.used t ht
      exact ⟨w,List.mem_append.2 (.inl hw),e⟩
    · rw [List.mem_singleton.1 ht];exact ⟨_,List.mem_append.2 (.inr (List.mem_singleton.2 rfl)),rfl⟩
theorem rC {p t:Place}{a b:Int}(h:(bV r p t a b).2=0):(ap r p).2=0∧eE r t=0∧(p.ag=t.ag∨eY (ap r p).1.Rights 4=true)∧r.ae≤999∧(derived (ap r p).1 r.ae a b).2=0 ∧
    (0<t.ag→(bV r p t a b).1=⟨r.aj++[(derived (ap r p).1 r.ae a b).1],r.Things,ck r.Held t (derived (ap r p).1 r.ae a b).1.ID,r.Notes,r.ae+1,r.af⟩):=by
  unfold bV at h ⊢
  by_cases h1:(ap r p).2=0
  ·
    rw [if_pos h1] at h ⊢
    by_cases h2:eE r t=0
    ·
      rw [if_pos h2] at h ⊢
      by_cases h3:p.ag=t.ag∨eY (ap r p).1.Rights 4=true
      ·
        rw [if_pos h3] at h ⊢
        by_cases h4:999<r.ae
        · rw [if_pos h4] at h;simp at h
        ·
          rw [if_neg h4] at h ⊢
          by_cases h5:(derived (ap r p).1 r.ae a b).2=0
          ·
            rw [if_pos h5]
            refine ⟨h1,h2,h3,by omega,h5,fun hp=>?_⟩
            unfold aQ;dsimp only;rw [if_pos hp]
          · rw [if_neg h5] at h;exact absurd h h5
      · rw [if_neg h3] at h;simp at h
    · rw [if_neg h2] at h;exact absurd h h2
  · rw [if_neg h1] at h;exact absurd h h1
theorem Inv.derive (h:Inv r){g:ak}(hg:g∈r.aj){a b:Int}(hn:r.ae≤999)(hd:(derived g r.ae a b).2=0):bQ (r.aj++[(derived g r.ae a b).1])∧(derived g r.ae a b).1.ID=r.ae∧(derived g r.ae a b).1.ai=g.ai∧(derived g r.ae a b).1.Rights=a∧(derived g r.ae a b).1.From=g.ID∧eY g.Rights a=true∧0≤a∧a≤7:=by
  obtain ⟨a0,a7,b0,b9,hh,e,hb⟩:=lh hd
  have w:=h.tree.mem hg
  have w1:=w.id1;have w2:=w.yH;have w3:=w.yI;have w4:=w.yJ;have w5:=w.yK;have w6:=h.kF g hg
  rw [e]
  refine ⟨oL h.tree (iV ⟨by show 1≤r.ae;omega,hn,w2,w3,?_,?_,by show 0≤g.ID;omega,w6,a0,a7⟩) (fun y hy=>h.kF y hy) (fun _=>⟨g,hg,rfl,hh,?_,rfl⟩),rfl,rfl,rfl,rfl,hh,a0,a7⟩
  · show 0≤(if b=0 then g.ar else b);split <;> omega
  · show (if b=0 then g.ar else b)≤99;split <;> omega
  ·
    show g.ar=0∨(if b=0 then g.ar else b)=g.ar
    split <;> omega
theorem Inv.give (h:Inv r){p t:Place}{a b:Int}(hm:(bV r p t a b).2=0):Inv (bV r p t a b).1:=by
  obtain ⟨hg,hf,hr,hw,hd,he⟩:=rC hm
  obtain ⟨hp,ha⟩:=lO hf
  have hpl:=bS hp
  obtain ⟨_,hgm,_⟩:=h.get hg
  obtain ⟨vA,hid,hth,_⟩:=h.derive hgm hw hd
  rw [he (by omega),hid]
  generalize hx:(derived (ap r p).1 r.ae a b).1=x at *
  have n1:=h.jk;have hfr:=h.fresh
  have hi:r.ae≠0:=by omega
  have BM:=iF (id:=r.ae) h.good hp
  refine { tree:=vA,good:=BM,kF:=?_,jk:=by show 1≤r.ae+1;omega,j4:=by show r.ae+1≤1000;omega,jo:=h.jo,jq:=h.jq,e8:=h.e8,mJ:=h.mJ,fc:=h.fc,fe:=h.fe,fj:=h.fj,thing:=?_,port:=h.port,fP:=h.fP,wait:=h.wait,ff:=h.ff,once:=?_,eK:=?_,dk:=?_,used:=?_ }
  ·
    intro w hw
    show w.ID<r.ae+1
    rcases List.mem_append.1 hw with hw|hw
    · have:=h.kF w hw;omega
    · rw [List.mem_singleton.1 hw,hid];omega
  ·
    intro w hw
    rcases List.mem_append.1 hw with hw|hw
    · exact h.thing w hw
    · rw [List.mem_singleton.1 hw,hth];exact h.thing _ hgm
  ·
    intro w hw
    show cH (ck r.Held t r.ae) w.ID+cN r.Notes w.ID=1
    rw [pn h.good ha hi]
    rcases List.mem_append.1 hw with hw|hw
    ·
      have:=h.kF w hw;have:=h.once w hw
      rw [if_neg (by omega)];omega
    · rw [List.mem_singleton.1 hw,hid,if_pos rfl];omega
  ·
    intro n hn h0
    obtain ⟨w,hw,e⟩:=h.eK n hn h0
    exact ⟨w,List.mem_append.2 (.inl hw),e⟩
  ·
    intro y hy
    rcases (lq h.good ha hi).1 hy with e|hy
    · rw [e];exact ⟨x,List.mem_append.2 (.inr (List.mem_singleton.2 rfl)),hid⟩
    ·
      obtain ⟨w,hw,e⟩:=h.dk y hy
      exact ⟨w,List.mem_append.2 (.inl hw),e⟩
  ·
    intro t ht
    obtain ⟨w,hw,e⟩:=h.used t ht
    exact ⟨w,List.mem_append.2 (.inl hw),e⟩
theorem rD {p:Place}{s:Int}(h:(di r p s).2=0):(ap r p).2=0∧eE r ⟨p.ag,s⟩=0∧(di r p s).1=⟨r.aj,r.Things,ck (ck r.Held p 0) ⟨p.ag,s⟩ (ap r p).1.ID,r.Notes,r.ae,r.af⟩:=by
  unfold di at h ⊢
  by_cases h1:(ap r p).2=0
  ·
    rw [if_pos h1] at h ⊢
    by_cases h2:eE r ⟨p.ag,s⟩=0
    · rw [if_pos h2];exact ⟨h1,h2,rfl⟩
    · rw [if_neg h2] at h;exact absurd h h2
  · rw [if_neg h1] at h;exact absurd h h1
theorem Inv.held (h:Inv r){m:List Held}(hg:Good m)(hc:∀w∈r.aj,cH m w.ID=cH r.Held w.ID)(hs:∀x∈m,∃w∈r.aj,w.ID=x.ak):Inv ⟨r.aj,r.Things,m,r.Notes,r.ae,r.af⟩ :=
  { tree:=h.tree,good:=hg,kF:=h.kF,jk:=h.jk,j4:=h.j4,jo:=h.jo,jq:=h.jq,e8:=h.e8,mJ:=h.mJ,fc:=h.fc,fe:=h.fe,fj:=h.fj,thing:=h.thing,port:=h.port,fP:=h.fP,wait:=h.wait,ff:=h.ff,once:=fun w hw=>by show cH m w.ID+_=1;rw [hc w hw];exact h.once w hw,eK:=h.eK,dk:=hs,used:=h.used }
theorem Inv.move (h:Inv r){p:Place}{s:Int}(hm:(di r p s).2=0):Inv (di r p s).1:=by
  obtain ⟨hg,hf,he⟩:=rD hm
  obtain ⟨hp,ha⟩:=lO hf
  obtain ⟨hpf,hgm,hat,h1,_⟩:=h.get hg
  rw [he]
  have hi:(ap r p).1.ID≠0:=by omega
  have hg1:Good (ck r.Held p 0):=iF h.good hpf
  have hne:¬ (⟨p.ag,s⟩:Place)=p:=fun e=>by rw [e] at ha;omega
  have ha1:hY (ck r.Held p 0) ⟨p.ag,s⟩=0:=by rw [tK h.good hpf hne];exact ha
  refine h.held (iF hg1 hp) (fun w hw=>?_) (fun x hx=>?_)
  · rw [pn hg1 ha1 hi,← yX h.good hat.symm hi]
  ·
    rcases (lq hg1 ha1 hi).1 hx with e|hx
    · rw [e];exact ⟨_,hgm,rfl⟩
    · exact h.dk x (vz h.good hat.symm hi hx)
theorem Pre.l8 (h:Pre r){l:List ak}(ht:bQ l)(hs:∀v∈l,∃w∈r.aj,Like v w):Pre ⟨l,r.Things,r.Held,r.Notes,r.ae,r.af⟩ :=
  { tree:=ht,good:=h.good,kF:=fun v hv=>by obtain ⟨w,hw,k⟩:=hs v hv;rw [k.id];exact h.kF w hw,jk:=h.jk,j4:=h.j4,jo:=h.jo,jq:=h.jq,e8:=h.e8,mJ:=h.mJ,fc:=h.fc,fe:=h.fe,fj:=h.fj,thing:=fun v hv=>by obtain ⟨w,hw,k⟩:=hs v hv;rw [k.th];exact h.thing w hw,port:=h.port,fP:=h.fP,wait:=h.wait,ff:=h.ff,once:=fun v hv=>by obtain ⟨w,hw,k⟩:=hs v hv;rw [k.id];exact h.once w hw }
theorem Pre.wo (h:Pre r)(id:Int):Pre ⟨without r.aj id,r.Things,r.Held,r.Notes,r.ae,r.af⟩ :=
  h.l8 (h.tree.wo id) (fun v hv=>by obtain ⟨y,hy,_,rfl⟩:=ei.1 hv;exact ⟨y,hy,mK _ _ y⟩)
theorem lr {l:List ak}{id:Int}{x:ak}:x∈qW l id↔x∈l∧¬ x.ID∈dv id l:=by
  unfold qW;rw [List.mem_filter];simp
theorem vB {l:List ak}(h:bQ l){id:Int}{x y:ak}(hi:0≤bC l id)(hx:x∈l)(hy:y∈l)(e:y.ID=x.From)(hb:y.ID∈dv id l):x.ID∈dv id l:=by
  have h1:=gG hx;have h2:=gG hy
  rw [oD h hi h1]
  rw [oD h hi h2] at hb
  unfold above at hb ⊢
  obtain ⟨x',_,e1,hx',e2⟩:=iA h1
  have:x'=x:=h.inj hx' hx e1
  subst this
  rw [e2,← e,ky h h2]
  exact List.mem_cons_of_mem _ hb
theorem bQ.cut {l:List ak}(h:bQ l){id:Int}(hi:0≤bC l id):bQ (qW l id):=by
  have hs:=h.is
  refine lG.ok' ⟨fun x hx=>hs.ok x (lr.1 hx).1,hs.rise.filter _,fun x hx h0=>?_⟩
  obtain ⟨h1,h2⟩:=lr.1 hx
  obtain ⟨y,hy,hm⟩:=hs.made x h1 h0
  exact ⟨y,lr.2 ⟨hy,fun hb=>h2 (vB h hi h1 hy hm.vd hb)⟩,hm⟩
theorem Pre.cut (h:Pre r){id:Int}(hi:0≤bC r.aj id):Pre ⟨qW r.aj id,r.Things,r.Held,r.Notes,r.ae,r.af⟩ :=
  h.l8 (h.tree.cut hi) (fun v hv=>⟨v,(lr.1 hv).1,Like.refl v⟩)
theorem rF {p:Place}(h:(dy r p).2=0):(ap r p).2=0∧(dy r p).1=a8 ⟨without r.aj (ap r p).1.ID,r.Things,r.Held,r.Notes,r.ae,r.af⟩:=by
  unfold dy at h ⊢
  by_cases h1:(ap r p).2=0
  · rw [if_pos h1];exact ⟨h1,rfl⟩
  · rw [if_neg h1] at h;exact absurd h h1
theorem po {p:Place}(h:(bN r p).2=0):(ap r p).2=0∧(bN r p).1=a8 ⟨qW r.aj (ap r p).1.ID,r.Things,r.Held,r.Notes,r.ae,r.af⟩:=by
  unfold bN at h ⊢
  by_cases h1:(ap r p).2=0
  · rw [if_pos h1];exact ⟨h1,rfl⟩
  · rw [if_neg h1] at h;exact absurd h h1
theorem Inv.drop (h:Inv r){p:Place}(hm:(dy r p).2=0):Inv (dy r p).1:=by
  rw [(rF hm).2];exact lN (h.toPre.wo _)
theorem Inv.za (h:Inv r){p:Place}(hm:(bN r p).2=0):Inv (bN r p).1:=by
  obtain ⟨hg,he⟩:=po hm
  rw [he];exact lN (h.toPre.cut (gG (h.get hg).2.1))
theorem mem_set {l:List ai}{i:Nat}{d:ByteArray}{x:ai}(h:x∈ey l i d):∃ (k:Nat) (t:ai),l[k]? = some t∧x.ID=t.ID∧x.Kind=t.Kind∧(x.Data=t.Data∨k=i∧x.Data=d):=by
  unfold ey at h
  split at h
  ·
    rename_i t ht
    obtain ⟨k,hk⟩:=List.mem_iff_getElem?.1 h
    rw [List.getElem?_set] at hk
    split at hk
    ·
      rename_i e;subst e
      split at hk
      · injection hk with hk;subst hk;exact ⟨_,t,ht,rfl,rfl,.inr ⟨rfl,rfl⟩⟩
      · cases hk
    · exact ⟨k,x,hk,rfl,rfl,.inl rfl⟩
  ·
    obtain ⟨k,hk⟩:=List.mem_iff_getElem?.1 h
    exact ⟨k,x,hk,rfl,rfl,.inl rfl⟩
theorem sN {l:List ai}{i:Nat}{d:ByteArray}{t:ai}(h:t∈l):∃x∈ey l i d,x.ID=t.ID∧x.Kind=t.Kind:=by
  unfold ey
  split
  ·
    rename_i y hy
    obtain ⟨k,hk⟩:=List.mem_iff_getElem?.1 h
    by_cases e:i=k
    ·
      subst e;rw [hk] at hy;injection hy with hy;subst hy
      exact ⟨_,List.mem_set (by have:=(List.getElem?_eq_some_iff.1 hk).1;exact this) _,rfl,rfl⟩
    · exact ⟨t,List.mem_of_getElem? (i:=k) (by rw [List.getElem?_set,if_neg e];exact hk),rfl,rfl⟩
  · exact ⟨t,h,rfl,rfl⟩
theorem xg (l:List ai)(i:Nat)(d:ByteArray):(ey l i d).map ai.ID=l.map ai.ID:=by
  unfold ey
  split
  ·
    rename_i t ht
    rw [List.map_set]
    apply List.ext_getElem?
    intro k
    rw [List.getElem?_set]
    split
    ·
      rename_i e;subst e;rw [List.getElem?_map,ht]
      split
      · rfl
      · rename_i hk;exfalso;apply hk;have:=(List.getElem?_eq_some_iff.1 ht).1;simpa using this
    · rfl
  · rfl
theorem qn {p:Place}{d:ByteArray}(h:(bU r p d).2=0):(ay r p 1 2).2.2=0∧d.size≤8∧(bU r p d).1=⟨r.aj,ey r.Things (ay r p 1 2).2.1.toNat d,r.Held,r.Notes,r.ae,r.af⟩:=by
  unfold bU at h ⊢
  by_cases h1:(ay r p 1 2).2.2=0
  ·
    rw [if_pos h1] at h ⊢
    by_cases h2:8<d.size
    · rw [if_pos h2] at h;simp at h
    · rw [if_neg h2];exact ⟨h1,by omega,rfl⟩
  · rw [if_neg h1] at h;exact absurd h h1
theorem Inv.write (h:Inv r){p:Place}{d:ByteArray}(hm:(bU r p d).2=0):Inv (bU r p d).1:=by
  obtain ⟨hy,hd,he⟩:=qn hm
  obtain ⟨_,_,_,k,t,hk,ht,CJ,htk,_⟩:=jX hy
  rw [he,hk,Int.toNat_natCast]
  have BN:=xg r.Things k d
  have hin:∀x∈ey r.Things k d,∃y∈r.Things,x.ID=y.ID∧x.Kind=y.Kind:=fun x hx=>by
    obtain ⟨j,y,hj,a,b,_⟩:=mem_set hx;exact ⟨y,List.mem_of_getElem? hj,a,b⟩
  refine { tree:=h.tree,good:=h.good,kF:=h.kF,jk:=h.jk,j4:=h.j4,jo:=h.jo,jq:=h.jq,e8:=?_,mJ:=?_,fc:=?_,fe:=?_,fj:=by show (ey _ _ _).length≤10;rw [mb];exact h.fj,thing:=?_,port:=?_,fP:=h.fP,wait:=h.wait,ff:=h.ff,once:=h.once,eK:=h.eK,dk:=h.dk,used:=?_ }
  ·
    have h1:(r.Things.map ai.ID).Pairwise (· < ·):=List.pairwise_map.2 h.e8
    show (ey r.Things k d).Pairwise _
    rw [← BN] at h1
    exact List.pairwise_map.1 h1
  · intro x hx;obtain ⟨y,hy,a,b⟩:=hin x hx;show 1≤x.ID∧x.ID<r.af;rw [a];exact h.mJ y hy
  · intro x hx;obtain ⟨y,hy,a,b⟩:=hin x hx;rw [b];exact h.fc y hy
  ·
    intro x hx
    obtain ⟨j,y,hj,a,b,c⟩:=mem_set hx
    have:=h.fe y (List.mem_of_getElem? hj)
    rcases c with c|⟨c,c2⟩
    · rw [c,b];exact this
    ·
      subst c;rw [ht] at hj;injection hj with hj;subst hj
      rw [c2];exact ⟨hd,fun h2=>by rw [b,htk] at h2;omega⟩
  ·
    intro w hw
    obtain ⟨t',ht',e⟩:=h.thing w hw
    obtain ⟨x,hx,a,_⟩:=sN (i:=k) (d:=d) ht'
    exact ⟨x,hx,by rw [a,e]⟩
  ·
    intro n hn
    obtain ⟨t',ht',e,e2⟩:=h.port n hn
    obtain ⟨x,hx,a,b⟩:=sN (i:=k) (d:=d) ht'
    exact ⟨x,hx,by rw [a,e],by rw [b,e2]⟩
  · intro x hx;obtain ⟨y,hy,a,b⟩:=hin x hx;rw [a];exact h.used y hy
end
end Go.Proofs.YtbkfhjaibhnkmaaGreatDoor
