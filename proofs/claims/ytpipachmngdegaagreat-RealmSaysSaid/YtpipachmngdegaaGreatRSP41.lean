import Derived.Test.YtpipachmngdegaaGreatRSP40
section
namespace Go.Proofs.YtpipachmngdegaaGreat
set_option linter.unusedVariables false
theorem fV {r:ay}{p:Place}(h:cY r p=0):bH p=0∧gI r.Held p=0:=by
  unfold cY at h
  by_cases h1:bH p=0
  ·
    rw [if_pos h1] at h
    by_cases h2:gI r.Held p=0
    · exact ⟨h1,h2⟩
    · rw [if_neg h2] at h;omega
  · rw [if_neg h1] at h;exact absurd h h1
theorem kR {l:List Held}{p:Place}{id:Int}(hg:Good l)(h:gI l p=0)(hi:id≠0){x:Held}:x∈bO l p id↔x=⟨p,id⟩∨x∈l:=by
  obtain ⟨A,B,e,e2⟩:=rl hg h hi
  rw [e2,e];simp only [List.mem_append,List.mem_cons];constructor <;> (rintro (h|h|h) <;> simp [h])
theorem tC {l:List Held}{p:Place}{w:Int}(hg:Good l)(h:gI l p=w)(hw:w≠0){x:Held}(hx:x∈bO l p 0):x∈l:=by
  obtain ⟨A,B,e,e2⟩:=rm hg h hw
  rw [e2] at hx;rw [e];simp only [List.mem_append,List.mem_cons] at hx ⊢;rcases hx with h|h <;> simp [h]
section
variable {r:ay}
theorem Inv.get (h:Inv r){p:Place}(hg:(ak r p).2=0):bH p=0∧(ak r p).1∈r.ap∧(ak r p).1.ID=gI r.Held p∧1≤(ak r p).1.ID∧(ak r p).1.ID<r.ae:=by
  obtain ⟨h1,h2,h3⟩:=jN hg
  exact ⟨h1,h2,h3,(h.tree.mem h2).id1,h.kh _ h2⟩
theorem Inv.fresh (h:Inv r):cH r.Held r.ae=0∧cN r.Notes r.ae=0:=by
  constructor
  ·
    refine List.countP_eq_zero.2 fun x hx=>?_
    obtain ⟨w,hw,e⟩:=h.eB x hx
    have:=h.kh w hw
    simp;omega
  ·
    refine List.countP_eq_zero.2 fun x hx=>?_
    have h0:=h.ff x hx;have h1:=h.mX
    by_cases hp:0<x.ao
    ·
      obtain ⟨w,hw,e⟩:=h.eG x hx hp
      have:=h.kh w hw
      simp;omega
    · simp;omega
theorem nP {l:List ao}{w:ao}(h:ct l)(hw:cK w=0)(hlt:∀y∈l,y.ID<w.ID)(hm:w.From≠0 → ∃y∈l,Made y w):ct (l++[w]):=by
  have hi:=h.is
  refine k0.ok' ⟨fun x hx=>?_,List.pairwise_append.2 ⟨hi.rise,by simp,fun a ha b hb=>by simp at hb;subst hb;exact hlt a ha⟩,fun x hx h0=>?_⟩
  ·
    rcases List.mem_append.1 hx with hx|hx
    · exact hi.ok x hx
    · rw [List.mem_singleton.1 hx];exact hw
  ·
    rcases List.mem_append.1 hx with hx|hx
    ·
      obtain ⟨y,hy,hmd⟩:=hi.made x hx h0
      exact ⟨y,List.mem_append.2 (.inl hy),hmd⟩
    ·
      have e:=List.mem_singleton.1 hx
      subst e
      obtain ⟨y,hy,hmd⟩:=hm h0
      exact ⟨y,List.mem_append.2 (.inl hy),hmd⟩
theorem qo {p:Place}{kind:Int}(h:(aU r p kind).2=0):(kind=1∨kind=2)∧cY r p=0∧r.Things.length≠10∧r.af≤999∧r.ae≤999 ∧
    (0<p.ag→(aU r p kind).1=⟨r.ap++[⟨r.ae,r.af,7,0,0⟩],r.Things++[⟨r.af,kind,⟨#[]⟩⟩],bO r.Held p r.ae,r.Notes,r.ae+1,r.af+1⟩):=by
  unfold aU at h ⊢
  by_cases h1:kind=1∨kind=2
  ·
    rw [if_pos h1] at h ⊢
    by_cases h2:cY r p=0
    ·
      rw [if_pos h2] at h ⊢
      by_cases h3:r.Things.length=10∨999<r.af∨999<r.ae
      · rw [if_pos h3] at h;simp at h
      ·
        rw [if_neg h3]
        refine ⟨h1,h2,by omega,by omega,by omega,fun hp=>?_⟩
        unfold aW;dsimp only;rw [if_pos hp]
    · rw [if_neg h2] at h;exact absurd h h2
  · rw [if_neg h1] at h;simp at h
theorem Inv.make (h:Inv r){p:Place}{kind:Int}(hm:(aU r p kind).2=0):Inv (aU r p kind).1:=by
  obtain ⟨hk,hf,hl,ht,hw,he⟩:=qo hm
  obtain ⟨hp,ha⟩:=fV hf
  have hpl:=dO hp
  rw [he (by omega)]
  have n1:=h.mX;have n2:=h.m8;have hfr:=h.fresh;have hmax:=h.iu
  have hi:r.ae≠0:=by omega
  have yG:=dD (id:=r.ae) h.good hp
  refine { tree:=nP h.tree (kJ (by dsimp only;omega)) (fun y hy=>h.kh y hy) (fun h0=>absurd rfl h0),good:=yG,kh:=?_,mX:=by show 1≤r.ae+1;omega,oD:=by show r.ae+1≤1000;omega,m8:=by show 1≤r.af+1;omega,nK:=by show r.af+1≤1000;omega,fb:=List.pairwise_append.2 ⟨h.fb,by simp,fun a ha b hb=>by simp at hb;subst hb;exact (h.mY a ha).2⟩,mY:=?_,fc:=?_,fe:=?_,iu:=by show (r.Things++[_]).length≤10;simp;omega,thing:=?_,port:=?_,fO:=h.fO,wait:=h.wait,ff:=h.ff,once:=?_,eG:=?_,eB:=?_,used:=?_ }
  ·
    intro w hw
    show w.ID<r.ae+1
    rcases List.mem_append.1 hw with hw|hw
    · have:=h.kh w hw;omega
    · rw [List.mem_singleton.1 hw];show r.ae<_;omega
  ·
    intro t ht
    show 1≤t.ID∧t.ID<r.af+1
    rcases List.mem_append.1 ht with ht|ht
    · have:=h.mY t ht;omega
    · rw [List.mem_singleton.1 ht];show 1≤r.af∧r.af<_;omega
  ·
    intro t ht
    rcases List.mem_append.1 ht with ht|ht
    · exact h.fc t ht
    · rw [List.mem_singleton.1 ht];exact hk
  ·
    intro t ht
    rcases List.mem_append.1 ht with ht|ht
    · exact h.fe t ht
    · rw [List.mem_singleton.1 ht];exact ⟨by show (0:Nat)≤8;decide,fun _=>rfl⟩
  ·
    intro w hw
    rcases List.mem_append.1 hw with hw|hw
    ·
      obtain ⟨t,ht,e⟩:=h.thing w hw
      exact ⟨t,List.mem_append.2 (.inl ht),e⟩
    · rw [List.mem_singleton.1 hw];exact ⟨_,List.mem_append.2 (.inr (List.mem_singleton.2 rfl)),rfl⟩
  ·
    intro n hn
    obtain ⟨t,ht,e⟩:=h.port n hn
    exact ⟨t,List.mem_append.2 (.inl ht),e⟩
  ·
    intro w hw
    show cH (bO r.Held p r.ae) w.ID+cN r.Notes w.ID=1
    rw [oy h.good ha hi]
    rcases List.mem_append.1 hw with hw|hw
    ·
      have:=h.kh w hw;have:=h.once w hw
      rw [if_neg (by omega)];omega
    ·
      rw [List.mem_singleton.1 hw];show cH r.Held r.ae+(if r.ae=r.ae then 1 else 0)+cN r.Notes r.ae=1
      rw [if_pos rfl];omega
  ·
    intro n hn h0
    obtain ⟨w,hw,e⟩:=h.eG n hn h0
    exact ⟨w,List.mem_append.2 (.inl hw),e⟩
  ·
    intro x hx
    rcases (kR h.good ha hi).1 hx with e|hx
    · rw [e];exact ⟨_,List.mem_append.2 (.inr (List.mem_singleton.2 rfl)),rfl⟩
    ·
      obtain ⟨w,hw,e⟩:=h.eB x hx
      exact ⟨w,List.mem_append.2 (.inl hw),e⟩
  ·
    intro t ht
    rcases List.mem_append.1 ht with ht|ht
    ·
      obtain ⟨w,hw,e⟩:=h.used t ht
      exact ⟨w,List.mem_append.2 (.inl hw),e⟩
    · rw [List.mem_singleton.1 ht];exact ⟨_,List.mem_append.2 (.inr (List.mem_singleton.2 rfl)),rfl⟩
theorem qp {p t:Place}{a b:Int}(h:(bD r p t a b).2=0):(ak r p).2=0∧cY r t=0∧(p.ag=t.ag∨cT (ak r p).1.Rights 4=true)∧r.ae≤999∧(derived (ak r p).1 r.ae a b).2=0 ∧
    (0<t.ag→(bD r p t a b).1=⟨r.ap++[(derived (ak r p).1 r.ae a b).1],r.Things,bO r.Held t (derived (ak r p).1 r.ae a b).1.ID,r.Notes,r.ae+1,r.af⟩):=by
  unfold bD at h ⊢
  by_cases h1:(ak r p).2=0
  ·
    rw [if_pos h1] at h ⊢
    by_cases h2:cY r t=0
    ·
      rw [if_pos h2] at h ⊢
      by_cases h3:p.ag=t.ag∨cT (ak r p).1.Rights 4=true
      ·
        rw [if_pos h3] at h ⊢
        by_cases h4:999<r.ae
        · rw [if_pos h4] at h;simp at h
        ·
          rw [if_neg h4] at h ⊢
          by_cases h5:(derived (ak r p).1 r.ae a b).2=0
          ·
            rw [if_pos h5]
            refine ⟨h1,h2,h3,by omega,h5,fun hp=>?_⟩
            unfold aW;dsimp only;rw [if_pos hp]
          · rw [if_neg h5] at h;exact absurd h h5
      · rw [if_neg h3] at h;simp at h
    · rw [if_neg h2] at h;exact absurd h h2
  · rw [if_neg h1] at h;exact absurd h h1
theorem Inv.derive (h:Inv r){g:ao}(hg:g∈r.ap){a b:Int}(hn:r.ae≤999)(hd:(derived g r.ae a b).2=0):ct (r.ap++[(derived g r.ae a b).1])∧(derived g r.ae a b).1.ID=r.ae∧(derived g r.ae a b).1.ai=g.ai∧(derived g r.ae a b).1.Rights=a∧(derived g r.ae a b).1.From=g.ID∧cT g.Rights a=true∧0≤a∧a≤7:=by
  obtain ⟨a0,a7,b0,b9,hh,e,hb⟩:=gG hd
  have w:=h.tree.mem hg
  have w1:=w.id1;have w2:=w.xZ;have w3:=w.x6;have w4:=w.x7;have w5:=w.x8;have w6:=h.kh g hg
  rw [e]
  refine ⟨nP h.tree (kJ ⟨by show 1≤r.ae;omega,hn,w2,w3,?_,?_,by show 0≤g.ID;omega,w6,a0,a7⟩) (fun y hy=>h.kh y hy) (fun _=>⟨g,hg,rfl,hh,?_,rfl⟩),rfl,rfl,rfl,rfl,hh,a0,a7⟩
  · show 0≤(if b=0 then g.ar else b);split <;> omega
  · show (if b=0 then g.ar else b)≤99;split <;> omega
  ·
    show g.ar=0∨(if b=0 then g.ar else b)=g.ar
    split <;> omega
theorem Inv.give (h:Inv r){p t:Place}{a b:Int}(hm:(bD r p t a b).2=0):Inv (bD r p t a b).1:=by
  obtain ⟨hg,hf,hr,hw,hd,he⟩:=qp hm
  obtain ⟨hp,ha⟩:=fV hf
  have hpl:=dO hp
  obtain ⟨_,hgm,_⟩:=h.get hg
  obtain ⟨tD,hid,hth,_⟩:=h.derive hgm hw hd
  rw [he (by omega),hid]
  generalize hx:(derived (ak r p).1 r.ae a b).1=x at *
  have n1:=h.mX;have hfr:=h.fresh
  have hi:r.ae≠0:=by omega
  have yG:=dD (id:=r.ae) h.good hp
  refine { tree:=tD,good:=yG,kh:=?_,mX:=by show 1≤r.ae+1;omega,oD:=by show r.ae+1≤1000;omega,m8:=h.m8,nK:=h.nK,fb:=h.fb,mY:=h.mY,fc:=h.fc,fe:=h.fe,iu:=h.iu,thing:=?_,port:=h.port,fO:=h.fO,wait:=h.wait,ff:=h.ff,once:=?_,eG:=?_,eB:=?_,used:=?_ }
  ·
    intro w hw
    show w.ID<r.ae+1
    rcases List.mem_append.1 hw with hw|hw
    · have:=h.kh w hw;omega
    · rw [List.mem_singleton.1 hw,hid];omega
  ·
    intro w hw
    rcases List.mem_append.1 hw with hw|hw
    · exact h.thing w hw
    · rw [List.mem_singleton.1 hw,hth];exact h.thing _ hgm
  ·
    intro w hw
    show cH (bO r.Held t r.ae) w.ID+cN r.Notes w.ID=1
    rw [oy h.good ha hi]
    rcases List.mem_append.1 hw with hw|hw
    ·
      have:=h.kh w hw;have:=h.once w hw
      rw [if_neg (by omega)];omega
    · rw [List.mem_singleton.1 hw,hid,if_pos rfl];omega
  ·
    intro n hn h0
    obtain ⟨w,hw,e⟩:=h.eG n hn h0
    exact ⟨w,List.mem_append.2 (.inl hw),e⟩
  ·
    intro y hy
    rcases (kR h.good ha hi).1 hy with e|hy
    · rw [e];exact ⟨x,List.mem_append.2 (.inr (List.mem_singleton.2 rfl)),hid⟩
    ·
      obtain ⟨w,hw,e⟩:=h.eB y hy
      exact ⟨w,List.mem_append.2 (.inl hw),e⟩
  ·
    intro t ht
    obtain ⟨w,hw,e⟩:=h.used t ht
    exact ⟨w,List.mem_append.2 (.inl hw),e⟩
theorem qq {p:Place}{s:Int}(h:(cj r p s).2=0):(ak r p).2=0∧cY r ⟨p.ag,s⟩=0∧(cj r p s).1=⟨r.ap,r.Things,bO (bO r.Held p 0) ⟨p.ag,s⟩ (ak r p).1.ID,r.Notes,r.ae,r.af⟩:=by
  unfold cj at h ⊢
  by_cases h1:(ak r p).2=0
  ·
    rw [if_pos h1] at h ⊢
    by_cases h2:cY r ⟨p.ag,s⟩=0
    · rw [if_pos h2];exact ⟨h1,h2,rfl⟩
    · rw [if_neg h2] at h;exact absurd h h2
  · rw [if_neg h1] at h;exact absurd h h1
theorem Inv.held (h:Inv r){m:List Held}(hg:Good m)(hc:∀w∈r.ap,cH m w.ID=cH r.Held w.ID)(hs:∀x∈m,∃w∈r.ap,w.ID=x.ao):Inv ⟨r.ap,r.Things,m,r.Notes,r.ae,r.af⟩ :=
  { tree:=h.tree,good:=hg,kh:=h.kh,mX:=h.mX,oD:=h.oD,m8:=h.m8,nK:=h.nK,fb:=h.fb,mY:=h.mY,fc:=h.fc,fe:=h.fe,iu:=h.iu,thing:=h.thing,port:=h.port,fO:=h.fO,wait:=h.wait,ff:=h.ff,once:=fun w hw=>by show cH m w.ID+_=1;rw [hc w hw];exact h.once w hw,eG:=h.eG,eB:=hs,used:=h.used }
theorem Inv.move (h:Inv r){p:Place}{s:Int}(hm:(cj r p s).2=0):Inv (cj r p s).1:=by
  obtain ⟨hg,hf,he⟩:=qq hm
  obtain ⟨hp,ha⟩:=fV hf
  obtain ⟨hpf,hgm,hat,h1,_⟩:=h.get hg
  rw [he]
  have hi:(ak r p).1.ID≠0:=by omega
  have hg1:Good (bO r.Held p 0):=dD h.good hpf
  have hne:¬ (⟨p.ag,s⟩:Place)=p:=fun e=>by rw [e] at ha;omega
  have ha1:gI (bO r.Held p 0) ⟨p.ag,s⟩=0:=by rw [rX h.good hpf hne];exact ha
  refine h.held (dD hg1 hp) (fun w hw=>?_) (fun x hx=>?_)
  · rw [oy hg1 ha1 hi,← vO h.good hat.symm hi]
  ·
    rcases (kR hg1 ha1 hi).1 hx with e|hx
    · rw [e];exact ⟨_,hgm,rfl⟩
    · exact h.eB x (tC h.good hat.symm hi hx)
theorem Pre.ly (h:Pre r){l:List ao}(ht:ct l)(hs:∀v∈l,∃w∈r.ap,Like v w):Pre ⟨l,r.Things,r.Held,r.Notes,r.ae,r.af⟩ :=
  { tree:=ht,good:=h.good,kh:=fun v hv=>by obtain ⟨w,hw,k⟩:=hs v hv;rw [k.id];exact h.kh w hw,mX:=h.mX,oD:=h.oD,m8:=h.m8,nK:=h.nK,fb:=h.fb,mY:=h.mY,fc:=h.fc,fe:=h.fe,iu:=h.iu,thing:=fun v hv=>by obtain ⟨w,hw,k⟩:=hs v hv;rw [k.th];exact h.thing w hw,port:=h.port,fO:=h.fO,wait:=h.wait,ff:=h.ff,once:=fun v hv=>by obtain ⟨w,hw,k⟩:=hs v hv;rw [k.id];exact h.once w hw }
theorem Pre.wo (h:Pre r)(id:Int):Pre ⟨without r.ap id,r.Things,r.Held,r.Notes,r.ae,r.af⟩ :=
  h.ly (h.tree.wo id) (fun v hv=>by obtain ⟨y,hy,_,rfl⟩:=ey.1 hv;exact ⟨y,hy,oz _ _ y⟩)
theorem kS {l:List ao}{id:Int}{x:ao}:x∈o9 l id↔x∈l∧¬ x.ID∈cZ id l:=by
  unfold o9;rw [List.mem_filter];simp
theorem tE {l:List ao}(h:ct l){id:Int}{x y:ao}(hi:0≤cb l id)(hx:x∈l)(hy:y∈l)(e:y.ID=x.From)(hb:y.ID∈cZ id l):x.ID∈cZ id l:=by
  have h1:=gL hx;have h2:=gL hy
  rw [nB h hi h1]
  rw [nB h hi h2] at hb
  unfold above at hb ⊢
  obtain ⟨x',_,e1,hx',e2⟩:=iN h1
  have:x'=x:=h.inj hx' hx e1
  subst this
  rw [e2,← e,j8 h h2]
  exact List.mem_cons_of_mem _ hb
theorem ct.cut {l:List ao}(h:ct l){id:Int}(hi:0≤cb l id):ct (o9 l id):=by
  have hs:=h.is
  refine k0.ok' ⟨fun x hx=>hs.ok x (kS.1 hx).1,hs.rise.filter _,fun x hx h0=>?_⟩
  obtain ⟨h1,h2⟩:=kS.1 hx
  obtain ⟨y,hy,hm⟩:=hs.made x h1 h0
  exact ⟨y,kS.2 ⟨hy,fun hb=>h2 (tE h hi h1 hy hm.sk hb)⟩,hm⟩
theorem Pre.cut (h:Pre r){id:Int}(hi:0≤cb r.ap id):Pre ⟨o9 r.ap id,r.Things,r.Held,r.Notes,r.ae,r.af⟩ :=
  h.ly (h.tree.cut hi) (fun v hv=>⟨v,(kS.1 hv).1,Like.refl v⟩)
theorem qt {p:Place}(h:(cq r p).2=0):(ak r p).2=0∧(cq r p).1=aP ⟨without r.ap (ak r p).1.ID,r.Things,r.Held,r.Notes,r.ae,r.af⟩:=by
  unfold cq at h ⊢
  by_cases h1:(ak r p).2=0
  · rw [if_pos h1];exact ⟨h1,rfl⟩
  · rw [if_neg h1] at h;exact absurd h h1
theorem oA {p:Place}(h:(bg r p).2=0):(ak r p).2=0∧(bg r p).1=aP ⟨o9 r.ap (ak r p).1.ID,r.Things,r.Held,r.Notes,r.ae,r.af⟩:=by
  unfold bg at h ⊢
  by_cases h1:(ak r p).2=0
  · rw [if_pos h1];exact ⟨h1,rfl⟩
  · rw [if_neg h1] at h;exact absurd h h1
theorem Inv.drop (h:Inv r){p:Place}(hm:(cq r p).2=0):Inv (cq r p).1:=by
  rw [(qt hm).2];exact nO (h.toPre.wo _)
theorem Inv.vQ (h:Inv r){p:Place}(hm:(bg r p).2=0):Inv (bg r p).1:=by
  obtain ⟨hg,he⟩:=oA hm
  rw [he];exact nO (h.toPre.cut (gL (h.get hg).2.1))
theorem mem_set {l:List ai}{i:Nat}{d:ByteArray}{x:ai}(h:x∈dU l i d):∃ (k:Nat) (t:ai),l[k]? = some t∧x.ID=t.ID∧x.Kind=t.Kind∧(x.Data=t.Data∨k=i∧x.Data=d):=by
  unfold dU at h
  split at h
  ·
    rename_i t ht
    obtain ⟨k,hk⟩:=List.mem_iff_getElem?.1 h
    rw [List.getElem?_set] at hk
    split at hk
    ·
      rename_i e;subst e
      split at hk
      · injection hk with hk;subst hk;exact ⟨_,t,ht,rfl,rfl,.inr ⟨rfl,rfl⟩⟩
      · cases hk
    · exact ⟨k,x,hk,rfl,rfl,.inl rfl⟩
  ·
    obtain ⟨k,hk⟩:=List.mem_iff_getElem?.1 h
    exact ⟨k,x,hk,rfl,rfl,.inl rfl⟩
theorem rq {l:List ai}{i:Nat}{d:ByteArray}{t:ai}(h:t∈l):∃x∈dU l i d,x.ID=t.ID∧x.Kind=t.Kind:=by
  unfold dU
  split
  ·
    rename_i y hy
    obtain ⟨k,hk⟩:=List.mem_iff_getElem?.1 h
    by_cases e:i=k
    ·
      subst e;rw [hk] at hy;injection hy with hy;subst hy
      exact ⟨_,List.mem_set (by have:=(List.getElem?_eq_some_iff.1 hk).1;exact this) _,rfl,rfl⟩
    · exact ⟨t,List.mem_of_getElem? (i:=k) (by rw [List.getElem?_set,if_neg e];exact hk),rfl,rfl⟩
  · exact ⟨t,h,rfl,rfl⟩
theorem uv (l:List ai)(i:Nat)(d:ByteArray):(dU l i d).map ai.ID=l.map ai.ID:=by
  unfold dU
  split
  ·
    rename_i t ht
    rw [List.map_set]
    apply List.ext_getElem?
    intro k
    rw [List.getElem?_set]
    split
    ·
      rename_i e;subst e;rw [List.getElem?_map,ht]
      split
      · rfl
      · rename_i hk;exfalso;apply hk;have:=(List.getElem?_eq_some_iff.1 ht).1;simpa using this
    · rfl
  · rfl
theorem pC {p:Place}{d:ByteArray}(h:(bF r p d).2=0):(av r p 1 2).2.2=0∧d.size≤8∧(bF r p d).1=⟨r.ap,dU r.Things (av r p 1 2).2.1.toNat d,r.Held,r.Notes,r.ae,r.af⟩:=by
  unfold bF at h ⊢
  by_cases h1:(av r p 1 2).2.2=0
  ·
    rw [if_pos h1] at h ⊢
    by_cases h2:8<d.size
    · rw [if_pos h2] at h;simp at h
    · rw [if_neg h2];exact ⟨h1,by omega,rfl⟩
  · rw [if_neg h1] at h;exact absurd h h1
theorem Inv.write (h:Inv r){p:Place}{d:ByteArray}(hm:(bF r p d).2=0):Inv (bF r p d).1:=by
  obtain ⟨hy,hd,he⟩:=pC hm
  obtain ⟨_,_,_,k,t,hk,ht,zB,htk,_⟩:=eS hy
  rw [he,hk,Int.toNat_natCast]
  have yH:=uv r.Things k d
  have hin:∀x∈dU r.Things k d,∃y∈r.Things,x.ID=y.ID∧x.Kind=y.Kind:=fun x hx=>by
    obtain ⟨j,y,hj,a,b,_⟩:=mem_set hx;exact ⟨y,List.mem_of_getElem? hj,a,b⟩
  refine { tree:=h.tree,good:=h.good,kh:=h.kh,mX:=h.mX,oD:=h.oD,m8:=h.m8,nK:=h.nK,fb:=?_,mY:=?_,fc:=?_,fe:=?_,iu:=by show (dU _ _ _).length≤10;rw [lA];exact h.iu,thing:=?_,port:=?_,fO:=h.fO,wait:=h.wait,ff:=h.ff,once:=h.once,eG:=h.eG,eB:=h.eB,used:=?_ }
  ·
    have h1:(r.Things.map ai.ID).Pairwise (· < ·):=List.pairwise_map.2 h.fb
    show (dU r.Things k d).Pairwise _
    rw [← yH] at h1
    exact List.pairwise_map.1 h1
  · intro x hx;obtain ⟨y,hy,a,b⟩:=hin x hx;show 1≤x.ID∧x.ID<r.af;rw [a];exact h.mY y hy
  · intro x hx;obtain ⟨y,hy,a,b⟩:=hin x hx;rw [b];exact h.fc y hy
  ·
    intro x hx
    obtain ⟨j,y,hj,a,b,c⟩:=mem_set hx
    have:=h.fe y (List.mem_of_getElem? hj)
    rcases c with c|⟨c,c2⟩
    · rw [c,b];exact this
    ·
      subst c;rw [ht] at hj;injection hj with hj;subst hj
      rw [c2];exact ⟨hd,fun h2=>by rw [b,htk] at h2;omega⟩
  ·
    intro w hw
    obtain ⟨t',ht',e⟩:=h.thing w hw
    obtain ⟨x,hx,a,_⟩:=rq (i:=k) (d:=d) ht'
    exact ⟨x,hx,by rw [a,e]⟩
  ·
    intro n hn
    obtain ⟨t',ht',e,e2⟩:=h.port n hn
    obtain ⟨x,hx,a,b⟩:=rq (i:=k) (d:=d) ht'
    exact ⟨x,hx,by rw [a,e],by rw [b,e2]⟩
  · intro x hx;obtain ⟨y,hy,a,b⟩:=hin x hx;rw [a];exact h.used y hy
end
end Go.Proofs.YtpipachmngdegaaGreat
end
