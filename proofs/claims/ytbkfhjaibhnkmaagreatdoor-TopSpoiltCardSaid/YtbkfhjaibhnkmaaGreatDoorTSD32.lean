import Derived.Test.YtbkfhjaibhnkmaaGreatDoorTSD31
namespace Go.Proofs.YtbkfhjaibhnkmaaGreatDoor
set_option linter.unusedVariables false
theorem mM {r:ap}{p:Place}(h:eX r p=0):aX p=0∧iQ r.Held p=0:=by
 unfold eX at h
 by_cases h1:aX p=0
 ·
  rw [if_pos h1] at h
  by_cases h2:iQ r.Held p=0
  ·exact ⟨h1,h2⟩
  ·rw [if_neg h2] at h;omega
 ·rw [if_neg h1] at h;exact absurd h h1
theorem l7 {l:List Held}{p:Place}{id:Int}(hg:Good l)(h:iQ l p=0)(hi:id≠0){x:Held}:x∈cE l p id↔x=⟨p,id⟩∨x∈l:=by
 obtain ⟨A,B,e,e2⟩:=ug hg h hi
 rw [e2,e];simp only [List.mem_append,List.mem_cons];constructor <;> (rintro (h|h|h) <;> simp [h])
theorem wR {l:List Held}{p:Place}{w:Int}(hg:Good l)(h:iQ l p=w)(hw:w≠0){x:Held}(hx:x∈cE l p 0):x∈l:=by
 obtain ⟨A,B,e,e2⟩:=uh hg h hw
 rw [e2] at hx;rw [e];simp only [List.mem_append,List.mem_cons] at hx ⊢;rcases hx with h|h <;> simp [h]
section
variable {r:ap}
theorem Inv.get (h:Inv r){p:Place}(hg:(au r p).2=0):aX p=0∧(au r p).1∈r.ai∧(au r p).1.ID=iQ r.Held p∧1≤(au r p).1.ID∧(au r p).1.ID<r.ae:=by
 obtain ⟨h1,h2,h3⟩:=pR hg
 exact ⟨h1,h2,h3,(h.tree.mem h2).id1,h.ly _ h2⟩
theorem Inv.fresh (h:Inv r):cH r.Held r.ae=0∧cN r.Notes r.ae=0:=by
 constructor
 ·
  refine List.countP_eq_zero.2 fun x hx=>?_
  obtain ⟨w,hw,e⟩:=h.dz x hx
  have:=h.ly w hw
  simp;omega
 ·
  refine List.countP_eq_zero.2 fun x hx=>?_
  have h0:=h.fJ x hx;have h1:=h.jV
  by_cases hp:0<x.aj
  ·
   obtain ⟨w,hw,e⟩:=h.e5 x hx hp
   have:=h.ly w hw
   simp;omega
  ·simp;omega
theorem pX {l:List aj}{w:aj}(h:cj l)(hw:bK w=0)(hlt:∀y∈l,y.ID<w.ID)(hm:w.From≠0 → ∃y∈l,Made y w):cj (l++[w]):=by
 have hi:=h.is
 refine mE.ok' ⟨fun x hx=>?_,List.pairwise_append.2 ⟨hi.rise,by simp,fun a ha b hb=>by simp at hb;subst hb;exact hlt a ha⟩,fun x hx h0=>?_⟩
 ·
  rcases List.mem_append.1 hx with hx|hx
  ·exact hi.ok x hx
  ·rw [List.mem_singleton.1 hx];exact hw
 ·
  rcases List.mem_append.1 hx with hx|hx
  ·
   obtain ⟨y,hy,hmd⟩:=hi.made x hx h0
   exact ⟨y,List.mem_append.2 (.inl hy),hmd⟩
  ·
   have e:=List.mem_singleton.1 hx
   subst e
   obtain ⟨y,hy,hmd⟩:=hm h0
   exact ⟨y,List.mem_append.2 (.inl hy),hmd⟩
theorem sZ {p:Place}{kind:Int}(h:(bC r p kind).2=0):(kind=1∨kind=2)∧eX r p=0∧r.Things.length≠10∧r.af≤999∧r.ae≤999 ∧
 (0<p.ao→(bC r p kind).1=⟨r.ai++[⟨r.ae,r.af,7,0,0⟩],r.Things++[⟨r.af,kind,⟨#[]⟩⟩],cE r.Held p r.ae,r.Notes,r.ae+1,r.af+1⟩):=by
 unfold bC at h ⊢
 by_cases h1:kind=1∨kind=2
 ·
  rw [if_pos h1] at h ⊢
  by_cases h2:eX r p=0
  ·
   rw [if_pos h2] at h ⊢
   by_cases h3:r.Things.length=10∨999<r.af∨999<r.ae
   ·rw [if_pos h3] at h;simp at h
   ·
    rw [if_neg h3]
    refine ⟨h1,h2,by omega,by omega,by omega,fun hp=>?_⟩
    unfold aW;dsimp only;rw [if_pos hp]
  ·rw [if_neg h2] at h;exact absurd h h2
 ·rw [if_neg h1] at h;simp at h
theorem Inv.make (h:Inv r){p:Place}{kind:Int}(hm:(bC r p kind).2=0):Inv (bC r p kind).1:=by
 obtain ⟨hk,hf,hl,ht,hw,he⟩:=sZ hm
 obtain ⟨hp,ha⟩:=mM hf
 have hpl:=bS hp
 rw [he (by omega)]
 have n1:=h.jV;have n2:=h.jY;have hfr:=h.fresh;have hmax:=h.fN
 have hi:r.ae≠0:=by omega
 have Dv:=jh (id:=r.ae) h.good hp
 refine { tree:=pX h.tree (jC (by dsimp only;omega)) (fun y hy=>h.ly y hy) (fun h0=>absurd rfl h0),good:=Dv,ly:=?_,jV:=by show 1≤r.ae+1;omega,kP:=by show r.ae+1≤1000;omega,jY:=by show 1≤r.af+1;omega,jZ:=by show r.af+1≤1000;omega,eZ:=List.pairwise_append.2 ⟨h.eZ,by simp,fun a ha b hb=>by simp at hb;subst hb;exact (h.nG a ha).2⟩,nG:=?_,fH:=?_,fI:=?_,fN:=by show (r.Things++[_]).length≤10;simp;omega,thing:=?_,port:=?_,f9:=h.f9,wait:=h.wait,fJ:=h.fJ,once:=?_,e5:=?_,dz:=?_,used:=?_ }
 ·
  intro w hw
  show w.ID<r.ae+1
  rcases List.mem_append.1 hw with hw|hw
  ·have:=h.ly w hw;omega
  ·rw [List.mem_singleton.1 hw];show r.ae<_;omega
 ·
  intro t ht
  show 1≤t.ID∧t.ID<r.af+1
  rcases List.mem_append.1 ht with ht|ht
  ·have:=h.nG t ht;omega
  ·rw [List.mem_singleton.1 ht];show 1≤r.af∧r.af<_;omega
 ·
  intro t ht
  rcases List.mem_append.1 ht with ht|ht
  ·exact h.fH t ht
  ·rw [List.mem_singleton.1 ht];exact hk
 ·
  intro t ht
  rcases List.mem_append.1 ht with ht|ht
  ·exact h.fI t ht
  ·rw [List.mem_singleton.1 ht];exact ⟨by show (0:Nat)≤8;decide,fun _=>rfl⟩
 ·
  intro w hw
  rcases List.mem_append.1 hw with hw|hw
  ·
   obtain ⟨t,ht,e⟩:=h.thing w hw
   exact ⟨t,List.mem_append.2 (.inl ht),e⟩
  ·rw [List.mem_singleton.1 hw];exact ⟨_,List.mem_append.2 (.inr (List.mem_singleton.2 rfl)),rfl⟩
 ·
  intro n hn
  obtain ⟨t,ht,e⟩:=h.port n hn
  exact ⟨t,List.mem_append.2 (.inl ht),e⟩
 ·
  intro w hw
  show cH (cE r.Held p r.ae) w.ID+cN r.Notes w.ID=1
  rw [qy h.good ha hi]
  rcases List.mem_append.1 hw with hw|hw
  ·
   have:=h.ly w hw;have:=h.once w hw
   rw [if_neg (by omega)];omega
  ·
   rw [List.mem_singleton.1 hw];show cH r.Held r.ae+(if r.ae=r.ae then 1 else 0)+cN r.Notes r.ae=1
   rw [if_pos rfl];omega
 ·
  intro n hn h0
  obtain ⟨w,hw,e⟩:=h.e5 n hn h0
  exact ⟨w,List.mem_append.2 (.inl hw),e⟩
 ·
  intro x hx
  rcases (l7 h.good ha hi).1 hx with e|hx
  ·rw [e];exact ⟨_,List.mem_append.2 (.inr (List.mem_singleton.2 rfl)),rfl⟩
  ·
   obtain ⟨w,hw,e⟩:=h.dz x hx
   exact ⟨w,List.mem_append.2 (.inl hw),e⟩
 ·
  intro t ht
  rcases List.mem_append.1 ht with ht|ht
  ·
   obtain ⟨w,hw,e⟩:=h.used t ht
   exact ⟨w,List.mem_append.2 (.inl hw),e⟩
  ·rw [List.mem_singleton.1 ht];exact ⟨_,List.mem_append.2 (.inr (List.mem_singleton.2 rfl)),rfl⟩
theorem s3 {p t:Place}{a b:Int}(h:(cr r p t a b).2=0):(au r p).2=0∧eX r t=0∧(p.ao=t.ao∨fB (au r p).1.Rights 4=true)∧r.ae≤999∧(derived (au r p).1 r.ae a b).2=0 ∧
 (0<t.ao→(cr r p t a b).1=⟨r.ai++[(derived (au r p).1 r.ae a b).1],r.Things,cE r.Held t (derived (au r p).1 r.ae a b).1.ID,r.Notes,r.ae+1,r.af⟩):=by
 unfold cr at h ⊢
 by_cases h1:(au r p).2=0
 ·
  rw [if_pos h1] at h ⊢
  by_cases h2:eX r t=0
  ·
   rw [if_pos h2] at h ⊢
   by_cases h3:p.ao=t.ao∨fB (au r p).1.Rights 4=true
   ·
    rw [if_pos h3] at h ⊢
    by_cases h4:999<r.ae
    ·rw [if_pos h4] at h;simp at h
    ·
     rw [if_neg h4] at h ⊢
     by_cases h5:(derived (au r p).1 r.ae a b).2=0
     ·
      rw [if_pos h5]
      refine ⟨h1,h2,h3,by omega,h5,fun hp=>?_⟩
      unfold aW;dsimp only;rw [if_pos hp]
     ·rw [if_neg h5] at h;exact absurd h h5
   ·rw [if_neg h3] at h;simp at h
  ·rw [if_neg h2] at h;exact absurd h h2
 ·rw [if_neg h1] at h;exact absurd h h1
theorem Inv.derive (h:Inv r){g:aj}(hg:g∈r.ai){a b:Int}(hn:r.ae≤999)(hd:(derived g r.ae a b).2=0):cj (r.ai++[(derived g r.ae a b).1])∧(derived g r.ae a b).1.ID=r.ae∧(derived g r.ae a b).1.ah=g.ah∧(derived g r.ae a b).1.Rights=a∧(derived g r.ae a b).1.From=g.ID∧fB g.Rights a=true∧0≤a∧a≤7:=by
 obtain ⟨a0,a7,b0,b9,hh,e,hb⟩:=l1 hd
 have w:=h.tree.mem hg
 have w1:=w.id1;have w2:=w.Ai;have w3:=w.A9;have w4:=w.Ba;have w5:=w.Bb;have w6:=h.ly g hg
 rw [e]
 refine ⟨pX h.tree (jC ⟨by show 1≤r.ae;omega,hn,w2,w3,?_,?_,by show 0≤g.ID;omega,w6,a0,a7⟩) (fun y hy=>h.ly y hy) (fun _=>⟨g,hg,rfl,hh,?_,rfl⟩),rfl,rfl,rfl,rfl,hh,a0,a7⟩
 ·show 0≤(if b=0 then g.aG else b);split <;> omega
 ·show (if b=0 then g.aG else b)≤99;split <;> omega
 ·
  show g.aG=0∨(if b=0 then g.aG else b)=g.aG
  split <;> omega
theorem Inv.give (h:Inv r){p t:Place}{a b:Int}(hm:(cr r p t a b).2=0):Inv (cr r p t a b).1:=by
 obtain ⟨hg,hf,hr,hw,hd,he⟩:=s3 hm
 obtain ⟨hp,ha⟩:=mM hf
 have hpl:=bS hp
 obtain ⟨_,hgm,_⟩:=h.get hg
 obtain ⟨wS,hid,hth,_⟩:=h.derive hgm hw hd
 rw [he (by omega),hid]
 generalize hx:(derived (au r p).1 r.ae a b).1=x at *
 have n1:=h.jV;have hfr:=h.fresh
 have hi:r.ae≠0:=by omega
 have Dv:=jh (id:=r.ae) h.good hp
 refine { tree:=wS,good:=Dv,ly:=?_,jV:=by show 1≤r.ae+1;omega,kP:=by show r.ae+1≤1000;omega,jY:=h.jY,jZ:=h.jZ,eZ:=h.eZ,nG:=h.nG,fH:=h.fH,fI:=h.fI,fN:=h.fN,thing:=?_,port:=h.port,f9:=h.f9,wait:=h.wait,fJ:=h.fJ,once:=?_,e5:=?_,dz:=?_,used:=?_ }
 ·
  intro w hw
  show w.ID<r.ae+1
  rcases List.mem_append.1 hw with hw|hw
  ·have:=h.ly w hw;omega
  ·rw [List.mem_singleton.1 hw,hid];omega
 ·
  intro w hw
  rcases List.mem_append.1 hw with hw|hw
  ·exact h.thing w hw
  ·rw [List.mem_singleton.1 hw,hth];exact h.thing _ hgm
 ·
  intro w hw
  show cH (cE r.Held t r.ae) w.ID+cN r.Notes w.ID=1
  rw [qy h.good ha hi]
  rcases List.mem_append.1 hw with hw|hw
  ·
   have:=h.ly w hw;have:=h.once w hw
   rw [if_neg (by omega)];omega
  ·rw [List.mem_singleton.1 hw,hid,if_pos rfl];omega
 ·
  intro n hn h0
  obtain ⟨w,hw,e⟩:=h.e5 n hn h0
  exact ⟨w,List.mem_append.2 (.inl hw),e⟩
 ·
  intro y hy
  rcases (l7 h.good ha hi).1 hy with e|hy
  ·rw [e];exact ⟨x,List.mem_append.2 (.inr (List.mem_singleton.2 rfl)),hid⟩
  ·
   obtain ⟨w,hw,e⟩:=h.dz y hy
   exact ⟨w,List.mem_append.2 (.inl hw),e⟩
 ·
  intro t ht
  obtain ⟨w,hw,e⟩:=h.used t ht
  exact ⟨w,List.mem_append.2 (.inl hw),e⟩
theorem s4 {p:Place}{s:Int}(h:(dx r p s).2=0):(au r p).2=0∧eX r ⟨p.ao,s⟩=0∧(dx r p s).1=⟨r.ai,r.Things,cE (cE r.Held p 0) ⟨p.ao,s⟩ (au r p).1.ID,r.Notes,r.ae,r.af⟩:=by
 unfold dx at h ⊢
 by_cases h1:(au r p).2=0
 ·
  rw [if_pos h1] at h ⊢
  by_cases h2:eX r ⟨p.ao,s⟩=0
  ·rw [if_pos h2];exact ⟨h1,h2,rfl⟩
  ·rw [if_neg h2] at h;exact absurd h h2
 ·rw [if_neg h1] at h;exact absurd h h1
theorem Inv.held (h:Inv r){m:List Held}(hg:Good m)(hc:∀w∈r.ai,cH m w.ID=cH r.Held w.ID)(hs:∀x∈m,∃w∈r.ai,w.ID=x.aj):Inv ⟨r.ai,r.Things,m,r.Notes,r.ae,r.af⟩ :=
 { tree:=h.tree,good:=hg,ly:=h.ly,jV:=h.jV,kP:=h.kP,jY:=h.jY,jZ:=h.jZ,eZ:=h.eZ,nG:=h.nG,fH:=h.fH,fI:=h.fI,fN:=h.fN,thing:=h.thing,port:=h.port,f9:=h.f9,wait:=h.wait,fJ:=h.fJ,once:=fun w hw=>by show cH m w.ID+_=1;rw [hc w hw];exact h.once w hw,e5:=h.e5,dz:=hs,used:=h.used }
theorem Inv.move (h:Inv r){p:Place}{s:Int}(hm:(dx r p s).2=0):Inv (dx r p s).1:=by
 obtain ⟨hg,hf,he⟩:=s4 hm
 obtain ⟨hp,ha⟩:=mM hf
 obtain ⟨hpf,hgm,hat,h1,_⟩:=h.get hg
 rw [he]
 have hi:(au r p).1.ID≠0:=by omega
 have hg1:Good (cE r.Held p 0):=jh h.good hpf
 have hne:¬ (⟨p.ao,s⟩:Place)=p:=fun e=>by rw [e] at ha;omega
 have ha1:iQ (cE r.Held p 0) ⟨p.ao,s⟩=0:=by rw [vd h.good hpf hne];exact ha
 refine h.held (jh hg1 hp) (fun w hw=>?_) (fun x hx=>?_)
 ·rw [qy hg1 ha1 hi,← Av h.good hat.symm hi]
 ·
  rcases (l7 hg1 ha1 hi).1 hx with e|hx
  ·rw [e];exact ⟨_,hgm,rfl⟩
  ·exact h.dz x (wR h.good hat.symm hi hx)
theorem Pre.m8 (h:Pre r){l:List aj}(ht:cj l)(hs:∀v∈l,∃w∈r.ai,Like v w):Pre ⟨l,r.Things,r.Held,r.Notes,r.ae,r.af⟩ :=
 { tree:=ht,good:=h.good,ly:=fun v hv=>by obtain ⟨w,hw,k⟩:=hs v hv;rw [k.id];exact h.ly w hw,jV:=h.jV,kP:=h.kP,jY:=h.jY,jZ:=h.jZ,eZ:=h.eZ,nG:=h.nG,fH:=h.fH,fI:=h.fI,fN:=h.fN,thing:=fun v hv=>by obtain ⟨w,hw,k⟩:=hs v hv;rw [k.th];exact h.thing w hw,port:=h.port,f9:=h.f9,wait:=h.wait,fJ:=h.fJ,once:=fun v hv=>by obtain ⟨w,hw,k⟩:=hs v hv;rw [k.id];exact h.once w hw }
theorem Pre.wo (h:Pre r)(id:Int):Pre ⟨without r.ai id,r.Things,r.Held,r.Notes,r.ae,r.af⟩ :=
 h.m8 (h.tree.wo id) (fun v hv=>by obtain ⟨y,hy,_,rfl⟩:=eJ.1 hv;exact ⟨y,hy,nH _ _ y⟩)
theorem l8 {l:List aj}{id:Int}{x:aj}:x∈sH l id↔x∈l∧¬ x.ID∈dG id l:=by
 unfold sH;rw [List.mem_filter];simp
theorem wT {l:List aj}(h:cj l){id:Int}{x y:aj}(hi:0≤bL l id)(hx:x∈l)(hy:y∈l)(e:y.ID=x.From)(hb:y.ID∈dG id l):x.ID∈dG id l:=by
 have h1:=hM hx;have h2:=hM hy
 rw [pP h hi h1]
 rw [pP h hi h2] at hb
 unfold above at hb ⊢
 obtain ⟨x',_,e1,hx',e2⟩:=jd h1
 have:x'=x:=h.inj hx' hx e1
 subst this
 rw [e2,← e,lq h h2]
 exact List.mem_cons_of_mem _ hb
theorem cj.cut {l:List aj}(h:cj l){id:Int}(hi:0≤bL l id):cj (sH l id):=by
 have hs:=h.is
 refine mE.ok' ⟨fun x hx=>hs.ok x (l8.1 hx).1,hs.rise.filter _,fun x hx h0=>?_⟩
 obtain ⟨h1,h2⟩:=l8.1 hx
 obtain ⟨y,hy,hm⟩:=hs.made x h1 h0
 exact ⟨y,l8.2 ⟨hy,fun hb=>h2 (wT h hi h1 hy hm.wC hb)⟩,hm⟩
theorem Pre.cut (h:Pre r){id:Int}(hi:0≤bL r.ai id):Pre ⟨sH r.ai id,r.Things,r.Held,r.Notes,r.ae,r.af⟩ :=
 h.m8 (h.tree.cut hi) (fun v hv=>⟨v,(l8.1 hv).1,Like.refl v⟩)
theorem s5 {p:Place}(h:(dJ r p).2=0):(au r p).2=0∧(dJ r p).1=bq ⟨without r.ai (au r p).1.ID,r.Things,r.Held,r.Notes,r.ae,r.af⟩:=by
 unfold dJ at h ⊢
 by_cases h1:(au r p).2=0
 ·rw [if_pos h1];exact ⟨h1,rfl⟩
 ·rw [if_neg h1] at h;exact absurd h h1
theorem qA {p:Place}(h:(bY r p).2=0):(au r p).2=0∧(bY r p).1=bq ⟨sH r.ai (au r p).1.ID,r.Things,r.Held,r.Notes,r.ae,r.af⟩:=by
 unfold bY at h ⊢
 by_cases h1:(au r p).2=0
 ·rw [if_pos h1];exact ⟨h1,rfl⟩
 ·rw [if_neg h1] at h;exact absurd h h1
theorem Inv.drop (h:Inv r){p:Place}(hm:(dJ r p).2=0):Inv (dJ r p).1:=by
 rw [(s5 hm).2];exact mL (h.toPre.wo _)
theorem Inv.Az (h:Inv r){p:Place}(hm:(bY r p).2=0):Inv (bY r p).1:=by
 obtain ⟨hg,he⟩:=qA hm
 rw [he];exact mL (h.toPre.cut (hM (h.get hg).2.1))
theorem mem_set {l:List ah}{i:Nat}{d:ByteArray}{x:ah}(h:x∈eP l i d):∃ (k:Nat) (t:ah),l[k]? = some t∧x.ID=t.ID∧x.Kind=t.Kind∧(x.Data=t.Data∨k=i∧x.Data=d):=by
 unfold eP at h
 split at h
 ·
  rename_i t ht
  obtain ⟨k,hk⟩:=List.mem_iff_getElem?.1 h
  rw [List.getElem?_set] at hk
  split at hk
  ·
   rename_i e;subst e
   split at hk
   ·injection hk with hk;subst hk;exact ⟨_,t,ht,rfl,rfl,.inr ⟨rfl,rfl⟩⟩
   ·cases hk
  ·exact ⟨k,x,hk,rfl,rfl,.inl rfl⟩
 ·
  obtain ⟨k,hk⟩:=List.mem_iff_getElem?.1 h
  exact ⟨k,x,hk,rfl,rfl,.inl rfl⟩
theorem ui {l:List ah}{i:Nat}{d:ByteArray}{t:ah}(h:t∈l):∃x∈eP l i d,x.ID=t.ID∧x.Kind=t.Kind:=by
 unfold eP
 split
 ·
  rename_i y hy
  obtain ⟨k,hk⟩:=List.mem_iff_getElem?.1 h
  by_cases e:i=k
  ·
   subst e;rw [hk] at hy;injection hy with hy;subst hy
   exact ⟨_,List.mem_set (by have:=(List.getElem?_eq_some_iff.1 hk).1;exact this) _,rfl,rfl⟩
  ·exact ⟨t,List.mem_of_getElem? (i:=k) (by rw [List.getElem?_set,if_neg e];exact hk),rfl,rfl⟩
 ·exact ⟨t,h,rfl,rfl⟩
theorem yC (l:List ah)(i:Nat)(d:ByteArray):(eP l i d).map ah.ID=l.map ah.ID:=by
 unfold eP
 split
 ·
  rename_i t ht
  rw [List.map_set]
  apply List.ext_getElem?
  intro k
  rw [List.getElem?_set]
  split
  ·
   rename_i e;subst e;rw [List.getElem?_map,ht]
   split
   ·rfl
   ·rename_i hk;exfalso;apply hk;have:=(List.getElem?_eq_some_iff.1 ht).1;simpa using this
  ·rfl
 ·rfl
theorem rO {p:Place}{d:ByteArray}(h:(cq r p d).2=0):(aO r p 1 2).2.2=0∧d.size≤8∧(cq r p d).1=⟨r.ai,eP r.Things (aO r p 1 2).2.1.toNat d,r.Held,r.Notes,r.ae,r.af⟩:=by
 unfold cq at h ⊢
 by_cases h1:(aO r p 1 2).2.2=0
 ·
  rw [if_pos h1] at h ⊢
  by_cases h2:8<d.size
  ·rw [if_pos h2] at h;simp at h
  ·rw [if_neg h2];exact ⟨h1,by omega,rfl⟩
 ·rw [if_neg h1] at h;exact absurd h h1
theorem Inv.write (h:Inv r){p:Place}{d:ByteArray}(hm:(cq r p d).2=0):Inv (cq r p d).1:=by
 obtain ⟨hy,hd,he⟩:=rO hm
 obtain ⟨_,_,_,k,t,hk,ht,Eu,htk,_⟩:=kD hy
 rw [he,hk,Int.toNat_natCast]
 have Dw:=yC r.Things k d
 have hin:∀x∈eP r.Things k d,∃y∈r.Things,x.ID=y.ID∧x.Kind=y.Kind:=fun x hx=>by
  obtain ⟨j,y,hj,a,b,_⟩:=mem_set hx;exact ⟨y,List.mem_of_getElem? hj,a,b⟩
 refine { tree:=h.tree,good:=h.good,ly:=h.ly,jV:=h.jV,kP:=h.kP,jY:=h.jY,jZ:=h.jZ,eZ:=?_,nG:=?_,fH:=?_,fI:=?_,fN:=by show (eP _ _ _).length≤10;rw [ng];exact h.fN,thing:=?_,port:=?_,f9:=h.f9,wait:=h.wait,fJ:=h.fJ,once:=h.once,e5:=h.e5,dz:=h.dz,used:=?_ }
 ·
  have h1:(r.Things.map ah.ID).Pairwise (· < ·):=List.pairwise_map.2 h.eZ
  show (eP r.Things k d).Pairwise _
  rw [← Dw] at h1
  exact List.pairwise_map.1 h1
 ·intro x hx;obtain ⟨y,hy,a,b⟩:=hin x hx;show 1≤x.ID∧x.ID<r.af;rw [a];exact h.nG y hy
 ·intro x hx;obtain ⟨y,hy,a,b⟩:=hin x hx;rw [b];exact h.fH y hy
 ·
  intro x hx
  obtain ⟨j,y,hj,a,b,c⟩:=mem_set hx
  have:=h.fI y (List.mem_of_getElem? hj)
  rcases c with c|⟨c,c2⟩
  ·rw [c,b];exact this
  ·
   subst c;rw [ht] at hj;injection hj with hj;subst hj
   rw [c2];exact ⟨hd,fun h2=>by rw [b,htk] at h2;omega⟩
 ·
  intro w hw
  obtain ⟨t',ht',e⟩:=h.thing w hw
  obtain ⟨x,hx,a,_⟩:=ui (i:=k) (d:=d) ht'
  exact ⟨x,hx,by rw [a,e]⟩
 ·
  intro n hn
  obtain ⟨t',ht',e,e2⟩:=h.port n hn
  obtain ⟨x,hx,a,b⟩:=ui (i:=k) (d:=d) ht'
  exact ⟨x,hx,by rw [a,e],by rw [b,e2]⟩
 ·intro x hx;obtain ⟨y,hy,a,b⟩:=hin x hx;rw [a];exact h.used y hy
end
end Go.Proofs.YtbkfhjaibhnkmaaGreatDoor
