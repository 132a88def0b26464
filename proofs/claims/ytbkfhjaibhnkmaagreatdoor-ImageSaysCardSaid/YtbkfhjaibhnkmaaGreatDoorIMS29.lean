import Derived.Test.YtbkfhjaibhnkmaaGreatDoorIMS28
namespace Go.Proofs.YtbkfhjaibhnkmaaGreatDoor
set_option linter.unusedVariables false
theorem iL {r:ar}{p:Place}(h:d9 r p=0):bu p=0∧jY r.Held p=0:=by
 unfold d9 at h
 by_cases h1:bu p=0
 ·
  rw [if_pos h1] at h
  by_cases h2:jY r.Held p=0
  ·exact ⟨h1,h2⟩
  ·rw [if_neg h2] at h;omega
 ·rw [if_neg h1] at h;exact absurd h h1
theorem oI {l:List Held}{p:Place}{id:Int}(hg:Good l)(h:jY l p=0)(hi:id≠0){x:Held}:x∈cw l p id↔x=⟨p,id⟩∨x∈l:=by
 obtain ⟨A,B,e,e2⟩:=yI hg h hi
 rw [e2,e];simp only [List.mem_append,List.mem_cons];constructor <;> (rintro (h|h|h) <;> simp [h])
theorem BM {l:List Held}{p:Place}{w:Int}(hg:Good l)(h:jY l p=w)(hw:w≠0){x:Held}(hx:x∈cw l p 0):x∈l:=by
 obtain ⟨A,B,e,e2⟩:=yJ hg h hw
 rw [e2] at hx;rw [e];simp only [List.mem_append,List.mem_cons] at hx ⊢;rcases hx with h|h <;> simp [h]
section
variable {r:ar}
theorem Inv.get (h:Inv r){p:Place}(hg:(au r p).2=0):bu p=0∧(au r p).1∈r.ai∧(au r p).1.ID=jY r.Held p∧1≤(au r p).1.ID∧(au r p).1.ID<r.ae:=by
 obtain ⟨h1,h2,h3⟩:=mU hg
 exact ⟨h1,h2,h3,(h.tree.mem h2).id1,h.nD _ h2⟩
theorem Inv.fresh (h:Inv r):cH r.Held r.ae=0∧cN r.Notes r.ae=0:=by
 constructor
 ·
  refine List.countP_eq_zero.2 fun x hx=>?_
  obtain ⟨w,hw,e⟩:=h.eo x hx
  have:=h.nD w hw
  simp;omega
 ·
  refine List.countP_eq_zero.2 fun x hx=>?_
  have h0:=h.gF x hx;have h1:=h.ki
  by_cases hp:0<x.ak
  ·
   obtain ⟨w,hw,e⟩:=h.fQ x hx hp
   have:=h.nD w hw
   simp;omega
  ·simp;omega
theorem tq {l:List ak}{w:ak}(h:cR l)(hw:cM w=0)(hlt:∀y∈l,y.ID<w.ID)(hm:w.From≠0 → ∃y∈l,Made y w):cR (l++[w]):=by
 have hi:=h.is
 refine pb.ok' ⟨fun x hx=>?_,List.pairwise_append.2 ⟨hi.rise,by simp,fun a ha b hb=>by simp at hb;subst hb;exact hlt a ha⟩,fun x hx h0=>?_⟩
 ·
  rcases List.mem_append.1 hx with hx|hx
  ·exact hi.ok x hx
  ·rw [List.mem_singleton.1 hx];exact hw
 ·
  rcases List.mem_append.1 hx with hx|hx
  ·
   obtain ⟨y,hy,hmd⟩:=hi.made x hx h0
   exact ⟨y,List.mem_append.2 (.inl hy),hmd⟩
  ·
   have e:=List.mem_singleton.1 hx
   subst e
   obtain ⟨y,hy,hmd⟩:=hm h0
   exact ⟨y,List.mem_append.2 (.inl hy),hmd⟩
theorem xv {p:Place}{kind:Int}(h:(bT r p kind).2=0):(kind=1∨kind=2)∧d9 r p=0∧r.Things.length≠10∧r.af≤999∧r.ae≤999 ∧
 (0<p.aj→(bT r p kind).1=⟨r.ai++[⟨r.ae,r.af,7,0,0⟩],r.Things++[⟨r.af,kind,⟨#[]⟩⟩],cw r.Held p r.ae,r.Notes,r.ae+1,r.af+1⟩):=by
 unfold bT at h ⊢
 by_cases h1:kind=1∨kind=2
 ·
  rw [if_pos h1] at h ⊢
  by_cases h2:d9 r p=0
  ·
   rw [if_pos h2] at h ⊢
   by_cases h3:r.Things.length=10∨999<r.af∨999<r.ae
   ·rw [if_pos h3] at h;simp at h
   ·
    rw [if_neg h3]
    refine ⟨h1,h2,by omega,by omega,by omega,fun hp=>?_⟩
    unfold bz;dsimp only;rw [if_pos hp]
  ·rw [if_neg h2] at h;exact absurd h h2
 ·rw [if_neg h1] at h;simp at h
theorem Inv.make (h:Inv r){p:Place}{kind:Int}(hm:(bT r p kind).2=0):Inv (bT r p kind).1:=by
 obtain ⟨hk,hf,hl,ht,hw,he⟩:=xv hm
 obtain ⟨hp,ha⟩:=iL hf
 have hpl:=ck hp
 rw [he (by omega)]
 have n1:=h.ki;have n2:=h.kv;have hfr:=h.fresh;have hmax:=h.gh
 have hi:r.ae≠0:=by omega
 have IZ:=jR (id:=r.ae) h.good hp
 refine { tree:=tq h.tree (lr (by dsimp only;omega)) (fun y hy=>h.nD y hy) (fun h0=>absurd rfl h0),good:=IZ,nD:=?_,ki:=by show 1≤r.ae+1;omega,lC:=by show r.ae+1≤1000;omega,kv:=by show 1≤r.af+1;omega,ky:=by show r.af+1≤1000;omega,fP:=List.pairwise_append.2 ⟨h.fP,by simp,fun a ha b hb=>by simp at hb;subst hb;exact (h.qn a ha).2⟩,qn:=?_,gD:=?_,gE:=?_,gh:=by show (r.Things++[_]).length≤10;simp;omega,thing:=?_,port:=?_,hM:=h.hM,wait:=h.wait,gF:=h.gF,once:=?_,fQ:=?_,eo:=?_,used:=?_ }
 ·
  intro w hw
  show w.ID<r.ae+1
  rcases List.mem_append.1 hw with hw|hw
  ·have:=h.nD w hw;omega
  ·rw [List.mem_singleton.1 hw];show r.ae<_;omega
 ·
  intro t ht
  show 1≤t.ID∧t.ID<r.af+1
  rcases List.mem_append.1 ht with ht|ht
  ·have:=h.qn t ht;omega
  ·rw [List.mem_singleton.1 ht];show 1≤r.af∧r.af<_;omega
 ·
  intro t ht
  rcases List.mem_append.1 ht with ht|ht
  ·exact h.gD t ht
  ·rw [List.mem_singleton.1 ht];exact hk
 ·
  intro t ht
  rcases List.mem_append.1 ht with ht|ht
  ·exact h.gE t ht
  ·rw [List.mem_singleton.1 ht];exact ⟨by show (0:Nat)≤8;decide,fun _=>rfl⟩
 ·
  intro w hw
  rcases List.mem_append.1 hw with hw|hw
  ·
   obtain ⟨t,ht,e⟩:=h.thing w hw
   exact ⟨t,List.mem_append.2 (.inl ht),e⟩
  ·rw [List.mem_singleton.1 hw];exact ⟨_,List.mem_append.2 (.inr (List.mem_singleton.2 rfl)),rfl⟩
 ·
  intro n hn
  obtain ⟨t,ht,e⟩:=h.port n hn
  exact ⟨t,List.mem_append.2 (.inl ht),e⟩
 ·
  intro w hw
  show cH (cw r.Held p r.ae) w.ID+cN r.Notes w.ID=1
  rw [uo h.good ha hi]
  rcases List.mem_append.1 hw with hw|hw
  ·
   have:=h.nD w hw;have:=h.once w hw
   rw [if_neg (by omega)];omega
  ·
   rw [List.mem_singleton.1 hw];show cH r.Held r.ae+(if r.ae=r.ae then 1 else 0)+cN r.Notes r.ae=1
   rw [if_pos rfl];omega
 ·
  intro n hn h0
  obtain ⟨w,hw,e⟩:=h.fQ n hn h0
  exact ⟨w,List.mem_append.2 (.inl hw),e⟩
 ·
  intro x hx
  rcases (oI h.good ha hi).1 hx with e|hx
  ·rw [e];exact ⟨_,List.mem_append.2 (.inr (List.mem_singleton.2 rfl)),rfl⟩
  ·
   obtain ⟨w,hw,e⟩:=h.eo x hx
   exact ⟨w,List.mem_append.2 (.inl hw),e⟩
 ·
  intro t ht
  rcases List.mem_append.1 ht with ht|ht
  ·
   obtain ⟨w,hw,e⟩:=h.used t ht
   exact ⟨w,List.mem_append.2 (.inl hw),e⟩
  ·rw [List.mem_singleton.1 ht];exact ⟨_,List.mem_append.2 (.inr (List.mem_singleton.2 rfl)),rfl⟩
theorem xw {p t:Place}{a b:Int}(h:(cb r p t a b).2=0):(au r p).2=0∧d9 r t=0∧(p.aj=t.aj∨fF (au r p).1.Rights 4=true)∧r.ae≤999∧(derived (au r p).1 r.ae a b).2=0 ∧
 (0<t.aj→(cb r p t a b).1=⟨r.ai++[(derived (au r p).1 r.ae a b).1],r.Things,cw r.Held t (derived (au r p).1 r.ae a b).1.ID,r.Notes,r.ae+1,r.af⟩):=by
 unfold cb at h ⊢
 by_cases h1:(au r p).2=0
 ·
  rw [if_pos h1] at h ⊢
  by_cases h2:d9 r t=0
  ·
   rw [if_pos h2] at h ⊢
   by_cases h3:p.aj=t.aj∨fF (au r p).1.Rights 4=true
   ·
    rw [if_pos h3] at h ⊢
    by_cases h4:999<r.ae
    ·rw [if_pos h4] at h;simp at h
    ·
     rw [if_neg h4] at h ⊢
     by_cases h5:(derived (au r p).1 r.ae a b).2=0
     ·
      rw [if_pos h5]
      refine ⟨h1,h2,h3,by omega,h5,fun hp=>?_⟩
      unfold bz;dsimp only;rw [if_pos hp]
     ·rw [if_neg h5] at h;exact absurd h h5
   ·rw [if_neg h3] at h;simp at h
  ·rw [if_neg h2] at h;exact absurd h h2
 ·rw [if_neg h1] at h;exact absurd h h1
theorem Inv.derive (h:Inv r){g:ak}(hg:g∈r.ai){a b:Int}(hn:r.ae≤999)(hd:(derived g r.ae a b).2=0):cR (r.ai++[(derived g r.ae a b).1])∧(derived g r.ae a b).1.ID=r.ae∧(derived g r.ae a b).1.ao=g.ao∧(derived g r.ae a b).1.Rights=a∧(derived g r.ae a b).1.From=g.ID∧fF g.Rights a=true∧0≤a∧a≤7:=by
 obtain ⟨a0,a7,b0,b9,hh,e,hb⟩:=ju hd
 have w:=h.tree.mem hg
 have w1:=w.id1;have w2:=w.EH;have w3:=w.Fu;have w4:=w.Fv;have w5:=w.Fw;have w6:=h.nD g hg
 rw [e]
 refine ⟨tq h.tree (lr ⟨by show 1≤r.ae;omega,hn,w2,w3,?_,?_,by show 0≤g.ID;omega,w6,a0,a7⟩) (fun y hy=>h.nD y hy) (fun _=>⟨g,hg,rfl,hh,?_,rfl⟩),rfl,rfl,rfl,rfl,hh,a0,a7⟩
 ·show 0≤(if b=0 then g.aI else b);split <;> omega
 ·show (if b=0 then g.aI else b)≤99;split <;> omega
 ·
  show g.aI=0∨(if b=0 then g.aI else b)=g.aI
  split <;> omega
theorem Inv.give (h:Inv r){p t:Place}{a b:Int}(hm:(cb r p t a b).2=0):Inv (cb r p t a b).1:=by
 obtain ⟨hg,hf,hr,hw,hd,he⟩:=xw hm
 obtain ⟨hp,ha⟩:=iL hf
 have hpl:=ck hp
 obtain ⟨_,hgm,_⟩:=h.get hg
 obtain ⟨BN,hid,hth,_⟩:=h.derive hgm hw hd
 rw [he (by omega),hid]
 generalize hx:(derived (au r p).1 r.ae a b).1=x at *
 have n1:=h.ki;have hfr:=h.fresh
 have hi:r.ae≠0:=by omega
 have IZ:=jR (id:=r.ae) h.good hp
 refine { tree:=BN,good:=IZ,nD:=?_,ki:=by show 1≤r.ae+1;omega,lC:=by show r.ae+1≤1000;omega,kv:=h.kv,ky:=h.ky,fP:=h.fP,qn:=h.qn,gD:=h.gD,gE:=h.gE,gh:=h.gh,thing:=?_,port:=h.port,hM:=h.hM,wait:=h.wait,gF:=h.gF,once:=?_,fQ:=?_,eo:=?_,used:=?_ }
 ·
  intro w hw
  show w.ID<r.ae+1
  rcases List.mem_append.1 hw with hw|hw
  ·have:=h.nD w hw;omega
  ·rw [List.mem_singleton.1 hw,hid];omega
 ·
  intro w hw
  rcases List.mem_append.1 hw with hw|hw
  ·exact h.thing w hw
  ·rw [List.mem_singleton.1 hw,hth];exact h.thing _ hgm
 ·
  intro w hw
  show cH (cw r.Held t r.ae) w.ID+cN r.Notes w.ID=1
  rw [uo h.good ha hi]
  rcases List.mem_append.1 hw with hw|hw
  ·
   have:=h.nD w hw;have:=h.once w hw
   rw [if_neg (by omega)];omega
  ·rw [List.mem_singleton.1 hw,hid,if_pos rfl];omega
 ·
  intro n hn h0
  obtain ⟨w,hw,e⟩:=h.fQ n hn h0
  exact ⟨w,List.mem_append.2 (.inl hw),e⟩
 ·
  intro y hy
  rcases (oI h.good ha hi).1 hy with e|hy
  ·rw [e];exact ⟨x,List.mem_append.2 (.inr (List.mem_singleton.2 rfl)),hid⟩
  ·
   obtain ⟨w,hw,e⟩:=h.eo y hy
   exact ⟨w,List.mem_append.2 (.inl hw),e⟩
 ·
  intro t ht
  obtain ⟨w,hw,e⟩:=h.used t ht
  exact ⟨w,List.mem_append.2 (.inl hw),e⟩
theorem xx {p:Place}{s:Int}(h:(cQ r p s).2=0):(au r p).2=0∧d9 r ⟨p.aj,s⟩=0∧(cQ r p s).1=⟨r.ai,r.Things,cw (cw r.Held p 0) ⟨p.aj,s⟩ (au r p).1.ID,r.Notes,r.ae,r.af⟩:=by
 unfold cQ at h ⊢
 by_cases h1:(au r p).2=0
 ·
  rw [if_pos h1] at h ⊢
  by_cases h2:d9 r ⟨p.aj,s⟩=0
  ·rw [if_pos h2];exact ⟨h1,h2,rfl⟩
  ·rw [if_neg h2] at h;exact absurd h h2
 ·rw [if_neg h1] at h;exact absurd h h1
theorem Inv.held (h:Inv r){m:List Held}(hg:Good m)(hc:∀w∈r.ai,cH m w.ID=cH r.Held w.ID)(hs:∀x∈m,∃w∈r.ai,w.ID=x.ak):Inv ⟨r.ai,r.Things,m,r.Notes,r.ae,r.af⟩ :=
 { tree:=h.tree,good:=hg,nD:=h.nD,ki:=h.ki,lC:=h.lC,kv:=h.kv,ky:=h.ky,fP:=h.fP,qn:=h.qn,gD:=h.gD,gE:=h.gE,gh:=h.gh,thing:=h.thing,port:=h.port,hM:=h.hM,wait:=h.wait,gF:=h.gF,once:=fun w hw=>by show cH m w.ID+_=1;rw [hc w hw];exact h.once w hw,fQ:=h.fQ,eo:=hs,used:=h.used }
theorem Inv.move (h:Inv r){p:Place}{s:Int}(hm:(cQ r p s).2=0):Inv (cQ r p s).1:=by
 obtain ⟨hg,hf,he⟩:=xx hm
 obtain ⟨hp,ha⟩:=iL hf
 obtain ⟨hpf,hgm,hat,h1,_⟩:=h.get hg
 rw [he]
 have hi:(au r p).1.ID≠0:=by omega
 have hg1:Good (cw r.Held p 0):=jR h.good hpf
 have hne:¬ (⟨p.aj,s⟩:Place)=p:=fun e=>by rw [e] at ha;omega
 have ha1:jY (cw r.Held p 0) ⟨p.aj,s⟩=0:=by rw [zC h.good hpf hne];exact ha
 refine h.held (jR hg1 hp) (fun w hw=>?_) (fun x hx=>?_)
 ·rw [uo hg1 ha1 hi,← FC h.good hat.symm hi]
 ·
  rcases (oI hg1 ha1 hi).1 hx with e|hx
  ·rw [e];exact ⟨_,hgm,rfl⟩
  ·exact h.eo x (BM h.good hat.symm hi hx)
theorem Pre.pZ (h:Pre r){l:List ak}(ht:cR l)(hs:∀v∈l,∃w∈r.ai,Like v w):Pre ⟨l,r.Things,r.Held,r.Notes,r.ae,r.af⟩ :=
 { tree:=ht,good:=h.good,nD:=fun v hv=>by obtain ⟨w,hw,k⟩:=hs v hv;rw [k.id];exact h.nD w hw,ki:=h.ki,lC:=h.lC,kv:=h.kv,ky:=h.ky,fP:=h.fP,qn:=h.qn,gD:=h.gD,gE:=h.gE,gh:=h.gh,thing:=fun v hv=>by obtain ⟨w,hw,k⟩:=hs v hv;rw [k.th];exact h.thing w hw,port:=h.port,hM:=h.hM,wait:=h.wait,gF:=h.gF,once:=fun v hv=>by obtain ⟨w,hw,k⟩:=hs v hv;rw [k.id];exact h.once w hw }
theorem Pre.wo (h:Pre r)(id:Int):Pre ⟨without r.ai id,r.Things,r.Held,r.Notes,r.ae,r.af⟩ :=
 h.pZ (h.tree.wo id) (fun v hv=>by obtain ⟨y,hy,_,rfl⟩:=fC.1 hv;exact ⟨y,hy,qC _ _ y⟩)
theorem oJ {l:List ak}{id:Int}{x:ak}:x∈vF l id↔x∈l∧¬ x.ID∈eb id l:=by
 unfold vF;rw [List.mem_filter];simp
theorem BO {l:List ak}(h:cR l){id:Int}{x y:ak}(hi:0≤cB l id)(hx:x∈l)(hy:y∈l)(e:y.ID=x.From)(hb:y.ID∈eb id l):x.ID∈eb id l:=by
 have h1:=iG hx;have h2:=iG hy
 rw [s8 h hi h1]
 rw [s8 h hi h2] at hb
 unfold above at hb ⊢
 obtain ⟨x',_,e1,hx',e2⟩:=kL h1
 have:x'=x:=h.inj hx' hx e1
 subst this
 rw [e2,← e,nO h h2]
 exact List.mem_cons_of_mem _ hb
theorem cR.cut {l:List ak}(h:cR l){id:Int}(hi:0≤cB l id):cR (vF l id):=by
 have hs:=h.is
 refine pb.ok' ⟨fun x hx=>hs.ok x (oJ.1 hx).1,hs.rise.filter _,fun x hx h0=>?_⟩
 obtain ⟨h1,h2⟩:=oJ.1 hx
 obtain ⟨y,hy,hm⟩:=hs.made x h1 h0
 exact ⟨y,oJ.2 ⟨hy,fun hb=>h2 (BO h hi h1 hy hm.Ah hb)⟩,hm⟩
theorem Pre.cut (h:Pre r){id:Int}(hi:0≤cB r.ai id):Pre ⟨vF r.ai id,r.Things,r.Held,r.Notes,r.ae,r.af⟩ :=
 h.pZ (h.tree.cut hi) (fun v hv=>⟨v,(oJ.1 hv).1,Like.refl v⟩)
theorem xy {p:Place}(h:(cX r p).2=0):(au r p).2=0∧(cX r p).1=aY ⟨without r.ai (au r p).1.ID,r.Things,r.Held,r.Notes,r.ae,r.af⟩:=by
 unfold cX at h ⊢
 by_cases h1:(au r p).2=0
 ·rw [if_pos h1];exact ⟨h1,rfl⟩
 ·rw [if_neg h1] at h;exact absurd h h1
theorem uq {p:Place}(h:(bQ r p).2=0):(au r p).2=0∧(bQ r p).1=aY ⟨vF r.ai (au r p).1.ID,r.Things,r.Held,r.Notes,r.ae,r.af⟩:=by
 unfold bQ at h ⊢
 by_cases h1:(au r p).2=0
 ·rw [if_pos h1];exact ⟨h1,rfl⟩
 ·rw [if_neg h1] at h;exact absurd h h1
theorem Inv.drop (h:Inv r){p:Place}(hm:(cX r p).2=0):Inv (cX r p).1:=by
 rw [(xy hm).2];exact px (h.toPre.wo _)
theorem Inv.FH (h:Inv r){p:Place}(hm:(bQ r p).2=0):Inv (bQ r p).1:=by
 obtain ⟨hg,he⟩:=uq hm
 rw [he];exact px (h.toPre.cut (iG (h.get hg).2.1))
theorem mem_set {l:List ao}{i:Nat}{d:ByteArray}{x:ao}(h:x∈eY l i d):∃ (k:Nat) (t:ao),l[k]? = some t∧x.ID=t.ID∧x.Kind=t.Kind∧(x.Data=t.Data∨k=i∧x.Data=d):=by
 unfold eY at h
 split at h
 ·
  rename_i t ht
  obtain ⟨k,hk⟩:=List.mem_iff_getElem?.1 h
  rw [List.getElem?_set] at hk
  split at hk
  ·
   rename_i e;subst e
   split at hk
   ·injection hk with hk;subst hk;exact ⟨_,t,ht,rfl,rfl,.inr ⟨rfl,rfl⟩⟩
   ·cases hk
  ·exact ⟨k,x,hk,rfl,rfl,.inl rfl⟩
 ·
  obtain ⟨k,hk⟩:=List.mem_iff_getElem?.1 h
  exact ⟨k,x,hk,rfl,rfl,.inl rfl⟩
theorem yK {l:List ao}{i:Nat}{d:ByteArray}{t:ao}(h:t∈l):∃x∈eY l i d,x.ID=t.ID∧x.Kind=t.Kind:=by
 unfold eY
 split
 ·
  rename_i y hy
  obtain ⟨k,hk⟩:=List.mem_iff_getElem?.1 h
  by_cases e:i=k
  ·
   subst e;rw [hk] at hy;injection hy with hy;subst hy
   exact ⟨_,List.mem_set (by have:=(List.getElem?_eq_some_iff.1 hk).1;exact this) _,rfl,rfl⟩
  ·exact ⟨t,List.mem_of_getElem? (i:=k) (by rw [List.getElem?_set,if_neg e];exact hk),rfl,rfl⟩
 ·exact ⟨t,h,rfl,rfl⟩
theorem DI (l:List ao)(i:Nat)(d:ByteArray):(eY l i d).map ao.ID=l.map ao.ID:=by
 unfold eY
 split
 ·
  rename_i t ht
  rw [List.map_set]
  apply List.ext_getElem?
  intro k
  rw [List.getElem?_set]
  split
  ·
   rename_i e;subst e;rw [List.getElem?_map,ht]
   split
   ·rfl
   ·rename_i hk;exfalso;apply hk;have:=(List.getElem?_eq_some_iff.1 ht).1;simpa using this
  ·rfl
 ·rfl
theorem vV {p:Place}{d:ByteArray}(h:(cd r p d).2=0):(aM r p 1 2).2.2=0∧d.size≤8∧(cd r p d).1=⟨r.ai,eY r.Things (aM r p 1 2).2.1.toNat d,r.Held,r.Notes,r.ae,r.af⟩:=by
 unfold cd at h ⊢
 by_cases h1:(aM r p 1 2).2.2=0
 ·
  rw [if_pos h1] at h ⊢
  by_cases h2:8<d.size
  ·rw [if_pos h2] at h;simp at h
  ·rw [if_neg h2];exact ⟨h1,by omega,rfl⟩
 ·rw [if_neg h1] at h;exact absurd h h1
theorem Inv.write (h:Inv r){p:Place}{d:ByteArray}(hm:(cd r p d).2=0):Inv (cd r p d).1:=by
 obtain ⟨hy,hd,he⟩:=vV hm
 obtain ⟨_,_,_,k,t,hk,ht,JU,htk,_⟩:=iJ hy
 rw [he,hk,Int.toNat_natCast]
 have I0:=DI r.Things k d
 have hin:∀x∈eY r.Things k d,∃y∈r.Things,x.ID=y.ID∧x.Kind=y.Kind:=fun x hx=>by
  obtain ⟨j,y,hj,a,b,_⟩:=mem_set hx;exact ⟨y,List.mem_of_getElem? hj,a,b⟩
 refine { tree:=h.tree,good:=h.good,nD:=h.nD,ki:=h.ki,lC:=h.lC,kv:=h.kv,ky:=h.ky,fP:=?_,qn:=?_,gD:=?_,gE:=?_,gh:=by show (eY _ _ _).length≤10;rw [p7];exact h.gh,thing:=?_,port:=?_,hM:=h.hM,wait:=h.wait,gF:=h.gF,once:=h.once,fQ:=h.fQ,eo:=h.eo,used:=?_ }
 ·
  have h1:(r.Things.map ao.ID).Pairwise (· < ·):=List.pairwise_map.2 h.fP
  show (eY r.Things k d).Pairwise _
  rw [← I0] at h1
  exact List.pairwise_map.1 h1
 ·intro x hx;obtain ⟨y,hy,a,b⟩:=hin x hx;show 1≤x.ID∧x.ID<r.af;rw [a];exact h.qn y hy
 ·intro x hx;obtain ⟨y,hy,a,b⟩:=hin x hx;rw [b];exact h.gD y hy
 ·
  intro x hx
  obtain ⟨j,y,hj,a,b,c⟩:=mem_set hx
  have:=h.gE y (List.mem_of_getElem? hj)
  rcases c with c|⟨c,c2⟩
  ·rw [c,b];exact this
  ·
   subst c;rw [ht] at hj;injection hj with hj;subst hj
   rw [c2];exact ⟨hd,fun h2=>by rw [b,htk] at h2;omega⟩
 ·
  intro w hw
  obtain ⟨t',ht',e⟩:=h.thing w hw
  obtain ⟨x,hx,a,_⟩:=yK (i:=k) (d:=d) ht'
  exact ⟨x,hx,by rw [a,e]⟩
 ·
  intro n hn
  obtain ⟨t',ht',e,e2⟩:=h.port n hn
  obtain ⟨x,hx,a,b⟩:=yK (i:=k) (d:=d) ht'
  exact ⟨x,hx,by rw [a,e],by rw [b,e2]⟩
 ·intro x hx;obtain ⟨y,hy,a,b⟩:=hin x hx;rw [a];exact h.used y hy
end
end Go.Proofs.YtbkfhjaibhnkmaaGreatDoor
