import Derived.Test.YtkbhcbipadkcaaaGreatDoorTO34
namespace Go.Proofs.YtkbhcbipadkcaaaGreatDoor
set_option linter.unusedVariables false
set_option linter.unusedSimpArgs false
theorem me {r:aC}{p:Place}(h:gL r p=0):aY p=0/\mU r.Held p=0:=by
 unfold gL at h
 by_cases h1:aY p=0
 .
  rw [if_pos h1] at h
  by_cases h2:mU r.Held p=0
  .exact ⟨h1,h2⟩
  .rw [if_neg h2] at h;omega
 .rw [if_neg h1] at h;exact absurd h h1
theorem lE {l:List Held}{p:Place}{id:Int}(hg:Good l)(h:mU l p=0)(hi:id≠0){x:Held}:x∈fP l p id↔x=⟨p,id⟩∨x∈l:=by
 obtain ⟨A,B,e,e2⟩:=Gx hg h hi
 rw [e2,e];simp only [List.mem_append,List.mem_cons];constructor <;> (rintro (h|h|h) <;> simp [h])
theorem Dw {l:List Held}{p:Place}{w:Int}(hg:Good l)(h:mU l p=w)(hw:w≠0){x:Held}(hx:x∈fP l p 0):x∈l:=by
 obtain ⟨A,B,e,e2⟩:=BH hg h hw
 rw [e2] at hx;rw [e];simp only [List.mem_append,List.mem_cons] at hx ⊢;rcases hx with h|h <;> simp [h]
section
variable {r:aC}
theorem Inv.get (h:Inv r){p:Place}(hg:(aS r p).2=0):aY p=0/\(aS r p).1∈r.ak/\(aS r p).1.ID=mU r.Held p/\1<=(aS r p).1.ID/\(aS r p).1.ID<r.ae:=by
 obtain ⟨h1,h2,h3⟩:=zK hg
 exact ⟨h1,h2,h3,(h.tree.mem h2).id1,h.sj _ h2⟩
theorem Inv.fresh (h:Inv r):cH r.Held r.ae=0/\cN r.Notes r.ae=0:=by
 constructor
 .
  refine List.countP_eq_zero.2 fun x hx=>?_
  obtain ⟨w,hw,e⟩:=h.eP x hx
  have:=h.sj w hw
  simp;omega
 .
  refine List.countP_eq_zero.2 fun x hx=>?_
  have h0:=h.jD x hx;have h1:=h.oX
  by_cases hp:0<x.aj
  .
   obtain ⟨w,hw,e⟩:=h.iy x hx hp
   have:=h.sj w hw
   simp;omega
  .simp;omega
theorem zU {l:List aj}{w:aj}(h:cR l)(hw:cr w=0)(hlt:∀y∈l,y.ID<w.ID)(hm:w.From≠0 -> ∃y∈l,Made y w):cR (l++[w]):=by
 have hi:=h.is
 refine t7.ok' ⟨fun x hx=>?_,List.pairwise_append.2 ⟨hi.rise,by simp,fun a ha b hb=>by simp at hb;subst hb;exact hlt a ha⟩,fun x hx h0=>?_⟩
 .
  rcases List.mem_append.1 hx with hx|hx
  .exact hi.ok x hx
  .rw [List.mem_singleton.1 hx];exact hw
 .
  rcases List.mem_append.1 hx with hx|hx
  .
   obtain ⟨y,hy,hmd⟩:=hi.made x hx h0
   exact ⟨y,List.mem_append.2 (.inl hy),hmd⟩
  .
   have e:=List.mem_singleton.1 hx
   subst e
   obtain ⟨y,hy,hmd⟩:=hm h0
   exact ⟨y,List.mem_append.2 (.inl hy),hmd⟩
theorem xU {p:Place}{kind:Int}(h:(dU r p kind).2=0):(kind=1∨kind=2)/\gL r p=0/\r.Things.length≠10/\r.ah<=999/\r.ae<=999 /\
 (0<p.aB->(dU r p kind).1=⟨r.ak++[⟨r.ae,r.ah,7,0,0⟩],r.Things++[⟨r.ah,kind,⟨#[]⟩⟩],fP r.Held p r.ae,r.Notes,r.ae+1,r.ah+1⟩):=by
 unfold dU at h ⊢
 by_cases h1:kind=1∨kind=2
 .
  rw [if_pos h1] at h ⊢
  by_cases h2:gL r p=0
  .
   rw [if_pos h2] at h ⊢
   by_cases h3:r.Things.length=10∨999<r.ah∨999<r.ae
   .rw [if_pos h3] at h;simp at h
   .
    rw [if_neg h3]
    refine ⟨h1,h2,by omega,by omega,by omega,fun hp=>?_⟩
    unfold fx;dsimp only;rw [if_pos hp]
  .rw [if_neg h2] at h;exact absurd h h2
 .rw [if_neg h1] at h;simp at h
theorem Inv.make (h:Inv r){p:Place}{kind:Int}(hm:(dU r p kind).2=0):Inv (dU r p kind).1:=by
 obtain ⟨hk,hf,hl,ht,hw,he⟩:=xU hm
 obtain ⟨hp,ha⟩:=me hf
 have hpl:=cu hp
 rw [he (by omega)]
 have n1:=h.oX;have n2:=h.pA;have hfr:=h.fresh;have hmax:=h.jr
 have hi:r.ae≠0:=by omega
 have Ui:=mI (id:=r.ae) h.good hp
 refine { tree:=zU h.tree (oP (by dsimp only;omega)) (fun y hy=>h.sj y hy) (fun h0=>absurd rfl h0),good:=Ui,sj:=?_,oX:=by show 1<=r.ae+1;omega,qZ:=by show r.ae+1<=1000;omega,pA:=by show 1<=r.ah+1;omega,pB:=by show r.ah+1<=1000;omega,jq:=List.pairwise_append.2 ⟨h.jq,by simp,fun a ha b hb=>by simp at hb;subst hb;exact (h.vC a ha).2⟩,vC:=?_,jB:=?_,jC:=?_,jr:=by show (r.Things++[_]).length<=10;simp;omega,thing:=?_,port:=?_,kF:=h.kF,wait:=h.wait,jD:=h.jD,once:=?_,iy:=?_,eP:=?_,used:=?_ }
 .
  intro w hw
  show w.ID<r.ae+1
  rcases List.mem_append.1 hw with hw|hw
  .have:=h.sj w hw;omega
  .rw [List.mem_singleton.1 hw];show r.ae<_;omega
 .
  intro t ht
  show 1<=t.ID/\t.ID<r.ah+1
  rcases List.mem_append.1 ht with ht|ht
  .have:=h.vC t ht;omega
  .rw [List.mem_singleton.1 ht];show 1<=r.ah/\r.ah<_;omega
 .
  intro t ht
  rcases List.mem_append.1 ht with ht|ht
  .exact h.jB t ht
  .rw [List.mem_singleton.1 ht];exact hk
 .
  intro t ht
  rcases List.mem_append.1 ht with ht|ht
  .exact h.jC t ht
  .rw [List.mem_singleton.1 ht];exact ⟨by show (0:Nat)<=8;decide,fun _=>rfl⟩
 .
  intro w hw
  rcases List.mem_append.1 hw with hw|hw
  .
   obtain ⟨t,ht,e⟩:=h.thing w hw
   exact ⟨t,List.mem_append.2 (.inl ht),e⟩
  .rw [List.mem_singleton.1 hw];exact ⟨_,List.mem_append.2 (.inr (List.mem_singleton.2 rfl)),rfl⟩
 .
  intro n hn
  obtain ⟨t,ht,e⟩:=h.port n hn
  exact ⟨t,List.mem_append.2 (.inl ht),e⟩
 .
  intro w hw
  show cH (fP r.Held p r.ae) w.ID+cN r.Notes w.ID=1
  rw [BJ h.good ha hi]
  rcases List.mem_append.1 hw with hw|hw
  .
   have:=h.sj w hw;have:=h.once w hw
   rw [if_neg (by omega)];omega
  .
   rw [List.mem_singleton.1 hw];show cH r.Held r.ae+(if r.ae=r.ae then 1 else 0)+cN r.Notes r.ae=1
   rw [if_pos rfl];omega
 .
  intro n hn h0
  obtain ⟨w,hw,e⟩:=h.iy n hn h0
  exact ⟨w,List.mem_append.2 (.inl hw),e⟩
 .
  intro x hx
  rcases (lE h.good ha hi).1 hx with e|hx
  .rw [e];exact ⟨_,List.mem_append.2 (.inr (List.mem_singleton.2 rfl)),rfl⟩
  .
   obtain ⟨w,hw,e⟩:=h.eP x hx
   exact ⟨w,List.mem_append.2 (.inl hw),e⟩
 .
  intro t ht
  rcases List.mem_append.1 ht with ht|ht
  .
   obtain ⟨w,hw,e⟩:=h.used t ht
   exact ⟨w,List.mem_append.2 (.inl hw),e⟩
  .rw [List.mem_singleton.1 ht];exact ⟨_,List.mem_append.2 (.inr (List.mem_singleton.2 rfl)),rfl⟩
theorem xV {p t:Place}{a b:Int}(h:(fk r p t a b).2=0):(aS r p).2=0/\gL r t=0/\(p.aB=t.aB∨ji (aS r p).1.Rights 4=true)/\r.ae<=999/\(derived (aS r p).1 r.ae a b).2=0 /\
 (0<t.aB->(fk r p t a b).1=⟨r.ak++[(derived (aS r p).1 r.ae a b).1],r.Things,fP r.Held t (derived (aS r p).1 r.ae a b).1.ID,r.Notes,r.ae+1,r.ah⟩):=by
 unfold fk at h ⊢
 by_cases h1:(aS r p).2=0
 .
  rw [if_pos h1] at h ⊢
  by_cases h2:gL r t=0
  .
   rw [if_pos h2] at h ⊢
   by_cases h3:p.aB=t.aB∨ji (aS r p).1.Rights 4=true
   .
    rw [if_pos h3] at h ⊢
    by_cases h4:999<r.ae
    .rw [if_pos h4] at h;simp at h
    .
     rw [if_neg h4] at h ⊢
     by_cases h5:(derived (aS r p).1 r.ae a b).2=0
     .
      rw [if_pos h5]
      refine ⟨h1,h2,h3,by omega,h5,fun hp=>?_⟩
      unfold fx;dsimp only;rw [if_pos hp]
     .rw [if_neg h5] at h;exact absurd h h5
   .rw [if_neg h3] at h;simp at h
  .rw [if_neg h2] at h;exact absurd h h2
 .rw [if_neg h1] at h;exact absurd h h1
theorem Inv.derive (h:Inv r){g:aj}(hg:g∈r.ak){a b:Int}(hn:r.ae<=999)(hd:(derived g r.ae a b).2=0):cR (r.ak++[(derived g r.ae a b).1])/\(derived g r.ae a b).1.ID=r.ae/\(derived g r.ae a b).1.aE=g.aE/\(derived g r.ae a b).1.Rights=a/\(derived g r.ae a b).1.From=g.ID/\ji g.Rights a=true/\0<=a/\a<=7:=by
 obtain ⟨a0,a7,b0,b9,hh,e,hb⟩:=tf hd
 have w:=h.tree.mem hg
 have w1:=w.id1;have w2:=w.Qf;have w3:=w.Qg;have w4:=w.Qh;have w5:=w.Qi;have w6:=h.sj g hg
 rw [e]
 refine ⟨zU h.tree (oP ⟨by show 1<=r.ae;omega,hn,w2,w3,?_,?_,by show 0<=g.ID;omega,w6,a0,a7⟩) (fun y hy=>h.sj y hy) (fun _=>⟨g,hg,rfl,hh,?_,rfl⟩),rfl,rfl,rfl,rfl,hh,a0,a7⟩
 .show 0<=(if b=0 then g.aQ else b);split <;> omega
 .show (if b=0 then g.aQ else b)<=99;split <;> omega
 .
  show g.aQ=0∨(if b=0 then g.aQ else b)=g.aQ
  split <;> omega
theorem Inv.give (h:Inv r){p t:Place}{a b:Int}(hm:(fk r p t a b).2=0):Inv (fk r p t a b).1:=by
 obtain ⟨hg,hf,hr,hw,hd,he⟩:=xV hm
 obtain ⟨hp,ha⟩:=me hf
 have hpl:=cu hp
 obtain ⟨_,hgm,_⟩:=h.get hg
 obtain ⟨Gy,hid,hth,_⟩:=h.derive hgm hw hd
 rw [he (by omega),hid]
 generalize hx:(derived (aS r p).1 r.ae a b).1=x at *
 have n1:=h.oX;have hfr:=h.fresh
 have hi:r.ae≠0:=by omega
 have Ui:=mI (id:=r.ae) h.good hp
 refine { tree:=Gy,good:=Ui,sj:=?_,oX:=by show 1<=r.ae+1;omega,qZ:=by show r.ae+1<=1000;omega,pA:=h.pA,pB:=h.pB,jq:=h.jq,vC:=h.vC,jB:=h.jB,jC:=h.jC,jr:=h.jr,thing:=?_,port:=h.port,kF:=h.kF,wait:=h.wait,jD:=h.jD,once:=?_,iy:=?_,eP:=?_,used:=?_ }
 .
  intro w hw
  show w.ID<r.ae+1
  rcases List.mem_append.1 hw with hw|hw
  .have:=h.sj w hw;omega
  .rw [List.mem_singleton.1 hw,hid];omega
 .
  intro w hw
  rcases List.mem_append.1 hw with hw|hw
  .exact h.thing w hw
  .rw [List.mem_singleton.1 hw,hth];exact h.thing _ hgm
 .
  intro w hw
  show cH (fP r.Held t r.ae) w.ID+cN r.Notes w.ID=1
  rw [BJ h.good ha hi]
  rcases List.mem_append.1 hw with hw|hw
  .
   have:=h.sj w hw;have:=h.once w hw
   rw [if_neg (by omega)];omega
  .rw [List.mem_singleton.1 hw,hid,if_pos rfl];omega
 .
  intro n hn h0
  obtain ⟨w,hw,e⟩:=h.iy n hn h0
  exact ⟨w,List.mem_append.2 (.inl hw),e⟩
 .
  intro y hy
  rcases (lE h.good ha hi).1 hy with e|hy
  .rw [e];exact ⟨x,List.mem_append.2 (.inr (List.mem_singleton.2 rfl)),hid⟩
  .
   obtain ⟨w,hw,e⟩:=h.eP y hy
   exact ⟨w,List.mem_append.2 (.inl hw),e⟩
 .
  intro t ht
  obtain ⟨w,hw,e⟩:=h.used t ht
  exact ⟨w,List.mem_append.2 (.inl hw),e⟩
theorem xW {p:Place}{s:Int}(h:(jl r p s).2=0):(aS r p).2=0/\gL r ⟨p.aB,s⟩=0/\(jl r p s).1=⟨r.ak,r.Things,fP (fP r.Held p 0) ⟨p.aB,s⟩ (aS r p).1.ID,r.Notes,r.ae,r.ah⟩:=by
 unfold jl at h ⊢
 by_cases h1:(aS r p).2=0
 .
  rw [if_pos h1] at h ⊢
  by_cases h2:gL r ⟨p.aB,s⟩=0
  .rw [if_pos h2];exact ⟨h1,h2,rfl⟩
  .rw [if_neg h2] at h;exact absurd h h2
 .rw [if_neg h1] at h;exact absurd h h1
theorem Inv.held (h:Inv r){m:List Held}(hg:Good m)(hc:∀w∈r.ak,cH m w.ID=cH r.Held w.ID)(hs:∀x∈m,∃w∈r.ak,w.ID=x.aj):Inv ⟨r.ak,r.Things,m,r.Notes,r.ae,r.ah⟩ :=
 { tree:=h.tree,good:=hg,sj:=h.sj,oX:=h.oX,qZ:=h.qZ,pA:=h.pA,pB:=h.pB,jq:=h.jq,vC:=h.vC,jB:=h.jB,jC:=h.jC,jr:=h.jr,thing:=h.thing,port:=h.port,kF:=h.kF,wait:=h.wait,jD:=h.jD,once:=fun w hw=>by show cH m w.ID+_=1;rw [hc w hw];exact h.once w hw,iy:=h.iy,eP:=hs,used:=h.used }
theorem Inv.move (h:Inv r){p:Place}{s:Int}(hm:(jl r p s).2=0):Inv (jl r p s).1:=by
 obtain ⟨hg,hf,he⟩:=xW hm
 obtain ⟨hp,ha⟩:=me hf
 obtain ⟨hpf,hgm,hat,h1,_⟩:=h.get hg
 rw [he]
 have hi:(aS r p).1.ID≠0:=by omega
 have hg1:Good (fP r.Held p 0):=mI h.good hpf
 have hne:¬ (⟨p.aB,s⟩:Place)=p:=fun e=>by rw [e] at ha;omega
 have ha1:mU (fP r.Held p 0) ⟨p.aB,s⟩=0:=by rw [zO h.good hpf hne];exact ha
 refine h.held (mI hg1 hp) (fun w hw=>?_) (fun x hx=>?_)
 .rw [BJ hg1 ha1 hi,<- Qp h.good hat.symm hi]
 .
  rcases (lE hg1 ha1 hi).1 hx with e|hx
  .rw [e];exact ⟨_,hgm,rfl⟩
  .exact h.eP x (Dw h.good hat.symm hi hx)
theorem Pre.uL (h:Pre r){l:List aj}(ht:cR l)(hs:∀v∈l,∃w∈r.ak,Like v w):Pre ⟨l,r.Things,r.Held,r.Notes,r.ae,r.ah⟩ :=
 { tree:=ht,good:=h.good,sj:=fun v hv=>by obtain ⟨w,hw,k⟩:=hs v hv;rw [k.id];exact h.sj w hw,oX:=h.oX,qZ:=h.qZ,pA:=h.pA,pB:=h.pB,jq:=h.jq,vC:=h.vC,jB:=h.jB,jC:=h.jC,jr:=h.jr,thing:=fun v hv=>by obtain ⟨w,hw,k⟩:=hs v hv;rw [k.th];exact h.thing w hw,port:=h.port,kF:=h.kF,wait:=h.wait,jD:=h.jD,once:=fun v hv=>by obtain ⟨w,hw,k⟩:=hs v hv;rw [k.id];exact h.once w hw }
theorem Pre.wo (h:Pre r)(id:Int):Pre ⟨without r.ak id,r.Things,r.Held,r.Notes,r.ae,r.ah⟩ :=
 h.uL (h.tree.wo id) (fun v hv=>by obtain ⟨y,hy,_,rfl⟩:=gK.1 hv;exact ⟨y,hy,vD _ _ y⟩)
theorem tu {l:List aj}{id:Int}{x:aj}:x∈E6 l id↔x∈l/\¬ x.ID∈kB id l:=by
 unfold E6;rw [List.mem_filter];simp
theorem K5 {l:List aj}(h:cR l){id:Int}{x y:aj}(hi:0<=cG l id)(hx:x∈l)(hy:y∈l)(e:y.ID=x.From)(hb:y.ID∈kB id l):x.ID∈kB id l:=by
 have h1:=mb hx;have h2:=mb hy
 rw [zH h hi h1]
 rw [zH h hi h2] at hb
 unfold above at hb ⊢
 obtain ⟨x',_,e1,hx',e2⟩:=oc h1
 have:x'=x:=h.inj hx' hx e1
 subst this
 rw [e2,<- e,sf h h2]
 exact List.mem_cons_of_mem _ hb
theorem cR.cut {l:List aj}(h:cR l){id:Int}(hi:0<=cG l id):cR (E6 l id):=by
 have hs:=h.is
 refine t7.ok' ⟨fun x hx=>hs.ok x (tu.1 hx).1,hs.rise.filter _,fun x hx h0=>?_⟩
 obtain ⟨h1,h2⟩:=tu.1 hx
 obtain ⟨y,hy,hm⟩:=hs.made x h1 h0
 exact ⟨y,tu.2 ⟨hy,fun hb=>h2 (K5 h hi h1 hy hm.gp hb)⟩,hm⟩
theorem Pre.cut (h:Pre r){id:Int}(hi:0<=cG r.ak id):Pre ⟨E6 r.ak id,r.Things,r.Held,r.Notes,r.ae,r.ah⟩ :=
 h.uL (h.tree.cut hi) (fun v hv=>⟨v,(tu.1 hv).1,Like.refl v⟩)
theorem xX {p:Place}(h:(jL r p).2=0):(aS r p).2=0/\(jL r p).1=dR ⟨without r.ak (aS r p).1.ID,r.Things,r.Held,r.Notes,r.ae,r.ah⟩:=by
 unfold jL at h ⊢
 by_cases h1:(aS r p).2=0
 .rw [if_pos h1];exact ⟨h1,rfl⟩
 .rw [if_neg h1] at h;exact absurd h h1
theorem tv {p:Place}(h:(fc r p).2=0):(aS r p).2=0/\(fc r p).1=dR ⟨E6 r.ak (aS r p).1.ID,r.Things,r.Held,r.Notes,r.ae,r.ah⟩:=by
 unfold fc at h ⊢
 by_cases h1:(aS r p).2=0
 .rw [if_pos h1];exact ⟨h1,rfl⟩
 .rw [if_neg h1] at h;exact absurd h h1
theorem Inv.drop (h:Inv r){p:Place}(hm:(jL r p).2=0):Inv (jL r p).1:=by
 rw [(xX hm).2];exact ug (h.toPre.wo _)
theorem Inv.Qu (h:Inv r){p:Place}(hm:(fc r p).2=0):Inv (fc r p).1:=by
 obtain ⟨hg,he⟩:=tv hm
 rw [he];exact ug (h.toPre.cut (mb (h.get hg).2.1))
theorem mem_set {l:List aE}{i:Nat}{d:ByteArray}{x:aE}(h:x∈gW l i d):∃ (k:Nat) (t:aE),l[k]? = some t/\x.ID=t.ID/\x.Kind=t.Kind/\(x.Data=t.Data∨k=i/\x.Data=d):=by
 unfold gW at h
 split at h
 .
  rename_i t ht
  obtain ⟨k,hk⟩:=List.mem_iff_getElem?.1 h
  rw [List.getElem?_set] at hk
  split at hk
  .
   rename_i e;subst e
   split at hk
   .injection hk with hk;subst hk;exact ⟨_,t,ht,rfl,rfl,.inr ⟨rfl,rfl⟩⟩
   .cases hk
  .exact ⟨k,x,hk,rfl,rfl,.inl rfl⟩
 .
  obtain ⟨k,hk⟩:=List.mem_iff_getElem?.1 h
  exact ⟨k,x,hk,rfl,rfl,.inl rfl⟩
theorem Gz {l:List aE}{i:Nat}{d:ByteArray}{t:aE}(h:t∈l):∃x∈gW l i d,x.ID=t.ID/\x.Kind=t.Kind:=by
 unfold gW
 split
 .
  rename_i y hy
  obtain ⟨k,hk⟩:=List.mem_iff_getElem?.1 h
  by_cases e:i=k
  .
   subst e;rw [hk] at hy;injection hy with hy;subst hy
   exact ⟨_,List.mem_set (by have:=(List.getElem?_eq_some_iff.1 hk).1;exact this) _,rfl,rfl⟩
  .exact ⟨t,List.mem_of_getElem? (i:=k) (by rw [List.getElem?_set,if_neg e];exact hk),rfl,rfl⟩
 .exact ⟨t,h,rfl,rfl⟩
theorem M0 (l:List aE)(i:Nat)(d:ByteArray):(gW l i d).map aE.ID=l.map aE.ID:=by
 unfold gW
 split
 .
  rename_i t ht
  rw [List.map_set]
  apply List.ext_getElem?
  intro k
  rw [List.getElem?_set]
  split
  .
   rename_i e;subst e;rw [List.getElem?_map,ht]
   split
   .rfl
   .rename_i hk;exfalso;apply hk;have:=(List.getElem?_eq_some_iff.1 ht).1;simpa using this
  .rfl
 .rfl
theorem uS {p:Place}{d:ByteArray}(h:(fV r p d).2=0):(cC r p 1 2).2.2=0/\d.size<=8/\(fV r p d).1=⟨r.ak,gW r.Things (cC r p 1 2).2.1.toNat d,r.Held,r.Notes,r.ae,r.ah⟩:=by
 unfold fV at h ⊢
 by_cases h1:(cC r p 1 2).2.2=0
 .
  rw [if_pos h1] at h ⊢
  by_cases h2:8<d.size
  .rw [if_pos h2] at h;simp at h
  .rw [if_neg h2];exact ⟨h1,by omega,rfl⟩
 .rw [if_neg h1] at h;exact absurd h h1
theorem Inv.write (h:Inv r){p:Place}{d:ByteArray}(hm:(fV r p d).2=0):Inv (fV r p d).1:=by
 obtain ⟨hy,hd,he⟩:=uS hm
 obtain ⟨_,_,_,k,t,hk,ht,VT,htk,_⟩:=qU hy
 rw [he,hk,Int.toNat_natCast]
 have Uj:=M0 r.Things k d
 have hin:∀x∈gW r.Things k d,∃y∈r.Things,x.ID=y.ID/\x.Kind=y.Kind:=fun x hx=>by
  obtain ⟨j,y,hj,a,b,_⟩:=mem_set hx;exact ⟨y,List.mem_of_getElem? hj,a,b⟩
 refine { tree:=h.tree,good:=h.good,sj:=h.sj,oX:=h.oX,qZ:=h.qZ,pA:=h.pA,pB:=h.pB,jq:=?_,vC:=?_,jB:=?_,jC:=?_,jr:=by show (gW _ _ _).length<=10;rw [uO];exact h.jr,thing:=?_,port:=?_,kF:=h.kF,wait:=h.wait,jD:=h.jD,once:=h.once,iy:=h.iy,eP:=h.eP,used:=?_ }
 .
  have h1:(r.Things.map aE.ID).Pairwise (· < ·):=List.pairwise_map.2 h.jq
  show (gW r.Things k d).Pairwise _
  rw [<- Uj] at h1
  exact List.pairwise_map.1 h1
 .intro x hx;obtain ⟨y,hy,a,b⟩:=hin x hx;show 1<=x.ID/\x.ID<r.ah;rw [a];exact h.vC y hy
 .intro x hx;obtain ⟨y,hy,a,b⟩:=hin x hx;rw [b];exact h.jB y hy
 .
  intro x hx
  obtain ⟨j,y,hj,a,b,c⟩:=mem_set hx
  have:=h.jC y (List.mem_of_getElem? hj)
  rcases c with c|⟨c,c2⟩
  .rw [c,b];exact this
  .
   subst c;rw [ht] at hj;injection hj with hj;subst hj
   rw [c2];exact ⟨hd,fun h2=>by rw [b,htk] at h2;omega⟩
 .
  intro w hw
  obtain ⟨t',ht',e⟩:=h.thing w hw
  obtain ⟨x,hx,a,_⟩:=Gz (i:=k) (d:=d) ht'
  exact ⟨x,hx,by rw [a,e]⟩
 .
  intro n hn
  obtain ⟨t',ht',e,e2⟩:=h.port n hn
  obtain ⟨x,hx,a,b⟩:=Gz (i:=k) (d:=d) ht'
  exact ⟨x,hx,by rw [a,e],by rw [b,e2]⟩
 .intro x hx;obtain ⟨y,hy,a,b⟩:=hin x hx;rw [a];exact h.used y hy
end
end Go.Proofs.YtkbhcbipadkcaaaGreatDoor
