import Derived.Test.YtkbhcbipadkcaaaGreatDoorTF22
import Derived.Lib.Atoi
import Derived.Lib.ItoaNum
import Derived.Lib.Repeat
namespace Go.Proofs.YtkbhcbipadkcaaaGreatDoor
set_option linter.unusedVariables false
set_option linter.unusedSimpArgs false
set_option maxRecDepth 100000
set_option maxHeartbeats 90000000
section
theorem ma {r:aB}{p:Place}(h:gI r p=0):aY p=0/\mQ r.Held p=0:=by
 unfold gI at h
 by_cases h1:aY p=0
 .
  rw [if_pos h1] at h
  by_cases h2:mQ r.Held p=0
  .exact ⟨h1,h2⟩
  .rw [if_neg h2] at h;omega
 .rw [if_neg h1] at h;exact absurd h h1
theorem lG {l:List Held}{p:Place}{id:Int}(hg:Good l)(h:mQ l p=0)(hi:id≠0){x:Held}:x∈fS l p id↔x=⟨p,id⟩∨x∈l:=by
 obtain ⟨A,B,e,e2⟩:=GN hg h hi
 rw [e2,e];simp only [List.mem_append,List.mem_cons];constructor <;> (rintro (h|h|h) <;> simp [h])
theorem DK {l:List Held}{p:Place}{w:Int}(hg:Good l)(h:mQ l p=w)(hw:w≠0){x:Held}(hx:x∈fS l p 0):x∈l:=by
 obtain ⟨A,B,e,e2⟩:=BK hg h hw
 rw [e2] at hx;rw [e];simp only [List.mem_append,List.mem_cons] at hx ⊢;rcases hx with h|h <;> simp [h]
section
variable {r:aB}
theorem Inv.get (h:Inv r){p:Place}(hg:(aS r p).2=0):aY p=0/\(aS r p).1∈r.ao/\(aS r p).1.ID=mQ r.Held p/\1<=(aS r p).1.ID/\(aS r p).1.ID<r.ae:=by
 obtain ⟨h1,h2,h3⟩:=zK hg
 exact ⟨h1,h2,h3,(h.tree.mem h2).id1,h.si _ h2⟩
theorem Inv.fresh (h:Inv r):cH r.Held r.ae=0/\cN r.Notes r.ae=0:=by
 constructor
 .
  refine List.countP_eq_zero.2 fun x hx=>?_
  obtain ⟨w,hw,e⟩:=h.eQ x hx
  have:=h.si w hw
  simp;omega
 .
  refine List.countP_eq_zero.2 fun x hx=>?_
  have h0:=h.jA x hx;have h1:=h.oS
  by_cases hp:0<x.ak
  .
   obtain ⟨w,hw,e⟩:=h.iw x hx hp
   have:=h.si w hw
   simp;omega
  .simp;omega
theorem zU {l:List ak}{w:ak}(h:cO l)(hw:cw w=0)(hlt:∀y∈l,y.ID<w.ID)(hm:w.From≠0 -> ∃y∈l,Made y w):cO (l++[w]):=by
 have hi:=h.is
 refine ub.ok' ⟨fun x hx=>?_,List.pairwise_append.2 ⟨hi.rise,by simp,fun a ha b hb=>by simp at hb;subst hb;exact hlt a ha⟩,fun x hx h0=>?_⟩
 .
  rcases List.mem_append.1 hx with hx|hx
  .exact hi.ok x hx
  .rw [List.mem_singleton.1 hx];exact hw
 .
  rcases List.mem_append.1 hx with hx|hx
  .
   obtain ⟨y,hy,hmd⟩:=hi.made x hx h0
   exact ⟨y,List.mem_append.2 (.inl hy),hmd⟩
  .
   have e:=List.mem_singleton.1 hx
   subst e
   obtain ⟨y,hy,hmd⟩:=hm h0
   exact ⟨y,List.mem_append.2 (.inl hy),hmd⟩
theorem xS {p:Place}{kind:Int}(h:(dX r p kind).2=0):(kind=1∨kind=2)/\gI r p=0/\r.Things.length≠10/\r.ah<=999/\r.ae<=999 /\
 (0<p.aA->(dX r p kind).1=⟨r.ao++[⟨r.ae,r.ah,7,0,0⟩],r.Things++[⟨r.ah,kind,⟨#[]⟩⟩],fS r.Held p r.ae,r.Notes,r.ae+1,r.ah+1⟩):=by
 unfold dX at h ⊢
 by_cases h1:kind=1∨kind=2
 .
  rw [if_pos h1] at h ⊢
  by_cases h2:gI r p=0
  .
   rw [if_pos h2] at h ⊢
   by_cases h3:r.Things.length=10∨999<r.ah∨999<r.ae
   .rw [if_pos h3] at h;simp at h
   .
    rw [if_neg h3]
    refine ⟨h1,h2,by omega,by omega,by omega,fun hp=>?_⟩
    unfold fB;dsimp only;rw [if_pos hp]
  .rw [if_neg h2] at h;exact absurd h h2
 .rw [if_neg h1] at h;simp at h
theorem Inv.make (h:Inv r){p:Place}{kind:Int}(hm:(dX r p kind).2=0):Inv (dX r p kind).1:=by
 obtain ⟨hk,hf,hl,ht,hw,he⟩:=xS hm
 obtain ⟨hp,ha⟩:=ma hf
 have hpl:=cy hp
 rw [he (by omega)]
 have n1:=h.oS;have n2:=h.py;have hfr:=h.fresh;have hmax:=h.jl
 have hi:r.ae≠0:=by omega
 have Uy:=mE (id:=r.ae) h.good hp
 refine { tree:=zU h.tree (oK (by dsimp only;omega)) (fun y hy=>h.si y hy) (fun h0=>absurd rfl h0),good:=Uy,si:=?_,oS:=by show 1<=r.ae+1;omega,qX:=by show r.ae+1<=1000;omega,py:=by show 1<=r.ah+1;omega,pz:=by show r.ah+1<=1000;omega,jk:=List.pairwise_append.2 ⟨h.jk,by simp,fun a ha b hb=>by simp at hb;subst hb;exact (h.vG a ha).2⟩,vG:=?_,jy:=?_,jz:=?_,jl:=by show (r.Things++[_]).length<=10;simp;omega,thing:=?_,port:=?_,kE:=h.kE,wait:=h.wait,jA:=h.jA,once:=?_,iw:=?_,eQ:=?_,used:=?_ }
 .
  intro w hw
  show w.ID<r.ae+1
  rcases List.mem_append.1 hw with hw|hw
  .have:=h.si w hw;omega
  .rw [List.mem_singleton.1 hw];show r.ae<_;omega
 .
  intro t ht
  show 1<=t.ID/\t.ID<r.ah+1
  rcases List.mem_append.1 ht with ht|ht
  .have:=h.vG t ht;omega
  .rw [List.mem_singleton.1 ht];show 1<=r.ah/\r.ah<_;omega
 .
  intro t ht
  rcases List.mem_append.1 ht with ht|ht
  .exact h.jy t ht
  .rw [List.mem_singleton.1 ht];exact hk
 .
  intro t ht
  rcases List.mem_append.1 ht with ht|ht
  .exact h.jz t ht
  .rw [List.mem_singleton.1 ht];exact ⟨by show (0:Nat)<=8;decide,fun _=>rfl⟩
 .
  intro w hw
  rcases List.mem_append.1 hw with hw|hw
  .
   obtain ⟨t,ht,e⟩:=h.thing w hw
   exact ⟨t,List.mem_append.2 (.inl ht),e⟩
  .rw [List.mem_singleton.1 hw];exact ⟨_,List.mem_append.2 (.inr (List.mem_singleton.2 rfl)),rfl⟩
 .
  intro n hn
  obtain ⟨t,ht,e⟩:=h.port n hn
  exact ⟨t,List.mem_append.2 (.inl ht),e⟩
 .
  intro w hw
  show cH (fS r.Held p r.ae) w.ID+cN r.Notes w.ID=1
  rw [BL h.good ha hi]
  rcases List.mem_append.1 hw with hw|hw
  .
   have:=h.si w hw;have:=h.once w hw
   rw [if_neg (by omega)];omega
  .
   rw [List.mem_singleton.1 hw];show cH r.Held r.ae+(if r.ae=r.ae then 1 else 0)+cN r.Notes r.ae=1
   rw [if_pos rfl];omega
 .
  intro n hn h0
  obtain ⟨w,hw,e⟩:=h.iw n hn h0
  exact ⟨w,List.mem_append.2 (.inl hw),e⟩
 .
  intro x hx
  rcases (lG h.good ha hi).1 hx with e|hx
  .rw [e];exact ⟨_,List.mem_append.2 (.inr (List.mem_singleton.2 rfl)),rfl⟩
  .
   obtain ⟨w,hw,e⟩:=h.eQ x hx
   exact ⟨w,List.mem_append.2 (.inl hw),e⟩
 .
  intro t ht
  rcases List.mem_append.1 ht with ht|ht
  .
   obtain ⟨w,hw,e⟩:=h.used t ht
   exact ⟨w,List.mem_append.2 (.inl hw),e⟩
  .rw [List.mem_singleton.1 ht];exact ⟨_,List.mem_append.2 (.inr (List.mem_singleton.2 rfl)),rfl⟩
theorem xU {p t:Place}{a b:Int}(h:(fu r p t a b).2=0):(aS r p).2=0/\gI r t=0/\(p.aA=t.aA∨je (aS r p).1.Rights 4=true)/\r.ae<=999/\(derived (aS r p).1 r.ae a b).2=0 /\
 (0<t.aA->(fu r p t a b).1=⟨r.ao++[(derived (aS r p).1 r.ae a b).1],r.Things,fS r.Held t (derived (aS r p).1 r.ae a b).1.ID,r.Notes,r.ae+1,r.ah⟩):=by
 unfold fu at h ⊢
 by_cases h1:(aS r p).2=0
 .
  rw [if_pos h1] at h ⊢
  by_cases h2:gI r t=0
  .
   rw [if_pos h2] at h ⊢
   by_cases h3:p.aA=t.aA∨je (aS r p).1.Rights 4=true
   .
    rw [if_pos h3] at h ⊢
    by_cases h4:999<r.ae
    .rw [if_pos h4] at h;simp at h
    .
     rw [if_neg h4] at h ⊢
     by_cases h5:(derived (aS r p).1 r.ae a b).2=0
     .
      rw [if_pos h5]
      refine ⟨h1,h2,h3,by omega,h5,fun hp=>?_⟩
      unfold fB;dsimp only;rw [if_pos hp]
     .rw [if_neg h5] at h;exact absurd h h5
   .rw [if_neg h3] at h;simp at h
  .rw [if_neg h2] at h;exact absurd h h2
 .rw [if_neg h1] at h;exact absurd h h1
theorem Inv.derive (h:Inv r){g:ak}(hg:g∈r.ao){a b:Int}(hn:r.ae<=999)(hd:(derived g r.ae a b).2=0):cO (r.ao++[(derived g r.ae a b).1])/\(derived g r.ae a b).1.ID=r.ae/\(derived g r.ae a b).1.aF=g.aF/\(derived g r.ae a b).1.Rights=a/\(derived g r.ae a b).1.From=g.ID/\je g.Rights a=true/\0<=a/\a<=7:=by
 obtain ⟨a0,a7,b0,b9,hh,e,hb⟩:=tj hd
 have w:=h.tree.mem hg
 have w1:=w.id1;have w2:=w.Qj;have w3:=w.Qk;have w4:=w.Ql;have w5:=w.Qm;have w6:=h.si g hg
 rw [e]
 refine ⟨zU h.tree (oK ⟨by show 1<=r.ae;omega,hn,w2,w3,?_,?_,by show 0<=g.ID;omega,w6,a0,a7⟩) (fun y hy=>h.si y hy) (fun _=>⟨g,hg,rfl,hh,?_,rfl⟩),rfl,rfl,rfl,rfl,hh,a0,a7⟩
 .show 0<=(if b=0 then g.aQ else b);split <;> omega
 .show (if b=0 then g.aQ else b)<=99;split <;> omega
 .
  show g.aQ=0∨(if b=0 then g.aQ else b)=g.aQ
  split <;> omega
theorem Inv.give (h:Inv r){p t:Place}{a b:Int}(hm:(fu r p t a b).2=0):Inv (fu r p t a b).1:=by
 obtain ⟨hg,hf,hr,hw,hd,he⟩:=xU hm
 obtain ⟨hp,ha⟩:=ma hf
 have hpl:=cy hp
 obtain ⟨_,hgm,_⟩:=h.get hg
 obtain ⟨GQ,hid,hth,_⟩:=h.derive hgm hw hd
 rw [he (by omega),hid]
 generalize hx:(derived (aS r p).1 r.ae a b).1=x at *
 have n1:=h.oS;have hfr:=h.fresh
 have hi:r.ae≠0:=by omega
 have Uy:=mE (id:=r.ae) h.good hp
 refine { tree:=GQ,good:=Uy,si:=?_,oS:=by show 1<=r.ae+1;omega,qX:=by show r.ae+1<=1000;omega,py:=h.py,pz:=h.pz,jk:=h.jk,vG:=h.vG,jy:=h.jy,jz:=h.jz,jl:=h.jl,thing:=?_,port:=h.port,kE:=h.kE,wait:=h.wait,jA:=h.jA,once:=?_,iw:=?_,eQ:=?_,used:=?_ }
 .
  intro w hw
  show w.ID<r.ae+1
  rcases List.mem_append.1 hw with hw|hw
  .have:=h.si w hw;omega
  .rw [List.mem_singleton.1 hw,hid];omega
 .
  intro w hw
  rcases List.mem_append.1 hw with hw|hw
  .exact h.thing w hw
  .rw [List.mem_singleton.1 hw,hth];exact h.thing _ hgm
 .
  intro w hw
  show cH (fS r.Held t r.ae) w.ID+cN r.Notes w.ID=1
  rw [BL h.good ha hi]
  rcases List.mem_append.1 hw with hw|hw
  .
   have:=h.si w hw;have:=h.once w hw
   rw [if_neg (by omega)];omega
  .rw [List.mem_singleton.1 hw,hid,if_pos rfl];omega
 .
  intro n hn h0
  obtain ⟨w,hw,e⟩:=h.iw n hn h0
  exact ⟨w,List.mem_append.2 (.inl hw),e⟩
 .
  intro y hy
  rcases (lG h.good ha hi).1 hy with e|hy
  .rw [e];exact ⟨x,List.mem_append.2 (.inr (List.mem_singleton.2 rfl)),hid⟩
  .
   obtain ⟨w,hw,e⟩:=h.eQ y hy
   exact ⟨w,List.mem_append.2 (.inl hw),e⟩
 .
  intro t ht
  obtain ⟨w,hw,e⟩:=h.used t ht
  exact ⟨w,List.mem_append.2 (.inl hw),e⟩
theorem xV {p:Place}{s:Int}(h:(jh r p s).2=0):(aS r p).2=0/\gI r ⟨p.aA,s⟩=0/\(jh r p s).1=⟨r.ao,r.Things,fS (fS r.Held p 0) ⟨p.aA,s⟩ (aS r p).1.ID,r.Notes,r.ae,r.ah⟩:=by
 unfold jh at h ⊢
 by_cases h1:(aS r p).2=0
 .
  rw [if_pos h1] at h ⊢
  by_cases h2:gI r ⟨p.aA,s⟩=0
  .rw [if_pos h2];exact ⟨h1,h2,rfl⟩
  .rw [if_neg h2] at h;exact absurd h h2
 .rw [if_neg h1] at h;exact absurd h h1
theorem Inv.held (h:Inv r){m:List Held}(hg:Good m)(hc:∀w∈r.ao,cH m w.ID=cH r.Held w.ID)(hs:∀x∈m,∃w∈r.ao,w.ID=x.ak):Inv ⟨r.ao,r.Things,m,r.Notes,r.ae,r.ah⟩ :=
 { tree:=h.tree,good:=hg,si:=h.si,oS:=h.oS,qX:=h.qX,py:=h.py,pz:=h.pz,jk:=h.jk,vG:=h.vG,jy:=h.jy,jz:=h.jz,jl:=h.jl,thing:=h.thing,port:=h.port,kE:=h.kE,wait:=h.wait,jA:=h.jA,once:=fun w hw=>by show cH m w.ID+_=1;rw [hc w hw];exact h.once w hw,iw:=h.iw,eQ:=hs,used:=h.used }
theorem Inv.move (h:Inv r){p:Place}{s:Int}(hm:(jh r p s).2=0):Inv (jh r p s).1:=by
 obtain ⟨hg,hf,he⟩:=xV hm
 obtain ⟨hp,ha⟩:=ma hf
 obtain ⟨hpf,hgm,hat,h1,_⟩:=h.get hg
 rw [he]
 have hi:(aS r p).1.ID≠0:=by omega
 have hg1:Good (fS r.Held p 0):=mE h.good hpf
 have hne:¬ (⟨p.aA,s⟩:Place)=p:=fun e=>by rw [e] at ha;omega
 have ha1:mQ (fS r.Held p 0) ⟨p.aA,s⟩=0:=by rw [zO h.good hpf hne];exact ha
 refine h.held (mE hg1 hp) (fun w hw=>?_) (fun x hx=>?_)
 .rw [BL hg1 ha1 hi,<- Qu h.good hat.symm hi]
 .
  rcases (lG hg1 ha1 hi).1 hx with e|hx
  .rw [e];exact ⟨_,hgm,rfl⟩
  .exact h.eQ x (DK h.good hat.symm hi hx)
theorem Pre.uO (h:Pre r){l:List ak}(ht:cO l)(hs:∀v∈l,∃w∈r.ao,Like v w):Pre ⟨l,r.Things,r.Held,r.Notes,r.ae,r.ah⟩ :=
 { tree:=ht,good:=h.good,si:=fun v hv=>by obtain ⟨w,hw,k⟩:=hs v hv;rw [k.id];exact h.si w hw,oS:=h.oS,qX:=h.qX,py:=h.py,pz:=h.pz,jk:=h.jk,vG:=h.vG,jy:=h.jy,jz:=h.jz,jl:=h.jl,thing:=fun v hv=>by obtain ⟨w,hw,k⟩:=hs v hv;rw [k.th];exact h.thing w hw,port:=h.port,kE:=h.kE,wait:=h.wait,jA:=h.jA,once:=fun v hv=>by obtain ⟨w,hw,k⟩:=hs v hv;rw [k.id];exact h.once w hw }
theorem Pre.wo (h:Pre r)(id:Int):Pre ⟨without r.ao id,r.Things,r.Held,r.Notes,r.ae,r.ah⟩ :=
 h.uO (h.tree.wo id) (fun v hv=>by obtain ⟨y,hy,_,rfl⟩:=gH.1 hv;exact ⟨y,hy,vH _ _ y⟩)
theorem tw {l:List ak}{id:Int}{x:ak}:x∈Fj l id↔x∈l/\¬ x.ID∈kA id l:=by
 unfold Fj;rw [List.mem_filter];simp
theorem K4 {l:List ak}(h:cO l){id:Int}{x y:ak}(hi:0<=cI l id)(hx:x∈l)(hy:y∈l)(e:y.ID=x.From)(hb:y.ID∈kA id l):x.ID∈kA id l:=by
 have h1:=l9 hx;have h2:=l9 hy
 rw [zH h hi h1]
 rw [zH h hi h2] at hb
 unfold above at hb ⊢
 obtain ⟨x',_,e1,hx',e2⟩:=nZ h1
 have:x'=x:=h.inj hx' hx e1
 subst this
 rw [e2,<- e,r9 h h2]
 exact List.mem_cons_of_mem _ hb
theorem cO.cut {l:List ak}(h:cO l){id:Int}(hi:0<=cI l id):cO (Fj l id):=by
 have hs:=h.is
 refine ub.ok' ⟨fun x hx=>hs.ok x (tw.1 hx).1,hs.rise.filter _,fun x hx h0=>?_⟩
 obtain ⟨h1,h2⟩:=tw.1 hx
 obtain ⟨y,hy,hm⟩:=hs.made x h1 h0
 exact ⟨y,tw.2 ⟨hy,fun hb=>h2 (K4 h hi h1 hy hm.gq hb)⟩,hm⟩
theorem Pre.cut (h:Pre r){id:Int}(hi:0<=cI r.ao id):Pre ⟨Fj r.ao id,r.Things,r.Held,r.Notes,r.ae,r.ah⟩ :=
 h.uO (h.tree.cut hi) (fun v hv=>⟨v,(tw.1 hv).1,Like.refl v⟩)
theorem xW {p:Place}(h:(jI r p).2=0):(aS r p).2=0/\(jI r p).1=dS ⟨without r.ao (aS r p).1.ID,r.Things,r.Held,r.Notes,r.ae,r.ah⟩:=by
 unfold jI at h ⊢
 by_cases h1:(aS r p).2=0
 .rw [if_pos h1];exact ⟨h1,rfl⟩
 .rw [if_neg h1] at h;exact absurd h h1
theorem tA {p:Place}(h:(ff r p).2=0):(aS r p).2=0/\(ff r p).1=dS ⟨Fj r.ao (aS r p).1.ID,r.Things,r.Held,r.Notes,r.ae,r.ah⟩:=by
 unfold ff at h ⊢
 by_cases h1:(aS r p).2=0
 .rw [if_pos h1];exact ⟨h1,rfl⟩
 .rw [if_neg h1] at h;exact absurd h h1
theorem Inv.drop (h:Inv r){p:Place}(hm:(jI r p).2=0):Inv (jI r p).1:=by
 rw [(xW hm).2];exact uj (h.toPre.wo _)
theorem Inv.Qy (h:Inv r){p:Place}(hm:(ff r p).2=0):Inv (ff r p).1:=by
 obtain ⟨hg,he⟩:=tA hm
 rw [he];exact uj (h.toPre.cut (l9 (h.get hg).2.1))
theorem mem_set {l:List aF}{i:Nat}{d:ByteArray}{x:aF}(h:x∈gU l i d):∃ (k:Nat) (t:aF),l[k]? = some t/\x.ID=t.ID/\x.Kind=t.Kind/\(x.Data=t.Data∨k=i/\x.Data=d):=by
 unfold gU at h
 split at h
 .
  rename_i t ht
  obtain ⟨k,hk⟩:=List.mem_iff_getElem?.1 h
  rw [List.getElem?_set] at hk
  split at hk
  .
   rename_i e;subst e
   split at hk
   .injection hk with hk;subst hk;exact ⟨_,t,ht,rfl,rfl,.inr ⟨rfl,rfl⟩⟩
   .cases hk
  .exact ⟨k,x,hk,rfl,rfl,.inl rfl⟩
 .
  obtain ⟨k,hk⟩:=List.mem_iff_getElem?.1 h
  exact ⟨k,x,hk,rfl,rfl,.inl rfl⟩
theorem GR {l:List aF}{i:Nat}{d:ByteArray}{t:aF}(h:t∈l):∃x∈gU l i d,x.ID=t.ID/\x.Kind=t.Kind:=by
 unfold gU
 split
 .
  rename_i y hy
  obtain ⟨k,hk⟩:=List.mem_iff_getElem?.1 h
  by_cases e:i=k
  .
   subst e;rw [hk] at hy;injection hy with hy;subst hy
   exact ⟨_,List.mem_set (by have:=(List.getElem?_eq_some_iff.1 hk).1;exact this) _,rfl,rfl⟩
  .exact ⟨t,List.mem_of_getElem? (i:=k) (by rw [List.getElem?_set,if_neg e];exact hk),rfl,rfl⟩
 .exact ⟨t,h,rfl,rfl⟩
theorem M1 (l:List aF)(i:Nat)(d:ByteArray):(gU l i d).map aF.ID=l.map aF.ID:=by
 unfold gU
 split
 .
  rename_i t ht
  rw [List.map_set]
  apply List.ext_getElem?
  intro k
  rw [List.getElem?_set]
  split
  .
   rename_i e;subst e;rw [List.getElem?_map,ht]
   split
   .rfl
   .rename_i hk;exfalso;apply hk;have:=(List.getElem?_eq_some_iff.1 ht).1;simpa using this
  .rfl
 .rfl
theorem uV {p:Place}{d:ByteArray}(h:(fY r p d).2=0):(cB r p 1 2).2.2=0/\d.size<=8/\(fY r p d).1=⟨r.ao,gU r.Things (cB r p 1 2).2.1.toNat d,r.Held,r.Notes,r.ae,r.ah⟩:=by
 unfold fY at h ⊢
 by_cases h1:(cB r p 1 2).2.2=0
 .
  rw [if_pos h1] at h ⊢
  by_cases h2:8<d.size
  .rw [if_pos h2] at h;simp at h
  .rw [if_neg h2];exact ⟨h1,by omega,rfl⟩
 .rw [if_neg h1] at h;exact absurd h h1
theorem Inv.write (h:Inv r){p:Place}{d:ByteArray}(hm:(fY r p d).2=0):Inv (fY r p d).1:=by
 obtain ⟨hy,hd,he⟩:=uV hm
 obtain ⟨_,_,_,k,t,hk,ht,V9,htk,_⟩:=qS hy
 rw [he,hk,Int.toNat_natCast]
 have Uz:=M1 r.Things k d
 have hin:∀x∈gU r.Things k d,∃y∈r.Things,x.ID=y.ID/\x.Kind=y.Kind:=fun x hx=>by
  obtain ⟨j,y,hj,a,b,_⟩:=mem_set hx;exact ⟨y,List.mem_of_getElem? hj,a,b⟩
 refine { tree:=h.tree,good:=h.good,si:=h.si,oS:=h.oS,qX:=h.qX,py:=h.py,pz:=h.pz,jk:=?_,vG:=?_,jy:=?_,jz:=?_,jl:=by show (gU _ _ _).length<=10;rw [uR];exact h.jl,thing:=?_,port:=?_,kE:=h.kE,wait:=h.wait,jA:=h.jA,once:=h.once,iw:=h.iw,eQ:=h.eQ,used:=?_ }
 .
  have h1:(r.Things.map aF.ID).Pairwise (· < ·):=List.pairwise_map.2 h.jk
  show (gU r.Things k d).Pairwise _
  rw [<- Uz] at h1
  exact List.pairwise_map.1 h1
 .intro x hx;obtain ⟨y,hy,a,b⟩:=hin x hx;show 1<=x.ID/\x.ID<r.ah;rw [a];exact h.vG y hy
 .intro x hx;obtain ⟨y,hy,a,b⟩:=hin x hx;rw [b];exact h.jy y hy
 .
  intro x hx
  obtain ⟨j,y,hj,a,b,c⟩:=mem_set hx
  have:=h.jz y (List.mem_of_getElem? hj)
  rcases c with c|⟨c,c2⟩
  .rw [c,b];exact this
  .
   subst c;rw [ht] at hj;injection hj with hj;subst hj
   rw [c2];exact ⟨hd,fun h2=>by rw [b,htk] at h2;omega⟩
 .
  intro w hw
  obtain ⟨t',ht',e⟩:=h.thing w hw
  obtain ⟨x,hx,a,_⟩:=GR (i:=k) (d:=d) ht'
  exact ⟨x,hx,by rw [a,e]⟩
 .
  intro n hn
  obtain ⟨t',ht',e,e2⟩:=h.port n hn
  obtain ⟨x,hx,a,b⟩:=GR (i:=k) (d:=d) ht'
  exact ⟨x,hx,by rw [a,e],by rw [b,e2]⟩
 .intro x hx;obtain ⟨y,hy,a,b⟩:=hin x hx;rw [a];exact h.used y hy
end
end
section
section
variable {r:aB}
theorem zV (ns:List Note)(n:Note)(q:Int):gh (ns++[n]) q=gh ns q+(if n.Port=q then 1 else 0):=by
 unfold gh;rw [List.filter_append,List.length_append]
 by_cases h:n.Port=q
 .rw [if_pos h];simp [h]
 .rw [if_neg h];simp [h]
theorem GU (ns:List Note)(n:Note)(j:Int):cN (ns++[n]) j=cN ns j+(if n.ak=j then 1 else 0):=by
 unfold cN;rw [List.countP_append,List.countP_cons]
 by_cases h:n.ak=j
 .rw [if_pos (by simpa using h),if_pos h];simp
 .rw [if_neg (by simpa using h),if_neg h];simp
theorem qY {p:Place}{k q:Int}(h:(cB r p k q).2.2=0):(aS r p).2=0/\(cB r p k q).1=(aS r p).1/\je (aS r p).1.Rights q=true /\ ∃t∈r.Things,t.ID=(aS r p).1.aF/\t.Kind=k:=by
 obtain ⟨h1,h2,h3,i,t,_,ht,e,e2,_⟩:=qS h
 exact ⟨h1,h2,h3,t,List.mem_of_getElem? ht,e,e2⟩
theorem xX {p:Place}{d:ByteArray}{s a:Int}(h:(dL r p d s a).2=0):(cB r p 2 2).2.2=0/\d.size<=8/\gh r.Notes (aS r p).1.aF≠3 /\
 (s<0/\(dL r p d s a).1=⟨r.ao,r.Things,r.Held,r.Notes++[⟨(aS r p).1.aF,d,(aS r p).1.aQ,0⟩],r.ae,r.ah⟩ ∨
  0<=s/\je (aS r p).1.Rights 4=true/\(aS r ⟨p.aA,s⟩).2=0/\r.ae<=999/\(derived (aS r ⟨p.aA,s⟩).1 r.ae a 0).2=0 /\
  (dL r p d s a).1=⟨r.ao++[(derived (aS r ⟨p.aA,s⟩).1 r.ae a 0).1],r.Things,r.Held,r.Notes++[⟨(aS r p).1.aF,d,(aS r p).1.aQ,(derived (aS r ⟨p.aA,s⟩).1 r.ae a 0).1.ID⟩],r.ae+1,r.ah⟩):=by
 unfold dL at h ⊢
 by_cases h1:(cB r p 2 2).2.2=0
 .
  have he:=(qY h1).2.1
  rw [if_pos h1] at h ⊢
  by_cases h2:8<d.size
  .rw [if_pos h2] at h;simp at h
  .
   rw [if_neg h2] at h ⊢
   by_cases h3:gh r.Notes (cB r p 2 2).1.aF=3
   .rw [if_pos h3] at h;simp at h
   .
    rw [if_neg h3] at h ⊢
    rw [he] at h3
    by_cases h4:s<0
    .rw [if_pos h4,he];exact ⟨h1,by omega,h3,.inl ⟨h4,rfl⟩⟩
    .
     rw [if_neg h4] at h ⊢
     by_cases h5:je (cB r p 2 2).1.Rights 4=true
     .
      rw [if_pos h5] at h ⊢
      by_cases h6:(aS r ⟨p.aA,s⟩).2=0
      .
       rw [if_pos h6] at h ⊢
       by_cases h7:999<r.ae
       .rw [if_pos h7] at h;simp at h
       .
        rw [if_neg h7] at h ⊢
        by_cases h8:(derived (aS r ⟨p.aA,s⟩).1 r.ae a 0).2=0
        .
         rw [if_pos h8,he];rw [he] at h5
         exact ⟨h1,by omega,h3,.inr ⟨by omega,h5,h6,by omega,h8,rfl⟩⟩
        .rw [if_neg h8] at h;exact absurd h h8
      .rw [if_neg h6] at h;exact absurd h h6
     .rw [if_neg h5] at h;simp at h
 .rw [if_neg h1] at h;exact absurd h h1
theorem Inv.send (h:Inv r){p:Place}{d:ByteArray}{s a:Int}(hm:(dL r p d s a).2=0):Inv (dL r p d s a).1:=by
 obtain ⟨hy,hd,h3,hc⟩:=xX hm
 obtain ⟨hg,_,_,t,ht,hti,htk⟩:=qY hy
 obtain ⟨_,hgm,_⟩:=h.get hg
 have hw:=h.tree.mem hgm
 have Ox:∀q,gh r.Notes q+(if (aS r p).1.aF=q then 1 else 0)<=3:=fun q=>by
  have:=h.wait q
  split
  .rename_i e;rw [e] at h3;omega
  .omega
 have zS:∀ (k:Int) (n:Note),n∈r.Notes++[⟨(aS r p).1.aF,d,(aS r p).1.aQ,k⟩] -> ∃t∈r.Things,t.ID=n.Port/\t.Kind=2:=fun k n hn=>by
  rcases List.mem_append.1 hn with hn|hn
  .exact h.port n hn
  .rw [List.mem_singleton.1 hn];exact ⟨t,ht,hti,htk⟩
 have hnd:∀ (k:Int) (n:Note),n∈r.Notes++[⟨(aS r p).1.aF,d,(aS r p).1.aQ,k⟩]->n.Data.size<=8/\0<=n.aQ/\n.aQ<=99:=fun k n hn=>by
  rcases List.mem_append.1 hn with hn|hn
  .exact h.kE n hn
  .rw [List.mem_singleton.1 hn];exact ⟨hd,hw.Ql,hw.Qm⟩
 rcases hc with ⟨h4,he⟩ | ⟨h4,h5,h6,h7,h8,he⟩
 .
  rw [he]
  refine { tree:=h.tree,good:=h.good,si:=h.si,oS:=h.oS,qX:=h.qX,py:=h.py,pz:=h.pz,jk:=h.jk,vG:=h.vG,jy:=h.jy,jz:=h.jz,jl:=h.jl,thing:=h.thing,port:=zS 0,kE:=hnd 0,wait:=fun q=>?_,jA:=?_,once:=?_,iw:=?_,eQ:=h.eQ,used:=h.used }
  .show gh (r.Notes++[_]) q<=3;rw [zV];exact Ox q
  .
   intro n hn
   rcases List.mem_append.1 hn with hn|hn
   .exact h.jA n hn
   .rw [List.mem_singleton.1 hn];exact Int.le_refl 0
  .
   intro w hw
   show cH r.Held w.ID+cN (r.Notes++[_]) w.ID=1
   have:=h.once w hw;have:=(h.tree.mem hw).id1
   rw [GU,if_neg (by dsimp only;omega)];omega
  .
   intro n hn h0
   rcases List.mem_append.1 hn with hn|hn
   .exact h.iw n hn h0
   .rw [List.mem_singleton.1 hn] at h0;exact absurd h0 (by dsimp only;omega)
 .
  obtain ⟨_,Tb,_⟩:=h.get h6
  obtain ⟨GQ,hid,hth,_⟩:=h.derive Tb h7 h8
  rw [he]
  generalize hx:(derived (aS r ⟨p.aA,s⟩).1 r.ae a 0).1=x at *
  have n1:=h.oS;have hfr:=h.fresh
  refine { tree:=GQ,good:=h.good,si:=?_,oS:=by show 1<=r.ae+1;omega,qX:=by show r.ae+1<=1000;omega,py:=h.py,pz:=h.pz,jk:=h.jk,vG:=h.vG,jy:=h.jy,jz:=h.jz,jl:=h.jl,thing:=?_,port:=zS x.ID,kE:=hnd x.ID,wait:=fun q=>?_,jA:=?_,once:=?_,iw:=?_,eQ:=?_,used:=?_ }
  .
   intro w hw
   show w.ID<r.ae+1
   rcases List.mem_append.1 hw with hw|hw
   .have:=h.si w hw;omega
   .rw [List.mem_singleton.1 hw,hid];omega
  .
   intro w hw
   rcases List.mem_append.1 hw with hw|hw
   .exact h.thing w hw
   .rw [List.mem_singleton.1 hw,hth];exact h.thing _ Tb
  .show gh (r.Notes++[_]) q<=3;rw [zV];exact Ox q
  .
   intro n hn
   rcases List.mem_append.1 hn with hn|hn
   .exact h.jA n hn
   .rw [List.mem_singleton.1 hn];show 0<=x.ID;omega
  .
   intro w hw
   show cH r.Held w.ID+cN (r.Notes++[_]) w.ID=1
   rw [GU];dsimp only
   rcases List.mem_append.1 hw with hw|hw
   .
    have:=h.si w hw;have:=h.once w hw
    rw [if_neg (by omega)];omega
   .rw [List.mem_singleton.1 hw,if_pos rfl,hid];omega
  .
   intro n hn h0
   rcases List.mem_append.1 hn with hn|hn
   .
    obtain ⟨w,hw,e⟩:=h.iw n hn h0
    exact ⟨w,List.mem_append.2 (.inl hw),e⟩
   .rw [List.mem_singleton.1 hn];exact ⟨x,List.mem_append.2 (.inr (List.mem_singleton.2 rfl)),rfl⟩
  .
   intro y hy
   obtain ⟨w,hw,e⟩:=h.eQ y hy
   exact ⟨w,List.mem_append.2 (.inl hw),e⟩
  .
   intro t ht
   obtain ⟨w,hw,e⟩:=h.used t ht
   exact ⟨w,List.mem_append.2 (.inl hw),e⟩
theorem xY {p:Place}(h:(eF r p).2.2.2=0):(cB r p 2 1).2.2=0 /\ ∃ (i:Nat) (n:Note),r.Notes[i]? = some n/\n.Port=(aS r p).1.aF/\(∀ (j:Nat) y,j<i->r.Notes[j]? = some y->¬ y.Port=(aS r p).1.aF)/\(eF r p).2.1=n /\
 (0<n.ak/\0<=i6 r.Held p.aA/\(eF r p).2.2.1=i6 r.Held p.aA/\(eF r p).1=⟨r.ao,r.Things,fS r.Held ⟨p.aA,i6 r.Held p.aA⟩ n.ak,uf r.Notes i,r.ae,r.ah⟩ ∨
  n.ak<=0/\(eF r p).2.2.1 = -1/\(eF r p).1=⟨r.ao,r.Things,r.Held,uf r.Notes i,r.ae,r.ah⟩):=by
 unfold eF at h ⊢
 by_cases h1:(cB r p 2 1).2.2=0
 .
  have he:=(qY h1).2.1
  rw [if_pos h1] at h ⊢
  rw [he] at h ⊢
  rcases j3 (fun n:Note=>n.Port==(aS r p).1.aF) r.Notes with ⟨hf,hn⟩ | ⟨i,n,hf,hn,hp,hb,_⟩
  .
   rw [hf,show decide ((0:Int) <= -1)=false from rfl] at h
   cases hq:r.Notes[(-1:Int).toNat]? <;> rw [hq] at h <;> simp at h
  .
   have hn':r.Notes[i]? = some n:=hn
   have hfi:idxOf (fun n:Note=>n.Port==(aS r p).1.aF) r.Notes=(i:Int):=hf
   rw [hfi,Int.toNat_natCast,hn',decide_eq_true (by omega)] at h ⊢
   dsimp only at h ⊢
   refine ⟨h1,i,n,hn',by simpa using hp,fun j y hj hy=>by simpa using hb j y hj hy,?_⟩
   by_cases h2:0<n.ak
   .
    rw [if_pos h2] at h ⊢
    by_cases h3:i6 r.Held p.aA<0
    .rw [if_pos h3] at h;simp at h
    .rw [if_neg h3];exact ⟨rfl,.inl ⟨h2,by omega,rfl,rfl⟩⟩
   .rw [if_neg h2];exact ⟨rfl,.inr ⟨by omega,rfl,rfl⟩⟩
 .rw [if_neg h1] at h;exact absurd h h1
theorem free_at {l:List Held}{h:Int}(hf:0<=i6 l h):i6 l h<=5/\mQ l ⟨h,i6 l h⟩=0:=by
 rcases free_spec l h with ⟨a,_⟩ | ⟨_,b,c,_⟩
 .omega
 .exact ⟨b,c⟩
theorem Fu {p:Place}{k:Int}(h:aY p=0)(h0:0<=k)(h5:k<=5):aY ⟨p.aA,k⟩=0:=by
 have:=cy h
 unfold aY;dsimp only;split <;> first|rfl|omega
theorem Inv.notes (h:Inv r){m:List Held}{ns:List Note}(hg:Good m)(hc:∀w∈r.ao,cH m w.ID+cN ns w.ID=1)(hs:∀x∈m,∃w∈r.ao,w.ID=x.ak)(hn:∀n∈ns,n∈r.Notes)(hw:∀q,gh ns q<=gh r.Notes q):Inv ⟨r.ao,r.Things,m,ns,r.ae,r.ah⟩ :=
 { tree:=h.tree,good:=hg,si:=h.si,oS:=h.oS,qX:=h.qX,py:=h.py,pz:=h.pz,jk:=h.jk,vG:=h.vG,jy:=h.jy,jz:=h.jz,jl:=h.jl,thing:=h.thing,port:=fun n k=>h.port n (hn n k),kE:=fun n k=>h.kE n (hn n k),wait:=fun q=>Nat.le_trans (hw q) (h.wait q),jA:=fun n k=>h.jA n (hn n k),once:=hc,iw:=fun n k=>h.iw n (hn n k),eQ:=hs,used:=h.used }
theorem Inv.take (h:Inv r){p:Place}(hm:(eF r p).2.2.2=0):Inv (eF r p).1:=by
 obtain ⟨hy,i,n,hn,hp,hb,_,hc⟩:=xY hm
 obtain ⟨hg,_⟩:=qY hy
 obtain ⟨hpf,_⟩:=h.get hg
 have hcut:=fun j=>Qx hn j
 have hsub:∀x∈uf r.Notes i,x∈r.Notes:=fun x hx=>M0 hx
 rcases hc with ⟨h0,hf,_,he⟩ | ⟨h0,_,he⟩
 .
  rw [he]
  obtain ⟨h5,ha⟩:=free_at hf
  have hi:n.ak≠0:=by omega
  have hq:=Fu hpf hf h5
  refine h.notes (mE h.good hq) (fun w hw=>?_) (fun x hx=>?_) hsub (fun q=>zP q)
  .
   rw [BL h.good ha hi]
   have h1:=h.once w hw;have h2:=hcut w.ID
   omega
  .
   rcases (lG h.good ha hi).1 hx with e|hx
   .rw [e];exact h.iw n (List.mem_of_getElem? hn) h0
   .exact h.eQ x hx
 .
  rw [he]
  refine h.notes h.good (fun w hw=>?_) h.eQ hsub (fun q=>zP q)
  have h1:=h.once w hw;have h2:=hcut w.ID;have h3:=(h.tree.mem hw).id1
  rw [if_neg (by omega)] at h2
  omega
theorem Inv.do (h:Inv r){a:dQ}(hm:(cF r a).2=0):Inv (cF r a).1:=by
 unfold cF at hm ⊢
 by_cases h1:a.Kind=(⟨#[109,97,107,101]⟩:ByteArray)
 .rw [if_pos h1] at hm ⊢;exact h.make hm
 .
  rw [if_neg h1] at hm ⊢
  by_cases h2:a.Kind=(⟨#[103,105,118,101]⟩:ByteArray)
  .rw [if_pos h2] at hm ⊢;exact h.give hm
  .
   rw [if_neg h2] at hm ⊢
   by_cases h3:a.Kind=(⟨#[109,111,118,101]⟩:ByteArray)
   .rw [if_pos h3] at hm ⊢;exact h.move hm
   .
    rw [if_neg h3] at hm ⊢
    by_cases h4:a.Kind=(⟨#[100,114,111,112]⟩:ByteArray)
    .rw [if_pos h4] at hm ⊢;exact h.drop hm
    .
     rw [if_neg h4] at hm ⊢
     by_cases h5:a.Kind=(⟨#[114,101,118,111,107,101]⟩:ByteArray)
     .rw [if_pos h5] at hm ⊢;exact h.Qy hm
     .
      rw [if_neg h5] at hm ⊢
      by_cases h6:a.Kind=(⟨#[119,114,105,116,101]⟩:ByteArray)
      .rw [if_pos h6] at hm ⊢;exact h.write hm
      .
       rw [if_neg h6] at hm ⊢
       by_cases h7:a.Kind=(⟨#[115,101,110,100]⟩:ByteArray)
       .rw [if_pos h7] at hm ⊢;exact h.send hm
       .
        rw [if_neg h7] at hm ⊢
        by_cases h8:a.Kind=(⟨#[116,97,107,101]⟩:ByteArray)
        .rw [if_pos h8] at hm ⊢;exact h.take hm
        .rw [if_neg h8];exact h
theorem tC (h:Inv r):r.Held.length<=24:=K2 h.good
end
end
section
section
variable {r:aB}
end
end
section
section
variable {r:aB}
theorem zW {ws:List ak}{ts:List Int}:∀ {ns:List Note},(∀n∈ns,n.Port∈ts/\jB ws n=n)->hZ ws ts ns=ns
 | [],_=>rfl
 | n::ns,h=>by
  obtain ⟨h1,h2⟩:=h n (List.mem_cons_self ..)
  rw [ui,if_pos h1,h2,zW (fun m hm=>h m (List.mem_cons_of_mem _ hm))]
theorem Io {ws:List ak}{ts:List Int}{ns:List Note}(h:∀n∈ns,n.Port∈ts):kI ws ts ns=[]:=by
 refine List.eq_nil_iff_forall_not_mem.2 fun j hj=>?_
 obtain ⟨m,hm,_,hp,_⟩:=DJ.1 hj
 exact hp (h m hm)
theorem Inv.GV (h:Inv r):∀n∈r.Notes,n.Port∈bV r.ao:=fun n hn=>by
 obtain ⟨t,ht,e,_⟩:=h.port n hn
 obtain ⟨w,hw,e2⟩:=h.used t ht
 exact (lf h.tree).2 ⟨w,hw,by rw [e2,e]⟩
theorem Inv.fix (h:Inv r):∀n∈r.Notes,jB r.ao n=n:=fun n hn=>by
 unfold jB;split
 .
  rename_i hf
  have h0:=h.jA n hn
  have:n.ak=0:=by
   by_cases hp:0<n.ak
   .
    obtain ⟨w,hw,e⟩:=h.iw n hn hp
    have:=l9 hw;rw [e] at this;omega
   .omega
  cases n;simp only [] at this ⊢;rw [this]
 .rfl
theorem Fv (h:Inv r)(T:List aF)(H:List Held)(hT:∀t∈T,∀w∈r.ao,w.aF≠t.ID)(hH:H.filter (fun h => !decide (cI r.ao h.ak<0))=r.Held)(a b:Int):dS ⟨r.ao,r.Things++T,H,r.Notes,a,b⟩=⟨r.ao,r.Things,r.Held,r.Notes,a,b⟩:=by
 have hl:pg ⟨r.ao,r.Things++T,H,r.Notes,a,b⟩=[]:=Io h.GV
 rw [qi (by rw [hl];rfl)]
 unfold fN
 dsimp only
 have h1:(r.Things++T).filter (fun t => !!decide (t.ID∈bV r.ao))=r.Things:=by
  have k1:r.Things.filter (fun t => !!decide (t.ID∈bV r.ao))=r.Things:=List.filter_eq_self.2 fun t ht=>by
   obtain ⟨w,hw,e⟩:=h.used t ht
   simp only [Bool.not_not,decide_eq_true_eq]
   exact (lf h.tree).2 ⟨w,hw,e⟩
  have k2:T.filter (fun t => !!decide (t.ID∈bV r.ao))=[]:=List.filter_eq_nil_iff.2 fun t ht=>by
   simp only [Bool.not_not,decide_eq_true_eq]
   intro hm
   obtain ⟨w,hw,e⟩:=(lf h.tree).1 hm
   exact hT t ht w hw e
  rw [List.filter_append,k1,k2,List.append_nil]
 rw [h1,hH,zW (fun n hn=>⟨h.GV n hn,h.fix n hn⟩)]
theorem Inv.Ip (h:Inv r){H:List Held}(hs:∀x∈H,x∈r.Held):H.filter (fun h => !decide (cI r.ao h.ak<0))=H :=
 List.filter_eq_self.2 fun x hx=>by
  have:=k9.2 (h.eQ x (hs x hx))
  simp only [Bool.not_eq_true',decide_eq_false_iff_not];omega
theorem xZ (h:Inv r):dS r=r:=by
 have:=Fv h [] r.Held (fun t ht=>by cases ht) (h.Ip (fun x hx=>hx)) r.ae r.ah
 rw [List.append_nil] at this
 exact this
theorem Qz {l:List Held}{x y:Held}(hx:x∈l)(hy:y∈l)(e:x.ak=y.ak)(h:cH l x.ak<=1):x=y:=by
 obtain ⟨A,B,rfl⟩:=List.append_of_mem hx
 unfold cH at h
 rw [List.countP_append,List.countP_cons,if_pos (by simp)] at h
 have key:∀ (C:List Held),y∈C->0<C.countP (fun h=>h.ak==x.ak):=fun C hC=>List.countP_pos_iff.2 ⟨y,hC,by simp [e]⟩
 rcases List.mem_append.1 hy with hy|hy
 .have:=key A hy;omega
 .
  rcases List.mem_cons.1 hy with hy|hy
  .exact hy.symm
  .have:=key B hy;omega
theorem Inv.one (h:Inv r){x y:Held}(hx:x∈r.Held)(hy:y∈r.Held)(e:x.ak=y.ak):x=y:=by
 obtain ⟨w,hw,e2⟩:=h.eQ x hx
 have:=h.once w hw
 exact Qz hx hy e (by rw [<- e2];omega)
end
end
section
section
variable {r:aB}
theorem uW:∀ (ns:List Note) (l:List ak),cO l->cO (hX ns l)
 | [],l,h=>h
 | n::ns,l,h=>by
  show cO (hX ns (if 0<n.ak then without l n.ak else l))
  refine uW ns _ ?_
  split
  .exact h.wo _
  .exact h
theorem ya:∀ (ns:List Note) (l:List ak) (w:ak),w∈hX ns l->(∃y∈l,Like w y) /\ ∀n∈ns,0<n.ak->w.ID≠n.ak
 | [],l,w,h=>⟨⟨w,h,Like.refl w⟩,fun n hn=>by cases hn⟩
 | n::ns,l,w,h=>by
  obtain ⟨⟨y,hy,hl⟩,hn⟩:=ya ns (if 0<n.ak then without l n.ak else l) w h
  by_cases h0:0<n.ak
  .
   rw [if_pos h0] at hy
   obtain ⟨z,hz,hne,rfl⟩:=gH.1 hy
   refine ⟨⟨z,hz,hl.trans (vH _ _ z)⟩,fun m hm hm0=>?_⟩
   rcases List.mem_cons.1 hm with e|hm
   .rw [e,hl.id,(kB z).1];exact hne
   .exact hn m hm hm0
  .
   rw [if_neg h0] at hy
   refine ⟨⟨y,hy,hl⟩,fun m hm hm0=>?_⟩
   rcases List.mem_cons.1 hm with e|hm
   .rw [e] at hm0;exact absurd hm0 h0
   .exact hn m hm hm0
theorem sj:∀ (ns:List Note) (l:List ak) (y:ak),y∈l->(∀n∈ns,0<n.ak->y.ID≠n.ak) -> ∃w∈hX ns l,Like w y
 | [],l,y,h,_=>⟨y,h,Like.refl y⟩
 | n::ns,l,y,h,hn=>by
  by_cases h0:0<n.ak
  .
   obtain ⟨w,hw,k⟩:=sj ns (without l n.ak) (mJ n.ak (eP l n.ak) y) (gH.2 ⟨y,h,hn n (List.mem_cons_self ..) h0,rfl⟩) (fun m hm hm0=>by rw [(kB y).1];exact hn m (List.mem_cons_of_mem _ hm) hm0)
   refine ⟨w,?_,k.trans (vH _ _ y)⟩
   show w∈hX ns (if 0<n.ak then without l n.ak else l)
   rw [if_pos h0];exact hw
  .
   obtain ⟨w,hw,k⟩:=sj ns l y h (fun m hm hm0=>hn m (List.mem_cons_of_mem _ hm) hm0)
   refine ⟨w,?_,k⟩
   show w∈hX ns (if 0<n.ak then without l n.ak else l)
   rw [if_neg h0];exact hw
theorem K5 {ns:List Note}{j:Int}(h:cN ns j=0):∀n∈ns,0<n.ak->j≠n.ak:=fun n hn _ e=>by
 have:=Qw hn;rw [<- e] at this;omega
theorem Inv.Iq (h:Inv r):Pre ⟨hX r.Notes r.ao,r.Things,r.Held,[],r.ae,r.ah⟩:=by
 have hs:=fun w hw=>ya r.Notes r.ao w hw
 refine { tree:=uW _ _ h.tree,good:=h.good,si:=?_,oS:=h.oS,qX:=h.qX,py:=h.py,pz:=h.pz,jk:=h.jk,vG:=h.vG,jy:=h.jy,jz:=h.jz,jl:=h.jl,thing:=?_,port:=fun n hn=>(by cases hn),kE:=fun n hn=>(by cases hn),wait:=fun q=>by simp [gh],jA:=fun n hn=>(by cases hn),once:=?_ }
 .intro w hw;obtain ⟨⟨y,hy,k⟩,_⟩:=hs w hw;rw [k.id];exact h.si y hy
 .intro w hw;obtain ⟨⟨y,hy,k⟩,_⟩:=hs w hw;rw [k.th];exact h.thing y hy
 .
  intro w hw
  obtain ⟨⟨y,hy,k⟩,hn⟩:=hs w hw
  have h1:=h.once y hy
  have h2:cN r.Notes w.ID=0:=List.countP_eq_zero.2 fun n hnn e=>by
   have e:n.ak=w.ID:=by simpa using e
   have:=(h.tree.mem hy).id1
   exact hn n hnn (by rw [e,k.id];omega) e.symm
  show cH r.Held w.ID+cN [] w.ID=1
  rw [<- k.id] at h1;simp only [cN,List.countP_nil] at h2 ⊢;unfold cN at h1;omega
theorem uk:∀ (a b:List Int),a.Nodup->(∀x∈a,x∈b)->a.length<=b.length
 | [],b,_,_=>Nat.zero_le _
 | x::a,b,hn,hs=>by
  obtain ⟨h1,h2⟩:=List.nodup_cons.1 hn
  obtain ⟨A,B,rfl⟩:=List.append_of_mem (hs x (List.mem_cons_self ..))
  have:=uk a (A++B) h2 fun y hy=>by
   have h3:=hs y (List.mem_cons_of_mem _ hy)
   rcases List.mem_append.1 h3 with h3|h3
   .exact List.mem_append.2 (.inl h3)
   .
    rcases List.mem_cons.1 h3 with e|h3
    .exact absurd (e▸hy) h1
    .exact List.mem_append.2 (.inr h3)
  simp only [List.length_cons,List.length_append] at this ⊢;omega
theorem K6 (h:Inv r)(hn:r.Notes=[]):r.Held.length=r.ao.length:=by
 have h1:(r.ao.map ak.ID).Nodup:=List.Pairwise.imp (fun h=>Int.ne_of_lt h) (List.pairwise_map.2 h.tree.is.rise)
 have h2:(r.Held.map Held.ak).Nodup:=by
  refine List.pairwise_iff_getElem.2 fun i j hi hj hij e=>?_
  rw [List.length_map] at hi hj
  rw [List.getElem_map,List.getElem_map] at e
  have:=h.one (List.getElem_mem hi) (List.getElem_mem hj) e
  have h3:=List.pairwise_iff_getElem.1 (jM h.good) i j hi hj hij
  rw [this] at h3
  exact tq h3
 have a:=uk (r.Held.map Held.ak) (r.ao.map ak.ID) h2 fun x hx=>by
  obtain ⟨y,hy,rfl⟩:=List.mem_map.1 hx
  obtain ⟨w,hw,e⟩:=h.eQ y hy
  exact List.mem_map.2 ⟨w,hw,e⟩
 have b:=uk (r.ao.map ak.ID) (r.Held.map Held.ak) h1 fun x hx=>by
  obtain ⟨w,hw,rfl⟩:=List.mem_map.1 hx
  have h3:=h.once w hw
  rw [hn] at h3;simp only [cN,List.countP_nil] at h3
  obtain ⟨y,hy,e⟩:=List.countP_pos_iff.1 (show 0<cH r.Held w.ID by omega)
  exact List.mem_map.2 ⟨y,hy,by simpa using e⟩
 simp only [List.length_map] at a b;omega
theorem jv (h:Inv r):Inv (bm r)/\(bm r).Notes=[]/\(bm r).Held=r.Held/\(bm r).Held.length=(bm r).ao.length/\bm (bm r)=bm r:=by
 have hp:=h.Iq
 have hi:Inv (bm r):=uj hp
 have hl:pg ⟨hX r.Notes r.ao,r.Things,r.Held,[],r.ae,r.ah⟩=[]:=rfl
 have hd:bm r=fN ⟨hX r.Notes r.ao,r.Things,r.Held,[],r.ae,r.ah⟩:=qi (by rw [hl];rfl)
 have hn:(bm r).Notes=[]:=by rw [hd];rfl
 refine ⟨hi,hn,?_,K6 hi hn,?_⟩
 .
  rw [hd]
  show r.Held.filter _=r.Held
  refine List.filter_eq_self.2 fun x hx=>?_
  obtain ⟨w,hw,e⟩:=h.eQ x hx
  have h1:=h.once w hw;have h2:=Qv hx;rw [<- e] at h2
  obtain ⟨v,hv,k⟩:=sj r.Notes r.ao w hw (K5 (by omega))
  have h3:0<=cI (hX r.Notes r.ao) x.ak:=k9.2 ⟨v,hv,by rw [k.id,e]⟩
  simp only [Bool.not_eq_true',decide_eq_false_iff_not];omega
 .
  have hs:=xZ hi
  generalize bm r=x at hn hs
  cases x with
  | mk W T H N a b =>
   have hn':N=[]:=hn
   subst hn'
   exact hs
theorem DL {k:Nat}(h:Sz k r):Sz k (bm r) :=
 oP _ _ ⟨Nat.le_trans (xJ _ _) h.wl,h.tl,h.hl,Nat.zero_le _,zN _ _ h.ri,h.w0,h.w1,h.t0,h.t1⟩
end
end
def gQ (n:Int):ByteArray:=⟨(Lib.itoa n).toArray⟩
def bM (n:Int):ByteArray:=⟨(Lib.repeatL [48] (4-(gQ n).size)).toArray⟩++gQ n
def vu (s:ByteArray):Option Int:=match Lib.atoi s.data.toList with|some n=>if bM n=s then some n else none|none=>none
def jK (s:ByteArray):Nat->Option (List Int)
  | 0=>some []
  | k+1=>match jK s k with
    | some l=>match vu (s.extract (4*k) (4*k+4)) with|some n=>some (l++[n])|none=>none
    | none=>none
def dY (s:ByteArray)(m:Nat):Option (List Int):=if s.size<4*m then none else jK s m
theorem um {s:ByteArray}:∀ {k:Nat} {l:List Int},jK s k=some l->l.length=k
 | 0,l,h=>by simp [jK] at h;subst h;rfl
 | k+1,l,h=>by
  simp only [jK] at h
  split at h
  .
   rename_i l' h'
   split at h
   .injection h with h;subst h;simp [um h']
   .cases h
  .cases h
theorem Fw {s:ByteArray}{k:Nat}{l:List Int}{n:Int}(h:jK s k=some l)(hn:vu (s.extract (4*k) (4*k+4))=some n):jK s (k+1)=some (l++[n]):=by simp only [jK,h,hn]
theorem yb {s:ByteArray}:∀ {m k:Nat},k<=m->jK s k=none->jK s m=none
 | 0,k,hk,h=>by
  have:k=0:=by omega
  subst this;exact h
 | m+1,k,hk,h=>by
  rcases Nat.lt_or_ge k (m+1) with h1|h1
  .simp only [jK,yb (m:=m) (by omega) h]
  .
   have:k=m+1:=by omega
   subst this;exact h
theorem Ir {s:ByteArray}{k m:Nat}{l:List Int}(hk:k<m)(h:jK s k=some l)(hn:vu (s.extract (4*k) (4*k+4))=none):jK s m=none :=
 yb (k:=k+1) (by omega) (by simp only [jK,h,hn])
theorem Iu {s:ByteArray}{m:Nat}{l:List Int}(h:dY s m=some l):l.length=m/\4*m<=s.size:=by
 unfold dY at h;split at h
 .cases h
 .exact ⟨um h,by omega⟩
def kH:ByteArray:=⟨#[104]⟩
def kT:ByteArray:=⟨#[116]⟩
def kW:ByteArray:=⟨#[119]⟩
def kX:ByteArray:=⟨#[120]⟩
def hrow (h:Held):Change:=⟨kH++gQ h.Place.aA++gQ h.Place.Slot,bM h.ak,false⟩
def lZ (t:aF):Change:=⟨kT++bM t.ID,bM t.Kind++t.Data,false⟩
def oc (w:ak):Change:=⟨kW++bM w.ID,bM w.aF++bM w.Rights++bM w.aQ++bM w.From,false⟩
def DN (r:aB):Change:=⟨kX,bM r.ae++bM r.ah,false⟩
def rowsOf (q:aB):List Change:=q.Held.map hrow++q.Things.map lZ++q.ao.map oc++[DN q]
def bg (r:aB):List Change:=rowsOf (bm r)
def M3 (s:ByteArray)(i:Nat):Int:=(bf s i:Int)
def Tc (c:Change):Place:=⟨M3 c.Key 1-48,M3 c.Key 2-48⟩
def Iv (r:aB)(h:Held):aB:=⟨r.ao,r.Things,r.Held++[h],r.Notes,r.ae,r.ah⟩
def Iw (r:aB)(t:aF):aB:=⟨r.ao,r.Things++[t],r.Held,r.Notes,r.ae,r.ah⟩
def DR (r:aB)(w:ak):aB:=⟨r.ao++[w],r.Things,r.Held,r.Notes,r.ae,r.ah⟩
def M4 (r:aB)(a b:Int):aB:=⟨r.ao,r.Things,r.Held,r.Notes,a,b⟩
def Ix (o:Option (List Int))(j:Nat):Int:=((o.getD [])[j]?).getD 0
def rowP (r:aB)(c:Change):aB×Bool :=
  if c.Key.size=0 then (r,false) else
  let key:=dY (c.Key.extract 1 c.Key.size) 1
  let ok:=key.isSome&&decide (c.Key.size=5)
  let n1:=dY c.Val 1
  let n4:=dY c.Val 4
  let n2:=dY c.Val 2
  if bf c.Key 0=104 then (if n1.isSome=false∨c.Val.size≠4∨c.Key.size≠3 then (r,false) else (Iv r ⟨Tc c,Ix n1 0⟩,decide (aY (Tc c)=0)))
  else if bf c.Key 0=116 then (if ok=false∨n1.isSome=false∨12<c.Val.size then (r,false) else (Iw r ⟨Ix key 0,Ix n1 0,c.Val.extract 4 c.Val.size⟩,decide (Ix n1 0=1∨Ix n1 0=2/\c.Val.size=4)))
  else if bf c.Key 0=119 then (if ok=false∨n4.isSome=false∨c.Val.size≠16 then (r,false) else (DR r ⟨Ix key 0,Ix n4 0,Ix n4 1,Ix n4 2,Ix n4 3⟩,true))
  else if c.Key≠kX∨n2.isSome=false∨c.Val.size≠8 then (r,false) else (M4 r (Ix n2 0) (Ix n2 1),true)
def sk (pv:Option ByteArray)(c:Change):Bool:=match pv with|some k=>jx k c.Key|none=>true
def pgo:List Change->Option ByteArray->aB->Option aB
  | [],_,r=>some r
  | c::l,pv,r=>if sk pv c && !c.Gone&&(rowP r c).2 then pgo l (some c.Key) (rowP r c).1 else none
structure Whole (r:aB):Prop where
  tree:cO r.ao
  jl:r.Things.length<=10
  oS:1<=r.ae
  qX:r.ae<=1000
  py:1<=r.ah
  pz:r.ah<=1000
  hlen:r.Held.length=r.ao.length
  eQ:∀h∈r.Held,0<=cI r.ao h.ak
  once:(r.Held.map Held.ak).Nodup
  things:r.Things.map aF.ID=bV r.ao
  Oy:∀w,r.ao.getLast? = some w->w.ID<r.ae
  Oz:∀t,r.Things.getLast? = some t->t.ID<r.ah
noncomputable def dZ (r:aB):Bool:= @decide (Whole r) (Classical.propDecidable _)
noncomputable def bS (l:List Change):aB×Int:=match pgo l none r0 with|some r=>if dZ r=true then (r,0) else (r0,4)|none=>(r0,4)
theorem yc {r:aB}(h:Whole r):dZ r=true:=by unfold dZ;simp [h]
theorem gv {r:aB}(h:¬ Whole r):dZ r=false:=by unfold dZ;simp [h]
end Go.Proofs.YtkbhcbipadkcaaaGreatDoor
