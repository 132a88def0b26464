import Derived.Test.YtkbhcbipadkcaaaGreatDoorTS22
import Derived.Lib.Atoi
import Derived.Lib.ItoaNum
import Derived.Lib.Repeat
namespace Go.Proofs.YtkbhcbipadkcaaaGreatDoor
set_option linter.unusedVariables false
set_option linter.unusedSimpArgs false
set_option maxRecDepth 100000
set_option maxHeartbeats 90000000
section
theorem l8 {r:aB}{p:Place}(h:gI r p=0):aZ p=0/\mM r.Held p=0:=by
 unfold gI at h
 by_cases h1:aZ p=0
 .
  rw [if_pos h1] at h
  by_cases h2:mM r.Held p=0
  .exact ⟨h1,h2⟩
  .rw [if_neg h2] at h;omega
 .rw [if_neg h1] at h;exact absurd h h1
theorem lG {l:List Held}{p:Place}{id:Int}(hg:Good l)(h:mM l p=0)(hi:id≠0){x:Held}:x∈fT l p id↔x=⟨p,id⟩∨x∈l:=by
 obtain ⟨A,B,e,e2⟩:=GD hg h hi
 rw [e2,e];simp only [List.mem_append,List.mem_cons];constructor <;> (rintro (h|h|h) <;> simp [h])
theorem DJ {l:List Held}{p:Place}{w:Int}(hg:Good l)(h:mM l p=w)(hw:w≠0){x:Held}(hx:x∈fT l p 0):x∈l:=by
 obtain ⟨A,B,e,e2⟩:=BJ hg h hw
 rw [e2] at hx;rw [e];simp only [List.mem_append,List.mem_cons] at hx ⊢;rcases hx with h|h <;> simp [h]
section
variable {r:aB}
theorem Inv.get (h:Inv r){p:Place}(hg:(aS r p).2=0):aZ p=0/\(aS r p).1∈r.ao/\(aS r p).1.ID=mM r.Held p/\1<=(aS r p).1.ID/\(aS r p).1.ID<r.af:=by
 obtain ⟨h1,h2,h3⟩:=zG hg
 exact ⟨h1,h2,h3,(h.tree.mem h2).id1,h.r9 _ h2⟩
theorem Inv.fresh (h:Inv r):cH r.Held r.af=0/\cN r.Notes r.af=0:=by
 constructor
 .
  refine List.countP_eq_zero.2 fun x hx=>?_
  obtain ⟨w,hw,e⟩:=h.eP x hx
  have:=h.r9 w hw
  simp;omega
 .
  refine List.countP_eq_zero.2 fun x hx=>?_
  have h0:=h.jB x hx;have h1:=h.oN
  by_cases hp:0<x.ak
  .
   obtain ⟨w,hw,e⟩:=h.iw x hx hp
   have:=h.r9 w hw
   simp;omega
  .simp;omega
theorem zQ {l:List ak}{w:ak}(h:cL l)(hw:cu w=0)(hlt:∀y∈l,y.ID<w.ID)(hm:w.From≠0 -> ∃y∈l,Made y w):cL (l++[w]):=by
 have hi:=h.is
 refine tZ.ok' ⟨fun x hx=>?_,List.pairwise_append.2 ⟨hi.rise,by simp,fun a ha b hb=>by simp at hb;subst hb;exact hlt a ha⟩,fun x hx h0=>?_⟩
 .
  rcases List.mem_append.1 hx with hx|hx
  .exact hi.ok x hx
  .rw [List.mem_singleton.1 hx];exact hw
 .
  rcases List.mem_append.1 hx with hx|hx
  .
   obtain ⟨y,hy,hmd⟩:=hi.made x hx h0
   exact ⟨y,List.mem_append.2 (.inl hy),hmd⟩
  .
   have e:=List.mem_singleton.1 hx
   subst e
   obtain ⟨y,hy,hmd⟩:=hm h0
   exact ⟨y,List.mem_append.2 (.inl hy),hmd⟩
theorem xQ {p:Place}{kind:Int}(h:(dQ r p kind).2=0):(kind=1∨kind=2)/\gI r p=0/\r.Things.length≠10/\r.ah<=999/\r.af<=999 /\
 (0<p.aC->(dQ r p kind).1=⟨r.ao++[⟨r.af,r.ah,7,0,0⟩],r.Things++[⟨r.ah,kind,⟨#[]⟩⟩],fT r.Held p r.af,r.Notes,r.af+1,r.ah+1⟩):=by
 unfold dQ at h ⊢
 by_cases h1:kind=1∨kind=2
 .
  rw [if_pos h1] at h ⊢
  by_cases h2:gI r p=0
  .
   rw [if_pos h2] at h ⊢
   by_cases h3:r.Things.length=10∨999<r.ah∨999<r.af
   .rw [if_pos h3] at h;simp at h
   .
    rw [if_neg h3]
    refine ⟨h1,h2,by omega,by omega,by omega,fun hp=>?_⟩
    unfold fA;dsimp only;rw [if_pos hp]
  .rw [if_neg h2] at h;exact absurd h h2
 .rw [if_neg h1] at h;simp at h
theorem Inv.make (h:Inv r){p:Place}{kind:Int}(hm:(dQ r p kind).2=0):Inv (dQ r p kind).1:=by
 obtain ⟨hk,hf,hl,ht,hw,he⟩:=xQ hm
 obtain ⟨hp,ha⟩:=l8 hf
 have hpl:=cx hp
 rw [he (by omega)]
 have n1:=h.oN;have n2:=h.pj;have hfr:=h.fresh;have hmax:=h.jl
 have hi:r.af≠0:=by omega
 have Uu:=mD (id:=r.af) h.good hp
 refine { tree:=zQ h.tree (oH (by dsimp only;omega)) (fun y hy=>h.r9 y hy) (fun h0=>absurd rfl h0),good:=Uu,r9:=?_,oN:=by show 1<=r.af+1;omega,qS:=by show r.af+1<=1000;omega,pj:=by show 1<=r.ah+1;omega,pn:=by show r.ah+1<=1000;omega,jk:=List.pairwise_append.2 ⟨h.jk,by simp,fun a ha b hb=>by simp at hb;subst hb;exact (h.vE a ha).2⟩,vE:=?_,jz:=?_,jA:=?_,jl:=by show (r.Things++[_]).length<=10;simp;omega,thing:=?_,port:=?_,kE:=h.kE,wait:=h.wait,jB:=h.jB,once:=?_,iw:=?_,eP:=?_,used:=?_ }
 .
  intro w hw
  show w.ID<r.af+1
  rcases List.mem_append.1 hw with hw|hw
  .have:=h.r9 w hw;omega
  .rw [List.mem_singleton.1 hw];show r.af<_;omega
 .
  intro t ht
  show 1<=t.ID/\t.ID<r.ah+1
  rcases List.mem_append.1 ht with ht|ht
  .have:=h.vE t ht;omega
  .rw [List.mem_singleton.1 ht];show 1<=r.ah/\r.ah<_;omega
 .
  intro t ht
  rcases List.mem_append.1 ht with ht|ht
  .exact h.jz t ht
  .rw [List.mem_singleton.1 ht];exact hk
 .
  intro t ht
  rcases List.mem_append.1 ht with ht|ht
  .exact h.jA t ht
  .rw [List.mem_singleton.1 ht];exact ⟨by show (0:Nat)<=8;decide,fun _=>rfl⟩
 .
  intro w hw
  rcases List.mem_append.1 hw with hw|hw
  .
   obtain ⟨t,ht,e⟩:=h.thing w hw
   exact ⟨t,List.mem_append.2 (.inl ht),e⟩
  .rw [List.mem_singleton.1 hw];exact ⟨_,List.mem_append.2 (.inr (List.mem_singleton.2 rfl)),rfl⟩
 .
  intro n hn
  obtain ⟨t,ht,e⟩:=h.port n hn
  exact ⟨t,List.mem_append.2 (.inl ht),e⟩
 .
  intro w hw
  show cH (fT r.Held p r.af) w.ID+cN r.Notes w.ID=1
  rw [BK h.good ha hi]
  rcases List.mem_append.1 hw with hw|hw
  .
   have:=h.r9 w hw;have:=h.once w hw
   rw [if_neg (by omega)];omega
  .
   rw [List.mem_singleton.1 hw];show cH r.Held r.af+(if r.af=r.af then 1 else 0)+cN r.Notes r.af=1
   rw [if_pos rfl];omega
 .
  intro n hn h0
  obtain ⟨w,hw,e⟩:=h.iw n hn h0
  exact ⟨w,List.mem_append.2 (.inl hw),e⟩
 .
  intro x hx
  rcases (lG h.good ha hi).1 hx with e|hx
  .rw [e];exact ⟨_,List.mem_append.2 (.inr (List.mem_singleton.2 rfl)),rfl⟩
  .
   obtain ⟨w,hw,e⟩:=h.eP x hx
   exact ⟨w,List.mem_append.2 (.inl hw),e⟩
 .
  intro t ht
  rcases List.mem_append.1 ht with ht|ht
  .
   obtain ⟨w,hw,e⟩:=h.used t ht
   exact ⟨w,List.mem_append.2 (.inl hw),e⟩
  .rw [List.mem_singleton.1 ht];exact ⟨_,List.mem_append.2 (.inr (List.mem_singleton.2 rfl)),rfl⟩
theorem xR {p t:Place}{a b:Int}(h:(fq r p t a b).2=0):(aS r p).2=0/\gI r t=0/\(p.aC=t.aC∨je (aS r p).1.Rights 4=true)/\r.af<=999/\(derived (aS r p).1 r.af a b).2=0 /\
 (0<t.aC->(fq r p t a b).1=⟨r.ao++[(derived (aS r p).1 r.af a b).1],r.Things,fT r.Held t (derived (aS r p).1 r.af a b).1.ID,r.Notes,r.af+1,r.ah⟩):=by
 unfold fq at h ⊢
 by_cases h1:(aS r p).2=0
 .
  rw [if_pos h1] at h ⊢
  by_cases h2:gI r t=0
  .
   rw [if_pos h2] at h ⊢
   by_cases h3:p.aC=t.aC∨je (aS r p).1.Rights 4=true
   .
    rw [if_pos h3] at h ⊢
    by_cases h4:999<r.af
    .rw [if_pos h4] at h;simp at h
    .
     rw [if_neg h4] at h ⊢
     by_cases h5:(derived (aS r p).1 r.af a b).2=0
     .
      rw [if_pos h5]
      refine ⟨h1,h2,h3,by omega,h5,fun hp=>?_⟩
      unfold fA;dsimp only;rw [if_pos hp]
     .rw [if_neg h5] at h;exact absurd h h5
   .rw [if_neg h3] at h;simp at h
  .rw [if_neg h2] at h;exact absurd h h2
 .rw [if_neg h1] at h;exact absurd h h1
theorem Inv.derive (h:Inv r){g:ak}(hg:g∈r.ao){a b:Int}(hn:r.af<=999)(hd:(derived g r.af a b).2=0):cL (r.ao++[(derived g r.af a b).1])/\(derived g r.af a b).1.ID=r.af/\(derived g r.af a b).1.aE=g.aE/\(derived g r.af a b).1.Rights=a/\(derived g r.af a b).1.From=g.ID/\je g.Rights a=true/\0<=a/\a<=7:=by
 obtain ⟨a0,a7,b0,b9,hh,e,hb⟩:=s8 hd
 have w:=h.tree.mem hg
 have w1:=w.id1;have w2:=w.Qc;have w3:=w.Qd;have w4:=w.Qe;have w5:=w.Qf;have w6:=h.r9 g hg
 rw [e]
 refine ⟨zQ h.tree (oH ⟨by show 1<=r.af;omega,hn,w2,w3,?_,?_,by show 0<=g.ID;omega,w6,a0,a7⟩) (fun y hy=>h.r9 y hy) (fun _=>⟨g,hg,rfl,hh,?_,rfl⟩),rfl,rfl,rfl,rfl,hh,a0,a7⟩
 .show 0<=(if b=0 then g.aQ else b);split <;> omega
 .show (if b=0 then g.aQ else b)<=99;split <;> omega
 .
  show g.aQ=0∨(if b=0 then g.aQ else b)=g.aQ
  split <;> omega
theorem Inv.give (h:Inv r){p t:Place}{a b:Int}(hm:(fq r p t a b).2=0):Inv (fq r p t a b).1:=by
 obtain ⟨hg,hf,hr,hw,hd,he⟩:=xR hm
 obtain ⟨hp,ha⟩:=l8 hf
 have hpl:=cx hp
 obtain ⟨_,hgm,_⟩:=h.get hg
 obtain ⟨GF,hid,hth,_⟩:=h.derive hgm hw hd
 rw [he (by omega),hid]
 generalize hx:(derived (aS r p).1 r.af a b).1=x at *
 have n1:=h.oN;have hfr:=h.fresh
 have hi:r.af≠0:=by omega
 have Uu:=mD (id:=r.af) h.good hp
 refine { tree:=GF,good:=Uu,r9:=?_,oN:=by show 1<=r.af+1;omega,qS:=by show r.af+1<=1000;omega,pj:=h.pj,pn:=h.pn,jk:=h.jk,vE:=h.vE,jz:=h.jz,jA:=h.jA,jl:=h.jl,thing:=?_,port:=h.port,kE:=h.kE,wait:=h.wait,jB:=h.jB,once:=?_,iw:=?_,eP:=?_,used:=?_ }
 .
  intro w hw
  show w.ID<r.af+1
  rcases List.mem_append.1 hw with hw|hw
  .have:=h.r9 w hw;omega
  .rw [List.mem_singleton.1 hw,hid];omega
 .
  intro w hw
  rcases List.mem_append.1 hw with hw|hw
  .exact h.thing w hw
  .rw [List.mem_singleton.1 hw,hth];exact h.thing _ hgm
 .
  intro w hw
  show cH (fT r.Held t r.af) w.ID+cN r.Notes w.ID=1
  rw [BK h.good ha hi]
  rcases List.mem_append.1 hw with hw|hw
  .
   have:=h.r9 w hw;have:=h.once w hw
   rw [if_neg (by omega)];omega
  .rw [List.mem_singleton.1 hw,hid,if_pos rfl];omega
 .
  intro n hn h0
  obtain ⟨w,hw,e⟩:=h.iw n hn h0
  exact ⟨w,List.mem_append.2 (.inl hw),e⟩
 .
  intro y hy
  rcases (lG h.good ha hi).1 hy with e|hy
  .rw [e];exact ⟨x,List.mem_append.2 (.inr (List.mem_singleton.2 rfl)),hid⟩
  .
   obtain ⟨w,hw,e⟩:=h.eP y hy
   exact ⟨w,List.mem_append.2 (.inl hw),e⟩
 .
  intro t ht
  obtain ⟨w,hw,e⟩:=h.used t ht
  exact ⟨w,List.mem_append.2 (.inl hw),e⟩
theorem xS {p:Place}{s:Int}(h:(jh r p s).2=0):(aS r p).2=0/\gI r ⟨p.aC,s⟩=0/\(jh r p s).1=⟨r.ao,r.Things,fT (fT r.Held p 0) ⟨p.aC,s⟩ (aS r p).1.ID,r.Notes,r.af,r.ah⟩:=by
 unfold jh at h ⊢
 by_cases h1:(aS r p).2=0
 .
  rw [if_pos h1] at h ⊢
  by_cases h2:gI r ⟨p.aC,s⟩=0
  .rw [if_pos h2];exact ⟨h1,h2,rfl⟩
  .rw [if_neg h2] at h;exact absurd h h2
 .rw [if_neg h1] at h;exact absurd h h1
theorem Inv.held (h:Inv r){m:List Held}(hg:Good m)(hc:∀w∈r.ao,cH m w.ID=cH r.Held w.ID)(hs:∀x∈m,∃w∈r.ao,w.ID=x.ak):Inv ⟨r.ao,r.Things,m,r.Notes,r.af,r.ah⟩ :=
 { tree:=h.tree,good:=hg,r9:=h.r9,oN:=h.oN,qS:=h.qS,pj:=h.pj,pn:=h.pn,jk:=h.jk,vE:=h.vE,jz:=h.jz,jA:=h.jA,jl:=h.jl,thing:=h.thing,port:=h.port,kE:=h.kE,wait:=h.wait,jB:=h.jB,once:=fun w hw=>by show cH m w.ID+_=1;rw [hc w hw];exact h.once w hw,iw:=h.iw,eP:=hs,used:=h.used }
theorem Inv.move (h:Inv r){p:Place}{s:Int}(hm:(jh r p s).2=0):Inv (jh r p s).1:=by
 obtain ⟨hg,hf,he⟩:=xS hm
 obtain ⟨hp,ha⟩:=l8 hf
 obtain ⟨hpf,hgm,hat,h1,_⟩:=h.get hg
 rw [he]
 have hi:(aS r p).1.ID≠0:=by omega
 have hg1:Good (fT r.Held p 0):=mD h.good hpf
 have hne:¬ (⟨p.aC,s⟩:Place)=p:=fun e=>by rw [e] at ha;omega
 have ha1:mM (fT r.Held p 0) ⟨p.aC,s⟩=0:=by rw [zK h.good hpf hne];exact ha
 refine h.held (mD hg1 hp) (fun w hw=>?_) (fun x hx=>?_)
 .rw [BK hg1 ha1 hi,<- Qm h.good hat.symm hi]
 .
  rcases (lG hg1 ha1 hi).1 hx with e|hx
  .rw [e];exact ⟨_,hgm,rfl⟩
  .exact h.eP x (DJ h.good hat.symm hi hx)
theorem Pre.uJ (h:Pre r){l:List ak}(ht:cL l)(hs:∀v∈l,∃w∈r.ao,Like v w):Pre ⟨l,r.Things,r.Held,r.Notes,r.af,r.ah⟩ :=
 { tree:=ht,good:=h.good,r9:=fun v hv=>by obtain ⟨w,hw,k⟩:=hs v hv;rw [k.id];exact h.r9 w hw,oN:=h.oN,qS:=h.qS,pj:=h.pj,pn:=h.pn,jk:=h.jk,vE:=h.vE,jz:=h.jz,jA:=h.jA,jl:=h.jl,thing:=fun v hv=>by obtain ⟨w,hw,k⟩:=hs v hv;rw [k.th];exact h.thing w hw,port:=h.port,kE:=h.kE,wait:=h.wait,jB:=h.jB,once:=fun v hv=>by obtain ⟨w,hw,k⟩:=hs v hv;rw [k.id];exact h.once w hw }
theorem Pre.wo (h:Pre r)(id:Int):Pre ⟨without r.ao id,r.Things,r.Held,r.Notes,r.af,r.ah⟩ :=
 h.uJ (h.tree.wo id) (fun v hv=>by obtain ⟨y,hy,_,rfl⟩:=gH.1 hv;exact ⟨y,hy,vF _ _ y⟩)
theorem tg {l:List ak}{id:Int}{x:ak}:x∈Fe l id↔x∈l/\¬ x.ID∈kA id l:=by
 unfold Fe;rw [List.mem_filter];simp
theorem KX {l:List ak}(h:cL l){id:Int}{x y:ak}(hi:0<=cD l id)(hx:x∈l)(hy:y∈l)(e:y.ID=x.From)(hb:y.ID∈kA id l):x.ID∈kA id l:=by
 have h1:=l7 hx;have h2:=l7 hy
 rw [zD h hi h1]
 rw [zD h hi h2] at hb
 unfold above at hb ⊢
 obtain ⟨x',_,e1,hx',e2⟩:=nV h1
 have:x'=x:=h.inj hx' hx e1
 subst this
 rw [e2,<- e,rZ h h2]
 exact List.mem_cons_of_mem _ hb
theorem cL.cut {l:List ak}(h:cL l){id:Int}(hi:0<=cD l id):cL (Fe l id):=by
 have hs:=h.is
 refine tZ.ok' ⟨fun x hx=>hs.ok x (tg.1 hx).1,hs.rise.filter _,fun x hx h0=>?_⟩
 obtain ⟨h1,h2⟩:=tg.1 hx
 obtain ⟨y,hy,hm⟩:=hs.made x h1 h0
 exact ⟨y,tg.2 ⟨hy,fun hb=>h2 (KX h hi h1 hy hm.gq hb)⟩,hm⟩
theorem Pre.cut (h:Pre r){id:Int}(hi:0<=cD r.ao id):Pre ⟨Fe r.ao id,r.Things,r.Held,r.Notes,r.af,r.ah⟩ :=
 h.uJ (h.tree.cut hi) (fun v hv=>⟨v,(tg.1 hv).1,Like.refl v⟩)
theorem xU {p:Place}(h:(jJ r p).2=0):(aS r p).2=0/\(jJ r p).1=dN ⟨without r.ao (aS r p).1.ID,r.Things,r.Held,r.Notes,r.af,r.ah⟩:=by
 unfold jJ at h ⊢
 by_cases h1:(aS r p).2=0
 .rw [if_pos h1];exact ⟨h1,rfl⟩
 .rw [if_neg h1] at h;exact absurd h h1
theorem tj {p:Place}(h:(fa r p).2=0):(aS r p).2=0/\(fa r p).1=dN ⟨Fe r.ao (aS r p).1.ID,r.Things,r.Held,r.Notes,r.af,r.ah⟩:=by
 unfold fa at h ⊢
 by_cases h1:(aS r p).2=0
 .rw [if_pos h1];exact ⟨h1,rfl⟩
 .rw [if_neg h1] at h;exact absurd h h1
theorem Inv.drop (h:Inv r){p:Place}(hm:(jJ r p).2=0):Inv (jJ r p).1:=by
 rw [(xU hm).2];exact ud (h.toPre.wo _)
theorem Inv.Qq (h:Inv r){p:Place}(hm:(fa r p).2=0):Inv (fa r p).1:=by
 obtain ⟨hg,he⟩:=tj hm
 rw [he];exact ud (h.toPre.cut (l7 (h.get hg).2.1))
theorem mem_set {l:List aE}{i:Nat}{d:ByteArray}{x:aE}(h:x∈gU l i d):∃ (k:Nat) (t:aE),l[k]? = some t/\x.ID=t.ID/\x.Kind=t.Kind/\(x.Data=t.Data∨k=i/\x.Data=d):=by
 unfold gU at h
 split at h
 .
  rename_i t ht
  obtain ⟨k,hk⟩:=List.mem_iff_getElem?.1 h
  rw [List.getElem?_set] at hk
  split at hk
  .
   rename_i e;subst e
   split at hk
   .injection hk with hk;subst hk;exact ⟨_,t,ht,rfl,rfl,.inr ⟨rfl,rfl⟩⟩
   .cases hk
  .exact ⟨k,x,hk,rfl,rfl,.inl rfl⟩
 .
  obtain ⟨k,hk⟩:=List.mem_iff_getElem?.1 h
  exact ⟨k,x,hk,rfl,rfl,.inl rfl⟩
theorem GG {l:List aE}{i:Nat}{d:ByteArray}{t:aE}(h:t∈l):∃x∈gU l i d,x.ID=t.ID/\x.Kind=t.Kind:=by
 unfold gU
 split
 .
  rename_i y hy
  obtain ⟨k,hk⟩:=List.mem_iff_getElem?.1 h
  by_cases e:i=k
  .
   subst e;rw [hk] at hy;injection hy with hy;subst hy
   exact ⟨_,List.mem_set (by have:=(List.getElem?_eq_some_iff.1 hk).1;exact this) _,rfl,rfl⟩
  .exact ⟨t,List.mem_of_getElem? (i:=k) (by rw [List.getElem?_set,if_neg e];exact hk),rfl,rfl⟩
 .exact ⟨t,h,rfl,rfl⟩
theorem MS (l:List aE)(i:Nat)(d:ByteArray):(gU l i d).map aE.ID=l.map aE.ID:=by
 unfold gU
 split
 .
  rename_i t ht
  rw [List.map_set]
  apply List.ext_getElem?
  intro k
  rw [List.getElem?_set]
  split
  .
   rename_i e;subst e;rw [List.getElem?_map,ht]
   split
   .rfl
   .rename_i hk;exfalso;apply hk;have:=(List.getElem?_eq_some_iff.1 ht).1;simpa using this
  .rfl
 .rfl
theorem uQ {p:Place}{d:ByteArray}(h:(fY r p d).2=0):(cz r p 1 2).2.2=0/\d.size<=8/\(fY r p d).1=⟨r.ao,gU r.Things (cz r p 1 2).2.1.toNat d,r.Held,r.Notes,r.af,r.ah⟩:=by
 unfold fY at h ⊢
 by_cases h1:(cz r p 1 2).2.2=0
 .
  rw [if_pos h1] at h ⊢
  by_cases h2:8<d.size
  .rw [if_pos h2] at h;simp at h
  .rw [if_neg h2];exact ⟨h1,by omega,rfl⟩
 .rw [if_neg h1] at h;exact absurd h h1
theorem Inv.write (h:Inv r){p:Place}{d:ByteArray}(hm:(fY r p d).2=0):Inv (fY r p d).1:=by
 obtain ⟨hy,hd,he⟩:=uQ hm
 obtain ⟨_,_,_,k,t,hk,ht,V7,htk,_⟩:=qN hy
 rw [he,hk,Int.toNat_natCast]
 have Uv:=MS r.Things k d
 have hin:∀x∈gU r.Things k d,∃y∈r.Things,x.ID=y.ID/\x.Kind=y.Kind:=fun x hx=>by
  obtain ⟨j,y,hj,a,b,_⟩:=mem_set hx;exact ⟨y,List.mem_of_getElem? hj,a,b⟩
 refine { tree:=h.tree,good:=h.good,r9:=h.r9,oN:=h.oN,qS:=h.qS,pj:=h.pj,pn:=h.pn,jk:=?_,vE:=?_,jz:=?_,jA:=?_,jl:=by show (gU _ _ _).length<=10;rw [uM];exact h.jl,thing:=?_,port:=?_,kE:=h.kE,wait:=h.wait,jB:=h.jB,once:=h.once,iw:=h.iw,eP:=h.eP,used:=?_ }
 .
  have h1:(r.Things.map aE.ID).Pairwise (· < ·):=List.pairwise_map.2 h.jk
  show (gU r.Things k d).Pairwise _
  rw [<- Uv] at h1
  exact List.pairwise_map.1 h1
 .intro x hx;obtain ⟨y,hy,a,b⟩:=hin x hx;show 1<=x.ID/\x.ID<r.ah;rw [a];exact h.vE y hy
 .intro x hx;obtain ⟨y,hy,a,b⟩:=hin x hx;rw [b];exact h.jz y hy
 .
  intro x hx
  obtain ⟨j,y,hj,a,b,c⟩:=mem_set hx
  have:=h.jA y (List.mem_of_getElem? hj)
  rcases c with c|⟨c,c2⟩
  .rw [c,b];exact this
  .
   subst c;rw [ht] at hj;injection hj with hj;subst hj
   rw [c2];exact ⟨hd,fun h2=>by rw [b,htk] at h2;omega⟩
 .
  intro w hw
  obtain ⟨t',ht',e⟩:=h.thing w hw
  obtain ⟨x,hx,a,_⟩:=GG (i:=k) (d:=d) ht'
  exact ⟨x,hx,by rw [a,e]⟩
 .
  intro n hn
  obtain ⟨t',ht',e,e2⟩:=h.port n hn
  obtain ⟨x,hx,a,b⟩:=GG (i:=k) (d:=d) ht'
  exact ⟨x,hx,by rw [a,e],by rw [b,e2]⟩
 .intro x hx;obtain ⟨y,hy,a,b⟩:=hin x hx;rw [a];exact h.used y hy
end
end
section
section
variable {r:aB}
theorem zR (ns:List Note)(n:Note)(q:Int):gj (ns++[n]) q=gj ns q+(if n.Port=q then 1 else 0):=by
 unfold gj;rw [List.filter_append,List.length_append]
 by_cases h:n.Port=q
 .rw [if_pos h];simp [h]
 .rw [if_neg h];simp [h]
theorem GH (ns:List Note)(n:Note)(j:Int):cN (ns++[n]) j=cN ns j+(if n.ak=j then 1 else 0):=by
 unfold cN;rw [List.countP_append,List.countP_cons]
 by_cases h:n.ak=j
 .rw [if_pos (by simpa using h),if_pos h];simp
 .rw [if_neg (by simpa using h),if_neg h];simp
theorem qT {p:Place}{k q:Int}(h:(cz r p k q).2.2=0):(aS r p).2=0/\(cz r p k q).1=(aS r p).1/\je (aS r p).1.Rights q=true /\ ∃t∈r.Things,t.ID=(aS r p).1.aE/\t.Kind=k:=by
 obtain ⟨h1,h2,h3,i,t,_,ht,e,e2,_⟩:=qN h
 exact ⟨h1,h2,h3,t,List.mem_of_getElem? ht,e,e2⟩
theorem xV {p:Place}{d:ByteArray}{s a:Int}(h:(dK r p d s a).2=0):(cz r p 2 2).2.2=0/\d.size<=8/\gj r.Notes (aS r p).1.aE≠3 /\
 (s<0/\(dK r p d s a).1=⟨r.ao,r.Things,r.Held,r.Notes++[⟨(aS r p).1.aE,d,(aS r p).1.aQ,0⟩],r.af,r.ah⟩ ∨
  0<=s/\je (aS r p).1.Rights 4=true/\(aS r ⟨p.aC,s⟩).2=0/\r.af<=999/\(derived (aS r ⟨p.aC,s⟩).1 r.af a 0).2=0 /\
  (dK r p d s a).1=⟨r.ao++[(derived (aS r ⟨p.aC,s⟩).1 r.af a 0).1],r.Things,r.Held,r.Notes++[⟨(aS r p).1.aE,d,(aS r p).1.aQ,(derived (aS r ⟨p.aC,s⟩).1 r.af a 0).1.ID⟩],r.af+1,r.ah⟩):=by
 unfold dK at h ⊢
 by_cases h1:(cz r p 2 2).2.2=0
 .
  have he:=(qT h1).2.1
  rw [if_pos h1] at h ⊢
  by_cases h2:8<d.size
  .rw [if_pos h2] at h;simp at h
  .
   rw [if_neg h2] at h ⊢
   by_cases h3:gj r.Notes (cz r p 2 2).1.aE=3
   .rw [if_pos h3] at h;simp at h
   .
    rw [if_neg h3] at h ⊢
    rw [he] at h3
    by_cases h4:s<0
    .rw [if_pos h4,he];exact ⟨h1,by omega,h3,.inl ⟨h4,rfl⟩⟩
    .
     rw [if_neg h4] at h ⊢
     by_cases h5:je (cz r p 2 2).1.Rights 4=true
     .
      rw [if_pos h5] at h ⊢
      by_cases h6:(aS r ⟨p.aC,s⟩).2=0
      .
       rw [if_pos h6] at h ⊢
       by_cases h7:999<r.af
       .rw [if_pos h7] at h;simp at h
       .
        rw [if_neg h7] at h ⊢
        by_cases h8:(derived (aS r ⟨p.aC,s⟩).1 r.af a 0).2=0
        .
         rw [if_pos h8,he];rw [he] at h5
         exact ⟨h1,by omega,h3,.inr ⟨by omega,h5,h6,by omega,h8,rfl⟩⟩
        .rw [if_neg h8] at h;exact absurd h h8
      .rw [if_neg h6] at h;exact absurd h h6
     .rw [if_neg h5] at h;simp at h
 .rw [if_neg h1] at h;exact absurd h h1
theorem Inv.send (h:Inv r){p:Place}{d:ByteArray}{s a:Int}(hm:(dK r p d s a).2=0):Inv (dK r p d s a).1:=by
 obtain ⟨hy,hd,h3,hc⟩:=xV hm
 obtain ⟨hg,_,_,t,ht,hti,htk⟩:=qT hy
 obtain ⟨_,hgm,_⟩:=h.get hg
 have hw:=h.tree.mem hgm
 have Oi:∀q,gj r.Notes q+(if (aS r p).1.aE=q then 1 else 0)<=3:=fun q=>by
  have:=h.wait q
  split
  .rename_i e;rw [e] at h3;omega
  .omega
 have zO:∀ (k:Int) (n:Note),n∈r.Notes++[⟨(aS r p).1.aE,d,(aS r p).1.aQ,k⟩] -> ∃t∈r.Things,t.ID=n.Port/\t.Kind=2:=fun k n hn=>by
  rcases List.mem_append.1 hn with hn|hn
  .exact h.port n hn
  .rw [List.mem_singleton.1 hn];exact ⟨t,ht,hti,htk⟩
 have hnd:∀ (k:Int) (n:Note),n∈r.Notes++[⟨(aS r p).1.aE,d,(aS r p).1.aQ,k⟩]->n.Data.size<=8/\0<=n.aQ/\n.aQ<=99:=fun k n hn=>by
  rcases List.mem_append.1 hn with hn|hn
  .exact h.kE n hn
  .rw [List.mem_singleton.1 hn];exact ⟨hd,hw.Qe,hw.Qf⟩
 rcases hc with ⟨h4,he⟩ | ⟨h4,h5,h6,h7,h8,he⟩
 .
  rw [he]
  refine { tree:=h.tree,good:=h.good,r9:=h.r9,oN:=h.oN,qS:=h.qS,pj:=h.pj,pn:=h.pn,jk:=h.jk,vE:=h.vE,jz:=h.jz,jA:=h.jA,jl:=h.jl,thing:=h.thing,port:=zO 0,kE:=hnd 0,wait:=fun q=>?_,jB:=?_,once:=?_,iw:=?_,eP:=h.eP,used:=h.used }
  .show gj (r.Notes++[_]) q<=3;rw [zR];exact Oi q
  .
   intro n hn
   rcases List.mem_append.1 hn with hn|hn
   .exact h.jB n hn
   .rw [List.mem_singleton.1 hn];exact Int.le_refl 0
  .
   intro w hw
   show cH r.Held w.ID+cN (r.Notes++[_]) w.ID=1
   have:=h.once w hw;have:=(h.tree.mem hw).id1
   rw [GH,if_neg (by dsimp only;omega)];omega
  .
   intro n hn h0
   rcases List.mem_append.1 hn with hn|hn
   .exact h.iw n hn h0
   .rw [List.mem_singleton.1 hn] at h0;exact absurd h0 (by dsimp only;omega)
 .
  obtain ⟨_,S2,_⟩:=h.get h6
  obtain ⟨GF,hid,hth,_⟩:=h.derive S2 h7 h8
  rw [he]
  generalize hx:(derived (aS r ⟨p.aC,s⟩).1 r.af a 0).1=x at *
  have n1:=h.oN;have hfr:=h.fresh
  refine { tree:=GF,good:=h.good,r9:=?_,oN:=by show 1<=r.af+1;omega,qS:=by show r.af+1<=1000;omega,pj:=h.pj,pn:=h.pn,jk:=h.jk,vE:=h.vE,jz:=h.jz,jA:=h.jA,jl:=h.jl,thing:=?_,port:=zO x.ID,kE:=hnd x.ID,wait:=fun q=>?_,jB:=?_,once:=?_,iw:=?_,eP:=?_,used:=?_ }
  .
   intro w hw
   show w.ID<r.af+1
   rcases List.mem_append.1 hw with hw|hw
   .have:=h.r9 w hw;omega
   .rw [List.mem_singleton.1 hw,hid];omega
  .
   intro w hw
   rcases List.mem_append.1 hw with hw|hw
   .exact h.thing w hw
   .rw [List.mem_singleton.1 hw,hth];exact h.thing _ S2
  .show gj (r.Notes++[_]) q<=3;rw [zR];exact Oi q
  .
   intro n hn
   rcases List.mem_append.1 hn with hn|hn
   .exact h.jB n hn
   .rw [List.mem_singleton.1 hn];show 0<=x.ID;omega
  .
   intro w hw
   show cH r.Held w.ID+cN (r.Notes++[_]) w.ID=1
   rw [GH];dsimp only
   rcases List.mem_append.1 hw with hw|hw
   .
    have:=h.r9 w hw;have:=h.once w hw
    rw [if_neg (by omega)];omega
   .rw [List.mem_singleton.1 hw,if_pos rfl,hid];omega
  .
   intro n hn h0
   rcases List.mem_append.1 hn with hn|hn
   .
    obtain ⟨w,hw,e⟩:=h.iw n hn h0
    exact ⟨w,List.mem_append.2 (.inl hw),e⟩
   .rw [List.mem_singleton.1 hn];exact ⟨x,List.mem_append.2 (.inr (List.mem_singleton.2 rfl)),rfl⟩
  .
   intro y hy
   obtain ⟨w,hw,e⟩:=h.eP y hy
   exact ⟨w,List.mem_append.2 (.inl hw),e⟩
  .
   intro t ht
   obtain ⟨w,hw,e⟩:=h.used t ht
   exact ⟨w,List.mem_append.2 (.inl hw),e⟩
theorem xW {p:Place}(h:(eG r p).2.2.2=0):(cz r p 2 1).2.2=0 /\ ∃ (i:Nat) (n:Note),r.Notes[i]? = some n/\n.Port=(aS r p).1.aE/\(∀ (j:Nat) y,j<i->r.Notes[j]? = some y->¬ y.Port=(aS r p).1.aE)/\(eG r p).2.1=n /\
 (0<n.ak/\0<=i6 r.Held p.aC/\(eG r p).2.2.1=i6 r.Held p.aC/\(eG r p).1=⟨r.ao,r.Things,fT r.Held ⟨p.aC,i6 r.Held p.aC⟩ n.ak,t8 r.Notes i,r.af,r.ah⟩ ∨
  n.ak<=0/\(eG r p).2.2.1 = -1/\(eG r p).1=⟨r.ao,r.Things,r.Held,t8 r.Notes i,r.af,r.ah⟩):=by
 unfold eG at h ⊢
 by_cases h1:(cz r p 2 1).2.2=0
 .
  have he:=(qT h1).2.1
  rw [if_pos h1] at h ⊢
  rw [he] at h ⊢
  rcases j5 (fun n:Note=>n.Port==(aS r p).1.aE) r.Notes with ⟨hf,hn⟩ | ⟨i,n,hf,hn,hp,hb,_⟩
  .
   rw [hf,show decide ((0:Int) <= -1)=false from rfl] at h
   cases hq:r.Notes[(-1:Int).toNat]? <;> rw [hq] at h <;> simp at h
  .
   have hn':r.Notes[i]? = some n:=hn
   have hfi:idxOf (fun n:Note=>n.Port==(aS r p).1.aE) r.Notes=(i:Int):=hf
   rw [hfi,Int.toNat_natCast,hn',decide_eq_true (by omega)] at h ⊢
   dsimp only at h ⊢
   refine ⟨h1,i,n,hn',by simpa using hp,fun j y hj hy=>by simpa using hb j y hj hy,?_⟩
   by_cases h2:0<n.ak
   .
    rw [if_pos h2] at h ⊢
    by_cases h3:i6 r.Held p.aC<0
    .rw [if_pos h3] at h;simp at h
    .rw [if_neg h3];exact ⟨rfl,.inl ⟨h2,by omega,rfl,rfl⟩⟩
   .rw [if_neg h2];exact ⟨rfl,.inr ⟨by omega,rfl,rfl⟩⟩
 .rw [if_neg h1] at h;exact absurd h h1
theorem free_at {l:List Held}{h:Int}(hf:0<=i6 l h):i6 l h<=5/\mM l ⟨h,i6 l h⟩=0:=by
 rcases free_spec l h with ⟨a,_⟩ | ⟨_,b,c,_⟩
 .omega
 .exact ⟨b,c⟩
theorem Fj {p:Place}{k:Int}(h:aZ p=0)(h0:0<=k)(h5:k<=5):aZ ⟨p.aC,k⟩=0:=by
 have:=cx h
 unfold aZ;dsimp only;split <;> first|rfl|omega
theorem Inv.notes (h:Inv r){m:List Held}{ns:List Note}(hg:Good m)(hc:∀w∈r.ao,cH m w.ID+cN ns w.ID=1)(hs:∀x∈m,∃w∈r.ao,w.ID=x.ak)(hn:∀n∈ns,n∈r.Notes)(hw:∀q,gj ns q<=gj r.Notes q):Inv ⟨r.ao,r.Things,m,ns,r.af,r.ah⟩ :=
 { tree:=h.tree,good:=hg,r9:=h.r9,oN:=h.oN,qS:=h.qS,pj:=h.pj,pn:=h.pn,jk:=h.jk,vE:=h.vE,jz:=h.jz,jA:=h.jA,jl:=h.jl,thing:=h.thing,port:=fun n k=>h.port n (hn n k),kE:=fun n k=>h.kE n (hn n k),wait:=fun q=>Nat.le_trans (hw q) (h.wait q),jB:=fun n k=>h.jB n (hn n k),once:=hc,iw:=fun n k=>h.iw n (hn n k),eP:=hs,used:=h.used }
theorem Inv.take (h:Inv r){p:Place}(hm:(eG r p).2.2.2=0):Inv (eG r p).1:=by
 obtain ⟨hy,i,n,hn,hp,hb,_,hc⟩:=xW hm
 obtain ⟨hg,_⟩:=qT hy
 obtain ⟨hpf,_⟩:=h.get hg
 have hcut:=fun j=>Qp hn j
 have hsub:∀x∈t8 r.Notes i,x∈r.Notes:=fun x hx=>MR hx
 rcases hc with ⟨h0,hf,_,he⟩ | ⟨h0,_,he⟩
 .
  rw [he]
  obtain ⟨h5,ha⟩:=free_at hf
  have hi:n.ak≠0:=by omega
  have hq:=Fj hpf hf h5
  refine h.notes (mD h.good hq) (fun w hw=>?_) (fun x hx=>?_) hsub (fun q=>zL q)
  .
   rw [BK h.good ha hi]
   have h1:=h.once w hw;have h2:=hcut w.ID
   omega
  .
   rcases (lG h.good ha hi).1 hx with e|hx
   .rw [e];exact h.iw n (List.mem_of_getElem? hn) h0
   .exact h.eP x hx
 .
  rw [he]
  refine h.notes h.good (fun w hw=>?_) h.eP hsub (fun q=>zL q)
  have h1:=h.once w hw;have h2:=hcut w.ID;have h3:=(h.tree.mem hw).id1
  rw [if_neg (by omega)] at h2
  omega
theorem Inv.do (h:Inv r){a:ft}(hm:(cp r a).2=0):Inv (cp r a).1:=by
 unfold cp at hm ⊢
 by_cases h1:a.Kind=(⟨#[109,97,107,101]⟩:ByteArray)
 .rw [if_pos h1] at hm ⊢;exact h.make hm
 .
  rw [if_neg h1] at hm ⊢
  by_cases h2:a.Kind=(⟨#[103,105,118,101]⟩:ByteArray)
  .rw [if_pos h2] at hm ⊢;exact h.give hm
  .
   rw [if_neg h2] at hm ⊢
   by_cases h3:a.Kind=(⟨#[109,111,118,101]⟩:ByteArray)
   .rw [if_pos h3] at hm ⊢;exact h.move hm
   .
    rw [if_neg h3] at hm ⊢
    by_cases h4:a.Kind=(⟨#[100,114,111,112]⟩:ByteArray)
    .rw [if_pos h4] at hm ⊢;exact h.drop hm
    .
     rw [if_neg h4] at hm ⊢
     by_cases h5:a.Kind=(⟨#[114,101,118,111,107,101]⟩:ByteArray)
     .rw [if_pos h5] at hm ⊢;exact h.Qq hm
     .
      rw [if_neg h5] at hm ⊢
      by_cases h6:a.Kind=(⟨#[119,114,105,116,101]⟩:ByteArray)
      .rw [if_pos h6] at hm ⊢;exact h.write hm
      .
       rw [if_neg h6] at hm ⊢
       by_cases h7:a.Kind=(⟨#[115,101,110,100]⟩:ByteArray)
       .rw [if_pos h7] at hm ⊢;exact h.send hm
       .
        rw [if_neg h7] at hm ⊢
        by_cases h8:a.Kind=(⟨#[116,97,107,101]⟩:ByteArray)
        .rw [if_pos h8] at hm ⊢;exact h.take hm
        .rw [if_neg h8];exact h
theorem tq (h:Inv r):r.Held.length<=24:=KV h.good
end
end
section
section
variable {r:aB}
end
end
section
section
variable {r:aB}
theorem zS {ws:List ak}{ts:List Int}:∀ {ns:List Note},(∀n∈ns,n.Port∈ts/\jC ws n=n)->ia ws ts ns=ns
 | [],_=>rfl
 | n::ns,h=>by
  obtain ⟨h1,h2⟩:=h n (List.mem_cons_self ..)
  rw [uc,if_pos h1,h2,zS (fun m hm=>h m (List.mem_cons_of_mem _ hm))]
theorem Ii {ws:List ak}{ts:List Int}{ns:List Note}(h:∀n∈ns,n.Port∈ts):kI ws ts ns=[]:=by
 refine List.eq_nil_iff_forall_not_mem.2 fun j hj=>?_
 obtain ⟨m,hm,_,hp,_⟩:=DI.1 hj
 exact hp (h m hm)
theorem Inv.GI (h:Inv r):∀n∈r.Notes,n.Port∈bV r.ao:=fun n hn=>by
 obtain ⟨t,ht,e,_⟩:=h.port n hn
 obtain ⟨w,hw,e2⟩:=h.used t ht
 exact (lh h.tree).2 ⟨w,hw,by rw [e2,e]⟩
theorem Inv.fix (h:Inv r):∀n∈r.Notes,jC r.ao n=n:=fun n hn=>by
 unfold jC;split
 .
  rename_i hf
  have h0:=h.jB n hn
  have:n.ak=0:=by
   by_cases hp:0<n.ak
   .
    obtain ⟨w,hw,e⟩:=h.iw n hn hp
    have:=l7 hw;rw [e] at this;omega
   .omega
  cases n;simp only [] at this ⊢;rw [this]
 .rfl
theorem Fo (h:Inv r)(T:List aE)(H:List Held)(hT:∀t∈T,∀w∈r.ao,w.aE≠t.ID)(hH:H.filter (fun h => !decide (cD r.ao h.ak<0))=r.Held)(a b:Int):dN ⟨r.ao,r.Things++T,H,r.Notes,a,b⟩=⟨r.ao,r.Things,r.Held,r.Notes,a,b⟩:=by
 have hl:o7 ⟨r.ao,r.Things++T,H,r.Notes,a,b⟩=[]:=Ii h.GI
 rw [qh (by rw [hl];rfl)]
 unfold fO
 dsimp only
 have h1:(r.Things++T).filter (fun t => !!decide (t.ID∈bV r.ao))=r.Things:=by
  have k1:r.Things.filter (fun t => !!decide (t.ID∈bV r.ao))=r.Things:=List.filter_eq_self.2 fun t ht=>by
   obtain ⟨w,hw,e⟩:=h.used t ht
   simp only [Bool.not_not,decide_eq_true_eq]
   exact (lh h.tree).2 ⟨w,hw,e⟩
  have k2:T.filter (fun t => !!decide (t.ID∈bV r.ao))=[]:=List.filter_eq_nil_iff.2 fun t ht=>by
   simp only [Bool.not_not,decide_eq_true_eq]
   intro hm
   obtain ⟨w,hw,e⟩:=(lh h.tree).1 hm
   exact hT t ht w hw e
  rw [List.filter_append,k1,k2,List.append_nil]
 rw [h1,hH,zS (fun n hn=>⟨h.GI n hn,h.fix n hn⟩)]
theorem Inv.Ij (h:Inv r){H:List Held}(hs:∀x∈H,x∈r.Held):H.filter (fun h => !decide (cD r.ao h.ak<0))=H :=
 List.filter_eq_self.2 fun x hx=>by
  have:=lf.2 (h.eP x (hs x hx))
  simp only [Bool.not_eq_true',decide_eq_false_iff_not];omega
theorem xX (h:Inv r):dN r=r:=by
 have:=Fo h [] r.Held (fun t ht=>by cases ht) (h.Ij (fun x hx=>hx)) r.af r.ah
 rw [List.append_nil] at this
 exact this
theorem Qr {l:List Held}{x y:Held}(hx:x∈l)(hy:y∈l)(e:x.ak=y.ak)(h:cH l x.ak<=1):x=y:=by
 obtain ⟨A,B,rfl⟩:=List.append_of_mem hx
 unfold cH at h
 rw [List.countP_append,List.countP_cons,if_pos (by simp)] at h
 have key:∀ (C:List Held),y∈C->0<C.countP (fun h=>h.ak==x.ak):=fun C hC=>List.countP_pos_iff.2 ⟨y,hC,by simp [e]⟩
 rcases List.mem_append.1 hy with hy|hy
 .have:=key A hy;omega
 .
  rcases List.mem_cons.1 hy with hy|hy
  .exact hy.symm
  .have:=key B hy;omega
theorem Inv.one (h:Inv r){x y:Held}(hx:x∈r.Held)(hy:y∈r.Held)(e:x.ak=y.ak):x=y:=by
 obtain ⟨w,hw,e2⟩:=h.eP x hx
 have:=h.once w hw
 exact Qr hx hy e (by rw [<- e2];omega)
end
end
section
section
variable {r:aB}
theorem uR:∀ (ns:List Note) (l:List ak),cL l->cL (hY ns l)
 | [],l,h=>h
 | n::ns,l,h=>by
  show cL (hY ns (if 0<n.ak then without l n.ak else l))
  refine uR ns _ ?_
  split
  .exact h.wo _
  .exact h
theorem xY:∀ (ns:List Note) (l:List ak) (w:ak),w∈hY ns l->(∃y∈l,Like w y) /\ ∀n∈ns,0<n.ak->w.ID≠n.ak
 | [],l,w,h=>⟨⟨w,h,Like.refl w⟩,fun n hn=>by cases hn⟩
 | n::ns,l,w,h=>by
  obtain ⟨⟨y,hy,hl⟩,hn⟩:=xY ns (if 0<n.ak then without l n.ak else l) w h
  by_cases h0:0<n.ak
  .
   rw [if_pos h0] at hy
   obtain ⟨z,hz,hne,rfl⟩:=gH.1 hy
   refine ⟨⟨z,hz,hl.trans (vF _ _ z)⟩,fun m hm hm0=>?_⟩
   rcases List.mem_cons.1 hm with e|hm
   .rw [e,hl.id,(kB z).1];exact hne
   .exact hn m hm hm0
  .
   rw [if_neg h0] at hy
   refine ⟨⟨y,hy,hl⟩,fun m hm hm0=>?_⟩
   rcases List.mem_cons.1 hm with e|hm
   .rw [e] at hm0;exact absurd hm0 h0
   .exact hn m hm hm0
theorem sf:∀ (ns:List Note) (l:List ak) (y:ak),y∈l->(∀n∈ns,0<n.ak->y.ID≠n.ak) -> ∃w∈hY ns l,Like w y
 | [],l,y,h,_=>⟨y,h,Like.refl y⟩
 | n::ns,l,y,h,hn=>by
  by_cases h0:0<n.ak
  .
   obtain ⟨w,hw,k⟩:=sf ns (without l n.ak) (mJ n.ak (eO l n.ak) y) (gH.2 ⟨y,h,hn n (List.mem_cons_self ..) h0,rfl⟩) (fun m hm hm0=>by rw [(kB y).1];exact hn m (List.mem_cons_of_mem _ hm) hm0)
   refine ⟨w,?_,k.trans (vF _ _ y)⟩
   show w∈hY ns (if 0<n.ak then without l n.ak else l)
   rw [if_pos h0];exact hw
  .
   obtain ⟨w,hw,k⟩:=sf ns l y h (fun m hm hm0=>hn m (List.mem_cons_of_mem _ hm) hm0)
   refine ⟨w,?_,k⟩
   show w∈hY ns (if 0<n.ak then without l n.ak else l)
   rw [if_neg h0];exact hw
theorem KY {ns:List Note}{j:Int}(h:cN ns j=0):∀n∈ns,0<n.ak->j≠n.ak:=fun n hn _ e=>by
 have:=Qo hn;rw [<- e] at this;omega
theorem Inv.Ik (h:Inv r):Pre ⟨hY r.Notes r.ao,r.Things,r.Held,[],r.af,r.ah⟩:=by
 have hs:=fun w hw=>xY r.Notes r.ao w hw
 refine { tree:=uR _ _ h.tree,good:=h.good,r9:=?_,oN:=h.oN,qS:=h.qS,pj:=h.pj,pn:=h.pn,jk:=h.jk,vE:=h.vE,jz:=h.jz,jA:=h.jA,jl:=h.jl,thing:=?_,port:=fun n hn=>(by cases hn),kE:=fun n hn=>(by cases hn),wait:=fun q=>by simp [gj],jB:=fun n hn=>(by cases hn),once:=?_ }
 .intro w hw;obtain ⟨⟨y,hy,k⟩,_⟩:=hs w hw;rw [k.id];exact h.r9 y hy
 .intro w hw;obtain ⟨⟨y,hy,k⟩,_⟩:=hs w hw;rw [k.th];exact h.thing y hy
 .
  intro w hw
  obtain ⟨⟨y,hy,k⟩,hn⟩:=hs w hw
  have h1:=h.once y hy
  have h2:cN r.Notes w.ID=0:=List.countP_eq_zero.2 fun n hnn e=>by
   have e:n.ak=w.ID:=by simpa using e
   have:=(h.tree.mem hy).id1
   exact hn n hnn (by rw [e,k.id];omega) e.symm
  show cH r.Held w.ID+cN [] w.ID=1
  rw [<- k.id] at h1;simp only [cN,List.countP_nil] at h2 ⊢;unfold cN at h1;omega
theorem uf:∀ (a b:List Int),a.Nodup->(∀x∈a,x∈b)->a.length<=b.length
 | [],b,_,_=>Nat.zero_le _
 | x::a,b,hn,hs=>by
  obtain ⟨h1,h2⟩:=List.nodup_cons.1 hn
  obtain ⟨A,B,rfl⟩:=List.append_of_mem (hs x (List.mem_cons_self ..))
  have:=uf a (A++B) h2 fun y hy=>by
   have h3:=hs y (List.mem_cons_of_mem _ hy)
   rcases List.mem_append.1 h3 with h3|h3
   .exact List.mem_append.2 (.inl h3)
   .
    rcases List.mem_cons.1 h3 with e|h3
    .exact absurd (e▸hy) h1
    .exact List.mem_append.2 (.inr h3)
  simp only [List.length_cons,List.length_append] at this ⊢;omega
theorem KZ (h:Inv r)(hn:r.Notes=[]):r.Held.length=r.ao.length:=by
 have h1:(r.ao.map ak.ID).Nodup:=List.Pairwise.imp (fun h=>Int.ne_of_lt h) (List.pairwise_map.2 h.tree.is.rise)
 have h2:(r.Held.map Held.ak).Nodup:=by
  refine List.pairwise_iff_getElem.2 fun i j hi hj hij e=>?_
  rw [List.length_map] at hi hj
  rw [List.getElem_map,List.getElem_map] at e
  have:=h.one (List.getElem_mem hi) (List.getElem_mem hj) e
  have h3:=List.pairwise_iff_getElem.1 (jO h.good) i j hi hj hij
  rw [this] at h3
  exact s9 h3
 have a:=uf (r.Held.map Held.ak) (r.ao.map ak.ID) h2 fun x hx=>by
  obtain ⟨y,hy,rfl⟩:=List.mem_map.1 hx
  obtain ⟨w,hw,e⟩:=h.eP y hy
  exact List.mem_map.2 ⟨w,hw,e⟩
 have b:=uf (r.ao.map ak.ID) (r.Held.map Held.ak) h1 fun x hx=>by
  obtain ⟨w,hw,rfl⟩:=List.mem_map.1 hx
  have h3:=h.once w hw
  rw [hn] at h3;simp only [cN,List.countP_nil] at h3
  obtain ⟨y,hy,e⟩:=List.countP_pos_iff.1 (show 0<cH r.Held w.ID by omega)
  exact List.mem_map.2 ⟨y,hy,by simpa using e⟩
 simp only [List.length_map] at a b;omega
theorem jw (h:Inv r):Inv (bm r)/\(bm r).Notes=[]/\(bm r).Held=r.Held/\(bm r).Held.length=(bm r).ao.length/\bm (bm r)=bm r:=by
 have hp:=h.Ik
 have hi:Inv (bm r):=ud hp
 have hl:o7 ⟨hY r.Notes r.ao,r.Things,r.Held,[],r.af,r.ah⟩=[]:=rfl
 have hd:bm r=fO ⟨hY r.Notes r.ao,r.Things,r.Held,[],r.af,r.ah⟩:=qh (by rw [hl];rfl)
 have hn:(bm r).Notes=[]:=by rw [hd];rfl
 refine ⟨hi,hn,?_,KZ hi hn,?_⟩
 .
  rw [hd]
  show r.Held.filter _=r.Held
  refine List.filter_eq_self.2 fun x hx=>?_
  obtain ⟨w,hw,e⟩:=h.eP x hx
  have h1:=h.once w hw;have h2:=Qn hx;rw [<- e] at h2
  obtain ⟨v,hv,k⟩:=sf r.Notes r.ao w hw (KY (by omega))
  have h3:0<=cD (hY r.Notes r.ao) x.ak:=lf.2 ⟨v,hv,by rw [k.id,e]⟩
  simp only [Bool.not_eq_true',decide_eq_false_iff_not];omega
 .
  have hs:=xX hi
  generalize bm r=x at hn hs
  cases x with
  | mk W T H N a b =>
   have hn':N=[]:=hn
   subst hn'
   exact hs
theorem DK {k:Nat}(h:Sz k r):Sz k (bm r) :=
 oM _ _ ⟨Nat.le_trans (xG _ _) h.wl,h.tl,h.hl,Nat.zero_le _,zJ _ _ h.ri,h.w0,h.w1,h.t0,h.t1⟩
end
end
def gQ (n:Int):ByteArray:=⟨(Lib.itoa n).toArray⟩
def bN (n:Int):ByteArray:=⟨(Lib.repeatL [48] (4-(gQ n).size)).toArray⟩++gQ n
def vq (s:ByteArray):Option Int:=match Lib.atoi s.data.toList with|some n=>if bN n=s then some n else none|none=>none
def jL (s:ByteArray):Nat->Option (List Int)
  | 0=>some []
  | k+1=>match jL s k with
    | some l=>match vq (s.extract (4*k) (4*k+4)) with|some n=>some (l++[n])|none=>none
    | none=>none
def dR (s:ByteArray)(m:Nat):Option (List Int):=if s.size<4*m then none else jL s m
theorem ug {s:ByteArray}:∀ {k:Nat} {l:List Int},jL s k=some l->l.length=k
 | 0,l,h=>by simp [jL] at h;subst h;rfl
 | k+1,l,h=>by
  simp only [jL] at h
  split at h
  .
   rename_i l' h'
   split at h
   .injection h with h;subst h;simp [ug h']
   .cases h
  .cases h
theorem Fp {s:ByteArray}{k:Nat}{l:List Int}{n:Int}(h:jL s k=some l)(hn:vq (s.extract (4*k) (4*k+4))=some n):jL s (k+1)=some (l++[n]):=by simp only [jL,h,hn]
theorem xZ {s:ByteArray}:∀ {m k:Nat},k<=m->jL s k=none->jL s m=none
 | 0,k,hk,h=>by
  have:k=0:=by omega
  subst this;exact h
 | m+1,k,hk,h=>by
  rcases Nat.lt_or_ge k (m+1) with h1|h1
  .simp only [jL,xZ (m:=m) (by omega) h]
  .
   have:k=m+1:=by omega
   subst this;exact h
theorem Il {s:ByteArray}{k m:Nat}{l:List Int}(hk:k<m)(h:jL s k=some l)(hn:vq (s.extract (4*k) (4*k+4))=none):jL s m=none :=
 xZ (k:=k+1) (by omega) (by simp only [jL,h,hn])
theorem Im {s:ByteArray}{m:Nat}{l:List Int}(h:dR s m=some l):l.length=m/\4*m<=s.size:=by
 unfold dR at h;split at h
 .cases h
 .exact ⟨ug h,by omega⟩
def kH:ByteArray:=⟨#[104]⟩
def kT:ByteArray:=⟨#[116]⟩
def kW:ByteArray:=⟨#[119]⟩
def kX:ByteArray:=⟨#[120]⟩
def hrow (h:Held):Change:=⟨kH++gQ h.Place.aC++gQ h.Place.Slot,bN h.ak,false⟩
def lW (t:aE):Change:=⟨kT++bN t.ID,bN t.Kind++t.Data,false⟩
def nX (w:ak):Change:=⟨kW++bN w.ID,bN w.aE++bN w.Rights++bN w.aQ++bN w.From,false⟩
def DL (r:aB):Change:=⟨kX,bN r.af++bN r.ah,false⟩
def rowsOf (q:aB):List Change:=q.Held.map hrow++q.Things.map lW++q.ao.map nX++[DL q]
def bf (r:aB):List Change:=rowsOf (bm r)
def MU (s:ByteArray)(i:Nat):Int:=(bj s i:Int)
def S3 (c:Change):Place:=⟨MU c.Key 1-48,MU c.Key 2-48⟩
def Io (r:aB)(h:Held):aB:=⟨r.ao,r.Things,r.Held++[h],r.Notes,r.af,r.ah⟩
def Ip (r:aB)(t:aE):aB:=⟨r.ao,r.Things++[t],r.Held,r.Notes,r.af,r.ah⟩
def DN (r:aB)(w:ak):aB:=⟨r.ao++[w],r.Things,r.Held,r.Notes,r.af,r.ah⟩
def MV (r:aB)(a b:Int):aB:=⟨r.ao,r.Things,r.Held,r.Notes,a,b⟩
def Iq (o:Option (List Int))(j:Nat):Int:=((o.getD [])[j]?).getD 0
def rowP (r:aB)(c:Change):aB×Bool :=
  if c.Key.size=0 then (r,false) else
  let key:=dR (c.Key.extract 1 c.Key.size) 1
  let ok:=key.isSome&&decide (c.Key.size=5)
  let n1:=dR c.Val 1
  let n4:=dR c.Val 4
  let n2:=dR c.Val 2
  if bj c.Key 0=104 then (if n1.isSome=false∨c.Val.size≠4∨c.Key.size≠3 then (r,false) else (Io r ⟨S3 c,Iq n1 0⟩,decide (aZ (S3 c)=0)))
  else if bj c.Key 0=116 then (if ok=false∨n1.isSome=false∨12<c.Val.size then (r,false) else (Ip r ⟨Iq key 0,Iq n1 0,c.Val.extract 4 c.Val.size⟩,decide (Iq n1 0=1∨Iq n1 0=2/\c.Val.size=4)))
  else if bj c.Key 0=119 then (if ok=false∨n4.isSome=false∨c.Val.size≠16 then (r,false) else (DN r ⟨Iq key 0,Iq n4 0,Iq n4 1,Iq n4 2,Iq n4 3⟩,true))
  else if c.Key≠kX∨n2.isSome=false∨c.Val.size≠8 then (r,false) else (MV r (Iq n2 0) (Iq n2 1),true)
def sg (pv:Option ByteArray)(c:Change):Bool:=match pv with|some k=>jy k c.Key|none=>true
def pgo:List Change->Option ByteArray->aB->Option aB
  | [],_,r=>some r
  | c::l,pv,r=>if sg pv c && !c.Gone&&(rowP r c).2 then pgo l (some c.Key) (rowP r c).1 else none
structure Whole (r:aB):Prop where
  tree:cL r.ao
  jl:r.Things.length<=10
  oN:1<=r.af
  qS:r.af<=1000
  pj:1<=r.ah
  pn:r.ah<=1000
  hlen:r.Held.length=r.ao.length
  eP:∀h∈r.Held,0<=cD r.ao h.ak
  once:(r.Held.map Held.ak).Nodup
  things:r.Things.map aE.ID=bV r.ao
  Oj:∀w,r.ao.getLast? = some w->w.ID<r.af
  Ol:∀t,r.Things.getLast? = some t->t.ID<r.ah
noncomputable def dS (r:aB):Bool:= @decide (Whole r) (Classical.propDecidable _)
noncomputable def bE (l:List Change):aB×Int:=match pgo l none r0 with|some r=>if dS r=true then (r,0) else (r0,4)|none=>(r0,4)
theorem ya {r:aB}(h:Whole r):dS r=true:=by unfold dS;simp [h]
theorem gv {r:aB}(h:¬ Whole r):dS r=false:=by unfold dS;simp [h]
end Go.Proofs.YtkbhcbipadkcaaaGreatDoor
