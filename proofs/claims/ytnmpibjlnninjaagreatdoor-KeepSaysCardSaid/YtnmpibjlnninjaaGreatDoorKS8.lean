import Derived.Test.YtnmpibjlnninjaaGreatDoorKS7
import Derived.Lib.Bytealg
import Derived.Sort.Walk0
namespace Go.Proofs.YtnmpibjlnninjaaGreatDoor
set_option linter.unusedVariables false
set_option linter.unusedSimpArgs false
set_option maxRecDepth 100000
set_option maxHeartbeats 90000000
theorem Jt {l:List Held}{p:Place}{id:Int}(hg:Good l)(h:mG l p=0)(hi:id≠0):∃A B,l=A++B/\eW l p id=A++⟨p,id⟩::B:=by
 cases shape l p (iw hg) with
 | hit A B w e hh k ha hb =>
  have hw:w≠0:=(uw hg ⟨p,w⟩ aB).2
  grind [at_eq,iw,vE,om]
 | miss A B e hh k ha hb=>exact ⟨A,B,e,by rw [rU e hh k,if_neg hi]⟩
theorem Dc {l:List Held}{p:Place}{w:Int}(hg:Good l)(h:mG l p=w)(hw:w≠0):∃A B,l=A++⟨p,w⟩::B/\eW l p 0=A++B:=by
 cases shape l p (iw hg) with
 | hit A B w' e hh k ha hb =>
  rw [at_eq (iw hg),e,vE (fun x hx=>om (ha x hx))] at h
  subst h
  exact ⟨A,B,e,by rw [ux e hh k,if_pos rfl]⟩
 | miss A B e hh k ha hb =>
  grind [at_eq,iw,Fe,om]
theorem at_mem {l:List Held}{p:Place}{w:Int}(hg:Good l)(h:mG l p=w)(hw:w≠0):(⟨p,w⟩:Held)∈l:=by
 obtain ⟨A,B,e,_⟩:=Dc hg h hw
 grind
theorem Fh {l:List Held}(f:Held->Bool)(hg:Good l):Good (l.filter f) :=
 rT ((iw hg).filter _) (fun x hx=>uw hg x (List.mem_filter.1 hx).1)
def cH (l:List Held)(j:Int):Nat:=l.countP (fun h=>h.ap==j)
def cN (l:List Note)(j:Int):Nat:=l.countP (fun n=>n.ap==j)
theorem Dd {l:List Held}{p:Place}{id:Int}(hg:Good l)(h:mG l p=0)(hi:id≠0)(j:Int):cH (eW l p id) j=cH l j+(if id=j then 1 else 0):=by
 obtain ⟨A,B,e,e2⟩:=Jt hg h hi
 rw [e2,e];unfold cH
 grind
theorem Tp {l:List Held}{p:Place}{w:Int}(hg:Good l)(h:mG l p=w)(hw:w≠0)(j:Int):cH l j=cH (eW l p 0) j+(if w=j then 1 else 0):=by
 obtain ⟨A,B,e,e2⟩:=Dc hg h hw
 rw [e2,e];unfold cH
 grind
theorem Tq {l:List Held}{x:Held}(h:x∈l):0<cH l x.ap:=List.countP_pos_iff.2 ⟨x,h,bW⟩
theorem Tr {l:List Note}{x:Note}(h:x∈l):0<cN l x.ap:=List.countP_pos_iff.2 ⟨x,h,bW⟩
theorem Ts {l:List Note}{i:Nat}{n:Note}(h:l[i]? = some n)(j:Int):cN l j=cN (vC l i) j+(if n.ap=j then 1 else 0):=by
 obtain ⟨hi,rfl⟩:=List.getElem?_eq_some_iff.1 h
 have e:l=l.take i++l[i]::l.drop (i+1):=bW
 unfold vC cN
 grind
theorem Qk {l:List Note}{i:Nat}{x:Note}(h:x∈vC l i):x∈l:=by
 grind [vC,List.mem_of_mem_take,List.mem_of_mem_drop]
theorem BP {l:List Note}{i:Nat}(q:Int):gu (vC l i) q<=gu l q:=by
 unfold vC gu
 have h:(l.take i++l.drop (i+1)).Sublist l:=by
  have:=List.Sublist.append (List.Sublist.refl (l.take i)) (List.drop_sublist_drop_left l (Nat.le_succ i))
  simp_all
 grind
theorem jV {l:List ap}{id:Int}:0<=cO l id ↔ ∃x∈l,x.ID=id:=by
 grind [yD,lf]
theorem lq {l:List ap}(h:cS l){t:Int}:t∈bC l ↔ ∃w∈l,w.aA=t:=by
 unfold bC
 rw [vB h]
 show t∈eX l 999↔_
 rw [(oa l 999).2]
 simp only [hasT?,List.any_eq_true,beq_iff_eq]
 constructor
 .grind
 rintro ⟨w,hw,e⟩
 have:=h.mem hw
 have h1:=this.Vz;have h2:=this.VA
 grind
structure Pre (r:av):Prop where
  tree:cS r.ao
  good:Good r.Held
  tv:∀w∈r.ao,w.ID<r.ag
  oT:1<=r.ag
  qB:r.ag<=1000
  pG:1<=r.ah
  pH:r.ah<=1000
  jk:r.Things.Pairwise (fun a b=>a.ID<b.ID)
  xL:∀t∈r.Things,1<=t.ID/\t.ID<r.ah
  jB:∀t∈r.Things,t.Kind=1∨t.Kind=2
  jC:∀t∈r.Things,t.Data.size<=8/\(t.Kind=2->t.Data=⟨#[]⟩)
  je:r.Things.length<=10
  thing:∀w∈r.ao,∃t∈r.Things,t.ID=w.aA
  port:∀n∈r.Notes,∃t∈r.Things,t.ID=n.Port/\t.Kind=2
  kA:∀n∈r.Notes,n.Data.size<=8/\0<=n.aU/\n.aU<=99
  wait:∀q,gu r.Notes q<=3
  jD:∀n∈r.Notes,0<=n.ap
  once:∀w∈r.ao,cH r.Held w.ID+cN r.Notes w.ID=1
structure Inv (r:av):Prop extends Pre r where
  iy:∀n∈r.Notes,0<n.ap -> ∃w∈r.ao,w.ID=n.ap
  fy:∀h∈r.Held,∃w∈r.ao,w.ID=h.ap
  used:∀t∈r.Things,∃w∈r.ao,w.aA=t.ID
theorem Inv.new:Inv newR:=by
 refine { tree:=rfl,good:=rT List.Pairwise.nil (fun x hx=>by cases hx),tv:=?_,oT:=by decide,qB:=by decide,pG:=by decide,pH:=by decide,jk:=List.Pairwise.nil,xL:=?_,jB:=?_,jC:=?_,je:=by decide,thing:=?_,port:=?_,kA:=?_,wait:=fun q=>by simp [gu,newR],jD:=?_,once:=?_,iy:=?_,fy:=?_,used:=?_ } <;> intro x hx <;> cases hx
theorem vF:∀ (ids:List Int) (l:List ap),cS l->cS (ids.foldl without l)
 | [],l,h=>h
 | i::ids,l,h=>vF ids _ (h.wo i)
structure Like (y x:ap):Prop where
  id:y.ID=x.ID
  th:y.aA=x.aA
  ri:y.Rights=x.Rights
  ba:y.aU=x.aU
theorem Like.refl (x:ap):Like x x:=⟨rfl,rfl,rfl,rfl⟩
theorem Like.trans {x y z:ap}(h:Like x y)(k:Like y z):Like x z:=⟨h.id.trans k.id,h.th.trans k.th,h.ri.trans k.ri,h.ba.trans k.ba⟩
theorem xM (id f:Int)(x:ap):Like (ml id f x) x:=by have:=lE (id:=id) (f:=f) x;exact ⟨this.1,this.2.1,this.2.2.1,this.2.2.2⟩
theorem yP:∀ (ids:List Int) (l:List ap) (w:ap),w∈ids.foldl without l->(∃y∈l,Like w y)/\¬ w.ID∈ids
 | [],l,w,h=>⟨⟨w,h,Like.refl w⟩,fun h=>by cases h⟩
 | i::ids,l,w,h=>by
  obtain ⟨⟨y,hy,hl⟩,hn⟩:=yP ids (without l i) w h
  obtain ⟨z,hz,hne,rfl⟩:=gK.1 hy
  refine ⟨⟨z,hz,hl.trans (xM _ _ z)⟩,fun hm=>?_⟩
  rcases List.mem_cons.1 hm with e|hm
  .exact hne (by rw [<- e,hl.id,(lE z).1])
  exact hn hm
theorem iZ (ws:List ap)(n:Note):(jT ws n).Port=n.Port/\(jT ws n).Data=n.Data/\(jT ws n).aU=n.aU/\((jT ws n).ap=n.ap/\0<=cO ws n.ap∨(jT ws n).ap=0):=by
 unfold jT;grind
theorem uy {ws:List ap}{ts:List Int}{ns:List Note}{n:Note}:n∈gX ws ts ns ↔ ∃m∈ns,n=jT ws m/\m.Port∈ts:=by
 unfold gX
 rw [List.mem_filter,List.mem_map]
 constructor
 .
  rintro ⟨⟨m,hm,rfl⟩,hp⟩
  exact ⟨m,hm,rfl,by have:=of_decide_eq_true hp;grind [iZ]⟩
 grind [decide_eq_true,iZ]
theorem Fi {ws:List ap}{ts:List Int}{ns:List Note}{j:Int}:j∈iD ws ts ns ↔ ∃m∈ns,j=(jT ws m).ap/\¬ m.Port∈ts/\0<j:=by
 unfold iD
 rw [List.mem_map]
 constructor
 .
  rintro ⟨n,hn,rfl⟩
  obtain ⟨h1,h2⟩:=List.mem_filter.1 hn
  obtain ⟨m,hm,rfl⟩:=List.mem_map.1 h1
  simp only [Bool.and_eq_true,Bool.not_eq_true',decide_eq_false_iff_not,decide_eq_true_eq] at h2
  grind [iZ]
 rintro ⟨m,hm,rfl,hp,h0⟩
 refine ⟨jT ws m,List.mem_filter.2 ⟨List.mem_map.2 ⟨m,hm,rfl⟩,?_⟩,rfl⟩
 simp only [Bool.and_eq_true,Bool.not_eq_true',decide_eq_false_iff_not,decide_eq_true_eq]
 grind [iZ]
theorem vG (ws:List ap)(ts:List Int)(m:Note)(ns:List Note):gX ws ts (m::ns)=if m.Port∈ts then jT ws m::gX ws ts ns else gX ws ts ns:=by
 simp_all [gX,List.map_cons,List.filter_cons,iZ,if_pos,decide_eq_true,if_neg]
theorem yQ {ws:List ap}{ts:List Int}{j:Int}(hj:0<=cO ws j)(h0:0<j):∀ (ns:List Note),(∀n∈ns,n.ap=j->n.Port∈ts)->cN (gX ws ts ns) j=cN ns j
 | [],_=>rfl
 | m::ns,hl=>by
  have ih:=yQ hj h0 ns (fun n hn=>hl n (List.mem_cons_of_mem _ hn))
  have hf:=iZ ws m
  rw [vG]
  unfold cN at ih ⊢
  by_cases e:m.ap=j
  .simp_all [jT,if_neg,if_pos,List.mem_cons_self,List.countP_cons]
  grind
theorem BQ (ws:List ap)(ts:List Int)(q:Int):∀ (ns:List Note),gu (gX ws ts ns) q<=gu ns q
 | []=>Nat.le_refl _
 | m::ns=>by
  have ih:=BQ ws ts q ns
  have hf:=iZ ws m
  rw [vG]
  unfold gu at ih ⊢
  have e:(jT ws m).Port=m.Port:=hf.1
  split
  .rw [List.filter_cons,List.filter_cons,e];split <;> simp <;> omega
  rw [List.filter_cons];split <;> simp <;> omega
def sw (r:av)(ids:List Int):av:=⟨ids.foldl without r.ao,(fH r).Things,(fH r).Held,(fH r).Notes,r.ag,r.ah⟩
theorem my {r:av}{t:aA}:t∈(fH r).Things↔t∈r.Things/\t.ID∈bC r.ao:=by
 show t∈r.Things.filter _↔_
 grind
theorem xO {r:av}{h:Held}:h∈(fH r).Held↔h∈r.Held /\ ∃w∈r.ao,w.ID=h.ap:=by
 show h∈r.Held.filter _↔_
 grind [jV]
theorem Pre.sw {r:av}(h:Pre r){ids:List Int}(hl:∀j∈oc r,j∈ids):Pre (YtnmpibjlnninjaaGreatDoor.sw r ids):=by
 have hsub:∀w∈ids.foldl without r.ao,(∃y∈r.ao,Like w y)/\¬ w.ID∈ids:=fun w hw=>yP ids r.ao w hw
 have BR:∀n∈(fH r).Notes,∃m∈r.Notes,n=jT r.ao m/\m.Port∈bC r.ao:=fun n hn=>uy.1 hn
 refine { tree:=vF ids _ h.tree,good:=Fh _ h.good,tv:=?_,oT:=h.oT,qB:=h.qB,pG:=h.pG,pH:=h.pH,jk:=h.jk.filter _,xL:=fun t ht=>h.xL t (my.1 ht).1,jB:=fun t ht=>h.jB t (my.1 ht).1,jC:=fun t ht=>h.jC t (my.1 ht).1,je:=Nat.le_trans (List.length_filter_le _ _) h.je,thing:=?_,port:=?_,kA:=?_,wait:=fun q=>Nat.le_trans (BQ _ _ q _) (h.wait q),jD:=?_,once:=?_ }
 .
  intro w hw
  obtain ⟨⟨y,hy,hk⟩,_⟩:=hsub w hw
  rw [hk.id];exact h.tv y hy
 .
  intro w hw
  obtain ⟨⟨y,hy,hk⟩,_⟩:=hsub w hw
  obtain ⟨t,ht,e⟩:=h.thing y hy
  exact ⟨t,my.2 ⟨ht,(lq h.tree).2 ⟨y,hy,e.symm⟩⟩,by rw [e,hk.th]⟩
 .
  intro n hn
  obtain ⟨m,hm,rfl,hp⟩:=BR n hn
  obtain ⟨t,ht,e,hk⟩:=h.port m hm
  exact ⟨t,my.2 ⟨ht,aB⟩,by grind [iZ],hk⟩
 .
  intro n hn
  obtain ⟨m,hm,rfl,hp⟩:=BR n hn
  rw [(iZ _ m).2.1,(iZ _ m).2.2.1];exact h.kA m hm
 .
  intro n hn
  obtain ⟨m,hm,rfl,hp⟩:=BR n hn
  have:=h.jD m hm
  grind [iZ]
 intro w hw
 obtain ⟨⟨y,hy,hk⟩,hn⟩:=hsub w hw
 have hfd:0<=cO r.ao w.ID:=jV.2 ⟨y,hy,hk.id.symm⟩
 have h0:0<w.ID:=by have:=(h.tree.mem hy).id1;rw [hk.id];omega
 have h1:cH (fH r).Held w.ID=cH r.Held w.ID:=by
  show List.countP _ (r.Held.filter _)=List.countP _ r.Held
  rw [List.countP_filter]
  grind
 have h2:cN (fH r).Notes w.ID=cN r.Notes w.ID:=yQ hfd h0 r.Notes (fun n hnn e=>by
  by_cases hp:n.Port∈bC r.ao
  .omega
  refine absurd (hl w.ID (Fi.2 ⟨n,hnn,?_,hp,h0⟩)) hn
  simp_all [jT,if_neg])
 show cH (fH r).Held w.ID+cN (fH r).Notes w.ID=1
 rw [h1,h2,hk.id];exact h.once y hy
theorem Hs {r:av}(h:Pre r)(hl:(oc r).length=0):Inv (fH r):=by
 have h1:Pre (fH r):=h.sw (ids:=[]) (fun j hj=>by grind)
 refine { toPre:=h1,iy:=?_,fy:=fun x hx=>(xO.1 hx).2,used:=fun t ht=>(lq h.tree).1 (my.1 ht).2 }
 intro n hn h0
 obtain ⟨m,hm,rfl,hp⟩:=uy.1 hn
 rcases (iZ r.ao m).2.2.2 with ⟨e,hf⟩ | e
 .rw [e];exact jV.1 hf
 omega
theorem wY:∀ (n:Nat) (r:av),r.Notes.length<n->Pre r->Inv (gZ n r)
 | 0,r,h,_=>by omega
 | n+1,r,h,hp=>by
  unfold gZ;split
  .exact Hs hp af
  have:=pA (r:=r) af
  exact wY n _ ae (hp.sw (ids:=oc r) (fun j hj=>hj))
theorem vH {r:av}(h:Pre r):Inv (dt r):=wY _ r (Nat.lt_succ_self _) h
theorem wZ:∀ (n:Nat) (r:av),(∀x∈(gZ n r).Held,x∈r.Held)/\(∀v∈(gZ n r).ao,∃w∈r.ao,Like v w)/\(∀t∈(gZ n r).Things,t∈r.Things)/\(∀m∈(gZ n r).Notes,∃k∈r.Notes,m.Port=k.Port/\m.Data=k.Data/\m.aU=k.aU/\(m.ap=k.ap∨m.ap=0))
 | 0,r=>⟨fun x hx=>(xO.1 hx).1,fun v hv=>⟨v,hv,Like.refl v⟩,fun t ht=>(my.1 ht).1,fun m hm=>by
  obtain ⟨k,hk,rfl,_⟩:=uy.1 hm
  grind [iZ]⟩
 | n+1,r=>by
  have hs:∀m∈(fH r).Notes,∃k∈r.Notes,m.Port=k.Port/\m.Data=k.Data/\m.aU=k.aU/\(m.ap=k.ap∨m.ap=0):=fun m hm=>by
   obtain ⟨k,hk,rfl,_⟩:=uy.1 hm
   grind [iZ]
  unfold gZ;split
  .exact ⟨fun x hx=>(xO.1 hx).1,fun v hv=>⟨v,hv,Like.refl v⟩,fun t ht=>(my.1 ht).1,hs⟩
  obtain ⟨h1,h2,h3,h4⟩:=wZ n (lh r)
  refine ⟨fun x hx=>(xO.1 (h1 x hx)).1,fun v hv=>?_,fun t ht=>(my.1 (h3 t ht)).1,fun m hm=>?_⟩
  .
   obtain ⟨w,hw,hl⟩:=h2 v hv
   obtain ⟨⟨y,hy,hl2⟩,_⟩:=yP _ _ w hw
   exact ⟨y,hy,hl.trans hl2⟩
  obtain ⟨k,hk,a,b,c,d⟩:=h4 m hm
  obtain ⟨k',hk',a',b',c',d'⟩:=hs k hk
  grind
theorem BS (r:av):(∀x∈(dt r).Held,x∈r.Held)/\(∀v∈(dt r).ao,∃w∈r.ao,Like v w)/\(∀t∈(dt r).Things,t∈r.Things)/\(∀m∈(dt r).Notes,∃k∈r.Notes,m.Port=k.Port/\m.Data=k.Data/\m.aU=k.aU/\(m.ap=k.ap∨m.ap=0)):=wZ _ r
section
theorem iM {r:av}{p:Place}(h:eD r p=0):bB p=0/\mG r.Held p=0:=by
 unfold eD at h
 omega
theorem lR {l:List Held}{p:Place}{id:Int}(hg:Good l)(h:mG l p=0)(hi:id≠0){x:Held}:x∈eW l p id↔x=⟨p,id⟩∨x∈l:=by
 obtain ⟨A,B,e,e2⟩:=Jt hg h hi
 grind
theorem Fj {l:List Held}{p:Place}{w:Int}(hg:Good l)(h:mG l p=w)(hw:w≠0){x:Held}(hx:x∈eW l p 0):x∈l:=by
 obtain ⟨A,B,e,e2⟩:=Dc hg h hw
 grind
section
variable {r:av}
theorem Inv.get (h:Inv r){p:Place}(hg:(aM r p).2=0):bB p=0/\(aM r p).1∈r.ao/\(aM r p).1.ID=mG r.Held p/\1<=(aM r p).1.ID/\(aM r p).1.ID<r.ag:=by
 obtain ⟨h1,h2,h3⟩:=rP hg
 exact ⟨h1,h2,h3,(h.tree.mem h2).id1,h.tv _ h2⟩
theorem Inv.fresh (h:Inv r):cH r.Held r.ag=0/\cN r.Notes r.ag=0:=by
 constructor
 .
  refine List.countP_eq_zero.2 fun x hx=>?_
  obtain ⟨w,hw,e⟩:=h.fy x hx
  have:=h.tv w hw
  grind
 refine List.countP_eq_zero.2 fun x hx=>?_
 have h0:=h.jD x hx;have h1:=h.oT
 by_cases hp:0<x.ap
 .
  obtain ⟨w,hw,e⟩:=h.iy x hx hp
  have:=h.tv w hw
  grind
 grind
theorem BU {l:List ap}{w:ap}(h:cS l)(hw:dB w=0)(hlt:∀y∈l,y.ID<w.ID)(hm:w.From≠0 -> ∃y∈l,Made y w):cS (l++[w]):=by
 have hi:=h.is
 refine vy.ok' ⟨fun x hx=>?_,List.pairwise_append.2 ⟨hi.rise,bW,fun a ha b hb=>by grind⟩,fun x hx h0=>?_⟩
 .
  rcases List.mem_append.1 hx with hx|hx
  .exact hi.ok x hx
  grind
 rcases List.mem_append.1 hx with hx|hx
 .
  obtain ⟨y,hy,hmd⟩:=hi.made x hx h0
  grind
 grind
theorem yR {p:Place}{kind:Int}(h:(cE r p kind).2=0):(kind=1∨kind=2)/\eD r p=0/\r.Things.length≠10/\r.ah<=999/\r.ag<=999 /\
 (0<p.ay->(cE r p kind).1=⟨r.ao++[⟨r.ag,r.ah,7,0,0⟩],r.Things++[⟨r.ah,kind,⟨#[]⟩⟩],eW r.Held p r.ag,r.Notes,r.ag+1,r.ah+1⟩):=by
 unfold cE at h ⊢
 by_cases h1:kind=1∨kind=2
 .
  rw [if_pos h1] at h ⊢
  by_cases h2:eD r p=0
  .
   rw [if_pos h2] at h ⊢
   by_cases h3:r.Things.length=10∨999<r.ah∨999<r.ag
   .grind
   simp_all [fB,if_neg,if_pos]
  grind
 grind
theorem Inv.make (h:Inv r){p:Place}{kind:Int}(hm:(cE r p kind).2=0):Inv (cE r p kind).1:=by
 obtain ⟨hk,hf,hl,ht,hw,he⟩:=yR hm
 obtain ⟨hp,ha⟩:=iM hf
 have hpl:=bY hp
 rw [he ae]
 have n1:=h.oT;have n2:=h.pG;have hfr:=h.fresh;have hmax:=h.je
 have hi:r.ag≠0:=ae
 have YS:=lQ (id:=r.ag) h.good hp
 refine { tree:=BU h.tree (px aB) (fun y hy=>h.tv y hy) (fun h0=>absurd rfl h0),good:=YS,tv:=?_,oT:=by grind,qB:=by grind,pG:=by grind,pH:=by grind,jk:=List.pairwise_append.2 ⟨h.jk,bW,fun a ha b hb=>by simp at hb;subst hb;exact (h.xL a ha).2⟩,xL:=?_,jB:=?_,jC:=?_,je:=by grind,thing:=?_,port:=?_,kA:=h.kA,wait:=h.wait,jD:=h.jD,once:=?_,iy:=?_,fy:=?_,used:=?_ }
 .
  intro w hw
  show w.ID<r.ag+1
  rcases List.mem_append.1 hw with hw|hw
  .have:=h.tv w hw;omega
  grind
 .
  intro t ht
  show 1<=t.ID/\t.ID<r.ah+1
  rcases List.mem_append.1 ht with ht|ht
  .have:=h.xL t ht;omega
  grind
 .
  intro t ht
  rcases List.mem_append.1 ht with ht|ht
  .exact h.jB t ht
  grind
 .
  intro t ht
  rcases List.mem_append.1 ht with ht|ht
  .exact h.jC t ht
  rw [List.mem_singleton.1 ht];exact ⟨by show (0:Nat)<=8;decide,fun _=>rfl⟩
 .
  intro w hw
  rcases List.mem_append.1 hw with hw|hw
  .
   obtain ⟨t,ht,e⟩:=h.thing w hw
   grind
  simp_all
 .
  intro n hn
  obtain ⟨t,ht,e⟩:=h.port n hn
  grind
 .
  intro w hw
  show cH (eW r.Held p r.ag) w.ID+cN r.Notes w.ID=1
  rw [Dd h.good ha hi]
  rcases List.mem_append.1 hw with hw|hw
  .
   have:=h.tv w hw;have:=h.once w hw
   grind
  grind
 .
  intro n hn h0
  obtain ⟨w,hw,e⟩:=h.iy n hn h0
  grind
 .
  intro x hx
  rcases (lR h.good ha hi).1 hx with e|hx
  .simp_all
  obtain ⟨w,hw,e⟩:=h.fy x hx
  grind
 intro t ht
 rcases List.mem_append.1 ht with ht|ht
 .
  obtain ⟨w,hw,e⟩:=h.used t ht
  grind
 simp_all
theorem yS {p t:Place}{a b:Int}(h:(dq r p t a b).2=0):(aM r p).2=0/\eD r t=0/\(p.ay=t.ay∨hZ (aM r p).1.Rights 4=true)/\r.ag<=999/\(derived (aM r p).1 r.ag a b).2=0 /\
 (0<t.ay->(dq r p t a b).1=⟨r.ao++[(derived (aM r p).1 r.ag a b).1],r.Things,eW r.Held t (derived (aM r p).1 r.ag a b).1.ID,r.Notes,r.ag+1,r.ah⟩):=by
 unfold dq at h ⊢
 by_cases h1:(aM r p).2=0
 .
  rw [if_pos h1] at h ⊢
  by_cases h2:eD r t=0
  .
   rw [if_pos h2] at h ⊢
   by_cases h3:p.ay=t.ay∨hZ (aM r p).1.Rights 4=true
   .
    rw [if_pos h3] at h ⊢
    by_cases h4:999<r.ag
    .grind
    rw [if_neg h4] at h ⊢
    by_cases h5:(derived (aM r p).1 r.ag a b).2=0
    .simp_all [fB,if_pos]
    grind
   grind
  grind
 grind
theorem Inv.derive (h:Inv r){g:ap}(hg:g∈r.ao){a b:Int}(hn:r.ag<=999)(hd:(derived g r.ag a b).2=0):cS (r.ao++[(derived g r.ag a b).1])/\(derived g r.ag a b).1.ID=r.ag/\(derived g r.ag a b).1.aA=g.aA/\(derived g r.ag a b).1.Rights=a/\(derived g r.ag a b).1.From=g.ID/\hZ g.Rights a=true/\0<=a/\a<=7:=by
 obtain ⟨a0,a7,b0,b9,hh,e,hb⟩:=mo hd
 have w:=h.tree.mem hg
 have w1:=w.id1;have w2:=w.Vz;have w3:=w.VA;have w4:=w.VB;have w5:=w.VD;have w6:=h.tv g hg
 rw [e]
 refine ⟨BU h.tree (px ⟨aB,hn,w2,w3,?_,?_,aB,w6,a0,a7⟩) (fun y hy=>h.tv y hy) (fun _=>⟨g,hg,rfl,hh,?_,rfl⟩),rfl,rfl,rfl,rfl,hh,a0,a7⟩
 .grind
 .grind
 grind
theorem Inv.give (h:Inv r){p t:Place}{a b:Int}(hm:(dq r p t a b).2=0):Inv (dq r p t a b).1:=by
 obtain ⟨hg,hf,hr,hw,hd,he⟩:=yS hm
 obtain ⟨hp,ha⟩:=iM hf
 have hpl:=bY hp
 obtain ⟨_,hgm,_⟩:=h.get hg
 obtain ⟨Ju,hid,hth,_⟩:=h.derive hgm hw hd
 rw [he ae,hid]
 generalize hx:(derived (aM r p).1 r.ag a b).1=x at *
 have n1:=h.oT;have hfr:=h.fresh
 have hi:r.ag≠0:=ae
 have YS:=lQ (id:=r.ag) h.good hp
 refine { tree:=Ju,good:=YS,tv:=?_,oT:=by grind,qB:=by grind,pG:=h.pG,pH:=h.pH,jk:=h.jk,xL:=h.xL,jB:=h.jB,jC:=h.jC,je:=h.je,thing:=?_,port:=h.port,kA:=h.kA,wait:=h.wait,jD:=h.jD,once:=?_,iy:=?_,fy:=?_,used:=?_ }
 .
  intro w hw
  show w.ID<r.ag+1
  rcases List.mem_append.1 hw with hw|hw
  .have:=h.tv w hw;omega
  grind
 .
  intro w hw
  rcases List.mem_append.1 hw with hw|hw
  .exact h.thing w hw
  rw [List.mem_singleton.1 hw,hth];exact h.thing _ hgm
 .
  intro w hw
  show cH (eW r.Held t r.ag) w.ID+cN r.Notes w.ID=1
  rw [Dd h.good ha hi]
  rcases List.mem_append.1 hw with hw|hw
  .
   have:=h.tv w hw;have:=h.once w hw
   grind
  grind
 .
  intro n hn h0
  obtain ⟨w,hw,e⟩:=h.iy n hn h0
  grind
 .
  intro y hy
  rcases (lR h.good ha hi).1 hy with e|hy
  .grind
  obtain ⟨w,hw,e⟩:=h.fy y hy
  grind
 intro t ht
 obtain ⟨w,hw,e⟩:=h.used t ht
 grind
theorem yU {p:Place}{s:Int}(h:(fu r p s).2=0):(aM r p).2=0/\eD r ⟨p.ay,s⟩=0/\(fu r p s).1=⟨r.ao,r.Things,eW (eW r.Held p 0) ⟨p.ay,s⟩ (aM r p).1.ID,r.Notes,r.ag,r.ah⟩:=by
 unfold fu at h ⊢
 grind
theorem Inv.held (h:Inv r){m:List Held}(hg:Good m)(hc:∀w∈r.ao,cH m w.ID=cH r.Held w.ID)(hs:∀x∈m,∃w∈r.ao,w.ID=x.ap):Inv ⟨r.ao,r.Things,m,r.Notes,r.ag,r.ah⟩ :=
 { tree:=h.tree,good:=hg,tv:=h.tv,oT:=h.oT,qB:=h.qB,pG:=h.pG,pH:=h.pH,jk:=h.jk,xL:=h.xL,jB:=h.jB,jC:=h.jC,je:=h.je,thing:=h.thing,port:=h.port,kA:=h.kA,wait:=h.wait,jD:=h.jD,once:=fun w hw=>by show cH m w.ID+_=1;rw [hc w hw];exact h.once w hw,iy:=h.iy,fy:=hs,used:=h.used }
theorem Inv.move (h:Inv r){p:Place}{s:Int}(hm:(fu r p s).2=0):Inv (fu r p s).1:=by
 obtain ⟨hg,hf,he⟩:=yU hm
 obtain ⟨hp,ha⟩:=iM hf
 obtain ⟨hpf,hgm,hat,h1,_⟩:=h.get hg
 rw [he]
 have hi:(aM r p).1.ID≠0:=ae
 have hg1:Good (eW r.Held p 0):=lQ h.good hpf
 have hne:¬ (⟨p.ay,s⟩:Place)=p:=fun e=>by grind
 have ha1:mG (eW r.Held p 0) ⟨p.ay,s⟩=0:=by rw [BO h.good hpf hne];omega
 refine h.held (lQ hg1 hp) (fun w hw=>?_) (fun x hx=>?_)
 .rw [Dd hg1 ha1 hi,<- Tp h.good hat.symm hi]
 rcases (lR hg1 ha1 hi).1 hx with e|hx
 .grind
 exact h.fy x (Fj h.good hat.symm hi hx)
theorem Pre.wV (h:Pre r){l:List ap}(ht:cS l)(hs:∀v∈l,∃w∈r.ao,Like v w):Pre ⟨l,r.Things,r.Held,r.Notes,r.ag,r.ah⟩ :=
 { tree:=ht,good:=h.good,tv:=fun v hv=>by obtain ⟨w,hw,k⟩:=hs v hv;rw [k.id];exact h.tv w hw,oT:=h.oT,qB:=h.qB,pG:=h.pG,pH:=h.pH,jk:=h.jk,xL:=h.xL,jB:=h.jB,jC:=h.jC,je:=h.je,thing:=fun v hv=>by obtain ⟨w,hw,k⟩:=hs v hv;rw [k.th];exact h.thing w hw,port:=h.port,kA:=h.kA,wait:=h.wait,jD:=h.jD,once:=fun v hv=>by obtain ⟨w,hw,k⟩:=hs v hv;rw [k.id];exact h.once w hw }
theorem Pre.wo (h:Pre r)(id:Int):Pre ⟨without r.ao id,r.Things,r.Held,r.Notes,r.ag,r.ah⟩ :=
 h.wV (h.tree.wo id) (fun v hv=>by grind [gK,xM])
theorem uz {l:List ap}{id:Int}{x:ap}:x∈E7 l id↔x∈l/\¬ x.ID∈jd id l:=by
 grind [E7]
theorem MU {l:List ap}(h:cS l){id:Int}{x y:ap}(hi:0<=cO l id)(hx:x∈l)(hy:y∈l)(e:y.ID=x.From)(hb:y.ID∈jd id l):x.ID∈jd id l:=by
 have h1:=lf hx;have h2:=lf hy
 rw [BL h hi h1]
 rw [BL h hi h2] at hb
 unfold above at hb ⊢
 obtain ⟨x',_,e1,hx',e2⟩:=oO h1
 have:x'=x:=h.inj hx' hx e1
 grind [tg,List.mem_cons_of_mem]
theorem cS.cut {l:List ap}(h:cS l){id:Int}(hi:0<=cO l id):cS (E7 l id):=by
 have hs:=h.is
 refine vy.ok' ⟨fun x hx=>hs.ok x (uz.1 hx).1,hs.rise.filter _,fun x hx h0=>?_⟩
 obtain ⟨h1,h2⟩:=uz.1 hx
 obtain ⟨y,hy,hm⟩:=hs.made x h1 h0
 exact ⟨y,uz.2 ⟨hy,fun hb=>h2 (MU h hi h1 hy hm.gF hb)⟩,hm⟩
theorem Pre.cut (h:Pre r){id:Int}(hi:0<=cO r.ao id):Pre ⟨E7 r.ao id,r.Things,r.Held,r.Notes,r.ag,r.ah⟩ :=
 h.wV (h.tree.cut hi) (fun v hv=>⟨v,(uz.1 hv).1,Like.refl v⟩)
theorem yV {p:Place}(h:(fM r p).2=0):(aM r p).2=0/\(fM r p).1=dt ⟨without r.ao (aM r p).1.ID,r.Things,r.Held,r.Notes,r.ag,r.ah⟩:=by
 unfold fM at h ⊢
 grind
theorem uA {p:Place}(h:(dF r p).2=0):(aM r p).2=0/\(dF r p).1=dt ⟨E7 r.ao (aM r p).1.ID,r.Things,r.Held,r.Notes,r.ag,r.ah⟩:=by
 unfold dF at h ⊢
 grind
theorem Inv.drop (h:Inv r){p:Place}(hm:(fM r p).2=0):Inv (fM r p).1:=by
 rw [(yV hm).2];exact vH (h.toPre.wo _)
theorem Inv.Tt (h:Inv r){p:Place}(hm:(dF r p).2=0):Inv (dF r p).1:=by
 obtain ⟨hg,he⟩:=uA hm
 rw [he];exact vH (h.toPre.cut (lf (h.get hg).2.1))
theorem mem_set {l:List aA}{i:Nat}{d:ByteArray}{x:aA}(h:x∈gB l i d):∃ (k:Nat) (t:aA),l[k]? = some t/\x.ID=t.ID/\x.Kind=t.Kind/\(x.Data=t.Data∨k=i/\x.Data=d):=by
 unfold gB at h
 grind [List.mem_iff_getElem?]
theorem Jv {l:List aA}{i:Nat}{d:ByteArray}{t:aA}(h:t∈l):∃x∈gB l i d,x.ID=t.ID/\x.Kind=t.Kind:=by
 unfold gB
 split
 .
  rename_i y hy
  obtain ⟨k,hk⟩:=List.mem_iff_getElem?.1 h
  by_cases e:i=k
  .grind [List.mem_set,List.getElem?_eq_some_iff]
  exact ⟨t,List.mem_of_getElem? (i:=k) aB,rfl,rfl⟩
 grind
theorem Ql (l:List aA)(i:Nat)(d:ByteArray):(gB l i d).map aA.ID=l.map aA.ID:=by
 unfold gB
 split
 .
  rename_i t ht
  rw [List.map_set]
  apply List.ext_getElem?
  grind
 rfl
theorem xa {p:Place}{d:ByteArray}(h:(dV r p d).2=0):(bQ r p 1 2).2.2=0/\d.size<=8/\(dV r p d).1=⟨r.ao,gB r.Things (bQ r p 1 2).2.1.toNat d,r.Held,r.Notes,r.ag,r.ah⟩:=by
 unfold dV at h ⊢
 grind
theorem Inv.write (h:Inv r){p:Place}{d:ByteArray}(hm:(dV r p d).2=0):Inv (dV r p d).1:=by
 obtain ⟨hy,hd,he⟩:=xa hm
 obtain ⟨_,_,_,k,t,hk,ht,aai,htk,_⟩:=lp hy
 rw [he,hk,Int.toNat_natCast]
 have aaj:=Ql r.Things k d
 have hin:∀x∈gB r.Things k d,∃y∈r.Things,x.ID=y.ID/\x.Kind=y.Kind:=fun x hx=>by
  grind [mem_set,List.mem_of_getElem?]
 refine { tree:=h.tree,good:=h.good,tv:=h.tv,oT:=h.oT,qB:=h.qB,pG:=h.pG,pH:=h.pH,jk:=?_,xL:=?_,jB:=?_,jC:=?_,je:=by show (gB _ _ _).length<=10;rw [wW];exact h.je,thing:=?_,port:=?_,kA:=h.kA,wait:=h.wait,jD:=h.jD,once:=h.once,iy:=h.iy,fy:=h.fy,used:=?_ }
 .
  have h1:(r.Things.map aA.ID).Pairwise (· < ·):=List.pairwise_map.2 h.jk
  grind
 .intro x hx;obtain ⟨y,hy,a,b⟩:=hin x hx;show 1<=x.ID/\x.ID<r.ah;rw [a];exact h.xL y hy
 .intro x hx;obtain ⟨y,hy,a,b⟩:=hin x hx;rw [b];exact h.jB y hy
 .
  intro x hx
  obtain ⟨j,y,hj,a,b,c⟩:=mem_set hx
  have:=h.jC y (List.mem_of_getElem? hj)
  grind
 .
  intro w hw
  obtain ⟨t',ht',e⟩:=h.thing w hw
  obtain ⟨x,hx,a,_⟩:=Jv (i:=k) (d:=d) ht'
  grind
 .
  intro n hn
  obtain ⟨t',ht',e,e2⟩:=h.port n hn
  obtain ⟨x,hx,a,b⟩:=Jv (i:=k) (d:=d) ht'
  grind
 intro x hx;obtain ⟨y,hy,a,b⟩:=hin x hx;rw [a];exact h.used y hy
end
end
section
section
variable {r:av}
theorem BV (ns:List Note)(n:Note)(q:Int):gu (ns++[n]) q=gu ns q+(if n.Port=q then 1 else 0):=by
 unfold gu;grind
theorem Jw (ns:List Note)(n:Note)(j:Int):cN (ns++[n]) j=cN ns j+(if n.ap=j then 1 else 0):=by
 simp_all [cN,List.countP_append,List.countP_cons,if_pos,if_neg]
theorem rV {p:Place}{k q:Int}(h:(bQ r p k q).2.2=0):(aM r p).2=0/\(bQ r p k q).1=(aM r p).1/\hZ (aM r p).1.Rights q=true /\ ∃t∈r.Things,t.ID=(aM r p).1.aA/\t.Kind=k:=by
 grind [lp,List.mem_of_getElem?]
theorem yW {p:Place}{d:ByteArray}{s a:Int}(h:(cL r p d s a).2=0):(bQ r p 2 2).2.2=0/\d.size<=8/\gu r.Notes (aM r p).1.aA≠3 /\
 (s<0/\(cL r p d s a).1=⟨r.ao,r.Things,r.Held,r.Notes++[⟨(aM r p).1.aA,d,(aM r p).1.aU,0⟩],r.ag,r.ah⟩ ∨
  0<=s/\hZ (aM r p).1.Rights 4=true/\(aM r ⟨p.ay,s⟩).2=0/\r.ag<=999/\(derived (aM r ⟨p.ay,s⟩).1 r.ag a 0).2=0 /\
  (cL r p d s a).1=⟨r.ao++[(derived (aM r ⟨p.ay,s⟩).1 r.ag a 0).1],r.Things,r.Held,r.Notes++[⟨(aM r p).1.aA,d,(aM r p).1.aU,(derived (aM r ⟨p.ay,s⟩).1 r.ag a 0).1.ID⟩],r.ag+1,r.ah⟩):=by
 unfold cL at h ⊢
 by_cases h1:(bQ r p 2 2).2.2=0
 .
  have he:=(rV h1).2.1
  rw [if_pos h1] at h ⊢
  by_cases h2:8<d.size
  .grind
  rw [if_neg h2] at h ⊢
  by_cases h3:gu r.Notes (bQ r p 2 2).1.aA=3
  .grind
  grind
 grind
theorem Inv.send (h:Inv r){p:Place}{d:ByteArray}{s a:Int}(hm:(cL r p d s a).2=0):Inv (cL r p d s a).1:=by
 obtain ⟨hy,hd,h3,hc⟩:=yW hm
 obtain ⟨hg,_,_,t,ht,hti,htk⟩:=rV hy
 obtain ⟨_,hgm,_⟩:=h.get hg
 have hw:=h.tree.mem hgm
 have ZR:∀q,gu r.Notes q+(if (aM r p).1.aA=q then 1 else 0)<=3:=fun q=>by
  have:=h.wait q
  grind
 have BR:∀ (k:Int) (n:Note),n∈r.Notes++[⟨(aM r p).1.aA,d,(aM r p).1.aU,k⟩] -> ∃t∈r.Things,t.ID=n.Port/\t.Kind=2:=fun k n hn=>by
  rcases List.mem_append.1 hn with hn|hn
  .exact h.port n hn
  grind
 have hnd:∀ (k:Int) (n:Note),n∈r.Notes++[⟨(aM r p).1.aA,d,(aM r p).1.aU,k⟩]->n.Data.size<=8/\0<=n.aU/\n.aU<=99:=fun k n hn=>by
  rcases List.mem_append.1 hn with hn|hn
  .exact h.kA n hn
  rw [List.mem_singleton.1 hn];exact ⟨hd,hw.VB,hw.VD⟩
 rcases hc with ⟨h4,he⟩ | ⟨h4,h5,h6,h7,h8,he⟩
 .
  rw [he]
  refine { tree:=h.tree,good:=h.good,tv:=h.tv,oT:=h.oT,qB:=h.qB,pG:=h.pG,pH:=h.pH,jk:=h.jk,xL:=h.xL,jB:=h.jB,jC:=h.jC,je:=h.je,thing:=h.thing,port:=BR 0,kA:=hnd 0,wait:=fun q=>?_,jD:=?_,once:=?_,iy:=?_,fy:=h.fy,used:=h.used }
  .grind [BV]
  .
   intro n hn
   rcases List.mem_append.1 hn with hn|hn
   .exact h.jD n hn
   grind
  .
   intro w hw
   show cH r.Held w.ID+cN (r.Notes++[_]) w.ID=1
   have:=h.once w hw;have:=(h.tree.mem hw).id1
   rw [Jw,if_neg aB];omega
  intro n hn h0
  rcases List.mem_append.1 hn with hn|hn
  .exact h.iy n hn h0
  grind
 obtain ⟨_,Wp,_⟩:=h.get h6
 obtain ⟨Ju,hid,hth,_⟩:=h.derive Wp h7 h8
 rw [he]
 generalize hx:(derived (aM r ⟨p.ay,s⟩).1 r.ag a 0).1=x at *
 have n1:=h.oT;have hfr:=h.fresh
 refine { tree:=Ju,good:=h.good,tv:=?_,oT:=by grind,qB:=by grind,pG:=h.pG,pH:=h.pH,jk:=h.jk,xL:=h.xL,jB:=h.jB,jC:=h.jC,je:=h.je,thing:=?_,port:=BR x.ID,kA:=hnd x.ID,wait:=fun q=>?_,jD:=?_,once:=?_,iy:=?_,fy:=?_,used:=?_ }
 .
  intro w hw
  show w.ID<r.ag+1
  rcases List.mem_append.1 hw with hw|hw
  .have:=h.tv w hw;omega
  grind
 .
  intro w hw
  rcases List.mem_append.1 hw with hw|hw
  .exact h.thing w hw
  rw [List.mem_singleton.1 hw,hth];exact h.thing _ Wp
 .grind [BV]
 .
  intro n hn
  rcases List.mem_append.1 hn with hn|hn
  .exact h.jD n hn
  grind
 .
  intro w hw
  show cH r.Held w.ID+cN (r.Notes++[_]) w.ID=1
  rw [Jw];dsimp only
  rcases List.mem_append.1 hw with hw|hw
  .
   have:=h.tv w hw;have:=h.once w hw
   grind
  grind
 .
  intro n hn h0
  rcases List.mem_append.1 hn with hn|hn
  .
   obtain ⟨w,hw,e⟩:=h.iy n hn h0
   grind
  grind
 .
  intro y hy
  obtain ⟨w,hw,e⟩:=h.fy y hy
  grind
 intro t ht
 obtain ⟨w,hw,e⟩:=h.used t ht
 grind
theorem yX {p:Place}(h:(cM r p).2.2.2=0):(bQ r p 2 1).2.2=0 /\ ∃ (i:Nat) (n:Note),r.Notes[i]? = some n/\n.Port=(aM r p).1.aA/\(∀ (j:Nat) y,j<i->r.Notes[j]? = some y->¬ y.Port=(aM r p).1.aA)/\(cM r p).2.1=n /\
 (0<n.ap/\0<=gq r.Held p.ay/\(cM r p).2.2.1=gq r.Held p.ay/\(cM r p).1=⟨r.ao,r.Things,eW r.Held ⟨p.ay,gq r.Held p.ay⟩ n.ap,vC r.Notes i,r.ag,r.ah⟩ ∨
  n.ap<=0/\(cM r p).2.2.1 = -1/\(cM r p).1=⟨r.ao,r.Things,r.Held,vC r.Notes i,r.ag,r.ah⟩):=by
 unfold cM at h ⊢
 by_cases h1:(bQ r p 2 1).2.2=0
 .
  have he:=(rV h1).2.1
  rw [if_pos h1] at h ⊢
  rw [he] at h ⊢
  rcases j9 (fun n:Note=>n.Port==(aM r p).1.aA) r.Notes with ⟨hf,hn⟩ | ⟨i,n,hf,hn,hp,hb,_⟩
  .grind
  grind
 grind
theorem free_at {l:List Held}{h:Int}(hf:0<=gq l h):gq l h<=5/\mG l ⟨h,gq l h⟩=0:=by
 grind [free_spec]
theorem Ht {p:Place}{k:Int}(h:bB p=0)(h0:0<=k)(h5:k<=5):bB ⟨p.ay,k⟩=0:=by
 grind [bB,bY]
theorem Inv.notes (h:Inv r){m:List Held}{ns:List Note}(hg:Good m)(hc:∀w∈r.ao,cH m w.ID+cN ns w.ID=1)(hs:∀x∈m,∃w∈r.ao,w.ID=x.ap)(hn:∀n∈ns,n∈r.Notes)(hw:∀q,gu ns q<=gu r.Notes q):Inv ⟨r.ao,r.Things,m,ns,r.ag,r.ah⟩ :=
 { tree:=h.tree,good:=hg,tv:=h.tv,oT:=h.oT,qB:=h.qB,pG:=h.pG,pH:=h.pH,jk:=h.jk,xL:=h.xL,jB:=h.jB,jC:=h.jC,je:=h.je,thing:=h.thing,port:=fun n k=>h.port n (hn n k),kA:=fun n k=>h.kA n (hn n k),wait:=fun q=>Nat.le_trans (hw q) (h.wait q),jD:=fun n k=>h.jD n (hn n k),once:=hc,iy:=fun n k=>h.iy n (hn n k),fy:=hs,used:=h.used }
theorem Inv.take (h:Inv r){p:Place}(hm:(cM r p).2.2.2=0):Inv (cM r p).1:=by
 obtain ⟨hy,i,n,hn,hp,hb,_,hc⟩:=yX hm
 obtain ⟨hg,_⟩:=rV hy
 obtain ⟨hpf,_⟩:=h.get hg
 have hcut:=fun j=>Ts hn j
 have hsub:∀x∈vC r.Notes i,x∈r.Notes:=fun x hx=>Qk hx
 rcases hc with ⟨h0,hf,_,he⟩ | ⟨h0,_,he⟩
 .
  rw [he]
  obtain ⟨h5,ha⟩:=free_at hf
  have hi:n.ap≠0:=ae
  have hq:=Ht hpf hf h5
  refine h.notes (lQ h.good hq) (fun w hw=>?_) (fun x hx=>?_) hsub (fun q=>BP q)
  .
   rw [Dd h.good ha hi]
   have h1:=h.once w hw;grind
  rcases (lR h.good ha hi).1 hx with e|hx
  .rw [e];exact h.iy n (List.mem_of_getElem? hn) h0
  exact h.fy x hx
 rw [he]
 refine h.notes h.good (fun w hw=>?_) h.fy hsub (fun q=>BP q)
 have h1:=h.once w hw;have h2:=hcut w.ID;have h3:=(h.tree.mem hw).id1
 grind
theorem Inv.do (h:Inv r){a:fL}(hm:(cp r a).2=0):Inv (cp r a).1:=by
 unfold cp at hm ⊢
 by_cases h1:a.Kind=(⟨#[109,97,107,101]⟩:ByteArray)
 .rw [if_pos h1] at hm ⊢;exact h.make hm
 rw [if_neg h1] at hm ⊢
 by_cases h2:a.Kind=(⟨#[103,105,118,101]⟩:ByteArray)
 .rw [if_pos h2] at hm ⊢;exact h.give hm
 rw [if_neg h2] at hm ⊢
 by_cases h3:a.Kind=(⟨#[109,111,118,101]⟩:ByteArray)
 .rw [if_pos h3] at hm ⊢;exact h.move hm
 rw [if_neg h3] at hm ⊢
 by_cases h4:a.Kind=(⟨#[100,114,111,112]⟩:ByteArray)
 .rw [if_pos h4] at hm ⊢;exact h.drop hm
 rw [if_neg h4] at hm ⊢
 by_cases h5:a.Kind=(⟨#[114,101,118,111,107,101]⟩:ByteArray)
 .rw [if_pos h5] at hm ⊢;exact h.Tt hm
 rw [if_neg h5] at hm ⊢
 by_cases h6:a.Kind=(⟨#[119,114,105,116,101]⟩:ByteArray)
 .rw [if_pos h6] at hm ⊢;exact h.write hm
 rw [if_neg h6] at hm ⊢
 by_cases h7:a.Kind=(⟨#[115,101,110,100]⟩:ByteArray)
 .rw [if_pos h7] at hm ⊢;exact h.send hm
 rw [if_neg h7] at hm ⊢
 by_cases h8:a.Kind=(⟨#[116,97,107,101]⟩:ByteArray)
 .rw [if_pos h8] at hm ⊢;exact h.take hm
 grind
theorem qU (h:Inv r):r.Held.length<=24:=MR h.good
end
end
section
section
variable {r:av}
end
end
section
section
variable {r:av}
theorem BW {ws:List ap}{ts:List Int}:∀ {ns:List Note},(∀n∈ns,n.Port∈ts/\jT ws n=n)->gX ws ts ns=ns
 | [],_=>rfl
 | n::ns,h=>by
  obtain ⟨h1,h2⟩:=h n (List.mem_cons_self ..)
  rw [vG,if_pos h1,h2,BW (fun m hm=>h m (List.mem_cons_of_mem _ hm))]
theorem KH {ws:List ap}{ts:List Int}{ns:List Note}(h:∀n∈ns,n.Port∈ts):iD ws ts ns=[]:=by
 refine List.eq_nil_iff_forall_not_mem.2 fun j hj=>?_
 grind [Fi]
theorem Inv.Jx (h:Inv r):∀n∈r.Notes,n.Port∈bC r.ao:=fun n hn=>by
 obtain ⟨t,ht,e,_⟩:=h.port n hn
 obtain ⟨w,hw,e2⟩:=h.used t ht
 exact (lq h.tree).2 ⟨w,hw,ae⟩
theorem Inv.fix (h:Inv r):∀n∈r.Notes,jT r.ao n=n:=fun n hn=>by
 unfold jT;split
 .
  rename_i hf
  have h0:=h.jD n hn
  have:n.ap=0:=by
   by_cases hp:0<n.ap
   .
    obtain ⟨w,hw,e⟩:=h.iy n hn hp
    have:=lf hw;grind
   omega
  cases n;grind
 rfl
theorem Hu (h:Inv r)(T:List aA)(H:List Held)(hT:∀t∈T,∀w∈r.ao,w.aA≠t.ID)(hH:H.filter (fun h => !decide (cO r.ao h.ap<0))=r.Held)(a b:Int):dt ⟨r.ao,r.Things++T,H,r.Notes,a,b⟩=⟨r.ao,r.Things,r.Held,r.Notes,a,b⟩:=by
 have hl:oc ⟨r.ao,r.Things++T,H,r.Notes,a,b⟩=[]:=KH h.Jx
 rw [od aB]
 unfold fH
 dsimp only
 have h1:(r.Things++T).filter (fun t => !!decide (t.ID∈bC r.ao))=r.Things:=by
  have k1:r.Things.filter (fun t => !!decide (t.ID∈bC r.ao))=r.Things:=List.filter_eq_self.2 fun t ht=>by
   obtain ⟨w,hw,e⟩:=h.used t ht
   simp only [Bool.not_not,decide_eq_true_eq]
   exact (lq h.tree).2 ⟨w,hw,e⟩
  have k2:T.filter (fun t => !!decide (t.ID∈bC r.ao))=[]:=List.filter_eq_nil_iff.2 fun t ht=>by
   simp only [Bool.not_not,decide_eq_true_eq]
   intro hm
   obtain ⟨w,hw,e⟩:=(lq h.tree).1 hm
   grind
  grind
 rw [h1,hH,BW (fun n hn=>⟨h.Jx n hn,h.fix n hn⟩)]
theorem Inv.KJ (h:Inv r){H:List Held}(hs:∀x∈H,x∈r.Held):H.filter (fun h => !decide (cO r.ao h.ap<0))=H :=
 List.filter_eq_self.2 fun x hx=>by
  have:=jV.2 (h.fy x (hs x hx))
  grind
theorem yY (h:Inv r):dt r=r:=by
 have:=Hu h [] r.Held (fun t ht=>by grind) (h.KJ (fun x hx=>hx)) r.ag r.ah
 simp_all
theorem Tv {l:List Held}{x y:Held}(hx:x∈l)(hy:y∈l)(e:x.ap=y.ap)(h:cH l x.ap<=1):x=y:=by
 obtain ⟨A,B,rfl⟩:=List.append_of_mem hx
 unfold cH at h
 rw [List.countP_append,List.countP_cons,if_pos bW] at h
 grind [List.countP_pos_iff]
theorem Inv.one (h:Inv r){x y:Held}(hx:x∈r.Held)(hy:y∈r.Held)(e:x.ap=y.ap):x=y:=by
 obtain ⟨w,hw,e2⟩:=h.fy x hx
 have:=h.once w hw
 grind [Tv]
end
end
section
section
variable {r:av}
theorem qV:∀ (ns:List Note) (l:List ap),cS l->cS (gG ns l)
 | [],l,h=>h
 | n::ns,l,h=>by
  show cS (gG ns (if 0<n.ap then without l n.ap else l))
  refine qV ns _ ?_
  split
  .exact h.wo _
  exact h
theorem yZ:∀ (ns:List Note) (l:List ap) (w:ap),w∈gG ns l->(∃y∈l,Like w y) /\ ∀n∈ns,0<n.ap->w.ID≠n.ap
 | [],l,w,h=>⟨⟨w,h,Like.refl w⟩,fun n hn=>by grind⟩
 | n::ns,l,w,h=>by
  obtain ⟨⟨y,hy,hl⟩,hn⟩:=yZ ns (if 0<n.ap then without l n.ap else l) w h
  by_cases h0:0<n.ap
  .
   rw [if_pos h0] at hy
   obtain ⟨z,hz,hne,rfl⟩:=gK.1 hy
   refine ⟨⟨z,hz,hl.trans (xM _ _ z)⟩,fun m hm hm0=>?_⟩
   rcases List.mem_cons.1 hm with e|hm
   .rw [e,hl.id,(lE z).1];omega
   grind
  grind
theorem tw:∀ (ns:List Note) (l:List ap) (y:ap),y∈l->(∀n∈ns,0<n.ap->y.ID≠n.ap) -> ∃w∈gG ns l,Like w y
 | [],l,y,h,_=>⟨y,h,Like.refl y⟩
 | n::ns,l,y,h,hn=>by
  by_cases h0:0<n.ap
  .
   obtain ⟨w,hw,k⟩:=tw ns (without l n.ap) (ml n.ap (fx l n.ap) y) (gK.2 ⟨y,h,hn n (List.mem_cons_self ..) h0,rfl⟩) (fun m hm hm0=>by grind [lE,List.mem_cons_of_mem])
   refine ⟨w,?_,k.trans (xM _ _ y)⟩
   simp_all [gG,without,if_pos]
  obtain ⟨w,hw,k⟩:=tw ns l y h (fun m hm hm0=>hn m (List.mem_cons_of_mem _ hm) hm0)
  refine ⟨w,?_,k⟩
  simp_all [gG,without,if_neg]
theorem MV {ns:List Note}{j:Int}(h:cN ns j=0):∀n∈ns,0<n.ap->j≠n.ap:=fun n hn _ e=>by
 grind [Tr]
theorem Inv.BX (h:Inv r):Pre ⟨gG r.Notes r.ao,r.Things,r.Held,[],r.ag,r.ah⟩:=by
 have hs:=fun w hw=>yZ r.Notes r.ao w hw
 refine { tree:=qV _ _ h.tree,good:=h.good,tv:=?_,oT:=h.oT,qB:=h.qB,pG:=h.pG,pH:=h.pH,jk:=h.jk,xL:=h.xL,jB:=h.jB,jC:=h.jC,je:=h.je,thing:=?_,port:=fun n hn=>aB,kA:=fun n hn=>aB,wait:=fun q=>by simp [gu],jD:=fun n hn=>aB,once:=?_ }
 .intro w hw;obtain ⟨⟨y,hy,k⟩,_⟩:=hs w hw;rw [k.id];exact h.tv y hy
 .intro w hw;obtain ⟨⟨y,hy,k⟩,_⟩:=hs w hw;rw [k.th];exact h.thing y hy
 intro w hw
 obtain ⟨⟨y,hy,k⟩,hn⟩:=hs w hw
 have h1:=h.once y hy
 have h2:cN r.Notes w.ID=0:=List.countP_eq_zero.2 fun n hnn e=>by
  have e:n.ap=w.ID:=aB
  have:=(h.tree.mem hy).id1
  exact hn n hnn (by rw [e,k.id];omega) e.symm
 show cH r.Held w.ID+cN [] w.ID=1
 rw [<- k.id] at h1;grind [cN]
theorem vI:∀ (a b:List Int),a.Nodup->(∀x∈a,x∈b)->a.length<=b.length
 | [],b,_,_=>Nat.zero_le _
 | x::a,b,hn,hs=>by
  obtain ⟨h1,h2⟩:=List.nodup_cons.1 hn
  obtain ⟨A,B,rfl⟩:=List.append_of_mem (hs x (List.mem_cons_self ..))
  have:=vI a (A++B) h2 fun y hy=>by
   grind
  grind
theorem MW (h:Inv r)(hn:r.Notes=[]):r.Held.length=r.ao.length:=by
 have h1:(r.ao.map ap.ID).Nodup:=List.Pairwise.imp (fun h=>Int.ne_of_lt h) (List.pairwise_map.2 h.tree.is.rise)
 have h2:(r.Held.map Held.ap).Nodup:=by
  refine List.pairwise_iff_getElem.2 fun i j hi hj hij e=>?_
  rw [List.length_map] at hi hj
  rw [List.getElem_map,List.getElem_map] at e
  have:=h.one (List.getElem_mem hi) (List.getElem_mem hj) e
  have h3:=List.pairwise_iff_getElem.1 (iw h.good) i j hi hj hij
  grind [yL]
 have a:=vI (r.Held.map Held.ap) (r.ao.map ap.ID) h2 fun x hx=>by
  obtain ⟨y,hy,rfl⟩:=List.mem_map.1 hx
  obtain ⟨w,hw,e⟩:=h.fy y hy
  grind
 have b:=vI (r.ao.map ap.ID) (r.Held.map Held.ap) h1 fun x hx=>by
  obtain ⟨w,hw,rfl⟩:=List.mem_map.1 hx
  have h3:=h.once w hw
  grind [cN,cH,List.countP_pos_iff]
 grind
theorem ic (h:Inv r):Inv (aP r)/\(aP r).Notes=[]/\(aP r).Held=r.Held/\(aP r).Held.length=(aP r).ao.length/\aP (aP r)=aP r:=by
 have hp:=h.BX
 have hi:Inv (aP r):=vH hp
 have hl:oc ⟨gG r.Notes r.ao,r.Things,r.Held,[],r.ag,r.ah⟩=[]:=rfl
 have hd:aP r=fH ⟨gG r.Notes r.ao,r.Things,r.Held,[],r.ag,r.ah⟩:=od ck
 have hn:(aP r).Notes=[]:=ck
 refine ⟨hi,hn,?_,MW hi hn,?_⟩
 .
  rw [hd]
  show r.Held.filter _=r.Held
  refine List.filter_eq_self.2 fun x hx=>?_
  obtain ⟨w,hw,e⟩:=h.fy x hx
  have h1:=h.once w hw;have h2:=Tq hx;rw [<- e] at h2
  obtain ⟨v,hv,k⟩:=tw r.Notes r.ao w hw (MV ae)
  have h3:0<=cO (gG r.Notes r.ao) x.ap:=jV.2 ⟨v,hv,by rw [k.id,e]⟩
  grind
 have hs:=yY hi
 assumption
theorem Fo {k:Nat}(h:Sz k r):Sz k (aP r) :=
 pF _ _ ⟨Nat.le_trans (tq _ _) h.wl,h.tl,h.hl,Nat.zero_le _,vD _ _ h.ri,h.w0,h.w1,h.t0,h.t1⟩
end
end
section
open Go
theorem pI (a:ByteArray):a.toList=a.data.toList:=Lib.toList_data a
theorem iW {a b:ByteArray}(h:a.data.toList=b.data.toList):a=b:=by
 cases a with|mk x=>simp_all
theorem mA (a b:ByteArray):gQ a b=true↔a.data.toList<b.data.toList:=by
 simp_all [gQ,Proofs.bytesLess_eq,pI,decide_eq_true_iff]
theorem fN (a:ByteArray):gQ a a=false:=by
 rw [Bool.eq_false_iff];grind [List.lt_irrefl,mA]
theorem mJ {a b c:ByteArray}(h:gQ a b=true)(k:gQ b c=true):gQ a c=true:=(mA _ _).2 (List.lt_trans ((mA _ _).1 h) ((mA _ _).1 k))
theorem rW {a b:ByteArray}(h:gQ a b=true):gQ b a=false:=by
 rw [Bool.eq_false_iff];grind [mJ,fN]
theorem MX:∀ (x y:List UInt8),x<y∨x=y∨y<x
 | [],[] => .inr (.inl rfl)
 | [],_::_ => .inl (List.Lex.nil)
 | _::_,[] => .inr (.inr (List.Lex.nil))
 | a::x,b::y=>by
  grind
theorem uB (a b:ByteArray):gQ a b=true∨a=b∨gQ b a=true:=by
 grind [MX,mA,iW]
theorem Tw {a b:ByteArray}(h:gQ a b=false)(hn:a≠b):gQ b a=true:=by
 grind [uB]
def De (a b:ByteArray):Int:=if gQ a b=true then -1 else if a=b then 0 else 1
theorem Fp:∀ (x y:List UInt8),Lib.compareBytes x y=if x<y then -1 else if x=y then 0 else 1
 | [],[]=>rfl
 | [],b::y=>by rfl
 | a::x,[]=>by rfl
 | a::x,b::y=>by
  unfold Lib.compareBytes
  rw [Fp x y]
  by_cases h:a<b
  .rw [if_pos h,if_pos (show a::x<b::y from List.Lex.rel h)]
  rw [if_neg h]
  by_cases k:b<a
  .
   have hne:¬ a=b:=fun e=>by grind
   rw [if_pos k,if_neg (fun hh=>by
    cases hh with
    | rel hh=>grind
    | cons _=>grind),if_neg aB]
  have e:a=b:=UInt8.toNat_inj.1 aB
  simp_all
theorem Jy (a b:ByteArray):Lib.compareBytes a.toList b.toList=De a b:=by
 rw [Fp,pI,pI];unfold De
 have e:(a.data.toList=b.data.toList)=(a=b):=propext ⟨iW,fun h=>by rw [h]⟩
 by_cases h:gQ a b=true
 .rw [if_pos ((mA _ _).1 h),if_pos h]
 rw [if_neg (fun k=>h ((mA _ _).2 k)),if_neg h];grind
theorem BZ {a b:ByteArray}:De a b=0↔a=b:=by
 unfold De
 by_cases h:gQ a b=true
 .rw [if_pos h];grind [fN]
 grind
theorem Fq {a b:ByteArray}:De a b<0↔gQ a b=true:=by
 unfold De
 grind
end
end Go.Proofs.YtnmpibjlnninjaaGreatDoor
