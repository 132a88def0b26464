import Derived.Test.YtnmpibjlnninjaaGreatDoorKT8
import Derived.Lib.Bytealg
import Derived.Sort.Walk0
namespace Go.Proofs.YtnmpibjlnninjaaGreatDoor
set_option linter.unusedVariables false
set_option linter.unusedSimpArgs false
set_option maxRecDepth 100000
set_option maxHeartbeats 90000000
theorem Hz {l:List Held}{p:Place}{id:Int}(hg:Good l)(h:lY l p=0)(hi:id≠0):∃A B,l=A++B/\eY l p id=A++⟨p,id⟩::B:=by
 cases shape l p (gA hg) with
 | hit A B w e hh k ha hb =>
  have hw:w≠0:=(tj hg ⟨p,w⟩ au).2
  grind [at_eq,gA,uB,mW]
 | miss A B e hh k ha hb=>exact ⟨A,B,e,by rw [qL e hh k,if_neg hi]⟩
theorem BR {l:List Held}{p:Place}{w:Int}(hg:Good l)(h:lY l p=w)(hw:w≠0):∃A B,l=A++⟨p,w⟩::B/\eY l p 0=A++B:=by
 cases shape l p (gA hg) with
 | hit A B w' e hh k ha hb =>
  rw [at_eq (gA hg),e,uB (fun x hx=>mW (ha x hx))] at h
  subst h
  exact ⟨A,B,e,by rw [tq e hh k,if_pos rfl]⟩
 | miss A B e hh k ha hb =>
  grind [at_eq,gA,D4,mW]
theorem at_mem {l:List Held}{p:Place}{w:Int}(hg:Good l)(h:lY l p=w)(hw:w≠0):(⟨p,w⟩:Held)∈l:=by
 obtain ⟨A,B,e,_⟩:=BR hg h hw
 grind
theorem D7 {l:List Held}(f:Held->Bool)(hg:Good l):Good (l.filter f) :=
 qK ((gA hg).filter _) (fun x hx=>tj hg x (List.mem_filter.1 hx).1)
def cH (l:List Held)(j:Int):Nat:=l.countP (fun h=>h.ak==j)
def cN (l:List Note)(j:Int):Nat:=l.countP (fun n=>n.ak==j)
theorem BS {l:List Held}{p:Place}{id:Int}(hg:Good l)(h:lY l p=0)(hi:id≠0)(j:Int):cH (eY l p id) j=cH l j+(if id=j then 1 else 0):=by
 obtain ⟨A,B,e,e2⟩:=Hz hg h hi
 rw [e2,e];unfold cH
 grind
theorem Ri {l:List Held}{p:Place}{w:Int}(hg:Good l)(h:lY l p=w)(hw:w≠0)(j:Int):cH l j=cH (eY l p 0) j+(if w=j then 1 else 0):=by
 obtain ⟨A,B,e,e2⟩:=BR hg h hw
 rw [e2,e];unfold cH
 grind
theorem Rj {l:List Held}{x:Held}(h:x∈l):0<cH l x.ak:=List.countP_pos_iff.2 ⟨x,h,bC⟩
theorem Rk {l:List Note}{x:Note}(h:x∈l):0<cN l x.ak:=List.countP_pos_iff.2 ⟨x,h,bC⟩
theorem Rl {l:List Note}{i:Nat}{n:Note}(h:l[i]? = some n)(j:Int):cN l j=cN (uz l i) j+(if n.ak=j then 1 else 0):=by
 obtain ⟨hi,rfl⟩:=List.getElem?_eq_some_iff.1 h
 have e:l=l.take i++l[i]::l.drop (i+1):=bC
 unfold uz cN
 grind
theorem N8 {l:List Note}{i:Nat}{x:Note}(h:x∈uz l i):x∈l:=by
 grind [uz,List.mem_of_mem_take,List.mem_of_mem_drop]
theorem Aj {l:List Note}{i:Nat}(q:Int):fk (uz l i) q<=fk l q:=by
 unfold uz fk
 have h:(l.take i++l.drop (i+1)).Sublist l:=by
  have:=List.Sublist.append (List.Sublist.refl (l.take i)) (List.drop_sublist_drop_left l (Nat.le_succ i))
  simp_all
 grind
theorem jk {l:List ak}{id:Int}:0<=bY l id ↔ ∃x∈l,x.ID=id:=by
 grind [xo,ke]
theorem km {l:List ak}(h:cb l){t:Int}:t∈a8 l ↔ ∃w∈l,w.av=t:=by
 unfold a8
 rw [uy h]
 show t∈ea l 999↔_
 rw [(mS l 999).2]
 simp only [hasT?,List.any_eq_true,beq_iff_eq]
 constructor
 .grind
 rintro ⟨w,hw,e⟩
 have:=h.mem hw
 have h1:=this.Tk;have h2:=this.Tl
 grind
structure Pre (r:aA):Prop where
  tree:cb r.aj
  good:Good r.Held
  sf:∀w∈r.aj,w.ID<r.ag
  nM:1<=r.ag
  pI:r.ag<=1000
  oF:1<=r.ai
  oG:r.ai<=1000
  iu:r.Things.Pairwise (fun a b=>a.ID<b.ID)
  wA:∀t∈r.Things,1<=t.ID/\t.ID<r.ai
  iL:∀t∈r.Things,t.Kind=1∨t.Kind=2
  iM:∀t∈r.Things,t.Data.size<=8/\(t.Kind=2->t.Data=⟨#[]⟩)
  ia:r.Things.length<=10
  thing:∀w∈r.aj,∃t∈r.Things,t.ID=w.av
  port:∀n∈r.Notes,∃t∈r.Things,t.ID=n.Port/\t.Kind=2
  jN:∀n∈r.Notes,n.Data.size<=8/\0<=n.aO/\n.aO<=99
  wait:∀q,fk r.Notes q<=3
  iN:∀n∈r.Notes,0<=n.ak
  once:∀w∈r.aj,cH r.Held w.ID+cN r.Notes w.ID=1
structure Inv (r:aA):Prop extends Pre r where
  gB:∀n∈r.Notes,0<n.ak -> ∃w∈r.aj,w.ID=n.ak
  eD:∀h∈r.Held,∃w∈r.aj,w.ID=h.ak
  used:∀t∈r.Things,∃w∈r.aj,w.av=t.ID
theorem Inv.new:Inv newR:=by
 refine { tree:=rfl,good:=qK List.Pairwise.nil (fun x hx=>by cases hx),sf:=?_,nM:=by decide,pI:=by decide,oF:=by decide,oG:=by decide,iu:=List.Pairwise.nil,wA:=?_,iL:=?_,iM:=?_,ia:=by decide,thing:=?_,port:=?_,jN:=?_,wait:=fun q=>by simp [fk,newR],iN:=?_,once:=?_,gB:=?_,eD:=?_,used:=?_} <;> intro x hx <;> cases hx
theorem uC:∀ (ids:List Int) (l:List ak),cb l->cb (ids.foldl without l)
 | [],l,h=>h
 | i::ids,l,h=>uC ids _ (h.wo i)
structure Like (y x:ak):Prop where
  id:y.ID=x.ID
  th:y.av=x.av
  ri:y.Rights=x.Rights
  ba:y.aO=x.aO
theorem Like.refl (x:ak):Like x x:=⟨rfl,rfl,rfl,rfl⟩
theorem Like.trans {x y z:ak}(h:Like x y)(k:Like y z):Like x z:=⟨h.id.trans k.id,h.th.trans k.th,h.ri.trans k.ri,h.ba.trans k.ba⟩
theorem wB (id f:Int)(x:ak):Like (lB id f x) x:=by have:=kE (id:=id) (f:=f) x;exact ⟨this.1,this.2.1,this.2.2.1,this.2.2.2⟩
theorem xE:∀ (ids:List Int) (l:List ak) (w:ak),w∈ids.foldl without l->(∃y∈l,Like w y)/\¬ w.ID∈ids
 | [],l,w,h=>⟨⟨w,h,Like.refl w⟩,fun h=>by cases h⟩
 | i::ids,l,w,h=>by
  obtain ⟨⟨y,hy,hl⟩,hn⟩:=xE ids (without l i) w h
  obtain ⟨z,hz,hne,rfl⟩:=fM.1 hy
  refine ⟨⟨z,hz,hl.trans (wB _ _ z)⟩,fun hm=>?_⟩
  rcases List.mem_cons.1 hm with e|hm
  .exact hne (by rw [<- e,hl.id,(kE z).1])
  exact hn hm
theorem hG (ws:List ak)(n:Note):(ji ws n).Port=n.Port/\(ji ws n).Data=n.Data/\(ji ws n).aO=n.aO/\((ji ws n).ak=n.ak/\0<=bY ws n.ak∨(ji ws n).ak=0):=by
 unfold ji;grind
theorem tr {ws:List ak}{ts:List Int}{ns:List Note}{n:Note}:n∈fW ws ts ns ↔ ∃m∈ns,n=ji ws m/\m.Port∈ts:=by
 unfold fW
 rw [List.mem_filter,List.mem_map]
 constructor
 .
  rintro ⟨⟨m,hm,rfl⟩,hp⟩
  exact ⟨m,hm,rfl,by have:=of_decide_eq_true hp;grind [hG]⟩
 grind [decide_eq_true,hG]
theorem D8 {ws:List ak}{ts:List Int}{ns:List Note}{j:Int}:j∈gG ws ts ns ↔ ∃m∈ns,j=(ji ws m).ak/\¬ m.Port∈ts/\0<j:=by
 unfold gG
 rw [List.mem_map]
 constructor
 .
  rintro ⟨n,hn,rfl⟩
  obtain ⟨h1,h2⟩:=List.mem_filter.1 hn
  obtain ⟨m,hm,rfl⟩:=List.mem_map.1 h1
  simp only [Bool.and_eq_true,Bool.not_eq_true',decide_eq_false_iff_not,decide_eq_true_eq] at h2
  grind [hG]
 rintro ⟨m,hm,rfl,hp,h0⟩
 refine ⟨ji ws m,List.mem_filter.2 ⟨List.mem_map.2 ⟨m,hm,rfl⟩,?_⟩,rfl⟩
 simp only [Bool.and_eq_true,Bool.not_eq_true',decide_eq_false_iff_not,decide_eq_true_eq]
 grind [hG]
theorem uD (ws:List ak)(ts:List Int)(m:Note)(ns:List Note):fW ws ts (m::ns)=if m.Port∈ts then ji ws m::fW ws ts ns else fW ws ts ns:=by
 simp_all [fW,List.map_cons,List.filter_cons,hG,if_pos,decide_eq_true,if_neg]
theorem xF {ws:List ak}{ts:List Int}{j:Int}(hj:0<=bY ws j)(h0:0<j):∀ (ns:List Note),(∀n∈ns,n.ak=j->n.Port∈ts)->cN (fW ws ts ns) j=cN ns j
 | [],_=>rfl
 | m::ns,hl=>by
  have ih:=xF hj h0 ns (fun n hn=>hl n (List.mem_cons_of_mem _ hn))
  have hf:=hG ws m
  rw [uD]
  unfold cN at ih ⊢
  by_cases e:m.ak=j
  .simp_all [ji,if_neg,if_pos,List.mem_cons_self,List.countP_cons]
  grind
theorem Ak (ws:List ak)(ts:List Int)(q:Int):∀ (ns:List Note),fk (fW ws ts ns) q<=fk ns q
 | []=>Nat.le_refl _
 | m::ns=>by
  have ih:=Ak ws ts q ns
  have hf:=hG ws m
  rw [uD]
  unfold fk at ih ⊢
  have e:(ji ws m).Port=m.Port:=hf.1
  split
  .rw [List.filter_cons,List.filter_cons,e];split <;> simp <;> omega
  rw [List.filter_cons];split <;> simp <;> omega
def sw (r:aA)(ids:List Int):aA:=⟨ids.foldl without r.aj,(eL r).Things,(eL r).Held,(eL r).Notes,r.ag,r.ai⟩
theorem lD {r:aA}{t:av}:t∈(eL r).Things↔t∈r.Things/\t.ID∈a8 r.aj:=by
 show t∈r.Things.filter _↔_
 grind
theorem wC {r:aA}{h:Held}:h∈(eL r).Held↔h∈r.Held /\ ∃w∈r.aj,w.ID=h.ak:=by
 show h∈r.Held.filter _↔_
 grind [jk]
theorem Pre.sw {r:aA}(h:Pre r){ids:List Int}(hl:∀j∈mT r,j∈ids):Pre (YtnmpibjlnninjaaGreatDoor.sw r ids):=by
 have hsub:∀w∈ids.foldl without r.aj,(∃y∈r.aj,Like w y)/\¬ w.ID∈ids:=fun w hw=>xE ids r.aj w hw
 have Al:∀n∈(eL r).Notes,∃m∈r.Notes,n=ji r.aj m/\m.Port∈a8 r.aj:=fun n hn=>tr.1 hn
 refine { tree:=uC ids _ h.tree,good:=D7 _ h.good,sf:=?_,nM:=h.nM,pI:=h.pI,oF:=h.oF,oG:=h.oG,iu:=h.iu.filter _,wA:=fun t ht=>h.wA t (lD.1 ht).1,iL:=fun t ht=>h.iL t (lD.1 ht).1,iM:=fun t ht=>h.iM t (lD.1 ht).1,ia:=Nat.le_trans (List.length_filter_le _ _) h.ia,thing:=?_,port:=?_,jN:=?_,wait:=fun q=>Nat.le_trans (Ak _ _ q _) (h.wait q),iN:=?_,once:=?_}
 .
  intro w hw
  obtain ⟨⟨y,hy,hk⟩,_⟩:=hsub w hw
  rw [hk.id];exact h.sf y hy
 .
  intro w hw
  obtain ⟨⟨y,hy,hk⟩,_⟩:=hsub w hw
  obtain ⟨t,ht,e⟩:=h.thing y hy
  exact ⟨t,lD.2 ⟨ht,(km h.tree).2 ⟨y,hy,e.symm⟩⟩,by rw [e,hk.th]⟩
 .
  intro n hn
  obtain ⟨m,hm,rfl,hp⟩:=Al n hn
  obtain ⟨t,ht,e,hk⟩:=h.port m hm
  exact ⟨t,lD.2 ⟨ht,au⟩,by grind [hG],hk⟩
 .
  intro n hn
  obtain ⟨m,hm,rfl,hp⟩:=Al n hn
  rw [(hG _ m).2.1,(hG _ m).2.2.1];exact h.jN m hm
 .
  intro n hn
  obtain ⟨m,hm,rfl,hp⟩:=Al n hn
  have:=h.iN m hm
  grind [hG]
 intro w hw
 obtain ⟨⟨y,hy,hk⟩,hn⟩:=hsub w hw
 have YO:0<=bY r.aj w.ID:=jk.2 ⟨y,hy,hk.id.symm⟩
 have h0:0<w.ID:=by have:=(h.tree.mem hy).id1;rw [hk.id];omega
 have h1:cH (eL r).Held w.ID=cH r.Held w.ID:=by
  show List.countP _ (r.Held.filter _)=List.countP _ r.Held
  rw [List.countP_filter]
  grind
 have h2:cN (eL r).Notes w.ID=cN r.Notes w.ID:=xF YO h0 r.Notes (fun n hnn e=>by
  by_cases hp:n.Port∈a8 r.aj
  .omega
  refine absurd (hl w.ID (D8.2 ⟨n,hnn,?_,hp,h0⟩)) hn
  simp_all [ji,if_neg])
 show cH (eL r).Held w.ID+cN (eL r).Notes w.ID=1
 rw [h1,h2,hk.id];exact h.once y hy
theorem F4 {r:aA}(h:Pre r)(hl:(mT r).length=0):Inv (eL r):=by
 have h1:Pre (eL r):=h.sw (ids:=[]) (fun j hj=>by grind)
 refine { toPre:=h1,gB:=?_,eD:=fun x hx=>(wC.1 hx).2,used:=fun t ht=>(km h.tree).1 (lD.1 ht).2}
 intro n hn h0
 obtain ⟨m,hm,rfl,hp⟩:=tr.1 hn
 rcases (hG r.aj m).2.2.2 with ⟨e,hf⟩ | e
 .rw [e];exact jk.1 hf
 omega
theorem vB:∀ (n:Nat) (r:aA),r.Notes.length<n->Pre r->Inv (fY n r)
 | 0,r,h,_=>by omega
 | n+1,r,h,hp=>by
  unfold fY;split
  .exact F4 hp af
  have:=oz (r:=r) af
  exact vB n _ ae (hp.sw (ids:=mT r) (fun j hj=>hj))
theorem uE {r:aA}(h:Pre r):Inv (dF r):=vB _ r (Nat.lt_succ_self _) h
theorem vC:∀ (n:Nat) (r:aA),(∀x∈(fY n r).Held,x∈r.Held)/\(∀v∈(fY n r).aj,∃w∈r.aj,Like v w)/\(∀t∈(fY n r).Things,t∈r.Things)/\(∀m∈(fY n r).Notes,∃k∈r.Notes,m.Port=k.Port/\m.Data=k.Data/\m.aO=k.aO/\(m.ak=k.ak∨m.ak=0))
 | 0,r=>⟨fun x hx=>(wC.1 hx).1,fun v hv=>⟨v,hv,Like.refl v⟩,fun t ht=>(lD.1 ht).1,fun m hm=>by
  obtain ⟨k,hk,rfl,_⟩:=tr.1 hm
  grind [hG]⟩
 | n+1,r=>by
  have hs:∀m∈(eL r).Notes,∃k∈r.Notes,m.Port=k.Port/\m.Data=k.Data/\m.aO=k.aO/\(m.ak=k.ak∨m.ak=0):=fun m hm=>by
   obtain ⟨k,hk,rfl,_⟩:=tr.1 hm
   grind [hG]
  unfold fY;split
  .exact ⟨fun x hx=>(wC.1 hx).1,fun v hv=>⟨v,hv,Like.refl v⟩,fun t ht=>(lD.1 ht).1,hs⟩
  obtain ⟨h1,h2,h3,h4⟩:=vC n (kf r)
  refine ⟨fun x hx=>(wC.1 (h1 x hx)).1,fun v hv=>?_,fun t ht=>(lD.1 (h3 t ht)).1,fun m hm=>?_⟩
  .
   obtain ⟨w,hw,hl⟩:=h2 v hv
   obtain ⟨⟨y,hy,hl2⟩,_⟩:=xE _ _ w hw
   exact ⟨y,hy,hl.trans hl2⟩
  obtain ⟨k,hk,a,b,c,d⟩:=h4 m hm
  obtain ⟨k',hk',a',b',c',d'⟩:=hs k hk
  grind
theorem Am (r:aA):(∀x∈(dF r).Held,x∈r.Held)/\(∀v∈(dF r).aj,∃w∈r.aj,Like v w)/\(∀t∈(dF r).Things,t∈r.Things)/\(∀m∈(dF r).Notes,∃k∈r.Notes,m.Port=k.Port/\m.Data=k.Data/\m.aO=k.aO/\(m.ak=k.ak∨m.ak=0)):=vC _ r
section
theorem gP {r:aA}{p:Place}(h:eG r p=0):aY p=0/\lY r.Held p=0:=by
 unfold eG at h
 omega
theorem kR {l:List Held}{p:Place}{id:Int}(hg:Good l)(h:lY l p=0)(hi:id≠0){x:Held}:x∈eY l p id↔x=⟨p,id⟩∨x∈l:=by
 obtain ⟨A,B,e,e2⟩:=Hz hg h hi
 grind
theorem D9 {l:List Held}{p:Place}{w:Int}(hg:Good l)(h:lY l p=w)(hw:w≠0){x:Held}(hx:x∈eY l p 0):x∈l:=by
 obtain ⟨A,B,e,e2⟩:=BR hg h hw
 grind
section
variable {r:aA}
theorem Inv.get (h:Inv r){p:Place}(hg:(aL r p).2=0):aY p=0/\(aL r p).1∈r.aj/\(aL r p).1.ID=lY r.Held p/\1<=(aL r p).1.ID/\(aL r p).1.ID<r.ag:=by
 obtain ⟨h1,h2,h3⟩:=qG hg
 exact ⟨h1,h2,h3,(h.tree.mem h2).id1,h.sf _ h2⟩
theorem Inv.fresh (h:Inv r):cH r.Held r.ag=0/\cN r.Notes r.ag=0:=by
 constructor
 .
  refine List.countP_eq_zero.2 fun x hx=>?_
  obtain ⟨w,hw,e⟩:=h.eD x hx
  have:=h.sf w hw
  grind
 refine List.countP_eq_zero.2 fun x hx=>?_
 have h0:=h.iN x hx;have h1:=h.nM
 by_cases hp:0<x.ak
 .
  obtain ⟨w,hw,e⟩:=h.gB x hx hp
  have:=h.sf w hw
  grind
 grind
theorem Ao {l:List ak}{w:ak}(h:cb l)(hw:cI w=0)(hlt:∀y∈l,y.ID<w.ID)(hm:w.From≠0 -> ∃y∈l,Made y w):cb (l++[w]):=by
 have hi:=h.is
 refine uv.ok' ⟨fun x hx=>?_,List.pairwise_append.2 ⟨hi.rise,bC,fun a ha b hb=>by grind⟩,fun x hx h0=>?_⟩
 .
  rcases List.mem_append.1 hx with hx|hx
  .exact hi.ok x hx
  grind
 rcases List.mem_append.1 hx with hx|hx
 .
  obtain ⟨y,hy,hmd⟩:=hi.made x hx h0
  grind
 grind
theorem xG {p:Place}{kind:Int}(h:(cQ r p kind).2=0):(kind=1∨kind=2)/\eG r p=0/\r.Things.length≠10/\r.ai<=999/\r.ag<=999 /\
 (0<p.aB->(cQ r p kind).1=⟨r.aj++[⟨r.ag,r.ai,7,0,0⟩],r.Things++[⟨r.ai,kind,⟨#[]⟩⟩],eY r.Held p r.ag,r.Notes,r.ag+1,r.ai+1⟩):=by
 unfold cQ at h ⊢
 by_cases h1:kind=1∨kind=2
 .
  rw [if_pos h1] at h ⊢
  by_cases h2:eG r p=0
  .
   rw [if_pos h2] at h ⊢
   by_cases h3:r.Things.length=10∨999<r.ai∨999<r.ag
   .grind
   simp_all [jH,if_neg,if_pos]
  grind
 grind
theorem Inv.make (h:Inv r){p:Place}{kind:Int}(hm:(cQ r p kind).2=0):Inv (cQ r p kind).1:=by
 obtain ⟨hk,hf,hl,ht,hw,he⟩:=xG hm
 obtain ⟨hp,ha⟩:=gP hf
 have hpl:=bG hp
 rw [he ae]
 have n1:=h.nM;have n2:=h.oF;have hfr:=h.fresh;have hmax:=h.ia
 have hi:r.ag≠0:=ae
 have WW:=kQ (id:=r.ag) h.good hp
 refine { tree:=Ao h.tree (ow au) (fun y hy=>h.sf y hy) (fun h0=>absurd rfl h0),good:=WW,sf:=?_,nM:=by grind,pI:=by grind,oF:=by grind,oG:=by grind,iu:=List.pairwise_append.2 ⟨h.iu,bC,fun a ha b hb=>by simp at hb;subst hb;exact (h.wA a ha).2⟩,wA:=?_,iL:=?_,iM:=?_,ia:=by grind,thing:=?_,port:=?_,jN:=h.jN,wait:=h.wait,iN:=h.iN,once:=?_,gB:=?_,eD:=?_,used:=?_}
 .
  intro w hw
  show w.ID<r.ag+1
  rcases List.mem_append.1 hw with hw|hw
  .have:=h.sf w hw;omega
  grind
 .
  intro t ht
  show 1<=t.ID/\t.ID<r.ai+1
  rcases List.mem_append.1 ht with ht|ht
  .have:=h.wA t ht;omega
  grind
 .
  intro t ht
  rcases List.mem_append.1 ht with ht|ht
  .exact h.iL t ht
  grind
 .
  intro t ht
  rcases List.mem_append.1 ht with ht|ht
  .exact h.iM t ht
  rw [List.mem_singleton.1 ht];exact ⟨by show (0:Nat)<=8;decide,fun _=>rfl⟩
 .
  intro w hw
  rcases List.mem_append.1 hw with hw|hw
  .
   obtain ⟨t,ht,e⟩:=h.thing w hw
   grind
  simp_all
 .
  intro n hn
  obtain ⟨t,ht,e⟩:=h.port n hn
  grind
 .
  intro w hw
  show cH (eY r.Held p r.ag) w.ID+cN r.Notes w.ID=1
  rw [BS h.good ha hi]
  rcases List.mem_append.1 hw with hw|hw
  .
   have:=h.sf w hw;have:=h.once w hw
   grind
  grind
 .
  intro n hn h0
  obtain ⟨w,hw,e⟩:=h.gB n hn h0
  grind
 .
  intro x hx
  rcases (kR h.good ha hi).1 hx with e|hx
  .simp_all
  obtain ⟨w,hw,e⟩:=h.eD x hx
  grind
 intro t ht
 rcases List.mem_append.1 ht with ht|ht
 .
  obtain ⟨w,hw,e⟩:=h.used t ht
  grind
 simp_all
theorem xH {p t:Place}{a b:Int}(h:(dA r p t a b).2=0):(aL r p).2=0/\eG r t=0/\(p.aB=t.aB∨gj (aL r p).1.Rights 4=true)/\r.ag<=999/\(derived (aL r p).1 r.ag a b).2=0 /\
 (0<t.aB->(dA r p t a b).1=⟨r.aj++[(derived (aL r p).1 r.ag a b).1],r.Things,eY r.Held t (derived (aL r p).1 r.ag a b).1.ID,r.Notes,r.ag+1,r.ai⟩):=by
 unfold dA at h ⊢
 by_cases h1:(aL r p).2=0
 .
  rw [if_pos h1] at h ⊢
  by_cases h2:eG r t=0
  .
   rw [if_pos h2] at h ⊢
   by_cases h3:p.aB=t.aB∨gj (aL r p).1.Rights 4=true
   .
    rw [if_pos h3] at h ⊢
    by_cases h4:999<r.ag
    .grind
    rw [if_neg h4] at h ⊢
    by_cases h5:(derived (aL r p).1 r.ag a b).2=0
    .simp_all [jH,if_pos]
    grind
   grind
  grind
 grind
theorem Inv.derive (h:Inv r){g:ak}(hg:g∈r.aj){a b:Int}(hn:r.ag<=999)(hd:(derived g r.ag a b).2=0):cb (r.aj++[(derived g r.ag a b).1])/\(derived g r.ag a b).1.ID=r.ag/\(derived g r.ag a b).1.av=g.av/\(derived g r.ag a b).1.Rights=a/\(derived g r.ag a b).1.From=g.ID/\gj g.Rights a=true/\0<=a/\a<=7:=by
 obtain ⟨a0,a7,b0,b9,hh,e,hb⟩:=lC hd
 have w:=h.tree.mem hg
 have w1:=w.id1;have w2:=w.Tk;have w3:=w.Tl;have w4:=w.Tm;have w5:=w.Tn;have w6:=h.sf g hg
 rw [e]
 refine ⟨Ao h.tree (ow ⟨au,hn,w2,w3,?_,?_,au,w6,a0,a7⟩) (fun y hy=>h.sf y hy) (fun _=>⟨g,hg,rfl,hh,?_,rfl⟩),rfl,rfl,rfl,rfl,hh,a0,a7⟩
 .grind
 .grind
 grind
theorem Inv.give (h:Inv r){p t:Place}{a b:Int}(hm:(dA r p t a b).2=0):Inv (dA r p t a b).1:=by
 obtain ⟨hg,hf,hr,hw,hd,he⟩:=xH hm
 obtain ⟨hp,ha⟩:=gP hf
 have hpl:=bG hp
 obtain ⟨_,hgm,_⟩:=h.get hg
 obtain ⟨HD,hid,hth,_⟩:=h.derive hgm hw hd
 rw [he ae,hid]
 generalize hx:(derived (aL r p).1 r.ag a b).1=x at *
 have n1:=h.nM;have hfr:=h.fresh
 have hi:r.ag≠0:=ae
 have WW:=kQ (id:=r.ag) h.good hp
 refine { tree:=HD,good:=WW,sf:=?_,nM:=by grind,pI:=by grind,oF:=h.oF,oG:=h.oG,iu:=h.iu,wA:=h.wA,iL:=h.iL,iM:=h.iM,ia:=h.ia,thing:=?_,port:=h.port,jN:=h.jN,wait:=h.wait,iN:=h.iN,once:=?_,gB:=?_,eD:=?_,used:=?_}
 .
  intro w hw
  show w.ID<r.ag+1
  rcases List.mem_append.1 hw with hw|hw
  .have:=h.sf w hw;omega
  grind
 .
  intro w hw
  rcases List.mem_append.1 hw with hw|hw
  .exact h.thing w hw
  rw [List.mem_singleton.1 hw,hth];exact h.thing _ hgm
 .
  intro w hw
  show cH (eY r.Held t r.ag) w.ID+cN r.Notes w.ID=1
  rw [BS h.good ha hi]
  rcases List.mem_append.1 hw with hw|hw
  .
   have:=h.sf w hw;have:=h.once w hw
   grind
  grind
 .
  intro n hn h0
  obtain ⟨w,hw,e⟩:=h.gB n hn h0
  grind
 .
  intro y hy
  rcases (kR h.good ha hi).1 hy with e|hy
  .grind
  obtain ⟨w,hw,e⟩:=h.eD y hy
  grind
 intro t ht
 obtain ⟨w,hw,e⟩:=h.used t ht
 grind
theorem xI {p:Place}{s:Int}(h:(iK r p s).2=0):(aL r p).2=0/\eG r ⟨p.aB,s⟩=0/\(iK r p s).1=⟨r.aj,r.Things,eY (eY r.Held p 0) ⟨p.aB,s⟩ (aL r p).1.ID,r.Notes,r.ag,r.ai⟩:=by
 unfold iK at h ⊢
 grind
theorem Inv.held (h:Inv r){m:List Held}(hg:Good m)(hc:∀w∈r.aj,cH m w.ID=cH r.Held w.ID)(hs:∀x∈m,∃w∈r.aj,w.ID=x.ak):Inv ⟨r.aj,r.Things,m,r.Notes,r.ag,r.ai⟩ :=
 { tree:=h.tree,good:=hg,sf:=h.sf,nM:=h.nM,pI:=h.pI,oF:=h.oF,oG:=h.oG,iu:=h.iu,wA:=h.wA,iL:=h.iL,iM:=h.iM,ia:=h.ia,thing:=h.thing,port:=h.port,jN:=h.jN,wait:=h.wait,iN:=h.iN,once:=fun w hw=>by show cH m w.ID+_=1;rw [hc w hw];exact h.once w hw,gB:=h.gB,eD:=hs,used:=h.used}
theorem Inv.move (h:Inv r){p:Place}{s:Int}(hm:(iK r p s).2=0):Inv (iK r p s).1:=by
 obtain ⟨hg,hf,he⟩:=xI hm
 obtain ⟨hp,ha⟩:=gP hf
 obtain ⟨hpf,hgm,hat,h1,_⟩:=h.get hg
 rw [he]
 have hi:(aL r p).1.ID≠0:=ae
 have hg1:Good (eY r.Held p 0):=kQ h.good hpf
 have hne:¬ (⟨p.aB,s⟩:Place)=p:=fun e=>by grind
 have ha1:lY (eY r.Held p 0) ⟨p.aB,s⟩=0:=by rw [Ai h.good hpf hne];omega
 refine h.held (kQ hg1 hp) (fun w hw=>?_) (fun x hx=>?_)
 .rw [BS hg1 ha1 hi,<- Ri h.good hat.symm hi]
 rcases (kR hg1 ha1 hi).1 hx with e|hx
 .grind
 exact h.eD x (D9 h.good hat.symm hi hx)
theorem Pre.vy (h:Pre r){l:List ak}(ht:cb l)(hs:∀v∈l,∃w∈r.aj,Like v w):Pre ⟨l,r.Things,r.Held,r.Notes,r.ag,r.ai⟩ :=
 { tree:=ht,good:=h.good,sf:=fun v hv=>by obtain ⟨w,hw,k⟩:=hs v hv;rw [k.id];exact h.sf w hw,nM:=h.nM,pI:=h.pI,oF:=h.oF,oG:=h.oG,iu:=h.iu,wA:=h.wA,iL:=h.iL,iM:=h.iM,ia:=h.ia,thing:=fun v hv=>by obtain ⟨w,hw,k⟩:=hs v hv;rw [k.th];exact h.thing w hw,port:=h.port,jN:=h.jN,wait:=h.wait,iN:=h.iN,once:=fun v hv=>by obtain ⟨w,hw,k⟩:=hs v hv;rw [k.id];exact h.once w hw}
theorem Pre.wo (h:Pre r)(id:Int):Pre ⟨without r.aj id,r.Things,r.Held,r.Notes,r.ag,r.ai⟩ :=
 h.vy (h.tree.wo id) (fun v hv=>by grind [fM,wB])
theorem tu {l:List ak}{id:Int}{x:ak}:x∈DX l id↔x∈l/\¬ x.ID∈im id l:=by
 grind [DX]
theorem Lh {l:List ak}(h:cb l){id:Int}{x y:ak}(hi:0<=bY l id)(hx:x∈l)(hy:y∈l)(e:y.ID=x.From)(hb:y.ID∈im id l):x.ID∈im id l:=by
 have h1:=ke hx;have h2:=ke hy
 rw [Af h hi h1]
 rw [Af h hi h2] at hb
 unfold above at hb ⊢
 obtain ⟨x',_,e1,hx',e2⟩:=nI h1
 have:x'=x:=h.inj hx' hx e1
 grind [rZ,List.mem_cons_of_mem]
theorem cb.cut {l:List ak}(h:cb l){id:Int}(hi:0<=bY l id):cb (DX l id):=by
 have hs:=h.is
 refine uv.ok' ⟨fun x hx=>hs.ok x (tu.1 hx).1,hs.rise.filter _,fun x hx h0=>?_⟩
 obtain ⟨h1,h2⟩:=tu.1 hx
 obtain ⟨y,hy,hm⟩:=hs.made x h1 h0
 exact ⟨y,tu.2 ⟨hy,fun hb=>h2 (Lh h hi h1 hy hm.fI hb)⟩,hm⟩
theorem Pre.cut (h:Pre r){id:Int}(hi:0<=bY r.aj id):Pre ⟨DX r.aj id,r.Things,r.Held,r.Notes,r.ag,r.ai⟩ :=
 h.vy (h.tree.cut hi) (fun v hv=>⟨v,(tu.1 hv).1,Like.refl v⟩)
theorem xJ {p:Place}(h:(j5 r p).2=0):(aL r p).2=0/\(j5 r p).1=dF ⟨without r.aj (aL r p).1.ID,r.Things,r.Held,r.Notes,r.ag,r.ai⟩:=by
 unfold j5 at h ⊢
 grind
theorem tv {p:Place}(h:(fA r p).2=0):(aL r p).2=0/\(fA r p).1=dF ⟨DX r.aj (aL r p).1.ID,r.Things,r.Held,r.Notes,r.ag,r.ai⟩:=by
 unfold fA at h ⊢
 grind
theorem Inv.drop (h:Inv r){p:Place}(hm:(j5 r p).2=0):Inv (j5 r p).1:=by
 rw [(xJ hm).2];exact uE (h.toPre.wo _)
theorem Inv.Rm (h:Inv r){p:Place}(hm:(fA r p).2=0):Inv (fA r p).1:=by
 obtain ⟨hg,he⟩:=tv hm
 rw [he];exact uE (h.toPre.cut (ke (h.get hg).2.1))
theorem mem_set {l:List av}{i:Nat}{d:ByteArray}{x:av}(h:x∈fB l i d):∃ (k:Nat) (t:av),l[k]? = some t/\x.ID=t.ID/\x.Kind=t.Kind/\(x.Data=t.Data∨k=i/\x.Data=d):=by
 unfold fB at h
 grind [List.mem_iff_getElem?]
theorem HE {l:List av}{i:Nat}{d:ByteArray}{t:av}(h:t∈l):∃x∈fB l i d,x.ID=t.ID/\x.Kind=t.Kind:=by
 unfold fB
 split
 .
  rename_i y hy
  obtain ⟨k,hk⟩:=List.mem_iff_getElem?.1 h
  by_cases e:i=k
  .grind [List.mem_set,List.getElem?_eq_some_iff]
  exact ⟨t,List.mem_of_getElem? (i:=k) au,rfl,rfl⟩
 grind
theorem N9 (l:List av)(i:Nat)(d:ByteArray):(fB l i d).map av.ID=l.map av.ID:=by
 unfold fB
 split
 .
  rename_i t ht
  rw [List.map_set]
  apply List.ext_getElem?
  grind
 rfl
theorem vD {p:Place}{d:ByteArray}(h:(fD r p d).2=0):(bJ r p 1 2).2.2=0/\d.size<=8/\(fD r p d).1=⟨r.aj,fB r.Things (bJ r p 1 2).2.1.toNat d,r.Held,r.Notes,r.ag,r.ai⟩:=by
 unfold fD at h ⊢
 grind
theorem Inv.write (h:Inv r){p:Place}{d:ByteArray}(hm:(fD r p d).2=0):Inv (fD r p d).1:=by
 obtain ⟨hy,hd,he⟩:=vD hm
 obtain ⟨_,_,_,k,t,hk,ht,YP,htk,_⟩:=kj hy
 rw [he,hk,Int.toNat_natCast]
 have YQ:=N9 r.Things k d
 have hin:∀x∈fB r.Things k d,∃y∈r.Things,x.ID=y.ID/\x.Kind=y.Kind:=fun x hx=>by
  grind [mem_set,List.mem_of_getElem?]
 refine { tree:=h.tree,good:=h.good,sf:=h.sf,nM:=h.nM,pI:=h.pI,oF:=h.oF,oG:=h.oG,iu:=?_,wA:=?_,iL:=?_,iM:=?_,ia:=by show (fB _ _ _).length<=10;rw [vz];exact h.ia,thing:=?_,port:=?_,jN:=h.jN,wait:=h.wait,iN:=h.iN,once:=h.once,gB:=h.gB,eD:=h.eD,used:=?_}
 .
  have h1:(r.Things.map av.ID).Pairwise (· < ·):=List.pairwise_map.2 h.iu
  grind
 .intro x hx;obtain ⟨y,hy,a,b⟩:=hin x hx;show 1<=x.ID/\x.ID<r.ai;rw [a];exact h.wA y hy
 .intro x hx;obtain ⟨y,hy,a,b⟩:=hin x hx;rw [b];exact h.iL y hy
 .
  intro x hx
  obtain ⟨j,y,hj,a,b,c⟩:=mem_set hx
  have:=h.iM y (List.mem_of_getElem? hj)
  grind
 .
  intro w hw
  obtain ⟨t',ht',e⟩:=h.thing w hw
  obtain ⟨x,hx,a,_⟩:=HE (i:=k) (d:=d) ht'
  grind
 .
  intro n hn
  obtain ⟨t',ht',e,e2⟩:=h.port n hn
  obtain ⟨x,hx,a,b⟩:=HE (i:=k) (d:=d) ht'
  grind
 intro x hx;obtain ⟨y,hy,a,b⟩:=hin x hx;rw [a];exact h.used y hy
end
end
section
section
variable {r:aA}
theorem Ap (ns:List Note)(n:Note)(q:Int):fk (ns++[n]) q=fk ns q+(if n.Port=q then 1 else 0):=by
 unfold fk;grind
theorem HG (ns:List Note)(n:Note)(j:Int):cN (ns++[n]) j=cN ns j+(if n.ak=j then 1 else 0):=by
 simp_all [cN,List.countP_append,List.countP_cons,if_pos,if_neg]
theorem qM {p:Place}{k q:Int}(h:(bJ r p k q).2.2=0):(aL r p).2=0/\(bJ r p k q).1=(aL r p).1/\gj (aL r p).1.Rights q=true /\ ∃t∈r.Things,t.ID=(aL r p).1.av/\t.Kind=k:=by
 grind [kj,List.mem_of_getElem?]
theorem xK {p:Place}{d:ByteArray}{s a:Int}(h:(cW r p d s a).2=0):(bJ r p 2 2).2.2=0/\d.size<=8/\fk r.Notes (aL r p).1.av≠3 /\
 (s<0/\(cW r p d s a).1=⟨r.aj,r.Things,r.Held,r.Notes++[⟨(aL r p).1.av,d,(aL r p).1.aO,0⟩],r.ag,r.ai⟩ ∨
  0<=s/\gj (aL r p).1.Rights 4=true/\(aL r ⟨p.aB,s⟩).2=0/\r.ag<=999/\(derived (aL r ⟨p.aB,s⟩).1 r.ag a 0).2=0 /\
  (cW r p d s a).1=⟨r.aj++[(derived (aL r ⟨p.aB,s⟩).1 r.ag a 0).1],r.Things,r.Held,r.Notes++[⟨(aL r p).1.av,d,(aL r p).1.aO,(derived (aL r ⟨p.aB,s⟩).1 r.ag a 0).1.ID⟩],r.ag+1,r.ai⟩):=by
 unfold cW at h ⊢
 by_cases h1:(bJ r p 2 2).2.2=0
 .
  have he:=(qM h1).2.1
  rw [if_pos h1] at h ⊢
  by_cases h2:8<d.size
  .grind
  rw [if_neg h2] at h ⊢
  by_cases h3:fk r.Notes (bJ r p 2 2).1.av=3
  .grind
  grind
 grind
theorem Inv.send (h:Inv r){p:Place}{d:ByteArray}{s a:Int}(hm:(cW r p d s a).2=0):Inv (cW r p d s a).1:=by
 obtain ⟨hy,hd,h3,hc⟩:=xK hm
 obtain ⟨hg,_,_,t,ht,hti,htk⟩:=qM hy
 obtain ⟨_,hgm,_⟩:=h.get hg
 have hw:=h.tree.mem hgm
 have XZ:∀q,fk r.Notes q+(if (aL r p).1.av=q then 1 else 0)<=3:=fun q=>by
  have:=h.wait q
  grind
 have Al:∀ (k:Int) (n:Note),n∈r.Notes++[⟨(aL r p).1.av,d,(aL r p).1.aO,k⟩] -> ∃t∈r.Things,t.ID=n.Port/\t.Kind=2:=fun k n hn=>by
  rcases List.mem_append.1 hn with hn|hn
  .exact h.port n hn
  grind
 have hnd:∀ (k:Int) (n:Note),n∈r.Notes++[⟨(aL r p).1.av,d,(aL r p).1.aO,k⟩]->n.Data.size<=8/\0<=n.aO/\n.aO<=99:=fun k n hn=>by
  rcases List.mem_append.1 hn with hn|hn
  .exact h.jN n hn
  rw [List.mem_singleton.1 hn];exact ⟨hd,hw.Tm,hw.Tn⟩
 rcases hc with ⟨h4,he⟩ | ⟨h4,h5,h6,h7,h8,he⟩
 .
  rw [he]
  refine { tree:=h.tree,good:=h.good,sf:=h.sf,nM:=h.nM,pI:=h.pI,oF:=h.oF,oG:=h.oG,iu:=h.iu,wA:=h.wA,iL:=h.iL,iM:=h.iM,ia:=h.ia,thing:=h.thing,port:=Al 0,jN:=hnd 0,wait:=fun q=>?_,iN:=?_,once:=?_,gB:=?_,eD:=h.eD,used:=h.used}
  .grind [Ap]
  .
   intro n hn
   rcases List.mem_append.1 hn with hn|hn
   .exact h.iN n hn
   grind
  .
   intro w hw
   show cH r.Held w.ID+cN (r.Notes++[_]) w.ID=1
   have:=h.once w hw;have:=(h.tree.mem hw).id1
   rw [HG,if_neg au];omega
  intro n hn h0
  rcases List.mem_append.1 hn with hn|hn
  .exact h.gB n hn h0
  grind
 obtain ⟨_,Uj,_⟩:=h.get h6
 obtain ⟨HD,hid,hth,_⟩:=h.derive Uj h7 h8
 rw [he]
 generalize hx:(derived (aL r ⟨p.aB,s⟩).1 r.ag a 0).1=x at *
 have n1:=h.nM;have hfr:=h.fresh
 refine { tree:=HD,good:=h.good,sf:=?_,nM:=by grind,pI:=by grind,oF:=h.oF,oG:=h.oG,iu:=h.iu,wA:=h.wA,iL:=h.iL,iM:=h.iM,ia:=h.ia,thing:=?_,port:=Al x.ID,jN:=hnd x.ID,wait:=fun q=>?_,iN:=?_,once:=?_,gB:=?_,eD:=?_,used:=?_}
 .
  intro w hw
  show w.ID<r.ag+1
  rcases List.mem_append.1 hw with hw|hw
  .have:=h.sf w hw;omega
  grind
 .
  intro w hw
  rcases List.mem_append.1 hw with hw|hw
  .exact h.thing w hw
  rw [List.mem_singleton.1 hw,hth];exact h.thing _ Uj
 .grind [Ap]
 .
  intro n hn
  rcases List.mem_append.1 hn with hn|hn
  .exact h.iN n hn
  grind
 .
  intro w hw
  show cH r.Held w.ID+cN (r.Notes++[_]) w.ID=1
  rw [HG];dsimp only
  rcases List.mem_append.1 hw with hw|hw
  .
   have:=h.sf w hw;have:=h.once w hw
   grind
  grind
 .
  intro n hn h0
  rcases List.mem_append.1 hn with hn|hn
  .
   obtain ⟨w,hw,e⟩:=h.gB n hn h0
   grind
  grind
 .
  intro y hy
  obtain ⟨w,hw,e⟩:=h.eD y hy
  grind
 intro t ht
 obtain ⟨w,hw,e⟩:=h.used t ht
 grind
theorem xL {p:Place}(h:(dD r p).2.2.2=0):(bJ r p 2 1).2.2=0 /\ ∃ (i:Nat) (n:Note),r.Notes[i]? = some n/\n.Port=(aL r p).1.av/\(∀ (j:Nat) y,j<i->r.Notes[j]? = some y->¬ y.Port=(aL r p).1.av)/\(dD r p).2.1=n /\
 (0<n.ak/\0<=fj r.Held p.aB/\(dD r p).2.2.1=fj r.Held p.aB/\(dD r p).1=⟨r.aj,r.Things,eY r.Held ⟨p.aB,fj r.Held p.aB⟩ n.ak,uz r.Notes i,r.ag,r.ai⟩ ∨
  n.ak<=0/\(dD r p).2.2.1 = -1/\(dD r p).1=⟨r.aj,r.Things,r.Held,uz r.Notes i,r.ag,r.ai⟩):=by
 unfold dD at h ⊢
 by_cases h1:(bJ r p 2 1).2.2=0
 .
  have he:=(qM h1).2.1
  rw [if_pos h1] at h ⊢
  rw [he] at h ⊢
  rcases jz (fun n:Note=>n.Port==(aL r p).1.av) r.Notes with ⟨hf,hn⟩ | ⟨i,n,hf,hn,hp,hb,_⟩
  .grind
  grind
 grind
theorem free_at {l:List Held}{h:Int}(hf:0<=fj l h):fj l h<=5/\lY l ⟨h,fj l h⟩=0:=by
 grind [free_spec]
theorem F5 {p:Place}{k:Int}(h:aY p=0)(h0:0<=k)(h5:k<=5):aY ⟨p.aB,k⟩=0:=by
 grind [aY,bG]
theorem Inv.notes (h:Inv r){m:List Held}{ns:List Note}(hg:Good m)(hc:∀w∈r.aj,cH m w.ID+cN ns w.ID=1)(hs:∀x∈m,∃w∈r.aj,w.ID=x.ak)(hn:∀n∈ns,n∈r.Notes)(hw:∀q,fk ns q<=fk r.Notes q):Inv ⟨r.aj,r.Things,m,ns,r.ag,r.ai⟩ :=
 { tree:=h.tree,good:=hg,sf:=h.sf,nM:=h.nM,pI:=h.pI,oF:=h.oF,oG:=h.oG,iu:=h.iu,wA:=h.wA,iL:=h.iL,iM:=h.iM,ia:=h.ia,thing:=h.thing,port:=fun n k=>h.port n (hn n k),jN:=fun n k=>h.jN n (hn n k),wait:=fun q=>Nat.le_trans (hw q) (h.wait q),iN:=fun n k=>h.iN n (hn n k),once:=hc,gB:=fun n k=>h.gB n (hn n k),eD:=hs,used:=h.used}
theorem Inv.take (h:Inv r){p:Place}(hm:(dD r p).2.2.2=0):Inv (dD r p).1:=by
 obtain ⟨hy,i,n,hn,hp,hb,_,hc⟩:=xL hm
 obtain ⟨hg,_⟩:=qM hy
 obtain ⟨hpf,_⟩:=h.get hg
 have hcut:=fun j=>Rl hn j
 have hsub:∀x∈uz r.Notes i,x∈r.Notes:=fun x hx=>N8 hx
 rcases hc with ⟨h0,hf,_,he⟩ | ⟨h0,_,he⟩
 .
  rw [he]
  obtain ⟨h5,ha⟩:=free_at hf
  have hi:n.ak≠0:=ae
  have hq:=F5 hpf hf h5
  refine h.notes (kQ h.good hq) (fun w hw=>?_) (fun x hx=>?_) hsub (fun q=>Aj q)
  .
   rw [BS h.good ha hi]
   have h1:=h.once w hw;grind
  rcases (kR h.good ha hi).1 hx with e|hx
  .rw [e];exact h.gB n (List.mem_of_getElem? hn) h0
  exact h.eD x hx
 rw [he]
 refine h.notes h.good (fun w hw=>?_) h.eD hsub (fun q=>Aj q)
 have h1:=h.once w hw;have h2:=hcut w.ID;have h3:=(h.tree.mem hw).id1
 grind
theorem Inv.do (h:Inv r){a:eU}(hm:(cJ r a).2=0):Inv (cJ r a).1:=by
 unfold cJ at hm ⊢
 by_cases h1:a.Kind=(⟨#[109,97,107,101]⟩:ByteArray)
 .rw [if_pos h1] at hm ⊢;exact h.make hm
 rw [if_neg h1] at hm ⊢
 by_cases h2:a.Kind=(⟨#[103,105,118,101]⟩:ByteArray)
 .rw [if_pos h2] at hm ⊢;exact h.give hm
 rw [if_neg h2] at hm ⊢
 by_cases h3:a.Kind=(⟨#[109,111,118,101]⟩:ByteArray)
 .rw [if_pos h3] at hm ⊢;exact h.move hm
 rw [if_neg h3] at hm ⊢
 by_cases h4:a.Kind=(⟨#[100,114,111,112]⟩:ByteArray)
 .rw [if_pos h4] at hm ⊢;exact h.drop hm
 rw [if_neg h4] at hm ⊢
 by_cases h5:a.Kind=(⟨#[114,101,118,111,107,101]⟩:ByteArray)
 .rw [if_pos h5] at hm ⊢;exact h.Rm hm
 rw [if_neg h5] at hm ⊢
 by_cases h6:a.Kind=(⟨#[119,114,105,116,101]⟩:ByteArray)
 .rw [if_pos h6] at hm ⊢;exact h.write hm
 rw [if_neg h6] at hm ⊢
 by_cases h7:a.Kind=(⟨#[115,101,110,100]⟩:ByteArray)
 .rw [if_pos h7] at hm ⊢;exact h.send hm
 rw [if_neg h7] at hm ⊢
 by_cases h8:a.Kind=(⟨#[116,97,107,101]⟩:ByteArray)
 .rw [if_pos h8] at hm ⊢;exact h.take hm
 grind
theorem p9 (h:Inv r):r.Held.length<=24:=Le h.good
end
end
section
section
variable {r:aA}
end
end
section
section
variable {r:aA}
theorem Aq {ws:List ak}{ts:List Int}:∀ {ns:List Note},(∀n∈ns,n.Port∈ts/\ji ws n=n)->fW ws ts ns=ns
 | [],_=>rfl
 | n::ns,h=>by
  obtain ⟨h1,h2⟩:=h n (List.mem_cons_self ..)
  rw [uD,if_pos h1,h2,Aq (fun m hm=>h m (List.mem_cons_of_mem _ hm))]
theorem Jd {ws:List ak}{ts:List Int}{ns:List Note}(h:∀n∈ns,n.Port∈ts):gG ws ts ns=[]:=by
 refine List.eq_nil_iff_forall_not_mem.2 fun j hj=>?_
 grind [D8]
theorem Inv.HI (h:Inv r):∀n∈r.Notes,n.Port∈a8 r.aj:=fun n hn=>by
 obtain ⟨t,ht,e,_⟩:=h.port n hn
 obtain ⟨w,hw,e2⟩:=h.used t ht
 exact (km h.tree).2 ⟨w,hw,ae⟩
theorem Inv.fix (h:Inv r):∀n∈r.Notes,ji r.aj n=n:=fun n hn=>by
 unfold ji;split
 .
  rename_i hf
  have h0:=h.iN n hn
  have:n.ak=0:=by
   by_cases hp:0<n.ak
   .
    obtain ⟨w,hw,e⟩:=h.gB n hn hp
    have:=ke hw;grind
   omega
  cases n;grind
 rfl
theorem F6 (h:Inv r)(T:List av)(H:List Held)(hT:∀t∈T,∀w∈r.aj,w.av≠t.ID)(hH:H.filter (fun h => !decide (bY r.aj h.ak<0))=r.Held)(a b:Int):dF ⟨r.aj,r.Things++T,H,r.Notes,a,b⟩=⟨r.aj,r.Things,r.Held,r.Notes,a,b⟩:=by
 have hl:mT ⟨r.aj,r.Things++T,H,r.Notes,a,b⟩=[]:=Jd h.HI
 rw [mU au]
 unfold eL
 dsimp only
 have h1:(r.Things++T).filter (fun t => !!decide (t.ID∈a8 r.aj))=r.Things:=by
  have k1:r.Things.filter (fun t => !!decide (t.ID∈a8 r.aj))=r.Things:=List.filter_eq_self.2 fun t ht=>by
   obtain ⟨w,hw,e⟩:=h.used t ht
   simp only [Bool.not_not,decide_eq_true_eq]
   exact (km h.tree).2 ⟨w,hw,e⟩
  have k2:T.filter (fun t => !!decide (t.ID∈a8 r.aj))=[]:=List.filter_eq_nil_iff.2 fun t ht=>by
   simp only [Bool.not_not,decide_eq_true_eq]
   intro hm
   obtain ⟨w,hw,e⟩:=(km h.tree).1 hm
   grind
  grind
 rw [h1,hH,Aq (fun n hn=>⟨h.HI n hn,h.fix n hn⟩)]
theorem Inv.Je (h:Inv r){H:List Held}(hs:∀x∈H,x∈r.Held):H.filter (fun h => !decide (bY r.aj h.ak<0))=H :=
 List.filter_eq_self.2 fun x hx=>by
  have:=jk.2 (h.eD x (hs x hx))
  grind
theorem xM (h:Inv r):dF r=r:=by
 have:=F6 h [] r.Held (fun t ht=>by grind) (h.Je (fun x hx=>hx)) r.ag r.ai
 simp_all
theorem Rn {l:List Held}{x y:Held}(hx:x∈l)(hy:y∈l)(e:x.ak=y.ak)(h:cH l x.ak<=1):x=y:=by
 obtain ⟨A,B,rfl⟩:=List.append_of_mem hx
 unfold cH at h
 rw [List.countP_append,List.countP_cons,if_pos bC] at h
 grind [List.countP_pos_iff]
theorem Inv.one (h:Inv r){x y:Held}(hx:x∈r.Held)(hy:y∈r.Held)(e:x.ak=y.ak):x=y:=by
 obtain ⟨w,hw,e2⟩:=h.eD x hx
 have:=h.once w hw
 grind [Rn]
end
end
section
section
variable {r:aA}
theorem qa:∀ (ns:List Note) (l:List ak),cb l->cb (fE ns l)
 | [],l,h=>h
 | n::ns,l,h=>by
  show cb (fE ns (if 0<n.ak then without l n.ak else l))
  refine qa ns _ ?_
  split
  .exact h.wo _
  exact h
theorem xO:∀ (ns:List Note) (l:List ak) (w:ak),w∈fE ns l->(∃y∈l,Like w y) /\ ∀n∈ns,0<n.ak->w.ID≠n.ak
 | [],l,w,h=>⟨⟨w,h,Like.refl w⟩,fun n hn=>by grind⟩
 | n::ns,l,w,h=>by
  obtain ⟨⟨y,hy,hl⟩,hn⟩:=xO ns (if 0<n.ak then without l n.ak else l) w h
  by_cases h0:0<n.ak
  .
   rw [if_pos h0] at hy
   obtain ⟨z,hz,hne,rfl⟩:=fM.1 hy
   refine ⟨⟨z,hz,hl.trans (wB _ _ z)⟩,fun m hm hm0=>?_⟩
   rcases List.mem_cons.1 hm with e|hm
   .rw [e,hl.id,(kE z).1];omega
   grind
  grind
theorem sg:∀ (ns:List Note) (l:List ak) (y:ak),y∈l->(∀n∈ns,0<n.ak->y.ID≠n.ak) -> ∃w∈fE ns l,Like w y
 | [],l,y,h,_=>⟨y,h,Like.refl y⟩
 | n::ns,l,y,h,hn=>by
  by_cases h0:0<n.ak
  .
   obtain ⟨w,hw,k⟩:=sg ns (without l n.ak) (lB n.ak (eC l n.ak) y) (fM.2 ⟨y,h,hn n (List.mem_cons_self ..) h0,rfl⟩) (fun m hm hm0=>by grind [kE,List.mem_cons_of_mem])
   refine ⟨w,?_,k.trans (wB _ _ y)⟩
   simp_all [fE,without,if_pos]
  obtain ⟨w,hw,k⟩:=sg ns l y h (fun m hm hm0=>hn m (List.mem_cons_of_mem _ hm) hm0)
  refine ⟨w,?_,k⟩
  simp_all [fE,without,if_neg]
theorem Li {ns:List Note}{j:Int}(h:cN ns j=0):∀n∈ns,0<n.ak->j≠n.ak:=fun n hn _ e=>by
 grind [Rk]
theorem Inv.Ar (h:Inv r):Pre ⟨fE r.Notes r.aj,r.Things,r.Held,[],r.ag,r.ai⟩:=by
 have hs:=fun w hw=>xO r.Notes r.aj w hw
 refine { tree:=qa _ _ h.tree,good:=h.good,sf:=?_,nM:=h.nM,pI:=h.pI,oF:=h.oF,oG:=h.oG,iu:=h.iu,wA:=h.wA,iL:=h.iL,iM:=h.iM,ia:=h.ia,thing:=?_,port:=fun n hn=>au,jN:=fun n hn=>au,wait:=fun q=>by simp [fk],iN:=fun n hn=>au,once:=?_}
 .intro w hw;obtain ⟨⟨y,hy,k⟩,_⟩:=hs w hw;rw [k.id];exact h.sf y hy
 .intro w hw;obtain ⟨⟨y,hy,k⟩,_⟩:=hs w hw;rw [k.th];exact h.thing y hy
 intro w hw
 obtain ⟨⟨y,hy,k⟩,hn⟩:=hs w hw
 have h1:=h.once y hy
 have h2:cN r.Notes w.ID=0:=List.countP_eq_zero.2 fun n hnn e=>by
  have e:n.ak=w.ID:=au
  have:=(h.tree.mem hy).id1
  exact hn n hnn (by rw [e,k.id];omega) e.symm
 show cH r.Held w.ID+cN [] w.ID=1
 rw [<- k.id] at h1;grind [cN]
theorem uF:∀ (a b:List Int),a.Nodup->(∀x∈a,x∈b)->a.length<=b.length
 | [],b,_,_=>Nat.zero_le _
 | x::a,b,hn,hs=>by
  obtain ⟨h1,h2⟩:=List.nodup_cons.1 hn
  obtain ⟨A,B,rfl⟩:=List.append_of_mem (hs x (List.mem_cons_self ..))
  have:=uF a (A++B) h2 fun y hy=>by
   grind
  grind
theorem Lj (h:Inv r)(hn:r.Notes=[]):r.Held.length=r.aj.length:=by
 have h1:(r.aj.map ak.ID).Nodup:=List.Pairwise.imp (fun h=>Int.ne_of_lt h) (List.pairwise_map.2 h.tree.is.rise)
 have h2:(r.Held.map Held.ak).Nodup:=by
  refine List.pairwise_iff_getElem.2 fun i j hi hj hij e=>?_
  rw [List.length_map] at hi hj
  rw [List.getElem_map,List.getElem_map] at e
  have:=h.one (List.getElem_mem hi) (List.getElem_mem hj) e
  have h3:=List.pairwise_iff_getElem.1 (gA h.good) i j hi hj hij
  grind [xA]
 have a:=uF (r.Held.map Held.ak) (r.aj.map ak.ID) h2 fun x hx=>by
  obtain ⟨y,hy,rfl⟩:=List.mem_map.1 hx
  obtain ⟨w,hw,e⟩:=h.eD y hy
  grind
 have b:=uF (r.aj.map ak.ID) (r.Held.map Held.ak) h1 fun x hx=>by
  obtain ⟨w,hw,rfl⟩:=List.mem_map.1 hx
  have h3:=h.once w hw
  grind [cN,cH,List.countP_pos_iff]
 grind
theorem gq (h:Inv r):Inv (aK r)/\(aK r).Notes=[]/\(aK r).Held=r.Held/\(aK r).Held.length=(aK r).aj.length/\aK (aK r)=aK r:=by
 have hp:=h.Ar
 have hi:Inv (aK r):=uE hp
 have hl:mT ⟨fE r.Notes r.aj,r.Things,r.Held,[],r.ag,r.ai⟩=[]:=rfl
 have hd:aK r=eL ⟨fE r.Notes r.aj,r.Things,r.Held,[],r.ag,r.ai⟩:=mU eF
 have hn:(aK r).Notes=[]:=eF
 refine ⟨hi,hn,?_,Lj hi hn,?_⟩
 .
  rw [hd]
  show r.Held.filter _=r.Held
  refine List.filter_eq_self.2 fun x hx=>?_
  obtain ⟨w,hw,e⟩:=h.eD x hx
  have h1:=h.once w hw;have h2:=Rj hx;rw [<- e] at h2
  obtain ⟨v,hv,k⟩:=sg r.Notes r.aj w hw (Li ae)
  have h3:0<=bY (fE r.Notes r.aj) x.ak:=jk.2 ⟨v,hv,by rw [k.id,e]⟩
  grind
 have hs:=xM hi
 assumption
theorem Ea {k:Nat}(h:Sz k r):Sz k (aK r) :=
 oE _ _ ⟨Nat.le_trans (r6 _ _) h.wl,h.tl,h.hl,Nat.zero_le _,uA _ _ h.ri,h.w0,h.w1,h.t0,h.t1⟩
end
end
section
open Go
theorem oH (a:ByteArray):a.toList=a.data.toList:=Lib.toList_data a
theorem gX {a b:ByteArray}(h:a.data.toList=b.data.toList):a=b:=by
 cases a with|mk x=>simp_all
theorem lE (a b:ByteArray):fR a b=true↔a.data.toList<b.data.toList:=by
 simp_all [fR,Proofs.bytesLess_eq,oH,decide_eq_true_iff]
theorem eQ (a:ByteArray):fR a a=false:=by
 rw [Bool.eq_false_iff];grind [List.lt_irrefl,lE]
theorem lO {a b c:ByteArray}(h:fR a b=true)(k:fR b c=true):fR a c=true:=(lE _ _).2 (List.lt_trans ((lE _ _).1 h) ((lE _ _).1 k))
theorem qN {a b:ByteArray}(h:fR a b=true):fR b a=false:=by
 rw [Bool.eq_false_iff];grind [lO,eQ]
theorem Lk:∀ (x y:List UInt8),x<y∨x=y∨y<x
 | [],[] => .inr (.inl rfl)
 | [],_::_ => .inl (List.Lex.nil)
 | _::_,[] => .inr (.inr (List.Lex.nil))
 | a::x,b::y=>by
  grind
theorem tw (a b:ByteArray):fR a b=true∨a=b∨fR b a=true:=by
 grind [Lk,lE,gX]
theorem Ro {a b:ByteArray}(h:fR a b=false)(hn:a≠b):fR b a=true:=by
 grind [tw]
def BU (a b:ByteArray):Int:=if fR a b=true then -1 else if a=b then 0 else 1
theorem Eb:∀ (x y:List UInt8),Lib.compareBytes x y=if x<y then -1 else if x=y then 0 else 1
 | [],[]=>rfl
 | [],b::y=>by rfl
 | a::x,[]=>by rfl
 | a::x,b::y=>by
  unfold Lib.compareBytes
  rw [Eb x y]
  by_cases h:a<b
  .rw [if_pos h,if_pos (show a::x<b::y from List.Lex.rel h)]
  rw [if_neg h]
  by_cases k:b<a
  .
   have hne:¬ a=b:=fun e=>by grind
   rw [if_pos k,if_neg (fun hh=>by
    cases hh with
    | rel hh=>grind
    | cons _=>grind),if_neg au]
  have e:a=b:=UInt8.toNat_inj.1 au
  simp_all
theorem HQ (a b:ByteArray):Lib.compareBytes a.toList b.toList=BU a b:=by
 rw [Eb,oH,oH];unfold BU
 have e:(a.data.toList=b.data.toList)=(a=b):=propext ⟨gX,fun h=>by rw [h]⟩
 by_cases h:fR a b=true
 .rw [if_pos ((lE _ _).1 h),if_pos h]
 rw [if_neg (fun k=>h ((lE _ _).2 k)),if_neg h];grind
theorem Au {a b:ByteArray}:BU a b=0↔a=b:=by
 unfold BU
 by_cases h:fR a b=true
 .rw [if_pos h];grind [eQ]
 grind
theorem Ec {a b:ByteArray}:BU a b<0↔fR a b=true:=by
 unfold BU
 grind
end
end Go.Proofs.YtnmpibjlnninjaaGreatDoor
