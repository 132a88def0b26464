import Derived.Test.YtkbhcbipadkcaaaGreatDoorTO31
namespace Go.Proofs.YtkbhcbipadkcaaaGreatDoor
set_option linter.unusedVariables false
set_option linter.unusedSimpArgs false
def newR:aD:=⟨[],[],[],[],1,1⟩
def cR (r:aD)(a:ej):aD×Int :=
  if a.Kind=(⟨#[109,97,107,101]⟩:ByteArray) then dV r a.P a.A
  else if a.Kind=(⟨#[103,105,118,101]⟩:ByteArray) then fq r a.P a.Q a.A a.B
  else if a.Kind=(⟨#[109,111,118,101]⟩:ByteArray) then jk r a.P a.A
  else if a.Kind=(⟨#[100,114,111,112]⟩:ByteArray) then jK r a.P
  else if a.Kind=(⟨#[114,101,118,111,107,101]⟩:ByteArray) then ff r a.P
  else if a.Kind=(⟨#[119,114,105,116,101]⟩:ByteArray) then fX r a.P a.S
  else if a.Kind=(⟨#[115,101,110,100]⟩:ByteArray) then dO r a.P a.S a.A a.B
  else if a.Kind=(⟨#[116,97,107,101]⟩:ByteArray) then ((eC r a.P).1,(eC r a.P).2.2.2)
  else (r,0)
def SZ (r:aD)(a:ej):aD:=if (cR r a).2=0 then (cR r a).1 else r
def grow (l:List ej):aD:=l.foldl SZ newR
theorem tj {w:ap}{id r b:Int}(h:(derived w id r b).2=0):0<=r/\r<=7/\0<=b/\b<=99/\jh w.Rights r=true/\(derived w id r b).1=⟨id,w.aE,r,if b=0 then w.aN else b,w.ID⟩/\(w.aN=0\/b=0\/b=w.aN):=by
 revert h
 rcases hY r with ⟨h1,h2⟩ | ⟨h1,h2⟩
 .unfold derived;rw [if_pos h1];intro h;simp at h
 .
  unfold derived;rw [if_neg (by rw [h1];decide)]
  by_cases hb:b<0
  .rw [if_pos hb];intro h;simp at h
  .
   rw [if_neg hb]
   by_cases hb2:99<b
   .rw [if_pos hb2];intro h;simp at h
   .
    rw [if_neg hb2]
    cases hr:jh w.Rights r with
    | false=>rw [if_pos rfl];intro h;simp at h
    | true =>
     rw [if_neg (by decide)]
     by_cases hc:b≠0/\w.aN≠0/\b≠w.aN
     .rw [if_pos hc];intro h;simp at h
     .rw [if_neg hc];intro h;exact ⟨h2.1,h2.2,by omega,by omega,rfl,rfl,by omega⟩
theorem xS {w:ap}{id r b:Int}(h:(derived w id r b).2=0):0<=(derived w id r b).1.Rights/\(derived w id r b).1.Rights<=7:=by
 have:=tj h;rw [this.2.2.2.2.2.1];exact ⟨this.1,this.2.1⟩
structure Sz (k:Nat)(r:aD):Prop where
  wl:r.aj.length<=k
  tl:r.Things.length<=k
  hl:r.Held.length<=2*k
  nl:r.Notes.length<=k
  ri:∀w∈r.aj,0<=w.Rights/\w.Rights<=7
  w0:0<=r.ae
  w1:r.ae<=1000
  t0:0<=r.ah
  t1:r.ah<=1000
theorem Sz.ok {k:Nat}{r:aD}(h:Sz k r)(hk:k<=1000):Ok r:=⟨by have:=h.wl;omega,by have:=h.tl;omega,by have:=h.hl;omega,by have:=h.nl;omega,h.ri,h.w0,by have:=h.w1;omega,h.t0,by have:=h.t1;omega⟩
theorem Sz.up {k m:Nat}{r:aD}(h:Sz k r)(hk:k<=m):Sz m r:=⟨by have:=h.wl;omega,by have:=h.tl;omega,by have:=h.hl;omega,by have:=h.nl;omega,h.ri,h.w0,h.w1,h.t0,h.t1⟩
theorem Sz.new:Sz 0 newR:=⟨Nat.le_refl _,Nat.le_refl _,Nat.le_refl _,Nat.le_refl _,fun w hw=>(by cases hw),by decide,by decide,by decide,by decide⟩
theorem rL (k:Nat):Sz k r0:=⟨Nat.zero_le _,Nat.zero_le _,Nat.zero_le _,Nat.zero_le _,fun w hw=>(by cases hw),by decide,by decide,by decide,by decide⟩
theorem BM {l:List ap}{x:ap}(h:∀w∈l,0<=w.Rights/\w.Rights<=7)(hx:0<=x.Rights/\x.Rights<=7):∀w∈l++[x],0<=w.Rights/\w.Rights<=7:=fun w hw=>by
 rcases List.mem_append.1 hw with hw|hw
 .exact h w hw
 .rw [List.mem_singleton.1 hw];exact hx
theorem oc {k:Nat}{r:aD}(h:Sz k r):Sz k (fN r) :=
 ⟨h.wl,Nat.le_trans (List.length_filter_le _ _) h.tl,Nat.le_trans (List.length_filter_le _ _) h.hl,by
  have:=qR r.aj (bW r.aj) r.Notes
  have:=h.nl
  show (ij r.aj (bW r.aj) r.Notes).length<=k
  omega,h.ri,h.w0,h.w1,h.t0,h.t1⟩
theorem Ia {k:Nat}{r:aD}(h:Sz k r):Sz k (nz r) :=
 ⟨Nat.le_trans (tf _ _) h.wl,(oc h).tl,(oc h).hl,(oc h).nl,BJ _ _ h.ri,h.w0,h.w1,h.t0,h.t1⟩
theorem oT {k:Nat}:∀ (n:Nat) (r:aD),Sz k r->Sz k (gX n r)
 | 0,r,h=>oc h
 | n+1,r,h=>by
  unfold gX;split
  .exact oc h
  .exact oT n _ (Ia h)
theorem Sz.uL {k:Nat}{r:aD}(h:Sz k r){l:List ap}(hl:l.length<=k)(hr:∀w∈l,0<=w.Rights/\w.Rights<=7):Sz k ⟨l,r.Things,r.Held,r.Notes,r.ae,r.ah⟩ :=
 ⟨hl,h.tl,h.hl,h.nl,hr,h.w0,h.w1,h.t0,h.t1⟩
theorem MP {k:Nat}{r:aD}(h:Sz k r)(p:Place)(kind:Int):Sz (k+1) (dV r p kind).1:=by
 have:=h.wl;have:=h.tl;have:=h.hl;have:=h.nl;have:=h.w0;have:=h.t0;have hp:=nQ r.Held p r.ae
 unfold dV
 (repeat' split) <;> first|exact rL _|skip
 refine ⟨?_,?_,?_,?_,BM h.ri ⟨(by show (0:Int)<=7;decide),(by show (7:Int)<=7;decide)⟩,?_,?_,?_,?_⟩ <;> dsimp only [e8]
 .simp;omega
 .simp;omega
 .
  split
  .omega
  .omega
 all_goals omega
theorem MQ {k:Nat}{r:aD}(h:Sz k r)(p t:Place)(a b:Int):Sz (k+1) (fq r p t a b).1:=by
 have:=h.wl;have:=h.tl;have:=h.hl;have:=h.nl;have:=h.w0;have:=h.t0;have:=h.t1
 unfold fq
 (repeat' split) <;> first|exact rL _|skip
 rename_i h1 h2 h3 h4 h5
 have hp:=nQ r.Held t (derived (aQ r p).1 r.ae a b).1.ID
 have hr:0<=(derived (aQ r p).1 r.ae a b).1.Rights/\(derived (aQ r p).1 r.ae a b).1.Rights<=7:=xS h5
 refine ⟨?_,?_,?_,?_,BM h.ri hr,?_,?_,?_,?_⟩ <;> dsimp only [e8]
 .simp;omega
 .omega
 .split <;> omega
 all_goals omega
theorem MR {k:Nat}{r:aD}(h:Sz k r)(p:Place)(s:Int):Sz (k+1) (jk r p s).1:=by
 have:=h.wl;have:=h.tl;have:=h.hl;have:=h.nl;have:=h.w0;have:=h.t0;have:=h.t1;have:=h.w1
 have h1:=nQ r.Held p 0
 have h2:=nQ (fL r.Held p 0) ⟨p.az,s⟩ (aQ r p).1.ID
 unfold jk
 (repeat' split) <;> first|exact rL _|exact ⟨by dsimp only;omega,by dsimp only;omega,by dsimp only;omega,by dsimp only;omega,h.ri,h.w0,h.w1,h.t0,h.t1⟩
theorem MS {k:Nat}{r:aD}(h:Sz k r)(p:Place):Sz (k+1) (jK r p).1:=by
 unfold jK;split
 .exact (oT _ _ (h.uL (Nat.le_trans (nf _ _) h.wl) (oQ h.ri))).up (Nat.le_succ k)
 .exact rL _
theorem Ib {k:Nat}{r:aD}(h:Sz k r)(p:Place):Sz (k+1) (ff r p).1:=by
 unfold ff;split
 .exact (oT _ _ (h.uL (Nat.le_trans (List.length_filter_le _ _) h.wl) (fun w hw=>h.ri w (List.mem_filter.1 hw).1))).up (Nat.le_succ k)
 .exact rL _
theorem uO (l:List aE)(i:Nat)(d:ByteArray):(gY l i d).length=l.length:=by
 unfold gY;split <;> simp
theorem KS {k:Nat}{r:aD}(h:Sz k r)(p:Place)(d:ByteArray):Sz (k+1) (fX r p d).1:=by
 have:=h.wl;have:=h.tl;have:=h.hl;have:=h.nl
 unfold fX
 (repeat' split) <;> first|exact rL _|exact ⟨by dsimp only;omega,by dsimp only;rw [uO];omega,by dsimp only;omega,by dsimp only;omega,h.ri,h.w0,h.w1,h.t0,h.t1⟩
theorem MU {k:Nat}{r:aD}(h:Sz k r)(p:Place)(d:ByteArray)(a b:Int):Sz (k+1) (dO r p d a b).1:=by
 have:=h.wl;have:=h.tl;have:=h.hl;have:=h.nl;have:=h.w0;have:=h.t0;have:=h.t1;have:=h.w1
 unfold dO
 (repeat' split) <;> first|exact rL _|exact ⟨by dsimp only;omega,by dsimp only;omega,by dsimp only;omega,by simp;omega,h.ri,h.w0,h.w1,h.t0,h.t1⟩ | skip
 rename_i h8
 exact ⟨by simp;omega,by dsimp only;omega,by dsimp only;omega,by simp;omega,BM h.ri (xS h8),by dsimp only;omega,by dsimp only;omega,h.t0,h.t1⟩
theorem KT (l:List Note)(i:Nat):(ud l i).length<=l.length:=by
 unfold ud;rw [List.length_append,List.length_take,List.length_drop];omega
theorem MV {k:Nat}{r:aD}(h:Sz k r)(p:Place):Sz (k+1) (eC r p).1:=by
 have:=h.wl;have:=h.tl;have:=h.hl;have:=h.nl
 unfold eC
 split
 .
  split
  .
   rename_i n _ _
   have h1:=nQ r.Held ⟨p.az,iO r.Held p.az⟩ n.ap
   have h2:=KT r.Notes (idxOf (fun n=>n.Port==(bR r p 2 1).1.aE) r.Notes).toNat
   (repeat' split) <;> first|exact rL _|exact ⟨by dsimp only;omega,by dsimp only;omega,by dsimp only;omega,by dsimp only;omega,h.ri,h.w0,h.w1,h.t0,h.t1⟩
  .exact rL _
 .exact rL _
theorem KU {k:Nat}{r:aD}(h:Sz k r)(a:ej):Sz (k+1) (cR r a).1:=by
 unfold cR
 (repeat' split)
 .exact MP h _ _
 .exact MQ h _ _ _ _
 .exact MR h _ _
 .exact MS h _
 .exact Ib h _
 .exact KS h _ _
 .exact MU h _ _ _ _
 .exact MV h _
 .exact h.up (Nat.le_succ k)
section
open Go Go.RowKit
set_option maxRecDepth 100000
theorem KV:NI Tryz.prog 100 aE.val:=by
 have hS:Tryz.prog.underlying 100=some (.struct (Tryz.prog.fieldsOf 100)):=by kernel_rfl
 have hp:Tryz.prog.stoodInHeld 100=false:=by kernel_rfl
 refine wE (cs:=aE.cs) (by kernel_rfl) fun x y w=>?_
 have u3:=Tryz.underlying9;have a3:=Tryz.isAgg9;have z3:=Tryz.sizeOf9;have u4:=Tryz.underlying3;have a4:=Tryz.isAgg3;have z4:=Tryz.sizeOf3
 obtain ⟨x1,x2,x3⟩:=x;obtain ⟨y1,y2,y3⟩:=y
 rw [Op.equal,Op.maxDepth,show (10000:Nat)=9999+1 from rfl,run_equalIn_agg w 9999 100 _ _ hS hp]
 simp only [Program.fieldsOf,Tryz.underlying100]
 go_simp
 have tl:∀a b:ByteArray,a.toList=b.toList↔a=b:=fun a b=>by have:=lu a b;rw [Bool.eq_iff_iff] at this;simpa using this
 by_cases h1:x1=y1 <;> by_cases h2:x2=y2 <;> by_cases h3:x3=y3 <;> simp [h1,h2,h3,tl]
theorem Ot:NI Tryz.prog 89 Note.val:=by
 have hS:Tryz.prog.underlying 89=some (.struct (Tryz.prog.fieldsOf 89)):=by kernel_rfl
 have hp:Tryz.prog.stoodInHeld 89=false:=by kernel_rfl
 refine wE (cs:=Note.cs) (by kernel_rfl) fun x y w=>?_
 have u3:=Tryz.underlying9;have a3:=Tryz.isAgg9;have z3:=Tryz.sizeOf9;have u4:=Tryz.underlying3;have a4:=Tryz.isAgg3;have z4:=Tryz.sizeOf3
 obtain ⟨x1,x2,x3,x4⟩:=x;obtain ⟨y1,y2,y3,y4⟩:=y
 rw [Op.equal,Op.maxDepth,show (10000:Nat)=9999+1 from rfl,run_equalIn_agg w 9999 89 _ _ hS hp]
 simp only [Program.fieldsOf,Tryz.underlying89]
 go_simp
 have tl:∀a b:ByteArray,a.toList=b.toList↔a=b:=fun a b=>by have:=lu a b;rw [Bool.eq_iff_iff] at this;simpa using this
 by_cases h1:x1=y1 <;> by_cases h2:x2=y2 <;> by_cases h3:x3=y3 <;> by_cases h4:x4=y4 <;> simp [h1,h2,h3,h4,tl]
end
section
open Go Go.RowKit
set_option maxRecDepth 100000
set_option maxHeartbeats 1000000
end
theorem sj {p q r:Place}(h:j7 p q)(k:j7 q r):j7 p r:=by unfold j7 at *;omega
theorem tq {p:Place}(h:j7 p p):False:=by unfold j7 at h;omega
theorem Dt (p q:Place):j7 p q\/p=q\/j7 q p:=by
 cases p;cases q;unfold j7;simp only [Place.mk.injEq];omega
theorem ln {p q:Place}(h:j7 p q):p≠q:=fun e=>tq (e▸h)
theorem xU (p q:Place):rq p q<0↔j7 p q:=by
 unfold rq rm j7
 constructor
 .intro h;split at h <;> (repeat' split at h) <;> first|omega|(simp_all;done)|(simp_all;omega)
 .intro h;split <;> (repeat' split) <;> omega
abbrev yW (l:List Held):Prop:=l.Pairwise fun a b=>j7 a.Place b.Place
def KW (l:List Held):Prop:= ∀h∈l,aY h.Place=0/\h.ap≠0
theorem jN {l:List Held}(h:Good l):yW l:=by
 have key:∀ (d i:Nat) x y,l[i]? = some x->l[i+d+1]? = some y->j7 x.Place y.Place:=by
  intro d
  induction d with
  | zero =>
   intro i x y hx hy
   have hi:=(List.getElem?_eq_some_iff.1 hy).1
   exact (h (i+1) hi y hy).2.2 x (by omega) (by simpa using hx)
  | succ d ih =>
   intro i x y hx hy
   have hi:=(List.getElem?_eq_some_iff.1 hy).1
   obtain ⟨z,hz⟩:∃z,l[i+d+1]? = some z:=⟨_,List.getElem?_eq_getElem (by omega)⟩
   exact sj (ih i x z hx hz) ((h (i+(d+1)+1) hi y hy).2.2 z (by omega) (by rw [<- hz];congr 1))
 refine List.pairwise_iff_getElem.2 ?_
 intro i j hi hj hij
 exact key (j-i-1) i _ _ (List.getElem?_eq_getElem hi) (by rw [show i+(j-i-1)+1=j by omega];exact List.getElem?_eq_getElem hj)
theorem tr {l:List Held}(h:Good l):KW l:=fun x hx=>by
 obtain ⟨i,hi⟩:=List.mem_iff_getElem?.1 hx
 have:=h i (List.getElem?_eq_some_iff.1 hi).1 x hi
 exact ⟨this.1,this.2.1⟩
theorem qX {l:List Held}(h:yW l)(hf:KW l):Good l:=fun k hk x hx=>by
 refine ⟨(hf x (List.mem_of_getElem? hx)).1,(hf x (List.mem_of_getElem? hx)).2,fun g h0 hg=>?_⟩
 have h:=List.pairwise_iff_getElem.1 h
 have:=h (k-1) k (by omega) hk (by omega)
 rw [(List.getElem?_eq_some_iff.1 hx).2,(List.getElem?_eq_some_iff.1 hg).2] at this
 exact this
theorem Du {l:List Held}:Good l↔yW l/\KW l:=⟨fun h=>⟨jN h,tr h⟩,fun h=>qX h.1 h.2⟩
def Dv (p:Place):Int:=6*p.az+p.Slot
theorem MW {p q:Place}(hp:aY p=0)(hq:aY q=0)(h:j7 p q):Dv p<Dv q:=by
 have:=cC hp;have:=cC hq
 unfold j7 at h;unfold Dv;omega
theorem KX {l:List Held}(h:Good l):l.length<=24:=by
 have hr:=jN h;have hf:=tr h
 have key:∀ (l:List Held) (m:Int),yW l->KW l->(∀x∈l,m<Dv x.Place)->m<=30->m+l.length<=29\/l=[]:=by
  intro l
  induction l with
  | nil=>intro m _ _ _ _;exact .inr rfl
  | cons x l ih =>
   intro m hr hf hm Wm
   left
   have hx:=hf x (List.mem_cons_self ..)
   have hp:=cC hx.1
   have h1:=hm x (List.mem_cons_self ..)
   have h2:Dv x.Place<=29:=by unfold Dv;omega
   obtain ⟨hr1,hr2⟩:=List.pairwise_cons.1 hr
   have hf':KW l:=fun y hy=>hf y (List.mem_cons_of_mem _ hy)
   rcases ih (Dv x.Place) hr2 hf' (fun y hy=>MW hx.1 (hf' y hy).1 (hr1 y hy)) (by omega) with h3|h3
   .simp only [List.length_cons];omega
   .subst h3;simp;omega
 rcases key l 5 hr hf (fun x hx=>by have:=cC (hf x hx).1;unfold Dv;omega) (by omega) with h1|h1
 .omega
 .subst h1;simp
inductive Shape (l:List Held)(p:Place):Prop
  | hit (A B:List Held) (w:Int) (e:l=A++⟨p,w⟩::B) (h:Hl l p=true) (k:fV l p=A.length) (ha:∀x∈A,j7 x.Place p) (hb:∀x∈B,j7 p x.Place)
  | miss (A B:List Held) (e:l=A++B) (h:Hl l p=false) (k:fV l p=A.length) (ha:∀x∈A,j7 x.Place p) (hb:∀x∈B,j7 p x.Place)
theorem shape (l:List Held)(p:Place)(hr:yW l):Shape l p:=by
 have hm:=CJ (f:=fun h:Held=>rq h.Place p) (l:=l) (fun i j x y hij hx hy hc=>by
  simp only [xU] at hc ⊢
  rcases Nat.lt_or_ge i j with h1|h1
  .
   have hr':=List.pairwise_iff_getElem.1 hr
   have:=hr' i j (List.getElem?_eq_some_iff.1 hx).1 (List.getElem?_eq_some_iff.1 hy).1 h1
   rw [(List.getElem?_eq_some_iff.1 hx).2,(List.getElem?_eq_some_iff.1 hy).2] at this
   exact sj this hc
  .
   have:i=j:=by omega
   subst this;rw [hx] at hy;injection hy with hy;subst hy;exact hc)
 have hk:=vx l p
 have hsplit:l=l.take (fV l p)++l.drop (fV l p):=(List.take_append_drop _ _).symm
 have hlen:(l.take (fV l p)).length=fV l p:=by rw [List.length_take];omega
 have hA:∀x∈l.take (fV l p),j7 x.Place p:=fun x hx=>by
  obtain ⟨i,hi⟩:=List.mem_iff_getElem?.1 hx
  rw [List.getElem?_take] at hi
  split at hi
  .exact (xU _ _).1 (hm.1 i x (by assumption) hi)
  .cases hi
 have hB:∀x∈l.drop (fV l p),¬ j7 x.Place p:=fun x hx=>by
  obtain ⟨i,hi⟩:=List.mem_iff_getElem?.1 hx
  rw [List.getElem?_drop] at hi
  exact fun hc=>hm.2 _ x (Nat.le_add_right _ _) hi ((xU _ _).2 hc)
 rcases tT l p with h|⟨x,hx,h,hp,hlt⟩
 .
  refine .miss _ _ hsplit h hlen.symm hA fun x hx=>?_
  have h1:=hB x hx
  rcases Dt p x.Place with h2|h2|h2
  .exact h2
  .
   exfalso
   obtain ⟨y,hy⟩:∃y,l[fV l p]? = some y:=by
    obtain ⟨i,hi⟩:=List.mem_iff_getElem?.1 hx
    rw [List.getElem?_drop] at hi
    have:=(List.getElem?_eq_some_iff.1 hi).1
    exact ⟨_,List.getElem?_eq_getElem (by omega)⟩
   have hyn:rq y.Place p≠0:=fun hc=>by
    have:Hl l p=true:=by
     show lE _ l=true
     unfold lE
     have hy':l[jE (fun h:Held=>rq h.Place p) l]? = some y:=hy
     rw [hy'];simp [hc]
    rw [h] at this;cases this
   have hym:y∈l.drop (fV l p):=List.mem_iff_getElem?.2 ⟨0,by rw [List.getElem?_drop];exact hy⟩
   have hyb:=hB y hym
   have hyp:j7 p y.Place:=by
    rcases Dt p y.Place with h3|h3|h3
    .exact h3
    .exact absurd (by rw [h3];exact Hj _) hyn
    .exact absurd h3 hyb
   obtain ⟨i,hi⟩:=List.mem_iff_getElem?.1 hx
   rw [List.getElem?_drop] at hi
   rcases Nat.eq_zero_or_pos i with h0|h0
   .
    subst h0;rw [Nat.add_zero,hy] at hi;injection hi with hi;subst hi
    exact tq (h2▸hyp)
   .
    have hr':=List.pairwise_iff_getElem.1 hr
    have:=hr' (fV l p) (fV l p+i) (List.getElem?_eq_some_iff.1 hy).1 (List.getElem?_eq_some_iff.1 hi).1 (by omega)
    rw [(List.getElem?_eq_some_iff.1 hy).2,(List.getElem?_eq_some_iff.1 hi).2] at this
    exact tq (h2▸sj hyp this)
  .exact absurd h2 h1
 .
  have hd:l.drop (fV l p)=x::l.drop (fV l p+1):=by
   rw [List.drop_eq_getElem_cons hlt,(List.getElem?_eq_some_iff.1 hx).2]
  have hxe:x=⟨p,x.ap⟩:=by cases x;simp at hp;simp [hp]
  refine .hit (l.take (fV l p)) (l.drop (fV l p+1)) x.ap ?_ h hlen.symm hA fun y hy=>?_
  .rw [<- hxe,<- hd,List.take_append_drop]
  .
   obtain ⟨i,hi⟩:=List.mem_iff_getElem?.1 hy
   rw [List.getElem?_drop] at hi
   have hr':=List.pairwise_iff_getElem.1 hr
   have:=hr' (fV l p) (fV l p+1+i) hlt (List.getElem?_eq_some_iff.1 hi).1 (by omega)
   rw [(List.getElem?_eq_some_iff.1 hx).2,(List.getElem?_eq_some_iff.1 hi).2,hp] at this
   exact this
theorem Gz {A:List Held}{p:Place}(h:∀x∈A,¬ x.Place=p):A.find? (fun h=>h.Place==p)=none:=by
 rw [List.find?_eq_none];intro x hx;simpa using h x hx
theorem ug {A B:List Held}{p:Place}{w:Int}(h:∀x∈A,¬ x.Place=p):uF (A++⟨p,w⟩::B) p=w:=by
 unfold uF;rw [List.find?_append,Gz h];simp
theorem Dw {A:List Held}{p:Place}(h:∀x∈A,¬ x.Place=p):uF A p=0:=by
 unfold uF;rw [Gz h]
theorem sk {A B:List Held}{x:Held}{q:Place}(h:¬ x.Place=q):uF (A++x::B) q=uF (A++B) q:=by
 unfold uF;rw [List.find?_append,List.find?_append,List.find?_cons]
 have:(x.Place==q)=false:=by simpa using h
 rw [this]
theorem at_eq {l:List Held}{p:Place}(hr:yW l):mT l p=uF l p:=by
 cases shape l p hr with
 | hit A B w e h k ha hb =>
  have hx:l[fV l p]? = some ⟨p,w⟩:=by rw [k,e];simp
  rw [Ga h hx,e,ug (fun x hx=>ln (ha x hx))]
 | miss A B e h k ha hb =>
  rw [JL h,e,Dw]
  intro x hx
  rcases List.mem_append.1 hx with hx|hx
  .exact ln (ha x hx)
  .exact fun e=>ln (hb x hx) e.symm
theorem KY {p:Place}{id:Int}:∀ {A:List Held} (acc:List Held) (b:Bool),(∀x∈A,j7 x.Place p)->A.foldl (oE p id) (acc,b)=(acc++A,b)
 | [],acc,b,h=>by simp
 | x::A,acc,b,h=>by
  have hx:=h x (List.mem_cons_self ..)
  simp only [List.foldl_cons]
  rw [pW (.inr (by unfold j7 at hx;omega)),if_neg (ln hx),KY _ _ (fun y hy=>h y (List.mem_cons_of_mem _ hy))]
  simp
theorem Dx {p:Place}{id:Int}:∀ {B:List Held} (acc:List Held),(∀x∈B,j7 p x.Place)->B.foldl (oE p id) (acc,true)=(acc++B,true)
 | [],acc,h=>by simp
 | x::B,acc,h=>by
  have hx:=h x (List.mem_cons_self ..)
  simp only [List.foldl_cons]
  rw [pW (.inl rfl),if_neg (fun e=>ln hx e.symm),Dx _ (fun y hy=>h y (List.mem_cons_of_mem _ hy))]
  simp
theorem tu {l A B:List Held}{p:Place}{w id:Int}(e:l=A++⟨p,w⟩::B)(h:Hl l p=true)(k:fV l p=A.length):fL l p id=if id=0 then A++B else A++⟨p,id⟩::B:=by
 unfold fL;rw [if_pos h,k,e]
 split
 .
  congr 1
  .simp
  .rw [List.drop_append,List.drop_of_length_le (by omega)];simp
 .simp
theorem qY {l A B:List Held}{p:Place}{id:Int}(e:l=A++B)(h:Hl l p=false)(k:fV l p=A.length):fL l p id=if id=0 then A++B else A++⟨p,id⟩::B:=by
 unfold fL;rw [if_neg (by rw [h];simp),k,e]
 split
 .rfl
 .simp
theorem put_eq {l:List Held}{p:Place}{id:Int}(hr:yW l):fL l p id=EJ l p id:=by
 cases shape l p hr with
 | hit A B w e h k ha hb =>
  rw [tu e h k]
  unfold EJ CL
  rw [e,List.foldl_append,KY _ _ ha,List.foldl_cons]
  have hle:p.az<(⟨p,w⟩:Held).Place.az\/(p.az=(⟨p,w⟩:Held).Place.az/\p.Slot<=(⟨p,w⟩:Held).Place.Slot):= .inr ⟨rfl,Int.le_refl _⟩
  by_cases h0:id=0
  .
   have:(id==0)=true:=by simpa using h0
   rw [this,pW (.inl rfl),if_pos rfl,Dx _ hb,if_pos h0,if_pos rfl];simp
  .
   have:(id==0)=false:=by simpa using h0
   rw [this,wR hle,if_pos rfl,Dx _ hb,if_neg h0,if_pos rfl];simp
 | miss A B e h k ha hb =>
  rw [qY e h k]
  unfold EJ CL
  rw [e,List.foldl_append,KY _ _ ha]
  by_cases h0:id=0
  .
   have:(id==0)=true:=by simpa using h0
   rw [this,Dx _ hb,if_pos h0,if_pos rfl];simp
  .
   have:(id==0)=false:=by simpa using h0
   rw [this,if_neg h0]
   cases B with
   | nil=>rw [List.foldl_nil,if_neg Bool.false_ne_true];simp
   | cons x B =>
    have hx:=hb x (List.mem_cons_self ..)
    have hne:¬ x.Place=p:=fun e=>ln hx e.symm
    rw [List.foldl_cons,wR (by unfold j7 at hx;omega),if_neg hne,Dx _ (fun y hy=>hb y (List.mem_cons_of_mem _ hy)),if_pos rfl];simp
theorem Dy {A B:List Held}(h:yW (A++B)):yW A/\yW B /\ ∀x∈A,∀y∈B,j7 x.Place y.Place:=List.pairwise_append.1 h
theorem mM {l:List Held}{p:Place}{id:Int}(hg:Good l)(hp:aY p=0):Good (fL l p id):=by
 have hr:=jN hg;have hf:=tr hg
 cases shape l p hr with
 | hit A B w e h k ha hb =>
  rw [tu e h k]
  rw [e] at hr hf
  obtain ⟨h1,h2,h3⟩:=Dy hr
  obtain ⟨h4,h5⟩:=List.pairwise_cons.1 h2
  split
  .exact qX (List.pairwise_append.2 ⟨h1,h5,fun x hx y hy=>h3 x hx y (List.mem_cons_of_mem _ hy)⟩) (fun x hx=>hf x (by simp at hx ⊢;rcases hx with hx|hx <;> simp [hx]))
  .
   refine qX (List.pairwise_append.2 ⟨h1,List.pairwise_cons.2 ⟨hb,h5⟩,fun x hx y hy=>?_⟩) (fun x hx=>?_)
   .
    rcases List.mem_cons.1 hy with hy|hy
    .subst hy;exact ha x hx
    .exact h3 x hx y (List.mem_cons_of_mem _ hy)
   .
    simp at hx
    rcases hx with hx|hx|hx
    .exact hf x (by simp [hx])
    .subst hx;exact ⟨hp,by assumption⟩
    .exact hf x (by simp [hx])
 | miss A B e h k ha hb =>
  rw [qY e h k]
  split
  .rw [<- e];exact hg
  .
   rw [e] at hr hf
   obtain ⟨h1,h2,h3⟩:=Dy hr
   refine qX (List.pairwise_append.2 ⟨h1,List.pairwise_cons.2 ⟨hb,h2⟩,fun x hx y hy=>?_⟩) (fun x hx=>?_)
   .
    rcases List.mem_cons.1 hy with hy|hy
    .subst hy;exact ha x hx
    .exact h3 x hx y hy
   .
    simp at hx
    rcases hx with hx|hx|hx
    .exact hf x (by simp [hx])
    .subst hx;exact ⟨hp,by assumption⟩
    .exact hf x (by simp [hx])
theorem zT {l:List Held}{p q:Place}{id:Int}(hg:Good l)(hp:aY p=0)(hq:¬ q=p):mT (fL l p id) q=mT l q:=by
 have hr:=jN hg
 rw [at_eq (jN (mM hg hp)),at_eq hr]
 have hpq:¬ p=q:=fun e=>hq e.symm
 cases shape l p hr with
 | hit A B w e h k ha hb =>
  rw [tu e h k,e,sk (x:=⟨p,w⟩) hpq]
  split
  .rfl
  .rw [sk (x:=⟨p,id⟩) hpq]
 | miss A B e h k ha hb =>
  rw [qY e h k,e]
  split
  .rfl
  .rw [sk (x:=⟨p,id⟩) hpq]
theorem uP {l:List Held}{h:Int}:∀ (n s:Nat),(mF l h n s = -1 /\ ∀t,s<=t->t<s+n->mT l ⟨h,(t:Int)⟩≠0) \/ ∃k:Nat,mF l h n s=k/\s<=k/\k<s+n/\mT l ⟨h,(k:Int)⟩=0 /\ ∀t,s<=t->t<k->mT l ⟨h,(t:Int)⟩≠0
 | 0,s => .inl ⟨rfl,fun t h1 h2=>by omega⟩
 | n+1,s=>by
  simp only [mF]
  by_cases e:mT l ⟨h,s⟩=0
  .rw [if_pos e];exact .inr ⟨s,rfl,Nat.le_refl _,by omega,e,fun t h1 h2=>by omega⟩
  .
   rw [if_neg e]
   rcases uP (l:=l) (h:=h) n (s+1) with ⟨h1,h2⟩ | ⟨k,h1,h2,h3,h4,h5⟩
   .
    refine .inl ⟨h1,fun t h3 h4=>?_⟩
    rcases Nat.eq_or_lt_of_le h3 with h5|h5
    .subst h5;exact e
    .exact h2 t h5 (by omega)
   .
    refine .inr ⟨k,h1,by omega,by omega,h4,fun t h6 h7=>?_⟩
    rcases Nat.eq_or_lt_of_le h6 with h8|h8
    .subst h8;exact e
    .exact h5 t h8 h7
theorem free_spec (l:List Held)(h:Int):(iO l h = -1 /\ ∀t:Int,0<=t->t<=5->mT l ⟨h,t⟩≠0)\/(0<=iO l h/\iO l h<=5/\mT l ⟨h,iO l h⟩=0 /\ ∀t:Int,0<=t->t<iO l h->mT l ⟨h,t⟩≠0):=by
 rcases uP (l:=l) (h:=h) 6 0 with ⟨h1,h2⟩ | ⟨k,h1,h2,h3,h4,h5⟩
 .
  refine .inl ⟨h1,fun t h3 h4=>?_⟩
  have:=h2 t.toNat (Nat.zero_le _) (by omega)
  rwa [Int.toNat_of_nonneg h3] at this
 .
  have hk:iO l h=k:=h1
  refine .inr ⟨by omega,by omega,by rw [hk];exact h4,fun t h6 h7=>?_⟩
  have:=h5 t.toNat (Nat.zero_le _) (by omega)
  rwa [Int.toNat_of_nonneg h6] at this

end Go.Proofs.YtkbhcbipadkcaaaGreatDoor
