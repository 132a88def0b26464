import Derived.Test.YtkbhcbipadkcaaaGreatDoorTS21
namespace Go.Proofs.YtkbhcbipadkcaaaGreatDoor
set_option linter.unusedVariables false
set_option linter.unusedSimpArgs false
set_option maxRecDepth 100000
set_option maxHeartbeats 90000000
def newR:aB:=⟨[],[],[],[],1,1⟩
def cp (r:aB)(a:ft):aB×Int :=
  if a.Kind=(⟨#[109,97,107,101]⟩:ByteArray) then dQ r a.P a.A
  else if a.Kind=(⟨#[103,105,118,101]⟩:ByteArray) then fq r a.P a.Q a.A a.B
  else if a.Kind=(⟨#[109,111,118,101]⟩:ByteArray) then jh r a.P a.A
  else if a.Kind=(⟨#[100,114,111,112]⟩:ByteArray) then jJ r a.P
  else if a.Kind=(⟨#[114,101,118,111,107,101]⟩:ByteArray) then fa r a.P
  else if a.Kind=(⟨#[119,114,105,116,101]⟩:ByteArray) then fY r a.P a.S
  else if a.Kind=(⟨#[115,101,110,100]⟩:ByteArray) then dK r a.P a.S a.A a.B
  else if a.Kind=(⟨#[116,97,107,101]⟩:ByteArray) then ((eG r a.P).1,(eG r a.P).2.2.2)
  else (r,0)
def S1 (r:aB)(a:ft):aB:=if (cp r a).2=0 then (cp r a).1 else r
def grow (l:List ft):aB:=l.foldl S1 newR
theorem s8 {w:ak}{id r b:Int}(h:(derived w id r b).2=0):0<=r/\r<=7/\0<=b/\b<=99/\je w.Rights r=true/\(derived w id r b).1=⟨id,w.aE,r,if b=0 then w.aQ else b,w.ID⟩/\(w.aQ=0∨b=0∨b=w.aQ):=by
 revert h
 rcases hG r with ⟨h1,h2⟩ | ⟨h1,h2⟩
 .unfold derived;rw [if_pos h1];intro h;simp at h
 .
  unfold derived;rw [if_neg (by rw [h1];decide)]
  by_cases hb:b<0
  .rw [if_pos hb];intro h;simp at h
  .
   rw [if_neg hb]
   by_cases hb2:99<b
   .rw [if_pos hb2];intro h;simp at h
   .
    rw [if_neg hb2]
    cases hr:je w.Rights r with
    | false=>rw [if_pos rfl];intro h;simp at h
    | true =>
     rw [if_neg (by decide)]
     by_cases hc:b≠0/\w.aQ≠0/\b≠w.aQ
     .rw [if_pos hc];intro h;simp at h
     .rw [if_neg hc];intro h;exact ⟨h2.1,h2.2,by omega,by omega,rfl,rfl,by omega⟩
theorem xJ {w:ak}{id r b:Int}(h:(derived w id r b).2=0):0<=(derived w id r b).1.Rights/\(derived w id r b).1.Rights<=7:=by
 have:=s8 h;rw [this.2.2.2.2.2.1];exact ⟨this.1,this.2.1⟩
structure Sz (k:Nat)(r:aB):Prop where
  wl:r.ao.length<=k
  tl:r.Things.length<=k
  hl:r.Held.length<=2*k
  nl:r.Notes.length<=k
  ri:∀w∈r.ao,0<=w.Rights/\w.Rights<=7
  w0:0<=r.af
  w1:r.af<=1000
  t0:0<=r.ah
  t1:r.ah<=1000
theorem Sz.ok {k:Nat}{r:aB}(h:Sz k r)(hk:k<=1000):Ok r:=⟨by have:=h.wl;omega,by have:=h.tl;omega,by have:=h.hl;omega,by have:=h.nl;omega,h.ri,h.w0,by have:=h.w1;omega,h.t0,by have:=h.t1;omega⟩
theorem Sz.up {k m:Nat}{r:aB}(h:Sz k r)(hk:k<=m):Sz m r:=⟨by have:=h.wl;omega,by have:=h.tl;omega,by have:=h.hl;omega,by have:=h.nl;omega,h.ri,h.w0,h.w1,h.t0,h.t1⟩
theorem Sz.new:Sz 0 newR:=⟨Nat.le_refl _,Nat.le_refl _,Nat.le_refl _,Nat.le_refl _,fun w hw=>(by cases hw),by decide,by decide,by decide,by decide⟩
theorem rD (k:Nat):Sz k r0:=⟨Nat.zero_le _,Nat.zero_le _,Nat.zero_le _,Nat.zero_le _,fun w hw=>(by cases hw),by decide,by decide,by decide,by decide⟩
theorem BG {l:List ak}{x:ak}(h:∀w∈l,0<=w.Rights/\w.Rights<=7)(hx:0<=x.Rights/\x.Rights<=7):∀w∈l++[x],0<=w.Rights/\w.Rights<=7:=fun w hw=>by
 rcases List.mem_append.1 hw with hw|hw
 .exact h w hw
 .rw [List.mem_singleton.1 hw];exact hx
theorem nW {k:Nat}{r:aB}(h:Sz k r):Sz k (fO r) :=
 ⟨h.wl,Nat.le_trans (List.length_filter_le _ _) h.tl,Nat.le_trans (List.length_filter_le _ _) h.hl,by
  have:=qK r.ao (bV r.ao) r.Notes
  have:=h.nl
  show (ia r.ao (bV r.ao) r.Notes).length<=k
  omega,h.ri,h.w0,h.w1,h.t0,h.t1⟩
theorem Ig {k:Nat}{r:aB}(h:Sz k r):Sz k (nn r) :=
 ⟨Nat.le_trans (sZ _ _) h.wl,(nW h).tl,(nW h).hl,(nW h).nl,BA _ _ h.ri,h.w0,h.w1,h.t0,h.t1⟩
theorem oM {k:Nat}:∀ (n:Nat) (r:aB),Sz k r->Sz k (gT n r)
 | 0,r,h=>nW h
 | n+1,r,h=>by
  unfold gT;split
  .exact nW h
  .exact oM n _ (Ig h)
theorem Sz.uJ {k:Nat}{r:aB}(h:Sz k r){l:List ak}(hl:l.length<=k)(hr:∀w∈l,0<=w.Rights/\w.Rights<=7):Sz k ⟨l,r.Things,r.Held,r.Notes,r.af,r.ah⟩ :=
 ⟨hl,h.tl,h.hl,h.nl,hr,h.w0,h.w1,h.t0,h.t1⟩
theorem MJ {k:Nat}{r:aB}(h:Sz k r)(p:Place)(kind:Int):Sz (k+1) (dQ r p kind).1:=by
 have:=h.wl;have:=h.tl;have:=h.hl;have:=h.nl;have:=h.w0;have:=h.t0;have hp:=nK r.Held p r.af
 unfold dQ
 (repeat' split) <;> first|exact rD _|skip
 refine ⟨?_,?_,?_,?_,BG h.ri ⟨(by show (0:Int)<=7;decide),(by show (7:Int)<=7;decide)⟩,?_,?_,?_,?_⟩ <;> dsimp only [fA]
 .simp;omega
 .simp;omega
 .
  split
  .omega
  .omega
 all_goals omega
theorem MK {k:Nat}{r:aB}(h:Sz k r)(p t:Place)(a b:Int):Sz (k+1) (fq r p t a b).1:=by
 have:=h.wl;have:=h.tl;have:=h.hl;have:=h.nl;have:=h.w0;have:=h.t0;have:=h.t1
 unfold fq
 (repeat' split) <;> first|exact rD _|skip
 rename_i h1 h2 h3 h4 h5
 have hp:=nK r.Held t (derived (aS r p).1 r.af a b).1.ID
 have hr:0<=(derived (aS r p).1 r.af a b).1.Rights/\(derived (aS r p).1 r.af a b).1.Rights<=7:=xJ h5
 refine ⟨?_,?_,?_,?_,BG h.ri hr,?_,?_,?_,?_⟩ <;> dsimp only [fA]
 .simp;omega
 .omega
 .split <;> omega
 all_goals omega
theorem ML {k:Nat}{r:aB}(h:Sz k r)(p:Place)(s:Int):Sz (k+1) (jh r p s).1:=by
 have:=h.wl;have:=h.tl;have:=h.hl;have:=h.nl;have:=h.w0;have:=h.t0;have:=h.t1;have:=h.w1
 have h1:=nK r.Held p 0
 have h2:=nK (fT r.Held p 0) ⟨p.aC,s⟩ (aS r p).1.ID
 unfold jh
 (repeat' split) <;> first|exact rD _|exact ⟨by dsimp only;omega,by dsimp only;omega,by dsimp only;omega,by dsimp only;omega,h.ri,h.w0,h.w1,h.t0,h.t1⟩
theorem MN {k:Nat}{r:aB}(h:Sz k r)(p:Place):Sz (k+1) (jJ r p).1:=by
 unfold jJ;split
 .exact (oM _ _ (h.uJ (Nat.le_trans (mZ _ _) h.wl) (oK h.ri))).up (Nat.le_succ k)
 .exact rD _
theorem Ih {k:Nat}{r:aB}(h:Sz k r)(p:Place):Sz (k+1) (fa r p).1:=by
 unfold fa;split
 .exact (oM _ _ (h.uJ (Nat.le_trans (List.length_filter_le _ _) h.wl) (fun w hw=>h.ri w (List.mem_filter.1 hw).1))).up (Nat.le_succ k)
 .exact rD _
theorem uM (l:List aE)(i:Nat)(d:ByteArray):(gU l i d).length=l.length:=by
 unfold gU;split <;> simp
theorem KR {k:Nat}{r:aB}(h:Sz k r)(p:Place)(d:ByteArray):Sz (k+1) (fY r p d).1:=by
 have:=h.wl;have:=h.tl;have:=h.hl;have:=h.nl
 unfold fY
 (repeat' split) <;> first|exact rD _|exact ⟨by dsimp only;omega,by dsimp only;rw [uM];omega,by dsimp only;omega,by dsimp only;omega,h.ri,h.w0,h.w1,h.t0,h.t1⟩
theorem MO {k:Nat}{r:aB}(h:Sz k r)(p:Place)(d:ByteArray)(a b:Int):Sz (k+1) (dK r p d a b).1:=by
 have:=h.wl;have:=h.tl;have:=h.hl;have:=h.nl;have:=h.w0;have:=h.t0;have:=h.t1;have:=h.w1
 unfold dK
 (repeat' split) <;> first|exact rD _|exact ⟨by dsimp only;omega,by dsimp only;omega,by dsimp only;omega,by simp;omega,h.ri,h.w0,h.w1,h.t0,h.t1⟩ | skip
 rename_i h8
 exact ⟨by simp;omega,by dsimp only;omega,by dsimp only;omega,by simp;omega,BG h.ri (xJ h8),by dsimp only;omega,by dsimp only;omega,h.t0,h.t1⟩
theorem KS (l:List Note)(i:Nat):(t8 l i).length<=l.length:=by
 unfold t8;rw [List.length_append,List.length_take,List.length_drop];omega
theorem MP {k:Nat}{r:aB}(h:Sz k r)(p:Place):Sz (k+1) (eG r p).1:=by
 have:=h.wl;have:=h.tl;have:=h.hl;have:=h.nl
 unfold eG
 split
 .
  split
  .
   rename_i n _ _
   have h1:=nK r.Held ⟨p.aC,i6 r.Held p.aC⟩ n.ak
   have h2:=KS r.Notes (idxOf (fun n=>n.Port==(cz r p 2 1).1.aE) r.Notes).toNat
   (repeat' split) <;> first|exact rD _|exact ⟨by dsimp only;omega,by dsimp only;omega,by dsimp only;omega,by dsimp only;omega,h.ri,h.w0,h.w1,h.t0,h.t1⟩
  .exact rD _
 .exact rD _
theorem KT {k:Nat}{r:aB}(h:Sz k r)(a:ft):Sz (k+1) (cp r a).1:=by
 unfold cp
 (repeat' split)
 .exact MJ h _ _
 .exact MK h _ _ _ _
 .exact ML h _ _
 .exact MN h _
 .exact Ih h _
 .exact KR h _ _
 .exact MO h _ _ _ _
 .exact MP h _
 .exact h.up (Nat.le_succ k)
section
open Go Go.RowKit
set_option linter.unusedSectionVars false
end
section
open Go Go.RowKit
end
theorem r6 {p q r:Place}(h:ka p q)(k:ka q r):ka p r:=by unfold ka at *;omega
theorem s9 {p:Place}(h:ka p p):False:=by unfold ka at h;omega
theorem Dw (p q:Place):ka p q∨p=q∨ka q p:=by
 cases p;cases q;unfold ka;simp only [Place.mk.injEq];omega
theorem lv {p q:Place}(h:ka p q):p≠q:=fun e=>s9 (e▸h)
theorem xK (p q:Place):ra p q<0↔ka p q:=by
 unfold ra qZ ka
 constructor
 .intro h;split at h <;> (repeat' split at h) <;> first|omega|(simp_all;done)|(simp_all;omega)
 .intro h;split <;> (repeat' split) <;> omega
abbrev yL (l:List Held):Prop:=l.Pairwise fun a b=>ka a.Place b.Place
def KU (l:List Held):Prop:= ∀h∈l,aZ h.Place=0/\h.ak≠0
theorem jO {l:List Held}(h:Good l):yL l:=by
 have key:∀ (d i:Nat) x y,l[i]? = some x->l[i+d+1]? = some y->ka x.Place y.Place:=by
  intro d
  induction d with
  | zero =>
   intro i x y hx hy
   have hi:=(List.getElem?_eq_some_iff.1 hy).1
   exact (h (i+1) hi y hy).2.2 x (by omega) (by simpa using hx)
  | succ d ih =>
   intro i x y hx hy
   have hi:=(List.getElem?_eq_some_iff.1 hy).1
   obtain ⟨z,hz⟩:∃z,l[i+d+1]? = some z:=⟨_,List.getElem?_eq_getElem (by omega)⟩
   exact r6 (ih i x z hx hz) ((h (i+(d+1)+1) hi y hy).2.2 z (by omega) (by rw [<- hz];congr 1))
 refine List.pairwise_iff_getElem.2 ?_
 intro i j hi hj hij
 exact key (j-i-1) i _ _ (List.getElem?_eq_getElem hi) (by rw [show i+(j-i-1)+1=j by omega];exact List.getElem?_eq_getElem hj)
theorem ta {l:List Held}(h:Good l):KU l:=fun x hx=>by
 obtain ⟨i,hi⟩:=List.mem_iff_getElem?.1 hx
 have:=h i (List.getElem?_eq_some_iff.1 hi).1 x hi
 exact ⟨this.1,this.2.1⟩
theorem qQ {l:List Held}(h:yL l)(hf:KU l):Good l:=fun k hk x hx=>by
 refine ⟨(hf x (List.mem_of_getElem? hx)).1,(hf x (List.mem_of_getElem? hx)).2,fun g h0 hg=>?_⟩
 have h:=List.pairwise_iff_getElem.1 h
 have:=h (k-1) k (by omega) hk (by omega)
 rw [(List.getElem?_eq_some_iff.1 hx).2,(List.getElem?_eq_some_iff.1 hg).2] at this
 exact this
theorem Dx {l:List Held}:Good l↔yL l/\KU l:=⟨fun h=>⟨jO h,ta h⟩,fun h=>qQ h.1 h.2⟩
def Dy (p:Place):Int:=6*p.aC+p.Slot
theorem MQ {p q:Place}(hp:aZ p=0)(hq:aZ q=0)(h:ka p q):Dy p<Dy q:=by
 have:=cx hp;have:=cx hq
 unfold ka at h;unfold Dy;omega
theorem KV {l:List Held}(h:Good l):l.length<=24:=by
 have hr:=jO h;have hf:=ta h
 have key:∀ (l:List Held) (m:Int),yL l->KU l->(∀x∈l,m<Dy x.Place)->m<=30->m+l.length<=29∨l=[]:=by
  intro l
  induction l with
  | nil=>intro m _ _ _ _;exact .inr rfl
  | cons x l ih =>
   intro m hr hf hm Wy
   left
   have hx:=hf x (List.mem_cons_self ..)
   have hp:=cx hx.1
   have h1:=hm x (List.mem_cons_self ..)
   have h2:Dy x.Place<=29:=by unfold Dy;omega
   obtain ⟨hr1,hr2⟩:=List.pairwise_cons.1 hr
   have hf':KU l:=fun y hy=>hf y (List.mem_cons_of_mem _ hy)
   rcases ih (Dy x.Place) hr2 hf' (fun y hy=>MQ hx.1 (hf' y hy).1 (hr1 y hy)) (by omega) with h3|h3
   .simp only [List.length_cons];omega
   .subst h3;simp;omega
 rcases key l 5 hr hf (fun x hx=>by have:=cx (hf x hx).1;unfold Dy;omega) (by omega) with h1|h1
 .omega
 .subst h1;simp
inductive Shape (l:List Held)(p:Place):Prop
  | hit (A B:List Held) (w:Int) (e:l=A++⟨p,w⟩::B) (h:Hs l p=true) (k:fW l p=A.length) (ha:∀x∈A,ka x.Place p) (hb:∀x∈B,ka p x.Place)
  | miss (A B:List Held) (e:l=A++B) (h:Hs l p=false) (k:fW l p=A.length) (ha:∀x∈A,ka x.Place p) (hb:∀x∈B,ka p x.Place)
theorem shape (l:List Held)(p:Place)(hr:yL l):Shape l p:=by
 have hm:=CO (f:=fun h:Held=>ra h.Place p) (l:=l) (fun i j x y hij hx hy hc=>by
  simp only [xK] at hc ⊢
  rcases Nat.lt_or_ge i j with h1|h1
  .
   have hr':=List.pairwise_iff_getElem.1 hr
   have:=hr' i j (List.getElem?_eq_some_iff.1 hx).1 (List.getElem?_eq_some_iff.1 hy).1 h1
   rw [(List.getElem?_eq_some_iff.1 hx).2,(List.getElem?_eq_some_iff.1 hy).2] at this
   exact r6 this hc
  .
   have:i=j:=by omega
   subst this;rw [hx] at hy;injection hy with hy;subst hy;exact hc)
 have hk:=vz l p
 have hsplit:l=l.take (fW l p)++l.drop (fW l p):=(List.take_append_drop _ _).symm
 have hlen:(l.take (fW l p)).length=fW l p:=by rw [List.length_take];omega
 have hA:∀x∈l.take (fW l p),ka x.Place p:=fun x hx=>by
  obtain ⟨i,hi⟩:=List.mem_iff_getElem?.1 hx
  rw [List.getElem?_take] at hi
  split at hi
  .exact (xK _ _).1 (hm.1 i x (by assumption) hi)
  .cases hi
 have hB:∀x∈l.drop (fW l p),¬ ka x.Place p:=fun x hx=>by
  obtain ⟨i,hi⟩:=List.mem_iff_getElem?.1 hx
  rw [List.getElem?_drop] at hi
  exact fun hc=>hm.2 _ x (Nat.le_add_right _ _) hi ((xK _ _).2 hc)
 rcases tM l p with h|⟨x,hx,h,hp,hlt⟩
 .
  refine .miss _ _ hsplit h hlen.symm hA fun x hx=>?_
  have h1:=hB x hx
  rcases Dw p x.Place with h2|h2|h2
  .exact h2
  .
   exfalso
   obtain ⟨y,hy⟩:∃y,l[fW l p]? = some y:=by
    obtain ⟨i,hi⟩:=List.mem_iff_getElem?.1 hx
    rw [List.getElem?_drop] at hi
    have:=(List.getElem?_eq_some_iff.1 hi).1
    exact ⟨_,List.getElem?_eq_getElem (by omega)⟩
   have hyn:ra y.Place p≠0:=fun hc=>by
    have:Hs l p=true:=by
     show lI _ l=true
     unfold lI
     have hy':l[jD (fun h:Held=>ra h.Place p) l]? = some y:=hy
     rw [hy'];simp [hc]
    rw [h] at this;cases this
   have hym:y∈l.drop (fW l p):=List.mem_iff_getElem?.2 ⟨0,by rw [List.getElem?_drop];exact hy⟩
   have hyb:=hB y hym
   have hyp:ka p y.Place:=by
    rcases Dw p y.Place with h3|h3|h3
    .exact h3
    .exact absurd (by rw [h3];exact Hr _) hyn
    .exact absurd h3 hyb
   obtain ⟨i,hi⟩:=List.mem_iff_getElem?.1 hx
   rw [List.getElem?_drop] at hi
   rcases Nat.eq_zero_or_pos i with h0|h0
   .
    subst h0;rw [Nat.add_zero,hy] at hi;injection hi with hi;subst hi
    exact s9 (h2▸hyp)
   .
    have hr':=List.pairwise_iff_getElem.1 hr
    have:=hr' (fW l p) (fW l p+i) (List.getElem?_eq_some_iff.1 hy).1 (List.getElem?_eq_some_iff.1 hi).1 (by omega)
    rw [(List.getElem?_eq_some_iff.1 hy).2,(List.getElem?_eq_some_iff.1 hi).2] at this
    exact s9 (h2▸r6 hyp this)
  .exact absurd h2 h1
 .
  have hd:l.drop (fW l p)=x::l.drop (fW l p+1):=by
   rw [List.drop_eq_getElem_cons hlt,(List.getElem?_eq_some_iff.1 hx).2]
  have hxe:x=⟨p,x.ak⟩:=by cases x;simp at hp;simp [hp]
  refine .hit (l.take (fW l p)) (l.drop (fW l p+1)) x.ak ?_ h hlen.symm hA fun y hy=>?_
  .rw [<- hxe,<- hd,List.take_append_drop]
  .
   obtain ⟨i,hi⟩:=List.mem_iff_getElem?.1 hy
   rw [List.getElem?_drop] at hi
   have hr':=List.pairwise_iff_getElem.1 hr
   have:=hr' (fW l p) (fW l p+1+i) hlt (List.getElem?_eq_some_iff.1 hi).1 (by omega)
   rw [(List.getElem?_eq_some_iff.1 hx).2,(List.getElem?_eq_some_iff.1 hi).2,hp] at this
   exact this
theorem GB {A:List Held}{p:Place}(h:∀x∈A,¬ x.Place=p):A.find? (fun h=>h.Place==p)=none:=by
 rw [List.find?_eq_none];intro x hx;simpa using h x hx
theorem ub {A B:List Held}{p:Place}{w:Int}(h:∀x∈A,¬ x.Place=p):uC (A++⟨p,w⟩::B) p=w:=by
 unfold uC;rw [List.find?_append,GB h];simp
theorem Dz {A:List Held}{p:Place}(h:∀x∈A,¬ x.Place=p):uC A p=0:=by
 unfold uC;rw [GB h]
theorem r8 {A B:List Held}{x:Held}{q:Place}(h:¬ x.Place=q):uC (A++x::B) q=uC (A++B) q:=by
 unfold uC;rw [List.find?_append,List.find?_append,List.find?_cons]
 have:(x.Place==q)=false:=by simpa using h
 rw [this]
theorem at_eq {l:List Held}{p:Place}(hr:yL l):mM l p=uC l p:=by
 cases shape l p hr with
 | hit A B w e h k ha hb =>
  have hx:l[fW l p]? = some ⟨p,w⟩:=by rw [k,e];simp
  rw [Ga h hx,e,ub (fun x hx=>lv (ha x hx))]
 | miss A B e h k ha hb =>
  rw [JI h,e,Dz]
  intro x hx
  rcases List.mem_append.1 hx with hx|hx
  .exact lv (ha x hx)
  .exact fun e=>lv (hb x hx) e.symm
theorem KW {p:Place}{id:Int}:∀ {A:List Held} (acc:List Held) (b:Bool),(∀x∈A,ka x.Place p)->A.foldl (oy p id) (acc,b)=(acc++A,b)
 | [],acc,b,h=>by simp
 | x::A,acc,b,h=>by
  have hx:=h x (List.mem_cons_self ..)
  simp only [List.foldl_cons]
  rw [pS (.inr (by unfold ka at hx;omega)),if_neg (lv hx),KW _ _ (fun y hy=>h y (List.mem_cons_of_mem _ hy))]
  simp
theorem DC {p:Place}{id:Int}:∀ {B:List Held} (acc:List Held),(∀x∈B,ka p x.Place)->B.foldl (oy p id) (acc,true)=(acc++B,true)
 | [],acc,h=>by simp
 | x::B,acc,h=>by
  have hx:=h x (List.mem_cons_self ..)
  simp only [List.foldl_cons]
  rw [pS (.inl rfl),if_neg (fun e=>lv hx e.symm),DC _ (fun y hy=>h y (List.mem_cons_of_mem _ hy))]
  simp
theorem td {l A B:List Held}{p:Place}{w id:Int}(e:l=A++⟨p,w⟩::B)(h:Hs l p=true)(k:fW l p=A.length):fT l p id=if id=0 then A++B else A++⟨p,id⟩::B:=by
 unfold fT;rw [if_pos h,k,e]
 split
 .
  congr 1
  .simp
  .rw [List.drop_append,List.drop_of_length_le (by omega)];simp
 .simp
theorem qR {l A B:List Held}{p:Place}{id:Int}(e:l=A++B)(h:Hs l p=false)(k:fW l p=A.length):fT l p id=if id=0 then A++B else A++⟨p,id⟩::B:=by
 unfold fT;rw [if_neg (by rw [h];simp),k,e]
 split
 .rfl
 .simp
theorem put_eq {l:List Held}{p:Place}{id:Int}(hr:yL l):fT l p id=EN l p id:=by
 cases shape l p hr with
 | hit A B w e h k ha hb =>
  rw [td e h k]
  unfold EN CQ
  rw [e,List.foldl_append,KW _ _ ha,List.foldl_cons]
  have hle:p.aC<(⟨p,w⟩:Held).Place.aC∨(p.aC=(⟨p,w⟩:Held).Place.aC/\p.Slot<=(⟨p,w⟩:Held).Place.Slot):= .inr ⟨rfl,Int.le_refl _⟩
  by_cases h0:id=0
  .
   have:(id==0)=true:=by simpa using h0
   rw [this,pS (.inl rfl),if_pos rfl,DC _ hb,if_pos h0,if_pos rfl];simp
  .
   have:(id==0)=false:=by simpa using h0
   rw [this,wL hle,if_pos rfl,DC _ hb,if_neg h0,if_pos rfl];simp
 | miss A B e h k ha hb =>
  rw [qR e h k]
  unfold EN CQ
  rw [e,List.foldl_append,KW _ _ ha]
  by_cases h0:id=0
  .
   have:(id==0)=true:=by simpa using h0
   rw [this,DC _ hb,if_pos h0,if_pos rfl];simp
  .
   have:(id==0)=false:=by simpa using h0
   rw [this,if_neg h0]
   cases B with
   | nil=>rw [List.foldl_nil,if_neg Bool.false_ne_true];simp
   | cons x B =>
    have hx:=hb x (List.mem_cons_self ..)
    have hne:¬ x.Place=p:=fun e=>lv hx e.symm
    rw [List.foldl_cons,wL (by unfold ka at hx;omega),if_neg hne,DC _ (fun y hy=>hb y (List.mem_cons_of_mem _ hy)),if_pos rfl];simp
theorem DF {A B:List Held}(h:yL (A++B)):yL A/\yL B /\ ∀x∈A,∀y∈B,ka x.Place y.Place:=List.pairwise_append.1 h
theorem mD {l:List Held}{p:Place}{id:Int}(hg:Good l)(hp:aZ p=0):Good (fT l p id):=by
 have hr:=jO hg;have hf:=ta hg
 cases shape l p hr with
 | hit A B w e h k ha hb =>
  rw [td e h k]
  rw [e] at hr hf
  obtain ⟨h1,h2,h3⟩:=DF hr
  obtain ⟨h4,h5⟩:=List.pairwise_cons.1 h2
  split
  .exact qQ (List.pairwise_append.2 ⟨h1,h5,fun x hx y hy=>h3 x hx y (List.mem_cons_of_mem _ hy)⟩) (fun x hx=>hf x (by simp at hx ⊢;rcases hx with hx|hx <;> simp [hx]))
  .
   refine qQ (List.pairwise_append.2 ⟨h1,List.pairwise_cons.2 ⟨hb,h5⟩,fun x hx y hy=>?_⟩) (fun x hx=>?_)
   .
    rcases List.mem_cons.1 hy with hy|hy
    .subst hy;exact ha x hx
    .exact h3 x hx y (List.mem_cons_of_mem _ hy)
   .
    simp at hx
    rcases hx with hx|hx|hx
    .exact hf x (by simp [hx])
    .subst hx;exact ⟨hp,by assumption⟩
    .exact hf x (by simp [hx])
 | miss A B e h k ha hb =>
  rw [qR e h k]
  split
  .rw [<- e];exact hg
  .
   rw [e] at hr hf
   obtain ⟨h1,h2,h3⟩:=DF hr
   refine qQ (List.pairwise_append.2 ⟨h1,List.pairwise_cons.2 ⟨hb,h2⟩,fun x hx y hy=>?_⟩) (fun x hx=>?_)
   .
    rcases List.mem_cons.1 hy with hy|hy
    .subst hy;exact ha x hx
    .exact h3 x hx y hy
   .
    simp at hx
    rcases hx with hx|hx|hx
    .exact hf x (by simp [hx])
    .subst hx;exact ⟨hp,by assumption⟩
    .exact hf x (by simp [hx])
theorem zK {l:List Held}{p q:Place}{id:Int}(hg:Good l)(hp:aZ p=0)(hq:¬ q=p):mM (fT l p id) q=mM l q:=by
 have hr:=jO hg
 rw [at_eq (jO (mD hg hp)),at_eq hr]
 have hpq:¬ p=q:=fun e=>hq e.symm
 cases shape l p hr with
 | hit A B w e h k ha hb =>
  rw [td e h k,e,r8 (x:=⟨p,w⟩) hpq]
  split
  .rfl
  .rw [r8 (x:=⟨p,id⟩) hpq]
 | miss A B e h k ha hb =>
  rw [qR e h k,e]
  split
  .rfl
  .rw [r8 (x:=⟨p,id⟩) hpq]
theorem uN {l:List Held}{h:Int}:∀ (n s:Nat),(ml l h n s = -1 /\ ∀t,s<=t->t<s+n->mM l ⟨h,(t:Int)⟩≠0) ∨ ∃k:Nat,ml l h n s=k/\s<=k/\k<s+n/\mM l ⟨h,(k:Int)⟩=0 /\ ∀t,s<=t->t<k->mM l ⟨h,(t:Int)⟩≠0
 | 0,s => .inl ⟨rfl,fun t h1 h2=>by omega⟩
 | n+1,s=>by
  simp only [ml]
  by_cases e:mM l ⟨h,s⟩=0
  .rw [if_pos e];exact .inr ⟨s,rfl,Nat.le_refl _,by omega,e,fun t h1 h2=>by omega⟩
  .
   rw [if_neg e]
   rcases uN (l:=l) (h:=h) n (s+1) with ⟨h1,h2⟩ | ⟨k,h1,h2,h3,h4,h5⟩
   .
    refine .inl ⟨h1,fun t h3 h4=>?_⟩
    rcases Nat.eq_or_lt_of_le h3 with h5|h5
    .subst h5;exact e
    .exact h2 t h5 (by omega)
   .
    refine .inr ⟨k,h1,by omega,by omega,h4,fun t h6 h7=>?_⟩
    rcases Nat.eq_or_lt_of_le h6 with h8|h8
    .subst h8;exact e
    .exact h5 t h8 h7
theorem free_spec (l:List Held)(h:Int):(i6 l h = -1 /\ ∀t:Int,0<=t->t<=5->mM l ⟨h,t⟩≠0)∨(0<=i6 l h/\i6 l h<=5/\mM l ⟨h,i6 l h⟩=0 /\ ∀t:Int,0<=t->t<i6 l h->mM l ⟨h,t⟩≠0):=by
 rcases uN (l:=l) (h:=h) 6 0 with ⟨h1,h2⟩ | ⟨k,h1,h2,h3,h4,h5⟩
 .
  refine .inl ⟨h1,fun t h3 h4=>?_⟩
  have:=h2 t.toNat (Nat.zero_le _) (by omega)
  rwa [Int.toNat_of_nonneg h3] at this
 .
  have hk:i6 l h=k:=h1
  refine .inr ⟨by omega,by omega,by rw [hk];exact h4,fun t h6 h7=>?_⟩
  have:=h5 t.toNat (Nat.zero_le _) (by omega)
  rwa [Int.toNat_of_nonneg h6] at this

section
open Go Go.RowKit
theorem xL (bT:Value)(l:List Change)(most:Int)(w:World)(eA:Sl w bT l):Calls Tryz.prog 29 #[bT,iV most] w fun e w'=>e = .returned (.bool (rQ l most))/\Ext w w':=by
 have zm:=eA.gW
 refine R.enter [] [(0,bT),(1,iV most)] Tryz.func29 O O O O<|R.pK eA<|R.reg O<|R.u 1 O<|R.nil<|R.reg O<|R.u 1 O<|R.q (q.len' (dh 0 O) O Tryz.underlying34) O<|R.u 1 O<|?_
 by_cases h1:most<(l.length:Int)
 .
  exact R.q (q.eM O O) O<|R.nil<|R.az O O<|R.reg O<|R.u 1 O<|R.nil<|R.rv O Tryz.results29 O (rB (by (unfold rQ;(rw [decide_eq_false (by omega)];rfl))))
 refine R.q (q.ey O O) O<|R.nil<|R.aD O O<|R.reg O<|R.u 1 O<|R.nil<|R.loop (fun k:Nat=>[(0,bT),(5,iV (k:Int))]) (fun k:Nat=>[]) (fun k:Nat=>[ag.ls bT l]) (fun k:Nat=>k<=l.length/\(l.take k).all oC=true) (fun k:Nat=>l.length-k) 0 O (by exact ⟨by omega,rfl⟩) (sF O) (iz [] [0] O) ?_
 rintro k ⟨hk,HA⟩
 refine R.reg O<|R.u 2 O<|R.q (q.len' (dh 0 O) O Tryz.underlying34) O<|?_
 by_cases h2:k<l.length
 .
  refine R.q (q.dC O O) O<|R.nil<|R.az O O<|R.reg O<|R.u 2 O<|?_
  obtain ⟨x1,hx1⟩:∃z,l[k]? = some z:=⟨_,List.getElem?_eq_getElem (by omega)⟩
  refine R.q (q.idx (i:=k) (dh 0 O) O O bW O hx1) O<|R.q (q.m9 (j':=0) (dh 0 O) hx1 O bI O) O<|R.q (q.ln (dh 0 O) hx1 O bG O) O<|R.q (q.iy O Tryz.underlying9) O<|?_
  by_cases h3:20<x1.Key.size
  .
   exact R.q (q.eM O O) O<|R.u 9 O<|R.nil<|R.az O O<|R.reg O<|R.u 1 O<|R.nil<|R.rv O Tryz.results29 O (rB (by (unfold rQ;(rw [vA hx1 (show oC _=false from by unfold oC;simp;omega)];simp))))
  refine R.q (q.ey O O) O<|R.u 3 O<|R.qg O (q.idx (i:=k) (dh 0 O) O O bW O hx1) O<|R.qg O (q.m9 (j':=1) (dh 0 O) hx1 O cX O) O<|R.qg O (q.ln (dh 0 O) hx1 O bG O) O<|R.qg O (q.iy O Tryz.underlying9) O<|?_
  by_cases h4:40<x1.Val.size
  .
   exact R.qg O (q.eM O O) O<|R.u 1 O<|R.nil<|R.az O O<|R.reg O<|R.u 1 O<|R.nil<|R.rv O Tryz.results29 O (rB (by (unfold rQ;(rw [vA hx1 (show oC _=false from by unfold oC;simp;omega)];simp))))
  refine R.qg O (q.ey O O) O<|R.u 1 O<|R.nil<|R.aD O O<|R.reg O<|R.u 1 O<|R.q (q.bA (r:=((k+1:Nat):Int)) O O) O<|R.u 1 O<|R.nil<|R.back (k+1) O (by (exact ⟨by omega,CY hx1 HA (by unfold oC;simp_all)⟩)) (by omega) (sF O) (aA [] [0] O)
 exact R.q (q.cS O O) O<|R.nil<|R.aD O O<|R.reg O<|R.u 1 O<|R.nil<|R.rv O Tryz.results29 O (rB (by (unfold rQ;(rw [decide_eq_true (by omega),JQ (by omega) HA];rfl))))
theorem xM (bT:Value)(l:List ft)(most:Int)(w:World)(eA:Sl w bT l)(Ht:∀x∈l,Sl w x.cv x.Changes):Calls Tryz.prog 9 #[bT,iV most] w fun e w'=>e = .returned (.bool (pY l most))/\Ext w w':=by
 have zm:=eA.gW
 refine R.enter [] [(0,bT),(1,iV most)] Tryz.func9 O O O O<|R.pK eA<|R.nC (r:=ag.acts l) Ht (FZ Ht)<|R.reg O<|R.u 1 O<|R.nil<|R.reg O<|R.u 1 O<|R.q (q.len' (dh 1 O) O Tryz.underlying22) O<|R.u 1 O<|?_
 by_cases h1:most<(l.length:Int)
 .
  exact R.q (q.eM O O) O<|R.nil<|R.az O O<|R.reg O<|R.u 1 O<|R.nil<|R.rv O Tryz.results9 O (rB (by (unfold pY;(rw [decide_eq_false (by omega)];rfl))))
 refine R.q (q.ey O O) O<|R.nil<|R.aD O O<|R.reg O<|R.u 1 O<|R.nil<|R.loop (fun k:Nat=>[(0,bT),(5,iV (k:Int))]) (fun k:Nat=>[]) (fun k:Nat=>[ag.acts l,ag.ls bT l]) (fun k:Nat=>k<=l.length/\(l.take k).all oD=true) (fun k:Nat=>l.length-k) 0 O (by exact ⟨by omega,rfl⟩) (sF O) (iz [] [0,1] O) ?_
 rintro k ⟨hk,HA⟩
 refine R.reg O<|R.u 2 O<|R.q (q.len' (dh 1 O) O Tryz.underlying22) O<|?_
 by_cases h2:k<l.length
 .
  refine R.q (q.dC O O) O<|R.nil<|R.az O O<|R.reg O<|R.u 2 O<|?_
  obtain ⟨x1,hx1⟩:∃z,l[k]? = some z:=⟨_,List.getElem?_eq_getElem (by omega)⟩
  refine R.q (q.idx (i:=k) (dh 1 O) O O tF O hx1) O<|R.q (q.m9 (j':=1) (dh 1 O) hx1 O tG O) O<|R.q (q.ln (dh 1 O) hx1 O bG O) O<|R.q (q.iy O Tryz.underlying9) O<|?_
  by_cases h3:100<x1.S.size
  .
   exact R.q (q.eM O O) O<|R.u 9 O<|R.nil<|R.az O O<|R.reg O<|R.u 1 O<|R.nil<|R.rv O Tryz.results9 O (rB (by (unfold pY;(rw [vA hx1 (show oD _=false from by unfold oD;simp;omega)];simp))))
  refine R.q (q.ey O O) O<|R.u 3 O<|R.qg O (q.idx (i:=k) (dh 1 O) O O tF O hx1) O<|R.qg O (q.m9 (j':=10) (dh 1 O) hx1 O Hg O) O<|R.qg O (q.ln (dh 1 O) hx1 O gx O) O<|?_
  rcases Bool.eq_false_or_eq_true (rQ x1.Changes 70) with h4|h4
  .
   refine R.cg O (q.call NP O O (fun w hw=>(cv (congrArg Value.bool h4) (xL _ x1.Changes 70 w ((fun _=>Wd.RD (l:=l) 0 O (List.mem_of_getElem? hx1)) w hw) )))) O<|R.u 2 O<|R.nil<|R.aD O O<|R.reg O<|R.u 1 O<|R.q (q.bA (r:=((k+1:Nat):Int)) O O) O<|R.u 1 O<|R.nil<|R.back (k+1) O (by (exact ⟨by omega,CY hx1 HA (by unfold oD;simp_all)⟩)) (by omega) (sF O) (aA [] [0,1] O)
  exact R.cg O (q.call NP O O (fun w hw=>(cv (congrArg Value.bool h4) (xL _ x1.Changes 70 w ((fun _=>Wd.RD (l:=l) 0 O (List.mem_of_getElem? hx1)) w hw) )))) O<|R.u 2 O<|R.nil<|R.az O O<|R.reg O<|R.u 1 O<|R.nil<|R.rv O Tryz.results9 O (rB (by (unfold pY;(rw [vA hx1 (show oD _=false from by unfold oD;simp_all)];simp))))
 exact R.q (q.cS O O) O<|R.nil<|R.aD O O<|R.reg O<|R.u 1 O<|R.nil<|R.rv O Tryz.results9 O (rB (by (unfold pY;(rw [decide_eq_true (by omega),JQ (by omega) HA];rfl))))
theorem BH (bU bK bL bM:Value)(r:aB)(a:ft)(w:World)(own:List Nat)(H:HN w own [] [ag.ls bU r.ao,ag.ls bK r.Things,ag.ls bL r.Held,ag.ls bM r.Notes])(hk:Ok r):RC Tryz.prog 24 #[.agg #[bU,bK,bL,bM,iV r.af,iV r.ah],.agg #[.string a.Kind,.string a.S,iV a.P.aC,iV a.P.Slot,iV a.Q.aC,iV a.Q.Slot,iV a.A,iV a.B,iV a.N,.int .u64 a.K,a.cv]] H (fun z:Value×Value×Value×Value => .tuple #[.agg #[z.1,z.2.1,z.2.2.1,z.2.2.2,iV (cp r a).1.af,iV (cp r a).1.ah],df (cp r a).2]) (fun _=>[]) (fun z=>[ag.ls z.1 (cp r a).1.ao,ag.ls z.2.1 (cp r a).1.Things,ag.ls z.2.2.1 (cp r a).1.Held,ag.ls z.2.2.2 (cp r a).1.Notes]):=by
 have eK:=H.cq 0 rfl
 have dJ:=H.cq 1 rfl
 have fG:=H.cq 2 rfl
 have eL:=H.cq 3 rfl
 refine R.bF [(0,.agg #[bU,bK,bL,bM,iV r.af,iV r.ah]),(1,.agg #[.string a.Kind,.string a.S,iV a.P.aC,iV a.P.Slot,iV a.Q.aC,iV a.Q.Slot,iV a.A,iV a.B,iV a.N,.int .u64 a.K,a.cv])] Tryz.func24 O O O O H<|R.reg O<|R.s O (s.box O O O) fun b1=>?_
 refine R.s O (s.box O O O) fun b2=>?_
 refine R.s O (s.alloc dq O O) fun b3=>?_
 refine R.u 1 O<|R.nil<|R.reg O<|R.q (q.aP O Hb O) O<|R.q (q.ld 1 O O bG O) O<|R.nil<|R.reg O<|?_
 by_cases h1:a.Kind=⟨#[109,97,107,101]⟩
 .
  refine R.q (q.ru O O h1) O<|R.u 1 O<|R.nil<|R.az O O<|R.reg O<|R.q (q.cT 2 O O aj) O<|R.q (q.aP O j2 O) O<|R.q (q.G4 (ds:=jN a.P) 1 O O bP O) O<|R.q (q.aP O qu O) O<|R.q (q.ld 1 O O ap O) O<|R.s O (s.aT bJ bJ _ _ _ O O O RY O O (fun w own hw H=>H8 bU bK bL bM r a.P a.A w own H ‹_›) O) ?_
  rintro ⟨z1,z2,z3,z4⟩
  dsimp only
  refine R.u 2 O<|R.s O (s.fP 0 _ O O O (fun _ _=>rfl) (.inl aj) (fun w hw=>(ae (Sl.one (hw.bO 0 O)) (ae (Sl.one (hw.bO 1 O)) (ae (Sl.one (hw.bO 2 O)) (ae (Sl.one (hw.bO 3 O)) (ae O (ae O aO))))))) O O O) fun _=>?_
  refine R.u 1 O<|R.nil ?_
  have hz:cp r a=(((dQ r a.P a.A).1),(dQ r a.P a.A).2):=by (unfold cp;(repeat' split) <;> rfl)
  rw [hz]
  exact R.w2 (z1,z2,z3,z4) [3] bJ O Tryz.results24 (RV.cell 0 O O aj) (RV.tmp O) O O O (dy O O)
 refine R.q (q.rx O O h1) O<|R.u 1 O<|R.nil<|R.aD O O<|R.reg O<|?_
 by_cases h2:a.Kind=⟨#[103,105,118,101]⟩
 .
  refine R.q (q.ru O O h2) O<|R.u 1 O<|R.nil<|R.az O O<|R.reg O<|R.q (q.cT 2 O O aj) O<|R.q (q.aP O j2 O) O<|R.q (q.G4 (ds:=jN a.P) 1 O O bP O) O<|R.q (q.aP O Hc O) O<|R.q (q.G4 (ds:=jN a.Q) 1 O O bP O) O<|R.q (q.aP O qu O) O<|R.q (q.ld 1 O O ap O) O<|R.q (q.aP O yZ O) O<|R.q (q.ld 1 O O ap O) O<|R.s O (s.aT bJ bJ _ _ _ O O O RZ O O (fun w own hw H=>H9 bU bK bL bM r a.P a.Q a.A a.B w own H ‹_›) O) ?_
  rintro ⟨z5,z6,z7,z8⟩
  dsimp only
  refine R.u 2 O<|R.s O (s.fP 0 _ O O O (fun _ _=>rfl) (.inl aj) (fun w hw=>(ae (Sl.one (hw.bO 0 O)) (ae (Sl.one (hw.bO 1 O)) (ae (Sl.one (hw.bO 2 O)) (ae (Sl.one (hw.bO 3 O)) (ae O (ae O aO))))))) O O O) fun _=>?_
  refine R.u 1 O<|R.nil ?_
  have hz:cp r a=(((fq r a.P a.Q a.A a.B).1),(fq r a.P a.Q a.A a.B).2):=by (unfold cp;(repeat' split) <;> first|rfl|(exfalso;simp_all;done)|(simp_all;done))
  rw [hz]
  exact R.w2 (z5,z6,z7,z8) [3] bJ O Tryz.results24 (RV.cell 0 O O aj) (RV.tmp O) O O O (dy O O)
 refine R.q (q.rx O O h2) O<|R.u 1 O<|R.nil<|R.aD O O<|R.reg O<|?_
 by_cases h3:a.Kind=⟨#[109,111,118,101]⟩
 .
  refine R.q (q.ru O O h3) O<|R.u 1 O<|R.nil<|R.az O O<|R.reg O<|R.q (q.cT 2 O O aj) O<|R.q (q.aP O j2 O) O<|R.q (q.G4 (ds:=jN a.P) 1 O O bP O) O<|R.q (q.aP O qu O) O<|R.q (q.ld 1 O O ap O) O<|R.s O (s.aT bJ bJ _ _ _ O O O R0 O O (fun w own hw H=>Ia bU bK bL bM r a.P a.A w own H ‹_›) O) ?_
  rintro ⟨z9,mG,l5,z12⟩
  dsimp only
  refine R.u 2 O<|R.s O (s.fP 0 _ O O O (fun _ _=>rfl) (.inl aj) (fun w hw=>(ae (Sl.one (hw.bO 0 O)) (ae (Sl.one (hw.bO 1 O)) (ae (Sl.one (hw.bO 2 O)) (ae (Sl.one (hw.bO 3 O)) (ae O (ae O aO))))))) O O O) fun _=>?_
  refine R.u 1 O<|R.nil ?_
  have hz:cp r a=(((jh r a.P a.A).1),(jh r a.P a.A).2):=by (unfold cp;(repeat' split) <;> first|rfl|(exfalso;simp_all;done)|(simp_all;done))
  rw [hz]
  exact R.w2 (z9,mG,l5,z12) [3] bJ O Tryz.results24 (RV.cell 0 O O aj) (RV.tmp O) O O O (dy O O)
 refine R.q (q.rx O O h3) O<|R.u 1 O<|R.nil<|R.aD O O<|R.reg O<|?_
 by_cases h4:a.Kind=⟨#[100,114,111,112]⟩
 .
  refine R.q (q.ru O O h4) O<|R.u 1 O<|R.nil<|R.az O O<|R.reg O<|R.q (q.cT 2 O O aj) O<|R.q (q.aP O j2 O) O<|R.q (q.G4 (ds:=jN a.P) 1 O O bP O) O<|R.s O (s.aT bJ bJ _ _ _ O O O R1 O O (fun w own hw H=>Ib bU bK bL bM r a.P w own H ‹_›) O) ?_
  rintro ⟨py,yv,Gt,Ce⟩
  dsimp only
  refine R.u 2 O<|R.s O (s.fP 0 _ O O O (fun _ _=>rfl) (.inl aj) (fun w hw=>(ae (Sl.one (hw.bO 0 O)) (ae (Sl.one (hw.bO 1 O)) (ae (Sl.one (hw.bO 2 O)) (ae (Sl.one (hw.bO 3 O)) (ae O (ae O aO))))))) O O O) fun _=>?_
  refine R.u 1 O<|R.nil ?_
  have hz:cp r a=(((jJ r a.P).1),(jJ r a.P).2):=by (unfold cp;(repeat' split) <;> first|rfl|(exfalso;simp_all;done)|(simp_all;done))
  rw [hz]
  exact R.w2 (py,yv,Gt,Ce) [3] bJ O Tryz.results24 (RV.cell 0 O O aj) (RV.tmp O) O O O (dy O O)
 refine R.q (q.rx O O h4) O<|R.u 1 O<|R.nil<|R.aD O O<|R.reg O<|?_
 by_cases h5:a.Kind=⟨#[114,101,118,111,107,101]⟩
 .
  refine R.q (q.ru O O h5) O<|R.u 1 O<|R.nil<|R.az O O<|R.reg O<|R.q (q.cT 2 O O aj) O<|R.q (q.aP O j2 O) O<|R.q (q.G4 (ds:=jN a.P) 1 O O bP O) O<|R.s O (s.aT bJ bJ _ _ _ O O O R2 O O (fun w own hw H=>Dv bU bK bL bM r a.P w own H ‹_›) O) ?_
  rintro ⟨z17,vj,xm,z20⟩
  dsimp only
  refine R.u 2 O<|R.s O (s.fP 0 _ O O O (fun _ _=>rfl) (.inl aj) (fun w hw=>(ae (Sl.one (hw.bO 0 O)) (ae (Sl.one (hw.bO 1 O)) (ae (Sl.one (hw.bO 2 O)) (ae (Sl.one (hw.bO 3 O)) (ae O (ae O aO))))))) O O O) fun _=>?_
  refine R.u 1 O<|R.nil ?_
  have hz:cp r a=(((fa r a.P).1),(fa r a.P).2):=by (unfold cp;(repeat' split) <;> first|rfl|(exfalso;simp_all;done)|(simp_all;done))
  rw [hz]
  exact R.w2 (z17,vj,xm,z20) [3] bJ O Tryz.results24 (RV.cell 0 O O aj) (RV.tmp O) O O O (dy O O)
 refine R.q (q.rx O O h5) O<|R.u 1 O<|R.nil<|R.aD O O<|R.reg O<|?_
 by_cases h6:a.Kind=⟨#[119,114,105,116,101]⟩
 .
  refine R.q (q.ru O O h6) O<|R.u 1 O<|R.nil<|R.az O O<|R.reg O<|R.q (q.cT 2 O O aj) O<|R.q (q.aP O j2 O) O<|R.q (q.G4 (ds:=jN a.P) 1 O O bP O) O<|R.q (q.aP O tG O) O<|R.q (q.ld 1 O O bG O) O<|R.s O (s.aT bJ bJ _ _ _ O O O R3 O O (fun w own hw H=>Fh bU bK bL bM r a.P a.S w own H ‹_›) O) ?_
  rintro ⟨z21,z22,z23,z24⟩
  dsimp only
  refine R.u 2 O<|R.s O (s.fP 0 _ O O O (fun _ _=>rfl) (.inl aj) (fun w hw=>(ae (Sl.one (hw.bO 0 O)) (ae (Sl.one (hw.bO 1 O)) (ae (Sl.one (hw.bO 2 O)) (ae (Sl.one (hw.bO 3 O)) (ae O (ae O aO))))))) O O O) fun _=>?_
  refine R.u 1 O<|R.nil ?_
  have hz:cp r a=(((fY r a.P a.S).1),(fY r a.P a.S).2):=by (unfold cp;(repeat' split) <;> first|rfl|(exfalso;simp_all;done)|(simp_all;done))
  rw [hz]
  exact R.w2 (z21,z22,z23,z24) [3] bJ O Tryz.results24 (RV.cell 0 O O aj) (RV.tmp O) O O O (dy O O)
 refine R.q (q.rx O O h6) O<|R.u 1 O<|R.nil<|R.aD O O<|R.reg O<|?_
 by_cases h7:a.Kind=⟨#[115,101,110,100]⟩
 .
  refine R.q (q.ru O O h7) O<|R.u 1 O<|R.nil<|R.az O O<|R.reg O<|R.q (q.cT 2 O O aj) O<|R.q (q.aP O j2 O) O<|R.q (q.G4 (ds:=jN a.P) 1 O O bP O) O<|R.q (q.aP O tG O) O<|R.q (q.ld 1 O O bG O) O<|R.q (q.aP O qu O) O<|R.q (q.ld 1 O O ap O) O<|R.q (q.aP O yZ O) O<|R.q (q.ld 1 O O ap O) O<|R.s O (s.aT bJ bJ _ _ _ O O O R4 O O (fun w own hw H=>Ic bU bK bL bM r a.P a.S a.A a.B w own H ‹_›) O) ?_
  rintro ⟨z25,z26,z27,z28⟩
  dsimp only
  refine R.u 2 O<|R.s O (s.fP 0 _ O O O (fun _ _=>rfl) (.inl aj) (fun w hw=>(ae (Sl.one (hw.bO 0 O)) (ae (Sl.one (hw.bO 1 O)) (ae (Sl.one (hw.bO 2 O)) (ae (Sl.one (hw.bO 3 O)) (ae O (ae O aO))))))) O O O) fun _=>?_
  refine R.u 1 O<|R.nil ?_
  have hz:cp r a=(((dK r a.P a.S a.A a.B).1),(dK r a.P a.S a.A a.B).2):=by (unfold cp;(repeat' split) <;> first|rfl|(exfalso;simp_all;done)|(simp_all;done))
  rw [hz]
  exact R.w2 (z25,z26,z27,z28) [3] bJ O Tryz.results24 (RV.cell 0 O O aj) (RV.tmp O) O O O (dy O O)
 refine R.q (q.rx O O h7) O<|R.u 1 O<|R.nil<|R.aD O O<|R.reg O<|?_
 by_cases h8:a.Kind=⟨#[116,97,107,101]⟩
 .
  refine R.q (q.ru O O h8) O<|R.u 1 O<|R.nil<|R.az O O<|R.reg O<|R.q (q.cT 2 O O aj) O<|R.q (q.aP O j2 O) O<|R.q (q.G4 (ds:=jN a.P) 1 O O bP O) O<|R.s O (s.aT bJ bJ _ _ _ O O O R5 O O (fun w own hw H=>Ie bU bK bL bM r a.P w own H ‹_›) O) ?_
  rintro ⟨z29,z30,z31,z32⟩
  dsimp only
  refine R.u 5 O<|R.s O (s.alloc dq O O) fun b4=>?_
  refine R.s O (s.alloc eS O O) fun b5=>?_
  refine R.s O (s.fP 1 _ O O O (fun _ _=>rfl) (.inl aj) (fun w hw=>(ae (Sl.one (hw.bO 0 O)) (ae (Sl.one (hw.bO 1 O)) (ae (Sl.one (hw.bO 2 O)) (ae (Sl.one (hw.bO 3 O)) (ae O (ae O aO))))))) O O O) fun _=>?_
  refine R.s O (s.st 0 _ O O O O (.inl dG) O O O O) fun _=>?_
  refine R.u 2 O<|R.nil<|R.reg O<|R.q (q.cT 1 O O aj) O<|R.u 1 O<|R.s O (s.fP 2 _ O O O (fun _ _=>rfl) (.inl aj) (fun w hw=>(ae (Sl.one (hw.bO 0 O)) (ae (Sl.one (hw.bO 1 O)) (ae (Sl.one (hw.bO 2 O)) (ae (Sl.one (hw.bO 3 O)) (ae O (ae O aO))))))) O O O) fun _=>?_
  refine R.u 1 O<|R.nil ?_
  have hz:cp r a=(((eG r a.P).1),(eG r a.P).2.2.2):=by (unfold cp;(repeat' split) <;> first|rfl|(exfalso;simp_all;done)|(simp_all;done))
  rw [hz]
  exact R.w2 (z29,z30,z31,z32) [5] bJ O Tryz.results24 (RV.cell 2 O O aj) (RV.tmp O) O O O (dy O O)
 refine R.q (q.rx O O h8) O<|R.u 1 O<|R.nil<|R.aD O O<|R.reg O<|R.q (q.cT 2 O O aj) O<|R.s O (s.fP 0 _ O O O (fun _ _=>rfl) (.inl aj) (fun w hw=>(ae (Sl.one (hw.bO 0 O)) (ae (Sl.one (hw.bO 1 O)) (ae (Sl.one (hw.bO 2 O)) (ae (Sl.one (hw.bO 3 O)) (ae O (ae O aO))))))) O O O) fun _=>?_
 refine R.u 1 O<|R.nil ?_
 have hz:cp r a=(r,0):=by (unfold cp;(repeat' split) <;> first|rfl|(exfalso;simp_all;done)|(simp_all;done))
 rw [hz]
 exact R.w2 (bU,bK,bL,bM) [3] bJ O Tryz.results24 (RV.cell 0 O O aj) (RV.tmp O) O O O (dy O (iJ O))
theorem Ql:dQ (⟨[],[],[],[],1,1⟩:aB) (⟨1,0⟩:Place) 1=(⟨[⟨1,1,7,0,0⟩],[⟨1,1,⟨#[]⟩⟩],[⟨⟨1,0⟩,1⟩],[],2,2⟩,0):=by
 have e:fT [] ⟨1,0⟩ 1=[⟨⟨1,0⟩,1⟩]:=by rw [put_eq List.Pairwise.nil];decide
 have a:mM [] ⟨1,0⟩=0:=by rw [at_eq List.Pairwise.nil];decide
 unfold dQ gI fA
 rw [if_pos (.inl rfl),if_pos (by rw [a];rfl),if_neg (by decide)]
 simp [e]
section
attribute [local irreducible] dQ aS
end
end
end Go.Proofs.YtkbhcbipadkcaaaGreatDoor
section
namespace Go.Proofs
open Go.Shelf
def Tryz.lays172_ren:Go.Shelf.Ren:=⟨fun|172=>187|244=>205|245=>206|247=>236|279=>237|280=>238|281=>239|282=>240|287=>256|316=>257|171=>130|205=>258|321=>263|322=>264|243=>175|246=>197|283=>229|284=>230|285=>231|286=>232|129=>216|317=>251|318=>252|319=>253|320=>254|337=>261|338=>262|n=>n,fun|9=>9|3=>3|75=>38|76=>195|4=>4|5=>5|167=>276|37=>138|0=>0|85=>277|2=>2|168=>279|53=>33|175=>297|46=>188|210=>300|127=>239|145=>310|143=>308|21=>21|171=>271|173=>273|212=>294|51=>232|20=>20|213=>295|232=>311|233=>312|80=>140|n=>n,fun|15=>2|16=>3|17=>1|18=>4|19=>5|n=>n⟩
theorem Tryz.lays172:Go.Proofs.Lays.n172 Tryz.prog Tryz.lays172_ren:={
 mixed:=by kernel_rfl
 f129:=Tryz.func216.trans (congrArg some (by kernel_rfl))
 f171:=Tryz.func130.trans (congrArg some (by kernel_rfl))
 f172:=Tryz.func187.trans (congrArg some (by kernel_rfl))
 f205:=Tryz.func258.trans (congrArg some (by kernel_rfl))
 f243:=Tryz.func175.trans (congrArg some (by kernel_rfl))
 f244:=Tryz.func205.trans (congrArg some (by kernel_rfl))
 f245:=Tryz.func206.trans (congrArg some (by kernel_rfl))
 f246:=Tryz.func197.trans (congrArg some (by kernel_rfl))
 f247:=Tryz.func236.trans (congrArg some (by kernel_rfl))
 f279:=Tryz.func237.trans (congrArg some (by kernel_rfl))
 f280:=Tryz.func238.trans (congrArg some (by kernel_rfl))
 f281:=Tryz.func239.trans (congrArg some (by kernel_rfl))
 f282:=Tryz.func240.trans (congrArg some (by kernel_rfl))
 f283:=Tryz.func229.trans (congrArg some (by kernel_rfl))
 f284:=Tryz.func230.trans (congrArg some (by kernel_rfl))
 f285:=Tryz.func231.trans (congrArg some (by kernel_rfl))
 f286:=Tryz.func232.trans (congrArg some (by kernel_rfl))
 f287:=Tryz.func256.trans (congrArg some (by kernel_rfl))
 f316:=Tryz.func257.trans (congrArg some (by kernel_rfl))
 f317:=Tryz.func251.trans (congrArg some (by kernel_rfl))
 f318:=Tryz.func252.trans (congrArg some (by kernel_rfl))
 f319:=Tryz.func253.trans (congrArg some (by kernel_rfl))
 f320:=Tryz.func254.trans (congrArg some (by kernel_rfl))
 f321:=Tryz.func263.trans (congrArg some (by kernel_rfl))
 f322:=Tryz.func264.trans (congrArg some (by kernel_rfl))
 f337:=Tryz.func261.trans (congrArg some (by kernel_rfl))
 f338:=Tryz.func262.trans (congrArg some (by kernel_rfl))
 t0:=Tryz.underlying0
 a0:=Tryz.isAgg0
 z0:=Tryz.sizeOf0
 v0:=Tryz.zeroValue0
 t2:=Tryz.underlying2
 a2:=Tryz.isAgg2
 z2:=Tryz.sizeOf2
 v2:=Tryz.zeroValue2
 t3:=Tryz.underlying3
 a3:=Tryz.isAgg3
 z3:=Tryz.sizeOf3
 v3:=Tryz.zeroValue3
 t4:=Tryz.underlying4
 a4:=Tryz.isAgg4
 z4:=Tryz.sizeOf4
 v4:=Tryz.zeroValue4
 t5:=Tryz.underlying5
 a5:=Tryz.isAgg5
 z5:=Tryz.sizeOf5
 v5:=Tryz.zeroValue5
 t9:=Tryz.underlying9
 a9:=Tryz.isAgg9
 z9:=Tryz.sizeOf9
 v9:=Tryz.zeroValue9
 t20:=Tryz.underlying20
 a20:=Tryz.isAgg20
 z20:=Tryz.sizeOf20
 v20:=Tryz.zeroValue20
 t21:=Tryz.underlying21
 a21:=Tryz.isAgg21
 z21:=Tryz.sizeOf21
 v21:=Tryz.zeroValue21
 t37:=Tryz.underlying138
 a37:=Tryz.isAgg138
 z37:=Tryz.sizeOf138
 v37:=Tryz.zeroValue138
 t46:=Tryz.underlying188
 a46:=Tryz.isAgg188
 z46:=Tryz.sizeOf188
 v46:=Tryz.zeroValue188
 t51:=Tryz.underlying232
 a51:=Tryz.isAgg232
 z51:=Tryz.sizeOf232
 v51:=Tryz.zeroValue232
 t53:=Tryz.underlying33
 a53:=Tryz.isAgg33
 z53:=Tryz.sizeOf33
 v53:=Tryz.zeroValue33
 t75:=Tryz.underlying38
 a75:=Tryz.isAgg38
 z75:=Tryz.sizeOf38
 v75:=Tryz.zeroValue38
 t76:=Tryz.underlying195
 a76:=Tryz.isAgg195
 z76:=Tryz.sizeOf195
 v76:=Tryz.zeroValue195
 t85:=Tryz.underlying277
 a85:=Tryz.isAgg277
 z85:=Tryz.sizeOf277
 v85:=Tryz.zeroValue277
 t127:=Tryz.underlying239
 a127:=Tryz.isAgg239
 z127:=Tryz.sizeOf239
 v127:=Tryz.zeroValue239
 t143:=Tryz.underlying308
 a143:=Tryz.isAgg308
 z143:=Tryz.sizeOf308
 v143:=Tryz.zeroValue308
 t145:=Tryz.underlying310
 a145:=Tryz.isAgg310
 z145:=Tryz.sizeOf310
 v145:=Tryz.zeroValue310
 t167:=Tryz.underlying276
 a167:=Tryz.isAgg276
 z167:=Tryz.sizeOf276
 v167:=Tryz.zeroValue276
 t168:=Tryz.underlying279
 a168:=Tryz.isAgg279
 z168:=Tryz.sizeOf279
 v168:=Tryz.zeroValue279
 t171:=Tryz.underlying271
 a171:=Tryz.isAgg271
 z171:=Tryz.sizeOf271
 v171:=Tryz.zeroValue271
 t173:=Tryz.underlying273
 a173:=Tryz.isAgg273
 z173:=Tryz.sizeOf273
 v173:=Tryz.zeroValue273
 t175:=Tryz.underlying297
 a175:=Tryz.isAgg297
 z175:=Tryz.sizeOf297
 v175:=Tryz.zeroValue297
 t210:=Tryz.underlying300
 a210:=Tryz.isAgg300
 z210:=Tryz.sizeOf300
 v210:=Tryz.zeroValue300
 t212:=Tryz.underlying294
 a212:=Tryz.isAgg294
 z212:=Tryz.sizeOf294
 v212:=Tryz.zeroValue294
 t213:=Tryz.underlying295
 a213:=Tryz.isAgg295
 z213:=Tryz.sizeOf295
 t232:=Tryz.underlying311
 a232:=Tryz.isAgg311
 z232:=Tryz.sizeOf311
 v232:=Tryz.zeroValue311
 t233:=Tryz.underlying312
 a233:=Tryz.isAgg312
 z233:=Tryz.sizeOf312
 v233:=Tryz.zeroValue312
 g15:=by kernel_rfl
 g16:=by kernel_rfl
 g17:=by kernel_rfl
 g18:=by kernel_rfl
 g19:=by kernel_rfl }
def Tryz.laysM171_ren:Go.Shelf.Ren:=⟨fun|171=>130|243=>175|246=>197|283=>229|284=>230|285=>231|286=>232|129=>216|317=>251|318=>252|319=>253|320=>254|337=>261|338=>262|n=>n,fun|3=>3|9=>9|2=>2|4=>4|171=>271|0=>0|53=>33|37=>138|5=>5|173=>273|212=>294|51=>232|20=>20|213=>295|46=>188|232=>311|233=>312|n=>n,fun|17=>1|18=>4|19=>5|n=>n⟩
theorem Tryz.laysM171:Go.Proofs.LaysM.n171 Tryz.prog Tryz.laysM171_ren:={
 mixed:=by kernel_rfl
 f129:=Tryz.func216.trans (congrArg some (by kernel_rfl))
 f171:=Tryz.func130.trans (congrArg some (by kernel_rfl))
 f243:=Tryz.func175.trans (congrArg some (by kernel_rfl))
 f246:=Tryz.func197.trans (congrArg some (by kernel_rfl))
 f283:=Tryz.func229.trans (congrArg some (by kernel_rfl))
 f284:=Tryz.func230.trans (congrArg some (by kernel_rfl))
 f285:=Tryz.func231.trans (congrArg some (by kernel_rfl))
 f286:=Tryz.func232.trans (congrArg some (by kernel_rfl))
 f317:=Tryz.func251.trans (congrArg some (by kernel_rfl))
 f318:=Tryz.func252.trans (congrArg some (by kernel_rfl))
 f319:=Tryz.func253.trans (congrArg some (by kernel_rfl))
 f320:=Tryz.func254.trans (congrArg some (by kernel_rfl))
 f337:=Tryz.func261.trans (congrArg some (by kernel_rfl))
 f338:=Tryz.func262.trans (congrArg some (by kernel_rfl))
 t0:=Tryz.underlying0
 a0:=Tryz.isAgg0
 z0:=Tryz.sizeOf0
 v0:=Tryz.zeroValue0
 t2:=Tryz.underlying2
 a2:=Tryz.isAgg2
 z2:=Tryz.sizeOf2
 v2:=Tryz.zeroValue2
 t3:=Tryz.underlying3
 a3:=Tryz.isAgg3
 z3:=Tryz.sizeOf3
 v3:=Tryz.zeroValue3
 t4:=Tryz.underlying4
 a4:=Tryz.isAgg4
 z4:=Tryz.sizeOf4
 v4:=Tryz.zeroValue4
 t5:=Tryz.underlying5
 a5:=Tryz.isAgg5
 z5:=Tryz.sizeOf5
 v5:=Tryz.zeroValue5
 t9:=Tryz.underlying9
 a9:=Tryz.isAgg9
 z9:=Tryz.sizeOf9
 v9:=Tryz.zeroValue9
 t20:=Tryz.underlying20
 a20:=Tryz.isAgg20
 z20:=Tryz.sizeOf20
 v20:=Tryz.zeroValue20
 t37:=Tryz.underlying138
 a37:=Tryz.isAgg138
 z37:=Tryz.sizeOf138
 v37:=Tryz.zeroValue138
 t46:=Tryz.underlying188
 a46:=Tryz.isAgg188
 z46:=Tryz.sizeOf188
 v46:=Tryz.zeroValue188
 t51:=Tryz.underlying232
 a51:=Tryz.isAgg232
 z51:=Tryz.sizeOf232
 v51:=Tryz.zeroValue232
 t53:=Tryz.underlying33
 a53:=Tryz.isAgg33
 z53:=Tryz.sizeOf33
 v53:=Tryz.zeroValue33
 t171:=Tryz.underlying271
 a171:=Tryz.isAgg271
 z171:=Tryz.sizeOf271
 v171:=Tryz.zeroValue271
 t173:=Tryz.underlying273
 a173:=Tryz.isAgg273
 z173:=Tryz.sizeOf273
 v173:=Tryz.zeroValue273
 t212:=Tryz.underlying294
 a212:=Tryz.isAgg294
 z212:=Tryz.sizeOf294
 v212:=Tryz.zeroValue294
 t213:=Tryz.underlying295
 a213:=Tryz.isAgg295
 z213:=Tryz.sizeOf295
 t232:=Tryz.underlying311
 a232:=Tryz.isAgg311
 z232:=Tryz.sizeOf311
 v232:=Tryz.zeroValue311
 t233:=Tryz.underlying312
 a233:=Tryz.isAgg312
 z233:=Tryz.sizeOf312
 v233:=Tryz.zeroValue312
 g17:=by kernel_rfl
 g18:=by kernel_rfl
 g19:=by kernel_rfl
 i0:=by kernel_rfl
 i2:=by kernel_rfl
 i3:=by kernel_rfl
 i4:=by kernel_rfl
 i5:=by kernel_rfl
 i9:=by kernel_rfl
 i20:=by kernel_rfl
 i37:=by kernel_rfl
 i46:=by kernel_rfl
 i51:=by kernel_rfl
 i53:=by kernel_rfl
 i171:=by kernel_rfl
 i173:=by kernel_rfl
 i212:=by kernel_rfl
 i232:=by kernel_rfl
 i233:=by kernel_rfl
 m17:=by kernel_rfl
 m18:=by kernel_rfl
 m19:=by kernel_rfl }
def Tryz.laysC172_ren:Go.Shelf.Ren:=⟨fun|172=>187|244=>205|245=>206|247=>236|279=>237|280=>238|281=>239|282=>240|287=>256|316=>257|171=>130|205=>258|321=>263|322=>264|243=>175|246=>197|283=>229|284=>230|285=>231|286=>232|129=>216|317=>251|318=>252|319=>253|320=>254|337=>261|338=>262|n=>n,fun|9=>9|3=>3|75=>38|76=>195|4=>4|5=>5|167=>276|37=>138|0=>0|85=>277|2=>2|168=>279|53=>33|175=>297|46=>188|210=>300|127=>239|145=>310|143=>308|21=>21|171=>271|173=>273|212=>294|51=>232|20=>20|213=>295|232=>311|233=>312|80=>140|n=>n,fun|15=>2|16=>3|17=>1|18=>4|19=>5|n=>n⟩
theorem Tryz.laysC172:Go.Proofs.LaysC.n172 Tryz.prog Tryz.laysC172_ren:={
 mixed:=by kernel_rfl
 f129:=Tryz.func216.trans (congrArg some (by kernel_rfl))
 f171:=Tryz.func130.trans (congrArg some (by kernel_rfl))
 f172:=Tryz.func187.trans (congrArg some (by kernel_rfl))
 f205:=Tryz.func258.trans (congrArg some (by kernel_rfl))
 f243:=Tryz.func175.trans (congrArg some (by kernel_rfl))
 f244:=Tryz.func205.trans (congrArg some (by kernel_rfl))
 f245:=Tryz.func206.trans (congrArg some (by kernel_rfl))
 f246:=Tryz.func197.trans (congrArg some (by kernel_rfl))
 f247:=Tryz.func236.trans (congrArg some (by kernel_rfl))
 f279:=Tryz.func237.trans (congrArg some (by kernel_rfl))
 f280:=Tryz.func238.trans (congrArg some (by kernel_rfl))
 f281:=Tryz.func239.trans (congrArg some (by kernel_rfl))
 f282:=Tryz.func240.trans (congrArg some (by kernel_rfl))
 f283:=Tryz.func229.trans (congrArg some (by kernel_rfl))
 f284:=Tryz.func230.trans (congrArg some (by kernel_rfl))
 f285:=Tryz.func231.trans (congrArg some (by kernel_rfl))
 f286:=Tryz.func232.trans (congrArg some (by kernel_rfl))
 f287:=Tryz.func256.trans (congrArg some (by kernel_rfl))
 f316:=Tryz.func257.trans (congrArg some (by kernel_rfl))
 f317:=Tryz.func251.trans (congrArg some (by kernel_rfl))
 f318:=Tryz.func252.trans (congrArg some (by kernel_rfl))
 f319:=Tryz.func253.trans (congrArg some (by kernel_rfl))
 f320:=Tryz.func254.trans (congrArg some (by kernel_rfl))
 f321:=Tryz.func263.trans (congrArg some (by kernel_rfl))
 f322:=Tryz.func264.trans (congrArg some (by kernel_rfl))
 f337:=Tryz.func261.trans (congrArg some (by kernel_rfl))
 f338:=Tryz.func262.trans (congrArg some (by kernel_rfl))
 t0:=Tryz.underlying0
 a0:=Tryz.isAgg0
 z0:=Tryz.sizeOf0
 v0:=Tryz.zeroValue0
 t2:=Tryz.underlying2
 a2:=Tryz.isAgg2
 z2:=Tryz.sizeOf2
 v2:=Tryz.zeroValue2
 t3:=Tryz.underlying3
 a3:=Tryz.isAgg3
 z3:=Tryz.sizeOf3
 v3:=Tryz.zeroValue3
 t4:=Tryz.underlying4
 a4:=Tryz.isAgg4
 z4:=Tryz.sizeOf4
 v4:=Tryz.zeroValue4
 t5:=Tryz.underlying5
 a5:=Tryz.isAgg5
 z5:=Tryz.sizeOf5
 v5:=Tryz.zeroValue5
 t9:=Tryz.underlying9
 a9:=Tryz.isAgg9
 z9:=Tryz.sizeOf9
 v9:=Tryz.zeroValue9
 t20:=Tryz.underlying20
 a20:=Tryz.isAgg20
 z20:=Tryz.sizeOf20
 v20:=Tryz.zeroValue20
 t21:=Tryz.underlying21
 a21:=Tryz.isAgg21
 z21:=Tryz.sizeOf21
 v21:=Tryz.zeroValue21
 t37:=Tryz.underlying138
 a37:=Tryz.isAgg138
 z37:=Tryz.sizeOf138
 v37:=Tryz.zeroValue138
 t46:=Tryz.underlying188
 a46:=Tryz.isAgg188
 z46:=Tryz.sizeOf188
 v46:=Tryz.zeroValue188
 t51:=Tryz.underlying232
 a51:=Tryz.isAgg232
 z51:=Tryz.sizeOf232
 v51:=Tryz.zeroValue232
 t53:=Tryz.underlying33
 a53:=Tryz.isAgg33
 z53:=Tryz.sizeOf33
 v53:=Tryz.zeroValue33
 t75:=Tryz.underlying38
 a75:=Tryz.isAgg38
 z75:=Tryz.sizeOf38
 v75:=Tryz.zeroValue38
 t76:=Tryz.underlying195
 a76:=Tryz.isAgg195
 z76:=Tryz.sizeOf195
 v76:=Tryz.zeroValue195
 t85:=Tryz.underlying277
 a85:=Tryz.isAgg277
 z85:=Tryz.sizeOf277
 v85:=Tryz.zeroValue277
 t127:=Tryz.underlying239
 a127:=Tryz.isAgg239
 z127:=Tryz.sizeOf239
 v127:=Tryz.zeroValue239
 t143:=Tryz.underlying308
 a143:=Tryz.isAgg308
 z143:=Tryz.sizeOf308
 v143:=Tryz.zeroValue308
 t145:=Tryz.underlying310
 a145:=Tryz.isAgg310
 z145:=Tryz.sizeOf310
 v145:=Tryz.zeroValue310
 t167:=Tryz.underlying276
 a167:=Tryz.isAgg276
 z167:=Tryz.sizeOf276
 v167:=Tryz.zeroValue276
 t168:=Tryz.underlying279
 a168:=Tryz.isAgg279
 z168:=Tryz.sizeOf279
 v168:=Tryz.zeroValue279
 t171:=Tryz.underlying271
 a171:=Tryz.isAgg271
 z171:=Tryz.sizeOf271
 v171:=Tryz.zeroValue271
 t173:=Tryz.underlying273
 a173:=Tryz.isAgg273
 z173:=Tryz.sizeOf273
 v173:=Tryz.zeroValue273
 t175:=Tryz.underlying297
 a175:=Tryz.isAgg297
 z175:=Tryz.sizeOf297
 v175:=Tryz.zeroValue297
 t210:=Tryz.underlying300
 a210:=Tryz.isAgg300
 z210:=Tryz.sizeOf300
 v210:=Tryz.zeroValue300
 t212:=Tryz.underlying294
 a212:=Tryz.isAgg294
 z212:=Tryz.sizeOf294
 v212:=Tryz.zeroValue294
 t213:=Tryz.underlying295
 a213:=Tryz.isAgg295
 z213:=Tryz.sizeOf295
 t232:=Tryz.underlying311
 a232:=Tryz.isAgg311
 z232:=Tryz.sizeOf311
 v232:=Tryz.zeroValue311
 t233:=Tryz.underlying312
 a233:=Tryz.isAgg312
 z233:=Tryz.sizeOf312
 v233:=Tryz.zeroValue312
 g15:=by kernel_rfl
 g16:=by kernel_rfl
 g17:=by kernel_rfl
 g18:=by kernel_rfl
 g19:=by kernel_rfl
 t80:=Tryz.underlying140
 a80:=Tryz.isAgg140
 z80:=Tryz.sizeOf140
 v80:=Tryz.zeroValue140
 i0:=by kernel_rfl
 i2:=by kernel_rfl
 i3:=by kernel_rfl
 i4:=by kernel_rfl
 i5:=by kernel_rfl
 i9:=by kernel_rfl
 i20:=by kernel_rfl
 i21:=by kernel_rfl
 i37:=by kernel_rfl
 i46:=by kernel_rfl
 i51:=by kernel_rfl
 i53:=by kernel_rfl
 i75:=by kernel_rfl
 i76:=by kernel_rfl
 i80:=by kernel_rfl
 i85:=by kernel_rfl
 i127:=by kernel_rfl
 i143:=by kernel_rfl
 i145:=by kernel_rfl
 i167:=by kernel_rfl
 i168:=by kernel_rfl
 i171:=by kernel_rfl
 i173:=by kernel_rfl
 i175:=by kernel_rfl
 i210:=by kernel_rfl
 i212:=by kernel_rfl
 i232:=by kernel_rfl
 i233:=by kernel_rfl
 m15:=by kernel_rfl
 m16:=by kernel_rfl
 m17:=by kernel_rfl
 m18:=by kernel_rfl
 m19:=by kernel_rfl
 c0:=by kernel_rfl
 c2:=by kernel_rfl
 c3:=by kernel_rfl
 c4:=by kernel_rfl
 c5:=by kernel_rfl
 c9:=by kernel_rfl
 c20:=by kernel_rfl
 c21:=by kernel_rfl
 c37:=by kernel_rfl
 c46:=by kernel_rfl
 c51:=by kernel_rfl
 c53:=by kernel_rfl
 c75:=by kernel_rfl
 c76:=by kernel_rfl
 c80:=by kernel_rfl
 c85:=by kernel_rfl
 c127:=by kernel_rfl
 c143:=by kernel_rfl
 c145:=by kernel_rfl
 c167:=by kernel_rfl
 c168:=by kernel_rfl
 c171:=by kernel_rfl
 c173:=by kernel_rfl
 c175:=by kernel_rfl
 c210:=by kernel_rfl
 c212:=by kernel_rfl
 c213:=by kernel_rfl
 c232:=by kernel_rfl
 c233:=by kernel_rfl }
def Tryz.lays99_ren:Go.Shelf.Ren:=⟨fun|99=>198|206=>233|n=>n,fun|9=>9|4=>4|3=>3|n=>n,fun|n=>n⟩
theorem Tryz.lays99:Go.Proofs.Lays.n99 Tryz.prog Tryz.lays99_ren:={
 mixed:=by kernel_rfl
 f99:=Tryz.func198.trans (congrArg some (by kernel_rfl))
 f206:=Tryz.func233.trans (congrArg some (by kernel_rfl))
 t3:=Tryz.underlying3
 a3:=Tryz.isAgg3
 z3:=Tryz.sizeOf3
 v3:=Tryz.zeroValue3
 t4:=Tryz.underlying4
 a4:=Tryz.isAgg4
 z4:=Tryz.sizeOf4
 v4:=Tryz.zeroValue4
 t9:=Tryz.underlying9
 a9:=Tryz.isAgg9
 z9:=Tryz.sizeOf9
 v9:=Tryz.zeroValue9 }
open Go.RowKit in
theorem Tryz.strconv_Atoi (s:ByteArray)(n:Int)(hl:s.size<=18)(h:Lib.atoi s.data.toList=some n)(w:World) :
    Calls Tryz.prog 187 #[.string s] w fun e w'=>e = .returned (.tuple #[.int .i64 n,.nilIface]) /\ ∃t,w'=Lib.bytesWorld w 5 t:=Any.strconv_Atoi Tryz.lays172 s n hl h w
open Go.RowKit Go.Sort Go.Lib in
theorem Tryz.strconv_Itoa (n:Int)(h0 : -9223372036854775808≤n)(h1:n≤9223372036854775807)(w:World)(htab:Lib.TabIs Tryz.prog w "internal/strconv.uint64pow10" .u64 Lib.pow10Tab) :
    Calls Tryz.prog 130 #[.int .i64 n] w fun e w'=>e = .returned (.string ⟨(Lib.itoa n).toArray⟩) /\ ∃k os,w'=grow (w.drewN k) os:=Any.strconv_Itoa Tryz.laysM171 n h0 h1 w htab
open Go.RowKit in
theorem Tryz.strconv_Atoi_err_var (s:ByteArray)(hl:s.size≤18)(h:Lib.atoi s.data.toList=none)(tp:TypeId)(p:Value)(w:World)(hvar:w.var? Tryz.prog "strconv.ErrSyntax" = some #[.iface tp p]) :
    Calls Tryz.prog 187 #[.string s] w fun e w' => ∃N,e = .returned (.tuple #[.int .i64 0,.iface 279 (.pointer (some ⟨N,0,none⟩))])/\w.heap.size<=N/\w'.heap[N]? = some (.cells #[.string ⟨#[65,116,111,105]⟩,.string s,.iface tp p] 300 (0,0))/\Below w.heap.size w w':=Any.strconv_Atoi_err_var Tryz.laysC172 s hl h tp p w hvar
open Go.RowKit Go.Lib in
theorem Tryz.strings_HasPrefix (s p:ByteArray)(w:World) :
    Calls Tryz.prog 198 #[.string s,.string p] w fun e w'=>e = .returned (.bool (Lib.hasPrefix s.data.toList p.data.toList))/\w'=w:=Any.strings_HasPrefix Tryz.lays99 s p w
end Go.Proofs
end
namespace Go.Proofs.YtkbhcbipadkcaaaGreatDoor
set_option linter.unusedVariables false
set_option linter.unusedSimpArgs false
set_option maxRecDepth 100000
set_option maxHeartbeats 90000000
theorem GD {l:List Held}{p:Place}{id:Int}(hg:Good l)(h:mM l p=0)(hi:id≠0):∃A B,l=A++B/\fT l p id=A++⟨p,id⟩::B:=by
 cases shape l p (jO hg) with
 | hit A B w e hh k ha hb =>
  have hw:w≠0:=(ta hg ⟨p,w⟩ (by rw [e];simp)).2
  rw [at_eq (jO hg),e,ub (fun x hx=>lv (ha x hx))] at h
  exact absurd h hw
 | miss A B e hh k ha hb=>exact ⟨A,B,e,by rw [qR e hh k,if_neg hi]⟩
theorem BJ {l:List Held}{p:Place}{w:Int}(hg:Good l)(h:mM l p=w)(hw:w≠0):∃A B,l=A++⟨p,w⟩::B/\fT l p 0=A++B:=by
 cases shape l p (jO hg) with
 | hit A B w' e hh k ha hb =>
  rw [at_eq (jO hg),e,ub (fun x hx=>lv (ha x hx))] at h
  subst h
  exact ⟨A,B,e,by rw [td e hh k,if_pos rfl]⟩
 | miss A B e hh k ha hb =>
  rw [at_eq (jO hg),e,Dz (fun x hx=>by
   rcases List.mem_append.1 hx with hx|hx
   .exact lv (ha x hx)
   .exact fun e=>lv (hb x hx) e.symm)] at h
  exact absurd h.symm hw
theorem at_mem {l:List Held}{p:Place}{w:Int}(hg:Good l)(h:mM l p=w)(hw:w≠0):(⟨p,w⟩:Held)∈l:=by
 obtain ⟨A,B,e,_⟩:=BJ hg h hw
 rw [e];simp
theorem DG {l:List Held}(f:Held->Bool)(hg:Good l):Good (l.filter f) :=
 qQ ((jO hg).filter _) (fun x hx=>ta hg x (List.mem_filter.1 hx).1)
def cH (l:List Held)(j:Int):Nat:=l.countP (fun h=>h.ak==j)
def cN (l:List Note)(j:Int):Nat:=l.countP (fun n=>n.ak==j)
theorem BK {l:List Held}{p:Place}{id:Int}(hg:Good l)(h:mM l p=0)(hi:id≠0)(j:Int):cH (fT l p id) j=cH l j+(if id=j then 1 else 0):=by
 obtain ⟨A,B,e,e2⟩:=GD hg h hi
 rw [e2,e];unfold cH
 rw [List.countP_append,List.countP_append,List.countP_cons]
 by_cases hj:id=j
 .rw [if_pos (by simpa using hj),if_pos hj];omega
 .rw [if_neg (by simpa using hj),if_neg hj];omega
theorem Qm {l:List Held}{p:Place}{w:Int}(hg:Good l)(h:mM l p=w)(hw:w≠0)(j:Int):cH l j=cH (fT l p 0) j+(if w=j then 1 else 0):=by
 obtain ⟨A,B,e,e2⟩:=BJ hg h hw
 rw [e2,e];unfold cH
 rw [List.countP_append,List.countP_append,List.countP_cons]
 by_cases hj:w=j
 .rw [if_pos (by simpa using hj),if_pos hj];omega
 .rw [if_neg (by simpa using hj),if_neg hj];omega
theorem Qn {l:List Held}{x:Held}(h:x∈l):0<cH l x.ak:=List.countP_pos_iff.2 ⟨x,h,by simp⟩
theorem Qo {l:List Note}{x:Note}(h:x∈l):0<cN l x.ak:=List.countP_pos_iff.2 ⟨x,h,by simp⟩
theorem Qp {l:List Note}{i:Nat}{n:Note}(h:l[i]? = some n)(j:Int):cN l j=cN (t8 l i) j+(if n.ak=j then 1 else 0):=by
 obtain ⟨hi,rfl⟩:=List.getElem?_eq_some_iff.1 h
 have e:l=l.take i++l[i]::l.drop (i+1):=by rw [<- List.drop_eq_getElem_cons hi,List.take_append_drop]
 unfold t8 cN
 conv=>lhs;rw [e]
 rw [List.countP_append,List.countP_append,List.countP_cons]
 by_cases hj:(l[i]).ak=j
 .rw [if_pos (by simpa using hj),if_pos hj];omega
 .rw [if_neg (by simpa using hj),if_neg hj];omega
theorem MR {l:List Note}{i:Nat}{x:Note}(h:x∈t8 l i):x∈l:=by
 unfold t8 at h
 rcases List.mem_append.1 h with h|h
 .exact List.mem_of_mem_take h
 .exact List.mem_of_mem_drop h
theorem zL {l:List Note}{i:Nat}(q:Int):gj (t8 l i) q<=gj l q:=by
 unfold t8 gj
 have h:(l.take i++l.drop (i+1)).Sublist l:=by
  have:=List.Sublist.append (List.Sublist.refl (l.take i)) (List.drop_sublist_drop_left l (Nat.le_succ i))
  rwa [List.take_append_drop] at this
 exact (h.filter _).length_le
theorem lf {l:List ak}{id:Int}:0<=cD l id ↔ ∃x∈l,x.ID=id:=by
 constructor
 .intro h;obtain ⟨x,_,h2,h3⟩:=Dm l id h;exact ⟨x,h3,h2⟩
 .rintro ⟨x,hx,rfl⟩;exact l7 hx
theorem lh {l:List ak}(h:cL l){t:Int}:t∈bV l ↔ ∃w∈l,w.aE=t:=by
 unfold bV
 rw [zE h]
 show t∈kC l 999↔_
 rw [(mY l 999).2]
 simp only [hasT?,List.any_eq_true,beq_iff_eq]
 constructor
 .rintro ⟨_,_,w,hw,e⟩;exact ⟨w,hw,e⟩
 .
  rintro ⟨w,hw,e⟩
  have:=h.mem hw
  have h1:=this.Qc;have h2:=this.Qd
  exact ⟨by omega,by omega,w,hw,e⟩
structure Pre (r:aB):Prop where
  tree:cL r.ao
  good:Good r.Held
  r9:∀w∈r.ao,w.ID<r.af
  oN:1<=r.af
  qS:r.af<=1000
  pj:1<=r.ah
  pn:r.ah<=1000
  jk:r.Things.Pairwise (fun a b=>a.ID<b.ID)
  vE:∀t∈r.Things,1<=t.ID/\t.ID<r.ah
  jz:∀t∈r.Things,t.Kind=1∨t.Kind=2
  jA:∀t∈r.Things,t.Data.size<=8/\(t.Kind=2->t.Data=⟨#[]⟩)
  jl:r.Things.length<=10
  thing:∀w∈r.ao,∃t∈r.Things,t.ID=w.aE
  port:∀n∈r.Notes,∃t∈r.Things,t.ID=n.Port/\t.Kind=2
  kE:∀n∈r.Notes,n.Data.size<=8/\0<=n.aQ/\n.aQ<=99
  wait:∀q,gj r.Notes q<=3
  jB:∀n∈r.Notes,0<=n.ak
  once:∀w∈r.ao,cH r.Held w.ID+cN r.Notes w.ID=1
structure Inv (r:aB):Prop extends Pre r where
  iw:∀n∈r.Notes,0<n.ak -> ∃w∈r.ao,w.ID=n.ak
  eP:∀h∈r.Held,∃w∈r.ao,w.ID=h.ak
  used:∀t∈r.Things,∃w∈r.ao,w.aE=t.ID
theorem Inv.new:Inv newR:=by
 refine { tree:=rfl,good:=qQ List.Pairwise.nil (fun x hx=>by cases hx),r9:=?_,oN:=by decide,qS:=by decide,pj:=by decide,pn:=by decide,jk:=List.Pairwise.nil,vE:=?_,jz:=?_,jA:=?_,jl:=by decide,thing:=?_,port:=?_,kE:=?_,wait:=fun q=>by simp [gj,newR],jB:=?_,once:=?_,iw:=?_,eP:=?_,used:=?_ } <;> intro x hx <;> cases hx
theorem Pre.ri {r:aB}(h:Pre r):∀w∈r.ao,0<=w.Rights/\w.Rights<=7:=fun w hw=>⟨(h.tree.mem hw).Ky,(h.tree.mem hw).Kz⟩
theorem zM:∀ (ids:List Int) (l:List ak),cL l->cL (ids.foldl without l)
 | [],l,h=>h
 | i::ids,l,h=>zM ids _ (h.wo i)
structure Like (y x:ak):Prop where
  id:y.ID=x.ID
  th:y.aE=x.aE
  ri:y.Rights=x.Rights
  ba:y.aQ=x.aQ
theorem Like.refl (x:ak):Like x x:=⟨rfl,rfl,rfl,rfl⟩
theorem Like.trans {x y z:ak}(h:Like x y)(k:Like y z):Like x z:=⟨h.id.trans k.id,h.th.trans k.th,h.ri.trans k.ri,h.ba.trans k.ba⟩
theorem Like.symm {x y:ak}(h:Like x y):Like y x:=⟨h.id.symm,h.th.symm,h.ri.symm,h.ba.symm⟩
theorem vF (id f:Int)(x:ak):Like (mJ id f x) x:=by have:=kB (id:=id) (f:=f) x;exact ⟨this.1,this.2.1,this.2.2.1,this.2.2.2⟩
theorem xO:∀ (ids:List Int) (l:List ak) (w:ak),w∈ids.foldl without l->(∃y∈l,Like w y)/\¬ w.ID∈ids
 | [],l,w,h=>⟨⟨w,h,Like.refl w⟩,fun h=>by cases h⟩
 | i::ids,l,w,h=>by
  obtain ⟨⟨y,hy,hl⟩,hn⟩:=xO ids (without l i) w h
  obtain ⟨z,hz,hne,rfl⟩:=gH.1 hy
  refine ⟨⟨z,hz,hl.trans (vF _ _ z)⟩,fun hm=>?_⟩
  rcases List.mem_cons.1 hm with e|hm
  .exact hne (by rw [<- e,hl.id,(kB z).1])
  .exact hn hm
theorem iO (ws:List ak)(n:Note):(jC ws n).Port=n.Port/\(jC ws n).Data=n.Data/\(jC ws n).aQ=n.aQ/\((jC ws n).ak=n.ak/\0<=cD ws n.ak∨(jC ws n).ak=0):=by
 unfold jC;split
 .exact ⟨rfl,rfl,rfl,.inr rfl⟩
 .exact ⟨rfl,rfl,rfl,.inl ⟨rfl,by omega⟩⟩
theorem tf {ws:List ak}{ts:List Int}{ns:List Note}{n:Note}:n∈ia ws ts ns ↔ ∃m∈ns,n=jC ws m/\m.Port∈ts:=by
 unfold ia
 rw [List.mem_filter,List.mem_map]
 constructor
 .
  rintro ⟨⟨m,hm,rfl⟩,hp⟩
  exact ⟨m,hm,rfl,by have:=of_decide_eq_true hp;rwa [(iO ws m).1] at this⟩
 .
  rintro ⟨m,hm,rfl,hp⟩
  exact ⟨⟨m,hm,rfl⟩,decide_eq_true (by rw [(iO ws m).1];exact hp)⟩
theorem DI {ws:List ak}{ts:List Int}{ns:List Note}{j:Int}:j∈kI ws ts ns ↔ ∃m∈ns,j=(jC ws m).ak/\¬ m.Port∈ts/\0<j:=by
 unfold kI
 rw [List.mem_map]
 constructor
 .
  rintro ⟨n,hn,rfl⟩
  obtain ⟨h1,h2⟩:=List.mem_filter.1 hn
  obtain ⟨m,hm,rfl⟩:=List.mem_map.1 h1
  simp only [Bool.and_eq_true,Bool.not_eq_true',decide_eq_false_iff_not,decide_eq_true_eq] at h2
  exact ⟨m,hm,rfl,by rw [<- (iO ws m).1];exact h2.1,h2.2⟩
 .
  rintro ⟨m,hm,rfl,hp,h0⟩
  refine ⟨jC ws m,List.mem_filter.2 ⟨List.mem_map.2 ⟨m,hm,rfl⟩,?_⟩,rfl⟩
  simp only [Bool.and_eq_true,Bool.not_eq_true',decide_eq_false_iff_not,decide_eq_true_eq]
  exact ⟨by rw [(iO ws m).1];exact hp,h0⟩
theorem uc (ws:List ak)(ts:List Int)(m:Note)(ns:List Note):ia ws ts (m::ns)=if m.Port∈ts then jC ws m::ia ws ts ns else ia ws ts ns:=by
 unfold ia
 rw [List.map_cons,List.filter_cons,(iO ws m).1]
 by_cases h:m.Port∈ts
 .rw [if_pos (decide_eq_true h),if_pos h]
 .rw [if_neg (by simpa using h),if_neg h]
theorem xP {ws:List ak}{ts:List Int}{j:Int}(hj:0<=cD ws j)(h0:0<j):∀ (ns:List Note),(∀n∈ns,n.ak=j->n.Port∈ts)->cN (ia ws ts ns) j=cN ns j
 | [],_=>rfl
 | m::ns,hl=>by
  have ih:=xP hj h0 ns (fun n hn=>hl n (List.mem_cons_of_mem _ hn))
  have hf:=iO ws m
  rw [uc]
  unfold cN at ih ⊢
  by_cases e:m.ak=j
  .
   have hfm:(jC ws m).ak=j:=by
    rcases hf.2.2.2 with ⟨h1,_⟩ | h1
    .omega
    .unfold jC at h1 ⊢;rw [if_neg (by rw [e];omega)];exact e
   rw [if_pos (hl m (List.mem_cons_self ..) e),List.countP_cons,List.countP_cons,if_pos (by simpa using hfm),if_pos (by simpa using e),ih]
  .
   have hfm:¬ (jC ws m).ak=j:=by rcases hf.2.2.2 with ⟨h1,_⟩ | h1 <;> omega
   split
   .rw [List.countP_cons,List.countP_cons,if_neg (by simpa using hfm),if_neg (by simpa using e),ih]
   .rw [List.countP_cons,if_neg (by simpa using e),ih];rfl
theorem zN (ws:List ak)(ts:List Int)(q:Int):∀ (ns:List Note),gj (ia ws ts ns) q<=gj ns q
 | []=>Nat.le_refl _
 | m::ns=>by
  have ih:=zN ws ts q ns
  have hf:=iO ws m
  rw [uc]
  unfold gj at ih ⊢
  have e:(jC ws m).Port=m.Port:=hf.1
  split
  .rw [List.filter_cons,List.filter_cons,e];split <;> simp <;> omega
  .rw [List.filter_cons];split <;> simp <;> omega
def sw (r:aB)(ids:List Int):aB:=⟨ids.foldl without r.ao,(fO r).Things,(fO r).Held,(fO r).Notes,r.af,r.ah⟩
theorem lV {r:aB}{t:aE}:t∈(fO r).Things↔t∈r.Things/\t.ID∈bV r.ao:=by
 show t∈r.Things.filter _↔_
 rw [List.mem_filter];simp
theorem vG {r:aB}{h:Held}:h∈(fO r).Held↔h∈r.Held /\ ∃w∈r.ao,w.ID=h.ak:=by
 show h∈r.Held.filter _↔_
 rw [List.mem_filter,<- lf];simp
theorem Pre.sw {r:aB}(h:Pre r){ids:List Int}(hl:∀j∈o7 r,j∈ids):Pre (YtkbhcbipadkcaaaGreatDoor.sw r ids):=by
 have hsub:∀w∈ids.foldl without r.ao,(∃y∈r.ao,Like w y)/\¬ w.ID∈ids:=fun w hw=>xO ids r.ao w hw
 have zO:∀n∈(fO r).Notes,∃m∈r.Notes,n=jC r.ao m/\m.Port∈bV r.ao:=fun n hn=>tf.1 hn
 refine { tree:=zM ids _ h.tree,good:=DG _ h.good,r9:=?_,oN:=h.oN,qS:=h.qS,pj:=h.pj,pn:=h.pn,jk:=h.jk.filter _,vE:=fun t ht=>h.vE t (lV.1 ht).1,jz:=fun t ht=>h.jz t (lV.1 ht).1,jA:=fun t ht=>h.jA t (lV.1 ht).1,jl:=Nat.le_trans (List.length_filter_le _ _) h.jl,thing:=?_,port:=?_,kE:=?_,wait:=fun q=>Nat.le_trans (zN _ _ q _) (h.wait q),jB:=?_,once:=?_ }
 .
  intro w hw
  obtain ⟨⟨y,hy,hk⟩,_⟩:=hsub w hw
  rw [hk.id];exact h.r9 y hy
 .
  intro w hw
  obtain ⟨⟨y,hy,hk⟩,_⟩:=hsub w hw
  obtain ⟨t,ht,e⟩:=h.thing y hy
  exact ⟨t,lV.2 ⟨ht,(lh h.tree).2 ⟨y,hy,e.symm⟩⟩,by rw [e,hk.th]⟩
 .
  intro n hn
  obtain ⟨m,hm,rfl,hp⟩:=zO n hn
  obtain ⟨t,ht,e,hk⟩:=h.port m hm
  exact ⟨t,lV.2 ⟨ht,by rw [e];exact hp⟩,by rw [(iO _ m).1];exact e,hk⟩
 .
  intro n hn
  obtain ⟨m,hm,rfl,hp⟩:=zO n hn
  rw [(iO _ m).2.1,(iO _ m).2.2.1];exact h.kE m hm
 .
  intro n hn
  obtain ⟨m,hm,rfl,hp⟩:=zO n hn
  have:=h.jB m hm
  rcases (iO r.ao m).2.2.2 with ⟨e,_⟩ | e <;> omega
 .
  intro w hw
  obtain ⟨⟨y,hy,hk⟩,hn⟩:=hsub w hw
  have V6:0<=cD r.ao w.ID:=lf.2 ⟨y,hy,hk.id.symm⟩
  have h0:0<w.ID:=by have:=(h.tree.mem hy).id1;rw [hk.id];omega
  have h1:cH (fO r).Held w.ID=cH r.Held w.ID:=by
   show List.countP _ (r.Held.filter _)=List.countP _ r.Held
   rw [List.countP_filter]
   refine List.countP_congr fun x _=>?_
   simp only [Bool.and_eq_true,beq_iff_eq,Bool.not_eq_true',decide_eq_false_iff_not]
   exact ⟨fun h=>h.1,fun e=>⟨e,by rw [e];omega⟩⟩
  have h2:cN (fO r).Notes w.ID=cN r.Notes w.ID:=xP V6 h0 r.Notes (fun n hnn e=>by
   by_cases hp:n.Port∈bV r.ao
   .exact hp
   .
    refine absurd (hl w.ID (DI.2 ⟨n,hnn,?_,hp,h0⟩)) hn
    rw [jC,if_neg (by rw [e];omega)];exact e.symm)
  show cH (fO r).Held w.ID+cN (fO r).Notes w.ID=1
  rw [h1,h2,hk.id];exact h.once y hy
theorem Fi {r:aB}(h:Pre r)(hl:(o7 r).length=0):Inv (fO r):=by
 have h1:Pre (fO r):=h.sw (ids:=[]) (fun j hj=>by rw [List.length_eq_zero_iff.1 hl] at hj;exact hj)
 refine { toPre:=h1,iw:=?_,eP:=fun x hx=>(vG.1 hx).2,used:=fun t ht=>(lh h.tree).1 (lV.1 ht).2 }
 intro n hn h0
 obtain ⟨m,hm,rfl,hp⟩:=tf.1 hn
 rcases (iO r.ao m).2.2.2 with ⟨e,hf⟩ | e
 .rw [e];exact lf.1 hf
 .omega
theorem uO:∀ (n:Nat) (r:aB),r.Notes.length<n->Pre r->Inv (gT n r)
 | 0,r,h,_=>by omega
 | n+1,r,h,hp=>by
  unfold gT;split
  .exact Fi hp (by assumption)
  .
   have:=oJ (r:=r) (by assumption)
   exact uO n _ (by omega) (hp.sw (ids:=o7 r) (fun j hj=>hj))
theorem ud {r:aB}(h:Pre r):Inv (dN r):=uO _ r (Nat.lt_succ_self _) h
theorem uP:∀ (n:Nat) (r:aB),(∀x∈(gT n r).Held,x∈r.Held)/\(∀v∈(gT n r).ao,∃w∈r.ao,Like v w)/\(∀t∈(gT n r).Things,t∈r.Things)/\(∀m∈(gT n r).Notes,∃k∈r.Notes,m.Port=k.Port/\m.Data=k.Data/\m.aQ=k.aQ/\(m.ak=k.ak∨m.ak=0))
 | 0,r=>⟨fun x hx=>(vG.1 hx).1,fun v hv=>⟨v,hv,Like.refl v⟩,fun t ht=>(lV.1 ht).1,fun m hm=>by
  obtain ⟨k,hk,rfl,_⟩:=tf.1 hm
  have:=iO r.ao k
  exact ⟨k,hk,this.1,this.2.1,this.2.2.1,this.2.2.2.imp (fun h=>h.1) id⟩⟩
 | n+1,r=>by
  have hs:∀m∈(fO r).Notes,∃k∈r.Notes,m.Port=k.Port/\m.Data=k.Data/\m.aQ=k.aQ/\(m.ak=k.ak∨m.ak=0):=fun m hm=>by
   obtain ⟨k,hk,rfl,_⟩:=tf.1 hm
   have:=iO r.ao k
   exact ⟨k,hk,this.1,this.2.1,this.2.2.1,this.2.2.2.imp (fun h=>h.1) id⟩
  unfold gT;split
  .exact ⟨fun x hx=>(vG.1 hx).1,fun v hv=>⟨v,hv,Like.refl v⟩,fun t ht=>(lV.1 ht).1,hs⟩
  .
   obtain ⟨h1,h2,h3,h4⟩:=uP n (nn r)
   refine ⟨fun x hx=>(vG.1 (h1 x hx)).1,fun v hv=>?_,fun t ht=>(lV.1 (h3 t ht)).1,fun m hm=>?_⟩
   .
    obtain ⟨w,hw,hl⟩:=h2 v hv
    obtain ⟨⟨y,hy,hl2⟩,_⟩:=xO _ _ w hw
    exact ⟨y,hy,hl.trans hl2⟩
   .
    obtain ⟨k,hk,a,b,c,d⟩:=h4 m hm
    obtain ⟨k',hk',a',b',c',d'⟩:=hs k hk
    exact ⟨k',hk',a.trans a',b.trans b',c.trans c',by rcases d with d|d <;> rcases d' with d'|d' <;> first|(left;omega)|(right;omega)⟩
theorem zP (r:aB):(∀x∈(dN r).Held,x∈r.Held)/\(∀v∈(dN r).ao,∃w∈r.ao,Like v w)/\(∀t∈(dN r).Things,t∈r.Things)/\(∀m∈(dN r).Notes,∃k∈r.Notes,m.Port=k.Port/\m.Data=k.Data/\m.aQ=k.aQ/\(m.ak=k.ak∨m.ak=0)):=uP _ r
end Go.Proofs.YtkbhcbipadkcaaaGreatDoor
