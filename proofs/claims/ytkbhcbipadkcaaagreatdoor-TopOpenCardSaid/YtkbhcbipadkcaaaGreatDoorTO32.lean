import Derived.Test.YtkbhcbipadkcaaaGreatDoorTO31
namespace Go.Proofs.YtkbhcbipadkcaaaGreatDoor
set_option linter.unusedVariables false
set_option linter.unusedSimpArgs false
def newR:aC:=⟨[],[],[],[],1,1⟩
def cQ (r:aC)(a:eh):aC×Int :=
  if a.Kind=(⟨#[109,97,107,101]⟩:ByteArray) then dU r a.P a.A
  else if a.Kind=(⟨#[103,105,118,101]⟩:ByteArray) then fk r a.P a.Q a.A a.B
  else if a.Kind=(⟨#[109,111,118,101]⟩:ByteArray) then jl r a.P a.A
  else if a.Kind=(⟨#[100,114,111,112]⟩:ByteArray) then jL r a.P
  else if a.Kind=(⟨#[114,101,118,111,107,101]⟩:ByteArray) then fc r a.P
  else if a.Kind=(⟨#[119,114,105,116,101]⟩:ByteArray) then fV r a.P a.S
  else if a.Kind=(⟨#[115,101,110,100]⟩:ByteArray) then dN r a.P a.S a.A a.B
  else if a.Kind=(⟨#[116,97,107,101]⟩:ByteArray) then ((eB r a.P).1,(eB r a.P).2.2.2)
  else (r,0)
def SY (r:aC)(a:eh):aC:=if (cQ r a).2=0 then (cQ r a).1 else r
def grow (l:List eh):aC:=l.foldl SY newR
theorem tf {w:aj}{id r b:Int}(h:(derived w id r b).2=0):0<=r/\r<=7/\0<=b/\b<=99/\ji w.Rights r=true/\(derived w id r b).1=⟨id,w.aE,r,if b=0 then w.aQ else b,w.ID⟩/\(w.aQ=0∨b=0∨b=w.aQ):=by
 revert h
 rcases hX r with ⟨h1,h2⟩ | ⟨h1,h2⟩
 .unfold derived;rw [if_pos h1];intro h;simp at h
 .
  unfold derived;rw [if_neg (by rw [h1];decide)]
  by_cases hb:b<0
  .rw [if_pos hb];intro h;simp at h
  .
   rw [if_neg hb]
   by_cases hb2:99<b
   .rw [if_pos hb2];intro h;simp at h
   .
    rw [if_neg hb2]
    cases hr:ji w.Rights r with
    | false=>rw [if_pos rfl];intro h;simp at h
    | true =>
     rw [if_neg (by decide)]
     by_cases hc:b≠0/\w.aQ≠0/\b≠w.aQ
     .rw [if_pos hc];intro h;simp at h
     .rw [if_neg hc];intro h;exact ⟨h2.1,h2.2,by omega,by omega,rfl,rfl,by omega⟩
theorem xO {w:aj}{id r b:Int}(h:(derived w id r b).2=0):0<=(derived w id r b).1.Rights/\(derived w id r b).1.Rights<=7:=by
 have:=tf h;rw [this.2.2.2.2.2.1];exact ⟨this.1,this.2.1⟩
structure Sz (k:Nat)(r:aC):Prop where
  wl:r.ak.length<=k
  tl:r.Things.length<=k
  hl:r.Held.length<=2*k
  nl:r.Notes.length<=k
  ri:∀w∈r.ak,0<=w.Rights/\w.Rights<=7
  w0:0<=r.ae
  w1:r.ae<=1000
  t0:0<=r.ah
  t1:r.ah<=1000
theorem Sz.ok {k:Nat}{r:aC}(h:Sz k r)(hk:k<=1000):Ok r:=⟨by have:=h.wl;omega,by have:=h.tl;omega,by have:=h.hl;omega,by have:=h.nl;omega,h.ri,h.w0,by have:=h.w1;omega,h.t0,by have:=h.t1;omega⟩
theorem Sz.up {k m:Nat}{r:aC}(h:Sz k r)(hk:k<=m):Sz m r:=⟨by have:=h.wl;omega,by have:=h.tl;omega,by have:=h.hl;omega,by have:=h.nl;omega,h.ri,h.w0,h.w1,h.t0,h.t1⟩
theorem Sz.new:Sz 0 newR:=⟨Nat.le_refl _,Nat.le_refl _,Nat.le_refl _,Nat.le_refl _,fun w hw=>(by cases hw),by decide,by decide,by decide,by decide⟩
theorem rL (k:Nat):Sz k r0:=⟨Nat.zero_le _,Nat.zero_le _,Nat.zero_le _,Nat.zero_le _,fun w hw=>(by cases hw),by decide,by decide,by decide,by decide⟩
theorem BG {l:List aj}{x:aj}(h:∀w∈l,0<=w.Rights/\w.Rights<=7)(hx:0<=x.Rights/\x.Rights<=7):∀w∈l++[x],0<=w.Rights/\w.Rights<=7:=fun w hw=>by
 rcases List.mem_append.1 hw with hw|hw
 .exact h w hw
 .rw [List.mem_singleton.1 hw];exact hx
theorem od {k:Nat}{r:aC}(h:Sz k r):Sz k (fJ r) :=
 ⟨h.wl,Nat.le_trans (List.length_filter_le _ _) h.tl,Nat.le_trans (List.length_filter_le _ _) h.hl,by
  have:=qR r.ak (bT r.ak) r.Notes
  have:=h.nl
  show (ig r.ak (bT r.ak) r.Notes).length<=k
  omega,h.ri,h.w0,h.w1,h.t0,h.t1⟩
theorem H7 {k:Nat}{r:aC}(h:Sz k r):Sz k (nA r) :=
 ⟨Nat.le_trans (ta _ _) h.wl,(od h).tl,(od h).hl,(od h).nl,BA _ _ h.ri,h.w0,h.w1,h.t0,h.t1⟩
theorem oV {k:Nat}:∀ (n:Nat) (r:aC),Sz k r->Sz k (gV n r)
 | 0,r,h=>od h
 | n+1,r,h=>by
  unfold gV;split
  .exact od h
  .exact oV n _ (H7 h)
theorem Sz.uL {k:Nat}{r:aC}(h:Sz k r){l:List aj}(hl:l.length<=k)(hr:∀w∈l,0<=w.Rights/\w.Rights<=7):Sz k ⟨l,r.Things,r.Held,r.Notes,r.ae,r.ah⟩ :=
 ⟨hl,h.tl,h.hl,h.nl,hr,h.w0,h.w1,h.t0,h.t1⟩
theorem MO {k:Nat}{r:aC}(h:Sz k r)(p:Place)(kind:Int):Sz (k+1) (dU r p kind).1:=by
 have:=h.wl;have:=h.tl;have:=h.hl;have:=h.nl;have:=h.w0;have:=h.t0;have hp:=nT r.Held p r.ae
 unfold dU
 (repeat' split) <;> first|exact rL _|skip
 refine ⟨?_,?_,?_,?_,BG h.ri ⟨(by show (0:Int)<=7;decide),(by show (7:Int)<=7;decide)⟩,?_,?_,?_,?_⟩ <;> dsimp only [fx]
 .simp;omega
 .simp;omega
 .
  split
  .omega
  .omega
 all_goals omega
theorem MP {k:Nat}{r:aC}(h:Sz k r)(p t:Place)(a b:Int):Sz (k+1) (fk r p t a b).1:=by
 have:=h.wl;have:=h.tl;have:=h.hl;have:=h.nl;have:=h.w0;have:=h.t0;have:=h.t1
 unfold fk
 (repeat' split) <;> first|exact rL _|skip
 rename_i h1 h2 h3 h4 h5
 have hp:=nT r.Held t (derived (aS r p).1 r.ae a b).1.ID
 have hr:0<=(derived (aS r p).1 r.ae a b).1.Rights/\(derived (aS r p).1 r.ae a b).1.Rights<=7:=xO h5
 refine ⟨?_,?_,?_,?_,BG h.ri hr,?_,?_,?_,?_⟩ <;> dsimp only [fx]
 .simp;omega
 .omega
 .split <;> omega
 all_goals omega
theorem MQ {k:Nat}{r:aC}(h:Sz k r)(p:Place)(s:Int):Sz (k+1) (jl r p s).1:=by
 have:=h.wl;have:=h.tl;have:=h.hl;have:=h.nl;have:=h.w0;have:=h.t0;have:=h.t1;have:=h.w1
 have h1:=nT r.Held p 0
 have h2:=nT (fP r.Held p 0) ⟨p.aB,s⟩ (aS r p).1.ID
 unfold jl
 (repeat' split) <;> first|exact rL _|exact ⟨by dsimp only;omega,by dsimp only;omega,by dsimp only;omega,by dsimp only;omega,h.ri,h.w0,h.w1,h.t0,h.t1⟩
theorem MR {k:Nat}{r:aC}(h:Sz k r)(p:Place):Sz (k+1) (jL r p).1:=by
 unfold jL;split
 .exact (oV _ _ (h.uL (Nat.le_trans (ng _ _) h.wl) (oT h.ri))).up (Nat.le_succ k)
 .exact rL _
theorem H8 {k:Nat}{r:aC}(h:Sz k r)(p:Place):Sz (k+1) (fc r p).1:=by
 unfold fc;split
 .exact (oV _ _ (h.uL (Nat.le_trans (List.length_filter_le _ _) h.wl) (fun w hw=>h.ri w (List.mem_filter.1 hw).1))).up (Nat.le_succ k)
 .exact rL _
theorem uO (l:List aE)(i:Nat)(d:ByteArray):(gW l i d).length=l.length:=by
 unfold gW;split <;> simp
theorem KQ {k:Nat}{r:aC}(h:Sz k r)(p:Place)(d:ByteArray):Sz (k+1) (fV r p d).1:=by
 have:=h.wl;have:=h.tl;have:=h.hl;have:=h.nl
 unfold fV
 (repeat' split) <;> first|exact rL _|exact ⟨by dsimp only;omega,by dsimp only;rw [uO];omega,by dsimp only;omega,by dsimp only;omega,h.ri,h.w0,h.w1,h.t0,h.t1⟩
theorem MS {k:Nat}{r:aC}(h:Sz k r)(p:Place)(d:ByteArray)(a b:Int):Sz (k+1) (dN r p d a b).1:=by
 have:=h.wl;have:=h.tl;have:=h.hl;have:=h.nl;have:=h.w0;have:=h.t0;have:=h.t1;have:=h.w1
 unfold dN
 (repeat' split) <;> first|exact rL _|exact ⟨by dsimp only;omega,by dsimp only;omega,by dsimp only;omega,by simp;omega,h.ri,h.w0,h.w1,h.t0,h.t1⟩ | skip
 rename_i h8
 exact ⟨by simp;omega,by dsimp only;omega,by dsimp only;omega,by simp;omega,BG h.ri (xO h8),by dsimp only;omega,by dsimp only;omega,h.t0,h.t1⟩
theorem KR (l:List Note)(i:Nat):(ub l i).length<=l.length:=by
 unfold ub;rw [List.length_append,List.length_take,List.length_drop];omega
theorem MU {k:Nat}{r:aC}(h:Sz k r)(p:Place):Sz (k+1) (eB r p).1:=by
 have:=h.wl;have:=h.tl;have:=h.hl;have:=h.nl
 unfold eB
 split
 .
  split
  .
   rename_i n _ _
   have h1:=nT r.Held ⟨p.aB,je r.Held p.aB⟩ n.aj
   have h2:=KR r.Notes (idxOf (fun n=>n.Port==(cC r p 2 1).1.aE) r.Notes).toNat
   (repeat' split) <;> first|exact rL _|exact ⟨by dsimp only;omega,by dsimp only;omega,by dsimp only;omega,by dsimp only;omega,h.ri,h.w0,h.w1,h.t0,h.t1⟩
  .exact rL _
 .exact rL _
theorem KS {k:Nat}{r:aC}(h:Sz k r)(a:eh):Sz (k+1) (cQ r a).1:=by
 unfold cQ
 (repeat' split)
 .exact MO h _ _
 .exact MP h _ _ _ _
 .exact MQ h _ _
 .exact MR h _
 .exact H8 h _
 .exact KQ h _ _
 .exact MS h _ _ _ _
 .exact MU h _
 .exact h.up (Nat.le_succ k)
section
open Go Go.RowKit
set_option linter.unusedSectionVars false
set_option maxRecDepth 100000
theorem KT:NG Tryz.prog 100 aE.val:=by
 have hS:Tryz.prog.underlying 100=some (.struct (Tryz.prog.fieldsOf 100)):=by kernel_rfl
 have hp:Tryz.prog.stoodInHeld 100=false:=by kernel_rfl
 refine wC (cs:=aE.cs) (by kernel_rfl) fun x y w=>?_
 have u3:=Tryz.underlying9;have a3:=Tryz.isAgg9;have z3:=Tryz.sizeOf9;have u4:=Tryz.underlying3;have a4:=Tryz.isAgg3;have z4:=Tryz.sizeOf3
 obtain ⟨x1,x2,x3⟩:=x;obtain ⟨y1,y2,y3⟩:=y
 rw [Op.equal,Op.maxDepth,show (10000:Nat)=9999+1 from rfl,run_equalIn_agg w 9999 100 _ _ hS hp]
 simp only [Program.fieldsOf,Tryz.underlying100]
 go_simp
 have tl:∀a b:ByteArray,a.toList=b.toList↔a=b:=fun a b=>by have:=lw a b;rw [Bool.eq_iff_iff] at this;simpa using this
 by_cases h1:x1=y1 <;> by_cases h2:x2=y2 <;> by_cases h3:x3=y3 <;> simp [h1,h2,h3,tl]
theorem Oo:NG Tryz.prog 89 Note.val:=by
 have hS:Tryz.prog.underlying 89=some (.struct (Tryz.prog.fieldsOf 89)):=by kernel_rfl
 have hp:Tryz.prog.stoodInHeld 89=false:=by kernel_rfl
 refine wC (cs:=Note.cs) (by kernel_rfl) fun x y w=>?_
 have u3:=Tryz.underlying9;have a3:=Tryz.isAgg9;have z3:=Tryz.sizeOf9;have u4:=Tryz.underlying3;have a4:=Tryz.isAgg3;have z4:=Tryz.sizeOf3
 obtain ⟨x1,x2,x3,x4⟩:=x;obtain ⟨y1,y2,y3,y4⟩:=y
 rw [Op.equal,Op.maxDepth,show (10000:Nat)=9999+1 from rfl,run_equalIn_agg w 9999 89 _ _ hS hp]
 simp only [Program.fieldsOf,Tryz.underlying89]
 go_simp
 have tl:∀a b:ByteArray,a.toList=b.toList↔a=b:=fun a b=>by have:=lw a b;rw [Bool.eq_iff_iff] at this;simpa using this
 by_cases h1:x1=y1 <;> by_cases h2:x2=y2 <;> by_cases h3:x3=y3 <;> by_cases h4:x4=y4 <;> simp [h1,h2,h3,h4,tl]
end
section
open Go Go.RowKit
set_option maxRecDepth 100000
set_option maxHeartbeats 90000000
end
theorem sh {p q r:Place}(h:j9 p q)(k:j9 q r):j9 p r:=by unfold j9 at *;omega
theorem tg {p:Place}(h:j9 p p):False:=by unfold j9 at h;omega
theorem Dn (p q:Place):j9 p q∨p=q∨j9 q p:=by
 cases p;cases q;unfold j9;simp only [Place.mk.injEq];omega
theorem lq {p q:Place}(h:j9 p q):p≠q:=fun e=>tg (e▸h)
theorem xP (p q:Place):rx p q<0↔j9 p q:=by
 unfold rx ru j9
 constructor
 .intro h;split at h <;> (repeat' split at h) <;> first|omega|(simp_all;done)|(simp_all;omega)
 .intro h;split <;> (repeat' split) <;> omega
abbrev yR (l:List Held):Prop:=l.Pairwise fun a b=>j9 a.Place b.Place
def KU (l:List Held):Prop:= ∀h∈l,aY h.Place=0/\h.aj≠0
theorem jP {l:List Held}(h:Good l):yR l:=by
 have key:∀ (d i:Nat) x y,l[i]? = some x->l[i+d+1]? = some y->j9 x.Place y.Place:=by
  intro d
  induction d with
  | zero =>
   intro i x y hx hy
   have hi:=(List.getElem?_eq_some_iff.1 hy).1
   exact (h (i+1) hi y hy).2.2 x (by omega) (by simpa using hx)
  | succ d ih =>
   intro i x y hx hy
   have hi:=(List.getElem?_eq_some_iff.1 hy).1
   obtain ⟨z,hz⟩:∃z,l[i+d+1]? = some z:=⟨_,List.getElem?_eq_getElem (by omega)⟩
   exact sh (ih i x z hx hz) ((h (i+(d+1)+1) hi y hy).2.2 z (by omega) (by rw [<- hz];congr 1))
 refine List.pairwise_iff_getElem.2 ?_
 intro i j hi hj hij
 exact key (j-i-1) i _ _ (List.getElem?_eq_getElem hi) (by rw [show i+(j-i-1)+1=j by omega];exact List.getElem?_eq_getElem hj)
theorem tj {l:List Held}(h:Good l):KU l:=fun x hx=>by
 obtain ⟨i,hi⟩:=List.mem_iff_getElem?.1 hx
 have:=h i (List.getElem?_eq_some_iff.1 hi).1 x hi
 exact ⟨this.1,this.2.1⟩
theorem qX {l:List Held}(h:yR l)(hf:KU l):Good l:=fun k hk x hx=>by
 refine ⟨(hf x (List.mem_of_getElem? hx)).1,(hf x (List.mem_of_getElem? hx)).2,fun g h0 hg=>?_⟩
 have h:=List.pairwise_iff_getElem.1 h
 have:=h (k-1) k (by omega) hk (by omega)
 rw [(List.getElem?_eq_some_iff.1 hx).2,(List.getElem?_eq_some_iff.1 hg).2] at this
 exact this
theorem Dp {l:List Held}:Good l↔yR l/\KU l:=⟨fun h=>⟨jP h,tj h⟩,fun h=>qX h.1 h.2⟩
def Dq (p:Place):Int:=6*p.aB+p.Slot
theorem MV {p q:Place}(hp:aY p=0)(hq:aY q=0)(h:j9 p q):Dq p<Dq q:=by
 have:=cu hp;have:=cu hq
 unfold j9 at h;unfold Dq;omega
theorem KV {l:List Held}(h:Good l):l.length<=24:=by
 have hr:=jP h;have hf:=tj h
 have key:∀ (l:List Held) (m:Int),yR l->KU l->(∀x∈l,m<Dq x.Place)->m<=30->m+l.length<=29∨l=[]:=by
  intro l
  induction l with
  | nil=>intro m _ _ _ _;exact .inr rfl
  | cons x l ih =>
   intro m hr hf hm Wm
   left
   have hx:=hf x (List.mem_cons_self ..)
   have hp:=cu hx.1
   have h1:=hm x (List.mem_cons_self ..)
   have h2:Dq x.Place<=29:=by unfold Dq;omega
   obtain ⟨hr1,hr2⟩:=List.pairwise_cons.1 hr
   have hf':KU l:=fun y hy=>hf y (List.mem_cons_of_mem _ hy)
   rcases ih (Dq x.Place) hr2 hf' (fun y hy=>MV hx.1 (hf' y hy).1 (hr1 y hy)) (by omega) with h3|h3
   .simp only [List.length_cons];omega
   .subst h3;simp;omega
 rcases key l 5 hr hf (fun x hx=>by have:=cu (hf x hx).1;unfold Dq;omega) (by omega) with h1|h1
 .omega
 .subst h1;simp
inductive Shape (l:List Held)(p:Place):Prop
  | hit (A B:List Held) (w:Int) (e:l=A++⟨p,w⟩::B) (h:Hh l p=true) (k:fT l p=A.length) (ha:∀x∈A,j9 x.Place p) (hb:∀x∈B,j9 p x.Place)
  | miss (A B:List Held) (e:l=A++B) (h:Hh l p=false) (k:fT l p=A.length) (ha:∀x∈A,j9 x.Place p) (hb:∀x∈B,j9 p x.Place)
theorem shape (l:List Held)(p:Place)(hr:yR l):Shape l p:=by
 have hm:=CC (f:=fun h:Held=>rx h.Place p) (l:=l) (fun i j x y hij hx hy hc=>by
  simp only [xP] at hc ⊢
  rcases Nat.lt_or_ge i j with h1|h1
  .
   have hr':=List.pairwise_iff_getElem.1 hr
   have:=hr' i j (List.getElem?_eq_some_iff.1 hx).1 (List.getElem?_eq_some_iff.1 hy).1 h1
   rw [(List.getElem?_eq_some_iff.1 hx).2,(List.getElem?_eq_some_iff.1 hy).2] at this
   exact sh this hc
  .
   have:i=j:=by omega
   subst this;rw [hx] at hy;injection hy with hy;subst hy;exact hc)
 have hk:=vx l p
 have hsplit:l=l.take (fT l p)++l.drop (fT l p):=(List.take_append_drop _ _).symm
 have hlen:(l.take (fT l p)).length=fT l p:=by rw [List.length_take];omega
 have hA:∀x∈l.take (fT l p),j9 x.Place p:=fun x hx=>by
  obtain ⟨i,hi⟩:=List.mem_iff_getElem?.1 hx
  rw [List.getElem?_take] at hi
  split at hi
  .exact (xP _ _).1 (hm.1 i x (by assumption) hi)
  .cases hi
 have hB:∀x∈l.drop (fT l p),¬ j9 x.Place p:=fun x hx=>by
  obtain ⟨i,hi⟩:=List.mem_iff_getElem?.1 hx
  rw [List.getElem?_drop] at hi
  exact fun hc=>hm.2 _ x (Nat.le_add_right _ _) hi ((xP _ _).2 hc)
 rcases tP l p with h|⟨x,hx,h,hp,hlt⟩
 .
  refine .miss _ _ hsplit h hlen.symm hA fun x hx=>?_
  have h1:=hB x hx
  rcases Dn p x.Place with h2|h2|h2
  .exact h2
  .
   exfalso
   obtain ⟨y,hy⟩:∃y,l[fT l p]? = some y:=by
    obtain ⟨i,hi⟩:=List.mem_iff_getElem?.1 hx
    rw [List.getElem?_drop] at hi
    have:=(List.getElem?_eq_some_iff.1 hi).1
    exact ⟨_,List.getElem?_eq_getElem (by omega)⟩
   have hyn:rx y.Place p≠0:=fun hc=>by
    have:Hh l p=true:=by
     show lG _ l=true
     unfold lG
     have hy':l[jF (fun h:Held=>rx h.Place p) l]? = some y:=hy
     rw [hy'];simp [hc]
    rw [h] at this;cases this
   have hym:y∈l.drop (fT l p):=List.mem_iff_getElem?.2 ⟨0,by rw [List.getElem?_drop];exact hy⟩
   have hyb:=hB y hym
   have hyp:j9 p y.Place:=by
    rcases Dn p y.Place with h3|h3|h3
    .exact h3
    .exact absurd (by rw [h3];exact Hg _) hyn
    .exact absurd h3 hyb
   obtain ⟨i,hi⟩:=List.mem_iff_getElem?.1 hx
   rw [List.getElem?_drop] at hi
   rcases Nat.eq_zero_or_pos i with h0|h0
   .
    subst h0;rw [Nat.add_zero,hy] at hi;injection hi with hi;subst hi
    exact tg (h2▸hyp)
   .
    have hr':=List.pairwise_iff_getElem.1 hr
    have:=hr' (fT l p) (fT l p+i) (List.getElem?_eq_some_iff.1 hy).1 (List.getElem?_eq_some_iff.1 hi).1 (by omega)
    rw [(List.getElem?_eq_some_iff.1 hy).2,(List.getElem?_eq_some_iff.1 hi).2] at this
    exact tg (h2▸sh hyp this)
  .exact absurd h2 h1
 .
  have hd:l.drop (fT l p)=x::l.drop (fT l p+1):=by
   rw [List.drop_eq_getElem_cons hlt,(List.getElem?_eq_some_iff.1 hx).2]
  have hxe:x=⟨p,x.aj⟩:=by cases x;simp at hp;simp [hp]
  refine .hit (l.take (fT l p)) (l.drop (fT l p+1)) x.aj ?_ h hlen.symm hA fun y hy=>?_
  .rw [<- hxe,<- hd,List.take_append_drop]
  .
   obtain ⟨i,hi⟩:=List.mem_iff_getElem?.1 hy
   rw [List.getElem?_drop] at hi
   have hr':=List.pairwise_iff_getElem.1 hr
   have:=hr' (fT l p) (fT l p+1+i) hlt (List.getElem?_eq_some_iff.1 hi).1 (by omega)
   rw [(List.getElem?_eq_some_iff.1 hx).2,(List.getElem?_eq_some_iff.1 hi).2,hp] at this
   exact this
theorem Gw {A:List Held}{p:Place}(h:∀x∈A,¬ x.Place=p):A.find? (fun h=>h.Place==p)=none:=by
 rw [List.find?_eq_none];intro x hx;simpa using h x hx
theorem ud {A B:List Held}{p:Place}{w:Int}(h:∀x∈A,¬ x.Place=p):uE (A++⟨p,w⟩::B) p=w:=by
 unfold uE;rw [List.find?_append,Gw h];simp
theorem Dr {A:List Held}{p:Place}(h:∀x∈A,¬ x.Place=p):uE A p=0:=by
 unfold uE;rw [Gw h]
theorem si {A B:List Held}{x:Held}{q:Place}(h:¬ x.Place=q):uE (A++x::B) q=uE (A++B) q:=by
 unfold uE;rw [List.find?_append,List.find?_append,List.find?_cons]
 have:(x.Place==q)=false:=by simpa using h
 rw [this]
theorem at_eq {l:List Held}{p:Place}(hr:yR l):mU l p=uE l p:=by
 cases shape l p hr with
 | hit A B w e h k ha hb =>
  have hx:l[fT l p]? = some ⟨p,w⟩:=by rw [k,e];simp
  rw [F6 h hx,e,ud (fun x hx=>lq (ha x hx))]
 | miss A B e h k ha hb =>
  rw [JI h,e,Dr]
  intro x hx
  rcases List.mem_append.1 hx with hx|hx
  .exact lq (ha x hx)
  .exact fun e=>lq (hb x hx) e.symm
theorem KW {p:Place}{id:Int}:∀ {A:List Held} (acc:List Held) (b:Bool),(∀x∈A,j9 x.Place p)->A.foldl (oG p id) (acc,b)=(acc++A,b)
 | [],acc,b,h=>by simp
 | x::A,acc,b,h=>by
  have hx:=h x (List.mem_cons_self ..)
  simp only [List.foldl_cons]
  rw [pX (.inr (by unfold j9 at hx;omega)),if_neg (lq hx),KW _ _ (fun y hy=>h y (List.mem_cons_of_mem _ hy))]
  simp
theorem Ds {p:Place}{id:Int}:∀ {B:List Held} (acc:List Held),(∀x∈B,j9 p x.Place)->B.foldl (oG p id) (acc,true)=(acc++B,true)
 | [],acc,h=>by simp
 | x::B,acc,h=>by
  have hx:=h x (List.mem_cons_self ..)
  simp only [List.foldl_cons]
  rw [pX (.inl rfl),if_neg (fun e=>lq hx e.symm),Ds _ (fun y hy=>h y (List.mem_cons_of_mem _ hy))]
  simp
theorem tq {l A B:List Held}{p:Place}{w id:Int}(e:l=A++⟨p,w⟩::B)(h:Hh l p=true)(k:fT l p=A.length):fP l p id=if id=0 then A++B else A++⟨p,id⟩::B:=by
 unfold fP;rw [if_pos h,k,e]
 split
 .
  congr 1
  .simp
  .rw [List.drop_append,List.drop_of_length_le (by omega)];simp
 .simp
theorem qY {l A B:List Held}{p:Place}{id:Int}(e:l=A++B)(h:Hh l p=false)(k:fT l p=A.length):fP l p id=if id=0 then A++B else A++⟨p,id⟩::B:=by
 unfold fP;rw [if_neg (by rw [h];simp),k,e]
 split
 .rfl
 .simp
theorem put_eq {l:List Held}{p:Place}{id:Int}(hr:yR l):fP l p id=EH l p id:=by
 cases shape l p hr with
 | hit A B w e h k ha hb =>
  rw [tq e h k]
  unfold EH CG
  rw [e,List.foldl_append,KW _ _ ha,List.foldl_cons]
  have hle:p.aB<(⟨p,w⟩:Held).Place.aB∨(p.aB=(⟨p,w⟩:Held).Place.aB/\p.Slot<=(⟨p,w⟩:Held).Place.Slot):= .inr ⟨rfl,Int.le_refl _⟩
  by_cases h0:id=0
  .
   have:(id==0)=true:=by simpa using h0
   rw [this,pX (.inl rfl),if_pos rfl,Ds _ hb,if_pos h0,if_pos rfl];simp
  .
   have:(id==0)=false:=by simpa using h0
   rw [this,wP hle,if_pos rfl,Ds _ hb,if_neg h0,if_pos rfl];simp
 | miss A B e h k ha hb =>
  rw [qY e h k]
  unfold EH CG
  rw [e,List.foldl_append,KW _ _ ha]
  by_cases h0:id=0
  .
   have:(id==0)=true:=by simpa using h0
   rw [this,Ds _ hb,if_pos h0,if_pos rfl];simp
  .
   have:(id==0)=false:=by simpa using h0
   rw [this,if_neg h0]
   cases B with
   | nil=>rw [List.foldl_nil,if_neg Bool.false_ne_true];simp
   | cons x B =>
    have hx:=hb x (List.mem_cons_self ..)
    have hne:¬ x.Place=p:=fun e=>lq hx e.symm
    rw [List.foldl_cons,wP (by unfold j9 at hx;omega),if_neg hne,Ds _ (fun y hy=>hb y (List.mem_cons_of_mem _ hy)),if_pos rfl];simp
theorem Dt {A B:List Held}(h:yR (A++B)):yR A/\yR B /\ ∀x∈A,∀y∈B,j9 x.Place y.Place:=List.pairwise_append.1 h
theorem mI {l:List Held}{p:Place}{id:Int}(hg:Good l)(hp:aY p=0):Good (fP l p id):=by
 have hr:=jP hg;have hf:=tj hg
 cases shape l p hr with
 | hit A B w e h k ha hb =>
  rw [tq e h k]
  rw [e] at hr hf
  obtain ⟨h1,h2,h3⟩:=Dt hr
  obtain ⟨h4,h5⟩:=List.pairwise_cons.1 h2
  split
  .exact qX (List.pairwise_append.2 ⟨h1,h5,fun x hx y hy=>h3 x hx y (List.mem_cons_of_mem _ hy)⟩) (fun x hx=>hf x (by simp at hx ⊢;rcases hx with hx|hx <;> simp [hx]))
  .
   refine qX (List.pairwise_append.2 ⟨h1,List.pairwise_cons.2 ⟨hb,h5⟩,fun x hx y hy=>?_⟩) (fun x hx=>?_)
   .
    rcases List.mem_cons.1 hy with hy|hy
    .subst hy;exact ha x hx
    .exact h3 x hx y (List.mem_cons_of_mem _ hy)
   .
    simp at hx
    rcases hx with hx|hx|hx
    .exact hf x (by simp [hx])
    .subst hx;exact ⟨hp,by assumption⟩
    .exact hf x (by simp [hx])
 | miss A B e h k ha hb =>
  rw [qY e h k]
  split
  .rw [<- e];exact hg
  .
   rw [e] at hr hf
   obtain ⟨h1,h2,h3⟩:=Dt hr
   refine qX (List.pairwise_append.2 ⟨h1,List.pairwise_cons.2 ⟨hb,h2⟩,fun x hx y hy=>?_⟩) (fun x hx=>?_)
   .
    rcases List.mem_cons.1 hy with hy|hy
    .subst hy;exact ha x hx
    .exact h3 x hx y hy
   .
    simp at hx
    rcases hx with hx|hx|hx
    .exact hf x (by simp [hx])
    .subst hx;exact ⟨hp,by assumption⟩
    .exact hf x (by simp [hx])
theorem zO {l:List Held}{p q:Place}{id:Int}(hg:Good l)(hp:aY p=0)(hq:¬ q=p):mU (fP l p id) q=mU l q:=by
 have hr:=jP hg
 rw [at_eq (jP (mI hg hp)),at_eq hr]
 have hpq:¬ p=q:=fun e=>hq e.symm
 cases shape l p hr with
 | hit A B w e h k ha hb =>
  rw [tq e h k,e,si (x:=⟨p,w⟩) hpq]
  split
  .rfl
  .rw [si (x:=⟨p,id⟩) hpq]
 | miss A B e h k ha hb =>
  rw [qY e h k,e]
  split
  .rfl
  .rw [si (x:=⟨p,id⟩) hpq]
theorem uP {l:List Held}{h:Int}:∀ (n s:Nat),(mB l h n s = -1 /\ ∀t,s<=t->t<s+n->mU l ⟨h,(t:Int)⟩≠0) ∨ ∃k:Nat,mB l h n s=k/\s<=k/\k<s+n/\mU l ⟨h,(k:Int)⟩=0 /\ ∀t,s<=t->t<k->mU l ⟨h,(t:Int)⟩≠0
 | 0,s => .inl ⟨rfl,fun t h1 h2=>by omega⟩
 | n+1,s=>by
  simp only [mB]
  by_cases e:mU l ⟨h,s⟩=0
  .rw [if_pos e];exact .inr ⟨s,rfl,Nat.le_refl _,by omega,e,fun t h1 h2=>by omega⟩
  .
   rw [if_neg e]
   rcases uP (l:=l) (h:=h) n (s+1) with ⟨h1,h2⟩ | ⟨k,h1,h2,h3,h4,h5⟩
   .
    refine .inl ⟨h1,fun t h3 h4=>?_⟩
    rcases Nat.eq_or_lt_of_le h3 with h5|h5
    .subst h5;exact e
    .exact h2 t h5 (by omega)
   .
    refine .inr ⟨k,h1,by omega,by omega,h4,fun t h6 h7=>?_⟩
    rcases Nat.eq_or_lt_of_le h6 with h8|h8
    .subst h8;exact e
    .exact h5 t h8 h7
theorem free_spec (l:List Held)(h:Int):(je l h = -1 /\ ∀t:Int,0<=t->t<=5->mU l ⟨h,t⟩≠0)∨(0<=je l h/\je l h<=5/\mU l ⟨h,je l h⟩=0 /\ ∀t:Int,0<=t->t<je l h->mU l ⟨h,t⟩≠0):=by
 rcases uP (l:=l) (h:=h) 6 0 with ⟨h1,h2⟩ | ⟨k,h1,h2,h3,h4,h5⟩
 .
  refine .inl ⟨h1,fun t h3 h4=>?_⟩
  have:=h2 t.toNat (Nat.zero_le _) (by omega)
  rwa [Int.toNat_of_nonneg h3] at this
 .
  have hk:je l h=k:=h1
  refine .inr ⟨by omega,by omega,by rw [hk];exact h4,fun t h6 h7=>?_⟩
  have:=h5 t.toNat (Nat.zero_le _) (by omega)
  rwa [Int.toNat_of_nonneg h6] at this

end Go.Proofs.YtkbhcbipadkcaaaGreatDoor
