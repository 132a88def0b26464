import Derived.Test.YtkbhcbipadkcaaaGreatDoorTW20
namespace Go.Proofs.YtkbhcbipadkcaaaGreatDoor
set_option linter.unusedVariables false
set_option linter.unusedSimpArgs false
set_option maxRecDepth 100000
set_option maxHeartbeats 90000000
def newR:aC:=⟨[],[],[],[],1,1⟩
def cE (r:aC)(a:dQ):aC×Int :=
  if a.Kind=(⟨#[109,97,107,101]⟩:ByteArray) then dV r a.P a.A
  else if a.Kind=(⟨#[103,105,118,101]⟩:ByteArray) then fq r a.P a.Q a.A a.B
  else if a.Kind=(⟨#[109,111,118,101]⟩:ByteArray) then jl r a.P a.A
  else if a.Kind=(⟨#[100,114,111,112]⟩:ByteArray) then jL r a.P
  else if a.Kind=(⟨#[114,101,118,111,107,101]⟩:ByteArray) then fe r a.P
  else if a.Kind=(⟨#[119,114,105,116,101]⟩:ByteArray) then fY r a.P a.S
  else if a.Kind=(⟨#[115,101,110,100]⟩:ByteArray) then dO r a.P a.S a.A a.B
  else if a.Kind=(⟨#[116,97,107,101]⟩:ByteArray) then ((eB r a.P).1,(eB r a.P).2.2.2)
  else (r,0)
def S7 (r:aC)(a:dQ):aC:=if (cE r a).2=0 then (cE r a).1 else r
def grow (l:List dQ):aC:=l.foldl S7 newR
theorem tw {w:ak}{id r b:Int}(h:(derived w id r b).2=0):0<=r/\r<=7/\0<=b/\b<=99/\ji w.Rights r=true/\(derived w id r b).1=⟨id,w.aE,r,if b=0 then w.aQ else b,w.ID⟩/\(w.aQ=0∨b=0∨b=w.aQ):=by
 revert h
 rcases hX r with ⟨h1,h2⟩ | ⟨h1,h2⟩
 .unfold derived;rw [if_pos h1];intro h;simp at h
 .
  unfold derived;rw [if_neg (by rw [h1];decide)]
  by_cases hb:b<0
  .rw [if_pos hb];intro h;simp at h
  .
   rw [if_neg hb]
   by_cases hb2:99<b
   .rw [if_pos hb2];intro h;simp at h
   .
    rw [if_neg hb2]
    cases hr:ji w.Rights r with
    | false=>rw [if_pos rfl];intro h;simp at h
    | true =>
     rw [if_neg (by decide)]
     by_cases hc:b≠0/\w.aQ≠0/\b≠w.aQ
     .rw [if_pos hc];intro h;simp at h
     .rw [if_neg hc];intro h;exact ⟨h2.1,h2.2,by omega,by omega,rfl,rfl,by omega⟩
theorem xV {w:ak}{id r b:Int}(h:(derived w id r b).2=0):0<=(derived w id r b).1.Rights/\(derived w id r b).1.Rights<=7:=by
 have:=tw h;rw [this.2.2.2.2.2.1];exact ⟨this.1,this.2.1⟩
structure Sz (k:Nat)(r:aC):Prop where
  wl:r.ao.length<=k
  tl:r.Things.length<=k
  hl:r.Held.length<=2*k
  nl:r.Notes.length<=k
  ri:∀w∈r.ao,0<=w.Rights/\w.Rights<=7
  w0:0<=r.ae
  w1:r.ae<=1000
  t0:0<=r.ah
  t1:r.ah<=1000
theorem Sz.ok {k:Nat}{r:aC}(h:Sz k r)(hk:k<=1000):Ok r:=⟨by have:=h.wl;omega,by have:=h.tl;omega,by have:=h.hl;omega,by have:=h.nl;omega,h.ri,h.w0,by have:=h.w1;omega,h.t0,by have:=h.t1;omega⟩
theorem Sz.up {k m:Nat}{r:aC}(h:Sz k r)(hk:k<=m):Sz m r:=⟨by have:=h.wl;omega,by have:=h.tl;omega,by have:=h.hl;omega,by have:=h.nl;omega,h.ri,h.w0,h.w1,h.t0,h.t1⟩
theorem Sz.new:Sz 0 newR:=⟨Nat.le_refl _,Nat.le_refl _,Nat.le_refl _,Nat.le_refl _,fun w hw=>(by cases hw),by decide,by decide,by decide,by decide⟩
theorem rP (k:Nat):Sz k r0:=⟨Nat.zero_le _,Nat.zero_le _,Nat.zero_le _,Nat.zero_le _,fun w hw=>(by cases hw),by decide,by decide,by decide,by decide⟩
theorem BN {l:List ak}{x:ak}(h:∀w∈l,0<=w.Rights/\w.Rights<=7)(hx:0<=x.Rights/\x.Rights<=7):∀w∈l++[x],0<=w.Rights/\w.Rights<=7:=fun w hw=>by
 rcases List.mem_append.1 hw with hw|hw
 .exact h w hw
 .rw [List.mem_singleton.1 hw];exact hx
theorem om {k:Nat}{r:aC}(h:Sz k r):Sz k (fM r) :=
 ⟨h.wl,Nat.le_trans (List.length_filter_le _ _) h.tl,Nat.le_trans (List.length_filter_le _ _) h.hl,by
  have:=qW r.ao (bU r.ao) r.Notes
  have:=h.nl
  show (ig r.ao (bU r.ao) r.Notes).length<=k
  omega,h.ri,h.w0,h.w1,h.t0,h.t1⟩
theorem Ii {k:Nat}{r:aC}(h:Sz k r):Sz k (nB r) :=
 ⟨Nat.le_trans (tu _ _) h.wl,(om h).tl,(om h).hl,(om h).nl,BK _ _ h.ri,h.w0,h.w1,h.t0,h.t1⟩
theorem oY {k:Nat}:∀ (n:Nat) (r:aC),Sz k r->Sz k (gV n r)
 | 0,r,h=>om h
 | n+1,r,h=>by
  unfold gV;split
  .exact om h
  .exact oY n _ (Ii h)
theorem Sz.uR {k:Nat}{r:aC}(h:Sz k r){l:List ak}(hl:l.length<=k)(hr:∀w∈l,0<=w.Rights/\w.Rights<=7):Sz k ⟨l,r.Things,r.Held,r.Notes,r.ae,r.ah⟩ :=
 ⟨hl,h.tl,h.hl,h.nl,hr,h.w0,h.w1,h.t0,h.t1⟩
theorem M1 {k:Nat}{r:aC}(h:Sz k r)(p:Place)(kind:Int):Sz (k+1) (dV r p kind).1:=by
 have:=h.wl;have:=h.tl;have:=h.hl;have:=h.nl;have:=h.w0;have:=h.t0;have hp:=nV r.Held p r.ae
 unfold dV
 (repeat' split) <;> first|exact rP _|skip
 refine ⟨?_,?_,?_,?_,BN h.ri ⟨(by show (0:Int)<=7;decide),(by show (7:Int)<=7;decide)⟩,?_,?_,?_,?_⟩ <;> dsimp only [fy]
 .simp;omega
 .simp;omega
 .
  split
  .omega
  .omega
 all_goals omega
theorem M3 {k:Nat}{r:aC}(h:Sz k r)(p t:Place)(a b:Int):Sz (k+1) (fq r p t a b).1:=by
 have:=h.wl;have:=h.tl;have:=h.hl;have:=h.nl;have:=h.w0;have:=h.t0;have:=h.t1
 unfold fq
 (repeat' split) <;> first|exact rP _|skip
 rename_i h1 h2 h3 h4 h5
 have hp:=nV r.Held t (derived (aS r p).1 r.ae a b).1.ID
 have hr:0<=(derived (aS r p).1 r.ae a b).1.Rights/\(derived (aS r p).1 r.ae a b).1.Rights<=7:=xV h5
 refine ⟨?_,?_,?_,?_,BN h.ri hr,?_,?_,?_,?_⟩ <;> dsimp only [fy]
 .simp;omega
 .omega
 .split <;> omega
 all_goals omega
theorem M4 {k:Nat}{r:aC}(h:Sz k r)(p:Place)(s:Int):Sz (k+1) (jl r p s).1:=by
 have:=h.wl;have:=h.tl;have:=h.hl;have:=h.nl;have:=h.w0;have:=h.t0;have:=h.t1;have:=h.w1
 have h1:=nV r.Held p 0
 have h2:=nV (fR r.Held p 0) ⟨p.aA,s⟩ (aS r p).1.ID
 unfold jl
 (repeat' split) <;> first|exact rP _|exact ⟨by dsimp only;omega,by dsimp only;omega,by dsimp only;omega,by dsimp only;omega,h.ri,h.w0,h.w1,h.t0,h.t1⟩
theorem M5 {k:Nat}{r:aC}(h:Sz k r)(p:Place):Sz (k+1) (jL r p).1:=by
 unfold jL;split
 .exact (oY _ _ (h.uR (Nat.le_trans (nh _ _) h.wl) (oW h.ri))).up (Nat.le_succ k)
 .exact rP _
theorem Ij {k:Nat}{r:aC}(h:Sz k r)(p:Place):Sz (k+1) (fe r p).1:=by
 unfold fe;split
 .exact (oY _ _ (h.uR (Nat.le_trans (List.length_filter_le _ _) h.wl) (fun w hw=>h.ri w (List.mem_filter.1 hw).1))).up (Nat.le_succ k)
 .exact rP _
theorem uU (l:List aE)(i:Nat)(d:ByteArray):(gW l i d).length=l.length:=by
 unfold gW;split <;> simp
theorem KZ {k:Nat}{r:aC}(h:Sz k r)(p:Place)(d:ByteArray):Sz (k+1) (fY r p d).1:=by
 have:=h.wl;have:=h.tl;have:=h.hl;have:=h.nl
 unfold fY
 (repeat' split) <;> first|exact rP _|exact ⟨by dsimp only;omega,by dsimp only;rw [uU];omega,by dsimp only;omega,by dsimp only;omega,h.ri,h.w0,h.w1,h.t0,h.t1⟩
theorem M6 {k:Nat}{r:aC}(h:Sz k r)(p:Place)(d:ByteArray)(a b:Int):Sz (k+1) (dO r p d a b).1:=by
 have:=h.wl;have:=h.tl;have:=h.hl;have:=h.nl;have:=h.w0;have:=h.t0;have:=h.t1;have:=h.w1
 unfold dO
 (repeat' split) <;> first|exact rP _|exact ⟨by dsimp only;omega,by dsimp only;omega,by dsimp only;omega,by simp;omega,h.ri,h.w0,h.w1,h.t0,h.t1⟩ | skip
 rename_i h8
 exact ⟨by simp;omega,by dsimp only;omega,by dsimp only;omega,by simp;omega,BN h.ri (xV h8),by dsimp only;omega,by dsimp only;omega,h.t0,h.t1⟩
theorem K0 (l:List Note)(i:Nat):(uj l i).length<=l.length:=by
 unfold uj;rw [List.length_append,List.length_take,List.length_drop];omega
theorem M7 {k:Nat}{r:aC}(h:Sz k r)(p:Place):Sz (k+1) (eB r p).1:=by
 have:=h.wl;have:=h.tl;have:=h.hl;have:=h.nl
 unfold eB
 split
 .
  split
  .
   rename_i n _ _
   have h1:=nV r.Held ⟨p.aA,je r.Held p.aA⟩ n.ak
   have h2:=K0 r.Notes (idxOf (fun n=>n.Port==(cD r p 2 1).1.aE) r.Notes).toNat
   (repeat' split) <;> first|exact rP _|exact ⟨by dsimp only;omega,by dsimp only;omega,by dsimp only;omega,by dsimp only;omega,h.ri,h.w0,h.w1,h.t0,h.t1⟩
  .exact rP _
 .exact rP _
theorem K1 {k:Nat}{r:aC}(h:Sz k r)(a:dQ):Sz (k+1) (cE r a).1:=by
 unfold cE
 (repeat' split)
 .exact M1 h _ _
 .exact M3 h _ _ _ _
 .exact M4 h _ _
 .exact M5 h _
 .exact Ij h _
 .exact KZ h _ _
 .exact M6 h _ _ _ _
 .exact M7 h _
 .exact h.up (Nat.le_succ k)
section
open Go Go.RowKit
set_option linter.unusedSectionVars false
theorem K2:NR Tryz.prog 100 aE.val:=by
 have hS:Tryz.prog.underlying 100=some (.struct (Tryz.prog.fieldsOf 100)):=by kernel_rfl
 have hp:Tryz.prog.stoodInHeld 100=false:=by kernel_rfl
 refine wJ (cs:=aE.cs) (by kernel_rfl) fun x y w=>?_
 have u3:=Tryz.underlying9;have a3:=Tryz.isAgg9;have z3:=Tryz.sizeOf9;have u4:=Tryz.underlying3;have a4:=Tryz.isAgg3;have z4:=Tryz.sizeOf3
 obtain ⟨x1,x2,x3⟩:=x;obtain ⟨y1,y2,y3⟩:=y
 rw [Op.equal,Op.maxDepth,show (10000:Nat)=9999+1 from rfl,run_equalIn_agg w 9999 100 _ _ hS hp]
 simp only [Program.fieldsOf,Tryz.underlying100]
 go_simp
 have tl:∀a b:ByteArray,a.toList=b.toList↔a=b:=fun a b=>by have:=ly a b;rw [Bool.eq_iff_iff] at this;simpa using this
 by_cases h1:x1=y1 <;> by_cases h2:x2=y2 <;> by_cases h3:x3=y3 <;> simp [h1,h2,h3,tl]
theorem OD:NR Tryz.prog 89 Note.val:=by
 have hS:Tryz.prog.underlying 89=some (.struct (Tryz.prog.fieldsOf 89)):=by kernel_rfl
 have hp:Tryz.prog.stoodInHeld 89=false:=by kernel_rfl
 refine wJ (cs:=Note.cs) (by kernel_rfl) fun x y w=>?_
 have u3:=Tryz.underlying9;have a3:=Tryz.isAgg9;have z3:=Tryz.sizeOf9;have u4:=Tryz.underlying3;have a4:=Tryz.isAgg3;have z4:=Tryz.sizeOf3
 obtain ⟨x1,x2,x3,x4⟩:=x;obtain ⟨y1,y2,y3,y4⟩:=y
 rw [Op.equal,Op.maxDepth,show (10000:Nat)=9999+1 from rfl,run_equalIn_agg w 9999 89 _ _ hS hp]
 simp only [Program.fieldsOf,Tryz.underlying89]
 go_simp
 have tl:∀a b:ByteArray,a.toList=b.toList↔a=b:=fun a b=>by have:=ly a b;rw [Bool.eq_iff_iff] at this;simpa using this
 by_cases h1:x1=y1 <;> by_cases h2:x2=y2 <;> by_cases h3:x3=y3 <;> by_cases h4:x4=y4 <;> simp [h1,h2,h3,h4,tl]
end
section
open Go Go.RowKit
end
theorem sr {p q r:Place}(h:j9 p q)(k:j9 q r):j9 p r:=by unfold j9 at *;omega
theorem tA {p:Place}(h:j9 p p):False:=by unfold j9 at h;omega
theorem Dv (p q:Place):j9 p q∨p=q∨j9 q p:=by
 cases p;cases q;unfold j9;simp only [Place.mk.injEq];omega
theorem lr {p q:Place}(h:j9 p q):p≠q:=fun e=>tA (e▸h)
theorem xW (p q:Place):rC p q<0↔j9 p q:=by
 unfold rC rA j9
 constructor
 .intro h;split at h <;> (repeat' split at h) <;> first|omega|(simp_all;done)|(simp_all;omega)
 .intro h;split <;> (repeat' split) <;> omega
abbrev yX (l:List Held):Prop:=l.Pairwise fun a b=>j9 a.Place b.Place
def K3 (l:List Held):Prop:= ∀h∈l,aZ h.Place=0/\h.ak≠0
theorem jP {l:List Held}(h:Good l):yX l:=by
 have key:∀ (d i:Nat) x y,l[i]? = some x->l[i+d+1]? = some y->j9 x.Place y.Place:=by
  intro d
  induction d with
  | zero =>
   intro i x y hx hy
   have hi:=(List.getElem?_eq_some_iff.1 hy).1
   exact (h (i+1) hi y hy).2.2 x (by omega) (by simpa using hx)
  | succ d ih =>
   intro i x y hx hy
   have hi:=(List.getElem?_eq_some_iff.1 hy).1
   obtain ⟨z,hz⟩:∃z,l[i+d+1]? = some z:=⟨_,List.getElem?_eq_getElem (by omega)⟩
   exact sr (ih i x z hx hz) ((h (i+(d+1)+1) hi y hy).2.2 z (by omega) (by rw [<- hz];congr 1))
 refine List.pairwise_iff_getElem.2 ?_
 intro i j hi hj hij
 exact key (j-i-1) i _ _ (List.getElem?_eq_getElem hi) (by rw [show i+(j-i-1)+1=j by omega];exact List.getElem?_eq_getElem hj)
theorem tC {l:List Held}(h:Good l):K3 l:=fun x hx=>by
 obtain ⟨i,hi⟩:=List.mem_iff_getElem?.1 hx
 have:=h i (List.getElem?_eq_some_iff.1 hi).1 x hi
 exact ⟨this.1,this.2.1⟩
theorem rj {l:List Held}(h:yX l)(hf:K3 l):Good l:=fun k hk x hx=>by
 refine ⟨(hf x (List.mem_of_getElem? hx)).1,(hf x (List.mem_of_getElem? hx)).2,fun g h0 hg=>?_⟩
 have h:=List.pairwise_iff_getElem.1 h
 have:=h (k-1) k (by omega) hk (by omega)
 rw [(List.getElem?_eq_some_iff.1 hx).2,(List.getElem?_eq_some_iff.1 hg).2] at this
 exact this
theorem Dw {l:List Held}:Good l↔yX l/\K3 l:=⟨fun h=>⟨jP h,tC h⟩,fun h=>rj h.1 h.2⟩
def Dx (p:Place):Int:=6*p.aA+p.Slot
theorem M8 {p q:Place}(hp:aZ p=0)(hq:aZ q=0)(h:j9 p q):Dx p<Dx q:=by
 have:=cw hp;have:=cw hq
 unfold j9 at h;unfold Dx;omega
theorem K4 {l:List Held}(h:Good l):l.length<=24:=by
 have hr:=jP h;have hf:=tC h
 have key:∀ (l:List Held) (m:Int),yX l->K3 l->(∀x∈l,m<Dx x.Place)->m<=30->m+l.length<=29∨l=[]:=by
  intro l
  induction l with
  | nil=>intro m _ _ _ _;exact .inr rfl
  | cons x l ih =>
   intro m hr hf hm Ww
   left
   have hx:=hf x (List.mem_cons_self ..)
   have hp:=cw hx.1
   have h1:=hm x (List.mem_cons_self ..)
   have h2:Dx x.Place<=29:=by unfold Dx;omega
   obtain ⟨hr1,hr2⟩:=List.pairwise_cons.1 hr
   have hf':K3 l:=fun y hy=>hf y (List.mem_cons_of_mem _ hy)
   rcases ih (Dx x.Place) hr2 hf' (fun y hy=>M8 hx.1 (hf' y hy).1 (hr1 y hy)) (by omega) with h3|h3
   .simp only [List.length_cons];omega
   .subst h3;simp;omega
 rcases key l 5 hr hf (fun x hx=>by have:=cw (hf x hx).1;unfold Dx;omega) (by omega) with h1|h1
 .omega
 .subst h1;simp
inductive Shape (l:List Held)(p:Place):Prop
  | hit (A B:List Held) (w:Int) (e:l=A++⟨p,w⟩::B) (h:Hu l p=true) (k:fW l p=A.length) (ha:∀x∈A,j9 x.Place p) (hb:∀x∈B,j9 p x.Place)
  | miss (A B:List Held) (e:l=A++B) (h:Hu l p=false) (k:fW l p=A.length) (ha:∀x∈A,j9 x.Place p) (hb:∀x∈B,j9 p x.Place)
theorem shape (l:List Held)(p:Place)(hr:yX l):Shape l p:=by
 have hm:=CM (f:=fun h:Held=>rC h.Place p) (l:=l) (fun i j x y hij hx hy hc=>by
  simp only [xW] at hc ⊢
  rcases Nat.lt_or_ge i j with h1|h1
  .
   have hr':=List.pairwise_iff_getElem.1 hr
   have:=hr' i j (List.getElem?_eq_some_iff.1 hx).1 (List.getElem?_eq_some_iff.1 hy).1 h1
   rw [(List.getElem?_eq_some_iff.1 hx).2,(List.getElem?_eq_some_iff.1 hy).2] at this
   exact sr this hc
  .
   have:i=j:=by omega
   subst this;rw [hx] at hy;injection hy with hy;subst hy;exact hc)
 have hk:=vE l p
 have hsplit:l=l.take (fW l p)++l.drop (fW l p):=(List.take_append_drop _ _).symm
 have hlen:(l.take (fW l p)).length=fW l p:=by rw [List.length_take];omega
 have hA:∀x∈l.take (fW l p),j9 x.Place p:=fun x hx=>by
  obtain ⟨i,hi⟩:=List.mem_iff_getElem?.1 hx
  rw [List.getElem?_take] at hi
  split at hi
  .exact (xW _ _).1 (hm.1 i x (by assumption) hi)
  .cases hi
 have hB:∀x∈l.drop (fW l p),¬ j9 x.Place p:=fun x hx=>by
  obtain ⟨i,hi⟩:=List.mem_iff_getElem?.1 hx
  rw [List.getElem?_drop] at hi
  exact fun hc=>hm.2 _ x (Nat.le_add_right _ _) hi ((xW _ _).2 hc)
 rcases tY l p with h|⟨x,hx,h,hp,hlt⟩
 .
  refine .miss _ _ hsplit h hlen.symm hA fun x hx=>?_
  have h1:=hB x hx
  rcases Dv p x.Place with h2|h2|h2
  .exact h2
  .
   exfalso
   obtain ⟨y,hy⟩:∃y,l[fW l p]? = some y:=by
    obtain ⟨i,hi⟩:=List.mem_iff_getElem?.1 hx
    rw [List.getElem?_drop] at hi
    have:=(List.getElem?_eq_some_iff.1 hi).1
    exact ⟨_,List.getElem?_eq_getElem (by omega)⟩
   have hyn:rC y.Place p≠0:=fun hc=>by
    have:Hu l p=true:=by
     show lI _ l=true
     unfold lI
     have hy':l[jG (fun h:Held=>rC h.Place p) l]? = some y:=hy
     rw [hy'];simp [hc]
    rw [h] at this;cases this
   have hym:y∈l.drop (fW l p):=List.mem_iff_getElem?.2 ⟨0,by rw [List.getElem?_drop];exact hy⟩
   have hyb:=hB y hym
   have hyp:j9 p y.Place:=by
    rcases Dv p y.Place with h3|h3|h3
    .exact h3
    .exact absurd (by rw [h3];exact Ht _) hyn
    .exact absurd h3 hyb
   obtain ⟨i,hi⟩:=List.mem_iff_getElem?.1 hx
   rw [List.getElem?_drop] at hi
   rcases Nat.eq_zero_or_pos i with h0|h0
   .
    subst h0;rw [Nat.add_zero,hy] at hi;injection hi with hi;subst hi
    exact tA (h2▸hyp)
   .
    have hr':=List.pairwise_iff_getElem.1 hr
    have:=hr' (fW l p) (fW l p+i) (List.getElem?_eq_some_iff.1 hy).1 (List.getElem?_eq_some_iff.1 hi).1 (by omega)
    rw [(List.getElem?_eq_some_iff.1 hy).2,(List.getElem?_eq_some_iff.1 hi).2] at this
    exact tA (h2▸sr hyp this)
  .exact absurd h2 h1
 .
  have hd:l.drop (fW l p)=x::l.drop (fW l p+1):=by
   rw [List.drop_eq_getElem_cons hlt,(List.getElem?_eq_some_iff.1 hx).2]
  have hxe:x=⟨p,x.ak⟩:=by cases x;simp at hp;simp [hp]
  refine .hit (l.take (fW l p)) (l.drop (fW l p+1)) x.ak ?_ h hlen.symm hA fun y hy=>?_
  .rw [<- hxe,<- hd,List.take_append_drop]
  .
   obtain ⟨i,hi⟩:=List.mem_iff_getElem?.1 hy
   rw [List.getElem?_drop] at hi
   have hr':=List.pairwise_iff_getElem.1 hr
   have:=hr' (fW l p) (fW l p+1+i) hlt (List.getElem?_eq_some_iff.1 hi).1 (by omega)
   rw [(List.getElem?_eq_some_iff.1 hx).2,(List.getElem?_eq_some_iff.1 hi).2,hp] at this
   exact this
theorem GI {A:List Held}{p:Place}(h:∀x∈A,¬ x.Place=p):A.find? (fun h=>h.Place==p)=none:=by
 rw [List.find?_eq_none];intro x hx;simpa using h x hx
theorem um {A B:List Held}{p:Place}{w:Int}(h:∀x∈A,¬ x.Place=p):uK (A++⟨p,w⟩::B) p=w:=by
 unfold uK;rw [List.find?_append,GI h];simp
theorem Dy {A:List Held}{p:Place}(h:∀x∈A,¬ x.Place=p):uK A p=0:=by
 unfold uK;rw [GI h]
theorem su {A B:List Held}{x:Held}{q:Place}(h:¬ x.Place=q):uK (A++x::B) q=uK (A++B) q:=by
 unfold uK;rw [List.find?_append,List.find?_append,List.find?_cons]
 have:(x.Place==q)=false:=by simpa using h
 rw [this]
theorem at_eq {l:List Held}{p:Place}(hr:yX l):mV l p=uK l p:=by
 cases shape l p hr with
 | hit A B w e h k ha hb =>
  have hx:l[fW l p]? = some ⟨p,w⟩:=by rw [k,e];simp
  rw [Gf h hx,e,um (fun x hx=>lr (ha x hx))]
 | miss A B e h k ha hb =>
  rw [JU h,e,Dy]
  intro x hx
  rcases List.mem_append.1 hx with hx|hx
  .exact lr (ha x hx)
  .exact fun e=>lr (hb x hx) e.symm
theorem K5 {p:Place}{id:Int}:∀ {A:List Held} (acc:List Held) (b:Bool),(∀x∈A,j9 x.Place p)->A.foldl (oJ p id) (acc,b)=(acc++A,b)
 | [],acc,b,h=>by simp
 | x::A,acc,b,h=>by
  have hx:=h x (List.mem_cons_self ..)
  simp only [List.foldl_cons]
  rw [p9 (.inr (by unfold j9 at hx;omega)),if_neg (lr hx),K5 _ _ (fun y hy=>h y (List.mem_cons_of_mem _ hy))]
  simp
theorem Dz {p:Place}{id:Int}:∀ {B:List Held} (acc:List Held),(∀x∈B,j9 p x.Place)->B.foldl (oJ p id) (acc,true)=(acc++B,true)
 | [],acc,h=>by simp
 | x::B,acc,h=>by
  have hx:=h x (List.mem_cons_self ..)
  simp only [List.foldl_cons]
  rw [p9 (.inl rfl),if_neg (fun e=>lr hx e.symm),Dz _ (fun y hy=>h y (List.mem_cons_of_mem _ hy))]
  simp
theorem tD {l A B:List Held}{p:Place}{w id:Int}(e:l=A++⟨p,w⟩::B)(h:Hu l p=true)(k:fW l p=A.length):fR l p id=if id=0 then A++B else A++⟨p,id⟩::B:=by
 unfold fR;rw [if_pos h,k,e]
 split
 .
  congr 1
  .simp
  .rw [List.drop_append,List.drop_of_length_le (by omega)];simp
 .simp
theorem rk {l A B:List Held}{p:Place}{id:Int}(e:l=A++B)(h:Hu l p=false)(k:fW l p=A.length):fR l p id=if id=0 then A++B else A++⟨p,id⟩::B:=by
 unfold fR;rw [if_neg (by rw [h];simp),k,e]
 split
 .rfl
 .simp
theorem put_eq {l:List Held}{p:Place}{id:Int}(hr:yX l):fR l p id=EM l p id:=by
 cases shape l p hr with
 | hit A B w e h k ha hb =>
  rw [tD e h k]
  unfold EM CO
  rw [e,List.foldl_append,K5 _ _ ha,List.foldl_cons]
  have hle:p.aA<(⟨p,w⟩:Held).Place.aA∨(p.aA=(⟨p,w⟩:Held).Place.aA/\p.Slot<=(⟨p,w⟩:Held).Place.Slot):= .inr ⟨rfl,Int.le_refl _⟩
  by_cases h0:id=0
  .
   have:(id==0)=true:=by simpa using h0
   rw [this,p9 (.inl rfl),if_pos rfl,Dz _ hb,if_pos h0,if_pos rfl];simp
  .
   have:(id==0)=false:=by simpa using h0
   rw [this,wV hle,if_pos rfl,Dz _ hb,if_neg h0,if_pos rfl];simp
 | miss A B e h k ha hb =>
  rw [rk e h k]
  unfold EM CO
  rw [e,List.foldl_append,K5 _ _ ha]
  by_cases h0:id=0
  .
   have:(id==0)=true:=by simpa using h0
   rw [this,Dz _ hb,if_pos h0,if_pos rfl];simp
  .
   have:(id==0)=false:=by simpa using h0
   rw [this,if_neg h0]
   cases B with
   | nil=>rw [List.foldl_nil,if_neg Bool.false_ne_true];simp
   | cons x B =>
    have hx:=hb x (List.mem_cons_self ..)
    have hne:¬ x.Place=p:=fun e=>lr hx e.symm
    rw [List.foldl_cons,wV (by unfold j9 at hx;omega),if_neg hne,Dz _ (fun y hy=>hb y (List.mem_cons_of_mem _ hy)),if_pos rfl];simp
theorem DC {A B:List Held}(h:yX (A++B)):yX A/\yX B /\ ∀x∈A,∀y∈B,j9 x.Place y.Place:=List.pairwise_append.1 h
theorem mI {l:List Held}{p:Place}{id:Int}(hg:Good l)(hp:aZ p=0):Good (fR l p id):=by
 have hr:=jP hg;have hf:=tC hg
 cases shape l p hr with
 | hit A B w e h k ha hb =>
  rw [tD e h k]
  rw [e] at hr hf
  obtain ⟨h1,h2,h3⟩:=DC hr
  obtain ⟨h4,h5⟩:=List.pairwise_cons.1 h2
  split
  .exact rj (List.pairwise_append.2 ⟨h1,h5,fun x hx y hy=>h3 x hx y (List.mem_cons_of_mem _ hy)⟩) (fun x hx=>hf x (by simp at hx ⊢;rcases hx with hx|hx <;> simp [hx]))
  .
   refine rj (List.pairwise_append.2 ⟨h1,List.pairwise_cons.2 ⟨hb,h5⟩,fun x hx y hy=>?_⟩) (fun x hx=>?_)
   .
    rcases List.mem_cons.1 hy with hy|hy
    .subst hy;exact ha x hx
    .exact h3 x hx y (List.mem_cons_of_mem _ hy)
   .
    simp at hx
    rcases hx with hx|hx|hx
    .exact hf x (by simp [hx])
    .subst hx;exact ⟨hp,by assumption⟩
    .exact hf x (by simp [hx])
 | miss A B e h k ha hb =>
  rw [rk e h k]
  split
  .rw [<- e];exact hg
  .
   rw [e] at hr hf
   obtain ⟨h1,h2,h3⟩:=DC hr
   refine rj (List.pairwise_append.2 ⟨h1,List.pairwise_cons.2 ⟨hb,h2⟩,fun x hx y hy=>?_⟩) (fun x hx=>?_)
   .
    rcases List.mem_cons.1 hy with hy|hy
    .subst hy;exact ha x hx
    .exact h3 x hx y hy
   .
    simp at hx
    rcases hx with hx|hx|hx
    .exact hf x (by simp [hx])
    .subst hx;exact ⟨hp,by assumption⟩
    .exact hf x (by simp [hx])
theorem zT {l:List Held}{p q:Place}{id:Int}(hg:Good l)(hp:aZ p=0)(hq:¬ q=p):mV (fR l p id) q=mV l q:=by
 have hr:=jP hg
 rw [at_eq (jP (mI hg hp)),at_eq hr]
 have hpq:¬ p=q:=fun e=>hq e.symm
 cases shape l p hr with
 | hit A B w e h k ha hb =>
  rw [tD e h k,e,su (x:=⟨p,w⟩) hpq]
  split
  .rfl
  .rw [su (x:=⟨p,id⟩) hpq]
 | miss A B e h k ha hb =>
  rw [rk e h k,e]
  split
  .rfl
  .rw [su (x:=⟨p,id⟩) hpq]
theorem uV {l:List Held}{h:Int}:∀ (n s:Nat),(mB l h n s = -1 /\ ∀t,s<=t->t<s+n->mV l ⟨h,(t:Int)⟩≠0) ∨ ∃k:Nat,mB l h n s=k/\s<=k/\k<s+n/\mV l ⟨h,(k:Int)⟩=0 /\ ∀t,s<=t->t<k->mV l ⟨h,(t:Int)⟩≠0
 | 0,s => .inl ⟨rfl,fun t h1 h2=>by omega⟩
 | n+1,s=>by
  simp only [mB]
  by_cases e:mV l ⟨h,s⟩=0
  .rw [if_pos e];exact .inr ⟨s,rfl,Nat.le_refl _,by omega,e,fun t h1 h2=>by omega⟩
  .
   rw [if_neg e]
   rcases uV (l:=l) (h:=h) n (s+1) with ⟨h1,h2⟩ | ⟨k,h1,h2,h3,h4,h5⟩
   .
    refine .inl ⟨h1,fun t h3 h4=>?_⟩
    rcases Nat.eq_or_lt_of_le h3 with h5|h5
    .subst h5;exact e
    .exact h2 t h5 (by omega)
   .
    refine .inr ⟨k,h1,by omega,by omega,h4,fun t h6 h7=>?_⟩
    rcases Nat.eq_or_lt_of_le h6 with h8|h8
    .subst h8;exact e
    .exact h5 t h8 h7
theorem free_spec (l:List Held)(h:Int):(je l h = -1 /\ ∀t:Int,0<=t->t<=5->mV l ⟨h,t⟩≠0)∨(0<=je l h/\je l h<=5/\mV l ⟨h,je l h⟩=0 /\ ∀t:Int,0<=t->t<je l h->mV l ⟨h,t⟩≠0):=by
 rcases uV (l:=l) (h:=h) 6 0 with ⟨h1,h2⟩ | ⟨k,h1,h2,h3,h4,h5⟩
 .
  refine .inl ⟨h1,fun t h3 h4=>?_⟩
  have:=h2 t.toNat (Nat.zero_le _) (by omega)
  rwa [Int.toNat_of_nonneg h3] at this
 .
  have hk:je l h=k:=h1
  refine .inr ⟨by omega,by omega,by rw [hk];exact h4,fun t h6 h7=>?_⟩
  have:=h5 t.toNat (Nat.zero_le _) (by omega)
  rwa [Int.toNat_of_nonneg h6] at this

section
open Go Go.RowKit
theorem xX (bP:Value)(l:List Change)(most:Int)(w:World)(ew:Sl w bP l):Calls Tryz.prog 29 #[bP,iV most] w fun e w'=>e = .returned (.bool (r6 l most))/\Ext w w':=by
 have zx:=ew.fB
 refine R.enter [] [(0,bP),(1,iV most)] Tryz.func29 O O O O<|R.pC ew<|R.reg O<|R.u 1 O<|R.nil<|R.reg O<|R.u 1 O<|R.q (q.len' (dy 0 O) O Tryz.underlying34) O<|R.u 1 O<|?_
 by_cases h1:most<(l.length:Int)
 .
  exact R.q (q.eL O O) O<|R.nil<|R.av O O<|R.reg O<|R.u 1 O<|R.nil<|R.rv O Tryz.results29 O (rB (by (unfold r6;(rw [decide_eq_false (by omega)];rfl))))
 refine R.q (q.eo O O) O<|R.nil<|R.aB O O<|R.reg O<|R.u 1 O<|R.nil<|R.loop (fun k:Nat=>[(0,bP),(5,iV (k:Int))]) (fun k:Nat=>[]) (fun k:Nat=>[ag.ls bP l]) (fun k:Nat=>k<=l.length/\(l.take k).all oN=true) (fun k:Nat=>l.length-k) 0 O (by exact ⟨by omega,rfl⟩) (sF O) (ic [] [0] O) ?_
 rintro k ⟨hk,HA⟩
 refine R.reg O<|R.u 2 O<|R.q (q.len' (dy 0 O) O Tryz.underlying34) O<|?_
 by_cases h2:k<l.length
 .
  refine R.q (q.dz O O) O<|R.nil<|R.av O O<|R.reg O<|R.u 2 O<|?_
  obtain ⟨x1,hx1⟩:∃z,l[k]? = some z:=⟨_,List.getElem?_eq_getElem (by omega)⟩
  refine R.q (q.idx (i:=k) (dy 0 O) O O cd O hx1) O<|R.q (q.nI (j':=0) (dy 0 O) hx1 O bI O) O<|R.q (q.lw (dy 0 O) hx1 O bF O) O<|R.q (q.iA O Tryz.underlying9) O<|?_
  by_cases h3:20<x1.Key.size
  .
   exact R.q (q.eL O O) O<|R.u 9 O<|R.nil<|R.av O O<|R.reg O<|R.u 1 O<|R.nil<|R.rv O Tryz.results29 O (rB (by (unfold r6;(rw [vF hx1 (show oN _=false from by unfold oN;simp;omega)];simp))))
  refine R.q (q.eo O O) O<|R.u 3 O<|R.qg O (q.idx (i:=k) (dy 0 O) O O cd O hx1) O<|R.qg O (q.nI (j':=1) (dy 0 O) hx1 O cY O) O<|R.qg O (q.lw (dy 0 O) hx1 O bF O) O<|R.qg O (q.iA O Tryz.underlying9) O<|?_
  by_cases h4:40<x1.Val.size
  .
   exact R.qg O (q.eL O O) O<|R.u 1 O<|R.nil<|R.av O O<|R.reg O<|R.u 1 O<|R.nil<|R.rv O Tryz.results29 O (rB (by (unfold r6;(rw [vF hx1 (show oN _=false from by unfold oN;simp;omega)];simp))))
  refine R.qg O (q.eo O O) O<|R.u 1 O<|R.nil<|R.aB O O<|R.reg O<|R.u 1 O<|R.q (q.bB (r:=((k+1:Nat):Int)) O O) O<|R.u 1 O<|R.nil<|R.back (k+1) O (by (exact ⟨by omega,CW hx1 HA (by unfold oN;simp_all)⟩)) (by omega) (sF O) (aD [] [0] O)
 exact R.q (q.cW O O) O<|R.nil<|R.aB O O<|R.reg O<|R.u 1 O<|R.nil<|R.rv O Tryz.results29 O (rB (by (unfold r6;(rw [decide_eq_true (by omega),J1 (by omega) HA];rfl))))
theorem oZ (bP:Value)(l:List dQ)(most:Int)(w:World)(ew:Sl w bP l)(Hw:∀x∈l,Sl w x.cv x.Changes):Calls Tryz.prog 9 #[bP,iV most] w fun e w'=>e = .returned (.bool (lO l most))/\Ext w w':=by
 have zx:=ew.fB
 refine R.enter [] [(0,bP),(1,iV most)] Tryz.func9 O O O O<|R.pC ew<|R.nK (r:=ag.acts l) Hw (F4 Hw)<|R.reg O<|R.u 1 O<|R.nil<|R.reg O<|R.u 1 O<|R.q (q.len' (dy 1 O) O Tryz.underlying22) O<|R.u 1 O<|?_
 by_cases h1:most<(l.length:Int)
 .
  exact R.q (q.eL O O) O<|R.nil<|R.av O O<|R.reg O<|R.u 1 O<|R.nil<|R.rv O Tryz.results9 O (rB (by (unfold lO;(rw [decide_eq_false (by omega)];rfl))))
 refine R.q (q.eo O O) O<|R.nil<|R.aB O O<|R.reg O<|R.u 1 O<|R.nil<|R.loop (fun k:Nat=>[(0,bP),(5,iV (k:Int))]) (fun k:Nat=>[]) (fun k:Nat=>[ag.acts l,ag.ls bP l]) (fun k:Nat=>k<=l.length/\(l.take k).all oO=true) (fun k:Nat=>l.length-k) 0 O (by exact ⟨by omega,rfl⟩) (sF O) (ic [] [0,1] O) ?_
 rintro k ⟨hk,HA⟩
 refine R.reg O<|R.u 2 O<|R.q (q.len' (dy 1 O) O Tryz.underlying22) O<|?_
 by_cases h2:k<l.length
 .
  refine R.q (q.dz O O) O<|R.nil<|R.av O O<|R.reg O<|R.u 2 O<|?_
  obtain ⟨x1,hx1⟩:∃z,l[k]? = some z:=⟨_,List.getElem?_eq_getElem (by omega)⟩
  refine R.q (q.idx (i:=k) (dy 1 O) O O wv O hx1) O<|R.q (q.nI (j':=1) (dy 1 O) hx1 O tP O) O<|R.q (q.lw (dy 1 O) hx1 O bF O) O<|R.q (q.iA O Tryz.underlying9) O<|?_
  by_cases h3:100<x1.S.size
  .
   exact R.q (q.eL O O) O<|R.u 9 O<|R.nil<|R.av O O<|R.reg O<|R.u 1 O<|R.nil<|R.rv O Tryz.results9 O (rB (by (unfold lO;(rw [vF hx1 (show oO _=false from by unfold oO;simp;omega)];simp))))
  refine R.q (q.eo O O) O<|R.u 3 O<|R.qg O (q.idx (i:=k) (dy 1 O) O O wv O hx1) O<|R.qg O (q.nI (j':=10) (dy 1 O) hx1 O Hm O) O<|R.qg O (q.lw (dy 1 O) hx1 O gw O) O<|?_
  rcases Bool.eq_false_or_eq_true (r6 x1.Changes 70) with h4|h4
  .
   refine R.cg O (q.call N4 O O (fun w hw=>(cv (congrArg Value.bool h4) (xX _ x1.Changes 70 w ((fun _=>Wd.RP (l:=l) 0 O (List.mem_of_getElem? hx1)) w hw) )))) O<|R.u 2 O<|R.nil<|R.aB O O<|R.reg O<|R.u 1 O<|R.q (q.bB (r:=((k+1:Nat):Int)) O O) O<|R.u 1 O<|R.nil<|R.back (k+1) O (by (exact ⟨by omega,CW hx1 HA (by unfold oO;simp_all)⟩)) (by omega) (sF O) (aD [] [0,1] O)
  exact R.cg O (q.call N4 O O (fun w hw=>(cv (congrArg Value.bool h4) (xX _ x1.Changes 70 w ((fun _=>Wd.RP (l:=l) 0 O (List.mem_of_getElem? hx1)) w hw) )))) O<|R.u 2 O<|R.nil<|R.av O O<|R.reg O<|R.u 1 O<|R.nil<|R.rv O Tryz.results9 O (rB (by (unfold lO;(rw [vF hx1 (show oO _=false from by unfold oO;simp_all)];simp))))
 exact R.q (q.cW O O) O<|R.nil<|R.aB O O<|R.reg O<|R.u 1 O<|R.nil<|R.rv O Tryz.results9 O (rB (by (unfold lO;(rw [decide_eq_true (by omega),J1 (by omega) HA];rfl))))
theorem GJ (bS bK bL bM:Value)(r:aC)(a:dQ)(w:World)(own:List Nat)(H:HN w own [] [ag.ls bS r.ao,ag.ls bK r.Things,ag.ls bL r.Held,ag.ls bM r.Notes])(hk:Ok r):RC Tryz.prog 24 #[.agg #[bS,bK,bL,bM,iV r.ae,iV r.ah],.agg #[.string a.Kind,.string a.S,iV a.P.aA,iV a.P.Slot,iV a.Q.aA,iV a.Q.Slot,iV a.A,iV a.B,iV a.N,.int .u64 a.K,a.cv]] H (fun z:Value×Value×Value×Value => .tuple #[.agg #[z.1,z.2.1,z.2.2.1,z.2.2.2,iV (cE r a).1.ae,iV (cE r a).1.ah],da (cE r a).2]) (fun _=>[]) (fun z=>[ag.ls z.1 (cE r a).1.ao,ag.ls z.2.1 (cE r a).1.Things,ag.ls z.2.2.1 (cE r a).1.Held,ag.ls z.2.2.2 (cE r a).1.Notes]):=by
 have eJ:=H.cq 0 rfl
 have dN:=H.cq 1 rfl
 have fH:=H.cq 2 rfl
 have eK:=H.cq 3 rfl
 refine R.bD [(0,.agg #[bS,bK,bL,bM,iV r.ae,iV r.ah]),(1,.agg #[.string a.Kind,.string a.S,iV a.P.aA,iV a.P.Slot,iV a.Q.aA,iV a.Q.Slot,iV a.A,iV a.B,iV a.N,.int .u64 a.K,a.cv])] Tryz.func24 O O O O H<|R.reg O<|R.s O (s.box O O O) fun b1=>?_
 refine R.s O (s.box O O O) fun b2=>?_
 refine R.s O (s.alloc dI O O) fun b3=>?_
 refine R.u 1 O<|R.nil<|R.reg O<|R.q (q.aO O zj O) O<|R.q (q.ld 1 O O bF O) O<|R.nil<|R.reg O<|?_
 by_cases h1:a.Kind=⟨#[109,97,107,101]⟩
 .
  refine R.q (q.pQ O O h1) O<|R.u 1 O<|R.nil<|R.av O O<|R.reg O<|R.q (q.dh 2 O O aj) O<|R.q (q.aO O j2 O) O<|R.q (q.Hc (ds:=jO a.P) 1 O O bO O) O<|R.q (q.aO O qF O) O<|R.q (q.ld 1 O O au O) O<|R.s O (s.aW bJ bJ _ _ _ O O O R4 O O (fun w own hw H=>Ia bS bK bL bM r a.P a.A w own H ‹_›) O) ?_
  rintro ⟨z1,z2,z3,z4⟩
  dsimp only
  refine R.u 2 O<|R.s O (s.fS 0 _ O O O (fun _ _=>rfl) (.inl aj) (fun w hw=>(af (Sl.one (hw.bG 0 O)) (af (Sl.one (hw.bG 1 O)) (af (Sl.one (hw.bG 2 O)) (af (Sl.one (hw.bG 3 O)) (af O (af O aP))))))) O O O) fun _=>?_
  refine R.u 1 O<|R.nil ?_
  have hz:cE r a=(((dV r a.P a.A).1),(dV r a.P a.A).2):=by (unfold cE;(repeat' split) <;> rfl)
  rw [hz]
  exact R.w2 (z1,z2,z3,z4) [3] bJ O Tryz.results24 (RV.cell 0 O O aj) (RV.tmp O) O O O (dA O O)
 refine R.q (q.pR O O h1) O<|R.u 1 O<|R.nil<|R.aB O O<|R.reg O<|?_
 by_cases h2:a.Kind=⟨#[103,105,118,101]⟩
 .
  refine R.q (q.pQ O O h2) O<|R.u 1 O<|R.nil<|R.av O O<|R.reg O<|R.q (q.dh 2 O O aj) O<|R.q (q.aO O j2 O) O<|R.q (q.Hc (ds:=jO a.P) 1 O O bO O) O<|R.q (q.aO O Hl O) O<|R.q (q.Hc (ds:=jO a.Q) 1 O O bO O) O<|R.q (q.aO O qF O) O<|R.q (q.ld 1 O O au O) O<|R.q (q.aO O zk O) O<|R.q (q.ld 1 O O au O) O<|R.s O (s.aW bJ bJ _ _ _ O O O R5 O O (fun w own hw H=>Ib bS bK bL bM r a.P a.Q a.A a.B w own H ‹_›) O) ?_
  rintro ⟨z5,z6,z7,z8⟩
  dsimp only
  refine R.u 2 O<|R.s O (s.fS 0 _ O O O (fun _ _=>rfl) (.inl aj) (fun w hw=>(af (Sl.one (hw.bG 0 O)) (af (Sl.one (hw.bG 1 O)) (af (Sl.one (hw.bG 2 O)) (af (Sl.one (hw.bG 3 O)) (af O (af O aP))))))) O O O) fun _=>?_
  refine R.u 1 O<|R.nil ?_
  have hz:cE r a=(((fq r a.P a.Q a.A a.B).1),(fq r a.P a.Q a.A a.B).2):=by (unfold cE;(repeat' split) <;> first|rfl|(exfalso;simp_all;done)|(simp_all;done))
  rw [hz]
  exact R.w2 (z5,z6,z7,z8) [3] bJ O Tryz.results24 (RV.cell 0 O O aj) (RV.tmp O) O O O (dA O O)
 refine R.q (q.pR O O h2) O<|R.u 1 O<|R.nil<|R.aB O O<|R.reg O<|?_
 by_cases h3:a.Kind=⟨#[109,111,118,101]⟩
 .
  refine R.q (q.pQ O O h3) O<|R.u 1 O<|R.nil<|R.av O O<|R.reg O<|R.q (q.dh 2 O O aj) O<|R.q (q.aO O j2 O) O<|R.q (q.Hc (ds:=jO a.P) 1 O O bO O) O<|R.q (q.aO O qF O) O<|R.q (q.ld 1 O O au O) O<|R.s O (s.aW bJ bJ _ _ _ O O O R6 O O (fun w own hw H=>Ic bS bK bL bM r a.P a.A w own H ‹_›) O) ?_
  rintro ⟨z9,kY,lZ,z12⟩
  dsimp only
  refine R.u 2 O<|R.s O (s.fS 0 _ O O O (fun _ _=>rfl) (.inl aj) (fun w hw=>(af (Sl.one (hw.bG 0 O)) (af (Sl.one (hw.bG 1 O)) (af (Sl.one (hw.bG 2 O)) (af (Sl.one (hw.bG 3 O)) (af O (af O aP))))))) O O O) fun _=>?_
  refine R.u 1 O<|R.nil ?_
  have hz:cE r a=(((jl r a.P a.A).1),(jl r a.P a.A).2):=by (unfold cE;(repeat' split) <;> first|rfl|(exfalso;simp_all;done)|(simp_all;done))
  rw [hz]
  exact R.w2 (z9,kY,lZ,z12) [3] bJ O Tryz.results24 (RV.cell 0 O O aj) (RV.tmp O) O O O (dA O O)
 refine R.q (q.pR O O h3) O<|R.u 1 O<|R.nil<|R.aB O O<|R.reg O<|?_
 by_cases h4:a.Kind=⟨#[100,114,111,112]⟩
 .
  refine R.q (q.pQ O O h4) O<|R.u 1 O<|R.nil<|R.av O O<|R.reg O<|R.q (q.dh 2 O O aj) O<|R.q (q.aO O j2 O) O<|R.q (q.Hc (ds:=jO a.P) 1 O O bO O) O<|R.s O (s.aW bJ bJ _ _ _ O O O R7 O O (fun w own hw H=>Ie bS bK bL bM r a.P w own H ‹_›) O) ?_
  rintro ⟨pI,yE,Gy,Cj⟩
  dsimp only
  refine R.u 2 O<|R.s O (s.fS 0 _ O O O (fun _ _=>rfl) (.inl aj) (fun w hw=>(af (Sl.one (hw.bG 0 O)) (af (Sl.one (hw.bG 1 O)) (af (Sl.one (hw.bG 2 O)) (af (Sl.one (hw.bG 3 O)) (af O (af O aP))))))) O O O) fun _=>?_
  refine R.u 1 O<|R.nil ?_
  have hz:cE r a=(((jL r a.P).1),(jL r a.P).2):=by (unfold cE;(repeat' split) <;> first|rfl|(exfalso;simp_all;done)|(simp_all;done))
  rw [hz]
  exact R.w2 (pI,yE,Gy,Cj) [3] bJ O Tryz.results24 (RV.cell 0 O O aj) (RV.tmp O) O O O (dA O O)
 refine R.q (q.pR O O h4) O<|R.u 1 O<|R.nil<|R.aB O O<|R.reg O<|?_
 by_cases h5:a.Kind=⟨#[114,101,118,111,107,101]⟩
 .
  refine R.q (q.pQ O O h5) O<|R.u 1 O<|R.nil<|R.av O O<|R.reg O<|R.q (q.dh 2 O O aj) O<|R.q (q.aO O j2 O) O<|R.q (q.Hc (ds:=jO a.P) 1 O O bO O) O<|R.s O (s.aW bJ bJ _ _ _ O O O R8 O O (fun w own hw H=>Du bS bK bL bM r a.P w own H ‹_›) O) ?_
  rintro ⟨z17,yP,BD,z20⟩
  dsimp only
  refine R.u 2 O<|R.s O (s.fS 0 _ O O O (fun _ _=>rfl) (.inl aj) (fun w hw=>(af (Sl.one (hw.bG 0 O)) (af (Sl.one (hw.bG 1 O)) (af (Sl.one (hw.bG 2 O)) (af (Sl.one (hw.bG 3 O)) (af O (af O aP))))))) O O O) fun _=>?_
  refine R.u 1 O<|R.nil ?_
  have hz:cE r a=(((fe r a.P).1),(fe r a.P).2):=by (unfold cE;(repeat' split) <;> first|rfl|(exfalso;simp_all;done)|(simp_all;done))
  rw [hz]
  exact R.w2 (z17,yP,BD,z20) [3] bJ O Tryz.results24 (RV.cell 0 O O aj) (RV.tmp O) O O O (dA O O)
 refine R.q (q.pR O O h5) O<|R.u 1 O<|R.nil<|R.aB O O<|R.reg O<|?_
 by_cases h6:a.Kind=⟨#[119,114,105,116,101]⟩
 .
  refine R.q (q.pQ O O h6) O<|R.u 1 O<|R.nil<|R.av O O<|R.reg O<|R.q (q.dh 2 O O aj) O<|R.q (q.aO O j2 O) O<|R.q (q.Hc (ds:=jO a.P) 1 O O bO O) O<|R.q (q.aO O tP O) O<|R.q (q.ld 1 O O bF O) O<|R.s O (s.aW bJ bJ _ _ _ O O O R9 O O (fun w own hw H=>Ff bS bK bL bM r a.P a.S w own H ‹_›) O) ?_
  rintro ⟨z21,z22,z23,z24⟩
  dsimp only
  refine R.u 2 O<|R.s O (s.fS 0 _ O O O (fun _ _=>rfl) (.inl aj) (fun w hw=>(af (Sl.one (hw.bG 0 O)) (af (Sl.one (hw.bG 1 O)) (af (Sl.one (hw.bG 2 O)) (af (Sl.one (hw.bG 3 O)) (af O (af O aP))))))) O O O) fun _=>?_
  refine R.u 1 O<|R.nil ?_
  have hz:cE r a=(((fY r a.P a.S).1),(fY r a.P a.S).2):=by (unfold cE;(repeat' split) <;> first|rfl|(exfalso;simp_all;done)|(simp_all;done))
  rw [hz]
  exact R.w2 (z21,z22,z23,z24) [3] bJ O Tryz.results24 (RV.cell 0 O O aj) (RV.tmp O) O O O (dA O O)
 refine R.q (q.pR O O h6) O<|R.u 1 O<|R.nil<|R.aB O O<|R.reg O<|?_
 by_cases h7:a.Kind=⟨#[115,101,110,100]⟩
 .
  refine R.q (q.pQ O O h7) O<|R.u 1 O<|R.nil<|R.av O O<|R.reg O<|R.q (q.dh 2 O O aj) O<|R.q (q.aO O j2 O) O<|R.q (q.Hc (ds:=jO a.P) 1 O O bO O) O<|R.q (q.aO O tP O) O<|R.q (q.ld 1 O O bF O) O<|R.q (q.aO O qF O) O<|R.q (q.ld 1 O O au O) O<|R.q (q.aO O zk O) O<|R.q (q.ld 1 O O au O) O<|R.s O (s.aW bJ bJ _ _ _ O O O Sb O O (fun w own hw H=>Ig bS bK bL bM r a.P a.S a.A a.B w own H ‹_›) O) ?_
  rintro ⟨z25,z26,z27,z28⟩
  dsimp only
  refine R.u 2 O<|R.s O (s.fS 0 _ O O O (fun _ _=>rfl) (.inl aj) (fun w hw=>(af (Sl.one (hw.bG 0 O)) (af (Sl.one (hw.bG 1 O)) (af (Sl.one (hw.bG 2 O)) (af (Sl.one (hw.bG 3 O)) (af O (af O aP))))))) O O O) fun _=>?_
  refine R.u 1 O<|R.nil ?_
  have hz:cE r a=(((dO r a.P a.S a.A a.B).1),(dO r a.P a.S a.A a.B).2):=by (unfold cE;(repeat' split) <;> first|rfl|(exfalso;simp_all;done)|(simp_all;done))
  rw [hz]
  exact R.w2 (z25,z26,z27,z28) [3] bJ O Tryz.results24 (RV.cell 0 O O aj) (RV.tmp O) O O O (dA O O)
 refine R.q (q.pR O O h7) O<|R.u 1 O<|R.nil<|R.aB O O<|R.reg O<|?_
 by_cases h8:a.Kind=⟨#[116,97,107,101]⟩
 .
  refine R.q (q.pQ O O h8) O<|R.u 1 O<|R.nil<|R.av O O<|R.reg O<|R.q (q.dh 2 O O aj) O<|R.q (q.aO O j2 O) O<|R.q (q.Hc (ds:=jO a.P) 1 O O bO O) O<|R.s O (s.aW bJ bJ _ _ _ O O O Sc O O (fun w own hw H=>Ih bS bK bL bM r a.P w own H ‹_›) O) ?_
  rintro ⟨z29,z30,z31,z32⟩
  dsimp only
  refine R.u 5 O<|R.s O (s.alloc dI O O) fun b4=>?_
  refine R.s O (s.alloc eU O O) fun b5=>?_
  refine R.s O (s.fS 1 _ O O O (fun _ _=>rfl) (.inl aj) (fun w hw=>(af (Sl.one (hw.bG 0 O)) (af (Sl.one (hw.bG 1 O)) (af (Sl.one (hw.bG 2 O)) (af (Sl.one (hw.bG 3 O)) (af O (af O aP))))))) O O O) fun _=>?_
  refine R.s O (s.st 0 _ O O O O (.inl dj) O O O O) fun _=>?_
  refine R.u 2 O<|R.nil<|R.reg O<|R.q (q.dh 1 O O aj) O<|R.u 1 O<|R.s O (s.fS 2 _ O O O (fun _ _=>rfl) (.inl aj) (fun w hw=>(af (Sl.one (hw.bG 0 O)) (af (Sl.one (hw.bG 1 O)) (af (Sl.one (hw.bG 2 O)) (af (Sl.one (hw.bG 3 O)) (af O (af O aP))))))) O O O) fun _=>?_
  refine R.u 1 O<|R.nil ?_
  have hz:cE r a=(((eB r a.P).1),(eB r a.P).2.2.2):=by (unfold cE;(repeat' split) <;> first|rfl|(exfalso;simp_all;done)|(simp_all;done))
  rw [hz]
  exact R.w2 (z29,z30,z31,z32) [5] bJ O Tryz.results24 (RV.cell 2 O O aj) (RV.tmp O) O O O (dA O O)
 refine R.q (q.pR O O h8) O<|R.u 1 O<|R.nil<|R.aB O O<|R.reg O<|R.q (q.dh 2 O O aj) O<|R.s O (s.fS 0 _ O O O (fun _ _=>rfl) (.inl aj) (fun w hw=>(af (Sl.one (hw.bG 0 O)) (af (Sl.one (hw.bG 1 O)) (af (Sl.one (hw.bG 2 O)) (af (Sl.one (hw.bG 3 O)) (af O (af O aP))))))) O O O) fun _=>?_
 refine R.u 1 O<|R.nil ?_
 have hz:cE r a=(r,0):=by (unfold cE;(repeat' split) <;> first|rfl|(exfalso;simp_all;done)|(simp_all;done))
 rw [hz]
 exact R.w2 (bS,bK,bL,bM) [3] bJ O Tryz.results24 (RV.cell 0 O O aj) (RV.tmp O) O O O (dA O (iK O))
theorem rQ (K6 K7 K8 K9:Value)(a:aC)(La Lb Lc Ld:Value)(b:aC)(w:World)(S8:Sl w K6 a.ao)(Fg:Sl w K7 a.Things)(M9:Sl w K8 a.Held)(Fh:Sl w K9 a.Notes)(S9:Sl w La b.ao)(Ik:Sl w Lb b.Things)(Na:Sl w Lc b.Held)(Il:Sl w Ld b.Notes):Calls Tryz.prog 19 #[.agg #[K6,K7,K8,K9,iV a.ae,iV a.ah],.agg #[La,Lb,Lc,Ld,iV b.ae,iV b.ah]] w fun e w'=>e = .returned (.bool (decide (a=b)))/\Ext w w':=by
 have ba:=Fg.fB;have bb:=Ik.fB;have bc:=Fh.fB;have bd:=Il.fB
 refine R.enter [] [(0,.agg #[K6,K7,K8,K9,iV a.ae,iV a.ah]),(1,.agg #[La,Lb,Lc,Ld,iV b.ae,iV b.ah])] Tryz.func19 O O O O<|R.reg O<|R.s O (s.box O O O) fun b1=>?_
 refine R.s O (s.box O O O) fun b2=>?_
 refine R.u 1 O<|R.nil<|R.reg O<|R.q (q.aO O bg O) O<|R.q (q.ld 1 O O bT O) O<|R.q (q.aO O bg O) O<|R.q (q.ld 0 O O bT O) O<|?_
 rcases Bool.eq_false_or_eq_true (decide (a.ao=b.ao)) with h1|h1
 .
  refine R.c (q.call N7 O O (fun w hw=>(cv (congrArg Value.bool h1) (rK _ a.ao _ b.ao w ((fun _=>Wd.old S8) w hw) ((fun _=>Wd.old S9) w hw) )))) O<|R.u 1 O<|R.nil ?_
  refine R.reg O<|R.q (q.aO O cB O) O<|R.q (q.ld 1 O O dE O) O<|R.q (q.aO O cB O) O<|R.q (q.ld 0 O O dE O) O<|?_
  rcases Bool.eq_false_or_eq_true (decide (a.Held=b.Held)) with h2|h2
  .
   refine R.c (q.call Ga O O (fun w hw=>(cv (congrArg Value.bool h2) (lX _ a.Held _ b.Held w ((fun _=>Wd.old M9) w hw) ((fun _=>Wd.old Na) w hw) )))) O<|R.u 1 O<|R.nil ?_
   refine R.reg O<|R.u 7 O<|R.qg O (q.aO O cL O) O<|R.qg O (q.ld 1 O O au O) O<|R.qg O (q.aO O cL O) O<|R.qg O (q.ld 0 O O au O) O<|?_
   by_cases h3:a.ae=b.ae
   .
    refine R.qg O (q.lL O O) O<|R.u 2 O<|R.qg O (q.aO O dP O) O<|R.qg O (q.ld 1 O O au O) O<|R.qg O (q.aO O dP O) O<|R.qg O (q.ld 0 O O au O) O<|?_
    by_cases h4:a.ah=b.ah
    .
     refine R.qg O (q.lL O O) O<|R.u 2 O<|R.qg O (q.aO O cz O) O<|R.qg O (q.ld 1 O O dD O) O<|R.qg O (q.len' (fun _=>Wd.old Fg) O Tryz.underlying44) O<|R.qg O (q.aO O cz O) O<|R.qg O (q.ld 0 O O dD O) O<|R.qg O (q.len' (fun _=>Wd.old Ik) O Tryz.underlying44) O<|?_
     by_cases h5:a.Things.length=b.Things.length
     .
      refine R.qg O (q.lL O O) O<|R.u 2 O<|R.qg O (q.aO O cC O) O<|R.qg O (q.ld 1 O O dv O) O<|R.qg O (q.len' (fun _=>Wd.old Fh) O Tryz.underlying46) O<|R.qg O (q.aO O cC O) O<|R.qg O (q.ld 0 O O dv O) O<|R.qg O (q.len' (fun _=>Wd.old Il) O Tryz.underlying46) O<|?_
      by_cases h6:a.Notes.length=b.Notes.length
      .
       refine R.qg O (q.lL O O) O<|R.u 1 O<|R.nil<|R.aB O O<|R.reg O<|R.u 1 O<|R.nil<|R.loop (fun k:Nat=>[(2,.pointer (some ⟨b1,0,none⟩)),(3,.pointer (some ⟨b2,0,none⟩)),(7,iV (k:Int))]) (fun k:Nat=>[ag.box b2 [La,Lb,Lc,Ld,iV b.ae,iV b.ah] 48,ag.box b1 [K6,K7,K8,K9,iV a.ae,iV a.ah] 48]) (fun k:Nat=>[]) (fun k:Nat=>k<=a.Things.length /\ ∀j,j<k->a.Things[j]? = b.Things[j]?) (fun k:Nat=>a.Things.length-k) 0 O (by exact ⟨by omega,fun j hj=>absurd hj (Nat.not_lt_zero _)⟩) (sF O) (ic [0,1] [] O) ?_
       rintro k ⟨hk,HA⟩
       refine R.reg O<|R.u 1 O<|R.q (q.aO O cz O) O<|R.q (q.ld 1 O O dD O) O<|R.q (q.len' (fun _=>Wd.old Fg) O Tryz.underlying44) O<|?_
       by_cases h7:k<a.Things.length
       .
        refine R.q (q.dz O O) O<|R.nil<|R.av O O ?_
        obtain ⟨x1,hx1⟩:∃z,a.Things[k]? = some z:=⟨_,List.getElem?_eq_getElem (by omega)⟩
        obtain ⟨x2,hx2⟩:∃z,b.Things[k]? = some z:=⟨_,List.getElem?_eq_getElem (by omega)⟩
        by_cases h8:x1=x2
        .
         refine R.eu O mixed (by kernel_rfl)<|Q.q (q.aO O cz O) O<|Q.q (q.ld 1 O O dD O) O<|Q.u 1 O<|Q.q (q.idx (i:=k) (fun _=>Wd.old Fg) O O iM O hx1) O<|Q.q (q.eS (ds:=mU x1) (fun _=>Wd.old Fg) hx1 O gx O) O<|Q.q (q.aO O cz O) O<|Q.q (q.ld 0 O O dD O) O<|Q.u 1 O<|Q.q (q.idx (i:=k) (fun _=>Wd.old Ik) O O iM O hx2) O<|Q.q (q.eS (ds:=mU x2) (fun _=>Wd.old Ik) hx2 O gx O) O<|Q.q (q.vZ (x:=x1) (y:=x2) K2 O O h8) O<|Q.nil<|R.aB O O<|R.reg O<|R.u 1 O<|R.q (q.bB (r:=((k+1:Nat):Int)) O O) O<|R.u 1 O<|R.nil<|R.back (k+1) O (by (exact ⟨by omega,nT HA hx1 hx2 ‹_›⟩)) (by omega) (sF O) (ic [0,1] [] O)
        exact R.eu O mixed (by kernel_rfl)<|Q.q (q.aO O cz O) O<|Q.q (q.ld 1 O O dD O) O<|Q.u 1 O<|Q.q (q.idx (i:=k) (fun _=>Wd.old Fg) O O iM O hx1) O<|Q.q (q.eS (ds:=mU x1) (fun _=>Wd.old Fg) hx1 O gx O) O<|Q.q (q.aO O cz O) O<|Q.q (q.ld 0 O O dD O) O<|Q.u 1 O<|Q.q (q.idx (i:=k) (fun _=>Wd.old Ik) O O iM O hx2) O<|Q.q (q.eS (ds:=mU x2) (fun _=>Wd.old Ik) hx2 O gx O) O<|Q.q (q.wh (x:=x1) (y:=x2) K2 O O h8) O<|Q.nil<|R.av O O<|R.reg O<|R.u 1 O<|R.nil<|R.rv O Tryz.results19 O (rB (by (exact (decide_eq_false (fun e=>by subst e;have hq:=hx1.symm.trans hx2;injection hq;contradiction)).symm)))
       refine R.q (q.cW O O) O<|R.nil<|R.aB O O<|R.reg O<|R.u 1 O<|R.nil<|R.loop (fun k:Nat=>[(2,.pointer (some ⟨b1,0,none⟩)),(3,.pointer (some ⟨b2,0,none⟩)),(8,iV (k:Int))]) (fun k:Nat=>[ag.box b2 [La,Lb,Lc,Ld,iV b.ae,iV b.ah] 48,ag.box b1 [K6,K7,K8,K9,iV a.ae,iV a.ah] 48]) (fun k:Nat=>[]) (fun k:Nat=>k<=a.Notes.length /\ ∀j,j<k->a.Notes[j]? = b.Notes[j]?) (fun k:Nat=>a.Notes.length-k) 0 O (by exact ⟨by omega,fun j hj=>absurd hj (Nat.not_lt_zero _)⟩) (sF O) (ic [0,1] [] O) ?_
       rintro k ⟨hk2,HA2⟩
       refine R.reg O<|R.u 1 O<|R.q (q.aO O cC O) O<|R.q (q.ld 1 O O dv O) O<|R.q (q.len' (fun _=>Wd.old Fh) O Tryz.underlying46) O<|?_
       by_cases h9:k<a.Notes.length
       .
        refine R.q (q.dz O O) O<|R.nil<|R.av O O ?_
        obtain ⟨x3,hx3⟩:∃z,a.Notes[k]? = some z:=⟨_,List.getElem?_eq_getElem (by omega)⟩
        obtain ⟨x4,hx4⟩:∃z,b.Notes[k]? = some z:=⟨_,List.getElem?_eq_getElem (by omega)⟩
        by_cases h10:x3=x4
        .
         refine R.eu O mixed (by kernel_rfl)<|Q.q (q.aO O cC O) O<|Q.q (q.ld 1 O O dv O) O<|Q.u 1 O<|Q.q (q.idx (i:=k) (fun _=>Wd.old Fh) O O fw O hx3) O<|Q.q (q.eS (ds:=ox x3) (fun _=>Wd.old Fh) hx3 O dj O) O<|Q.q (q.aO O cC O) O<|Q.q (q.ld 0 O O dv O) O<|Q.u 1 O<|Q.q (q.idx (i:=k) (fun _=>Wd.old Il) O O fw O hx4) O<|Q.q (q.eS (ds:=ox x4) (fun _=>Wd.old Il) hx4 O dj O) O<|Q.q (q.vZ (x:=x3) (y:=x4) OD O O h10) O<|Q.nil<|R.aB O O<|R.reg O<|R.u 1 O<|R.q (q.bB (r:=((k+1:Nat):Int)) O O) O<|R.u 1 O<|R.nil<|R.back (k+1) O (by (exact ⟨by omega,nT HA2 hx3 hx4 ‹_›⟩)) (by omega) (sF O) (ic [0,1] [] O)
        exact R.eu O mixed (by kernel_rfl)<|Q.q (q.aO O cC O) O<|Q.q (q.ld 1 O O dv O) O<|Q.u 1 O<|Q.q (q.idx (i:=k) (fun _=>Wd.old Fh) O O fw O hx3) O<|Q.q (q.eS (ds:=ox x3) (fun _=>Wd.old Fh) hx3 O dj O) O<|Q.q (q.aO O cC O) O<|Q.q (q.ld 0 O O dv O) O<|Q.u 1 O<|Q.q (q.idx (i:=k) (fun _=>Wd.old Il) O O fw O hx4) O<|Q.q (q.eS (ds:=ox x4) (fun _=>Wd.old Il) hx4 O dj O) O<|Q.q (q.wh (x:=x3) (y:=x4) OD O O h10) O<|Q.nil<|R.av O O<|R.reg O<|R.u 1 O<|R.nil<|R.rv O Tryz.results19 O (rB (by (exact (decide_eq_false (fun e=>by subst e;have hq:=hx3.symm.trans hx4;injection hq;contradiction)).symm)))
       exact R.q (q.cW O O) O<|R.nil<|R.aB O O<|R.reg O<|R.u 1 O<|R.nil<|R.rv O Tryz.results19 O (rB (by (refine (decide_eq_true ?_).symm;have eT:=pZ (a:=a.Things) (b:=b.Things) (by omega) ‹_› HA;have eN:=pZ (a:=a.Notes) (b:=b.Notes) (by omega) ‹_› HA2;cases a;cases b;simp_all)))
      exact R.qg O (q.lK O O) O<|R.u 1 O<|R.nil<|R.av O O<|R.reg O<|R.u 1 O<|R.nil<|R.rv O Tryz.results19 O (rB (by (exact (decide_eq_false (fun e=>by subst e;omega)).symm)))
     exact R.qg O (q.lK O O) O<|R.u 10 O<|R.nil<|R.av O O<|R.reg O<|R.u 1 O<|R.nil<|R.rv O Tryz.results19 O (rB (by (exact (decide_eq_false (fun e=>by subst e;omega)).symm)))
    exact R.qg O (q.lK O O) O<|R.u 19 O<|R.nil<|R.av O O<|R.reg O<|R.u 1 O<|R.nil<|R.rv O Tryz.results19 O (rB (by (exact (decide_eq_false (fun e=>by subst e;omega)).symm)))
   exact R.qg O (q.lK O O) O<|R.u 26 O<|R.nil<|R.av O O<|R.reg O<|R.u 1 O<|R.nil<|R.rv O Tryz.results19 O (rB (by (exact (decide_eq_false (fun e=>by subst e;omega)).symm)))
  refine R.c (q.call Ga O O (fun w hw=>(cv (congrArg Value.bool h2) (lX _ a.Held _ b.Held w ((fun _=>Wd.old M9) w hw) ((fun _=>Wd.old Na) w hw) )))) O<|R.u 1 O<|R.nil ?_
  exact R.reg O<|R.u 38 O<|R.nil<|R.av O O<|R.reg O<|R.u 1 O<|R.nil<|R.rv O Tryz.results19 O (rB (by (exact (decide_eq_false (fun e=>by subst e;(simp_all;done))).symm)))
 refine R.c (q.call N7 O O (fun w hw=>(cv (congrArg Value.bool h1) (rK _ a.ao _ b.ao w ((fun _=>Wd.old S8) w hw) ((fun _=>Wd.old S9) w hw) )))) O<|R.u 1 O<|R.nil ?_
 refine R.reg O<|R.q (q.aO O cB O) O<|R.q (q.ld 1 O O dE O) O<|R.q (q.aO O cB O) O<|R.q (q.ld 0 O O dE O) O<|?_
 rcases Bool.eq_false_or_eq_true (decide (a.Held=b.Held)) with h11|h11
 .
  refine R.c (q.call Ga O O (fun w hw=>(cv (congrArg Value.bool h11) (lX _ a.Held _ b.Held w ((fun _=>Wd.old M9) w hw) ((fun _=>Wd.old Na) w hw) )))) O<|R.u 1 O<|R.nil ?_
  exact R.reg O<|R.u 38 O<|R.nil<|R.av O O<|R.reg O<|R.u 1 O<|R.nil<|R.rv O Tryz.results19 O (rB (by (exact (decide_eq_false (fun e=>by subst e;(simp_all;done))).symm)))
 refine R.c (q.call Ga O O (fun w hw=>(cv (congrArg Value.bool h11) (lX _ a.Held _ b.Held w ((fun _=>Wd.old M9) w hw) ((fun _=>Wd.old Na) w hw) )))) O<|R.u 1 O<|R.nil ?_
 exact R.reg O<|R.u 38 O<|R.nil<|R.av O O<|R.reg O<|R.u 1 O<|R.nil<|R.rv O Tryz.results19 O (rB (by (exact (decide_eq_false (fun e=>by subst e;(simp_all;done))).symm)))
theorem xY (err:Int)(w:World):Calls Tryz.prog 25 #[da err] w fun e w'=>e = .returned (iV err)/\Ext w w':=by
 refine R.enter [] [(0,da err)] Tryz.func25 O O O O<|R.reg O<|R.u 1 O<|R.nil<|R.reg O<|R.u 1 O<|?_
 by_cases h1:err=0
 .
  exact R.q (q.lx O O Tryz.underlying38) O<|R.nil<|R.av O O<|R.reg O<|R.u 1 O<|R.nil<|R.rv O Tryz.results25 O (rI (by (first|omega|rfl)))
 exact R.q (q.jA O O Tryz.underlying38) O<|R.nil<|R.aB O O<|R.reg O<|R.u 1 O<|R.q (q.T3 O (by omega) Tryz.underlying93) O<|R.u 5 O<|R.nil<|R.reg O<|R.u 2 O<|R.nil<|R.aB O O<|R.reg O<|R.u 2 O<|R.nil<|R.rv O Tryz.results25 O (rI (by (first|omega|rfl)))
theorem Qz:dV (⟨[],[],[],[],1,1⟩:aC) (⟨1,0⟩:Place) 1=(⟨[⟨1,1,7,0,0⟩],[⟨1,1,⟨#[]⟩⟩],[⟨⟨1,0⟩,1⟩],[],2,2⟩,0):=by
 have e:fR [] ⟨1,0⟩ 1=[⟨⟨1,0⟩,1⟩]:=by rw [put_eq List.Pairwise.nil];decide
 have a:mV [] ⟨1,0⟩=0:=by rw [at_eq List.Pairwise.nil];decide
 unfold dV gL fy
 rw [if_pos (.inl rfl),if_pos (by rw [a];rfl),if_neg (by decide)]
 simp [e]
section
attribute [local irreducible] dV aS
end
end
end Go.Proofs.YtkbhcbipadkcaaaGreatDoor
