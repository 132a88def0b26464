import Derived.Test.YtbkfhjaibhnkmaaGreatDoorIMS10
import Derived.Test.YtbkfhjaibhnkmaaGreatDoorIMS21
import Derived.Test.YtbkfhjaibhnkmaaGreatDoorIMS12
import Derived.Test.YtbkfhjaibhnkmaaGreatDoorIMS7
section
namespace Go.Proofs.YtbkfhjaibhnkmaaGreatDoor
set_option linter.unusedVariables false
def kg (c:Change):Bool:=decide (c.Key.size≤20)&&decide (c.Val.size≤40)
def iu (l:List Change)(most:Int):Bool:=decide ((l.length:Int)≤most)&&l.all kg
def lA (a:gL):Bool:=decide (a.S.size≤100)&&iu a.Changes 70
def mD (l:List gL)(most:Int):Bool:=decide ((l.length:Int)≤most)&&l.all lA
theorem qw {α:Type}{p:α→Bool}{l:List α}{k:Nat}{x:α}(hx:l[k]? = some x)(h:p x=false):l.all p=false:=by
 rw [Bool.eq_false_iff];intro h'
 have:=List.all_eq_true.1 h' x (List.mem_of_getElem? hx)
 rw [h] at this;simp at this
theorem BF {α:Type}{p:α→Bool}{l:List α}{k:Nat}(hk:¬ k<l.length)(h:(l.take k).all p=true):l.all p=true:=by
 rwa [List.take_of_length_le (by omega)] at h
theorem vK {α:Type}{p:α→Bool}{l:List α}{k:Nat}{x:α}(hx:l[k]? = some x)(h:(l.take k).all p=true)(hp:p x=true):(l.take (k+1)).all p=true:=by
 rw [List.take_add_one,hx];simp [List.all_append,h,hp]
theorem xe {l:List gL}{most:Int}(h:mD l most=true):(l.length:Int)≤most:=by
 unfold mD at h;simp only [Bool.and_eq_true,decide_eq_true_eq] at h;exact h.1
theorem rQ {l:List Change}{m:Int}(h:iu l m=true):(l.length:Int)≤m:=by
 unfold iu at h;simp only [Bool.and_eq_true,decide_eq_true_eq] at h;exact h.1
theorem xg {l:List Change}{m:Int}(h:iu l m=true):∀x∈l,x.Key.size≤20∧x.Val.size≤40:=fun x hx=>by
 unfold iu at h;simp only [Bool.and_eq_true,decide_eq_true_eq] at h
 have:=List.all_eq_true.1 h.2 x hx
 unfold kg at this;simp only [Bool.and_eq_true,decide_eq_true_eq] at this;exact this
end Go.Proofs.YtbkfhjaibhnkmaaGreatDoor
end
section
namespace Go.Proofs.YtbkfhjaibhnkmaaGreatDoor
set_option linter.unusedVariables false
def newR:ar:=⟨[],[],[],[],1,1⟩
def cr (r:ar)(a:gL):ar×Int :=
  if a.Kind=(⟨#[109,97,107,101]⟩:ByteArray) then bT r a.P a.A
  else if a.Kind=(⟨#[103,105,118,101]⟩:ByteArray) then cb r a.P a.Q a.A a.B
  else if a.Kind=(⟨#[109,111,118,101]⟩:ByteArray) then cQ r a.P a.A
  else if a.Kind=(⟨#[100,114,111,112]⟩:ByteArray) then cX r a.P
  else if a.Kind=(⟨#[114,101,118,111,107,101]⟩:ByteArray) then bQ r a.P
  else if a.Kind=(⟨#[119,114,105,116,101]⟩:ByteArray) then cd r a.P a.S
  else if a.Kind=(⟨#[115,101,110,100]⟩:ByteArray) then bU r a.P a.S a.A a.B
  else if a.Kind=(⟨#[116,97,107,101]⟩:ByteArray) then ((bC r a.P).1,(bC r a.P).2.2.2)
  else (r,0)
def HO (r:ar)(a:gL):ar:=if (cr r a).2=0 then (cr r a).1 else r
def grow (l:List gL):ar:=l.foldl HO newR
theorem ju {w:ak}{id r b:Int}(h:(derived w id r b).2=0):0≤r∧r≤7∧0≤b∧b≤99∧fF w.Rights r=true∧(derived w id r b).1=⟨id,w.ao,r,if b=0 then w.aI else b,w.ID⟩∧(w.aI=0∨b=0∨b=w.aI):=by
 revert h
 rcases fN r with ⟨h1,h2⟩ | ⟨h1,h2⟩
 ·unfold derived;rw [if_pos h1];intro h;simp at h
 ·
  unfold derived;rw [if_neg (by rw [h1];decide)]
  by_cases hb:b<0
  ·rw [if_pos hb];intro h;simp at h
  ·
   rw [if_neg hb]
   by_cases hb2:99<b
   ·rw [if_pos hb2];intro h;simp at h
   ·
    rw [if_neg hb2]
    cases hr:fF w.Rights r with
    | false=>rw [if_pos rfl];intro h;simp at h
    | true =>
     rw [if_neg (by decide)]
     by_cases hc:b≠0∧w.aI≠0∧b≠w.aI
     ·rw [if_pos hc];intro h;simp at h
     ·rw [if_neg hc];intro h;exact ⟨h2.1,h2.2,by omega,by omega,rfl,rfl,by omega⟩
theorem rR {w:ak}{id r b:Int}(h:(derived w id r b).2=0):0≤(derived w id r b).1.Rights∧(derived w id r b).1.Rights≤7:=by
 have:=ju h;rw [this.2.2.2.2.2.1];exact ⟨this.1,this.2.1⟩
structure Sz (k:Nat)(r:ar):Prop where
  wl:r.ai.length≤k
  tl:r.Things.length≤k
  hl:r.Held.length≤2*k
  nl:r.Notes.length≤k
  ri:∀w∈r.ai,0≤w.Rights∧w.Rights≤7
  w0:0≤r.ae
  w1:r.ae≤1000
  t0:0≤r.af
  t1:r.af≤1000
theorem Sz.ok {k:Nat}{r:ar}(h:Sz k r)(hk:k≤1000):Ok r:=⟨by have:=h.wl;omega,by have:=h.tl;omega,by have:=h.hl;omega,by have:=h.nl;omega,h.ri,h.w0,by have:=h.w1;omega,h.t0,by have:=h.t1;omega⟩
theorem Sz.up {k m:Nat}{r:ar}(h:Sz k r)(hk:k≤m):Sz m r:=⟨by have:=h.wl;omega,by have:=h.tl;omega,by have:=h.hl;omega,by have:=h.nl;omega,h.ri,h.w0,h.w1,h.t0,h.t1⟩
theorem Sz.new:Sz 0 newR:=⟨Nat.le_refl _,Nat.le_refl _,Nat.le_refl _,Nat.le_refl _,fun w hw=>(by cases hw),by decide,by decide,by decide,by decide⟩
theorem nB (k:Nat):Sz k r0:=⟨Nat.zero_le _,Nat.zero_le _,Nat.zero_le _,Nat.zero_le _,fun w hw=>(by cases hw),by decide,by decide,by decide,by decide⟩
theorem um {l:List ak}{x:ak}(h:∀w∈l,0≤w.Rights∧w.Rights≤7)(hx:0≤x.Rights∧x.Rights≤7):∀w∈l++[x],0≤w.Rights∧w.Rights≤7:=fun w hw=>by
 rcases List.mem_append.1 hw with hw|hw
 ·exact h w hw
 ·rw [List.mem_singleton.1 hw];exact hx
theorem kP {k:Nat}{r:ar}(h:Sz k r):Sz k (eS r) :=
 ⟨h.wl,Nat.le_trans (List.length_filter_le _ _) h.tl,Nat.le_trans (List.length_filter_le _ _) h.hl,by
  have:=kN r.ai (aX r.ai) r.Notes
  have:=h.nl
  show (fH r.ai (aX r.ai) r.Notes).length≤k
  omega,h.ri,h.w0,h.w1,h.t0,h.t1⟩
theorem zA {k:Nat}{r:ar}(h:Sz k r):Sz k (jm r) :=
 ⟨Nat.le_trans (my _ _) h.wl,(kP h).tl,(kP h).hl,(kP h).nl,uk _ _ h.ri,h.w0,h.w1,h.t0,h.t1⟩
theorem nQ {k:Nat}:∀ (n:Nat) (r:ar),Sz k r→Sz k (im n r)
 | 0,r,h=>kP h
 | n+1,r,h=>by
  unfold im;split
  ·exact kP h
  ·exact nQ n _ (zA h)
theorem Sz.pZ {k:Nat}{r:ar}(h:Sz k r){l:List ak}(hl:l.length≤k)(hr:∀w∈l,0≤w.Rights∧w.Rights≤7):Sz k ⟨l,r.Things,r.Held,r.Notes,r.ae,r.af⟩ :=
 ⟨hl,h.tl,h.hl,h.nl,hr,h.w0,h.w1,h.t0,h.t1⟩
theorem Dq {k:Nat}{r:ar}(h:Sz k r)(p:Place)(kind:Int):Sz (k+1) (bT r p kind).1:=by
 have:=h.wl;have:=h.tl;have:=h.hl;have:=h.nl;have:=h.w0;have:=h.t0;have hp:=jD r.Held p r.ae
 unfold bT
 (repeat' split) <;> first|exact nB _|skip
 refine ⟨?_,?_,?_,?_,um h.ri ⟨(by show (0:Int)≤7;decide),(by show (7:Int)≤7;decide)⟩,?_,?_,?_,?_⟩ <;> dsimp only [bz]
 ·simp;omega
 ·simp;omega
 ·
  split
  ·omega
  ·omega
 all_goals omega
theorem Dr {k:Nat}{r:ar}(h:Sz k r)(p t:Place)(a b:Int):Sz (k+1) (cb r p t a b).1:=by
 have:=h.wl;have:=h.tl;have:=h.hl;have:=h.nl;have:=h.w0;have:=h.t0;have:=h.t1
 unfold cb
 (repeat' split) <;> first|exact nB _|skip
 rename_i h1 h2 h3 h4 h5
 have hp:=jD r.Held t (derived (au r p).1 r.ae a b).1.ID
 have hr:0≤(derived (au r p).1 r.ae a b).1.Rights∧(derived (au r p).1 r.ae a b).1.Rights≤7:=rR h5
 refine ⟨?_,?_,?_,?_,um h.ri hr,?_,?_,?_,?_⟩ <;> dsimp only [bz]
 ·simp;omega
 ·omega
 ·split <;> omega
 all_goals omega
theorem Ds {k:Nat}{r:ar}(h:Sz k r)(p:Place)(s:Int):Sz (k+1) (cQ r p s).1:=by
 have:=h.wl;have:=h.tl;have:=h.hl;have:=h.nl;have:=h.w0;have:=h.t0;have:=h.t1;have:=h.w1
 have h1:=jD r.Held p 0
 have h2:=jD (cw r.Held p 0) ⟨p.aj,s⟩ (au r p).1.ID
 unfold cQ
 (repeat' split) <;> first|exact nB _|exact ⟨by dsimp only;omega,by dsimp only;omega,by dsimp only;omega,by dsimp only;omega,h.ri,h.w0,h.w1,h.t0,h.t1⟩
theorem Dt {k:Nat}{r:ar}(h:Sz k r)(p:Place):Sz (k+1) (cX r p).1:=by
 unfold cX;split
 ·exact (nQ _ _ (h.pZ (Nat.le_trans (kc _ _) h.wl) (ly h.ri))).up (Nat.le_succ k)
 ·exact nB _
theorem zB {k:Nat}{r:ar}(h:Sz k r)(p:Place):Sz (k+1) (bQ r p).1:=by
 unfold bQ;split
 ·exact (nQ _ _ (h.pZ (Nat.le_trans (List.length_filter_le _ _) h.wl) (fun w hw=>h.ri w (List.mem_filter.1 hw).1))).up (Nat.le_succ k)
 ·exact nB _
theorem p7 (l:List ao)(i:Nat)(d:ByteArray):(eY l i d).length=l.length:=by
 unfold eY;split <;> simp
theorem BG {k:Nat}{r:ar}(h:Sz k r)(p:Place)(d:ByteArray):Sz (k+1) (cd r p d).1:=by
 have:=h.wl;have:=h.tl;have:=h.hl;have:=h.nl
 unfold cd
 (repeat' split) <;> first|exact nB _|exact ⟨by dsimp only;omega,by dsimp only;rw [p7];omega,by dsimp only;omega,by dsimp only;omega,h.ri,h.w0,h.w1,h.t0,h.t1⟩
theorem Du {k:Nat}{r:ar}(h:Sz k r)(p:Place)(d:ByteArray)(a b:Int):Sz (k+1) (bU r p d a b).1:=by
 have:=h.wl;have:=h.tl;have:=h.hl;have:=h.nl;have:=h.w0;have:=h.t0;have:=h.t1;have:=h.w1
 unfold bU
 (repeat' split) <;> first|exact nB _|exact ⟨by dsimp only;omega,by dsimp only;omega,by dsimp only;omega,by simp;omega,h.ri,h.w0,h.w1,h.t0,h.t1⟩ | skip
 rename_i h8
 exact ⟨by simp;omega,by dsimp only;omega,by dsimp only;omega,by simp;omega,um h.ri (rR h8),by dsimp only;omega,by dsimp only;omega,h.t0,h.t1⟩
theorem BH (l:List Note)(i:Nat):(pj l i).length≤l.length:=by
 unfold pj;rw [List.length_append,List.length_take,List.length_drop];omega
theorem Dv {k:Nat}{r:ar}(h:Sz k r)(p:Place):Sz (k+1) (bC r p).1:=by
 have:=h.wl;have:=h.tl;have:=h.hl;have:=h.nl
 unfold bC
 split
 ·
  split
  ·
   rename_i n _ _
   have h1:=jD r.Held ⟨p.aj,dA r.Held p.aj⟩ n.ak
   have h2:=BH r.Notes (idxOf (fun n=>n.Port==(aM r p 2 1).1.ao) r.Notes).toNat
   (repeat' split) <;> first|exact nB _|exact ⟨by dsimp only;omega,by dsimp only;omega,by dsimp only;omega,by dsimp only;omega,h.ri,h.w0,h.w1,h.t0,h.t1⟩
  ·exact nB _
 ·exact nB _
theorem yF {k:Nat}{r:ar}(h:Sz k r)(a:gL):Sz (k+1) (cr r a).1:=by
 unfold cr
 (repeat' split)
 ·exact Dq h _ _
 ·exact Dr h _ _ _ _
 ·exact Ds h _ _
 ·exact Dt h _
 ·exact zB h _
 ·exact BG h _ _
 ·exact Du h _ _ _ _
 ·exact Dv h _
 ·exact h.up (Nat.le_succ k)
end Go.Proofs.YtbkfhjaibhnkmaaGreatDoor
end
section
namespace Go.Proofs.YtbkfhjaibhnkmaaGreatDoor
open Go Go.RowKit
set_option linter.unusedVariables false
set_option linter.unusedSimpArgs false
set_option linter.unusedSectionVars false
set_option maxRecDepth 100000
theorem EM:Ao Tryz.prog 62 ao.val:=by
 have hS:Tryz.prog.underlying 62=some (.struct (Tryz.prog.fieldsOf 62)):=by kernel_rfl
 have hp:Tryz.prog.stoodInHeld 62=false:=by kernel_rfl
 refine o0 (cs:=ao.cs) (by kernel_rfl) fun x y w=>?_
 have u3:=Tryz.underlying9;have a3:=Tryz.isAgg9;have z3:=Tryz.sizeOf9;have u4:=Tryz.underlying3;have a4:=Tryz.isAgg3;have z4:=Tryz.sizeOf3
 obtain ⟨x1,x2,x3⟩:=x;obtain ⟨y1,y2,y3⟩:=y
 rw [Op.equal,Op.maxDepth,show (10000:Nat)=9999+1 from rfl,run_equalIn_agg w 9999 62 _ _ hS hp]
 simp only [Program.fieldsOf,Tryz.underlying62]
 go_simp
 have tl:∀a b:ByteArray,a.toList=b.toList↔a=b:=fun a b=>by have:=i7 a b;rw [Bool.eq_iff_iff] at this;simpa using this
 by_cases h1:x1=y1 <;> by_cases h2:x2=y2 <;> by_cases h3:x3=y3 <;> simp [h1,h2,h3,tl]
theorem EN:Ao Tryz.prog 72 Note.val:=by
 have hS:Tryz.prog.underlying 72=some (.struct (Tryz.prog.fieldsOf 72)):=by kernel_rfl
 have hp:Tryz.prog.stoodInHeld 72=false:=by kernel_rfl
 refine o0 (cs:=Note.cs) (by kernel_rfl) fun x y w=>?_
 have u3:=Tryz.underlying9;have a3:=Tryz.isAgg9;have z3:=Tryz.sizeOf9;have u4:=Tryz.underlying3;have a4:=Tryz.isAgg3;have z4:=Tryz.sizeOf3
 obtain ⟨x1,x2,x3,x4⟩:=x;obtain ⟨y1,y2,y3,y4⟩:=y
 rw [Op.equal,Op.maxDepth,show (10000:Nat)=9999+1 from rfl,run_equalIn_agg w 9999 72 _ _ hS hp]
 simp only [Program.fieldsOf,Tryz.underlying72]
 go_simp
 have tl:∀a b:ByteArray,a.toList=b.toList↔a=b:=fun a b=>by have:=i7 a b;rw [Bool.eq_iff_iff] at this;simpa using this
 by_cases h1:x1=y1 <;> by_cases h2:x2=y2 <;> by_cases h3:x3=y3 <;> by_cases h4:x4=y4 <;> simp [h1,h2,h3,h4,tl]
end Go.Proofs.YtbkfhjaibhnkmaaGreatDoor
end
section
namespace Go.Proofs.YtbkfhjaibhnkmaaGreatDoor
open Go Go.RowKit
set_option linter.unusedVariables false
set_option maxRecDepth 100000
theorem kQ (err:Int)(f:Int)(w:World)(h0:0≤err):Calls Tryz.prog 13 #[fc err,iV f] w fun e w'=>e = .returned (.bool (decide (err=f)))∧Ext w w':=by
 refine R.enter (n:=26) (vs:=[fc err,iV f]) [] [(0,fc err),(1,iV f)] Tryz.func13 O O O O ?_
 refine R.reg O<|R.u 1 O<|R.nil ?_
 refine R.reg O<|R.u 1 O<|?_
 by_cases h1:err=0
 ·
  refine R.q (q.uV O O Tryz.underlying35 (by omega)) O<|R.nil ?_
  refine R.aE O O ?_
  refine R.reg O<|R.u 1 O<|?_
  by_cases h2:f=0
  ·
   refine R.q (q.eql O O (beq_iff_eq.2 (by omega))) O<|R.u 1 O<|R.nil ?_
   exact R.rv O Tryz.results13 O (rB (by (exact (decide_eq_true (by omega)).symm)))
  ·
   refine R.q (q.eql O O (beq_eq_false_iff_ne.2 (by omega))) O<|R.u 1 O<|R.nil ?_
   exact R.rv O Tryz.results13 O (rB (by (exact (decide_eq_false (by omega)).symm)))
 ·
  refine R.q (q.uW O O Tryz.underlying35 (by omega)) O<|R.nil ?_
  refine R.aF O O ?_
  refine R.reg O<|R.u 1 O<|R.q (q.Iv O (by omega) Tryz.underlying82) O<|R.u 5 O<|R.nil ?_
  refine R.reg O<|R.u 3 O<|?_
  by_cases h3:0<f
  ·
   refine R.qg O (q.gtr O O (decide_eq_true (by omega))) O<|R.u 4 O<|?_
   by_cases h4:err=f
   ·
    refine R.qg O (q.eql O O (beq_iff_eq.2 (by omega))) O<|R.u 2 O<|R.nil ?_
    exact R.rv O Tryz.results13 O (rB (by (exact (decide_eq_true (by omega)).symm)))
   ·
    refine R.qg O (q.eql O O (beq_eq_false_iff_ne.2 (by omega))) O<|R.u 2 O<|R.nil ?_
    exact R.rv O Tryz.results13 O (rB (by (exact (decide_eq_false (by omega)).symm)))
  ·
   refine R.qg O (q.gtr O O (decide_eq_false (by omega))) O<|R.u 7 O<|R.nil ?_
   exact R.rv O Tryz.results13 O (rB (by (exact (decide_eq_false (by omega)).symm)))
end Go.Proofs.YtbkfhjaibhnkmaaGreatDoor
end
section
namespace Go.Proofs.YtbkfhjaibhnkmaaGreatDoor
set_option linter.unusedVariables false
theorem nR {p q r:Place}(h:gM p q)(k:gM q r):gM p r:=by unfold gM at *;omega
theorem oF {p:Place}(h:gM p p):False:=by unfold gM at h;omega
theorem vL (p q:Place):gM p q∨p=q∨gM q p:=by
 cases p;cases q;unfold gM;simp only [Place.mk.injEq];omega
theorem iU {p q:Place}(h:gM p q):p≠q:=fun e=>oF (e▸h)
theorem rT (p q:Place):nh p q<0↔gM p q:=by
 unfold nh ng gM
 constructor
 ·intro h;split at h <;> (repeat' split at h) <;> first|omega|(simp_all;done)|(simp_all;omega)
 ·intro h;split <;> (repeat' split) <;> omega
abbrev qm (l:List Held):Prop:=l.Pairwise fun a b=>gM a.Place b.Place
def BJ (l:List Held):Prop:= ∀h∈l,bu h.Place=0∧h.ak≠0
theorem fV {l:List Held}(h:Good l):qm l:=by
 have key:∀ (d i:Nat) x y,l[i]? = some x→l[i+d+1]? = some y→gM x.Place y.Place:=by
  intro d
  induction d with
  | zero =>
   intro i x y hx hy
   have hi:=(List.getElem?_eq_some_iff.1 hy).1
   exact (h (i+1) hi y hy).2.2 x (by omega) (by simpa using hx)
  | succ d ih =>
   intro i x y hx hy
   have hi:=(List.getElem?_eq_some_iff.1 hy).1
   obtain ⟨z,hz⟩:∃z,l[i+d+1]? = some z:=⟨_,List.getElem?_eq_getElem (by omega)⟩
   exact nR (ih i x z hx hz) ((h (i+(d+1)+1) hi y hy).2.2 z (by omega) (by rw [← hz];congr 1))
 refine List.pairwise_iff_getElem.2 ?_
 intro i j hi hj hij
 exact key (j-i-1) i _ _ (List.getElem?_eq_getElem hi) (by rw [show i+(j-i-1)+1=j by omega];exact List.getElem?_eq_getElem hj)
theorem oG {l:List Held}(h:Good l):BJ l:=fun x hx=>by
 obtain ⟨i,hi⟩:=List.mem_iff_getElem?.1 hx
 have:=h i (List.getElem?_eq_some_iff.1 hi).1 x hi
 exact ⟨this.1,this.2.1⟩
theorem lB {l:List Held}(h:qm l)(hf:BJ l):Good l:=fun k hk x hx=>by
 refine ⟨(hf x (List.mem_of_getElem? hx)).1,(hf x (List.mem_of_getElem? hx)).2,fun g h0 hg=>?_⟩
 have h:=List.pairwise_iff_getElem.1 h
 have:=h (k-1) k (by omega) hk (by omega)
 rw [(List.getElem?_eq_some_iff.1 hx).2,(List.getElem?_eq_some_iff.1 hg).2] at this
 exact this
theorem vM {l:List Held}:Good l↔qm l∧BJ l:=⟨fun h=>⟨fV h,oG h⟩,fun h=>lB h.1 h.2⟩
def vN (p:Place):Int:=6*p.aj+p.Slot
theorem Dw {p q:Place}(hp:bu p=0)(hq:bu q=0)(h:gM p q):vN p<vN q:=by
 have:=ck hp;have:=ck hq
 unfold gM at h;unfold vN;omega
theorem BK {l:List Held}(h:Good l):l.length≤24:=by
 have hr:=fV h;have hf:=oG h
 have key:∀ (l:List Held) (m:Int),qm l→BJ l→(∀x∈l,m<vN x.Place)→m≤30→m+l.length≤29∨l=[]:=by
  intro l
  induction l with
  | nil=>intro m _ _ _ _;exact .inr rfl
  | cons x l ih =>
   intro m hr hf hm Ki
   left
   have hx:=hf x (List.mem_cons_self ..)
   have hp:=ck hx.1
   have h1:=hm x (List.mem_cons_self ..)
   have h2:vN x.Place≤29:=by unfold vN;omega
   obtain ⟨hr1,hr2⟩:=List.pairwise_cons.1 hr
   have hf':BJ l:=fun y hy=>hf y (List.mem_cons_of_mem _ hy)
   rcases ih (vN x.Place) hr2 hf' (fun y hy=>Dw hx.1 (hf' y hy).1 (hr1 y hy)) (by omega) with h3|h3
   ·simp only [List.length_cons];omega
   ·subst h3;simp;omega
 rcases key l 5 hr hf (fun x hx=>by have:=ck (hf x hx).1;unfold vN;omega) (by omega) with h1|h1
 ·omega
 ·subst h1;simp
inductive Shape (l:List Held)(p:Place):Prop
  | hit (A B:List Held) (w:Int) (e:l=A++⟨p,w⟩::B) (h:zp l p=true) (k:eH l p=A.length) (ha:∀x∈A,gM x.Place p) (hb:∀x∈B,gM p x.Place)
  | miss (A B:List Held) (e:l=A++B) (h:zp l p=false) (k:eH l p=A.length) (ha:∀x∈A,gM x.Place p) (hb:∀x∈B,gM p x.Place)
theorem shape (l:List Held)(p:Place)(hr:qm l):Shape l p:=by
 have hm:=vm (f:=fun h:Held=>nh h.Place p) (l:=l) (fun i j x y hij hx hy hc=>by
  simp only [rT] at hc ⊢
  rcases Nat.lt_or_ge i j with h1|h1
  ·
   have hr':=List.pairwise_iff_getElem.1 hr
   have:=hr' i j (List.getElem?_eq_some_iff.1 hx).1 (List.getElem?_eq_some_iff.1 hy).1 h1
   rw [(List.getElem?_eq_some_iff.1 hx).2,(List.getElem?_eq_some_iff.1 hy).2] at this
   exact nR this hc
  ·
   have:i=j:=by omega
   subst this;rw [hx] at hy;injection hy with hy;subst hy;exact hc)
 have hk:=qu l p
 have hsplit:l=l.take (eH l p)++l.drop (eH l p):=(List.take_append_drop _ _).symm
 have hlen:(l.take (eH l p)).length=eH l p:=by rw [List.length_take];omega
 have hA:∀x∈l.take (eH l p),gM x.Place p:=fun x hx=>by
  obtain ⟨i,hi⟩:=List.mem_iff_getElem?.1 hx
  rw [List.getElem?_take] at hi
  split at hi
  ·exact (rT _ _).1 (hm.1 i x (by assumption) hi)
  ·cases hi
 have hB:∀x∈l.drop (eH l p),¬ gM x.Place p:=fun x hx=>by
  obtain ⟨i,hi⟩:=List.mem_iff_getElem?.1 hx
  rw [List.getElem?_drop] at hi
  exact fun hc=>hm.2 _ x (Nat.le_add_right _ _) hi ((rT _ _).2 hc)
 rcases o5 l p with h|⟨x,hx,h,hp,hlt⟩
 ·
  refine .miss _ _ hsplit h hlen.symm hA fun x hx=>?_
  have h1:=hB x hx
  rcases vL p x.Place with h2|h2|h2
  ·exact h2
  ·
   exfalso
   obtain ⟨y,hy⟩:∃y,l[eH l p]? = some y:=by
    obtain ⟨i,hi⟩:=List.mem_iff_getElem?.1 hx
    rw [List.getElem?_drop] at hi
    have:=(List.getElem?_eq_some_iff.1 hi).1
    exact ⟨_,List.getElem?_eq_getElem (by omega)⟩
   have hyn:nh y.Place p≠0:=fun hc=>by
    have:zp l p=true:=by
     show mR _ l=true
     unfold mR
     have hy':l[mQ (fun h:Held=>nh h.Place p) l]? = some y:=hy
     rw [hy'];simp [hc]
    rw [h] at this;cases this
   have hym:y∈l.drop (eH l p):=List.mem_iff_getElem?.2 ⟨0,by rw [List.getElem?_drop];exact hy⟩
   have hyb:=hB y hym
   have hyp:gM p y.Place:=by
    rcases vL p y.Place with h3|h3|h3
    ·exact h3
    ·exact absurd (by rw [h3];exact zo _) hyn
    ·exact absurd h3 hyb
   obtain ⟨i,hi⟩:=List.mem_iff_getElem?.1 hx
   rw [List.getElem?_drop] at hi
   rcases Nat.eq_zero_or_pos i with h0|h0
   ·
    subst h0;rw [Nat.add_zero,hy] at hi;injection hi with hi;subst hi
    exact oF (h2▸hyp)
   ·
    have hr':=List.pairwise_iff_getElem.1 hr
    have:=hr' (eH l p) (eH l p+i) (List.getElem?_eq_some_iff.1 hy).1 (List.getElem?_eq_some_iff.1 hi).1 (by omega)
    rw [(List.getElem?_eq_some_iff.1 hy).2,(List.getElem?_eq_some_iff.1 hi).2] at this
    exact oF (h2▸nR hyp this)
  ·exact absurd h2 h1
 ·
  have hd:l.drop (eH l p)=x::l.drop (eH l p+1):=by
   rw [List.drop_eq_getElem_cons hlt,(List.getElem?_eq_some_iff.1 hx).2]
  have hxe:x=⟨p,x.ak⟩:=by cases x;simp at hp;simp [hp]
  refine .hit (l.take (eH l p)) (l.drop (eH l p+1)) x.ak ?_ h hlen.symm hA fun y hy=>?_
  ·rw [← hxe,← hd,List.take_append_drop]
  ·
   obtain ⟨i,hi⟩:=List.mem_iff_getElem?.1 hy
   rw [List.getElem?_drop] at hi
   have hr':=List.pairwise_iff_getElem.1 hr
   have:=hr' (eH l p) (eH l p+1+i) hlt (List.getElem?_eq_some_iff.1 hi).1 (by omega)
   rw [(List.getElem?_eq_some_iff.1 hx).2,(List.getElem?_eq_some_iff.1 hi).2,hp] at this
   exact this
theorem yG {A:List Held}{p:Place}(h:∀x∈A,¬ x.Place=p):A.find? (fun h=>h.Place==p)=none:=by
 rw [List.find?_eq_none];intro x hx;simpa using h x hx
theorem po {A B:List Held}{p:Place}{w:Int}(h:∀x∈A,¬ x.Place=p):jf (A++⟨p,w⟩::B) p=w:=by
 unfold jf;rw [List.find?_append,yG h];simp
theorem vO {A:List Held}{p:Place}(h:∀x∈A,¬ x.Place=p):jf A p=0:=by
 unfold jf;rw [yG h]
theorem nT {A B:List Held}{x:Held}{q:Place}(h:¬ x.Place=q):jf (A++x::B) q=jf (A++B) q:=by
 unfold jf;rw [List.find?_append,List.find?_append,List.find?_cons]
 have:(x.Place==q)=false:=by simpa using h
 rw [this]
theorem at_eq {l:List Held}{p:Place}(hr:qm l):jY l p=jf l p:=by
 cases shape l p hr with
 | hit A B w e h k ha hb =>
  have hx:l[eH l p]? = some ⟨p,w⟩:=by rw [k,e];simp
  rw [yy h hx,e,po (fun x hx=>iU (ha x hx))]
 | miss A B e h k ha hb =>
  rw [Bb h,e,vO]
  intro x hx
  rcases List.mem_append.1 hx with hx|hx
  ·exact iU (ha x hx)
  ·exact fun e=>iU (hb x hx) e.symm
theorem free_eq {l:List Held}{h:Int}(hr:qm l):dA l h=t7 l h:=by
 have:∀n s,iD l h n s=iQ l h n s:=by
  intro n
  induction n with
  | zero=>intro s;rfl
  | succ n ih=>intro s;simp only [iD,iQ,at_eq hr,ih]
 exact this 6 0
theorem BL {p:Place}{id:Int}:∀ {A:List Held} (acc:List Held) (b:Bool),(∀x∈A,gM x.Place p)→A.foldl (gQ p id) (acc,b)=(acc++A,b)
 | [],acc,b,h=>by simp
 | x::A,acc,b,h=>by
  have hx:=h x (List.mem_cons_self ..)
  simp only [List.foldl_cons]
  rw [dQ (.inr (by unfold gM at hx;omega)),if_neg (iU hx),BL _ _ (fun y hy=>h y (List.mem_cons_of_mem _ hy))]
  simp
theorem vP {p:Place}{id:Int}:∀ {B:List Held} (acc:List Held),(∀x∈B,gM p x.Place)→B.foldl (gQ p id) (acc,true)=(acc++B,true)
 | [],acc,h=>by simp
 | x::B,acc,h=>by
  have hx:=h x (List.mem_cons_self ..)
  simp only [List.foldl_cons]
  rw [dQ (.inl rfl),if_neg (fun e=>iU hx e.symm),vP _ (fun y hy=>h y (List.mem_cons_of_mem _ hy))]
  simp
theorem oH {l A B:List Held}{p:Place}{w id:Int}(e:l=A++⟨p,w⟩::B)(h:zp l p=true)(k:eH l p=A.length):cw l p id=if id=0 then A++B else A++⟨p,id⟩::B:=by
 unfold cw;rw [if_pos h,k,e]
 split
 ·
  congr 1
  ·simp
  ·rw [List.drop_append,List.drop_of_length_le (by omega)];simp
 ·simp
theorem m0 {l A B:List Held}{p:Place}{id:Int}(e:l=A++B)(h:zp l p=false)(k:eH l p=A.length):cw l p id=if id=0 then A++B else A++⟨p,id⟩::B:=by
 unfold cw;rw [if_neg (by rw [h];simp),k,e]
 split
 ·rfl
 ·simp
theorem put_eq {l:List Held}{p:Place}{id:Int}(hr:qm l):cw l p id=jl l p id:=by
 cases shape l p hr with
 | hit A B w e h k ha hb =>
  rw [oH e h k]
  unfold jl j4
  rw [e,List.foldl_append,BL _ _ ha,List.foldl_cons]
  have hle:p.aj<(⟨p,w⟩:Held).Place.aj∨(p.aj=(⟨p,w⟩:Held).Place.aj∧p.Slot≤(⟨p,w⟩:Held).Place.Slot):= .inr ⟨rfl,Int.le_refl _⟩
  by_cases h0:id=0
  ·
   have:(id==0)=true:=by simpa using h0
   rw [this,dQ (.inl rfl),if_pos rfl,vP _ hb,if_pos h0,if_pos rfl];simp
  ·
   have:(id==0)=false:=by simpa using h0
   rw [this,fD hle,if_pos rfl,vP _ hb,if_neg h0,if_pos rfl];simp
 | miss A B e h k ha hb =>
  rw [m0 e h k]
  unfold jl j4
  rw [e,List.foldl_append,BL _ _ ha]
  by_cases h0:id=0
  ·
   have:(id==0)=true:=by simpa using h0
   rw [this,vP _ hb,if_pos h0,if_pos rfl];simp
  ·
   have:(id==0)=false:=by simpa using h0
   rw [this,if_neg h0]
   cases B with
   | nil=>rw [List.foldl_nil,if_neg Bool.false_ne_true];simp
   | cons x B =>
    have hx:=hb x (List.mem_cons_self ..)
    have hne:¬ x.Place=p:=fun e=>iU hx e.symm
    rw [List.foldl_cons,fD (by unfold gM at hx;omega),if_neg hne,vP _ (fun y hy=>hb y (List.mem_cons_of_mem _ hy)),if_pos rfl];simp
theorem vQ {A B:List Held}(h:qm (A++B)):qm A∧qm B ∧ ∀x∈A,∀y∈B,gM x.Place y.Place:=List.pairwise_append.1 h
theorem jR {l:List Held}{p:Place}{id:Int}(hg:Good l)(hp:bu p=0):Good (cw l p id):=by
 have hr:=fV hg;have hf:=oG hg
 cases shape l p hr with
 | hit A B w e h k ha hb =>
  rw [oH e h k]
  rw [e] at hr hf
  obtain ⟨h1,h2,h3⟩:=vQ hr
  obtain ⟨h4,h5⟩:=List.pairwise_cons.1 h2
  split
  ·exact lB (List.pairwise_append.2 ⟨h1,h5,fun x hx y hy=>h3 x hx y (List.mem_cons_of_mem _ hy)⟩) (fun x hx=>hf x (by simp at hx ⊢;rcases hx with hx|hx <;> simp [hx]))
  ·
   refine lB (List.pairwise_append.2 ⟨h1,List.pairwise_cons.2 ⟨hb,h5⟩,fun x hx y hy=>?_⟩) (fun x hx=>?_)
   ·
    rcases List.mem_cons.1 hy with hy|hy
    ·subst hy;exact ha x hx
    ·exact h3 x hx y (List.mem_cons_of_mem _ hy)
   ·
    simp at hx
    rcases hx with hx|hx|hx
    ·exact hf x (by simp [hx])
    ·subst hx;exact ⟨hp,by assumption⟩
    ·exact hf x (by simp [hx])
 | miss A B e h k ha hb =>
  rw [m0 e h k]
  split
  ·rw [← e];exact hg
  ·
   rw [e] at hr hf
   obtain ⟨h1,h2,h3⟩:=vQ hr
   refine lB (List.pairwise_append.2 ⟨h1,List.pairwise_cons.2 ⟨hb,h2⟩,fun x hx y hy=>?_⟩) (fun x hx=>?_)
   ·
    rcases List.mem_cons.1 hy with hy|hy
    ·subst hy;exact ha x hx
    ·exact h3 x hx y hy
   ·
    simp at hx
    rcases hx with hx|hx|hx
    ·exact hf x (by simp [hx])
    ·subst hx;exact ⟨hp,by assumption⟩
    ·exact hf x (by simp [hx])
theorem zC {l:List Held}{p q:Place}{id:Int}(hg:Good l)(hp:bu p=0)(hq:¬ q=p):jY (cw l p id) q=jY l q:=by
 have hr:=fV hg
 rw [at_eq (fV (jR hg hp)),at_eq hr]
 have hpq:¬ p=q:=fun e=>hq e.symm
 cases shape l p hr with
 | hit A B w e h k ha hb =>
  rw [oH e h k,e,nT (x:=⟨p,w⟩) hpq]
  split
  ·rfl
  ·rw [nT (x:=⟨p,id⟩) hpq]
 | miss A B e h k ha hb =>
  rw [m0 e h k,e]
  split
  ·rfl
  ·rw [nT (x:=⟨p,id⟩) hpq]
theorem p8 {l:List Held}{h:Int}:∀ (n s:Nat),(iD l h n s = -1 ∧ ∀t,s≤t→t<s+n→jY l ⟨h,(t:Int)⟩≠0) ∨ ∃k:Nat,iD l h n s=k∧s≤k∧k<s+n∧jY l ⟨h,(k:Int)⟩=0 ∧ ∀t,s≤t→t<k→jY l ⟨h,(t:Int)⟩≠0
 | 0,s => .inl ⟨rfl,fun t h1 h2=>by omega⟩
 | n+1,s=>by
  simp only [iD]
  by_cases e:jY l ⟨h,s⟩=0
  ·rw [if_pos e];exact .inr ⟨s,rfl,Nat.le_refl _,by omega,e,fun t h1 h2=>by omega⟩
  ·
   rw [if_neg e]
   rcases p8 (l:=l) (h:=h) n (s+1) with ⟨h1,h2⟩ | ⟨k,h1,h2,h3,h4,h5⟩
   ·
    refine .inl ⟨h1,fun t h3 h4=>?_⟩
    rcases Nat.eq_or_lt_of_le h3 with h5|h5
    ·subst h5;exact e
    ·exact h2 t h5 (by omega)
   ·
    refine .inr ⟨k,h1,by omega,by omega,h4,fun t h6 h7=>?_⟩
    rcases Nat.eq_or_lt_of_le h6 with h8|h8
    ·subst h8;exact e
    ·exact h5 t h8 h7
theorem free_spec (l:List Held)(h:Int):(dA l h = -1 ∧ ∀t:Int,0≤t→t≤5→jY l ⟨h,t⟩≠0)∨(0≤dA l h∧dA l h≤5∧jY l ⟨h,dA l h⟩=0 ∧ ∀t:Int,0≤t→t<dA l h→jY l ⟨h,t⟩≠0):=by
 rcases p8 (l:=l) (h:=h) 6 0 with ⟨h1,h2⟩ | ⟨k,h1,h2,h3,h4,h5⟩
 ·
  refine .inl ⟨h1,fun t h3 h4=>?_⟩
  have:=h2 t.toNat (Nat.zero_le _) (by omega)
  rwa [Int.toNat_of_nonneg h3] at this
 ·
  have hk:dA l h=k:=h1
  refine .inr ⟨by omega,by omega,by rw [hk];exact h4,fun t h6 h7=>?_⟩
  have:=h5 t.toNat (Nat.zero_le _) (by omega)
  rwa [Int.toNat_of_nonneg h6] at this
end Go.Proofs.YtbkfhjaibhnkmaaGreatDoor
end
section
namespace Go.Proofs.YtbkfhjaibhnkmaaGreatDoor
end Go.Proofs.YtbkfhjaibhnkmaaGreatDoor
end
