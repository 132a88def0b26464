import Derived.Test.YtbkfhjaibhnkmaaGreatDoorTRP11
import Derived.Test.YtbkfhjaibhnkmaaGreatDoorTRP24
import Derived.Test.YtbkfhjaibhnkmaaGreatDoorTRP13
import Derived.Test.YtbkfhjaibhnkmaaGreatDoorTRP8
section
namespace Go.Proofs.YtbkfhjaibhnkmaaGreatDoor
set_option linter.unusedVariables false
def dK (c:Change):Bool:=decide (c.Key.size≤20)&&decide (c.Val.size≤40)
def kB (l:List Change)(most:Int):Bool:=decide ((l.length:Int)≤most)&&l.all dK
def dL (a:df):Bool:=decide (a.S.size≤100)&&kB a.Changes 70
def gU (l:List df)(most:Int):Bool:=decide ((l.length:Int)≤most)&&l.all dL
theorem ez {α:Type}{p:α→Bool}{l:List α}{k:Nat}{x:α}(hx:l[k]? = some x)(h:p x=false):l.all p=false:=by
  rw [Bool.eq_false_iff];intro h'
  have:=List.all_eq_true.1 h' x (List.mem_of_getElem? hx)
  rw [h] at this;simp at this
theorem jL {α:Type}{p:α→Bool}{l:List α}{k:Nat}(hk:¬ k<l.length)(h:(l.take k).all p=true):l.all p=true:=by
  rwa [List.take_of_length_le (by omega)] at h
theorem p9 {α:Type}{p:α→Bool}{l:List α}{k:Nat}{x:α}(hx:l[k]? = some x)(h:(l.take k).all p=true)(hp:p x=true):(l.take (k+1)).all p=true:=by
  rw [List.take_add_one,hx];simp [List.all_append,h,hp]
theorem nA {l:List df}{most:Int}(h:gU l most=true):(l.length:Int)≤most:=by
  unfold gU at h;simp only [Bool.and_eq_true,decide_eq_true_eq] at h;exact h.1
end Go.Proofs.YtbkfhjaibhnkmaaGreatDoor
end
section
namespace Go.Proofs.YtbkfhjaibhnkmaaGreatDoor
set_option linter.unusedVariables false
def newR:au:=⟨[],[],[],[],1,1⟩
def eM (r:au)(a:df):au×Int :=
  if a.Kind=(⟨#[109,97,107,101]⟩:ByteArray) then bg r a.P a.A
  else if a.Kind=(⟨#[103,105,118,101]⟩:ByteArray) then bV r a.P a.Q a.A a.B
  else if a.Kind=(⟨#[109,111,118,101]⟩:ByteArray) then di r a.P a.A
  else if a.Kind=(⟨#[100,114,111,112]⟩:ByteArray) then dy r a.P
  else if a.Kind=(⟨#[114,101,118,111,107,101]⟩:ByteArray) then bN r a.P
  else if a.Kind=(⟨#[119,114,105,116,101]⟩:ByteArray) then bU r a.P a.S
  else if a.Kind=(⟨#[115,101,110,100]⟩:ByteArray) then bO r a.P a.S a.A a.B
  else if a.Kind=(⟨#[116,97,107,101]⟩:ByteArray) then ((bD r a.P).1,(bD r a.P).2.2.2)
  else (r,0)
def kj (r:au)(a:df):au:=if (eM r a).2=0 then (eM r a).1 else r
def grow (l:List df):au:=l.foldl kj newR
def aF (l:List df):au×Bool:=if gU l 80 then (grow l,true) else (r0,false)
theorem j1 {l:List df}{k:Nat}{a:df}(h:l[k]? = some a):grow (l.take (k+1))=kj (grow (l.take k)) a:=by
  unfold grow;rw [List.take_add_one,h];simp
theorem qa {r:au}{a:df}(h:(eM r a).2=0):kj r a=(eM r a).1:=by unfold kj;rw [if_pos h]
theorem sF {r:au}{a:df}(h:¬ (eM r a).2=0):kj r a=r:=by unfold kj;rw [if_neg h]
theorem qb (P:Nat→au→Prop)(h0:P 0 newR)(hs:∀k r a,P k r→P (k+1) (kj r a)):∀ (l:List df),P l.length (grow l):=by
  have key:∀ (l:List df) (k:Nat) (r:au),P k r→P (k+l.length) (l.foldl kj r):=by
    intro l
    induction l with
    | nil=>intro k r h;exact h
    | cons a l ih =>
      intro k r h
      have:=ih (k+1) _ (hs k r a h)
      rw [List.length_cons,show k+(l.length+1)=k+1+l.length by omega];exact this
  intro l
  have:=key l 0 newR h0
  rwa [Nat.zero_add] at this
theorem lh {w:ak}{id r b:Int}(h:(derived w id r b).2=0):0≤r∧r≤7∧0≤b∧b≤99∧eY w.Rights r=true∧(derived w id r b).1=⟨id,w.ai,r,if b=0 then w.ar else b,w.ID⟩∧(w.ar=0∨b=0∨b=w.ar):=by
  revert h
  rcases eC r with ⟨h1,h2⟩ | ⟨h1,h2⟩
  · unfold derived;rw [if_pos h1];intro h;simp at h
  ·
    unfold derived;rw [if_neg (by rw [h1];decide)]
    by_cases hb:b<0
    · rw [if_pos hb];intro h;simp at h
    ·
      rw [if_neg hb]
      by_cases hb2:99<b
      · rw [if_pos hb2];intro h;simp at h
      ·
        rw [if_neg hb2]
        cases hr:eY w.Rights r with
        | false=>rw [if_pos rfl];intro h;simp at h
        | true =>
          rw [if_neg (by decide)]
          by_cases hc:b≠0∧w.ar≠0∧b≠w.ar
          · rw [if_pos hc];intro h;simp at h
          · rw [if_neg hc];intro h;exact ⟨h2.1,h2.2,by omega,by omega,rfl,rfl,by omega⟩
theorem nB {w:ak}{id r b:Int}(h:(derived w id r b).2=0):0≤(derived w id r b).1.Rights∧(derived w id r b).1.Rights≤7:=by
  have:=lh h;rw [this.2.2.2.2.2.1];exact ⟨this.1,this.2.1⟩
structure Sz (k:Nat)(r:au):Prop where
  wl:r.aj.length≤k
  tl:r.Things.length≤k
  hl:r.Held.length≤2*k
  nl:r.Notes.length≤k
  ri:∀w∈r.aj,0≤w.Rights∧w.Rights≤7
  w0:0≤r.ae
  w1:r.ae≤1000
  t0:0≤r.af
  t1:r.af≤1000
theorem Sz.ok {k:Nat}{r:au}(h:Sz k r)(hk:k≤1000):Ok r:=⟨by have:=h.wl;omega,by have:=h.tl;omega,by have:=h.hl;omega,by have:=h.nl;omega,h.ri,h.w0,by have:=h.w1;omega,h.t0,by have:=h.t1;omega⟩
theorem Sz.up {k m:Nat}{r:au}(h:Sz k r)(hk:k≤m):Sz m r:=⟨by have:=h.wl;omega,by have:=h.tl;omega,by have:=h.hl;omega,by have:=h.nl;omega,h.ri,h.w0,h.w1,h.t0,h.t1⟩
theorem Sz.new:Sz 0 newR:=⟨Nat.le_refl _,Nat.le_refl _,Nat.le_refl _,Nat.le_refl _,fun w hw=>(by cases hw),by decide,by decide,by decide,by decide⟩
theorem kl (k:Nat):Sz k r0:=⟨Nat.zero_le _,Nat.zero_le _,Nat.zero_le _,Nat.zero_le _,fun w hw=>(by cases hw),by decide,by decide,by decide,by decide⟩
theorem pk {l:List ak}{x:ak}(h:∀w∈l,0≤w.Rights∧w.Rights≤7)(hx:0≤x.Rights∧x.Rights≤7):∀w∈l++[x],0≤w.Rights∧w.Rights≤7:=fun w hw=>by
  rcases List.mem_append.1 hw with hw|hw
  · exact h w hw
  · rw [List.mem_singleton.1 hw];exact hx
theorem iE {k:Nat}{r:au}(h:Sz k r):Sz k (dS r) :=
  ⟨h.wl,Nat.le_trans (List.length_filter_le _ _) h.tl,Nat.le_trans (List.length_filter_le _ _) h.hl,by
    have:=jW r.aj (aR r.aj) r.Notes
    have:=h.nl
    show (eI r.aj (aR r.aj) r.Notes).length≤k
    omega,h.ri,h.w0,h.w1,h.t0,h.t1⟩
theorem tI {k:Nat}{r:au}(h:Sz k r):Sz k (iW r) :=
  ⟨Nat.le_trans (lg _ _) h.wl,(iE h).tl,(iE h).hl,(iE h).nl,pg _ _ h.ri,h.w0,h.w1,h.t0,h.t1⟩
theorem kC {k:Nat}:∀ (n:Nat) (r:au),Sz k r→Sz k (fN n r)
  | 0,r,h=>iE h
  | n+1,r,h=>by
    unfold fN;split
    · exact iE h
    · exact kC n _ (tI h)
theorem Sz.l8 {k:Nat}{r:au}(h:Sz k r){l:List ak}(hl:l.length≤k)(hr:∀w∈l,0≤w.Rights∧w.Rights≤7):Sz k ⟨l,r.Things,r.Held,r.Notes,r.ae,r.af⟩ :=
  ⟨hl,h.tl,h.hl,h.nl,hr,h.w0,h.w1,h.t0,h.t1⟩
theorem sG {k:Nat}{r:au}(h:Sz k r)(p:Place)(kind:Int):Sz (k+1) (bg r p kind).1:=by
  have:=h.wl;have:=h.tl;have:=h.hl;have:=h.nl;have:=h.w0;have:=h.t0;have hp:=iy r.Held p r.ae
  unfold bg
  (repeat' split) <;> first|exact kl _|skip
  refine ⟨?_,?_,?_,?_,pk h.ri ⟨(by show (0:Int)≤7;decide),(by show (7:Int)≤7;decide)⟩,?_,?_,?_,?_⟩ <;> dsimp only [aQ]
  · simp;omega
  · simp;omega
  ·
    split
    · omega
    · omega
  all_goals omega
theorem wV {k:Nat}{r:au}(h:Sz k r)(p t:Place)(a b:Int):Sz (k+1) (bV r p t a b).1:=by
  have:=h.wl;have:=h.tl;have:=h.hl;have:=h.nl;have:=h.w0;have:=h.t0;have:=h.t1
  unfold bV
  (repeat' split) <;> first|exact kl _|skip
  rename_i h1 h2 h3 h4 h5
  have hp:=iy r.Held t (derived (ap r p).1 r.ae a b).1.ID
  have hr:0≤(derived (ap r p).1 r.ae a b).1.Rights∧(derived (ap r p).1 r.ae a b).1.Rights≤7:=nB h5
  refine ⟨?_,?_,?_,?_,pk h.ri hr,?_,?_,?_,?_⟩ <;> dsimp only [aQ]
  · simp;omega
  · omega
  · split <;> omega
  all_goals omega
theorem wW {k:Nat}{r:au}(h:Sz k r)(p:Place)(s:Int):Sz (k+1) (di r p s).1:=by
  have:=h.wl;have:=h.tl;have:=h.hl;have:=h.nl;have:=h.w0;have:=h.t0;have:=h.t1;have:=h.w1
  have h1:=iy r.Held p 0
  have h2:=iy (ck r.Held p 0) ⟨p.ag,s⟩ (ap r p).1.ID
  unfold di
  (repeat' split) <;> first|exact kl _|exact ⟨by dsimp only;omega,by dsimp only;omega,by dsimp only;omega,by dsimp only;omega,h.ri,h.w0,h.w1,h.t0,h.t1⟩
theorem wX {k:Nat}{r:au}(h:Sz k r)(p:Place):Sz (k+1) (dy r p).1:=by
  unfold dy;split
  · exact (kC _ _ (h.l8 (Nat.le_trans (hJ _ _) h.wl) (iY h.ri))).up (Nat.le_succ k)
  · exact kl _
theorem tJ {k:Nat}{r:au}(h:Sz k r)(p:Place):Sz (k+1) (bN r p).1:=by
  unfold bN;split
  · exact (kC _ _ (h.l8 (Nat.le_trans (List.length_filter_le _ _) h.wl) (fun w hw=>h.ri w (List.mem_filter.1 hw).1))).up (Nat.le_succ k)
  · exact kl _
theorem mb (l:List ai)(i:Nat)(d:ByteArray):(ey l i d).length=l.length:=by
  unfold ey;split <;> simp
theorem vp {k:Nat}{r:au}(h:Sz k r)(p:Place)(d:ByteArray):Sz (k+1) (bU r p d).1:=by
  have:=h.wl;have:=h.tl;have:=h.hl;have:=h.nl
  unfold bU
  (repeat' split) <;> first|exact kl _|exact ⟨by dsimp only;omega,by dsimp only;rw [mb];omega,by dsimp only;omega,by dsimp only;omega,h.ri,h.w0,h.w1,h.t0,h.t1⟩
theorem wY {k:Nat}{r:au}(h:Sz k r)(p:Place)(d:ByteArray)(a b:Int):Sz (k+1) (bO r p d a b).1:=by
  have:=h.wl;have:=h.tl;have:=h.hl;have:=h.nl;have:=h.w0;have:=h.t0;have:=h.t1;have:=h.w1
  unfold bO
  (repeat' split) <;> first|exact kl _|exact ⟨by dsimp only;omega,by dsimp only;omega,by dsimp only;omega,by simp;omega,h.ri,h.w0,h.w1,h.t0,h.t1⟩ | skip
  rename_i h8
  exact ⟨by simp;omega,by dsimp only;omega,by dsimp only;omega,by simp;omega,pk h.ri (nB h8),by dsimp only;omega,by dsimp only;omega,h.t0,h.t1⟩
theorem vq (l:List Note)(i:Nat):(lJ l i).length≤l.length:=by
  unfold lJ;rw [List.length_append,List.length_take,List.length_drop];omega
theorem wZ {k:Nat}{r:au}(h:Sz k r)(p:Place):Sz (k+1) (bD r p).1:=by
  have:=h.wl;have:=h.tl;have:=h.hl;have:=h.nl
  unfold bD
  split
  ·
    split
    ·
      rename_i n _ _
      have h1:=iy r.Held ⟨p.ag,dR r.Held p.ag⟩ n.ak
      have h2:=vq r.Notes (idxOf (fun n=>n.Port==(ay r p 2 1).1.ai) r.Notes).toNat
      (repeat' split) <;> first|exact kl _|exact ⟨by dsimp only;omega,by dsimp only;omega,by dsimp only;omega,by dsimp only;omega,h.ri,h.w0,h.w1,h.t0,h.t1⟩
    · exact kl _
  · exact kl _
theorem AJ {k:Nat}{r:au}(h:Sz k r)(a:df):Sz (k+1) (eM r a).1:=by
  unfold eM
  (repeat' split)
  · exact sG h _ _
  · exact wV h _ _ _ _
  · exact wW h _ _
  · exact wX h _
  · exact tJ h _
  · exact vp h _ _
  · exact wY h _ _ _ _
  · exact wZ h _
  · exact h.up (Nat.le_succ k)
theorem sH (l:List df):Sz l.length (grow l):=qb Sz Sz.new (fun k r a h=>by
  unfold kj;split
  · exact AJ h a
  · exact h.up (Nat.le_succ k)) l
theorem sI {l:List df}(h:l.length≤80):Ok (grow l):=(sH l).ok (by omega)
theorem q9 {l:List df}(h:(aF l).2=true):l.length≤80∧(aF l).1=grow l∧Ok (grow l):=by
  unfold aF at h ⊢
  by_cases hl:gU l 80=true
  ·
    have:=nA hl
    rw [if_pos hl];exact ⟨by omega,rfl,sI (by omega)⟩
  · rw [if_neg hl] at h;simp at h
end Go.Proofs.YtbkfhjaibhnkmaaGreatDoor
end
section
namespace Go.Proofs.YtbkfhjaibhnkmaaGreatDoor
open Go Go.RowKit
set_option linter.unusedVariables false
set_option linter.unusedSimpArgs false
set_option linter.unusedSectionVars false
set_option maxRecDepth 100000
theorem xW:yi Tryz.prog 62 ai.val:=by
  have hS:Tryz.prog.underlying 62=some (.struct (Tryz.prog.fieldsOf 62)):=by kernel_rfl
  have hp:Tryz.prog.stoodInHeld 62=false:=by kernel_rfl
  refine o5 (cs:=ai.cs) (by kernel_rfl) fun x y w=>?_
  have u3:=Tryz.underlying9;have a3:=Tryz.isAgg9;have z3:=Tryz.sizeOf9;have u4:=Tryz.underlying3;have a4:=Tryz.isAgg3;have z4:=Tryz.sizeOf3
  obtain ⟨x1,x2,x3⟩:=x;obtain ⟨y1,y2,y3⟩:=y
  rw [Op.equal,Op.maxDepth,show (10000:Nat)=9999+1 from rfl,run_equalIn_agg w 9999 62 _ _ hS hp]
  simp only [Program.fieldsOf,Tryz.underlying62]
  go_simp
  have tl:∀a b:ByteArray,a.toList=b.toList↔a=b:=fun a b=>by have:=gK a b;rw [Bool.eq_iff_iff] at this;simpa using this
  by_cases h1:x1=y1 <;> by_cases h2:x2=y2 <;> by_cases h3:x3=y3 <;> simp [h1,h2,h3,tl]
theorem xX:yi Tryz.prog 72 Note.val:=by
  have hS:Tryz.prog.underlying 72=some (.struct (Tryz.prog.fieldsOf 72)):=by kernel_rfl
  have hp:Tryz.prog.stoodInHeld 72=false:=by kernel_rfl
  refine o5 (cs:=Note.cs) (by kernel_rfl) fun x y w=>?_
  have u3:=Tryz.underlying9;have a3:=Tryz.isAgg9;have z3:=Tryz.sizeOf9;have u4:=Tryz.underlying3;have a4:=Tryz.isAgg3;have z4:=Tryz.sizeOf3
  obtain ⟨x1,x2,x3,x4⟩:=x;obtain ⟨y1,y2,y3,y4⟩:=y
  rw [Op.equal,Op.maxDepth,show (10000:Nat)=9999+1 from rfl,run_equalIn_agg w 9999 72 _ _ hS hp]
  simp only [Program.fieldsOf,Tryz.underlying72]
  go_simp
  have tl:∀a b:ByteArray,a.toList=b.toList↔a=b:=fun a b=>by have:=gK a b;rw [Bool.eq_iff_iff] at this;simpa using this
  by_cases h1:x1=y1 <;> by_cases h2:x2=y2 <;> by_cases h3:x3=y3 <;> by_cases h4:x4=y4 <;> simp [h1,h2,h3,h4,tl]
end Go.Proofs.YtbkfhjaibhnkmaaGreatDoor
end
section
namespace Go.Proofs.YtbkfhjaibhnkmaaGreatDoor
open Go Go.RowKit
set_option linter.unusedVariables false
set_option maxRecDepth 100000
end Go.Proofs.YtbkfhjaibhnkmaaGreatDoor
end
