import Derived.Test.YtbkfhjaibhnkmaaGreatDoorTSD10
import Derived.Test.YtbkfhjaibhnkmaaGreatDoorTSD23
import Derived.Test.YtbkfhjaibhnkmaaGreatDoorTSD12
import Derived.Test.YtbkfhjaibhnkmaaGreatDoorTSD7
section
namespace Go.Proofs.YtbkfhjaibhnkmaaGreatDoor
set_option linter.unusedVariables false
def dU (c:Change):Bool:=decide (c.Key.size≤20)&&decide (c.Val.size≤40)
def iR (l:List Change)(most:Int):Bool:=decide ((l.length:Int)≤most)&&l.all dU
def d9 (a:df):Bool:=decide (a.S.size≤100)&&iR a.Changes 70
def iw (l:List df)(most:Int):Bool:=decide ((l.length:Int)≤most)&&l.all d9
theorem eQ {α:Type}{p:α→Bool}{l:List α}{k:Nat}{x:α}(hx:l[k]? = some x)(h:p x=false):l.all p=false:=by
 rw [Bool.eq_false_iff];intro h'
 have:=List.all_eq_true.1 h' x (List.mem_of_getElem? hx)
 rw [h] at this;simp at this
theorem kr {α:Type}{p:α→Bool}{l:List α}{k:Nat}(hk:¬ k<l.length)(h:(l.take k).all p=true):l.all p=true:=by
 rwa [List.take_of_length_le (by omega)] at h
theorem ry {α:Type}{p:α→Bool}{l:List α}{k:Nat}{x:α}(hx:l[k]? = some x)(h:(l.take k).all p=true)(hp:p x=true):(l.take (k+1)).all p=true:=by
 rw [List.take_add_one,hx];simp [List.all_append,h,hp]
theorem oH {l:List df}{most:Int}(h:iw l most=true):(l.length:Int)≤most:=by
 unfold iw at h;simp only [Bool.and_eq_true,decide_eq_true_eq] at h;exact h.1
end Go.Proofs.YtbkfhjaibhnkmaaGreatDoor
end
section
namespace Go.Proofs.YtbkfhjaibhnkmaaGreatDoor
set_option linter.unusedVariables false
def newR:ap:=⟨[],[],[],[],1,1⟩
def fh (r:ap)(a:df):ap×Int :=
  if a.Kind=(⟨#[109,97,107,101]⟩:ByteArray) then bC r a.P a.A
  else if a.Kind=(⟨#[103,105,118,101]⟩:ByteArray) then cr r a.P a.Q a.A a.B
  else if a.Kind=(⟨#[109,111,118,101]⟩:ByteArray) then dx r a.P a.A
  else if a.Kind=(⟨#[100,114,111,112]⟩:ByteArray) then dJ r a.P
  else if a.Kind=(⟨#[114,101,118,111,107,101]⟩:ByteArray) then bY r a.P
  else if a.Kind=(⟨#[119,114,105,116,101]⟩:ByteArray) then cq r a.P a.S
  else if a.Kind=(⟨#[115,101,110,100]⟩:ByteArray) then bZ r a.P a.S a.A a.B
  else if a.Kind=(⟨#[116,97,107,101]⟩:ByteArray) then ((bU r a.P).1,(bU r a.P).2.2.2)
  else (r,0)
def k7 (r:ap)(a:df):ap:=if (fh r a).2=0 then (fh r a).1 else r
def grow (l:List df):ap:=l.foldl k7 newR
def ay (l:List df):ap×Bool:=if iw l 80 then (grow l,true) else (r0,false)
theorem kI {l:List df}{k:Nat}{a:df}(h:l[k]? = some a):grow (l.take (k+1))=k7 (grow (l.take k)) a:=by
 unfold grow;rw [List.take_add_one,h];simp
theorem rz {r:ap}{a:df}(h:(fh r a).2=0):k7 r a=(fh r a).1:=by unfold k7;rw [if_pos h]
theorem t8 {r:ap}{a:df}(h:¬ (fh r a).2=0):k7 r a=r:=by unfold k7;rw [if_neg h]
theorem rA (P:Nat→ap→Prop)(h0:P 0 newR)(hs:∀k r a,P k r→P (k+1) (k7 r a)):∀ (l:List df),P l.length (grow l):=by
 have key:∀ (l:List df) (k:Nat) (r:ap),P k r→P (k+l.length) (l.foldl k7 r):=by
  intro l
  induction l with
  | nil=>intro k r h;exact h
  | cons a l ih =>
   intro k r h
   have:=ih (k+1) _ (hs k r a h)
   rw [List.length_cons,show k+(l.length+1)=k+1+l.length by omega];exact this
 intro l
 have:=key l 0 newR h0
 rwa [Nat.zero_add] at this
theorem l1 {w:aj}{id r b:Int}(h:(derived w id r b).2=0):0≤r∧r≤7∧0≤b∧b≤99∧fB w.Rights r=true∧(derived w id r b).1=⟨id,w.ah,r,if b=0 then w.aG else b,w.ID⟩∧(w.aG=0∨b=0∨b=w.aG):=by
 revert h
 rcases eV r with ⟨h1,h2⟩ | ⟨h1,h2⟩
 ·unfold derived;rw [if_pos h1];intro h;simp at h
 ·
  unfold derived;rw [if_neg (by rw [h1];decide)]
  by_cases hb:b<0
  ·rw [if_pos hb];intro h;simp at h
  ·
   rw [if_neg hb]
   by_cases hb2:99<b
   ·rw [if_pos hb2];intro h;simp at h
   ·
    rw [if_neg hb2]
    cases hr:fB w.Rights r with
    | false=>rw [if_pos rfl];intro h;simp at h
    | true =>
     rw [if_neg (by decide)]
     by_cases hc:b≠0∧w.aG≠0∧b≠w.aG
     ·rw [if_pos hc];intro h;simp at h
     ·rw [if_neg hc];intro h;exact ⟨h2.1,h2.2,by omega,by omega,rfl,rfl,by omega⟩
theorem oI {w:aj}{id r b:Int}(h:(derived w id r b).2=0):0≤(derived w id r b).1.Rights∧(derived w id r b).1.Rights≤7:=by
 have:=l1 h;rw [this.2.2.2.2.2.1];exact ⟨this.1,this.2.1⟩
structure Sz (k:Nat)(r:ap):Prop where
  wl:r.ai.length≤k
  tl:r.Things.length≤k
  hl:r.Held.length≤2*k
  nl:r.Notes.length≤k
  ri:∀w∈r.ai,0≤w.Rights∧w.Rights≤7
  w0:0≤r.ae
  w1:r.ae≤1000
  t0:0≤r.af
  t1:r.af≤1000
theorem Sz.ok {k:Nat}{r:ap}(h:Sz k r)(hk:k≤1000):Ok r:=⟨by have:=h.wl;omega,by have:=h.tl;omega,by have:=h.hl;omega,by have:=h.nl;omega,h.ri,h.w0,by have:=h.w1;omega,h.t0,by have:=h.t1;omega⟩
theorem Sz.up {k m:Nat}{r:ap}(h:Sz k r)(hk:k≤m):Sz m r:=⟨by have:=h.wl;omega,by have:=h.tl;omega,by have:=h.hl;omega,by have:=h.nl;omega,h.ri,h.w0,h.w1,h.t0,h.t1⟩
theorem Sz.new:Sz 0 newR:=⟨Nat.le_refl _,Nat.le_refl _,Nat.le_refl _,Nat.le_refl _,fun w hw=>(by cases hw),by decide,by decide,by decide,by decide⟩
theorem k9 (k:Nat):Sz k r0:=⟨Nat.zero_le _,Nat.zero_le _,Nat.zero_le _,Nat.zero_le _,fun w hw=>(by cases hw),by decide,by decide,by decide,by decide⟩
theorem qx {l:List aj}{x:aj}(h:∀w∈l,0≤w.Rights∧w.Rights≤7)(hx:0≤x.Rights∧x.Rights≤7):∀w∈l++[x],0≤w.Rights∧w.Rights≤7:=fun w hw=>by
 rcases List.mem_append.1 hw with hw|hw
 ·exact h w hw
 ·rw [List.mem_singleton.1 hw];exact hx
theorem jg {k:Nat}{r:ap}(h:Sz k r):Sz k (ew r) :=
 ⟨h.wl,Nat.le_trans (List.length_filter_le _ _) h.tl,Nat.le_trans (List.length_filter_le _ _) h.hl,by
  have:=kC r.ai (aY r.ai) r.Notes
  have:=h.nl
  show (e9 r.ai (aY r.ai) r.Notes).length≤k
  omega,h.ri,h.w0,h.w1,h.t0,h.t1⟩
theorem u6 {k:Nat}{r:ap}(h:Sz k r):Sz k (jD r) :=
 ⟨Nat.le_trans (lZ _ _) h.wl,(jg h).tl,(jg h).hl,(jg h).nl,qv _ _ h.ri,h.w0,h.w1,h.t0,h.t1⟩
theorem lv {k:Nat}:∀ (n:Nat) (r:ap),Sz k r→Sz k (gw n r)
 | 0,r,h=>jg h
 | n+1,r,h=>by
  unfold gw;split
  ·exact jg h
  ·exact lv n _ (u6 h)
theorem Sz.m8 {k:Nat}{r:ap}(h:Sz k r){l:List aj}(hl:l.length≤k)(hr:∀w∈l,0≤w.Rights∧w.Rights≤7):Sz k ⟨l,r.Things,r.Held,r.Notes,r.ae,r.af⟩ :=
 ⟨hl,h.tl,h.hl,h.nl,hr,h.w0,h.w1,h.t0,h.t1⟩
theorem ua {k:Nat}{r:ap}(h:Sz k r)(p:Place)(kind:Int):Sz (k+1) (bC r p kind).1:=by
 have:=h.wl;have:=h.tl;have:=h.hl;have:=h.nl;have:=h.w0;have:=h.t0;have hp:=i7 r.Held p r.ae
 unfold bC
 (repeat' split) <;> first|exact k9 _|skip
 refine ⟨?_,?_,?_,?_,qx h.ri ⟨(by show (0:Int)≤7;decide),(by show (7:Int)≤7;decide)⟩,?_,?_,?_,?_⟩ <;> dsimp only [aW]
 ·simp;omega
 ·simp;omega
 ·
  split
  ·omega
  ·omega
 all_goals omega
theorem yn {k:Nat}{r:ap}(h:Sz k r)(p t:Place)(a b:Int):Sz (k+1) (cr r p t a b).1:=by
 have:=h.wl;have:=h.tl;have:=h.hl;have:=h.nl;have:=h.w0;have:=h.t0;have:=h.t1
 unfold cr
 (repeat' split) <;> first|exact k9 _|skip
 rename_i h1 h2 h3 h4 h5
 have hp:=i7 r.Held t (derived (au r p).1 r.ae a b).1.ID
 have hr:0≤(derived (au r p).1 r.ae a b).1.Rights∧(derived (au r p).1 r.ae a b).1.Rights≤7:=oI h5
 refine ⟨?_,?_,?_,?_,qx h.ri hr,?_,?_,?_,?_⟩ <;> dsimp only [aW]
 ·simp;omega
 ·omega
 ·split <;> omega
 all_goals omega
theorem yo {k:Nat}{r:ap}(h:Sz k r)(p:Place)(s:Int):Sz (k+1) (dx r p s).1:=by
 have:=h.wl;have:=h.tl;have:=h.hl;have:=h.nl;have:=h.w0;have:=h.t0;have:=h.t1;have:=h.w1
 have h1:=i7 r.Held p 0
 have h2:=i7 (cE r.Held p 0) ⟨p.ao,s⟩ (au r p).1.ID
 unfold dx
 (repeat' split) <;> first|exact k9 _|exact ⟨by dsimp only;omega,by dsimp only;omega,by dsimp only;omega,by dsimp only;omega,h.ri,h.w0,h.w1,h.t0,h.t1⟩
theorem yp {k:Nat}{r:ap}(h:Sz k r)(p:Place):Sz (k+1) (dJ r p).1:=by
 unfold dJ;split
 ·exact (lv _ _ (h.m8 (Nat.le_trans (iM _ _) h.wl) (jF h.ri))).up (Nat.le_succ k)
 ·exact k9 _
theorem u7 {k:Nat}{r:ap}(h:Sz k r)(p:Place):Sz (k+1) (bY r p).1:=by
 unfold bY;split
 ·exact (lv _ _ (h.m8 (Nat.le_trans (List.length_filter_le _ _) h.wl) (fun w hw=>h.ri w (List.mem_filter.1 hw).1))).up (Nat.le_succ k)
 ·exact k9 _
theorem ng (l:List ah)(i:Nat)(d:ByteArray):(eP l i d).length=l.length:=by
 unfold eP;split <;> simp
theorem wL {k:Nat}{r:ap}(h:Sz k r)(p:Place)(d:ByteArray):Sz (k+1) (cq r p d).1:=by
 have:=h.wl;have:=h.tl;have:=h.hl;have:=h.nl
 unfold cq
 (repeat' split) <;> first|exact k9 _|exact ⟨by dsimp only;omega,by dsimp only;rw [ng];omega,by dsimp only;omega,by dsimp only;omega,h.ri,h.w0,h.w1,h.t0,h.t1⟩
theorem yq {k:Nat}{r:ap}(h:Sz k r)(p:Place)(d:ByteArray)(a b:Int):Sz (k+1) (bZ r p d a b).1:=by
 have:=h.wl;have:=h.tl;have:=h.hl;have:=h.nl;have:=h.w0;have:=h.t0;have:=h.t1;have:=h.w1
 unfold bZ
 (repeat' split) <;> first|exact k9 _|exact ⟨by dsimp only;omega,by dsimp only;omega,by dsimp only;omega,by simp;omega,h.ri,h.w0,h.w1,h.t0,h.t1⟩ | skip
 rename_i h8
 exact ⟨by simp;omega,by dsimp only;omega,by dsimp only;omega,by simp;omega,qx h.ri (oI h8),by dsimp only;omega,by dsimp only;omega,h.t0,h.t1⟩
theorem wM (l:List Note)(i:Nat):(mH l i).length≤l.length:=by
 unfold mH;rw [List.length_append,List.length_take,List.length_drop];omega
theorem yr {k:Nat}{r:ap}(h:Sz k r)(p:Place):Sz (k+1) (bU r p).1:=by
 have:=h.wl;have:=h.tl;have:=h.hl;have:=h.nl
 unfold bU
 split
 ·
  split
  ·
   rename_i n _ _
   have h1:=i7 r.Held ⟨p.ao,eu r.Held p.ao⟩ n.aj
   have h2:=wM r.Notes (idxOf (fun n=>n.Port==(aO r p 2 1).1.ah) r.Notes).toNat
   (repeat' split) <;> first|exact k9 _|exact ⟨by dsimp only;omega,by dsimp only;omega,by dsimp only;omega,by dsimp only;omega,h.ri,h.w0,h.w1,h.t0,h.t1⟩
  ·exact k9 _
 ·exact k9 _
theorem CC {k:Nat}{r:ap}(h:Sz k r)(a:df):Sz (k+1) (fh r a).1:=by
 unfold fh
 (repeat' split)
 ·exact ua h _ _
 ·exact yn h _ _ _ _
 ·exact yo h _ _
 ·exact yp h _
 ·exact u7 h _
 ·exact wL h _ _
 ·exact yq h _ _ _ _
 ·exact yr h _
 ·exact h.up (Nat.le_succ k)
theorem ub (l:List df):Sz l.length (grow l):=rA Sz Sz.new (fun k r a h=>by
 unfold k7;split
 ·exact CC h a
 ·exact h.up (Nat.le_succ k)) l
theorem uc {l:List df}(h:l.length≤80):Ok (grow l):=(ub l).ok (by omega)
theorem sM {l:List df}(h:(ay l).2=true):l.length≤80∧(ay l).1=grow l∧Ok (grow l):=by
 unfold ay at h ⊢
 by_cases hl:iw l 80=true
 ·
  have:=oH hl
  rw [if_pos hl];exact ⟨by omega,rfl,uc (by omega)⟩
 ·rw [if_neg hl] at h;simp at h
end Go.Proofs.YtbkfhjaibhnkmaaGreatDoor
end
section
namespace Go.Proofs.YtbkfhjaibhnkmaaGreatDoor
open Go Go.RowKit
set_option linter.unusedVariables false
set_option linter.unusedSimpArgs false
set_option linter.unusedSectionVars false
set_option maxRecDepth 100000
theorem zr:yV Tryz.prog 62 ah.val:=by
 have hS:Tryz.prog.underlying 62=some (.struct (Tryz.prog.fieldsOf 62)):=by kernel_rfl
 have hp:Tryz.prog.stoodInHeld 62=false:=by kernel_rfl
 refine ot (cs:=ah.cs) (by kernel_rfl) fun x y w=>?_
 have u3:=Tryz.underlying9;have a3:=Tryz.isAgg9;have z3:=Tryz.sizeOf9;have u4:=Tryz.underlying3;have a4:=Tryz.isAgg3;have z4:=Tryz.sizeOf3
 obtain ⟨x1,x2,x3⟩:=x;obtain ⟨y1,y2,y3⟩:=y
 rw [Op.equal,Op.maxDepth,show (10000:Nat)=9999+1 from rfl,run_equalIn_agg w 9999 62 _ _ hS hp]
 simp only [Program.fieldsOf,Tryz.underlying62]
 go_simp
 have tl:∀a b:ByteArray,a.toList=b.toList↔a=b:=fun a b=>by have:=gP a b;rw [Bool.eq_iff_iff] at this;simpa using this
 by_cases h1:x1=y1 <;> by_cases h2:x2=y2 <;> by_cases h3:x3=y3 <;> simp [h1,h2,h3,tl]
theorem zt:yV Tryz.prog 72 Note.val:=by
 have hS:Tryz.prog.underlying 72=some (.struct (Tryz.prog.fieldsOf 72)):=by kernel_rfl
 have hp:Tryz.prog.stoodInHeld 72=false:=by kernel_rfl
 refine ot (cs:=Note.cs) (by kernel_rfl) fun x y w=>?_
 have u3:=Tryz.underlying9;have a3:=Tryz.isAgg9;have z3:=Tryz.sizeOf9;have u4:=Tryz.underlying3;have a4:=Tryz.isAgg3;have z4:=Tryz.sizeOf3
 obtain ⟨x1,x2,x3,x4⟩:=x;obtain ⟨y1,y2,y3,y4⟩:=y
 rw [Op.equal,Op.maxDepth,show (10000:Nat)=9999+1 from rfl,run_equalIn_agg w 9999 72 _ _ hS hp]
 simp only [Program.fieldsOf,Tryz.underlying72]
 go_simp
 have tl:∀a b:ByteArray,a.toList=b.toList↔a=b:=fun a b=>by have:=gP a b;rw [Bool.eq_iff_iff] at this;simpa using this
 by_cases h1:x1=y1 <;> by_cases h2:x2=y2 <;> by_cases h3:x3=y3 <;> by_cases h4:x4=y4 <;> simp [h1,h2,h3,h4,tl]
end Go.Proofs.YtbkfhjaibhnkmaaGreatDoor
end
section
namespace Go.Proofs.YtbkfhjaibhnkmaaGreatDoor
open Go Go.RowKit
set_option linter.unusedVariables false
set_option maxRecDepth 100000
end Go.Proofs.YtbkfhjaibhnkmaaGreatDoor
end
