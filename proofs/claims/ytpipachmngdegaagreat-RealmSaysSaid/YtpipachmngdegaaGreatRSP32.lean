import Derived.Test.YtpipachmngdegaaGreatRSP12
import Derived.Test.YtpipachmngdegaaGreatRSP28
section
namespace Go.Proofs.YtpipachmngdegaaGreat
set_option linter.unusedVariables false
def dV (c:Change):Bool:=decide (c.Key.size≤20)&&decide (c.Val.size≤40)
def kb (l:List Change)(most:Int):Bool:=decide ((l.length:Int)≤most)&&l.all dV
def dW (a:ef):Bool:=decide (a.S.size≤100)&&kb a.Changes 70
def jD (l:List ef)(most:Int):Bool:=decide ((l.length:Int)≤most)&&l.all dW
theorem ej {α:Type}{p:α→Bool}{l:List α}{k:Nat}{x:α}(hx:l[k]? = some x)(h:p x=false):l.all p=false:=by
  rw [Bool.eq_false_iff];intro h'
  have:=List.all_eq_true.1 h' x (List.mem_of_getElem? hx)
  rw [h] at this;simp at this
theorem jE {α:Type}{p:α→Bool}{l:List α}{k:Nat}(hk:¬ k<l.length)(h:(l.take k).all p=true):l.all p=true:=by
  rwa [List.take_of_length_le (by omega)] at h
theorem pj {α:Type}{p:α→Bool}{l:List α}{k:Nat}{x:α}(hx:l[k]? = some x)(h:(l.take k).all p=true)(hp:p x=true):(l.take (k+1)).all p=true:=by
  rw [List.take_add_one,hx];simp [List.all_append,h,hp]
theorem p8 {l:List ef}{most:Int}(h:jD l most=true):(l.length:Int)≤most:=by
  unfold jD at h;simp only [Bool.and_eq_true,decide_eq_true_eq] at h;exact h.1
end Go.Proofs.YtpipachmngdegaaGreat
end
section
namespace Go.Proofs.YtpipachmngdegaaGreat
set_option linter.unusedVariables false
def newR:ay:=⟨[],[],[],[],1,1⟩
def dC (r:ay)(a:ef):ay×Int :=
  if a.Kind=(⟨#[109,97,107,101]⟩:ByteArray) then aU r a.P a.A
  else if a.Kind=(⟨#[103,105,118,101]⟩:ByteArray) then bD r a.P a.Q a.A a.B
  else if a.Kind=(⟨#[109,111,118,101]⟩:ByteArray) then cj r a.P a.A
  else if a.Kind=(⟨#[100,114,111,112]⟩:ByteArray) then cq r a.P
  else if a.Kind=(⟨#[114,101,118,111,107,101]⟩:ByteArray) then bg r a.P
  else if a.Kind=(⟨#[119,114,105,116,101]⟩:ByteArray) then bF r a.P a.S
  else if a.Kind=(⟨#[115,101,110,100]⟩:ByteArray) then bq r a.P a.S a.A a.B
  else if a.Kind=(⟨#[116,97,107,101]⟩:ByteArray) then ((aE r a.P).1,(aE r a.P).2.2.2)
  else (r,0)
def xM (r:ay)(a:ef):ay:=if (dC r a).2=0 then (dC r a).1 else r
def grow (l:List ef):ay:=l.foldl xM newR
theorem gG {w:ao}{id r b:Int}(h:(derived w id r b).2=0):0≤r∧r≤7∧0≤b∧b≤99∧cT w.Rights r=true∧(derived w id r b).1=⟨id,w.ai,r,if b=0 then w.ar else b,w.ID⟩∧(w.ar=0∨b=0∨b=w.ar):=by
  revert h
  rcases eR r with ⟨h1,h2⟩ | ⟨h1,h2⟩
  · unfold derived;rw [if_pos h1];intro h;simp at h
  ·
    unfold derived;rw [if_neg (by rw [h1];decide)]
    by_cases hb:b<0
    · rw [if_pos hb];intro h;simp at h
    ·
      rw [if_neg hb]
      by_cases hb2:99<b
      · rw [if_pos hb2];intro h;simp at h
      ·
        rw [if_neg hb2]
        cases hr:cT w.Rights r with
        | false=>rw [if_pos rfl];intro h;simp at h
        | true =>
          rw [if_neg (by decide)]
          by_cases hc:b≠0∧w.ar≠0∧b≠w.ar
          · rw [if_pos hc];intro h;simp at h
          · rw [if_neg hc];intro h;exact ⟨h2.1,h2.2,by omega,by omega,rfl,rfl,by omega⟩
theorem mO {w:ao}{id r b:Int}(h:(derived w id r b).2=0):0≤(derived w id r b).1.Rights∧(derived w id r b).1.Rights≤7:=by
  have:=gG h;rw [this.2.2.2.2.2.1];exact ⟨this.1,this.2.1⟩
structure Sz (k:Nat)(r:ay):Prop where
  wl:r.ap.length≤k
  tl:r.Things.length≤k
  hl:r.Held.length≤2*k
  nl:r.Notes.length≤k
  ri:∀w∈r.ap,0≤w.Rights∧w.Rights≤7
  w0:0≤r.ae
  w1:r.ae≤1000
  t0:0≤r.af
  t1:r.af≤1000
theorem Sz.ok {k:Nat}{r:ay}(h:Sz k r)(hk:k≤1000):Ok r:=⟨by have:=h.wl;omega,by have:=h.tl;omega,by have:=h.hl;omega,by have:=h.nl;omega,h.ri,h.w0,by have:=h.w1;omega,h.t0,by have:=h.t1;omega⟩
theorem Sz.up {k m:Nat}{r:ay}(h:Sz k r)(hk:k≤m):Sz m r:=⟨by have:=h.wl;omega,by have:=h.tl;omega,by have:=h.hl;omega,by have:=h.nl;omega,h.ri,h.w0,h.w1,h.t0,h.t1⟩
theorem Sz.new:Sz 0 newR:=⟨Nat.le_refl _,Nat.le_refl _,Nat.le_refl _,Nat.le_refl _,fun w hw=>(by cases hw),by decide,by decide,by decide,by decide⟩
theorem j3 (k:Nat):Sz k r0:=⟨Nat.zero_le _,Nat.zero_le _,Nat.zero_le _,Nat.zero_le _,fun w hw=>(by cases hw),by decide,by decide,by decide,by decide⟩
theorem oo {l:List ao}{x:ao}(h:∀w∈l,0≤w.Rights∧w.Rights≤7)(hx:0≤x.Rights∧x.Rights≤7):∀w∈l++[x],0≤w.Rights∧w.Rights≤7:=fun w hw=>by
  rcases List.mem_append.1 hw with hw|hw
  · exact h w hw
  · rw [List.mem_singleton.1 hw];exact hx
theorem iR {k:Nat}{r:ay}(h:Sz k r):Sz k (dY r) :=
  ⟨h.wl,Nat.le_trans (List.length_filter_le _ _) h.tl,Nat.le_trans (List.length_filter_le _ _) h.hl,by
    have:=iQ r.ap (aQ r.ap) r.Notes
    have:=h.nl
    show (ew r.ap (aQ r.ap) r.Notes).length≤k
    omega,h.ri,h.w0,h.w1,h.t0,h.t1⟩
theorem rV {k:Nat}{r:ay}(h:Sz k r):Sz k (gy r) :=
  ⟨Nat.le_trans (jz _ _) h.wl,(iR h).tl,(iR h).hl,(iR h).nl,om _ _ h.ri,h.w0,h.w1,h.t0,h.t1⟩
theorem kc {k:Nat}:∀ (n:Nat) (r:ay),Sz k r→Sz k (fN n r)
  | 0,r,h=>iR h
  | n+1,r,h=>by
    unfold fN;split
    · exact iR h
    · exact kc n _ (rV h)
theorem Sz.ly {k:Nat}{r:ay}(h:Sz k r){l:List ao}(hl:l.length≤k)(hr:∀w∈l,0≤w.Rights∧w.Rights≤7):Sz k ⟨l,r.Things,r.Held,r.Notes,r.ae,r.af⟩ :=
  ⟨hl,h.tl,h.hl,h.nl,hr,h.w0,h.w1,h.t0,h.t1⟩
theorem ra {k:Nat}{r:ay}(h:Sz k r)(p:Place)(kind:Int):Sz (k+1) (aU r p kind).1:=by
  have:=h.wl;have:=h.tl;have:=h.hl;have:=h.nl;have:=h.w0;have:=h.t0;have hp:=gO r.Held p r.ae
  unfold aU
  (repeat' split) <;> first|exact j3 _|skip
  refine ⟨?_,?_,?_,?_,oo h.ri ⟨(by show (0:Int)≤7;decide),(by show (7:Int)≤7;decide)⟩,?_,?_,?_,?_⟩ <;> dsimp only [aW]
  · simp;omega
  · simp;omega
  ·
    split
    · omega
    · omega
  all_goals omega
theorem ug {k:Nat}{r:ay}(h:Sz k r)(p t:Place)(a b:Int):Sz (k+1) (bD r p t a b).1:=by
  have:=h.wl;have:=h.tl;have:=h.hl;have:=h.nl;have:=h.w0;have:=h.t0;have:=h.t1
  unfold bD
  (repeat' split) <;> first|exact j3 _|skip
  rename_i h1 h2 h3 h4 h5
  have hp:=gO r.Held t (derived (ak r p).1 r.ae a b).1.ID
  have hr:0≤(derived (ak r p).1 r.ae a b).1.Rights∧(derived (ak r p).1 r.ae a b).1.Rights≤7:=mO h5
  refine ⟨?_,?_,?_,?_,oo h.ri hr,?_,?_,?_,?_⟩ <;> dsimp only [aW]
  · simp;omega
  · omega
  · split <;> omega
  all_goals omega
theorem uh {k:Nat}{r:ay}(h:Sz k r)(p:Place)(s:Int):Sz (k+1) (cj r p s).1:=by
  have:=h.wl;have:=h.tl;have:=h.hl;have:=h.nl;have:=h.w0;have:=h.t0;have:=h.t1;have:=h.w1
  have h1:=gO r.Held p 0
  have h2:=gO (bO r.Held p 0) ⟨p.ag,s⟩ (ak r p).1.ID
  unfold cj
  (repeat' split) <;> first|exact j3 _|exact ⟨by dsimp only;omega,by dsimp only;omega,by dsimp only;omega,by dsimp only;omega,h.ri,h.w0,h.w1,h.t0,h.t1⟩
theorem ui {k:Nat}{r:ay}(h:Sz k r)(p:Place):Sz (k+1) (cq r p).1:=by
  unfold cq;split
  · exact (kc _ _ (h.ly (Nat.le_trans (hY _ _) h.wl) (i2 h.ri))).up (Nat.le_succ k)
  · exact j3 _
theorem rW {k:Nat}{r:ay}(h:Sz k r)(p:Place):Sz (k+1) (bg r p).1:=by
  unfold bg;split
  · exact (kc _ _ (h.ly (Nat.le_trans (List.length_filter_le _ _) h.wl) (fun w hw=>h.ri w (List.mem_filter.1 hw).1))).up (Nat.le_succ k)
  · exact j3 _
theorem lA (l:List ai)(i:Nat)(d:ByteArray):(dU l i d).length=l.length:=by
  unfold dU;split <;> simp
theorem tr {k:Nat}{r:ay}(h:Sz k r)(p:Place)(d:ByteArray):Sz (k+1) (bF r p d).1:=by
  have:=h.wl;have:=h.tl;have:=h.hl;have:=h.nl
  unfold bF
  (repeat' split) <;> first|exact j3 _|exact ⟨by dsimp only;omega,by dsimp only;rw [lA];omega,by dsimp only;omega,by dsimp only;omega,h.ri,h.w0,h.w1,h.t0,h.t1⟩
theorem uj {k:Nat}{r:ay}(h:Sz k r)(p:Place)(d:ByteArray)(a b:Int):Sz (k+1) (bq r p d a b).1:=by
  have:=h.wl;have:=h.tl;have:=h.hl;have:=h.nl;have:=h.w0;have:=h.t0;have:=h.t1;have:=h.w1
  unfold bq
  (repeat' split) <;> first|exact j3 _|exact ⟨by dsimp only;omega,by dsimp only;omega,by dsimp only;omega,by simp;omega,h.ri,h.w0,h.w1,h.t0,h.t1⟩ | skip
  rename_i h8
  exact ⟨by simp;omega,by dsimp only;omega,by dsimp only;omega,by simp;omega,oo h.ri (mO h8),by dsimp only;omega,by dsimp only;omega,h.t0,h.t1⟩
theorem tt (l:List Note)(i:Nat):(k4 l i).length≤l.length:=by
  unfold k4;rw [List.length_append,List.length_take,List.length_drop];omega
theorem uk {k:Nat}{r:ay}(h:Sz k r)(p:Place):Sz (k+1) (aE r p).1:=by
  have:=h.wl;have:=h.tl;have:=h.hl;have:=h.nl
  unfold aE
  split
  ·
    split
    ·
      rename_i n _ _
      have h1:=gO r.Held ⟨p.ag,cE r.Held p.ag⟩ n.ao
      have h2:=tt r.Notes (idxOf (fun n=>n.Port==(av r p 2 1).1.ai) r.Notes).toNat
      (repeat' split) <;> first|exact j3 _|exact ⟨by dsimp only;omega,by dsimp only;omega,by dsimp only;omega,by dsimp only;omega,h.ri,h.w0,h.w1,h.t0,h.t1⟩
    · exact j3 _
  · exact j3 _
theorem xO {k:Nat}{r:ay}(h:Sz k r)(a:ef):Sz (k+1) (dC r a).1:=by
  unfold dC
  (repeat' split)
  · exact ra h _ _
  · exact ug h _ _ _ _
  · exact uh h _ _
  · exact ui h _
  · exact rW h _
  · exact tr h _ _
  · exact uj h _ _ _ _
  · exact uk h _
  · exact h.up (Nat.le_succ k)
end Go.Proofs.YtpipachmngdegaaGreat
end
