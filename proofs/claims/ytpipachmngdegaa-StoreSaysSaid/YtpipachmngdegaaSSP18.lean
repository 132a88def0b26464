import Derived.Test.YtpipachmngdegaaSSP2
section
namespace Go.Proofs.Ytpipachmngdegaa
open Go.RowKit
set_option linter.unusedVariables false
structure Turn where
  At:Int
  Data:ByteArray
  deriving DecidableEq
abbrev Turn.cs (x:Turn):List Value:=[.int .i64 x.At,.string x.Data]
abbrev Turn.val (x:Turn):Value:= .agg #[.int .i64 x.At,.string x.Data]
instance:Enc Turn:=⟨2,Turn.cs,fun _=>rfl,fun x u hu=>by simp [Turn.cs] at hu;rcases hu with rfl|rfl <;> rfl,by decide⟩
structure bA where
  Kept:List ByteArray
  Now:List ByteArray
  Wait:List Turn
  Fuse:Int
  Down:Bool
  deriving DecidableEq
def jK (n:Nat):ByteArray:=⟨(List.replicate n (0:UInt8)).toArray⟩
theorem lW (n:Nat):(jK n).size=n:=by unfold jK;simp [ByteArray.size]
def full (s:ByteArray):ByteArray:=s++jK (48-s.size)
theorem rR {s:ByteArray}(h:s.size≤48):(full s).size=48:=by unfold full;rw [ByteArray.size_append,lW];omega
def dNew (n:Nat):bA:=⟨List.replicate n (jK 48),List.replicate n (jK 48),[],-1,false⟩
def aI (d:bA):bA×Int :=
  if d.Down=true then (d,10) else if d.Fuse=0 then (⟨d.Kept,d.Now,d.Wait,-1,true⟩,10) else (⟨d.Kept,d.Now,d.Wait,max (d.Fuse-1) (-1),d.Down⟩,0)
def aO (d:bA)(i:Int):ByteArray×Int :=
  if d.Down=true then (⟨#[]⟩,10) else if i<0∨(d.Now.length:Int)≤i then (⟨#[]⟩,1) else ((d.Now[i.toNat]?).getD ⟨#[]⟩,0)
def aj (d:bA)(i:Int)(s:ByteArray):bA×Int :=
  if i<0∨(d.Now.length:Int)≤i∨48<s.size then (d,1)
  else if (aI d).2=0 then (⟨(aI d).1.Kept,(aI d).1.Now.set i.toNat (full s),(aI d).1.Wait++[⟨i,full s⟩],(aI d).1.Fuse,(aI d).1.Down⟩,0) else aI d
def ag (d:bA):bA×Int :=
  if (aI d).2=0 then (⟨(aI d).1.Now,(aI d).1.Now,[],(aI d).1.Fuse,(aI d).1.Down⟩,0) else aI d
def vR (k:Int)(i:Nat):Bool:=decide (k / ((2 ^ (i % 64):Nat):Int) % 2=1)
def iG (k:Int)(l:List ByteArray)(p:Turn×Nat):List ByteArray:=if vR k p.2=true then l.set p.1.At.toNat p.1.Data else l
def iu (k:Int)(w:List Turn)(l:List ByteArray):List ByteArray:=w.zipIdx.foldl (iG k) l
def eD (d:bA)(k:Int):bA:=⟨iu k d.Wait d.Kept,iu k d.Wait d.Kept,[],-1,false⟩
structure cI (n m:Nat)(d:bA):Prop where
  kl:d.Kept.length=n
  nl:d.Now.length=n
  ks:∀s∈d.Kept,s.size=48
  ns:∀s∈d.Now,s.size=48
  wl:d.Wait.length≤m
  xc:∀t∈d.Wait,0≤t.At∧t.At<(n:Int)∧t.Data.size=48
  f0 : -1≤d.Fuse
  f1:d.Fuse≤9223372036854775807
section
variable {n m:Nat} {d:bA}
theorem fN (n:Nat):cI n 0 (dNew n):=⟨by simp [dNew],by simp [dNew],fun s hs=>by
  rw [(List.mem_replicate.1 hs).2,lW],fun s hs=>by rw [(List.mem_replicate.1 hs).2,lW],Nat.le_refl _,fun t ht=>(by cases ht),(by show (-1:Int) ≤ -1;decide),(by show (-1:Int)≤9223372036854775807;decide)⟩
theorem cI.up (h:cI n m d){k:Nat}(hk:m≤k):cI n k d:=⟨h.kl,h.nl,h.ks,h.ns,Nat.le_trans h.wl hk,h.xc,h.f0,h.f1⟩
theorem iH (h:d.Down=true):aI d=(⟨d.Kept,d.Now,d.Wait,d.Fuse,true⟩,10):=by unfold aI;rw [if_pos h];cases d;simp_all
theorem gI (h:d.Down=false)(f:d.Fuse=0):aI d=(⟨d.Kept,d.Now,d.Wait,-1,true⟩,10):=by unfold aI;rw [if_neg (by rw [h];decide),if_pos f]
theorem iw (h:d.Down=false)(f:¬ d.Fuse=0):aI d=(⟨d.Kept,d.Now,d.Wait,max (d.Fuse-1) (-1),false⟩,0):=by unfold aI;rw [if_neg (by rw [h];decide),if_neg f,h]
theorem d8 {i:Int}(h:d.Down=true):aO d i=(⟨#[]⟩,10):=by unfold aO;rw [if_pos h]
theorem eU {i:Int}(h:d.Down=false)(hi:i<0∨(d.Now.length:Int)≤i):aO d i=(⟨#[]⟩,1):=by unfold aO;rw [if_neg (by rw [h];decide),if_pos hi]
theorem d9 {i:Int}{x:ByteArray}(h:d.Down=false)(hi:0≤i)(hx:d.Now[i.toNat]? = some x):aO d i=(x,0):=by
  have:=(List.getElem?_eq_some_iff.1 hx).1
  unfold aO;rw [if_neg (by rw [h];decide),if_neg (by omega),hx];rfl
theorem cG {i:Int}{x:ByteArray}(hi:i<0∨(d.Now.length:Int)≤i∨48<x.size):aj d i x=(d,1):=by unfold aj;rw [if_pos hi]
theorem cU {i:Int}{x:ByteArray}(h0:0≤i)(h1:i<(d.Now.length:Int))(h2:x.size≤48)(h:¬ (aI d).2=0):aj d i x=aI d:=by unfold aj;rw [if_neg (by omega),if_neg h]
theorem bE {i:Int}{x:ByteArray}(h0:0≤i)(h1:i<(d.Now.length:Int))(h2:x.size≤48)(h:(aI d).2=0) :
    aj d i x=(⟨(aI d).1.Kept,(aI d).1.Now.set i.toNat (full x),(aI d).1.Wait++[⟨i,full x⟩],(aI d).1.Fuse,(aI d).1.Down⟩,0):=by unfold aj;rw [if_neg (by omega),if_pos h]
theorem gW (d:bA):(aI d).1.Kept=d.Kept∧(aI d).1.Now=d.Now∧(aI d).1.Wait=d.Wait:=by
  unfold aI;(repeat' split) <;> exact ⟨rfl,rfl,rfl⟩
theorem cI.step (h:cI n m d):cI n m (aI d).1:=by
  obtain ⟨e1,e2,e3⟩:=gW d
  have f0:=h.f0;have f1:=h.f1
  refine ⟨by rw [e1];exact h.kl,by rw [e2];exact h.nl,by rw [e1];exact h.ks,by rw [e2];exact h.ns,by rw [e3];exact h.wl,by rw [e3];exact h.xc,?_,?_⟩ <;>
    (unfold aI;(repeat' split) <;> (try dsimp only) <;> omega)
theorem qQ {l:List ByteArray}(h:∀s∈l,s.size=48){i:Nat}{x:ByteArray}(hx:x.size=48):∀s∈l.set i x,s.size=48:=fun s hs=>by
  rcases List.mem_or_eq_of_mem_set hs with h1|h1
  · exact h s h1
  · rw [h1];exact hx
theorem cI.write (h:cI n m d)(i:Int)(s:ByteArray):cI n (m+1) (aj d i s).1:=by
  unfold aj
  split
  · exact h.up (Nat.le_succ m)
  ·
    rename_i hb
    split
    ·
      have hs:=h.step
      have hf:=rR (s:=s) (by omega)
      have e:=(gW d).2.1
      have nl:=h.nl
      refine ⟨hs.kl,by dsimp only;rw [List.length_set];exact hs.nl,hs.ks,qQ hs.ns hf,by dsimp only;rw [List.length_append,List.length_singleton];have:=hs.wl;omega,fun t ht=>?_,hs.f0,hs.f1⟩
      rcases List.mem_append.1 ht with ht|ht
      · exact hs.xc t ht
      · rw [List.mem_singleton.1 ht];exact ⟨by dsimp only;omega,by dsimp only;omega,hf⟩
    · exact h.step.up (Nat.le_succ m)
theorem cI.flush (h:cI n m d):cI n m (ag d).1:=by
  unfold ag
  have hs:=h.step
  split
  · exact ⟨hs.nl,hs.nl,hs.ns,hs.ns,Nat.zero_le _,fun t ht=>(by cases ht),hs.f0,hs.f1⟩
  · exact hs
theorem tf (k:Int):∀ (w:List Turn) (j:Nat) (l:List ByteArray),(∀s∈l,s.size=48)→(∀t∈w,t.Data.size=48)→(((w.zipIdx j).foldl (iG k) l).length=l.length ∧ ∀s∈(w.zipIdx j).foldl (iG k) l,s.size=48)
  | [],j,l,h,hw=>⟨rfl,h⟩
  | t::w,j,l,h,hw=>by
    rw [List.zipIdx_cons,List.foldl_cons]
    have h1:(iG k l (t,j)).length=l.length:=by unfold iG;split <;> simp
    have h2:∀s∈iG k l (t,j),s.size=48:=by
      unfold iG;split
      · exact qQ h (hw t (List.mem_cons_self ..))
      · exact h
    obtain ⟨a,b⟩:=tf k w (j+1) _ h2 (fun t ht=>hw t (List.mem_cons_of_mem _ ht))
    exact ⟨a.trans h1,b⟩
theorem oQ {k:Int}{w:List Turn}{l:List ByteArray}:(iu k w l).length=l.length:=by
  unfold iu
  generalize w.zipIdx=z
  induction z generalizing l with
  | nil=>rfl
  | cons p z ih=>rw [List.foldl_cons,ih];unfold iG;split <;> simp
theorem cI.restart (h:cI n m d)(k:Int):cI n 0 (eD d k):=by
  obtain ⟨a,b⟩:=tf k d.Wait 0 d.Kept h.ks (fun t ht=>(h.xc t ht).2.2)
  exact ⟨a.trans h.kl,a.trans h.kl,b,b,Nat.le_refl _,fun t ht=>(by cases ht),(by show (-1:Int) ≤ -1;decide),(by show (-1:Int)≤9223372036854775807;decide)⟩
theorem cI.fine (h:cI n m d)(hn:n≤100000)(hm:m≤100000):d.Kept.length=d.Now.length∧d.Now.length≤100000∧d.Wait.length≤100000 ∧ -1≤d.Fuse∧d.Fuse≤9223372036854775807:=by
  have h1:=h.kl;have h2:=h.nl;have h3:=h.wl;have h4:=h.f0;have h5:=h.f1
  refine ⟨?_,?_,?_,?_,?_⟩ <;> omega
theorem cI.rest (h:cI n m d)(hm:m≤100000):d.Kept.length=d.Now.length∧d.Wait.length≤100000∧(∀t∈d.Wait,0≤t.At∧t.At<(d.Kept.length:Int)):=by
  have h1:=h.kl;have h2:=h.nl;have h3:=h.wl
  refine ⟨by omega,by omega,fun t ht=>?_⟩
  have h4:=h.xc t ht
  rw [h1];exact ⟨h4.1,h4.2.1⟩
theorem fC (hd:d.Down=false)(hf:d.Fuse = -1):aI d=(⟨d.Kept,d.Now,d.Wait,-1,false⟩,0):=by rw [iw hd (by omega),hf];rfl
theorem oS {i:Int}{x:ByteArray}(hd:d.Down=false)(hf:d.Fuse = -1)(h:¬ (aj d i x).2=0):(aj d i x).1=d:=by
  by_cases hb:i<0∨(d.Now.length:Int)≤i∨48<x.size
  · rw [cG hb]
  · exfalso;apply h;rw [bE (by omega) (by omega) (by omega) (by rw [fC hd hf])]
theorem pU {i:Int}{x:ByteArray}(hd:d.Down=false)(hf:d.Fuse = -1)(h:(aj d i x).2=0):aj d i x=(⟨d.Kept,d.Now.set i.toNat (full x),d.Wait++[⟨i,full x⟩],-1,false⟩,0)∧0≤i∧i<(d.Now.length:Int)∧x.size≤48:=by
  by_cases hb:i<0∨(d.Now.length:Int)≤i∨48<x.size
  · rw [cG hb] at h;simp at h
  ·
    refine ⟨?_,by omega,by omega,by omega⟩
    rw [bE (by omega) (by omega) (by omega) (by rw [fC hd hf]),fC hd hf]
theorem oT {i:Int}{x:ByteArray}(hd:d.Down=false)(hf:d.Fuse = -1):(aj d i x).1.Down=false∧(aj d i x).1.Fuse = -1:=by
  by_cases h:(aj d i x).2=0
  · rw [(pU hd hf h).1];exact ⟨rfl,rfl⟩
  · rw [oS hd hf h];exact ⟨hd,hf⟩
theorem fQ (hd:d.Down=false)(hf:d.Fuse = -1):ag d=(⟨d.Now,d.Now,[],-1,false⟩,0):=by
  unfold ag;rw [fC hd hf,if_pos rfl]
theorem iI {i:Nat}{x:ByteArray}(hd:d.Down=false)(hx:d.Now[i]? = some x):aO d (i:Int)=(x,0):=d9 hd (by omega) (by rw [Int.toNat_natCast];exact hx)
end
end Go.Proofs.Ytpipachmngdegaa
end
