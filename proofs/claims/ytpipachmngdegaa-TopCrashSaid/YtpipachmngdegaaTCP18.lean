import Derived.Test.YtpipachmngdegaaTCP2
section
namespace Go.Proofs.Ytpipachmngdegaa
open Go.RowKit
set_option linter.unusedVariables false
structure Turn where
  At:Int
  Data:ByteArray
  deriving DecidableEq
abbrev Turn.cs (x:Turn):List Value:=[.int .i64 x.At,.string x.Data]
abbrev Turn.val (x:Turn):Value:= .agg #[.int .i64 x.At,.string x.Data]
instance:Enc Turn:=⟨2,Turn.cs,fun _=>rfl,fun x u hu=>by simp [Turn.cs] at hu;rcases hu with rfl|rfl <;> rfl,by decide⟩
structure bp where
  Kept:List ByteArray
  Now:List ByteArray
  Wait:List Turn
  Fuse:Int
  Down:Bool
  deriving DecidableEq
def kt (n:Nat):ByteArray:=⟨(List.replicate n (0:UInt8)).toArray⟩
theorem lI (n:Nat):(kt n).size=n:=by unfold kt;simp [ByteArray.size]
def full (s:ByteArray):ByteArray:=s++kt (48-s.size)
theorem rL {s:ByteArray}(h:s.size≤48):(full s).size=48:=by unfold full;rw [ByteArray.size_append,lI];omega
def dNew (n:Nat):bp:=⟨List.replicate n (kt 48),List.replicate n (kt 48),[],-1,false⟩
def aH (d:bp):bp×Int :=
  if d.Down=true then (d,10) else if d.Fuse=0 then (⟨d.Kept,d.Now,d.Wait,-1,true⟩,10) else (⟨d.Kept,d.Now,d.Wait,max (d.Fuse-1) (-1),d.Down⟩,0)
def a6 (d:bp)(i:Int):ByteArray×Int :=
  if d.Down=true then (⟨#[]⟩,10) else if i<0∨(d.Now.length:Int)≤i then (⟨#[]⟩,1) else ((d.Now[i.toNat]?).getD ⟨#[]⟩,0)
def ar (d:bp)(i:Int)(s:ByteArray):bp×Int :=
  if i<0∨(d.Now.length:Int)≤i∨48<s.size then (d,1)
  else if (aH d).2=0 then (⟨(aH d).1.Kept,(aH d).1.Now.set i.toNat (full s),(aH d).1.Wait++[⟨i,full s⟩],(aH d).1.Fuse,(aH d).1.Down⟩,0) else aH d
def aj (d:bp):bp×Int :=
  if (aH d).2=0 then (⟨(aH d).1.Now,(aH d).1.Now,[],(aH d).1.Fuse,(aH d).1.Down⟩,0) else aH d
def gG (d:bp)(n:Int):bp:=⟨d.Kept,d.Now,d.Wait,max n (-1),d.Down⟩
def kJ (k:Int)(i:Nat):Bool:=decide (k / ((2 ^ (i % 64):Nat):Int) % 2=1)
def hY (k:Int)(l:List ByteArray)(p:Turn×Nat):List ByteArray:=if kJ k p.2=true then l.set p.1.At.toNat p.1.Data else l
def fA (k:Int)(w:List Turn)(l:List ByteArray):List ByteArray:=w.zipIdx.foldl (hY k) l
def ae (d:bp)(k:Int):bp:=⟨fA k d.Wait d.Kept,fA k d.Wait d.Kept,[],-1,false⟩
structure cz (n m:Nat)(d:bp):Prop where
  kl:d.Kept.length=n
  nl:d.Now.length=n
  ks:∀s∈d.Kept,s.size=48
  ns:∀s∈d.Now,s.size=48
  wl:d.Wait.length≤m
  v7:∀t∈d.Wait,0≤t.At∧t.At<(n:Int)∧t.Data.size=48
  f0 : -1≤d.Fuse
  f1:d.Fuse≤9223372036854775807
section
variable {n m:Nat} {d:bp}
theorem iA (n:Nat):cz n 0 (dNew n):=⟨by simp [dNew],by simp [dNew],fun s hs=>by
  rw [(List.mem_replicate.1 hs).2,lI],fun s hs=>by rw [(List.mem_replicate.1 hs).2,lI],Nat.le_refl _,fun t ht=>(by cases ht),(by show (-1:Int) ≤ -1;decide),(by show (-1:Int)≤9223372036854775807;decide)⟩
theorem cz.up (h:cz n m d){k:Nat}(hk:m≤k):cz n k d:=⟨h.kl,h.nl,h.ks,h.ns,Nat.le_trans h.wl hk,h.v7,h.f0,h.f1⟩
theorem iB (h:d.Down=true):aH d=(⟨d.Kept,d.Now,d.Wait,d.Fuse,true⟩,10):=by unfold aH;rw [if_pos h];cases d;simp_all
theorem gy (h:d.Down=false)(f:d.Fuse=0):aH d=(⟨d.Kept,d.Now,d.Wait,-1,true⟩,10):=by unfold aH;rw [if_neg (by rw [h];decide),if_pos f]
theorem ia (h:d.Down=false)(f:¬ d.Fuse=0):aH d=(⟨d.Kept,d.Now,d.Wait,max (d.Fuse-1) (-1),false⟩,0):=by unfold aH;rw [if_neg (by rw [h];decide),if_neg f,h]
theorem dK {i:Int}(h:d.Down=true):a6 d i=(⟨#[]⟩,10):=by unfold a6;rw [if_pos h]
theorem eI {i:Int}(h:d.Down=false)(hi:i<0∨(d.Now.length:Int)≤i):a6 d i=(⟨#[]⟩,1):=by unfold a6;rw [if_neg (by rw [h];decide),if_pos hi]
theorem dL {i:Int}{x:ByteArray}(h:d.Down=false)(hi:0≤i)(hx:d.Now[i.toNat]? = some x):a6 d i=(x,0):=by
  have:=(List.getElem?_eq_some_iff.1 hx).1
  unfold a6;rw [if_neg (by rw [h];decide),if_neg (by omega),hx];rfl
theorem cE {i:Int}{x:ByteArray}(hi:i<0∨(d.Now.length:Int)≤i∨48<x.size):ar d i x=(d,1):=by unfold ar;rw [if_pos hi]
theorem cT {i:Int}{x:ByteArray}(h0:0≤i)(h1:i<(d.Now.length:Int))(h2:x.size≤48)(h:¬ (aH d).2=0):ar d i x=aH d:=by unfold ar;rw [if_neg (by omega),if_neg h]
theorem bG {i:Int}{x:ByteArray}(h0:0≤i)(h1:i<(d.Now.length:Int))(h2:x.size≤48)(h:(aH d).2=0) :
    ar d i x=(⟨(aH d).1.Kept,(aH d).1.Now.set i.toNat (full x),(aH d).1.Wait++[⟨i,full x⟩],(aH d).1.Fuse,(aH d).1.Down⟩,0):=by unfold ar;rw [if_neg (by omega),if_pos h]
theorem gM (d:bp):(aH d).1.Kept=d.Kept∧(aH d).1.Now=d.Now∧(aH d).1.Wait=d.Wait:=by
  unfold aH;(repeat' split) <;> exact ⟨rfl,rfl,rfl⟩
theorem cz.step (h:cz n m d):cz n m (aH d).1:=by
  obtain ⟨e1,e2,e3⟩:=gM d
  have f0:=h.f0;have f1:=h.f1
  refine ⟨by rw [e1];exact h.kl,by rw [e2];exact h.nl,by rw [e1];exact h.ks,by rw [e2];exact h.ns,by rw [e3];exact h.wl,by rw [e3];exact h.v7,?_,?_⟩ <;>
    (unfold aH;(repeat' split) <;> (try dsimp only) <;> omega)
theorem qJ {l:List ByteArray}(h:∀s∈l,s.size=48){i:Nat}{x:ByteArray}(hx:x.size=48):∀s∈l.set i x,s.size=48:=fun s hs=>by
  rcases List.mem_or_eq_of_mem_set hs with h1|h1
  · exact h s h1
  · rw [h1];exact hx
theorem cz.write (h:cz n m d)(i:Int)(s:ByteArray):cz n (m+1) (ar d i s).1:=by
  unfold ar
  split
  · exact h.up (Nat.le_succ m)
  ·
    rename_i hb
    split
    ·
      have hs:=h.step
      have hf:=rL (s:=s) (by omega)
      have e:=(gM d).2.1
      have nl:=h.nl
      refine ⟨hs.kl,by dsimp only;rw [List.length_set];exact hs.nl,hs.ks,qJ hs.ns hf,by dsimp only;rw [List.length_append,List.length_singleton];have:=hs.wl;omega,fun t ht=>?_,hs.f0,hs.f1⟩
      rcases List.mem_append.1 ht with ht|ht
      · exact hs.v7 t ht
      · rw [List.mem_singleton.1 ht];exact ⟨by dsimp only;omega,by dsimp only;omega,hf⟩
    · exact h.step.up (Nat.le_succ m)
theorem cz.flush (h:cz n m d):cz n m (aj d).1:=by
  unfold aj
  have hs:=h.step
  split
  · exact ⟨hs.nl,hs.nl,hs.ns,hs.ns,Nat.zero_le _,fun t ht=>(by cases ht),hs.f0,hs.f1⟩
  · exact hs
theorem cz.arm (h:cz n m d){k:Int}(hk:k≤9223372036854775807):cz n m (gG d k):=⟨h.kl,h.nl,h.ks,h.ns,h.wl,h.v7,by unfold gG;dsimp only;omega,by unfold gG;dsimp only;omega⟩
theorem sS (k:Int):∀ (w:List Turn) (j:Nat) (l:List ByteArray),(∀s∈l,s.size=48)→(∀t∈w,t.Data.size=48)→(((w.zipIdx j).foldl (hY k) l).length=l.length ∧ ∀s∈(w.zipIdx j).foldl (hY k) l,s.size=48)
  | [],j,l,h,hw=>⟨rfl,h⟩
  | t::w,j,l,h,hw=>by
    rw [List.zipIdx_cons,List.foldl_cons]
    have h1:(hY k l (t,j)).length=l.length:=by unfold hY;split <;> simp
    have h2:∀s∈hY k l (t,j),s.size=48:=by
      unfold hY;split
      · exact qJ h (hw t (List.mem_cons_self ..))
      · exact h
    obtain ⟨a,b⟩:=sS k w (j+1) _ h2 (fun t ht=>hw t (List.mem_cons_of_mem _ ht))
    exact ⟨a.trans h1,b⟩
theorem m6 {k:Int}{w:List Turn}{l:List ByteArray}{i:Nat}{t:Turn}(h:w[i]? = some t):fA k (w.take (i+1)) l=hY k (fA k (w.take i) l) (t,i):=by
  unfold fA
  have hi:=(List.getElem?_eq_some_iff.1 h).1
  rw [List.take_add_one,h]
  simp only [Option.toList_some,List.zipIdx_append,List.foldl_append,List.length_take,Nat.min_eq_left (Nat.le_of_lt hi),Nat.zero_add]
  rfl
theorem lJ {k:Int}{w:List Turn}{l:List ByteArray}:(fA k w l).length=l.length:=by
  unfold fA
  generalize w.zipIdx=z
  induction z generalizing l with
  | nil=>rfl
  | cons p z ih=>rw [List.foldl_cons,ih];unfold hY;split <;> simp
theorem cz.restart (h:cz n m d)(k:Int):cz n 0 (ae d k):=by
  obtain ⟨a,b⟩:=sS k d.Wait 0 d.Kept h.ks (fun t ht=>(h.v7 t ht).2.2)
  exact ⟨a.trans h.kl,a.trans h.kl,b,b,Nat.le_refl _,fun t ht=>(by cases ht),(by show (-1:Int) ≤ -1;decide),(by show (-1:Int)≤9223372036854775807;decide)⟩
theorem cz.fine (h:cz n m d)(hn:n≤100000)(hm:m≤100000):d.Kept.length=d.Now.length∧d.Now.length≤100000∧d.Wait.length≤100000 ∧ -1≤d.Fuse∧d.Fuse≤9223372036854775807:=by
  have h1:=h.kl;have h2:=h.nl;have h3:=h.wl;have h4:=h.f0;have h5:=h.f1
  refine ⟨?_,?_,?_,?_,?_⟩ <;> omega
theorem cz.rest (h:cz n m d)(hm:m≤100000):d.Kept.length=d.Now.length∧d.Wait.length≤100000∧(∀t∈d.Wait,0≤t.At∧t.At<(d.Kept.length:Int)):=by
  have h1:=h.kl;have h2:=h.nl;have h3:=h.wl
  refine ⟨by omega,by omega,fun t ht=>?_⟩
  have h4:=h.v7 t ht
  rw [h1];exact ⟨h4.1,h4.2.1⟩
theorem fc (hd:d.Down=false)(hf:d.Fuse = -1):aH d=(⟨d.Kept,d.Now,d.Wait,-1,false⟩,0):=by rw [ia hd (by omega),hf];rfl
theorem oK {i:Int}{x:ByteArray}(hd:d.Down=false)(hf:d.Fuse = -1)(h:¬ (ar d i x).2=0):(ar d i x).1=d:=by
  by_cases hb:i<0∨(d.Now.length:Int)≤i∨48<x.size
  · rw [cE hb]
  · exfalso;apply h;rw [bG (by omega) (by omega) (by omega) (by rw [fc hd hf])]
theorem pJ {i:Int}{x:ByteArray}(hd:d.Down=false)(hf:d.Fuse = -1)(h:(ar d i x).2=0):ar d i x=(⟨d.Kept,d.Now.set i.toNat (full x),d.Wait++[⟨i,full x⟩],-1,false⟩,0)∧0≤i∧i<(d.Now.length:Int)∧x.size≤48:=by
  by_cases hb:i<0∨(d.Now.length:Int)≤i∨48<x.size
  · rw [cE hb] at h;simp at h
  ·
    refine ⟨?_,by omega,by omega,by omega⟩
    rw [bG (by omega) (by omega) (by omega) (by rw [fc hd hf]),fc hd hf]
theorem oL {i:Int}{x:ByteArray}(hd:d.Down=false)(hf:d.Fuse = -1):(ar d i x).1.Down=false∧(ar d i x).1.Fuse = -1:=by
  by_cases h:(ar d i x).2=0
  · rw [(pJ hd hf h).1];exact ⟨rfl,rfl⟩
  · rw [oK hd hf h];exact ⟨hd,hf⟩
theorem fB (hd:d.Down=false)(hf:d.Fuse = -1):aj d=(⟨d.Now,d.Now,[],-1,false⟩,0):=by
  unfold aj;rw [fc hd hf,if_pos rfl]
theorem lK {i:Nat}{x:ByteArray}(hd:d.Down=false)(hx:d.Now[i]? = some x):a6 d (i:Int)=(x,0):=dL hd (by omega) (by rw [Int.toNat_natCast];exact hx)
end
end Go.Proofs.Ytpipachmngdegaa
end
