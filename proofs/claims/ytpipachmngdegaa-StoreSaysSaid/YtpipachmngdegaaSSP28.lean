import Derived.Test.YtpipachmngdegaaSSP22
import Derived.Test.YtpipachmngdegaaSSP26
import Derived.Test.YtpipachmngdegaaSSP12
section
namespace Go.Proofs.Ytpipachmngdegaa
open Go
set_option linter.unusedVariables false
section
variable {l:List Change} {k:Nat} {x y:Change}
end
end Go.Proofs.Ytpipachmngdegaa
end
section
namespace Go.Proofs.Ytpipachmngdegaa
open Go Go.RowKit
set_option linter.unusedVariables false
structure br where
  Epoch:Int
  Side:Int
  Size:Int
  First:Int
  deriving DecidableEq
structure jo where
  Epoch:Int
  Side:Int
  Size:Int
  First:Int
  L:Lg
  Rows:List Change
def aA (h:br):ByteArray:=⟨#[72]⟩++aN h.Epoch++aN h.Side++aN h.Size++aN h.First
def bR (s:ByteArray):Nat:=aW s 0+aW s 1*256+aW s 2*65536+aW s 3*16777216
theorem tL (s:ByteArray):bR s<4294967296:=by
  have h0:=jB s 0;have h1:=jB s 1;have h2:=jB s 2;have h3:=jB s 3
  unfold bR;omega
def rq (s:ByteArray):br:=⟨(bR (s.extract 1 5):Int),(bR (s.extract 5 9):Int),(bR (s.extract 9 13):Int),(bR (s.extract 13 17):Int)⟩
def bD (s:ByteArray):Prop:= ¬ aW s 0=72∨1<bR (s.extract 5 9)∨2400<bR (s.extract 9 13)∨bR (s.extract 13 17)<1
instance (s:ByteArray):Decidable (bD s):=by unfold bD;infer_instance
def aT (s:ByteArray):br:=if bD s then ⟨0,0,0,0⟩ else rq s
theorem bB {s:ByteArray}(h:bD s):aT s=⟨0,0,0,0⟩:=if_pos h
theorem bJ {s:ByteArray}(h:¬ bD s):aT s=rq s:=if_neg h
theorem kv (s:ByteArray):0≤(aT s).Epoch∧(aT s).Epoch<4294967296∧0≤(aT s).Side∧(aT s).Side≤1∧0≤(aT s).Size∧(aT s).Size≤2400∧0≤(aT s).First∧(aT s).First<4294967296∧(¬ (aT s).Epoch=0→1≤(aT s).First):=by
  by_cases h:bD s
  · rw [bB h];exact ⟨by decide,by decide,by decide,by decide,by decide,by decide,by decide,by decide,fun h=>absurd rfl h⟩
  ·
    rw [bJ h]
    unfold bD at h
    have h1:=tL (s.extract 1 5);have h4:=tL (s.extract 13 17)
    unfold rq;dsimp only
    refine ⟨?_,?_,?_,?_,?_,?_,?_,?_,fun _=>?_⟩ <;> omega
def jO (s:bA×Int)(f:bA→bA×Int):bA×Int:=if s.2=0 then f s.1 else s
theorem cX {s:bA×Int}{f:bA→bA×Int}(h:s.2=0):jO s f=f s.1:=if_pos h
theorem dM {s:bA×Int}{f:bA→bA×Int}(h:¬ s.2=0):jO s f=s:=if_neg h
def fc:Nat→Nat→bA×Int→bA×Int
  | 0,_,s=>s
  | k+1,i,s=>if s.2=0 then fc k (i+1) (aj s.1 (i:Int) ⟨#[]⟩) else s
def mg (d:bA):bA×Int:=fc (d.Now.length-102) 102 (aj d 0 ⟨#[]⟩)
def tM (d:bA):bA×Int:=jO (mg d) ag
def tN (d:bA):bA×Int:=jO (tM d) fun e=>aj e 1 (aA ⟨1,0,0,1⟩)
def tO (d:bA):bA×Int:=jO (tN d) ag
def ar (d:bA):bA×Int:=if d.Now.length<166 then (d,9) else tO d
def dW (c:Change):ByteArray:=⟨#[UInt8.ofNat c.Key.size,UInt8.ofNat c.Val.size,UInt8.ofNat (c.Val.size / 256)]⟩++c.Key++c.Val
def az (l:List Change):ByteArray:=l.foldl (fun b c=>b++dW c) ⟨#[]⟩
theorem rZ {l:List Change}{k:Nat}{c:Change}(h:l[k]? = some c):az (l.take (k+1))=az (l.take k)++dW c:=by
  unfold az;rw [List.take_add_one,h];simp
theorem jD (c:Change):(dW c).size=3+c.Key.size+c.Val.size:=by
  unfold dW;simp only [ByteArray.size_append];rfl
theorem nE {b:ByteArray}{m:Nat}:∀ (l:List Change) (b:ByteArray),(∀c∈l,dH c=0)→(l.foldl (fun b c=>b++dW c) b).size≤b.size+35*l.length
  | [],b,h=>by simp
  | c::l,b,h=>by
    rw [List.foldl_cons,List.length_cons]
    have h1:=nE (b:=b) (m:=m) l (b++dW c) (fun x hx=>h x (List.mem_cons_of_mem _ hx))
    obtain ⟨_,_,h3,h4⟩:=dB (h c (List.mem_cons_self ..))
    rw [ByteArray.size_append,jD] at h1
    omega
theorem lA {l:List Change}(h:∀c∈l,dH c=0):(az l).size≤35*l.length:=by
  have:=nE (b:=⟨#[]⟩) (m:=0) l ⟨#[]⟩ h
  rw [show (⟨#[]⟩:ByteArray).size=0 from rfl,Nat.zero_add] at this
  exact this
def jq (t:ByteArray):Nat:=3+aW t 0+aW t 1+256*aW t 2
def mh (t:ByteArray):Change:=⟨t.extract 3 (3+aW t 0),t.extract (3+aW t 0) (jq t),false⟩
def iZ:Nat→ByteArray→List Change→List Change×Bool
  | 0,_,l=>(l,true)
  | k+1,t,l =>
    if t=⟨#[]⟩ then (l,true)
    else if t.size<3∨t.size<jq t then ([],false)
    else if dH (mh t)=0 then iZ k (t.extract (jq t) t.size) (a8 l [mh t]) else ([],false)
def ct (t:ByteArray):List Change×Bool:=iZ (t.size+1) t []
section
variable {t:ByteArray} {l:List Change} {Z:List Change×Bool} {k:Nat}
theorem lB (h:iZ k t l=Z)(hk:t.size<k)(ht:t=⟨#[]⟩):Z=(l,true):=by
  cases k with
  | zero=>omega
  | succ k=>rw [iZ,if_pos ht] at h;exact h.symm
theorem hG (h:iZ k t l=Z)(hk:t.size<k)(ht:¬ t=⟨#[]⟩)(hb:t.size<3∨t.size<jq t):Z=([],false):=by
  cases k with
  | zero=>omega
  | succ k=>rw [iZ,if_neg ht,if_pos hb] at h;exact h.symm
theorem jE (h:iZ k t l=Z)(hk:t.size<k)(ht:¬ t=⟨#[]⟩)(hb:¬ (t.size<3∨t.size<jq t))(hf:¬ dH (mh t)=0):Z=([],false):=by
  cases k with
  | zero=>omega
  | succ k=>rw [iZ,if_neg ht,if_neg hb,if_neg hf] at h;exact h.symm
theorem wJ (h:iZ k t l=Z)(hk:t.size<k)(ht:¬ t=⟨#[]⟩)(hb:¬ (t.size<3∨t.size<jq t))(hf:dH (mh t)=0) :
    iZ (k-1) (t.extract (jq t) t.size) (a8 l [mh t])=Z∧(t.extract (jq t) t.size).size<k-1:=by
  cases k with
  | zero=>omega
  | succ k =>
    rw [iZ,if_neg ht,if_neg hb,if_pos hf] at h
    refine ⟨h,?_⟩
    rw [ByteArray.size_extract];unfold jq at *;omega
end
def fX (a b:br):br:=if a.Epoch<b.Epoch then b else a
def headD (d:bA):br:=fX (fX ⟨0,0,0,0⟩ (aT (aO d 0).1)) (aT (aO d 1).1)
def lu (d:bA)(f:Int):Nat→ByteArray
  | 0=>⟨#[]⟩
  | k+1=>lu d f k++(aO d (f+(k:Int))).1
def jP (d:bA):ByteArray:=(lu d (2+(headD d).Side*50) 50).extract 0 (headD d).Size.toNat
def jQ (d:bA):Int:=if d.Now.length<166 then 4 else if (headD d).Epoch=0 then 4 else if (ct (jP d)).2=true then 0 else 4
def fe (rows:List Change)(W:List (List Change)):List Change:=W.foldl a8 rows
theorem po {rows:List Change}{W:List (List Change)}{k:Nat}{c:List Change}(h:W[k]? = some c):fe rows (W.take (k+1))=a8 (fe rows (W.take k)) c:=by
  unfold fe;rw [List.take_add_one,h];simp
def ao (d:bA):jo :=
  ⟨(headD d).Epoch,(headD d).Side,(headD d).Size,(headD d).First,⟨102,(d.Now.length:Int)-102,(headD d).First,(cj d 102 ((d.Now.length:Int)-102).toNat (headD d).First:Int)⟩,
    fe (ct (jP d)).1 (dL d 102 ((d.Now.length:Int)-102).toNat (headD d).First)⟩
def dR (f:Int)(t:ByteArray):Nat→Nat→bA→bA×Int
  | 0,_,d=>(d,0)
  | k+1,i,d =>
    if i*48<t.size then
      (if (aj d (f+(i:Int)) (t.extract (i*48) (i*48+min 48 (t.size-i*48)))).2=0 then dR f t k (i+1) (aj d (f+(i:Int)) (t.extract (i*48) (i*48+min 48 (t.size-i*48)))).1
       else aj d (f+(i:Int)) (t.extract (i*48) (i*48+min 48 (t.size-i*48))))
    else (d,0)
def kW (st:jo):br:=⟨st.Epoch+1,1-st.Side,((az st.Rows).size:Int),st.L.First+st.L.Many⟩
def ck1 (st:jo)(d:bA):bA×Int:=dR (2+(1-st.Side)*50) (az st.Rows) ((az st.Rows).size+1) 0 d
def ck2 (st:jo)(d:bA):bA×Int:=jO (ck1 st d) ag
def wK (st:jo)(d:bA):bA×Int:=jO (ck2 st d) fun e=>aj e ((st.Epoch+1) % 2) (aA (kW st))
def p9 (st:jo)(d:bA):bA×Int:=jO (wK st d) ag
def yr (st:jo)(d:bA):jo :=
  ⟨st.Epoch+1,1-st.Side,((az st.Rows).size:Int),st.L.First+st.L.Many,⟨102,(d.Now.length:Int)-102,st.L.First+st.L.Many,(cj d 102 ((d.Now.length:Int)-102).toNat (st.L.First+st.L.Many):Int)⟩,st.Rows⟩
def aQ (st:jo)(d:bA):jo×bA×Int:=if (p9 st d).2=0 then (yr st (p9 st d).1,(p9 st d).1,0) else (st,p9 st d)
def gl (st:jo)(n:Nat)(l:List Change):Int :=
  if 62<l.length then 2 else if ¬ dF l=0 then dF l else if 60<(a8 st.Rows l).length∨(n:Int)-102<(l.length:Int)+1 then 9 else 0
def oC (st:jo)(d:bA)(l:List Change):jo×bA×Int:=if st.L.Many-st.L.Next<(l.length:Int)+1 then aQ st d else (st,d,0)
def kx (st:jo)(lg:Lg)(rows:List Change):jo:=⟨st.Epoch,st.Side,st.Size,st.First,lg,rows⟩
def tP (st st0:jo)(d:bA)(l:List Change):jo×bA×Int :=
  if (aR st.L d l).2.2=0 then (kx st (aR st.L d l).1 (a8 st0.Rows l),(aR st.L d l).2.1,0) else (kx st (aR st.L d l).1 st.Rows,(aR st.L d l).2.1,(aR st.L d l).2.2)
def aD (st:jo)(d:bA)(l:List Change):jo×bA×Int :=
  if ¬ gl st d.Now.length l=0 then (st,d,gl st d.Now.length l)
  else if ¬ (oC st d l).2.2=0 then oC st d l
  else tP (oC st d l).1 st (oC st d l).2.1 l
end Go.Proofs.Ytpipachmngdegaa
end
section
namespace Go.Proofs.Ytpipachmngdegaa
open Go Go.RowKit
theorem wL {a b:Nat}(D:Nat)(hD:2 ^ (min b IntKind.i64.bits)=D)(h:a*D<9223372036854775808):IntKind.i64.wrap (((a:Nat):Int)*2 ^ (min b IntKind.i64.bits))=((a*D:Nat):Int):=by
  have e:((2:Int) ^ (min b IntKind.i64.bits))=(D:Int):=by rw [← hD];simp
  rw [e,← Int.natCast_mul]
  exact wr (by omega)
theorem wM {a b:Nat}(k:Nat)(ha:a<2 ^ k):a ||| (b*2 ^ k)=a+b*2 ^ k:=by
  have h:=Nat.shiftLeft_add_eq_or_of_lt ha b
  rw [Nat.shiftLeft_eq] at h
  rw [Nat.or_comm,← h,Nat.add_comm]
theorem zp {a b:Nat}(k:Nat)(D:Nat)(hD:2 ^ k=D)(ha:a<D)(h:a+b*D<9223372036854775808):bits .or .i64 ((a:Nat):Int) ((b*D:Nat):Int)=((a+b*D:Nat):Int):=by
  subst hD
  have e:=wM (b:=b) k ha
  have key:∀x:Nat,x<9223372036854775808→(BitVec.ofInt 64 (x:Int)).toNat=x:=fun x hx=>by
    rw [BitVec.toNat_ofInt];omega
  unfold bits
  show IntKind.i64.wrap ((BitVec.ofInt 64 (a:Int) ||| BitVec.ofInt 64 ((b*2 ^ k:Nat):Int)).toNat:Int)=_
  rw [BitVec.toNat_or,key a (by omega),key (b*2 ^ k) (by omega),e]
  exact wr (by omega)
end Go.Proofs.Ytpipachmngdegaa
end
