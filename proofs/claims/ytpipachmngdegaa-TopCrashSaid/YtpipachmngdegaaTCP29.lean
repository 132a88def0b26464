import Derived.Test.YtpipachmngdegaaTCP26
import Derived.Test.YtpipachmngdegaaTCP28
import Derived.Test.YtpipachmngdegaaTCP12
section
namespace Go.Proofs.Ytpipachmngdegaa
open Go Go.RowKit
set_option linter.unusedVariables false
structure bq where
  Epoch:Int
  Side:Int
  Size:Int
  First:Int
  deriving DecidableEq
structure iQ where
  Epoch:Int
  Side:Int
  Size:Int
  First:Int
  L:Lg
  Rows:List Change
def aC (h:bq):ByteArray:=⟨#[72]⟩++aM h.Epoch++aM h.Side++aM h.Size++aM h.First
def bP (s:ByteArray):Nat:=aV s 0+aV s 1*256+aV s 2*65536+aV s 3*16777216
theorem tv (s:ByteArray):bP s<4294967296:=by
  have h0:=jo s 0;have h1:=jo s 1;have h2:=jo s 2;have h3:=jo s 3
  unfold bP;omega
def qZ (s:ByteArray):bq:=⟨(bP (s.extract 1 5):Int),(bP (s.extract 5 9):Int),(bP (s.extract 9 13):Int),(bP (s.extract 13 17):Int)⟩
def bE (s:ByteArray):Prop:= ¬ aV s 0=72∨1<bP (s.extract 5 9)∨2400<bP (s.extract 9 13)∨bP (s.extract 13 17)<1
instance (s:ByteArray):Decidable (bE s):=by unfold bE;infer_instance
def bh (s:ByteArray):bq:=if bE s then ⟨0,0,0,0⟩ else qZ s
theorem bA {s:ByteArray}(h:bE s):bh s=⟨0,0,0,0⟩:=if_pos h
theorem bI {s:ByteArray}(h:¬ bE s):bh s=qZ s:=if_neg h
theorem lZ (s:ByteArray):0≤(bh s).Epoch∧(bh s).Epoch<4294967296∧0≤(bh s).Side∧(bh s).Side≤1∧0≤(bh s).Size∧(bh s).Size≤2400∧0≤(bh s).First∧(bh s).First<4294967296∧(¬ (bh s).Epoch=0→1≤(bh s).First):=by
  by_cases h:bE s
  · rw [bA h];exact ⟨by decide,by decide,by decide,by decide,by decide,by decide,by decide,by decide,fun h=>absurd rfl h⟩
  ·
    rw [bI h]
    unfold bE at h
    have h1:=tv (s.extract 1 5);have h4:=tv (s.extract 13 17)
    unfold qZ;dsimp only
    refine ⟨?_,?_,?_,?_,?_,?_,?_,?_,fun _=>?_⟩ <;> omega
def jz (s:bp×Int)(f:bp→bp×Int):bp×Int:=if s.2=0 then f s.1 else s
theorem cW {s:bp×Int}{f:bp→bp×Int}(h:s.2=0):jz s f=f s.1:=if_pos h
theorem dC {s:bp×Int}{f:bp→bp×Int}(h:¬ s.2=0):jz s f=s:=if_neg h
def eR:Nat→Nat→bp×Int→bp×Int
  | 0,_,s=>s
  | k+1,i,s=>if s.2=0 then eR k (i+1) (ar s.1 (i:Int) ⟨#[]⟩) else s
def l3 (d:bp):bp×Int:=eR (d.Now.length-102) 102 (ar d 0 ⟨#[]⟩)
def tw (d:bp):bp×Int:=jz (l3 d) aj
def tA (d:bp):bp×Int:=jz (tw d) fun e=>ar e 1 (aC ⟨1,0,0,1⟩)
def tC (d:bp):bp×Int:=jz (tA d) aj
def av (d:bp):bp×Int:=if d.Now.length<166 then (d,9) else tC d
def dI (c:Change):ByteArray:=⟨#[UInt8.ofNat c.Key.size,UInt8.ofNat c.Val.size,UInt8.ofNat (c.Val.size / 256)]⟩++c.Key++c.Val
def aB (l:List Change):ByteArray:=l.foldl (fun b c=>b++dI c) ⟨#[]⟩
theorem rQ {l:List Change}{k:Nat}{c:Change}(h:l[k]? = some c):aB (l.take (k+1))=aB (l.take k)++dI c:=by
  unfold aB;rw [List.take_add_one,h];simp
theorem jr (c:Change):(dI c).size=3+c.Key.size+c.Val.size:=by
  unfold dI;simp only [ByteArray.size_append];rfl
theorem nr {b:ByteArray}{m:Nat}:∀ (l:List Change) (b:ByteArray),(∀c∈l,ea c=0)→(l.foldl (fun b c=>b++dI c) b).size≤b.size+35*l.length
  | [],b,h=>by simp
  | c::l,b,h=>by
    rw [List.foldl_cons,List.length_cons]
    have h1:=nr (b:=b) (m:=m) l (b++dI c) (fun x hx=>h x (List.mem_cons_of_mem _ hx))
    obtain ⟨_,_,h3,h4⟩:=dx (h c (List.mem_cons_self ..))
    rw [ByteArray.size_append,jr] at h1
    omega
theorem k9 {l:List Change}(h:∀c∈l,ea c=0):(aB l).size≤35*l.length:=by
  have:=nr (b:=⟨#[]⟩) (m:=0) l ⟨#[]⟩ h
  rw [show (⟨#[]⟩:ByteArray).size=0 from rfl,Nat.zero_add] at this
  exact this
def jf (t:ByteArray):Nat:=3+aV t 0+aV t 1+256*aV t 2
def l4 (t:ByteArray):Change:=⟨t.extract 3 (3+aV t 0),t.extract (3+aV t 0) (jf t),false⟩
def iO:Nat→ByteArray→List Change→List Change×Bool
  | 0,_,l=>(l,true)
  | k+1,t,l =>
    if t=⟨#[]⟩ then (l,true)
    else if t.size<3∨t.size<jf t then ([],false)
    else if ea (l4 t)=0 then iO k (t.extract (jf t) t.size) (a7 l [l4 t]) else ([],false)
def cp (t:ByteArray):List Change×Bool:=iO (t.size+1) t []
section
variable {t:ByteArray} {l:List Change} {Z:List Change×Bool} {k:Nat}
theorem lf (h:iO k t l=Z)(hk:t.size<k)(ht:t=⟨#[]⟩):Z=(l,true):=by
  cases k with
  | zero=>omega
  | succ k=>rw [iO,if_pos ht] at h;exact h.symm
theorem gR (h:iO k t l=Z)(hk:t.size<k)(ht:¬ t=⟨#[]⟩)(hb:t.size<3∨t.size<jf t):Z=([],false):=by
  cases k with
  | zero=>omega
  | succ k=>rw [iO,if_neg ht,if_pos hb] at h;exact h.symm
theorem jt (h:iO k t l=Z)(hk:t.size<k)(ht:¬ t=⟨#[]⟩)(hb:¬ (t.size<3∨t.size<jf t))(hf:¬ ea (l4 t)=0):Z=([],false):=by
  cases k with
  | zero=>omega
  | succ k=>rw [iO,if_neg ht,if_neg hb,if_neg hf] at h;exact h.symm
theorem wq (h:iO k t l=Z)(hk:t.size<k)(ht:¬ t=⟨#[]⟩)(hb:¬ (t.size<3∨t.size<jf t))(hf:ea (l4 t)=0) :
    iO (k-1) (t.extract (jf t) t.size) (a7 l [l4 t])=Z∧(t.extract (jf t) t.size).size<k-1:=by
  cases k with
  | zero=>omega
  | succ k =>
    rw [iO,if_neg ht,if_neg hb,if_pos hf] at h
    refine ⟨h,?_⟩
    rw [ByteArray.size_extract];unfold jf at *;omega
end
def ij (a b:bq):bq:=if a.Epoch<b.Epoch then b else a
def headD (d:bp):bq:=ij (ij ⟨0,0,0,0⟩ (bh (a6 d 0).1)) (bh (a6 d 1).1)
def kX (d:bp)(f:Int):Nat→ByteArray
  | 0=>⟨#[]⟩
  | k+1=>kX d f k++(a6 d (f+(k:Int))).1
def jA (d:bp):ByteArray:=(kX d (2+(headD d).Side*50) 50).extract 0 (headD d).Size.toNat
def jB (d:bp):Int:=if d.Now.length<166 then 4 else if (headD d).Epoch=0 then 4 else if (cp (jA d)).2=true then 0 else 4
def eS (rows:List Change)(W:List (List Change)):List Change:=W.foldl a7 rows
theorem pb {rows:List Change}{W:List (List Change)}{k:Nat}{c:List Change}(h:W[k]? = some c):eS rows (W.take (k+1))=a7 (eS rows (W.take k)) c:=by
  unfold eS;rw [List.take_add_one,h];simp
def af (d:bp):iQ :=
  ⟨(headD d).Epoch,(headD d).Side,(headD d).Size,(headD d).First,⟨102,(d.Now.length:Int)-102,(headD d).First,(bY d 102 ((d.Now.length:Int)-102).toNat (headD d).First:Int)⟩,
    eS (cp (jA d)).1 (dz d 102 ((d.Now.length:Int)-102).toNat (headD d).First)⟩
def dG (f:Int)(t:ByteArray):Nat→Nat→bp→bp×Int
  | 0,_,d=>(d,0)
  | k+1,i,d =>
    if i*48<t.size then
      (if (ar d (f+(i:Int)) (t.extract (i*48) (i*48+min 48 (t.size-i*48)))).2=0 then dG f t k (i+1) (ar d (f+(i:Int)) (t.extract (i*48) (i*48+min 48 (t.size-i*48)))).1
       else ar d (f+(i:Int)) (t.extract (i*48) (i*48+min 48 (t.size-i*48))))
    else (d,0)
def kK (st:iQ):bq:=⟨st.Epoch+1,1-st.Side,((aB st.Rows).size:Int),st.L.First+st.L.Many⟩
def ck1 (st:iQ)(d:bp):bp×Int:=dG (2+(1-st.Side)*50) (aB st.Rows) ((aB st.Rows).size+1) 0 d
def ck2 (st:iQ)(d:bp):bp×Int:=jz (ck1 st d) aj
def wt (st:iQ)(d:bp):bp×Int:=jz (ck2 st d) fun e=>ar e ((st.Epoch+1) % 2) (aC (kK st))
def pP (st:iQ)(d:bp):bp×Int:=jz (wt st d) aj
def x5 (st:iQ)(d:bp):iQ :=
  ⟨st.Epoch+1,1-st.Side,((aB st.Rows).size:Int),st.L.First+st.L.Many,⟨102,(d.Now.length:Int)-102,st.L.First+st.L.Many,(bY d 102 ((d.Now.length:Int)-102).toNat (st.L.First+st.L.Many):Int)⟩,st.Rows⟩
def ay (st:iQ)(d:bp):iQ×bp×Int:=if (pP st d).2=0 then (x5 st (pP st d).1,(pP st d).1,0) else (st,pP st d)
def fJ (st:iQ)(n:Nat)(l:List Change):Int :=
  if 62<l.length then 2 else if ¬ dR l=0 then dR l else if 60<(a7 st.Rows l).length∨(n:Int)-102<(l.length:Int)+1 then 9 else 0
def oq (st:iQ)(d:bp)(l:List Change):iQ×bp×Int:=if st.L.Many-st.L.Next<(l.length:Int)+1 then ay st d else (st,d,0)
def kc (st:iQ)(lg:Lg)(rows:List Change):iQ:=⟨st.Epoch,st.Side,st.Size,st.First,lg,rows⟩
def tD (st st0:iQ)(d:bp)(l:List Change):iQ×bp×Int :=
  if (aP st.L d l).2.2=0 then (kc st (aP st.L d l).1 (a7 st0.Rows l),(aP st.L d l).2.1,0) else (kc st (aP st.L d l).1 st.Rows,(aP st.L d l).2.1,(aP st.L d l).2.2)
def ai (st:iQ)(d:bp)(l:List Change):iQ×bp×Int :=
  if ¬ fJ st d.Now.length l=0 then (st,d,fJ st d.Now.length l)
  else if ¬ (oq st d l).2.2=0 then oq st d l
  else tD (oq st d l).1 st (oq st d l).2.1 l
end Go.Proofs.Ytpipachmngdegaa
end
section
namespace Go.Proofs.Ytpipachmngdegaa
open Go Go.RowKit
theorem wu {a b:Nat}(D:Nat)(hD:2 ^ (min b IntKind.i64.bits)=D)(h:a*D<9223372036854775808):IntKind.i64.wrap (((a:Nat):Int)*2 ^ (min b IntKind.i64.bits))=((a*D:Nat):Int):=by
  have e:((2:Int) ^ (min b IntKind.i64.bits))=(D:Int):=by rw [← hD];simp
  rw [e,← Int.natCast_mul]
  exact wr (by omega)
theorem wv {a b:Nat}(k:Nat)(ha:a<2 ^ k):a ||| (b*2 ^ k)=a+b*2 ^ k:=by
  have h:=Nat.shiftLeft_add_eq_or_of_lt ha b
  rw [Nat.shiftLeft_eq] at h
  rw [Nat.or_comm,← h,Nat.add_comm]
theorem yQ {a b:Nat}(k:Nat)(D:Nat)(hD:2 ^ k=D)(ha:a<D)(h:a+b*D<9223372036854775808):bits .or .i64 ((a:Nat):Int) ((b*D:Nat):Int)=((a+b*D:Nat):Int):=by
  subst hD
  have e:=wv (b:=b) k ha
  have key:∀x:Nat,x<9223372036854775808→(BitVec.ofInt 64 (x:Int)).toNat=x:=fun x hx=>by
    rw [BitVec.toNat_ofInt];omega
  unfold bits
  show IntKind.i64.wrap ((BitVec.ofInt 64 (a:Int) ||| BitVec.ofInt 64 ((b*2 ^ k:Nat):Int)).toNat:Int)=_
  rw [BitVec.toNat_or,key a (by omega),key (b*2 ^ k) (by omega),e]
  exact wr (by omega)
end Go.Proofs.Ytpipachmngdegaa
end
