import Derived.Test.YtnmpibjlnninjaaGreatDoorCT9
namespace Go.Proofs.YtnmpibjlnninjaaGreatDoor
set_option linter.unusedVariables false
set_option linter.unusedSimpArgs false
set_option maxRecDepth 100000
set_option maxHeartbeats 90000000
structure LV (c:Change):Prop where
  k0:0<c.Key.size
  k8:c.Key.size<=8
  v:c.Val.size<=24
  g:c.Gone=false
theorem Vk {r:aB}(h:Inv r):∀c∈rowsOf r,LV c:=by
 have a1:=h.pO;have a2:=h.rK;have a3:=h.qw;have a4:=h.qx
 intro c hc
 unfold rowsOf at hc
 rcases List.mem_append.1 hc with hc|hc
 .
  rcases List.mem_append.1 hc with hc|hc
  .
   rcases List.mem_append.1 hc with hc|hc
   .
    obtain ⟨x,hx,rfl⟩:=List.mem_map.1 hc
    have k:=h.Kt hx;have k1:=k.2.1;have k2:=k.2.2
    have e:(hrow x).Key.size=3:=by grind [iZ,hkey]
    have e2:(hrow x).Val.size=4:=eF ae ae
    exact ⟨ae,ae,ae,rfl⟩
   obtain ⟨x,hx,rfl⟩:=List.mem_map.1 hc
   have k:=h.T1 hx;have k1:=k.i0;have k2:=k.i9;have k3:=k.kd;have k4:=k.ds
   have e:(lY x).Key.size=5:=by rw [<- iZ,tkey k1 k2];rfl
   have e2:(lY x).Val.size=4+x.Data.size:=by show (bF x.Kind++x.Data).size=_;grind [mE,eF]
   exact ⟨ae,ae,ae,rfl⟩
  obtain ⟨x,hx,rfl⟩:=List.mem_map.1 hc
  have k:=h.tree.mem hx
  have i1:=k.id1;have i9:=k.Q0;have t1:=k.U5;have t9:=k.U6;have b0:=k.U7;have b9:=k.U8;have f0:=k.Rw;have fl:=k.Rx;have q0:=k.Ry;have q7:=k.Rz
  have e:(oJ x).Key.size=5:=by rw [<- iZ,N9 ae ae];rfl
  have e2:(oJ x).Val.size=16:=by
   show (bF x.aA++bF x.Rights++bF x.aM++bF x.From).size=_
   grind [mE,eF]
  exact ⟨ae,ae,ae,rfl⟩
 rw [List.mem_singleton.1 hc]
 have e2:(Gq r).Val.size=8:=by
  show (bF r.ah++bF r.ai).size=_
  grind [mE,eF]
 exact ⟨(by decide:0<kX.size),(by decide:kX.size<=8),ae,rfl⟩
theorem oZ {r:aB}(h:Inv r):∀c∈aY r,LV c:=Vk (iL h).1
theorem eZ {r:aB}(h:Inv r):dC (aY r):=CZ (iL h).1
theorem I0 {r:aB}(h:Inv r):∀c∈aY r,c.Key.size<=1000/\c.Val.size<=1000:=fun c hc=>by
 have k:=oZ h c hc;have:=k.k8;have:=k.v;omega
section
open Go.RowKit
structure Turn where
  At:Int
  Data:ByteArray
  deriving DecidableEq
abbrev Turn.cs (x:Turn):List Value:=[.int .i64 x.At,.string x.Data]
abbrev Turn.val (x:Turn):Value:= .agg #[.int .i64 x.At,.string x.Data]
instance:Enc Turn:=⟨2,Turn.cs,fun _=>rfl,fun x u hu=>by simp [Turn.cs] at hu;rcases hu with rfl|rfl <;> rfl,by decide⟩
structure cq where
  Kept:List ByteArray
  Now:List ByteArray
  Wait:List Turn
  Fuse:Int
  Down:Bool
  deriving DecidableEq
def yS (n:Nat):ByteArray:=⟨(List.replicate n (0:UInt8)).toArray⟩
theorem Am (n:Nat):(yS n).size=n:=by grind [yS,ByteArray.size]
def full (s:ByteArray):ByteArray:=s++yS (48-s.size)
theorem LW {s:ByteArray}(h:s.size<=48):(full s).size=48:=by grind [full,ByteArray.size_append,Am]
def dNew (n:Nat):cq:=⟨List.replicate n (yS 48),List.replicate n (yS 48),[],-1,false⟩
def bN (d:cq):cq×Int :=
  if d.Down=true then (d,10) else if d.Fuse=0 then (⟨d.Kept,d.Now,d.Wait,-1,true⟩,10) else (⟨d.Kept,d.Now,d.Wait,max (d.Fuse-1) (-1),d.Down⟩,0)
def cW (d:cq)(i:Int):ByteArray×Int :=
  if d.Down=true then (⟨#[]⟩,10) else if i<0∨(d.Now.length:Int)<=i then (⟨#[]⟩,1) else ((d.Now[i.toNat]?).getD ⟨#[]⟩,0)
def aU (d:cq)(i:Int)(s:ByteArray):cq×Int :=
  if i<0∨(d.Now.length:Int)<=i∨48<s.size then (d,1)
  else if (bN d).2=0 then (⟨(bN d).1.Kept,(bN d).1.Now.set i.toNat (full s),(bN d).1.Wait++[⟨i,full s⟩],(bN d).1.Fuse,(bN d).1.Down⟩,0) else bN d
def aQ (d:cq):cq×Int :=
  if (bN d).2=0 then (⟨(bN d).1.Now,(bN d).1.Now,[],(bN d).1.Fuse,(bN d).1.Down⟩,0) else bN d
def C5 (k:Int)(i:Nat):Bool:=decide (k / ((2 ^ (i % 64):Nat):Int) % 2=1)
def pP (k:Int)(l:List ByteArray)(p:Turn×Nat):List ByteArray:=if C5 k p.2=true then l.set p.1.At.toNat p.1.Data else l
def mF (k:Int)(w:List Turn)(l:List ByteArray):List ByteArray:=w.zipIdx.foldl (pP k) l
def eo (d:cq)(k:Int):cq:=⟨mF k d.Wait d.Kept,mF k d.Wait d.Kept,[],-1,false⟩
structure gw (n m:Nat)(d:cq):Prop where
  kl:d.Kept.length=n
  nl:d.Now.length=n
  ks:∀s∈d.Kept,s.size=48
  ns:∀s∈d.Now,s.size=48
  wl:d.Wait.length<=m
  Ka:∀t∈d.Wait,0<=t.At/\t.At<(n:Int)/\t.Data.size=48
  f0 : -1<=d.Fuse
  f1:d.Fuse<=9223372036854775807
section
variable {n m:Nat} {d:cq}
theorem EB (n:Nat):gw n 0 (dNew n):=⟨by simp [dNew],by simp [dNew],fun s hs=>by
 rw [(List.mem_replicate.1 hs).2,Am],fun s hs=>by rw [(List.mem_replicate.1 hs).2,Am],Nat.le_refl _,fun t ht=>(by cases ht),(by show (-1:Int) <= -1;decide),(by show (-1:Int)<=9223372036854775807;decide)⟩
theorem gw.up (h:gw n m d){k:Nat}(hk:m<=k):gw n k d:=⟨h.kl,h.nl,h.ks,h.ns,Nat.le_trans h.wl hk,h.Ka,h.f0,h.f1⟩
theorem Ao (h:d.Down=true):bN d=(⟨d.Kept,d.Now,d.Wait,d.Fuse,true⟩,10):=by unfold bN;rw [if_pos h];cases d;grind
theorem uM (h:d.Down=false)(f:d.Fuse=0):bN d=(⟨d.Kept,d.Now,d.Wait,-1,true⟩,10):=by simp_all [bN,if_neg,if_pos]
theorem vU (h:d.Down=false)(f:¬ d.Fuse=0):bN d=(⟨d.Kept,d.Now,d.Wait,max (d.Fuse-1) (-1),false⟩,0):=by simp_all [bN,if_neg]
theorem Ap {i:Int}(h:d.Down=true):cW d i=(⟨#[]⟩,10):=by simp_all [cW,if_pos]
theorem tf {i:Int}(h:d.Down=false)(hi:i<0∨(d.Now.length:Int)<=i):cW d i=(⟨#[]⟩,1):=by simp_all [cW,if_neg,if_pos]
theorem sr {i:Int}{x:ByteArray}(h:d.Down=false)(hi:0<=i)(hx:d.Now[i.toNat]? = some x):cW d i=(x,0):=by
 have:=(List.getElem?_eq_some_iff.1 hx).1
 simp_all [cW,if_neg]
theorem og {i:Int}{x:ByteArray}(hi:i<0∨(d.Now.length:Int)<=i∨48<x.size):aU d i x=(d,1):=by simp_all [aU,if_pos]
theorem Aq {i:Int}{x:ByteArray}(h0:0<=i)(h1:i<(d.Now.length:Int))(h2:x.size<=48)(h:¬ (bN d).2=0):aU d i x=bN d:=by simp_all [aU,if_neg]
theorem ju {i:Int}{x:ByteArray}(h0:0<=i)(h1:i<(d.Now.length:Int))(h2:x.size<=48)(h:(bN d).2=0) :
 aU d i x=(⟨(bN d).1.Kept,(bN d).1.Now.set i.toNat (full x),(bN d).1.Wait++[⟨i,full x⟩],(bN d).1.Fuse,(bN d).1.Down⟩,0):=by simp_all [aU,if_neg,if_pos]
theorem o0 (d:cq):(bN d).1.Kept=d.Kept/\(bN d).1.Now=d.Now/\(bN d).1.Wait=d.Wait:=by
 unfold bN;grind
theorem gw.step (h:gw n m d):gw n m (bN d).1:=by
 obtain ⟨e1,e2,e3⟩:=o0 d
 have f0:=h.f0;have f1:=h.f1
 refine ⟨by rw [e1];exact h.kl,by rw [e2];exact h.nl,by rw [e1];exact h.ks,by rw [e2];exact h.ns,by rw [e3];exact h.wl,by rw [e3];exact h.Ka,?_,?_⟩ <;>
  (grind [bN])
theorem Ku {l:List ByteArray}(h:∀s∈l,s.size=48){i:Nat}{x:ByteArray}(hx:x.size=48):∀s∈l.set i x,s.size=48:=fun s hs=>by
 grind
theorem gw.write (h:gw n m d)(i:Int)(s:ByteArray):gw n (m+1) (aU d i s).1:=by
 unfold aU
 split
 .exact h.up (Nat.le_succ m)
 rename_i hb
 split
 .
  have hs:=h.step
  have hf:=LW (s:=s) ae
  have e:=(o0 d).2.1
  have nl:=h.nl
  refine ⟨hs.kl,az,hs.ks,Ku hs.ns hf,by dsimp only;rw [List.length_append,List.length_singleton];have:=hs.wl;omega,fun t ht=>?_,hs.f0,hs.f1⟩
  rcases List.mem_append.1 ht with ht|ht
  .exact hs.Ka t ht
  grind
 exact h.step.up (Nat.le_succ m)
theorem gw.flush (h:gw n m d):gw n m (aQ d).1:=by
 unfold aQ
 have hs:=h.step
 split
 .exact ⟨hs.nl,hs.nl,hs.ns,hs.ns,Nat.zero_le _,fun t ht=>az,hs.f0,hs.f1⟩
 omega
theorem Ol (k:Int):∀ (w:List Turn) (j:Nat) (l:List ByteArray),(∀s∈l,s.size=48)->(∀t∈w,t.Data.size=48)->(((w.zipIdx j).foldl (pP k) l).length=l.length /\ ∀s∈(w.zipIdx j).foldl (pP k) l,s.size=48)
 | [],j,l,h,hw=>⟨rfl,h⟩
 | t::w,j,l,h,hw=>by
  rw [List.zipIdx_cons,List.foldl_cons]
  have h1:(pP k l (t,j)).length=l.length:=by unfold pP;split <;> simp
  have h2:∀s∈pP k l (t,j),s.size=48:=by
   unfold pP;split
   .exact Ku h (hw t (List.mem_cons_self ..))
   exact h
  obtain ⟨a,b⟩:=Ol k w (j+1) _ h2 (fun t ht=>hw t (List.mem_cons_of_mem _ ht))
  exact ⟨a.trans h1,b⟩
theorem C6 {k:Int}{w:List Turn}{l:List ByteArray}{i:Nat}{t:Turn}(h:w[i]? = some t):mF k (w.take (i+1)) l=pP k (mF k (w.take i) l) (t,i):=by
 unfold mF
 have hi:=(List.getElem?_eq_some_iff.1 h).1
 rw [List.take_add_one,h]
 grind
theorem Ar {k:Int}{w:List Turn}{l:List ByteArray}:(mF k w l).length=l.length:=by
 unfold mF
 generalize w.zipIdx=z
 induction z generalizing l with
 | nil=>rfl
 | cons p z ih=>grind [pP]
theorem gw.restart (h:gw n m d)(k:Int):gw n 0 (eo d k):=by
 obtain ⟨a,b⟩:=Ol k d.Wait 0 d.Kept h.ks (fun t ht=>(h.Ka t ht).2.2)
 exact ⟨a.trans h.kl,a.trans h.kl,b,b,Nat.le_refl _,fun t ht=>(by cases ht),(by show (-1:Int) <= -1;decide),(by show (-1:Int)<=9223372036854775807;decide)⟩
theorem gw.fine (h:gw n m d)(hn:n<=100000)(hm:m<=100000):d.Kept.length=d.Now.length/\d.Now.length<=100000/\d.Wait.length<=100000 /\ -1<=d.Fuse/\d.Fuse<=9223372036854775807:=by
 have h1:=h.kl;have h2:=h.nl;have h3:=h.wl;have h4:=h.f0;have h5:=h.f1
 omega
theorem gw.rest (h:gw n m d)(hm:m<=100000):d.Kept.length=d.Now.length/\d.Wait.length<=100000/\(∀t∈d.Wait,0<=t.At/\t.At<(d.Kept.length:Int)):=by
 have h1:=h.kl;have h2:=h.nl;have h3:=h.wl
 refine ⟨ae,ae,fun t ht=>?_⟩
 have h4:=h.Ka t ht
 omega
theorem qF (hd:d.Down=false)(hf:d.Fuse = -1):bN d=(⟨d.Kept,d.Now,d.Wait,-1,false⟩,0):=by grind [vU]
theorem Gz {i:Int}{x:ByteArray}(hd:d.Down=false)(hf:d.Fuse = -1)(h:¬ (aU d i x).2=0):(aU d i x).1=d:=by
 grind [og,ju,qF]
theorem I1 {i:Int}{x:ByteArray}(hd:d.Down=false)(hf:d.Fuse = -1)(h:(aU d i x).2=0):aU d i x=(⟨d.Kept,d.Now.set i.toNat (full x),d.Wait++[⟨i,full x⟩],-1,false⟩,0)/\0<=i/\i<(d.Now.length:Int)/\x.size<=48:=by
 grind [og,ju,qF]
theorem GA {i:Int}{x:ByteArray}(hd:d.Down=false)(hf:d.Fuse = -1):(aU d i x).1.Down=false/\(aU d i x).1.Fuse = -1:=by
 grind [I1,Gz]
theorem mG (hd:d.Down=false)(hf:d.Fuse = -1):aQ d=(⟨d.Now,d.Now,[],-1,false⟩,0):=by
 unfold aQ;rw [qF hd hf,if_pos rfl]
theorem Au {i:Nat}{x:ByteArray}(hd:d.Down=false)(hx:d.Now[i]? = some x):cW d (i:Int)=(x,0):=sr hd ae az
end
end
section
open Go Go.RowKit
def u8 (n:Int):UInt8:=UInt8.ofNat n.toNat
theorem Av {n:Int}(h:0<=n/\n<=255):(((u8 n).toNat:Nat):Int)=n:=by
 grind [u8,UInt8.toNat_ofNat']
theorem LX {n:Nat}(h:n<=255):(UInt8.ofNat n).toNat=n:=by
 grind [UInt8.toNat_ofNat']
theorem fM {n:Int}(h:0<=n/\n<=255):(Value.int .u8 n).cells.toList=Enc.cells (u8 n):=by
 show [Value.int .u8 n]=[Value.int .u8 (((u8 n).toNat:Nat):Int)]
 rw [Av h]
theorem eu {n:Nat}(h:n<=255):(Value.int .u8 ((n:Nat):Int)).cells.toList=Enc.cells (UInt8.ofNat n):=by
 show [Value.int .u8 (n:Int)]=[Value.int .u8 (((UInt8.ofNat n).toNat:Nat):Int)]
 rw [LX h]
theorem bg (l:List UInt8):(⟨l.toArray⟩:ByteArray).size=l.length:=eH
section
variable {α:Type} [Enc α]
theorem fF:([]:List Value).map (fun v=>v.cells.toList)=([]:List α).map Enc.cells:=rfl
theorem cp {v:Value}{x:α}{vs:List Value}{l:List α}(h:v.cells.toList=Enc.cells x)(hs:vs.map (fun v=>v.cells.toList)=l.map Enc.cells) :
 (v::vs).map (fun v=>v.cells.toList)=(x::l).map Enc.cells:=by
 grind
end
end
section
open Go Go.RowKit
structure Lg where
  From:Int
  Many:Int
  First:Int
  Next:Int
  deriving DecidableEq
def cB (n:Int):ByteArray:=⟨#[u8 (n % 256),u8 (n / 256 % 256),u8 (n / 65536 % 256),u8 (n / 16777216 % 256)]⟩
theorem kG (n:Int):(cB n).size=4:=rfl
theorem vV (n:Int):bl (cB n)=[u8 (n % 256),u8 (n / 256 % 256),u8 (n / 65536 % 256),u8 (n / 16777216 % 256)]:=rfl
theorem Vl {a b:Int}(ha:0<=a/\a<=255)(hb:0<=b/\b<=255)(h:u8 a=u8 b):a=b:=by
 grind [Av]
theorem LY {a b:Int}(ha:0<=a/\a<4294967296)(hb:0<=b/\b<4294967296)(h:cB a=cB b):a=b:=by
 have h1:bl (cB a)=bl (cB b):=by rw [h]
 rw [vV,vV] at h1
 simp only [List.cons.injEq,and_true] at h1
 grind [Vl]
def eK (k:Int)(n:Int)(s:ByteArray):ByteArray:=⟨#[u8 k]⟩++cB n++⟨#[UInt8.ofNat s.size,UInt8.ofNat (s.size / 256)]⟩++s
theorem Kv (k n:Int)(s:ByteArray):bl (eK k n s)=u8 k::u8 (n % 256)::u8 (n / 256 % 256)::u8 (n / 65536 % 256)::u8 (n / 16777216 % 256)::UInt8.ofNat s.size::UInt8.ofNat (s.size / 256)::bl s:=by
 rfl
theorem pQ (k n:Int)(s:ByteArray):(eK k n s).size=7+s.size:=by
 grind [iZ,Kv,List.length_cons]
def ck (s:ByteArray):Nat:=bC s 5+256*bC s 6
def su (s:ByteArray):ByteArray:=s.extract 7 (7+ck s)
def Om (s:ByteArray)(n:Int):Int×ByteArray×Bool :=
  if s.extract 1 5=cB n/\(bC s 0=111∨bC s 0=99)/\ck s<=41 then ((bC s 0:Int),su s,true) else (0,⟨#[]⟩,false)
def C8 (s:ByteArray)(n k:Int):Bool:=decide (s.extract 1 5=cB n)&&decide (ck s<=41)&&decide (bC s 0=99)&&decide (su s=cB k)
def Iv (s:ByteArray)(n:Int):Bool:=decide (s.extract 1 5=cB n)&&decide (ck s<=41)&&decide (bC s 0=111)&&decide ((uJ (su s)).2=0)
def jv:List ByteArray->Int->List (List Change)->List Change->Nat->Nat->List (List Change)×Nat
  | [],_,out,_,used,_=>(out,used)
  | s::r,n,out,deed,used,pos =>
    if C8 s n (deed.length:Int)=true then jv r (n+1) (out++[deed]) [] (pos+1) (pos+1)
    else if Iv s n=true then jv r (n+1) out (deed++[(uJ (su s)).1]) used (pos+1)
    else (out,used)
def scan (l:List ByteArray)(first:Int):List (List Change)×Nat:=jv l first [] [] 0 0
section
variable {l:List ByteArray} {first n:Int} {out:List (List Change)} {deed:List Change} {used pos i:Nat} {s:ByteArray} {Z:List (List Change)×Nat}
theorem drop_at {α:Type}{l:List α}{i:Nat}{s:α}(h:l[i]? = some s):l.drop i=s::l.drop (i+1):=by
 grind [List.getElem?_eq_some_iff,List.drop_eq_getElem_cons]
theorem Oo (h:jv (l.drop i) (first+(i:Int)) out deed used i=Z)(hs:l[i]? = some s)(hc:C8 s (first+(i:Int)) (deed.length:Int)=true) :
 jv (l.drop (i+1)) (first+((i+1:Nat):Int)) (out++[deed]) [] (i+1) (i+1)=Z:=by
 rw [drop_at hs] at h
 unfold jv at h
 grind
theorem R5 (h:jv (l.drop i) (first+(i:Int)) out deed used i=Z)(hs:l[i]? = some s)(hc:C8 s (first+(i:Int)) (deed.length:Int)=false)(ho:Iv s (first+(i:Int))=true) :
 jv (l.drop (i+1)) (first+((i+1:Nat):Int)) out (deed++[(uJ (su s)).1]) used (i+1)=Z:=by
 rw [drop_at hs] at h
 unfold jv at h
 grind
theorem EC (h:jv (l.drop i) (first+(i:Int)) out deed used i=Z)(hs:l[i]? = some s)(hc:C8 s (first+(i:Int)) (deed.length:Int)=false)(ho:Iv s (first+(i:Int))=false):Z=(out,used):=by
 simp_all [jv,drop_at,if_neg]
theorem Vm (h:jv (l.drop i) (first+(i:Int)) out deed used i=Z)(hl:l.length<=i):Z=(out,used):=by
 rw [List.drop_of_length_le hl] at h
 exact h.symm
theorem vW {k:Int}(h:¬ bC s 0=99):C8 s n k=false:=by grind [C8]
theorem ED (h:¬ bC s 0=111):Iv s n=false:=by grind [Iv]
theorem EE:∀ (l:List ByteArray) (n:Int) (out:List (List Change)) (deed:List Change) (used pos:Nat),
 jv l n out deed used pos=(out,used)∨(pos<(jv l n out deed used pos).2/\(jv l n out deed used pos).2<=pos+l.length /\
  ∀l':List ByteArray,l'.take ((jv l n out deed used pos).2-pos)=l.take ((jv l n out deed used pos).2-pos) ->
   jv l' n out deed used pos=jv (l'.drop ((jv l n out deed used pos).2-pos)) (n+(((jv l n out deed used pos).2-pos:Nat):Int)) (jv l n out deed used pos).1 [] (jv l n out deed used pos).2 (jv l n out deed used pos).2)
 | [],n,out,deed,used,pos => .inl rfl
 | s::r,n,out,deed,used,pos=>by
  have key:∀ (out':List (List Change)) (o5:List Change) (o6:Nat),jv (s::r) n out deed used pos=jv r (n+1) out' o5 o6 (pos+1) ->
   (∀r',jv (s::r') n out deed used pos=jv r' (n+1) out' o5 o6 (pos+1)) ->
   (pos+1<(jv r (n+1) out' o5 o6 (pos+1)).2/\(jv r (n+1) out' o5 o6 (pos+1)).2<=pos+1+r.length /\
    ∀l':List ByteArray,l'.take ((jv r (n+1) out' o5 o6 (pos+1)).2-(pos+1))=r.take ((jv r (n+1) out' o5 o6 (pos+1)).2-(pos+1)) ->
     jv l' (n+1) out' o5 o6 (pos+1)=jv (l'.drop ((jv r (n+1) out' o5 o6 (pos+1)).2-(pos+1))) (n+1+(((jv r (n+1) out' o5 o6 (pos+1)).2-(pos+1):Nat):Int)) (jv r (n+1) out' o5 o6 (pos+1)).1 [] (jv r (n+1) out' o5 o6 (pos+1)).2 (jv r (n+1) out' o5 o6 (pos+1)).2) ->
   (pos<(jv (s::r) n out deed used pos).2/\(jv (s::r) n out deed used pos).2<=pos+(s::r).length /\
    ∀l':List ByteArray,l'.take ((jv (s::r) n out deed used pos).2-pos)=(s::r).take ((jv (s::r) n out deed used pos).2-pos) ->
     jv l' n out deed used pos=jv (l'.drop ((jv (s::r) n out deed used pos).2-pos)) (n+(((jv (s::r) n out deed used pos).2-pos:Nat):Int)) (jv (s::r) n out deed used pos).1 [] (jv (s::r) n out deed used pos).2 (jv (s::r) n out deed used pos).2):=by
   intro out' o5 o6 e e' h
   rw [e]
   generalize jv r (n+1) out' o5 o6 (pos+1)=R at h
   obtain ⟨h1,h2,h3⟩:=h
   refine ⟨ae,by rw [List.length_cons];omega,fun l' hl'=>?_⟩
   obtain ⟨m,hm⟩:∃m,R.2-pos=m+1:=⟨R.2-pos-1,ae⟩
   have hm':R.2-(pos+1)=m:=ae
   rw [hm] at hl' ⊢
   rw [hm'] at h3
   cases l' with
   | nil=>simp at hl'
   | cons s' r' =>
    rw [List.take_succ_cons,List.take_succ_cons] at hl'
    injection hl' with q1 q2
    subst q1
    rw [e',h3 r' q2,List.drop_succ_cons]
    rw [show n+1+(m:Int)=n+((m+1:Nat):Int) by omega]
  by_cases hc:C8 s n (deed.length:Int)=true
  .
   right
   have e:∀r',jv (s::r') n out deed used pos=jv r' (n+1) (out++[deed]) [] (pos+1) (pos+1):=fun r'=>by rw [jv,if_pos hc]
   rcases EE r (n+1) (out++[deed]) [] (pos+1) (pos+1) with h|h
   .
    rw [e r,h]
    refine ⟨ae,by rw [List.length_cons];omega,fun l' hl'=>?_⟩
    dsimp only at hl' ⊢
    rw [show pos+1-pos=1 by omega] at hl' ⊢
    cases l' with
    | nil=>simp at hl'
    | cons s' r' =>
     rw [List.take_succ_cons,List.take_succ_cons] at hl'
     injection hl' with q1 q2
     subst q1
     rw [e];rfl
   exact key _ _ _ (e r) e h
  by_cases ho:Iv s n=true
  .
   have e:∀r',jv (s::r') n out deed used pos=jv r' (n+1) out (deed++[(uJ (su s)).1]) used (pos+1):=fun r'=>by rw [jv,if_neg hc,if_pos ho]
   rcases EE r (n+1) out (deed++[(uJ (su s)).1]) used (pos+1) with h|h
   .left;rw [e r,h]
   right;exact key _ _ _ (e r) e h
  left;rw [jv,if_neg hc,if_neg ho]
theorem Kw (l:List ByteArray)(first:Int):(scan l first).2<=l.length:=by
 rcases EE l first [] [] 0 0 with h|⟨_,h,_⟩
 .simp_all [scan,Nat.zero_le]
 grind [scan]
theorem Aw {l l':List ByteArray}{first:Int}(h:l'.take (scan l first).2=l.take (scan l first).2) :
 scan l' first=jv (l'.drop (scan l first).2) (first+((scan l first).2:Int)) (scan l first).1 [] (scan l first).2 (scan l first).2:=by
 grind [scan,EE]
end
theorem Kx (s:ByteArray):bl (full s)=bl s++List.replicate (48-s.size) 0:=eH
section
variable {k n:Int} {s:ByteArray}
theorem GB (hs:s.size<=41):bl (full (eK k n s))=u8 k::u8 (n % 256)::u8 (n / 256 % 256)::u8 (n / 65536 % 256)::u8 (n / 16777216 % 256)::UInt8.ofNat s.size::UInt8.ofNat (s.size / 256)::(bl s++List.replicate (41-s.size) 0):=by
 grind [Kx,Kv,pQ]
theorem sy (hs:s.size<=41):bC (full (eK k n s)) 0=(u8 k).toNat:=eH
theorem pR (hs:s.size<=41):(full (eK k n s)).extract 1 5=cB n:=fY (by
 rfl)
theorem EF (hs:s.size<=41):ck (full (eK k n s))=s.size:=by
 unfold ck
 grind [k9,GB,sj]
theorem EG (hs:s.size<=41):su (full (eK k n s))=s:=by
 unfold su
 rw [EF hs]
 exact fY (by
  have:=qz (full (eK k n s)) 7 (7+s.size)
  rw [GB hs] at this
  refine this.trans ?_
  rw [show 7+s.size=s.size+1+1+1+1+1+1+1 by omega]
  simp)
theorem R6 {c:Int}(n:Int):C8 (full (eK 99 n (cB c))) n c=true:=by
 have h:(cB c).size<=41:=by grind [kG]
 unfold C8
 rw [pR h,EF h,sy h,EG h,kG]
 simp;rfl
theorem R7 {c:Int}(hs:s.size<=41)(n m:Int):C8 (full (eK 111 n s)) m c=false:=vW (by rw [sy hs];decide)
theorem R8 {c:Change}(hc:iT c=0)(n:Int):Iv (full (eK 111 n (lI c).1)) n=true:=by
 have h:(lI c).1.size<=41:=by
  grind [iM,mD]
 unfold Iv
 rw [pR h,EF h,sy h,EG h,Kl hc]
 simp [h];rfl
theorem R9 {c:Change}(hc:iT c=0)(n:Int):(uJ (su (full (eK 111 n (lI c).1)))).1=c:=by
 grind [iM,mD,EG,Kl]
theorem qG:bC (full ⟨#[]⟩) 0=0:=eH
theorem GD:bC (yS 48) 0=0:=eH
theorem GF:full ⟨#[]⟩=yS 48:=eH
end
def fy (n:Int):List Change->List ByteArray
  | []=>[]
  | c::l=>full (eK 111 n (lI c).1)::fy (n+1) l
theorem iN:∀ (l:List Change) (n:Int),(fy n l).length=l.length
 | [],_=>rfl
 | c::l,n=>by simp [fy,iN l]
theorem xc:∀ (l:List Change) (n:Int) (i:Nat) (c:Change),l[i]? = some c->(fy n l)[i]? = some (full (eK 111 (n+(i:Int)) (lI c).1))
 | [],_,i,c,h=>by simp at h
 | x::l,n,0,c,h=>by
  simp at h;subst h;simp [fy]
 | x::l,n,i+1,c,h=>by
  simp at h
  have:=xc l (n+1) i c h
  simp only [fy,List.getElem?_cons_succ]
  rw [this,show n+1+(i:Int)=n+((i+1:Nat):Int) by omega]
theorem GG:∀ (l:List Change) (n:Int) (r:List ByteArray) (out:List (List Change)) (deed:List Change) (used pos:Nat),(∀c∈l,iT c=0) ->
 jv (fy n l++r) n out deed used pos=jv r (n+(l.length:Int)) out (deed++l) used (pos+l.length)
 | [],n,r,out,deed,used,pos,_=>by simp [fy]
 | c::l,n,r,out,deed,used,pos,h=>by
  have hc:=h c (List.mem_cons_self ..)
  obtain ⟨_,_,h3,h4⟩:=iM hc
  have hs:(lI c).1.size<=41:=by grind [mD]
  simp only [fy,List.cons_append]
  rw [jv,if_neg (by grind [R7]),if_pos (R8 hc n),R9 hc,GG l _ r _ _ _ _ (fun c hc=>h c (List.mem_cons_of_mem _ hc))]
  grind
theorem Ky {l:List Change}{n:Int}{r:List ByteArray}{out:List (List Change)}{used:Nat}(hl:∀c∈l,iT c=0)(hr:r=[] ∨ ∃s r',r=s::r'/\bC s 0=0) :
 jv (fy n l++full (eK 99 (n+(l.length:Int)) (cB (l.length:Int)))::r) n out [] used used=(out++[l],used+l.length+1):=by
 rw [GG l n _ _ _ _ _ hl]
 rw [jv,List.nil_append,if_pos (R6 _)]
 rcases hr with rfl|⟨s,r',rfl,hs⟩
 .rfl
 simp_all [jv,if_neg,vW,ED]
end
section
open Go Go.RowKit
structure ChB where
  C:List Change
structure YD where
  E:Int
def jM (s:ByteArray)(n:Int):Bool:=decide (s.extract 1 5=cB n)&&(decide (bC s 0=111)||decide (bC s 0=99))&&decide (ck s<=41)
def ru (s:ByteArray)(n:Int):Nat:=if jM s n=true then bC s 0 else 0
def lx (s:ByteArray)(n:Int):ByteArray:=if jM s n=true then su s else ⟨#[]⟩
section
variable {s:ByteArray} {n k:Int}
theorem Ax (h:¬ s.extract 1 5=cB n):jM s n=false:=by grind [jM]
theorem Ay (h:¬ bC s 0=111)(h':¬ bC s 0=99):jM s n=false:=by grind [jM]
theorem pS (h:41<ck s):jM s n=false:=by grind [jM]
theorem mH (h:s.extract 1 5=cB n)(h':bC s 0=111∨bC s 0=99)(hl:ck s<=41):jM s n=true:=by
 grind [jM]
theorem lh (h:jM s n=false):ru s n=0/\lx s n=⟨#[]⟩:=by grind [ru,lx]
theorem lj (h:jM s n=true):ru s n=bC s 0/\lx s n=su s:=by grind [ru,lx]
theorem Az (h:jM s n=true):s.extract 1 5=cB n/\(bC s 0=111∨bC s 0=99)/\ck s<=41:=by
 simp_all [jM,and_assoc]
theorem Vn (h:jM s n=true)(hk:ru s n=99)(hx:lx s n=cB k):C8 s n k=true:=by
 grind [C8,Az,lj]
theorem GH (h:jM s n=false):C8 s n k=false/\Iv s n=false:=by
 constructor
 .
  rw [Bool.eq_false_iff];intro hc
  simp_all [C8,Bool.and_eq_true,decide_eq_true_eq,mH]
 rw [Bool.eq_false_iff];intro hc
 simp_all [Iv,Bool.and_eq_true,decide_eq_true_eq,mH]
theorem GI (h:jM s n=true)(hk:ru s n=99)(hx:¬ lx s n=cB k):C8 s n k=false/\Iv s n=false:=by
 grind [C8,lj,ED]
theorem Vo (h:jM s n=true)(hk:¬ ru s n=99)(hp:(uJ (lx s n)).2=0):C8 s n k=false/\Iv s n=true/\lx s n=su s:=by
 grind [bC,Iv,Az,lj,vW]
theorem GJ (h:jM s n=true)(hk:¬ ru s n=99)(hp:¬ (uJ (lx s n)).2=0):C8 s n k=false/\Iv s n=false:=by
 grind [Iv,lj,vW]
theorem I2 (hs:s.size=48):(lx s n).size<=48:=by
 unfold lx su;split
 .grind [ByteArray.size_extract]
 decide
end
def sA (d:cq)(gS:Int)(many:Nat):List ByteArray:=(List.range many).map fun (i:Nat)=>(cW d (gS+(i:Int))).1
theorem sB (d:cq)(gS:Int)(many:Nat):(sA d gS many).length=many:=by simp [sA]
theorem tg {d:cq}{gS:Int}{many i:Nat}(h:i<many):(sA d gS many)[i]? = some ((cW d (gS+(i:Int))).1):=by
 simp [sA,h]
def mI (d:cq)(gS:Int)(many:Nat)(first:Int):List (List Change):=(scan (sA d gS many) first).1
def fT (d:cq)(gS:Int)(many:Nat)(first:Int):Nat:=(scan (sA d gS many) first).2
def lZ (lg:Lg):cq->List Change->Nat->cq×Int
  | d,[],i=>(d,0)
  | d,x::r,i =>
    if (aU d (lg.From+lg.Next+(i:Int)) (eK 111 (lg.First+lg.Next+(i:Int)) (lI x).1)).2=0 then lZ lg (aU d (lg.From+lg.Next+(i:Int)) (eK 111 (lg.First+lg.Next+(i:Int)) (lI x).1)).1 r (i+1)
    else aU d (lg.From+lg.Next+(i:Int)) (eK 111 (lg.First+lg.Next+(i:Int)) (lI x).1)
def eC (lg:Lg)(d:cq)(c:List Change):cq×Int :=
  if (lZ lg d c 0).2=0 then (if lg.Next+(c.length:Int)+1<lg.Many then aU (lZ lg d c 0).1 (lg.From+(lg.Next+(c.length:Int)+1)) ⟨#[]⟩ else ((lZ lg d c 0).1,0)) else lZ lg d c 0
def uN (lg:Lg)(d:cq)(c:List Change):cq×Int:=aQ (eC lg d c).1
def vX (lg:Lg)(d:cq)(c:List Change):cq×Int:=aU (uN lg d c).1 (lg.From+(lg.Next+(c.length:Int))) (eK 99 (lg.First+(lg.Next+(c.length:Int))) (cB (c.length:Int)))
def yw (lg:Lg)(d:cq)(c:List Change):cq×Int:=aQ (vX lg d c).1
def jh:List Change->Int
  | []=>0
  | x::r=>if iT x=0 then jh r else iT x
def mJ (lg:Lg)(c:List Change):Int:=if 62<c.length then 2 else if lg.Many-lg.Next<(c.length:Int)+1 then 9 else jh c
def cQ (lg:Lg)(d:cq)(c:List Change):Lg×cq×Int :=
  if ¬ mJ lg c=0 then (lg,d,mJ lg c)
  else if ¬ (eC lg d c).2=0 then (lg,eC lg d c)
  else if ¬ (uN lg d c).2=0 then (lg,uN lg d c)
  else if ¬ (vX lg d c).2=0 then (lg,vX lg d c)
  else if ¬ (yw lg d c).2=0 then (lg,yw lg d c)
  else (⟨lg.From,lg.Many,lg.First,lg.Next+(c.length:Int)+1⟩,(yw lg d c).1,0)
section
variable {lg:Lg} {d dm:cq} {c:List Change} {i n m:Nat} {x:Change} {Z:cq×Int}
theorem Vp (h:lZ lg dm (c.drop i) i=Z)(hx:c[i]? = some x)(hw:(aU dm (lg.From+lg.Next+(i:Int)) (eK 111 (lg.First+lg.Next+(i:Int)) (lI x).1)).2=0) :
 lZ lg (aU dm (lg.From+lg.Next+(i:Int)) (eK 111 (lg.First+lg.Next+(i:Int)) (lI x).1)).1 (c.drop (i+1)) (i+1)=Z:=by
 simp_all [lZ,drop_at,if_pos]
theorem Oq (h:lZ lg dm (c.drop i) i=Z)(hx:c[i]? = some x)(hw:¬ (aU dm (lg.From+lg.Next+(i:Int)) (eK 111 (lg.First+lg.Next+(i:Int)) (lI x).1)).2=0) :
 Z=aU dm (lg.From+lg.Next+(i:Int)) (eK 111 (lg.First+lg.Next+(i:Int)) (lI x).1):=by
 simp_all [lZ,drop_at,if_neg]
theorem Kz (h:lZ lg dm (c.drop i) i=Z)(hi:c.length<=i):Z=(dm,0):=by
 grind [lZ,List.drop_of_length_le]
theorem LZ (h:Z=lZ lg d c 0)(hz:¬ Z.2=0):eC lg d c=(Z.1,Z.2):=by
 simp_all [eC,if_neg]
theorem Ot (h:lZ lg d c 0=(dm,0))(hl:lg.Next+(c.length:Int)+1<lg.Many):eC lg d c=((aU dm (lg.From+(lg.Next+(c.length:Int)+1)) ⟨#[]⟩).1,(aU dm (lg.From+(lg.Next+(c.length:Int)+1)) ⟨#[]⟩).2):=by
 unfold eC;grind
theorem L5 (h:lZ lg d c 0=(dm,0))(hl:¬ lg.Next+(c.length:Int)+1<lg.Many):eC lg d c=(dm,0):=by
 unfold eC;grind
theorem AA (h:gw n m d)(hd:d.Down=false){i:Int}(h0:0<=i)(h1:i<(n:Int)):(cW d i).2=0/\(cW d i).1.size=48:=by
 have hn:=h.nl
 obtain ⟨x,hx⟩:∃x,d.Now[i.toNat]? = some x:=⟨_,List.getElem?_eq_getElem ae⟩
 rw [sr hd h0 hx]
 exact ⟨rfl,h.ns x (List.mem_of_getElem? hx)⟩
theorem EH (h:iT x=0):(lI x).2=0/\(lI x).1.size<=41:=by
 obtain ⟨_,_,h3,h4⟩:=iM h
 exact ⟨by simp_all [lI,if_pos],by grind [mD]⟩
theorem KA:∀ (c:List Change) (d:cq) (i m:Nat),gw n m d->gw n (m+c.length) (lZ lg d c i).1
 | [],d,i,m,h=>by unfold lZ;simpa using h
 | x::r,d,i,m,h=>by
  unfold lZ
  have h1:=h.write (lg.From+lg.Next+(i:Int)) (eK 111 (lg.First+lg.Next+(i:Int)) (lI x).1)
  split
  .
   have:=KA r _ (i+1) (m+1) h1
   rw [List.length_cons,show m+(r.length+1)=m+1+r.length by omega];exact this
  exact h1.up (by rw [List.length_cons];omega)
theorem EI (h:gw n m d):gw n (m+c.length+1) (eC lg d c).1:=by
 have h1:=KA (lg:=lg) c d 0 m h
 unfold eC
 split
 .
  split
  .exact h1.write _ _
  exact h1.up ae
 exact h1.up ae
theorem KB (h:gw n m d):gw n (m+c.length+1) (uN lg d c).1:=(EI h).flush
theorem KC (h:gw n m d):gw n (m+c.length+2) (vX lg d c).1:=(KB h).write _ _
theorem KD (h:gw n m d):gw n (m+c.length+2) (yw lg d c).1:=(KC h).flush
theorem yU (h:gw n m d):gw n (m+c.length+2) (cQ lg d c).2.1:=by
 unfold cQ
 (repeat' split)
 .exact h.up ae
 .exact (EI h).up ae
 .exact (KB h).up ae
 .exact KC h
 .exact KD h
 grind [KD]
theorem tj:∀ {c:List Change},jh c=0 -> ∀x∈c,iT x=0
 | [],_,x,hx=>by cases hx
 | y::r,h,x,hx=>by
  unfold jh at h
  split at h
  .
   rename_i h0
   rcases List.mem_cons.1 hx with rfl|hx
   .exact h0
   exact tj h x hx
  exact absurd h af
theorem Ou {f:Int}(h:jh (c.drop i)=f)(hx:c[i]? = some x)(h0:iT x=0):jh (c.drop (i+1))=f:=by
 simp_all [jh,drop_at,if_pos]
theorem EJ {f:Int}(h:jh (c.drop i)=f)(hx:c[i]? = some x)(h0:¬ iT x=0):f=iT x:=by
 simp_all [jh,drop_at,if_neg]
theorem I3 {f:Int}(h:jh (c.drop i)=f)(hi:c.length<=i):f=0:=by
 grind [jh,List.drop_of_length_le]
theorem Ov (h:62<c.length):cQ lg d c=(lg,d,2):=by
 simp_all [mJ,cQ,if_pos]
theorem Ow (h:¬ 62<c.length)(h':lg.Many-lg.Next<(c.length:Int)+1):cQ lg d c=(lg,d,9):=by
 simp_all [mJ,cQ,if_neg,if_pos]
theorem L6 {f:Int}(h:¬ 62<c.length)(h':¬ lg.Many-lg.Next<(c.length:Int)+1)(hf:jh c=f)(h0:¬ f=0):cQ lg d c=(lg,d,f):=by
 simp_all [mJ,cQ,if_neg,if_pos]
theorem KE (h:¬ 62<c.length)(h':¬ lg.Many-lg.Next<(c.length:Int)+1)(hf:jh c=0):mJ lg c=0:=by
 simp_all [mJ,if_neg]
theorem T2 (h:mJ lg c=0)(ha:¬ (eC lg d c).2=0):cQ lg d c=(lg,(eC lg d c).1,(eC lg d c).2):=by
 simp_all [cQ,if_neg,if_pos]
theorem T3 (h:mJ lg c=0)(ha:(eC lg d c).2=0)(hb:¬ (uN lg d c).2=0):cQ lg d c=(lg,(uN lg d c).1,(uN lg d c).2):=by
 simp_all [cQ,if_neg,if_pos]
theorem T4 (h:mJ lg c=0)(ha:(eC lg d c).2=0)(hb:(uN lg d c).2=0)(hc:¬ (vX lg d c).2=0):cQ lg d c=(lg,(vX lg d c).1,(vX lg d c).2):=by
 simp_all [cQ,if_neg,if_pos]
theorem T5 (h:mJ lg c=0)(ha:(eC lg d c).2=0)(hb:(uN lg d c).2=0)(hc:(vX lg d c).2=0)(hd:¬ (yw lg d c).2=0):cQ lg d c=(lg,(yw lg d c).1,(yw lg d c).2):=by
 simp_all [cQ,if_neg,if_pos]
theorem I4 (h:mJ lg c=0)(ha:(eC lg d c).2=0)(hb:(uN lg d c).2=0)(hc:(vX lg d c).2=0)(hd:(yw lg d c).2=0):cQ lg d c=(⟨lg.From,lg.Many,lg.First,lg.Next+(c.length:Int)+1⟩,(yw lg d c).1,0):=by
 simp_all [cQ,if_neg]
end
end
section
theorem I5 {α:Type}[DecidableEq α]:∀ (a b:List α),a.Nodup->(∀x∈a,x∈b)->a.length<=b.length
 | [],b,_,_=>Nat.zero_le _
 | x::a,b,hn,h=>by
  obtain ⟨h1,h2⟩:=List.nodup_cons.1 hn
  have hx:=h x (List.mem_cons_self ..)
  have:=I5 a (b.erase x) h2 (fun y hy=>(List.mem_erase_of_ne (fun e=>h1 az)).2 (h y (List.mem_cons_of_mem _ hy)))
  grind
def kHp (p:Place):ByteArray:=kH++bS p.aD++bS p.Slot
def Vq:List Place:=(List.range 24).map (fun i=>⟨((i / 6+1:Nat):Int),((i % 6:Nat):Int)⟩)
theorem Ox {p:Place}(h:bq p=0):p∈Vq:=by
 have h1:=bP h
 refine List.mem_map.2 ⟨((p.aD.toNat-1)*6+p.Slot.toNat),List.mem_range.2 ae,?_⟩
 obtain ⟨a,b⟩:=p
 grind
def KF (H T:List Int):List ByteArray:=Vq.map kHp++T.map (fun i=>kT++bF i)++H.map (fun i=>kW++bF i)++[kX]
theorem Oy {H T:List Int}(h1:H.length<=24)(h2:T.length<=10):(KF H T).length<=59:=by
 grind [KF,Vq,List.length_append,List.length_map,List.length_range,List.length_cons,List.length_nil]
section
variable {r a b:aB}
theorem C9 (h:Inv r){H T:List Int}(hH:∀x∈r.Held,x.ak∈H)(hT:∀t∈r.Things,t.ID∈T):∀c∈aY r,c.Key∈KF H T:=fun c hc=>by
 obtain ⟨q1,q2,q3,q4,q5⟩:=iL h
 unfold aY rowsOf at hc
 rcases List.mem_append.1 hc with hc|hc
 .
  rcases List.mem_append.1 hc with hc|hc
  .
   rcases List.mem_append.1 hc with hc|hc
   .
    obtain ⟨x,hx,rfl⟩:=List.mem_map.1 hc
    exact List.mem_append_left _ (List.mem_append_left _ (List.mem_append_left _ (List.mem_map.2 ⟨x.Place,Ox (q1.Kt hx).1,rfl⟩)))
   obtain ⟨x,hx,rfl⟩:=List.mem_map.1 hc
   have hx2:=(CP _).2.2.1 x hx
   exact List.mem_append_left _ (List.mem_append_left _ (List.mem_append_right _ (List.mem_map.2 ⟨x.ID,hT x hx2,rfl⟩)))
  obtain ⟨x,hx,rfl⟩:=List.mem_map.1 hc
  have h1:=q1.once x hx
  have h2:cN (aN r).Notes x.ID=0:=eH
  obtain ⟨y,hy,e⟩:=List.countP_pos_iff.1 (show 0<cH (aN r).Held x.ID by omega)
  have e:y.ak=x.ID:=az
  rw [q3] at hy
  exact List.mem_append_left _ (List.mem_append_right _ (List.mem_map.2 ⟨x.ID,e▸hH y hy,rfl⟩))
 rw [List.mem_singleton.1 hc]
 exact List.mem_append_right _ (List.mem_singleton.2 rfl)
theorem KG (ha:Inv a)(hb:Inv b){H T:List Int}(hH:H.length<=24)(hT:T.length<=10)(a1:∀x∈a.Held,x.ak∈H)(a2:∀t∈a.Things,t.ID∈T)(b1:∀x∈b.Held,x.ak∈H)(b2:∀t∈b.Things,t.ID∈T) :
 (bE (aY a) (aY b)).length<=59:=by
 have hr:=qD (eZ ha) (eZ hb)
 have hn:((bE (aY a) (aY b)).map Change.Key).Nodup:=by
  grind [qE]
 have:=I5 _ (KF H T) hn (fun k hk=>by
  obtain ⟨x,hx,rfl⟩:=List.mem_map.1 hk
  rcases (mem_merge (eZ ha) (eZ hb)).1 hx with ⟨c,hc,_,rfl⟩ | ⟨h,_⟩
  .exact C9 ha a1 a2 c hc
  grind [C9])
 grind [List.length_map,Nat.le_trans,Oy]
def GK (a b:aB):Prop:=(∀x∈a.Held,∃y∈b.Held,y.ak=x.ak)/\(∀t∈a.Things,∃s∈b.Things,s.ID=t.ID)
theorem GK.refl (a:aB):GK a a:=⟨fun x hx=>⟨x,hx,rfl⟩,fun t ht=>⟨t,ht,rfl⟩⟩
theorem Sb (ha:Inv a)(hb:Inv b)(h:GK a b∨GK b a):(bE (aY a) (aY b)).length<=59:=by
 rcases h with h|h
 .exact KG ha hb (H:=b.Held.map Held.ak) (T:=b.Things.map aA.ID) (by grind [List.length_map,sh]) (by rw [List.length_map];exact hb.jG)
   (fun x hx=>by obtain ⟨y,hy,e⟩:=h.1 x hx;grind) (fun x hx=>by obtain ⟨y,hy,e⟩:=h.2 x hx;grind)
   (fun x hx=>List.mem_map.2 ⟨x,hx,rfl⟩) (fun x hx=>List.mem_map.2 ⟨x,hx,rfl⟩)
 exact KG ha hb (H:=a.Held.map Held.ak) (T:=a.Things.map aA.ID) (by grind [List.length_map,sh]) (by rw [List.length_map];exact ha.jG)
  (fun x hx=>List.mem_map.2 ⟨x,hx,rfl⟩) (fun x hx=>List.mem_map.2 ⟨x,hx,rfl⟩)
  (fun x hx=>by obtain ⟨y,hy,e⟩:=h.1 x hx;grind) (fun x hx=>by obtain ⟨y,hy,e⟩:=h.2 x hx;grind)
theorem Da {ws:List ak}{nw nt:Int}:GK (ez ⟨ws,r.Things,r.Held,r.Notes,nw,nt⟩) r:=by
 have h:=CP (⟨ws,r.Things,r.Held,r.Notes,nw,nt⟩:aB)
 exact ⟨fun x hx=>⟨x,h.1 x hx,rfl⟩,fun t ht=>⟨t,h.2.2.1 t ht,rfl⟩⟩
theorem Vr (h:Inv r){a:jy}(hm:(dU r a).2=0):GK r (dU r a).1∨GK (dU r a).1 r:=by
 have n1:=h.pO
 unfold dU at hm ⊢
 by_cases h1:a.Kind=(⟨#[109,97,107,101]⟩:ByteArray)
 .
  rw [if_pos h1] at hm ⊢
  obtain ⟨hk,hf,hl,ht,hw,he⟩:=zX hm
  obtain ⟨hp,ha⟩:=jr hf
  have hpl:=bP hp
  rw [he ae]
  exact .inl ⟨fun x hx=>⟨x,(mC h.good ha ae).2 (.inr hx),rfl⟩,fun t ht=>⟨t,List.mem_append_left _ ht,rfl⟩⟩
 rw [if_neg h1] at hm ⊢
 by_cases h2:a.Kind=(⟨#[103,105,118,101]⟩:ByteArray)
 .
  rw [if_pos h2] at hm ⊢
  obtain ⟨hg,hf,hr,hw,hd,he⟩:=zY hm
  obtain ⟨hp,ha⟩:=jr hf
  have hpl:=bP hp
  obtain ⟨_,hgm,_⟩:=h.get hg
  obtain ⟨Kf,hid,hth,_⟩:=h.derive hgm hw hd
  rw [he ae]
  exact .inl ⟨fun x hx=>⟨x,(mC h.good ha ae).2 (.inr hx),rfl⟩,fun t ht=>⟨t,ht,rfl⟩⟩
 rw [if_neg h2] at hm ⊢
 by_cases h3:a.Kind=(⟨#[109,111,118,101]⟩:ByteArray)
 .
  rw [if_pos h3] at hm ⊢
  obtain ⟨hg,hf,he⟩:=zZ hm
  obtain ⟨hp,ha⟩:=jr hf
  obtain ⟨hpf,hgm,hat,h1,_⟩:=h.get hg
  rw [he]
  have hi:(aI r a.P).1.ID≠0:=ae
  have hg1:Good (fW r.Held a.P 0):=mB h.good hpf
  have hne:¬ (⟨a.P.aD,a.A⟩:Place)=a.P:=fun e=>by grind
  have ha1:oI (fW r.Held a.P 0) ⟨a.P.aD,a.A⟩=0:=by rw [CK h.good hpf hne];omega
  refine .inr ⟨fun x hx=>?_,fun t ht=>⟨t,ht,rfl⟩⟩
  rcases (mC hg1 ha1 hi).1 hx with e|hx
  .exact ⟨⟨a.P,(aI r a.P).1.ID⟩,at_mem h.good hat.symm hi,by rw [e]⟩
  exact ⟨x,Gk h.good hat.symm hi hx,rfl⟩
 rw [if_neg h3] at hm ⊢
 by_cases h4:a.Kind=(⟨#[100,114,111,112]⟩:ByteArray)
 .
  rw [if_pos h4] at hm ⊢
  rw [(Aa hm).2];grind [Da]
 rw [if_neg h4] at hm ⊢
 by_cases h5:a.Kind=(⟨#[114,101,118,111,107,101]⟩:ByteArray)
 .
  rw [if_pos h5] at hm ⊢
  rw [(vI hm).2];grind [Da]
 rw [if_neg h5] at hm ⊢
 by_cases h6:a.Kind=(⟨#[119,114,105,116,101]⟩:ByteArray)
 .
  rw [if_pos h6] at hm ⊢
  rw [(xU hm).2.2]
  refine .inr ⟨fun x hx=>⟨x,hx,rfl⟩,fun t ht=>?_⟩
  grind [mem_set,List.mem_of_getElem?]
 rw [if_neg h6] at hm ⊢
 by_cases h7:a.Kind=(⟨#[115,101,110,100]⟩:ByteArray)
 .
  rw [if_pos h7] at hm ⊢
  obtain ⟨_,_,_,hc⟩:=Ab hm
  rcases hc with ⟨_,he⟩ | ⟨_,_,_,_,_,he⟩
  .rw [he];exact .inr ⟨fun x hx=>⟨x,hx,rfl⟩,fun t ht=>⟨t,ht,rfl⟩⟩
  rw [he];exact .inr ⟨fun x hx=>⟨x,hx,rfl⟩,fun t ht=>⟨t,ht,rfl⟩⟩
 rw [if_neg h7] at hm ⊢
 by_cases h8:a.Kind=(⟨#[116,97,107,101]⟩:ByteArray)
 .
  rw [if_pos h8] at hm ⊢
  obtain ⟨hy,i,n,hn,hp,hb,_,hc⟩:=Ac hm
  rcases hc with ⟨h0,hf,_,he⟩ | ⟨h0,_,he⟩
  .
   obtain ⟨h5,ha⟩:=free_at hf
   dsimp only;rw [he]
   exact .inl ⟨fun x hx=>⟨x,(mC h.good ha ae).2 (.inr hx),rfl⟩,fun t ht=>⟨t,ht,rfl⟩⟩
  dsimp only;rw [he]
  exact .inl ⟨fun x hx=>⟨x,hx,rfl⟩,fun t ht=>⟨t,ht,rfl⟩⟩
 rw [if_neg h8];grind [GK.refl]
theorem Vs (h:Inv r){a:jy}(hm:(dU r a).2=0):(bE (aY r) (aY (dU r a).1)).length<=59:=Sb h (h.do hm) (Vr h hm)
theorem vY:∀ (l:List Change),(∀c∈l,iT c=0)->jh l=0
 | [],_=>rfl
 | x::l,h=>by
  simp_all [jh,if_pos,List.mem_cons_self,vY,List.mem_cons_of_mem]
theorem LV.ok {c:Change}(h:LV c):iT c=0:=N2 (fun e=>by have:=h.k0;rw [e] at this;exact absurd this aC) (fun e=>by rw [h.g] at e;cases e) h.k8 h.v
theorem LV.gone {c:Change}(h:LV c):iT (ub c.Key)=0:=N2 (fun e=>by have:=h.k0;have e:c.Key=⟨#[]⟩:=e;rw [e] at this;exact absurd this aC) (fun _=>rfl) h.k8 (by show (0:Nat)<=24;decide)
theorem Vt (ha:Inv a)(hb:Inv b):jh (bE (aY a) (aY b))=0:=vY _ fun x hx=>by
 rcases (mem_merge (eZ ha) (eZ hb)).1 hx with ⟨c,hc,_,rfl⟩ | ⟨h,_⟩
 .exact (oZ ha c hc).gone
 exact (oZ hb x h).ok
theorem EK (ha:Inv a)(hb:Inv b):bX (aY a) (bE (aY a) (aY b))=aY b:=sq (eZ ha) (eZ hb) (fun c hc=>(oZ hb c hc).g)
theorem AB (h:Inv r):aY (aN r)=aY r:=by
 grind [aY,iL]
end
end
end Go.Proofs.YtnmpibjlnninjaaGreatDoor
