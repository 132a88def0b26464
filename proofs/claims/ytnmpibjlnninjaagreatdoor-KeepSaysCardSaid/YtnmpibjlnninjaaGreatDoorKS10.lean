import Derived.Test.YtnmpibjlnninjaaGreatDoorKS9
import Derived.Laws.OwnMore
namespace Go.Proofs.YtnmpibjlnninjaaGreatDoor
set_option linter.unusedVariables false
set_option linter.unusedSimpArgs false
set_option maxRecDepth 100000
set_option maxHeartbeats 90000000
structure KW (c:Change):Prop where
  k0:0<c.Key.size
  k8:c.Key.size<=8
  v:c.Val.size<=24
  g:c.Gone=false
theorem Tz {r:av}(h:Inv r):∀c∈rowsOf r,KW c:=by
 have a1:=h.oT;have a2:=h.qB;have a3:=h.pG;have a4:=h.pH
 intro c hc
 unfold rowsOf at hc
 rcases List.mem_append.1 hc with hc|hc
 .
  rcases List.mem_append.1 hc with hc|hc
  .
   rcases List.mem_append.1 hc with hc|hc
   .
    obtain ⟨x,hx,rfl⟩:=List.mem_map.1 hc
    have k:=h.JG hx;have k1:=k.2.1;have k2:=k.2.2
    have e:(hrow x).Key.size=3:=by grind [iz,hkey]
    have e2:(hrow x).Val.size=4:=eJ ae ae
    exact ⟨ae,ae,ae,rfl⟩
   obtain ⟨x,hx,rfl⟩:=List.mem_map.1 hc
   have k:=h.Sb hx;have k1:=k.i0;have k2:=k.i9;have k3:=k.kd;have k4:=k.ds
   have e:(lu x).Key.size=5:=by rw [<- iz,tkey k1 k2];rfl
   have e2:(lu x).Val.size=4+x.Data.size:=by show (bN x.Kind++x.Data).size=_;grind [lT,eJ]
   exact ⟨ae,ae,ae,rfl⟩
  obtain ⟨x,hx,rfl⟩:=List.mem_map.1 hc
  have k:=h.tree.mem hx
  have i1:=k.id1;have i9:=k.R0;have t1:=k.Vz;have t9:=k.VA;have b0:=k.VB;have b9:=k.VD;have f0:=k.R1;have fl:=k.R2;have q0:=k.R3;have q7:=k.R4
  have e:(nH x).Key.size=5:=by rw [<- iz,M7 ae ae];rfl
  have e2:(nH x).Val.size=16:=by
   show (bN x.aA++bN x.Rights++bN x.aU++bN x.From).size=_
   grind [lT,eJ]
  exact ⟨ae,ae,ae,rfl⟩
 rw [List.mem_singleton.1 hc]
 have e2:(Fu r).Val.size=8:=by
  show (bN r.ag++bN r.ah).size=_
  grind [lT,eJ]
 exact ⟨(by decide:0<kX.size),(by decide:kX.size<=8),ae,rfl⟩
theorem oo {r:av}(h:Inv r):∀c∈aY r,KW c:=Tz (ic h).1
theorem eY {r:av}(h:Inv r):dN (aY r):=B6 (ic h).1
theorem HV {r:av}(h:Inv r):∀c∈aY r,c.Key.size<=1000/\c.Val.size<=1000:=fun c hc=>by
 have k:=oo h c hc;have:=k.k8;have:=k.v;omega
section
open Go.RowKit
structure Turn where
  At:Int
  Data:ByteArray
  deriving DecidableEq
abbrev Turn.cs (x:Turn):List Value:=[.int .i64 x.At,.string x.Data]
abbrev Turn.val (x:Turn):Value:= .agg #[.int .i64 x.At,.string x.Data]
instance:Enc Turn:=⟨2,Turn.cs,fun _=>rfl,fun x u hu=>by simp [Turn.cs] at hu;rcases hu with rfl|rfl <;> rfl,by decide⟩
structure cU where
  Kept:List ByteArray
  Now:List ByteArray
  Wait:List Turn
  Fuse:Int
  Down:Bool
  deriving DecidableEq
def xS (n:Nat):ByteArray:=⟨(List.replicate n (0:UInt8)).toArray⟩
theorem zh (n:Nat):(xS n).size=n:=by grind [xS,ByteArray.size]
def full (s:ByteArray):ByteArray:=s++xS (48-s.size)
theorem KX {s:ByteArray}(h:s.size<=48):(full s).size=48:=by grind [full,ByteArray.size_append,zh]
def dNew (n:Nat):cU:=⟨List.replicate n (xS 48),List.replicate n (xS 48),[],-1,false⟩
def bP (d:cU):cU×Int :=
  if d.Down=true then (d,10) else if d.Fuse=0 then (⟨d.Kept,d.Now,d.Wait,-1,true⟩,10) else (⟨d.Kept,d.Now,d.Wait,max (d.Fuse-1) (-1),d.Down⟩,0)
def cx (d:cU)(i:Int):ByteArray×Int :=
  if d.Down=true then (⟨#[]⟩,10) else if i<0∨(d.Now.length:Int)<=i then (⟨#[]⟩,1) else ((d.Now[i.toNat]?).getD ⟨#[]⟩,0)
def aC (d:cU)(i:Int)(s:ByteArray):cU×Int :=
  if i<0∨(d.Now.length:Int)<=i∨48<s.size then (d,1)
  else if (bP d).2=0 then (⟨(bP d).1.Kept,(bP d).1.Now.set i.toNat (full s),(bP d).1.Wait++[⟨i,full s⟩],(bP d).1.Fuse,(bP d).1.Down⟩,0) else bP d
def au (d:cU):cU×Int :=
  if (bP d).2=0 then (⟨(bP d).1.Now,(bP d).1.Now,[],(bP d).1.Fuse,(bP d).1.Down⟩,0) else bP d
def Sc (k:Int)(i:Nat):Bool:=decide (k / ((2 ^ (i % 64):Nat):Int) % 2=1)
def pP (k:Int)(l:List ByteArray)(p:Turn×Nat):List ByteArray:=if Sc k p.2=true then l.set p.1.At.toNat p.1.Data else l
def oU (k:Int)(w:List Turn)(l:List ByteArray):List ByteArray:=w.zipIdx.foldl (pP k) l
def iE (d:cU)(k:Int):cU:=⟨oU k d.Wait d.Kept,oU k d.Wait d.Kept,[],-1,false⟩
structure gy (n m:Nat)(d:cU):Prop where
  kl:d.Kept.length=n
  nl:d.Now.length=n
  ks:∀s∈d.Kept,s.size=48
  ns:∀s∈d.Now,s.size=48
  wl:d.Wait.length<=m
  KE:∀t∈d.Wait,0<=t.At/\t.At<(n:Int)/\t.Data.size=48
  f0 : -1<=d.Fuse
  f1:d.Fuse<=9223372036854775807
section
variable {n m:Nat} {d:cU}
theorem Dj (n:Nat):gy n 0 (dNew n):=⟨by simp [dNew],by simp [dNew],fun s hs=>by
 rw [(List.mem_replicate.1 hs).2,zh],fun s hs=>by rw [(List.mem_replicate.1 hs).2,zh],Nat.le_refl _,fun t ht=>(by cases ht),(by show (-1:Int) <= -1;decide),(by show (-1:Int)<=9223372036854775807;decide)⟩
theorem gy.up (h:gy n m d){k:Nat}(hk:m<=k):gy n k d:=⟨h.kl,h.nl,h.ks,h.ns,Nat.le_trans h.wl hk,h.KE,h.f0,h.f1⟩
theorem zj (h:d.Down=true):bP d=(⟨d.Kept,d.Now,d.Wait,d.Fuse,true⟩,10):=by unfold bP;rw [if_pos h];cases d;grind
theorem tE (h:d.Down=false)(f:d.Fuse=0):bP d=(⟨d.Kept,d.Now,d.Wait,-1,true⟩,10):=by simp_all [bP,if_neg,if_pos]
theorem uK (h:d.Down=false)(f:¬ d.Fuse=0):bP d=(⟨d.Kept,d.Now,d.Wait,max (d.Fuse-1) (-1),false⟩,0):=by simp_all [bP,if_neg]
theorem zk {i:Int}(h:d.Down=true):cx d i=(⟨#[]⟩,10):=by simp_all [cx,if_pos]
theorem rY {i:Int}(h:d.Down=false)(hi:i<0∨(d.Now.length:Int)<=i):cx d i=(⟨#[]⟩,1):=by simp_all [cx,if_neg,if_pos]
theorem qY {i:Int}{x:ByteArray}(h:d.Down=false)(hi:0<=i)(hx:d.Now[i.toNat]? = some x):cx d i=(x,0):=by
 have:=(List.getElem?_eq_some_iff.1 hx).1
 simp_all [cx,if_neg]
theorem m5 {i:Int}{x:ByteArray}(hi:i<0∨(d.Now.length:Int)<=i∨48<x.size):aC d i x=(d,1):=by simp_all [aC,if_pos]
theorem zn {i:Int}{x:ByteArray}(h0:0<=i)(h1:i<(d.Now.length:Int))(h2:x.size<=48)(h:¬ (bP d).2=0):aC d i x=bP d:=by simp_all [aC,if_neg]
theorem iO {i:Int}{x:ByteArray}(h0:0<=i)(h1:i<(d.Now.length:Int))(h2:x.size<=48)(h:(bP d).2=0) :
 aC d i x=(⟨(bP d).1.Kept,(bP d).1.Now.set i.toNat (full x),(bP d).1.Wait++[⟨i,full x⟩],(bP d).1.Fuse,(bP d).1.Down⟩,0):=by simp_all [aC,if_neg,if_pos]
theorem oq (d:cU):(bP d).1.Kept=d.Kept/\(bP d).1.Now=d.Now/\(bP d).1.Wait=d.Wait:=by
 unfold bP;grind
theorem gy.step (h:gy n m d):gy n m (bP d).1:=by
 obtain ⟨e1,e2,e3⟩:=oq d
 have f0:=h.f0;have f1:=h.f1
 refine ⟨by rw [e1];exact h.kl,by rw [e2];exact h.nl,by rw [e1];exact h.ks,by rw [e2];exact h.ns,by rw [e3];exact h.wl,by rw [e3];exact h.KE,?_,?_⟩ <;>
  (grind [bP])
theorem JH {l:List ByteArray}(h:∀s∈l,s.size=48){i:Nat}{x:ByteArray}(hx:x.size=48):∀s∈l.set i x,s.size=48:=fun s hs=>by
 grind
theorem gy.write (h:gy n m d)(i:Int)(s:ByteArray):gy n (m+1) (aC d i s).1:=by
 unfold aC
 split
 .exact h.up (Nat.le_succ m)
 rename_i hb
 split
 .
  have hs:=h.step
  have hf:=KX (s:=s) ae
  have e:=(oq d).2.1
  have nl:=h.nl
  refine ⟨hs.kl,aB,hs.ks,JH hs.ns hf,by dsimp only;rw [List.length_append,List.length_singleton];have:=hs.wl;omega,fun t ht=>?_,hs.f0,hs.f1⟩
  rcases List.mem_append.1 ht with ht|ht
  .exact hs.KE t ht
  grind
 exact h.step.up (Nat.le_succ m)
theorem gy.flush (h:gy n m d):gy n m (au d).1:=by
 unfold au
 have hs:=h.step
 split
 .exact ⟨hs.nl,hs.nl,hs.ns,hs.ns,Nat.zero_le _,fun t ht=>aB,hs.f0,hs.f1⟩
 omega
theorem Nj (k:Int):∀ (w:List Turn) (j:Nat) (l:List ByteArray),(∀s∈l,s.size=48)->(∀t∈w,t.Data.size=48)->(((w.zipIdx j).foldl (pP k) l).length=l.length /\ ∀s∈(w.zipIdx j).foldl (pP k) l,s.size=48)
 | [],j,l,h,hw=>⟨rfl,h⟩
 | t::w,j,l,h,hw=>by
  rw [List.zipIdx_cons,List.foldl_cons]
  have h1:(pP k l (t,j)).length=l.length:=by unfold pP;split <;> simp
  have h2:∀s∈pP k l (t,j),s.size=48:=by
   unfold pP;split
   .exact JH h (hw t (List.mem_cons_self ..))
   exact h
  obtain ⟨a,b⟩:=Nj k w (j+1) _ h2 (fun t ht=>hw t (List.mem_cons_of_mem _ ht))
  exact ⟨a.trans h1,b⟩
theorem FE {k:Int}{w:List Turn}{l:List ByteArray}:(oU k w l).length=l.length:=by
 unfold oU
 generalize w.zipIdx=z
 induction z generalizing l with
 | nil=>rfl
 | cons p z ih=>grind [pP]
theorem gy.restart (h:gy n m d)(k:Int):gy n 0 (iE d k):=by
 obtain ⟨a,b⟩:=Nj k d.Wait 0 d.Kept h.ks (fun t ht=>(h.KE t ht).2.2)
 exact ⟨a.trans h.kl,a.trans h.kl,b,b,Nat.le_refl _,fun t ht=>(by cases ht),(by show (-1:Int) <= -1;decide),(by show (-1:Int)<=9223372036854775807;decide)⟩
theorem gy.fine (h:gy n m d)(hn:n<=100000)(hm:m<=100000):d.Kept.length=d.Now.length/\d.Now.length<=100000/\d.Wait.length<=100000 /\ -1<=d.Fuse/\d.Fuse<=9223372036854775807:=by
 have h1:=h.kl;have h2:=h.nl;have h3:=h.wl;have h4:=h.f0;have h5:=h.f1
 omega
theorem pQ (hd:d.Down=false)(hf:d.Fuse = -1):bP d=(⟨d.Kept,d.Now,d.Wait,-1,false⟩,0):=by grind [uK]
theorem FG {i:Int}{x:ByteArray}(hd:d.Down=false)(hf:d.Fuse = -1)(h:¬ (aC d i x).2=0):(aC d i x).1=d:=by
 grind [m5,iO,pQ]
theorem HX {i:Int}{x:ByteArray}(hd:d.Down=false)(hf:d.Fuse = -1)(h:(aC d i x).2=0):aC d i x=(⟨d.Kept,d.Now.set i.toNat (full x),d.Wait++[⟨i,full x⟩],-1,false⟩,0)/\0<=i/\i<(d.Now.length:Int)/\x.size<=48:=by
 grind [m5,iO,pQ]
theorem FH {i:Int}{x:ByteArray}(hd:d.Down=false)(hf:d.Fuse = -1):(aC d i x).1.Down=false/\(aC d i x).1.Fuse = -1:=by
 grind [HX,FG]
theorem lU (hd:d.Down=false)(hf:d.Fuse = -1):au d=(⟨d.Now,d.Now,[],-1,false⟩,0):=by
 unfold au;rw [pQ hd hf,if_pos rfl]
theorem zo {i:Nat}{x:ByteArray}(hd:d.Down=false)(hx:d.Now[i]? = some x):cx d (i:Int)=(x,0):=qY hd ae aB
end
end
section
open Go Go.RowKit
def u8 (n:Int):UInt8:=UInt8.ofNat n.toNat
theorem zp {n:Int}(h:0<=n/\n<=255):(((u8 n).toNat:Nat):Int)=n:=by
 grind [u8,UInt8.toNat_ofNat']
theorem KY {n:Nat}(h:n<=255):(UInt8.ofNat n).toNat=n:=by
 grind [UInt8.toNat_ofNat']
theorem fO {n:Int}(h:0<=n/\n<=255):(Value.int .u8 n).cells.toList=Enc.cells (u8 n):=by
 show [Value.int .u8 n]=[Value.int .u8 (((u8 n).toNat:Nat):Int)]
 rw [zp h]
theorem eu {n:Nat}(h:n<=255):(Value.int .u8 ((n:Nat):Int)).cells.toList=Enc.cells (UInt8.ofNat n):=by
 show [Value.int .u8 (n:Int)]=[Value.int .u8 (((UInt8.ofNat n).toNat:Nat):Int)]
 rw [KY h]
theorem dW (l:List UInt8):(⟨l.toArray⟩:ByteArray).size=l.length:=ck
section
variable {α:Type} [Enc α]
theorem fI:([]:List Value).map (fun v=>v.cells.toList)=([]:List α).map Enc.cells:=rfl
theorem cy {v:Value}{x:α}{vs:List Value}{l:List α}(h:v.cells.toList=Enc.cells x)(hs:vs.map (fun v=>v.cells.toList)=l.map Enc.cells) :
 (v::vs).map (fun v=>v.cells.toList)=(x::l).map Enc.cells:=by
 grind
end
end
section
open Go Go.RowKit
structure Lg where
  From:Int
  Many:Int
  First:Int
  Next:Int
  deriving DecidableEq
def cz (n:Int):ByteArray:=⟨#[u8 (n % 256),u8 (n / 256 % 256),u8 (n / 65536 % 256),u8 (n / 16777216 % 256)]⟩
theorem jX (n:Int):(cz n).size=4:=rfl
theorem uL (n:Int):bl (cz n)=[u8 (n % 256),u8 (n / 256 % 256),u8 (n / 65536 % 256),u8 (n / 16777216 % 256)]:=rfl
theorem TA {a b:Int}(ha:0<=a/\a<=255)(hb:0<=b/\b<=255)(h:u8 a=u8 b):a=b:=by
 grind [zp]
theorem KZ {a b:Int}(ha:0<=a/\a<4294967296)(hb:0<=b/\b<4294967296)(h:cz a=cz b):a=b:=by
 have h1:bl (cz a)=bl (cz b):=by rw [h]
 rw [uL,uL] at h1
 simp only [List.cons.injEq,and_true] at h1
 grind [TA]
def eB (k:Int)(n:Int)(s:ByteArray):ByteArray:=⟨#[u8 k]⟩++cz n++⟨#[UInt8.ofNat s.size,UInt8.ofNat (s.size / 256)]⟩++s
theorem JI (k n:Int)(s:ByteArray):bl (eB k n s)=u8 k::u8 (n % 256)::u8 (n / 256 % 256)::u8 (n / 65536 % 256)::u8 (n / 16777216 % 256)::UInt8.ofNat s.size::UInt8.ofNat (s.size / 256)::bl s:=by
 rfl
theorem oV (k n:Int)(s:ByteArray):(eB k n s).size=7+s.size:=by
 grind [iz,JI,List.length_cons]
def dr (s:ByteArray):Nat:=bO s 5+256*bO s 6
def sH (s:ByteArray):ByteArray:=s.extract 7 (7+dr s)
def Cd (s:ByteArray)(n k:Int):Bool:=decide (s.extract 1 5=cz n)&&decide (dr s<=41)&&decide (bO s 0=99)&&decide (sH s=cz k)
def G9 (s:ByteArray)(n:Int):Bool:=decide (s.extract 1 5=cz n)&&decide (dr s<=41)&&decide (bO s 0=111)&&decide ((tA (sH s)).2=0)
def iP:List ByteArray->Int->List (List Change)->List Change->Nat->Nat->List (List Change)×Nat
  | [],_,out,_,used,_=>(out,used)
  | s::r,n,out,deed,used,pos =>
    if Cd s n (deed.length:Int)=true then iP r (n+1) (out++[deed]) [] (pos+1) (pos+1)
    else if G9 s n=true then iP r (n+1) out (deed++[(tA (sH s)).1]) used (pos+1)
    else (out,used)
def scan (l:List ByteArray)(first:Int):List (List Change)×Nat:=iP l first [] [] 0 0
section
variable {l:List ByteArray} {first n:Int} {out:List (List Change)} {deed:List Change} {used pos i:Nat} {s:ByteArray} {Z:List (List Change)×Nat}
theorem drop_at {α:Type}{l:List α}{i:Nat}{s:α}(h:l[i]? = some s):l.drop i=s::l.drop (i+1):=by
 grind [List.getElem?_eq_some_iff,List.drop_eq_getElem_cons]
theorem Nk (h:iP (l.drop i) (first+(i:Int)) out deed used i=Z)(hs:l[i]? = some s)(hc:Cd s (first+(i:Int)) (deed.length:Int)=true) :
 iP (l.drop (i+1)) (first+((i+1:Nat):Int)) (out++[deed]) [] (i+1) (i+1)=Z:=by
 rw [drop_at hs] at h
 unfold iP at h
 grind
theorem Qy (h:iP (l.drop i) (first+(i:Int)) out deed used i=Z)(hs:l[i]? = some s)(hc:Cd s (first+(i:Int)) (deed.length:Int)=false)(ho:G9 s (first+(i:Int))=true) :
 iP (l.drop (i+1)) (first+((i+1:Nat):Int)) out (deed++[(tA (sH s)).1]) used (i+1)=Z:=by
 rw [drop_at hs] at h
 unfold iP at h
 grind
theorem Dk (h:iP (l.drop i) (first+(i:Int)) out deed used i=Z)(hs:l[i]? = some s)(hc:Cd s (first+(i:Int)) (deed.length:Int)=false)(ho:G9 s (first+(i:Int))=false):Z=(out,used):=by
 simp_all [iP,drop_at,if_neg]
theorem TB (h:iP (l.drop i) (first+(i:Int)) out deed used i=Z)(hl:l.length<=i):Z=(out,used):=by
 rw [List.drop_of_length_le hl] at h
 exact h.symm
theorem uM {k:Int}(h:¬ bO s 0=99):Cd s n k=false:=by grind [Cd]
theorem Dl (h:¬ bO s 0=111):G9 s n=false:=by grind [G9]
theorem Dn:∀ (l:List ByteArray) (n:Int) (out:List (List Change)) (deed:List Change) (used pos:Nat),
 iP l n out deed used pos=(out,used)∨(pos<(iP l n out deed used pos).2/\(iP l n out deed used pos).2<=pos+l.length /\
  ∀l':List ByteArray,l'.take ((iP l n out deed used pos).2-pos)=l.take ((iP l n out deed used pos).2-pos) ->
   iP l' n out deed used pos=iP (l'.drop ((iP l n out deed used pos).2-pos)) (n+(((iP l n out deed used pos).2-pos:Nat):Int)) (iP l n out deed used pos).1 [] (iP l n out deed used pos).2 (iP l n out deed used pos).2)
 | [],n,out,deed,used,pos => .inl rfl
 | s::r,n,out,deed,used,pos=>by
  have key:∀ (out':List (List Change)) (ot:List Change) (ou:Nat),iP (s::r) n out deed used pos=iP r (n+1) out' ot ou (pos+1) ->
   (∀r',iP (s::r') n out deed used pos=iP r' (n+1) out' ot ou (pos+1)) ->
   (pos+1<(iP r (n+1) out' ot ou (pos+1)).2/\(iP r (n+1) out' ot ou (pos+1)).2<=pos+1+r.length /\
    ∀l':List ByteArray,l'.take ((iP r (n+1) out' ot ou (pos+1)).2-(pos+1))=r.take ((iP r (n+1) out' ot ou (pos+1)).2-(pos+1)) ->
     iP l' (n+1) out' ot ou (pos+1)=iP (l'.drop ((iP r (n+1) out' ot ou (pos+1)).2-(pos+1))) (n+1+(((iP r (n+1) out' ot ou (pos+1)).2-(pos+1):Nat):Int)) (iP r (n+1) out' ot ou (pos+1)).1 [] (iP r (n+1) out' ot ou (pos+1)).2 (iP r (n+1) out' ot ou (pos+1)).2) ->
   (pos<(iP (s::r) n out deed used pos).2/\(iP (s::r) n out deed used pos).2<=pos+(s::r).length /\
    ∀l':List ByteArray,l'.take ((iP (s::r) n out deed used pos).2-pos)=(s::r).take ((iP (s::r) n out deed used pos).2-pos) ->
     iP l' n out deed used pos=iP (l'.drop ((iP (s::r) n out deed used pos).2-pos)) (n+(((iP (s::r) n out deed used pos).2-pos:Nat):Int)) (iP (s::r) n out deed used pos).1 [] (iP (s::r) n out deed used pos).2 (iP (s::r) n out deed used pos).2):=by
   intro out' ot ou e e' h
   rw [e]
   generalize iP r (n+1) out' ot ou (pos+1)=R at h
   obtain ⟨h1,h2,h3⟩:=h
   refine ⟨ae,by rw [List.length_cons];omega,fun l' hl'=>?_⟩
   obtain ⟨m,hm⟩:∃m,R.2-pos=m+1:=⟨R.2-pos-1,ae⟩
   have hm':R.2-(pos+1)=m:=ae
   rw [hm] at hl' ⊢
   rw [hm'] at h3
   cases l' with
   | nil=>simp at hl'
   | cons s' r' =>
    rw [List.take_succ_cons,List.take_succ_cons] at hl'
    injection hl' with q1 q2
    subst q1
    rw [e',h3 r' q2,List.drop_succ_cons]
    rw [show n+1+(m:Int)=n+((m+1:Nat):Int) by omega]
  by_cases hc:Cd s n (deed.length:Int)=true
  .
   right
   have e:∀r',iP (s::r') n out deed used pos=iP r' (n+1) (out++[deed]) [] (pos+1) (pos+1):=fun r'=>by rw [iP,if_pos hc]
   rcases Dn r (n+1) (out++[deed]) [] (pos+1) (pos+1) with h|h
   .
    rw [e r,h]
    refine ⟨ae,by rw [List.length_cons];omega,fun l' hl'=>?_⟩
    dsimp only at hl' ⊢
    rw [show pos+1-pos=1 by omega] at hl' ⊢
    cases l' with
    | nil=>simp at hl'
    | cons s' r' =>
     rw [List.take_succ_cons,List.take_succ_cons] at hl'
     injection hl' with q1 q2
     subst q1
     rw [e];rfl
   exact key _ _ _ (e r) e h
  by_cases ho:G9 s n=true
  .
   have e:∀r',iP (s::r') n out deed used pos=iP r' (n+1) out (deed++[(tA (sH s)).1]) used (pos+1):=fun r'=>by rw [iP,if_neg hc,if_pos ho]
   rcases Dn r (n+1) out (deed++[(tA (sH s)).1]) used (pos+1) with h|h
   .left;rw [e r,h]
   right;exact key _ _ _ (e r) e h
  left;rw [iP,if_neg hc,if_neg ho]
theorem JJ (l:List ByteArray)(first:Int):(scan l first).2<=l.length:=by
 rcases Dn l first [] [] 0 0 with h|⟨_,h,_⟩
 .simp_all [scan,Nat.zero_le]
 grind [scan]
theorem zq {l l':List ByteArray}{first:Int}(h:l'.take (scan l first).2=l.take (scan l first).2) :
 scan l' first=iP (l'.drop (scan l first).2) (first+((scan l first).2:Int)) (scan l first).1 [] (scan l first).2 (scan l first).2:=by
 grind [scan,Dn]
end
theorem JK (s:ByteArray):bl (full s)=bl s++List.replicate (48-s.size) 0:=ck
section
variable {k n:Int} {s:ByteArray}
theorem FJ (hs:s.size<=41):bl (full (eB k n s))=u8 k::u8 (n % 256)::u8 (n / 256 % 256)::u8 (n / 65536 % 256)::u8 (n / 16777216 % 256)::UInt8.ofNat s.size::UInt8.ofNat (s.size / 256)::(bl s++List.replicate (41-s.size) 0):=by
 grind [JK,JI,oV]
theorem qZ (hs:s.size<=41):bO (full (eB k n s)) 0=(u8 k).toNat:=ck
theorem oW (hs:s.size<=41):(full (eB k n s)).extract 1 5=cz n:=iW (by
 rfl)
theorem Dp (hs:s.size<=41):dr (full (eB k n s))=s.size:=by
 unfold dr
 grind [ka,FJ,qW]
theorem Dq (hs:s.size<=41):sH (full (eB k n s))=s:=by
 unfold sH
 rw [Dp hs]
 exact iW (by
  have:=pJ (full (eB k n s)) 7 (7+s.size)
  rw [FJ hs] at this
  refine this.trans ?_
  rw [show 7+s.size=s.size+1+1+1+1+1+1+1 by omega]
  simp)
theorem Qz {c:Int}(n:Int):Cd (full (eB 99 n (cz c))) n c=true:=by
 have h:(cz c).size<=41:=by grind [jX]
 unfold Cd
 rw [oW h,Dp h,qZ h,Dq h,jX]
 simp;rfl
theorem QA {c:Int}(hs:s.size<=41)(n m:Int):Cd (full (eB 111 n s)) m c=false:=uM (by rw [qZ hs];decide)
theorem QB {c:Change}(hc:gY c=0)(n:Int):G9 (full (eB 111 n (kM c).1)) n=true:=by
 have h:(kM c).1.size<=41:=by
  grind [ig,lS]
 unfold G9
 rw [oW h,Dp h,qZ h,Dq h,Jz hc]
 simp [h];rfl
theorem QC {c:Change}(hc:gY c=0)(n:Int):(tA (sH (full (eB 111 n (kM c).1)))).1=c:=by
 grind [ig,lS,Dq,Jz]
theorem pR:bO (full ⟨#[]⟩) 0=0:=ck
theorem FK:bO (xS 48) 0=0:=ck
theorem FL:full ⟨#[]⟩=xS 48:=ck
end
def fC (n:Int):List Change->List ByteArray
  | []=>[]
  | c::l=>full (eB 111 n (kM c).1)::fC (n+1) l
theorem ij:∀ (l:List Change) (n:Int),(fC n l).length=l.length
 | [],_=>rfl
 | c::l,n=>by simp [fC,ij l]
theorem vM:∀ (l:List Change) (n:Int) (i:Nat) (c:Change),l[i]? = some c->(fC n l)[i]? = some (full (eB 111 (n+(i:Int)) (kM c).1))
 | [],_,i,c,h=>by simp at h
 | x::l,n,0,c,h=>by
  simp at h;subst h;simp [fC]
 | x::l,n,i+1,c,h=>by
  simp at h
  have:=vM l (n+1) i c h
  simp only [fC,List.getElem?_cons_succ]
  rw [this,show n+1+(i:Int)=n+((i+1:Nat):Int) by omega]
theorem FM:∀ (l:List Change) (n:Int) (r:List ByteArray) (out:List (List Change)) (deed:List Change) (used pos:Nat),(∀c∈l,gY c=0) ->
 iP (fC n l++r) n out deed used pos=iP r (n+(l.length:Int)) out (deed++l) used (pos+l.length)
 | [],n,r,out,deed,used,pos,_=>by simp [fC]
 | c::l,n,r,out,deed,used,pos,h=>by
  have hc:=h c (List.mem_cons_self ..)
  obtain ⟨_,_,h3,h4⟩:=ig hc
  have hs:(kM c).1.size<=41:=by grind [lS]
  simp only [fC,List.cons_append]
  rw [iP,if_neg (by grind [QA]),if_pos (QB hc n),QC hc,FM l _ r _ _ _ _ (fun c hc=>h c (List.mem_cons_of_mem _ hc))]
  grind
theorem JL {l:List Change}{n:Int}{r:List ByteArray}{out:List (List Change)}{used:Nat}(hl:∀c∈l,gY c=0)(hr:r=[] ∨ ∃s r',r=s::r'/\bO s 0=0) :
 iP (fC n l++full (eB 99 (n+(l.length:Int)) (cz (l.length:Int)))::r) n out [] used used=(out++[l],used+l.length+1):=by
 rw [FM l n _ _ _ _ _ hl]
 rw [iP,List.nil_append,if_pos (Qz _)]
 rcases hr with rfl|⟨s,r',rfl,hs⟩
 .rfl
 simp_all [iP,if_neg,uM,Dl]
end
section
open Go Go.RowKit
section
variable {P:Program} {n:Nat} {we:World} {X:List Nat} {L:Fm} {B F:List aj} {x y z':Operand} {v:Value} {d:Nat} {ty:TypeId} {pos:String} {eC:Array Edge} {g:Option (Nat×Bool)} {t e:TypeId} {α:Type} [Enc α] {l:List α}
theorem s.Wx {m:Nat}{i0:TypeInfo}{kd:IntKind}{z0:α}{zv:Value}(ht:qv P t=some (e,Enc.k α))(hi:P.info? e=some i0)(hz:i0.zero=some zv)(hzs:zv.cells=(Enc.cells z0).toArray)(hb:i0.bytes<=1000)(hx:ev L x=some (.int kd (m:Int)))(hy:ev L y=some (.int kd (m:Int)))(hm:m*Enc.k α<=1000000)(hd:Nat.blt d n=true) :
 Stp P n we X L B F ⟨some d,.makeSlice t x y,ty,pos,eC,g⟩ (fun b:Nat=>(d,.slice (some ⟨b,0,none⟩) m m)::L) (fun b=>aj.row e (.slice (some ⟨b,0,none⟩) m m) (List.replicate m z0)::B) (fun _=>F):=by
 intro K Q' a w ha hw hK
 obtain ⟨hu,hsz⟩:=fA (P:=P) w ht
 have hsize:i0.size=Enc.k α:=by
  grind [qv]
 have hkp:=Enc.pos (α:=α)
 have hm1:m<=m*Enc.k α:=Nat.le_mul_of_pos_right m hkp
 have hml:m<=maxLen:=by grind [maxLen]
 have hbb:i0.bytes*m<=1000*1000000:=Nat.mul_le_mul hb ae
 obtain ⟨w',hr,how,hg⟩:=run_makeSlice_full (P:=P) w 0 t e i0 zv (Enc.k α) hu hi hz hsize kd kd m ae ae hml (Nat.zero_le _)
 have hrun:(execOp a.eval ⟨some d,.makeSlice t x y,ty,pos,eC,g⟩).run P w = .ok (.value (.slice (some ⟨w.heap.size,0,none⟩) m m)) w':=by
  simp [execOp,ha.ev hx,ha.ev hy,hr]
 unfold Oper.wp
 rw [hrun,Oper.upon_value]
 have hcells:(madeCells zv.cells (m*Enc.k α)).toList=(List.replicate m z0).flatMap Enc.cells:=by
  have h1:=oC hzs m
  grind [Enc.k,madeCells,Builtin.zeroCells,List.size_toArray,Enc.len]
 rw [hcells] at how
 have hup:mH [] w w':=⟨hg.os,hg.tape,hg.output,hg.size,fun k hk _=>hg.block k hk bW⟩
 have hlt:w.heap.size<w'.heap.size:=by
  rcases how.2 with ⟨h,_⟩ | ⟨gb,cap,cur,h,_,hgg,_⟩
  .grind
  grind
 refine hK _ _ _ (ha.put d _ hd) ((hw.grow hup).new (r:=aj.row e (.slice (some ⟨w.heap.size,0,none⟩) m m) (List.replicate m z0)) ?_ (by simp [aj.row,fk]) (fun k hk=>?_))
 .
  show Own 0 e w' _ _
  grind [Own,List.length_replicate]
 simp [aj.row,fk] at hk;subst hk
 exact ⟨hlt,hw.upd.size,fun h=>by have:=(hw.own _ h).1;omega,fun h=>by have:=(hw.mR _ h).1;omega⟩
theorem s.HY {o m:Nat}{u dst:Value}{l2:List α}{A:TypeId}(i:Nat)(B':List aj)(hB:B[i]? = some (aj.row e v l))(hs:∀w,Wd we X B F w->Sl w u l2)(hx:ev L x=some dst)(hdst:dst=dL v o (Enc.k α)∨(dst=v/\o=0))(hy:ev L y=some u)(ht:qv P t=some (e,Enc.k α))
 (hm0:0<m) (hm1:m<=l2.length) (hm2:o+m<=l.length) (hm:m=l2.length∨o+m=l.length) (hB':B.set i (aj.row e v (l.take o++l2.take m++l.drop (o+m)))=B') (hd:Nat.blt d n=true) :
 Stp P n we X L B F ⟨some d,.call { callee:= .builtin .copy,args:= #[x,y],argTypes:= #[t,A] },ty,pos,eC,g⟩ (fun _:Unit=>(d,.int .i64 m)::L) (fun _=>B') (fun _=>F):=by
 intro K Q' ac w hac hw hK
 obtain ⟨hu,hsz⟩:=fA (P:=P) w ht
 have how:Own 0 e w v l:=hw.b i hB
 obtain ⟨A2,c2,rfl,h21,h22,h23⟩:=hs w hw
 have hk:=Enc.pos (α:=α)
 unfold Oper.wp
 obtain ⟨gb,cap,cur,rfl,_,hgg,hnc,hcm,hcs,htk⟩:=how.parts ae
 obtain ⟨x0,hx0⟩:∃y0,l2[0]? = some y0:=⟨_,List.getElem?_eq_getElem ae⟩
 obtain ⟨b2,off,rfl,hb2,_⟩:=h23 0 x0 hx0
 have hl3:(l2.take m).length=m:=aB
 have hsrc:∀j u,((l2.take m).flatMap Enc.cells)[j]? = some u->w.cell? ((⟨b2,off,none⟩:Addr).add j)=some u:=fun j u hj=>by
  grind [mS,addr_add,Nat.add_assoc]
 have hfl:((l2.take m).flatMap Enc.cells).length=m*Enc.k α:=by rw [eK,hl3]
 have hld:=run_loadCells_list (P:=P) w ⟨b2,off,none⟩ ((l2.take m).flatMap Enc.cells) hsrc
 rw [hfl] at hld
 have hx':∃c3,ev L x=some (.slice (some ⟨gb,o*Enc.k α,none⟩) (l.length-o) c3):=by
  rcases hdst with rfl|⟨rfl,rfl⟩
  .
   have hne:cap≠o:=ae
   simp_all [dL,if_neg,addr_add]
  grind
 obtain ⟨c3,hx'⟩:=hx'
 have hle:l.length*Enc.k α<=cap*Enc.k α:=Nat.mul_le_mul_right _ hnc
 have hol:o*Enc.k α+m*Enc.k α<=l.length*Enc.k α:=by rw [<- Nat.add_mul];exact Nat.mul_le_mul_right _ hm2
 have hst:=run_storeCells_at P gb (o*Enc.k α) e ((l2.take m).flatMap Enc.cells) 0 cur w hgg ae (lL (l2.take m))
 have hrun:(execOp ac.eval ⟨some d,.call { callee:= .builtin .copy,args:= #[x,y],argTypes:= #[t,A] },ty,pos,eC,g⟩).run P w = .ok (.value (.int .i64 m)) (w.setRow gb (cur.toList.take (o*Enc.k α)++(l2.take m).flatMap Enc.cells++cur.toList.drop (o*Enc.k α+((l2.take m).flatMap Enc.cells).length)).toArray):=by
  have hmin:Nat.min l2.length (l.length-o)=m:=aB
  simp only [Nat.add_zero] at hst
  simp [execOp,resolve,invoke,builtin,hac.ev hx',hac.ev hy,Builtin.copy_,run_underlying hu,Builtin.lenOf,Builtin.firstCells,hsz,hmin,goInt,hld,hst]
 rw [hrun,Oper.upon_value]
 have hll:(l.take o++l2.take m++l.drop (o+m)).length=l.length:=aB
 have h3:(cur.toList.take (o*Enc.k α)).length=o*Enc.k α:=aB
 have:=hw.s9 (l':=l.take o++l2.take m++l.drop (o+m)) (cs':=cur.toList.take (o*Enc.k α)++(l2.take m).flatMap Enc.cells++cur.toList.drop (o*Enc.k α+((l2.take m).flatMap Enc.cells).length)) hB hgg hcm hcs aB (by
  have e2:(o+m)*Enc.k α=o*Enc.k α+((l2.take m).flatMap Enc.cells).length:=aB
  rw [hll,List.flatMap_append,List.flatMap_append,kU l o,mI,<- htk,e2]
  exact uj _ _ _ _ ae aB) ae
 rw [hll] at this
 exact hK () _ _ (hac.put d _ hd) (hB'▸this)
end
section
variable {P:Program} {n:Nat} {we:World} {X:List Nat} {L:Fm} {B F:List aj} {ty xT e:TypeId} {x y:Operand}
end
def JM (places:List (Nat×Nat)):List Value->List (Nat×List Value)->Option (List Value)
  | cells,[]=>some cells
  | cells,(i,v)::rest=>match places[i]? with
    | none=>none
    | some (off,size)=>bif Nat.beq v.length size&&Nat.ble (off+size) cells.length then JM places (cells.take off++v++cells.drop (off+size)) rest else none
theorem FN (places:List (Nat×Nat)):∀ (parts:List (Nat×Value)) (cells:List Value),yq places cells parts=JM places cells (parts.map fun p=>(p.1,p.2.cells.toList))
 | [],cells=>rfl
 | (i,v)::rest,cells=>by
  simp only [yq,List.map_cons,JM]
  cases places[i]? with
  | none=>rfl
  | some q =>
   obtain ⟨off,size⟩:=q
   simp only [FN places rest]
theorem Ce:∀ (is:List Nat) (vs:List Value),(is.zip vs).map (fun p=>(p.1,p.2.cells.toList))=is.zip (vs.map fun v=>v.cells.toList)
 | [],vs=>by simp
 | i::is,[]=>by simp
 | i::is,v::vs=>by simp [Ce is vs]
theorem Dr:([]:List Value).map (fun v=>v.cells.toList)=[]:=rfl
theorem lF {v:Value}{vs:List Value}{u:List Value}{us:List (List Value)}(h:v.cells.toList=u)(hs:vs.map (fun v=>v.cells.toList)=us):(v::vs).map (fun v=>v.cells.toList)=u::us:=by
 grind
theorem Sl.Ds {α:Type}[Enc α]{w:World}{v:Value}{l:List α}(h:Sl w v l):v.cells.toList=[v]:=by rw [h.bF]
section
variable {P:Program} {n:Nat} {we:World} {X:List Nat} {L:Fm} {B F:List aj} {ty:TypeId}
theorem q.Dt {t:TypeId}{parts:Array (Nat×Operand)}{places:List (Nat×Nat)}{zs vs cs:List Value}{us:List (List Value)}(ht:tB P t=some (places,zs))(hp:evs L (parts.toList.map (·.2))=some vs)
 (hv:∀w,Wd we X B F w->vs.map (fun v=>v.cells.toList)=us) (hf:JM places zs ((parts.toList.map (·.1)).zip us)=some cs) :
 Qt P n we X L B F (.build t parts) ty (.agg cs.toArray):=fun q1 q2 q3 q4 a w ha hw =>
 q.build ht hp (by grind [FN,Ce]) q1 q2 q3 q4 a w ha hw
end
def Nl (Bl Fl:List aj):Prop:= ∀f∈Fl,∃r∈Bl,(∀w,r.ok w->f.ok w) /\ ∀k∈f.blk,k∈r.blk
theorem uN:Nl [] []:=fun f hf=>by grind
theorem mM {α:Type}[Enc α]{Bl Fl:List aj}{e:TypeId}{v:Value}{l:List α}(h:Nl Bl Fl):Nl (aj.row e v l::Bl) (aj.ls v l::Fl):=fun f hf=>by
 rcases List.mem_cons.1 hf with rfl|hf
 .exact ⟨_,List.mem_cons_self ..,fun w hw=>Own.sl hw,fun k hk=>Ms k hk⟩
 obtain ⟨r,hr,h1,h2⟩:=h f hf
 grind
section
variable {we w w':World} {X:List Nat} {B0 Bl Br B1 F Fl:List aj}
theorem Wd.Wy (hw:Wd we X (B0++(Bl++Br)) F w)(hl:Nl Bl Fl):Wd we X (B0++Br) (Fl++F) w:=by
 have hs:=hw.sep
 rw [bG,bG] at hs
 obtain ⟨s1,s2,s3⟩:=List.nodup_append.1 hs
 obtain ⟨s4,s5,s6⟩:=List.nodup_append.1 s2
 have hsub:∀k∈blks (B0++Br),k∈blks (B0++(Bl++Br)):=fun k hk=>by
  grind [bG]
 refine ⟨hw.upd,fun r hr=>?_,fun r hr=>?_,?_,fun k hk=>hw.own k (hsub k hk),fun k hk=>?_⟩
 .
  rcases List.mem_append.1 hr with hr|hr
  .exact hw.okB r (List.mem_append.2 (.inl hr))
  exact hw.okB r (List.mem_append.2 (.inr (List.mem_append.2 (.inr hr))))
 .
  rcases List.mem_append.1 hr with hr|hr
  .
   obtain ⟨q,hq,h1,_⟩:=hl r hr
   exact h1 w (hw.okB q (List.mem_append.2 (.inr (List.mem_append.2 (.inl hq)))))
  exact hw.okF r hr
 .grind [bG,List.nodup_append,b]
 rw [bG] at hk
 rcases List.mem_append.1 hk with hk|hk
 .
  obtain ⟨f,hf,hk⟩:=bX.1 hk
  obtain ⟨q,hq,_,h2⟩:=hl f hf
  have hb:k∈blks Bl:=bX.2 ⟨q,hq,h2 k hk⟩
  refine ⟨(hw.own k (by grind [bG])).1,fun hc=>?_⟩
  grind [bG]
 exact ⟨(hw.mR k hk).1,fun hc=>(hw.mR k hk).2 (hsub k hc)⟩
theorem Wd.wider (hw:Wd we X (B0++(Bl++Br)) F w)(hp:Wd w (blks B0++blks Br) (B1++[aj.held w (blks Br)]) [] w'):Wd w (blks B0++blks (Bl++Br)) (B1++[aj.held w (blks (Bl++Br))]) [] w':=by
 have hs:=hw.sep
 rw [bG,bG] at hs
 obtain ⟨s1,s2,s3⟩:=List.nodup_append.1 hs
 obtain ⟨s4,s5,s6⟩:=List.nodup_append.1 s2
 have hbl:∀k∈blks Bl,k<w.heap.size/\k∉blks B0++blks Br:=fun k hk=>by
  refine ⟨(hw.own k (by grind [bG])).1,fun hc=>?_⟩
  grind
 have hps:=hp.sep
 rw [gx] at hps
 obtain ⟨p1,p2,p3⟩:=List.nodup_append.1 hps
 have hb1:∀k∈blks B1,k∉blks Bl:=fun k hk hc =>
  (hbl k hc).2 ((hp.own k (by grind [gx])).2 (hbl k hc).1)
 refine ⟨hp.upd.mono fun k hk _=>?_,fun r hr=>?_,fun r hr=>aB,?_,fun k hk=>?_,fun k hk=>(by cases hk)⟩
 .grind [bG]
 .
  rcases List.mem_append.1 hr with hr|hr
  .exact hp.okB r (List.mem_append.2 (.inl hr))
  rw [List.mem_singleton.1 hr]
  intro k hk
  have hk:k∈blks (Bl++Br):=hk
  rw [bG] at hk
  rcases List.mem_append.1 hk with hk|hk
  .exact hp.upd.block k (hbl k hk).1 (hbl k hk).2
  exact hp.okB (aj.held w (blks Br)) (List.mem_append.2 (.inr (List.mem_singleton.2 rfl))) k hk
 .grind [gx,bG,List.nodup_append,b]
 rw [gx,bG] at hk
 rcases List.mem_append.1 hk with hk|hk
 .
  have h1:=hp.own k (by grind [gx])
  grind
 rcases List.mem_append.1 hk with hk2|hk2
 .exact ⟨Nat.lt_of_lt_of_le (hbl k hk2).1 hp.upd.size,fun _=>List.mem_append.2 (.inr (by grind [bG]))⟩
 exact ⟨(hp.own k (by grind [gx])).1,fun _=>List.mem_append.2 (.inr (by grind [bG]))⟩
end
section
variable {P:Program} {n:Nat} {we:World} {X:List Nat} {L:Fm} {B F:List aj} {d:Nat} {ty:TypeId} {pos:String} {eC:Array Edge} {g:Option (Nat×Bool)}
theorem s.Du {β:Type}{f:FuncId}{c:Operand}{xs:Array Operand}{ts:Array TypeId}{vs:List Value}{cap:Array Value}{B0 Bl Br F0 Fl:List aj}(is js:List Nat)(G:β->Value)(B1:β->List aj)(hp:dJ B is=some (B0++(Bl++Br)))(ha':hG is=true)(hl:Nl Bl Fl)(hj:dJ (Fl++F) js=some F0)
 (eg:∀args w,(callFunc f args).run P w = .ok (.enter f args) w) (hargs:evs L xs.toList=some vs) (hc:ev L c=some (.func (.func f) #[] cap))
 (hcall:∀w own,Wd we X B F w->Wd w (blks B0++own) (B0++[aj.held w own]) F0 w->Calls P f (vs++cap.toList).toArray w fun e w' => ∃z,e = .returned (G z)/\Wd w (blks B0++own) (B1 z++[aj.held w own]) [] w') (hd:Nat.blt d n=true) :
 Stp P n we X L B F ⟨some d,.call { callee:= .value c,args:=xs,argTypes:=ts },ty,pos,eC,g⟩ (fun z=>(d,G z)::L) (fun z=>B1 z++(Bl++Br)) (fun _=>F):=by
 intro K Q' a w ha hw hK
 have hw2:=hw.PY is hp ha'
 have hw3:=hw2.Wy hl
 unfold Oper.wp
 rw [qC ha hargs hc eg,Oper.upon_enter]
 refine (hcall w (blks Br) hw (hw3.CR hj)).mono fun e w' he=>?_
 obtain ⟨z,rfl,ht⟩:=he
 exact hK z _ _ (ha.put d _ hd) (hw2.after (hw2.wider ht))
end
end
end Go.Proofs.YtnmpibjlnninjaaGreatDoor
