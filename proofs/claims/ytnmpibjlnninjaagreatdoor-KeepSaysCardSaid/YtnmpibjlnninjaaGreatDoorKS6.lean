import Derived.Test.YtnmpibjlnninjaaGreatDoorKS5
import Derived.Lib.SlicesCompact
import Derived.Shelf.Strings.Builder1
import Derived.Shelf.Strings.Builder2
import Derived.Shelf.Small.Bits
import Derived.Shelf.Small.Strs
import Derived.Shelf.Small.Wraps
import Derived.Shelf.Strings.BuilderF
import Derived.Shelf.Strconv.Atoi
import Derived.Shelf.Strconv.Itoa0
import Derived.Shelf.Strconv.Itoa1
import Derived.Shelf.LaysM
import Derived.Shelf.Strconv.Itoa2
import Derived.Shelf.Strconv.Itoa3
import Derived.Shelf.Strconv.AtoiErrFast
import Derived.Shelf.Strconv.ParseIntEmpty
import Derived.Shelf.Strconv.AtoiFail
import Derived.Shelf.Strconv.Clone
import Derived.Shelf.Strconv.SyntaxError
import Derived.Shelf.LaysC
import Derived.Shelf.Strconv.ToError
import Derived.Shelf.Strconv.AtoiErr
import Derived.Shelf.Strconv.ErrVar
import Derived.Shelf.Strings.Search1
import Derived.Shelf.Strings.Search2
import Derived.Shelf.Strings.Search3
import Derived.Shelf.Strings.Count
import Derived.Shelf.Strings.Shaped
import Derived.Shelf.Sort.Plain
import Derived.Shelf.Strings.Prefix
import Derived.Shelf.Bits.Mul64
import Derived.Shelf.Strings.Repeat
import Derived.Shelf.Unicode.DecodeSlow
import Derived.Shelf.Slices.Turned
import Derived.Shelf.Slices.Equal
import Derived.Ground.Names2Prog
import Derived.Shelf.Slices.CompactI
import Derived.Shelf.Slices.SearchI
import Derived.Shelf.Slices.Cells
import Derived.Shelf.Slices.In.SortNone
import Derived.Shelf.Slices.Empties2
import Derived.Sort.OwnSortedInts
namespace Go.Proofs.YtnmpibjlnninjaaGreatDoor
set_option linter.unusedVariables false
set_option linter.unusedSimpArgs false
set_option maxRecDepth 100000
set_option maxHeartbeats 90000000
section
theorem Jl {α:Type}{l u:List α}{i:Nat}(h:i=l.length):l.take i++u++l.drop i=l++u:=by
 grind
theorem ER {α:Type}{l u:List α}{i m:Nat}{z:α}(hu:u.length=1)(hi:i<l.length)(hm:m=l.length+u.length-i) :
 l.take i++u++l.drop i=((l.take i++List.replicate m z).take i++u++(l.take i++List.replicate m z).drop (i+u.length)).take (i+u.length)++l.drop i++((l.take i++List.replicate m z).take i++u++(l.take i++List.replicate m z).drop (i+u.length)).drop (i+u.length+(l.drop i).length):=by
 have h1:(l.take i).length=i:=aB
 have h2:((l.take i++List.replicate m z).take i)=l.take i:=aB
 have h3:(l.take i++u).length=i+u.length:=aB
 rw [h2,List.take_append_of_le_length ae,List.take_of_length_le (l:=l.take i++u) ae]
 grind [List.length_append,List.length_drop,List.length_replicate,List.drop_of_length_le]
theorem CY {α:Type}{l u:List α}{i:Nat}(hu:u.length=1)(hi:i<l.length) :
 l.take i++u++l.drop i=(l.take (i+1)++l.drop i).take i++u++(l.take (i+1)++l.drop i).drop (i+u.length):=by
 grind
theorem yx {α:Type}{l:List α}{i j:Nat}(h:i=j):l.take i++l.drop j=l:=tT
section
variable {α:Type}
def bsGo (f:α->Int)(l:List α)(lo hi:Nat):Nat :=
  if h:lo<hi then
    match l[(lo+hi) / 2]? with
    | some x=>if f x<0 then bsGo f l ((lo+hi) / 2+1) hi else bsGo f l lo ((lo+hi) / 2)
    | none=>lo
  else lo
termination_by hi-lo
decreasing_by all_goals omega
def jF (f:α->Int)(l:List α):Nat:=bsGo f l 0 l.length
def qn (f:α->Int)(l:List α):Bool:=match l[jF f l]? with|some x=>decide (f x=0)|none=>false
variable {f:α->Int} {l:List α} {lo hi:Nat} {x:α}
theorem CZ (h:lo<hi)(hx:l[(lo+hi) / 2]? = some x)(hf:f x<0):bsGo f l lo hi=bsGo f l ((lo+hi) / 2+1) hi:=by
 rw [bsGo,dif_pos h,hx];grind
theorem C0 (h:lo<hi)(hx:l[(lo+hi) / 2]? = some x)(hf:¬ f x<0):bsGo f l lo hi=bsGo f l lo ((lo+hi) / 2):=by
 rw [bsGo,dif_pos h,hx];grind
theorem hX (h:¬ lo<hi):bsGo f l lo hi=lo:=by rw [bsGo,dif_neg h]
theorem P6:∀ (n lo hi:Nat),hi-lo=n->lo<=hi->bsGo f l lo hi<=hi:=by
 intro n
 induction n using Nat.strongRecOn with
 | _ n ih =>
  intro lo hi hn hle
  rw [bsGo]
  split
  .
   split
   .
    split
    .grind
    grind
   omega
  omega
theorem qM:jF f l<=l.length:=P6 _ 0 l.length rfl (Nat.zero_le _)
theorem ES (h:qn f l=true):∃x,l[jF f l]? = some x/\f x=0:=by
 unfold qn at h
 grind
theorem Ky (hm:∀ (i j:Nat) x y,i<=j->l[i]? = some x->l[j]? = some y->f y<0->f x<0):∀ (n lo hi:Nat),hi-lo=n->lo<=hi->hi<=l.length ->
 (∀ (i:Nat) x,i<lo->l[i]? = some x->f x<0)->(∀ (i:Nat) x,hi<=i->l[i]? = some x->¬ f x<0) ->
 (∀ (i:Nat) x,i<bsGo f l lo hi->l[i]? = some x->f x<0)/\(∀ (i:Nat) x,bsGo f l lo hi<=i->l[i]? = some x->¬ f x<0):=by
 intro n
 induction n using Nat.strongRecOn with
 | _ n ih =>
  intro lo hi hn hle hl h1 h2
  by_cases hlt:lo<hi
  .
   obtain ⟨x,hx⟩:∃x,l[(lo+hi) / 2]? = some x:=⟨_,List.getElem?_eq_getElem ae⟩
   by_cases hf:f x<0
   .
    rw [CZ hlt hx hf]
    exact ih (hi-((lo+hi) / 2+1)) ae _ _ rfl ae hl (fun i y hi' hy=>hm i ((lo+hi) / 2) y x ae hy hx hf) h2
   rw [C0 hlt hx hf]
   exact ih ((lo+hi) / 2-lo) ae _ _ rfl ae ae h1 (fun i y hi' hy hc=>hf (hm ((lo+hi) / 2) i x y hi' hx hy hc))
  rw [hX hlt]
  grind
theorem ET (hm:∀ (i j:Nat) x y,i<=j->l[i]? = some x->l[j]? = some y->f y<0->f x<0) :
 (∀ (i:Nat) x,i<jF f l->l[i]? = some x->f x<0)/\(∀ (i:Nat) x,jF f l<=i->l[i]? = some x->¬ f x<0) :=
 Ky hm _ 0 l.length rfl (Nat.zero_le _) (Nat.le_refl _) (fun i x hi=>absurd hi (Nat.not_lt_zero _)) (fun i x hi hx=>by
  grind)
end
def sD (a b:Int):Int:=if a<b then -1 else if b<a then 1 else 0
def Mw:List Int->Int
  | []=>0
  | x::l=>if x=0 then Mw l else x
theorem Mx {l:List Int}{k:Nat}{x:Int}(h:l[k]? = some x)(h0:x=0):Mw (l.drop k)=Mw (l.drop (k+1)):=by
 grind [Mw,List.getElem?_eq_some_iff,List.drop_eq_getElem_cons]
theorem P7 {l:List Int}{k:Nat}{x:Int}(h:l[k]? = some x)(h0:¬ x=0):Mw (l.drop k)=x:=by
 grind [Mw,List.getElem?_eq_some_iff,List.drop_eq_getElem_cons]
end
def bB (p:Place):Int:=if p.ay<1∨4<p.ay∨p.Slot<0∨5<p.Slot then 1 else 0
def sE (p q:Place):Int:=if sD p.ay q.ay=0 then sD p.Slot q.Slot else sD p.ay q.ay
theorem P8 (p q:Place):Mw [sD p.ay q.ay,sD p.Slot q.Slot]=sE p q:=by
 grind [Mw,sE]
theorem Kz {p q:Place}(h:sE p q=0):p=q:=by
 cases p;cases q
 grind [sE,sD,Place.mk.injEq]
theorem KA (p:Place):sE p p=0:=by simp [sE,sD]
def gR (l:List Held)(p:Place):Nat:=jF (fun h=>sE h.Place p) l
def KB (l:List Held)(p:Place):Bool:=qn (fun h=>sE h.Place p) l
theorem xI (l:List Held)(p:Place):gR l p<=l.length:=qM
theorem vq (l:List Held)(p:Place):KB l p=false ∨ ∃x,l[gR l p]? = some x/\KB l p=true/\x.Place=p/\gR l p<l.length:=by
 cases h:KB l p with
 | false=>grind
 | true =>
  obtain ⟨x,h1,h2⟩:=ES h
  exact .inr ⟨x,h1,rfl,Kz h2,(List.getElem?_eq_some_iff.1 h1).1⟩
def mG (l:List Held)(p:Place):Int:=if KB l p then (match l[gR l p]? with|some x=>x.ap|none=>0) else 0
theorem My {l:List Held}{p:Place}(h:KB l p=false):mG l p=0:=by simp [mG,h]
theorem Jm {l:List Held}{p:Place}{x:Held}(h:KB l p=true)(hx:l[gR l p]? = some x):mG l p=x.ap:=by grind [mG]
def eW (l:List Held)(p:Place)(id:Int):List Held :=
  if KB l p then (if id=0 then l.take (gR l p)++l.drop (gR l p+1) else l.set (gR l p) ⟨p,id⟩)
  else if id=0 then l else l.take (gR l p)++[⟨p,id⟩]++l.drop (gR l p)
theorem mU (l:List Held)(p:Place)(id:Int):(eW l p id).length<=l.length+1:=by
 grind [eW,xI]
def kV (l:List Held)(h:Int):Nat->Nat->Int
  | 0,_ => -1
  | n+1,s=>if mG l ⟨h,s⟩=0 then s else kV l h n (s+1)
def gq (l:List Held)(h:Int):Int:=kV l h 6 0
theorem Hm {l:List Held}{h:Int}{n s:Nat}(e:mG l ⟨h,s⟩=0)(hn:0<n):kV l h n s=s:=by
 cases n with
 | zero=>omega
 | succ n=>simp [kV,e]
theorem EU {l:List Held}{h:Int}{s:Nat}(e:¬ mG l ⟨h,s⟩=0)(hs:s<6):kV l h (6-s) s=kV l h (6-(s+1)) (s+1):=by
 have:6-s=(6-(s+1))+1:=ae
 simp_all [kV,if_neg]
def lP (l:List Held)(p:Place):Int:=match l.find? (fun h=>h.Place==p) with|some h=>h.ap|none=>0
theorem KC {l:List Held}{p:Place}{k:Nat}{x:Held}(hx:l[k]? = some x)(he:x.Place=p)(hb:∀ (j:Nat) y,j<k->l[j]? = some y->¬ y.Place=p):lP l p=x.ap:=by
 grind [lP,List.getElem?_eq_some_iff,List.find?_eq_some_iff_getElem,List.getElem?_eq_getElem]
theorem Hn {l:List Held}{p:Place}(hb:∀ (j:Nat) y,j<l.length->l[j]? = some y->¬ y.Place=p):lP l p=0:=by
 grind [lP,List.find?_eq_none,List.mem_iff_getElem?,List.getElem?_eq_some_iff]
def ky (p:Place)(id:Int)(s:List Held×Bool)(h:Held):List Held×Bool :=
  let s1:=if s.2=false/\(p.ay<h.Place.ay∨(p.ay=h.Place.ay/\p.Slot<=h.Place.Slot)) then (s.1++[⟨p,id⟩],true) else s
  (if h.Place=p then s1.1 else s1.1++[h],s1.2)
theorem gS {p:Place}{id:Int}{acc:List Held}{h:Held}(ho:p.ay<h.Place.ay∨(p.ay=h.Place.ay/\p.Slot<=h.Place.Slot)):ky p id (acc,false) h=(if h.Place=p then acc++[⟨p,id⟩] else acc++[⟨p,id⟩]++[h],true):=by
 unfold ky;grind
theorem ef {p:Place}{id:Int}{acc:List Held}{b:Bool}{h:Held}(ho:b=true∨¬ (p.ay<h.Place.ay∨(p.ay=h.Place.ay/\p.Slot<=h.Place.Slot))):ky p id (acc,b) h=(if h.Place=p then acc else acc++[h],b):=by
 unfold ky;grind
def nX (l:List Held)(p:Place)(id:Int):List Held×Bool:=l.foldl (ky p id) ([],id==0)
def l8 (l:List Held)(p:Place)(id:Int):List Held:=if (nX l p id).2 then (nX l p id).1 else (nX l p id).1++[⟨p,id⟩]
theorem dM (l:List Held)(p:Place)(id:Int)(k:Nat)(x:Held)(h:l[k]? = some x):nX (l.take (k+1)) p id=ky p id (nX (l.take k) p id) x:=by
 grind [nX,List.getElem?_eq_some_iff,List.take_add_one]
theorem EV (p:Place)(id:Int)(s:List Held×Bool)(h:Held):(ky p id s h).1.length<=s.1.length+2:=by
 grind [ky]
theorem BJ (l:List Held)(p:Place)(id:Int):(nX l p id).1.length<=2*l.length:=by
 have:∀ (l:List Held) (s:List Held×Bool),(l.foldl (ky p id) s).1.length<=s.1.length+2*l.length:=by
  intro l
  induction l with
  | nil=>grind
  | cons h l ih=>grind [List.length_cons,EV]
 grind [nX,id]
def lC (l:List Held)(h:Int):Nat->Nat->Int
  | 0,_ => -1
  | n+1,s=>if lP l ⟨h,s⟩=0 then s else lC l h n (s+1)
def C2 (l:List Held)(h:Int):Int:=lC l h 6 0
theorem EW {l:List Held}{h:Int}{n s:Nat}(e:lP l ⟨h,s⟩=0)(hn:0<n):lC l h n s=s:=by
 cases n with
 | zero=>omega
 | succ n=>simp [lC,e]
theorem C4 {l:List Held}{h:Int}{s:Nat}(e:¬ lP l ⟨h,s⟩=0)(hs:s<6):lC l h (6-s) s=lC l h (6-(s+1)) (s+1):=by
 have:6-s=(6-(s+1))+1:=ae
 simp_all [lC,if_neg]
theorem lD (p:Place):bB p=0∨bB p=1:=by grind [bB]
theorem fG {p:Place}(h:p.ay<1∨4<p.ay∨p.Slot<0∨5<p.Slot):bB p=1:=if_pos h
theorem sM {p:Place}(h:1<=p.ay/\p.ay<=4/\0<=p.Slot/\p.Slot<=5):bB p=0:=if_neg ae
theorem bY {p:Place}(h:bB p=0):1<=p.ay/\p.ay<=4/\0<=p.Slot/\p.Slot<=5:=by
 grind [bB]
def kr (p q:Place):Prop:=p.ay<q.ay∨(p.ay=q.ay/\p.Slot<q.Slot)
def GoodAt (l:List Held)(k:Nat):Prop:= ∀h,l[k]? = some h->bB h.Place=0/\h.ap≠0 /\ ∀g,0<k->l[k-1]? = some g->kr g.Place h.Place
def Good (l:List Held):Prop:= ∀k,k<l.length->GoodAt l k
section
open Go.RowKit
def dZ (r:Int):Int:=if r<0 then 1 else if 7<r then 1 else 0
theorem gT {r:Int}(h0:0<=r)(h7:r<=7):dZ r=0:=by simp_all [dZ,if_neg]
theorem mV {r:Int}(h:r<0∨7<r):dZ r=1:=by unfold dZ;omega
theorem hY (r:Int):(dZ r=1/\(r<0∨7<r))∨(dZ r=0/\0<=r/\r<=7):=by
 grind [mV,gT]
def hZ (r need:Int):Bool:=(r.toNat &&& need.toNat)==need.toNat
def hasB (r need:Int):Bool:= !(need % 2==1&&r % 2==0) && !(need / 2 % 2==1&&r / 2 % 2==0) && !(need / 4 % 2==1&&r / 4 % 2==0)
theorem Mz:∀r n:Fin 8,hasB ((r:Nat):Int) ((n:Nat):Int)=hZ ((r:Nat):Int) ((n:Nat):Int):=aD
theorem MA {r:Int}(h0:0<=r)(h7:r<=7):∃x:Fin 8,r=((x:Nat):Int):=⟨⟨r.toNat,ae⟩,aB⟩
theorem iu {r n:Int}(r0:0<=r)(r7:r<=7)(n0:0<=n)(n7:n<=7):hasB r n=hZ r n:=by
 grind [MA,Mz]
theorem jS {r n:Int}(h:(n % 2=1/\r % 2=0)∨(n / 2 % 2=1/\r / 2 % 2=0)∨(n / 4 % 2=1/\r / 4 % 2=0)):hasB r n=false:=by
 grind [hasB]
theorem j7 {r n:Int}(h0:¬(n % 2=1/\r % 2=0))(h1:¬ (n / 2 % 2=1/\r / 2 % 2=0))(h2:¬ (n / 4 % 2=1/\r / 4 % 2=0)):hasB r n=true:=by
 unfold hasB;grind
def dB (w:ap):Int :=
  if w.ID<1 then 1 else if 999<w.ID then 1 else if w.aA<1 then 1 else if 999<w.aA then 1 else if w.aU<0 then 1 else if 99<w.aU then 1 else
  if w.From<0 then 1 else if w.ID<=w.From then 1 else dZ w.Rights
theorem gH (x:ap):(dB x=1/\(x.ID<1∨999<x.ID∨x.aA<1∨999<x.aA∨x.aU<0∨99<x.aU∨x.From<0∨x.ID<=x.From∨x.Rights<0∨7<x.Rights)) ∨
 (dB x=0/\1<=x.ID/\x.ID<=999/\1<=x.aA/\x.aA<=999/\0<=x.aU/\x.aU<=99/\0<=x.From/\x.From<x.ID/\0<=x.Rights/\x.Rights<=7):=by
 unfold dB dZ;omega
def jI:ap:=⟨0,0,0,0,0⟩
def derived (w:ap)(id rights bU:Int):ap×Int :=
  if dZ rights=1 then (jI,1) else if bU<0 then (jI,1) else if 99<bU then (jI,1) else
  if hZ w.Rights rights=false then (jI,7) else
  if bU≠0/\w.aU≠0/\bU≠w.aU then (jI,7) else
  (⟨id,w.aA,rights,if bU=0 then w.aU else bU,w.ID⟩,0)
def cO (l:List ap)(id:Int):Int:=match l.findIdx? (fun w=>w.ID==id) with|some i=>i|none => -1
theorem eh (l:List ap)(id:Int):(cO l id = -1 /\ ∀x∈l,¬ x.ID=id) ∨ ∃ (k:Nat) (h:k<l.length),cO l id=k/\l[k].ID=id /\ ∀j (hj:j<k),¬ (l[j]'(by omega)).ID=id:=by
 unfold cO
 grind [List.findIdx?_eq_none_iff,List.findIdx?_eq_some_iff_getElem]
theorem MB {l:List ap}{id:Int}{k:Nat}(hk:k<l.length)(h1:l[k].ID=id)(h2:∀j x,j<k->l[j]? = some x->¬ x.ID=id):cO l id=k:=by
 unfold cO
 rw [List.findIdx?_eq_some_iff_getElem.2 ⟨hk,aB,fun j hj=>by
  have:=h2 j l[j] hj (List.getElem?_eq_getElem ae);grind⟩]
end
section
open Go.RowKit
def ia (l:List ap)(i:Nat):Int :=
  match l[i]? with
  | none=>0
  | some x =>
    if dB x=1 then 1
    else if 0<i /\ ∃y,l[i-1]? = some y/\x.ID<=y.ID then 3
    else if x.From=0 then 0
    else match (l.take i).find? (fun y=>y.ID==x.From) with
      | none=>5
      | some y=>if (derived y x.ID x.Rights x.aU).2≠0 then (derived y x.ID x.Rights x.aU).2 else if (derived y x.ID x.Rights x.aU).1≠x then 7 else 0
def eQ (l:List ap):Int:=match (List.range l.length).find? (fun i=>ia l i != 0) with|some i=>ia l i|none=>0
theorem gU {l:List ap}{k:Nat}{f:Int}(hk:k<l.length)(h:ia l k=f)(hf:f≠0)(h0:∀j,j<k->ia l j=0):eQ l=f:=by
 grind [eQ,List.range,ia,List.find?_range_eq_some]
theorem qN {l:List ap}(h0:∀j,j<l.length->ia l j=0):eQ l=0:=by
 grind [eQ,List.range,ia,List.find?_eq_none]
theorem xu {l:List ap}(h:eQ l=0):∀j,j<l.length->ia l j=0:=by
 grind [eQ,List.range,ia,absurd,List.find?_eq_none]
theorem kY {l:List ap}{id:Int}:(cO l id = -1/\l.find? (fun y=>y.ID==id)=none) ∨ ∃ (k:Nat) (h:k<l.length),cO l id=k/\l.find? (fun y=>y.ID==id)=some l[k]:=by
 grind [eh,List.find?_eq_none,List.find?_eq_some_iff_getElem]
end
section
open Go.RowKit
theorem KD (a:Nat)(ha:a<9223372036854775808):(BitVec.ofInt 64 (a:Int)).toNat=a:=by
 grind
theorem EX (a b:Nat)(ha:a<9223372036854775808)(hb:b<9223372036854775808):bits .and .i64 (a:Int) (b:Int)=((a &&& b:Nat):Int):=by
 have hx:a &&& b<2 ^ 63:=Nat.and_lt_two_pow _ ae
 show IntKind.i64.wrap ((BitVec.ofInt 64 (a:Int) &&& BitVec.ofInt 64 (b:Int)).toNat:Int)=_
 grind [BitVec.toNat_and,KD,IntKind.wrap_i64]
theorem Jn {r n:Int}{b:Bool}(r0:0<=r)(r7:r<=7)(n0:0<=n)(n7:n<=7)(h:(bits .and .i64 r n==n)=b):b=hZ r n:=by
 rw [<- h]
 obtain ⟨a,rfl⟩:=Int.eq_ofNat_of_zero_le r0
 obtain ⟨b,rfl⟩:=Int.eq_ofNat_of_zero_le n0
 rw [EX a b ae ae]
 unfold hZ
 grind
theorem qp {r:Int}(h:dZ r=0):0<=r/\r<=7:=by
 grind [hY]
theorem bV {r:Int}(h:¬ dZ r=0):dZ r=1:=by
 grind [hY]
theorem fE {x:ap}(h:x.ID<1∨999<x.ID∨x.aA<1∨999<x.aA∨x.aU<0∨99<x.aU∨x.From<0∨x.ID<=x.From∨x.Rights<0∨7<x.Rights):dB x=1:=by
 grind [gH]
theorem px {x:ap}(h:1<=x.ID/\x.ID<=999/\1<=x.aA/\x.aA<=999/\0<=x.aU/\x.aU<=99/\0<=x.From/\x.From<x.ID/\0<=x.Rights/\x.Rights<=7):dB x=0:=by
 grind [gH]
theorem yA {x:ap}(h:1<=x.ID/\x.ID<=999/\1<=x.aA/\x.aA<=999/\0<=x.aU/\x.aU<=99/\0<=x.From/\x.From<x.ID):dB x=dZ x.Rights:=by
 grind [hY,fE,px]
theorem ta {x:ap}{id r b:Int}(h:¬ dZ r=0):derived x id r b=(jI,1):=by
 have:dZ r=1:=by grind [hY]
 simp_all [derived,if_pos]
theorem gI {x:ap}{id r b:Int}(h:r<0∨7<r∨b<0∨99<b):derived x id r b=(jI,1):=by
 by_cases h1:dZ r=0
 .
  have:=qp h1
  unfold derived;grind
 grind [ta]
theorem py {x:ap}{id r b:Int}(h:0<=r/\r<=7/\0<=b/\b<=99)(hh:hZ x.Rights r=false):derived x id r b=(jI,7):=by
 simp_all [derived,if_neg,gT,if_pos]
theorem pz {x:ap}{id r b:Int}(h:0<=r/\r<=7/\0<=b/\b<=99)(hh:hZ x.Rights r=true)(hc:¬ b=0/\¬ x.aU=0/\¬ b=x.aU):derived x id r b=(jI,7):=by
 simp_all [derived,if_neg,gT,if_pos]
theorem mW {x:ap}{id r b:Int}(h:0<=r/\r<=7/\0<=b/\b<=99)(hh:hZ x.Rights r=true)(hc:b=0):derived x id r b=(⟨id,x.aA,r,x.aU,x.ID⟩,0):=by
 simp_all [derived,if_neg,gT,if_pos]
theorem mX {x:ap}{id r b:Int}(h:0<=r/\r<=7/\0<=b/\b<=99)(hh:hZ x.Rights r=true)(hc:¬ b=0)(hc2:x.aU=0∨b=x.aU):derived x id r b=(⟨id,x.aA,r,b,x.ID⟩,0):=by
 unfold derived;rw [if_neg (by grind [gT]),if_neg ae,if_neg ae,if_neg aB,if_neg ae,if_neg hc]
theorem kZ {x:ap}{id r b:Int}(h:0<=r/\r<=7/\0<=b/\b<=99)(hh:hZ x.Rights r=true)(hc:¬ x.aU=0)(hc2:b=0∨b=x.aU):derived x id r b=(⟨id,x.aA,r,x.aU,x.ID⟩,0):=by
 grind [mW,mX]
def idxOf {α:Type}(p:α->Bool)(l:List α):Int:=match l.findIdx? p with|some i=>i|none => -1
theorem idxOf_hit {α:Type}{p:α->Bool}{l:List α}{k:Nat}{x:α}(hk:l[k]? = some x)(h1:p x=true)(h2:∀ (j:Nat) x,j<k->l[j]? = some x->p x=false):idxOf p l=k:=by
 obtain ⟨hk',rfl⟩:=List.getElem?_eq_some_iff.1 hk
 unfold idxOf
 rw [List.findIdx?_eq_some_iff_getElem.2 ⟨hk',h1,fun j hj=>by
  grind⟩]
theorem idxOf_miss {α:Type}{p:α->Bool}{l:List α}{k:Nat}(hk:¬ k<l.length)(h:∀ (j:Nat) x,j<k->l[j]? = some x->p x=false):idxOf p l = -1:=by
 grind [idxOf,List.findIdx?_eq_none_iff,List.mem_iff_getElem?,List.getElem?_eq_some_iff]
theorem BK (l:List ap)(id:Int):cO l id=idxOf (fun x=>x.ID==id) l:=rfl
theorem j8 {α:Type}{p:α->Bool}{l:List α}{k:Nat}{x:α}(h:∀ (j:Nat) x,j<k->l[j]? = some x->p x=false)(hx:l[k]? = some x)(hp:p x=false):∀ (j:Nat) x,j<k+1->l[j]? = some x->p x=false:=by
 grind
end
section
open Go.RowKit
structure Vy (x:ap):Prop where
  id1:1<=x.ID
  R0:x.ID<=999
  Vz:1<=x.aA
  VA:x.aA<=999
  VB:0<=x.aU
  VD:x.aU<=99
  R1:0<=x.From
  R2:x.From<x.ID
  R3:0<=x.Rights
  R4:x.Rights<=7
theorem C5 {x:ap}(h:dB x=0):Vy x:=by
 rcases gH x with ⟨h1,_⟩ | ⟨_,h2⟩
 .omega
 obtain ⟨a,b,c,d,e,f,g,i,j,k⟩:=h2;exact ⟨a,b,c,d,e,f,g,i,j,k⟩
theorem kz (x:ap):dB x=0∨dB x=1:=by
 grind [gH]
theorem jh {l:List ap}{k:Nat}{x:ap}(hx:l[k]? = some x)(h:¬ dB x=0):ia l k=1:=by
 have:dB x=1:=by grind [gH]
 simp_all [ia,if_pos]
theorem nY {l:List ap}{k:Nat}{x y:ap}(hx:l[k]? = some x)(h:dB x=0)(hk:0<k)(hy:l[k-1]? = some y)(hle:¬ y.ID<x.ID):ia l k=3:=by
 simp_all [ia,if_neg,if_pos]
theorem yB {l:List ap}{k:Nat}{x:ap}(hx:l[k]? = some x)(h:dB x=0)(hs:¬ 0<k ∨ ∃y,l[k-1]? = some y/\y.ID<x.ID)(h0:x.From=0):ia l k=0:=by
 unfold ia;grind
theorem yC {l:List ap}{k:Nat}{x:ap}(hx:l[k]? = some x)(h:dB x=0)(hs:¬ 0<k ∨ ∃y,l[k-1]? = some y/\y.ID<x.ID)(h0:¬ x.From=0)(hf:cO (l.take k) x.From = -1):ia l k=5:=by
 have hn:(l.take k).find? (fun y=>y.ID==x.From)=none:=by
  grind [kY]
 unfold ia;grind
theorem ji {l:List ap}{k j:Nat}{x y:ap}(hx:l[k]? = some x)(h:dB x=0)(hs:¬ 0<k ∨ ∃y,l[k-1]? = some y/\y.ID<x.ID)(h0:¬ x.From=0)(hf:cO (l.take k) x.From=(j:Int))(hj:j<k)(hy:l[j]? = some y) :
 ia l k=if (derived y x.ID x.Rights x.aU).2≠0 then (derived y x.ID x.Rights x.aU).2 else if (derived y x.ID x.Rights x.aU).1≠x then 7 else 0:=by
 have hn:(l.take k).find? (fun y=>y.ID==x.From)=some y:=by
  grind [kY,List.getElem?_eq_some_iff]
 unfold ia;grind
theorem um {l:List ap}{k:Nat}{x:ap}(hx:l[k]? = some x)(h:ia l k=0):Vy x:=by
 grind [C5,jh]
theorem iL (x:ap)(id r b:Int):(derived x id r b).2=0∨(derived x id r b).2=1∨(derived x id r b).2=7:=by
 grind [derived]
def cS (l:List ap):Prop:=eQ l=0
theorem cS.steps {l:List ap}(h:cS l):∀j,j<l.length->ia l j=0:=xu h
theorem cS.mem {l:List ap}(h:cS l){x:ap}(hx:x∈l):Vy x:=by
 obtain ⟨j,hj⟩:=List.mem_iff_getElem?.1 hx
 exact um hj (h.steps j (List.getElem?_eq_some_iff.1 hj).1)
theorem td {l:List ap}{k:Nat}(h:∀j,j<k->ia l j=0)(hk:ia l k=0):∀j,j<k+1->ia l j=0:=by
 grind
theorem yD (l:List ap)(c:Int)(h:0<=cO l c):∃x,l[(cO l c).toNat]? = some x/\x.ID=c/\x∈l:=by
 grind [eh,List.getElem_mem]
def ml (id from':Int)(x:ap):ap:=if x.From=id then { x with From:=from' } else x
def EY (id from':Int)(l:List ap):List ap:=(l.filter (fun x=>decide (x.ID≠id))).map (ml id from')
theorem Jo {id f:Int}{l:List ap}{k:Nat}{x:ap}(hx:l[k]? = some x)(h:x.ID=id):EY id f (l.take (k+1))=EY id f (l.take k):=by
 grind [EY,List.take_add_one]
theorem uo {id f:Int}{l:List ap}{k:Nat}{x:ap}(hx:l[k]? = some x)(h:¬ x.ID=id):EY id f (l.take (k+1))=EY id f (l.take k)++[ml id f x]:=by
 grind [EY,List.take_add_one]
theorem C6 (id f:Int)(l:List ap):(EY id f l).length<=l.length:=by grind [EY,List.length_filter_le]
theorem yE {id f:Int}{x:ap}(h:x.From=id):ml id f x=⟨x.ID,x.aA,x.Rights,x.aU,f⟩:=by simp_all [ml,if_pos]
theorem vu {id f:Int}{x:ap}(h:¬ x.From=id):ml id f x=x:=by simp_all [ml,if_neg]
def fx (l:List ap)(id:Int):Int:=match l.find? (fun y=>y.ID==id) with|some y=>y.From|none=>0
theorem nZ {l:List ap}{id:Int}{j:Nat}{y:ap}(hf:cO l id=(j:Int))(hy:l[j]? = some y):fx l id=y.From:=by
 grind [fx,id,kY,List.getElem?_eq_some_iff]
theorem wS {l:List ap}{id:Int}(hf:cO l id = -1):fx l id=0:=by
 grind [fx,id,kY]
def without (l:List ap)(id:Int):List ap:=EY id (fx l id) l
def EZ (l:List ap)(id:Int):List ap:=if cO l id<0 then l.filter (fun x=>decide (x.ID≠id)) else without l id
def MC (l:List ap)(id:Int)(x:ap):ap:=if cO l id<0 then x else ml id (fx l id) x
def sG (l:List ap)(id:Int)(m:List ap):List ap:=(m.filter (fun x=>decide (x.ID≠id))).map (MC l id)
theorem yF {l0:List ap}{id:Int}{l:List ap}{k:Nat}{x:ap}(hx:l[k]? = some x)(h:x.ID=id):sG l0 id (l.take (k+1))=sG l0 id (l.take k):=by
 grind [sG,List.take_add_one]
theorem vv {l0:List ap}{id:Int}{l:List ap}{k:Nat}{x:ap}(hx:l[k]? = some x)(h:¬ x.ID=id):sG l0 id (l.take (k+1))=sG l0 id (l.take k)++[MC l0 id x]:=by
 grind [sG,List.take_add_one]
theorem E0 (l0:List ap)(id:Int)(l:List ap):(sG l0 id l).length<=l.length:=by grind [sG,List.length_filter_le]
theorem E1 (l:List ap)(wid:Int):sG l wid l=EZ l wid:=by
 unfold sG EZ without EY
 split
 .
  rename_i h
  have:MC l wid=fun x=>x:=by funext x;simp_all [MC,if_pos]
  simp_all
 simp_all [MC,if_neg]
end
section
open Go.RowKit
theorem yG {l:List ap}{k:Nat}{x y:ap}(hx:l[k]? = some x)(h:ia l k=0)(hk:0<k)(hy:l[k-1]? = some y):y.ID<x.ID:=by
 grind [um,kz,jh,Int.lt_or_le,nY]
theorem cS.rise {l:List ap}(h:cS l):∀ (j i:Nat) {x y:ap},i<j->l[j]? = some x->l[i]? = some y->y.ID<x.ID
 | 0,i,x,y,hij,hx,hy=>by omega
 | j+1,i,x,y,hij,hx,hy=>by
  have hlt:j+1<l.length:=(List.getElem?_eq_some_iff.1 hx).1
  have hz:l[j]? = some l[j]:=List.getElem?_eq_getElem ae
  have h1:=yG hx (h.steps _ hlt) ae hz
  by_cases hj:i=j
  .grind
  have:=h.rise j i ae hz hy;omega
theorem cS.inj {l:List ap}(h:cS l){x y:ap}(hx:x∈l)(hy:y∈l)(he:x.ID=y.ID):x=y:=by
 obtain ⟨i,hi⟩:=List.mem_iff_getElem?.1 hx
 obtain ⟨j,hj⟩:=List.mem_iff_getElem?.1 hy
 rcases Nat.lt_trichotomy i j with h1|h1|h1
 .have:=h.rise j i h1 hj hi;omega
 .grind
 have:=h.rise i j h1 hi hj;omega
theorem yH {l:List ap}{k:Nat}{x:ap}(hx:l[k]? = some x)(h:ia l k=0)(h0:x.From≠0) :
 ∃j y,j<k/\l[j]? = some y/\y.ID=x.From/\(derived y x.ID x.Rights x.aU).2=0/\(derived y x.ID x.Rights x.aU).1=x:=by
 have hw:dB x=0:=by grind [kz,jh]
 have hsh:¬ 0<k ∨ ∃y,l[k-1]? = some y/\y.ID<x.ID:=by
  by_cases hk:0<k
  .
   have hlt:k<l.length:=(List.getElem?_eq_some_iff.1 hx).1
   exact .inr ⟨_,List.getElem?_eq_getElem ae,yG hx h hk (List.getElem?_eq_getElem ae)⟩
  omega
 rcases eh (l.take k) x.From with ⟨h1,h2⟩ | ⟨j,hj,h1,h2,h3⟩
 .grind [yC]
 have hjk:j<k:=aB
 have hlt:k<l.length:=(List.getElem?_eq_some_iff.1 hx).1
 have hy:l[j]? = some l[j]:=List.getElem?_eq_getElem ae
 rw [ji hx hw hsh h0 h1 hjk hy] at h
 grind
theorem lf {l:List ap}{x:ap}(hx:x∈l):0<=cO l x.ID:=by
 grind [eh]
theorem oO {l:List ap}{f:Int}(h:0<=cO l f):∃y,l[(cO l f).toNat]? = some y/\y.ID=f/\y∈l/\fx l f=y.From:=by
 grind [yD,nZ]
theorem tf {l:List ap}{f:Int}(h:cO l f<0):fx l f=0:=by
 grind [eh,wS]
theorem cS.wT {l:List ap}(h:cS l){f:Int}(hf:0<=cO l f):0<f/\f<=999/\0<=fx l f/\fx l f<f:=by
 obtain ⟨y,h1,h2,h3,h4⟩:=oO hf
 have w:=h.mem h3
 have:=w.id1;have:=w.R1;have:=w.R2;have:=w.R0
 omega
def chain (l:List ap)(f:Int):List Int :=
  if h:0<=cO l f/\0<f/\fx l f<f then f::chain l (fx l f) else []
termination_by f.toNat
decreasing_by omega
def above (l:List ap)(id:Int):List Int:=chain l (fx l id)
theorem tg {l:List ap}(h:cS l){f:Int}(hf:0<=cO l f):chain l f=f::chain l (fx l f):=by
 have:=h.wT hf
 rw [chain,dif_pos ⟨hf,ae,ae⟩]
theorem Ho {l:List ap}{f:Int}(hf:cO l f<0):chain l f=[]:=by
 rw [chain,dif_neg ae]
def MD (id:Int)(acc:List Int)(x:ap):List Int:=if (x.From=id∨x.From∈acc)/\0<x.From then acc++[x.ID] else acc
def jd (id:Int)(l:List ap):List Int:=l.foldl (MD id) []
theorem E2 {id:Int}{l:List ap}{k:Nat}{x:ap}{S:List Int}(hx:l[k]? = some x)(hS:∀z,z∈S↔z=id∨z∈jd id (l.take k))(h:x.From∈S)(h0:0<x.From):jd id (l.take (k+1))=jd id (l.take k)++[x.ID]:=by
 simp_all [jd,Option.toList,MD,List.take_add_one,List.foldl_append,List.foldl_cons,List.foldl_nil,if_pos]
theorem vx {id:Int}{l:List ap}{k:Nat}{x:ap}{S:List Int}(hx:l[k]? = some x)(hS:∀z,z∈S↔z=id∨z∈jd id (l.take k))(h:¬ (x.From∈S/\0<x.From)):jd id (l.take (k+1))=jd id (l.take k):=by
 simp_all [jd,Option.toList,MD,List.take_add_one,List.foldl_append,List.foldl_cons,List.foldl_nil,if_neg]
theorem ME (id:Int)(l:List ap):(jd id l).length<=l.length:=by
 have:∀ (l:List ap) (acc:List Int),(l.foldl (MD id) acc).length<=acc.length+l.length:=by
  intro l
  induction l with
  | nil=>grind
  | cons x l ih =>
   grind [MD,id,List.length_cons]
 grind [jd]
def up (l:List ap)(id f:Int):Int :=
  if h:0<f/\f≠id/\0<=cO l f/\fx l f<f then up l id (fx l f) else f
termination_by f.toNat
decreasing_by omega
theorem C8 {l:List ap}(h:cS l){id f:Int}(h1:f≠id)(h2:0<=cO l f):up l id f=up l id (fx l f):=by
 have:=h.wT h2
 rw [up,dif_pos ⟨ae,h1,h2,ae⟩]
theorem qO {l:List ap}{id f:Int}(h:¬ 0<f∨f=id∨cO l f<0):up l id f=f:=by
 rw [up,dif_neg ae]
def Wl (l:List ap)(id:Int)(x:ap):Bool:=decide (up l id x.From=id)&&decide (0<id)
def tj (l:List ap)(id:Int)(m:List ap):List Int:=(m.filter (Wl l id)).map ap.ID
theorem E3 {l0:List ap}{id:Int}{l:List ap}{k:Nat}{x:ap}(hx:l[k]? = some x)(h:up l0 id x.From=id)(h0:0<id):tj l0 id (l.take (k+1))=tj l0 id (l.take k)++[x.ID]:=by
 grind [tj,Wl,List.take_add_one]
theorem rN {l0:List ap}{id:Int}{l:List ap}{k:Nat}{x:ap}(hx:l[k]? = some x)(h:¬ (up l0 id x.From=id/\0<id)):tj l0 id (l.take (k+1))=tj l0 id (l.take k):=by
 grind [tj,Wl,id,up,List.take_add_one,Bool.and_eq_false_iff]
theorem MF (l0:List ap)(id:Int)(l:List ap):(tj l0 id l).length<=l.length:=by grind [tj,List.length_filter_le]
def beneath (l:List ap)(id:Int):List Int:=tj l id l
theorem MG {l:List ap}(h:cS l)(id:Int):∀k,k<=l.length->jd id (l.take k)=tj l id (l.take k)
 | 0,_=>by rfl
 | k+1,hk=>by
  have ih:=MG h id k ae
  have hx:l[k]? = some l[k]:=List.getElem?_eq_getElem ae
  have hS:∀z,z∈id::jd id (l.take k)↔z=id∨z∈jd id (l.take k):=fun z=>by simp
  have w:=um hx (h.steps k ae)
  have key:((l[k]).From∈id::jd id (l.take k)/\0<(l[k]).From)↔(up l id (l[k]).From=id/\0<id):=by
   by_cases h0:(l[k]).From=0
   .grind [qO]
   have hpos:0<(l[k]).From:=by have:=w.R1;omega
   by_cases he:(l[k]).From=id
   .grind [qO]
   obtain ⟨j,y,hj,hy,hid,_,_⟩:=yH hx (h.steps k ae) h0
   have hym:y∈l:=List.mem_of_getElem? hy
   have hfi:0<=cO l (l[k]).From:=by rw [<- hid];exact lf hym
   rw [C8 h he hfi]
   obtain ⟨y',_,hy2,hy3,hy4⟩:=oO hfi
   have:y'=y:=h.inj hy3 hym ae
   subst this
   rw [hy4,ih]
   have hmem:(l[k]).From∈tj l id (l.take k)↔(up l id y'.From=id/\0<id):=by
    unfold tj
    simp only [List.mem_map,List.mem_filter,Wl,Bool.and_eq_true,decide_eq_true_eq]
    constructor
    .
     rintro ⟨z,⟨hz,hz2⟩,hz3⟩
     have:z=y':=h.inj (List.mem_of_mem_take hz) hy3 ae
     grind
    intro hh
    exact ⟨y',⟨List.mem_of_getElem? (i:=j) aB,hh⟩,hid⟩
   grind
  by_cases hc:up l id (l[k]).From=id/\0<id
  .
   have:=key.2 hc
   rw [E2 hx hS this.1 this.2,E3 hx hc.1 hc.2,ih]
  grind [vx,rN]
theorem Jp {l:List ap}(h:cS l)(id:Int):jd id l=beneath l id:=by
 have:=MG h id l.length (Nat.le_refl _)
 grind [beneath,List.take_length]
theorem E4 {l:List ap}(h:cS l){a:Int}(ha:0<=cO l a)(f:Int)(hf0:0<=f):up l a f=a↔a∈chain l f:=by
 have ha0:=h.wT ha
 by_cases he:f=a
 .subst he;rw [qO (.inr (.inl rfl)),tg h ha];simp
 rcases Int.lt_or_le (cO l f) 0 with h1|h1
 .rw [qO (.inr (.inr h1)),Ho h1];simp [he]
 have hf:=h.wT h1
 rw [C8 h he h1,tg h h1,E4 h ha (fx l f) hf.2.2.1]
 simp [Ne.symm he]
termination_by f.toNat
decreasing_by omega
end
section
open Go.RowKit
structure Made (y x:ap):Prop where
  thing:y.aA=x.aA
  has:hZ y.Rights x.Rights=true
  bU:y.aU=0∨x.aU=y.aU
  gF:y.ID=x.From
theorem P9 {y x:ap}(h1:(derived y x.ID x.Rights x.aU).2=0)(h2:(derived y x.ID x.Rights x.aU).1=x):Made y x:=by
 unfold derived at h1 h2
 split at h1;· omega
 split at h1;· omega
 split at h1;· omega
 split at h1;· omega
 split at h1;· omega
 rename_i a b c d e
 rw [if_neg a,if_neg b,if_neg c,if_neg d,if_neg e] at h2
 have ht:=congrArg ap.aA h2
 have hb:=congrArg ap.aU h2
 have hf:=congrArg ap.From h2
 simp only [] at ht hb hf
 refine ⟨ht,aB,?_,hf⟩
 omega
theorem Hq {y x:ap}(w:Vy x)(h:Made y x):derived y x.ID x.Rights x.aU=(x,0):=by
 have:=w.R3;have:=w.R4;have:=w.VB;have:=w.VD
 unfold derived
 rw [if_neg (by grind [gT]),if_neg ae,if_neg ae,if_neg (by rw [h.has];simp),if_neg (by rintro ⟨h1,h2,h3⟩;rcases h.bU with h4|h4 <;> omega)]
 have hb:(if x.aU=0 then y.aU else x.aU)=x.aU:=by
  split
  .rcases h.bU with h4|h4 <;> omega
  rfl
 rw [hb,h.thing,h.gF]
theorem MH:∀a b c:Fin 8,hZ ((a:Nat):Int) ((b:Nat):Int)=true->hZ ((b:Nat):Int) ((c:Nat):Int)=true->hZ ((a:Nat):Int) ((c:Nat):Int)=true:=aD
theorem YQ {a b c:Int}(a0:0<=a)(a7:a<=7)(b0:0<=b)(b7:b<=7)(c0:0<=c)(c7:c<=7)(h:hZ a b=true)(k:hZ b c=true):hZ a c=true:=by
 grind [MA,MH]
structure vy (l:List ap):Prop where
  ok:∀x∈l,dB x=0
  rise:l.Pairwise (fun x y=>x.ID<y.ID)
  made:∀x∈l,x.From≠0 -> ∃y∈l,Made y x
theorem cS.fault {l:List ap}(h:cS l){x:ap}(hx:x∈l):dB x=0:=by
 obtain ⟨j,hj⟩:=List.mem_iff_getElem?.1 hx
 rcases kz x with h1|h1
 .omega
 have:=jh hj ae;rw [h.steps j (List.getElem?_eq_some_iff.1 hj).1] at this;omega
theorem cS.is {l:List ap}(h:cS l):vy l:=by
 refine ⟨fun x hx=>h.fault hx,?_,fun x hx h0=>?_⟩
 .
  rw [List.pairwise_iff_getElem]
  intro i j hi hj hij
  exact h.rise j i hij (List.getElem?_eq_getElem hj) (List.getElem?_eq_getElem hi)
 obtain ⟨k,hk⟩:=List.mem_iff_getElem?.1 hx
 obtain ⟨j,y,hj,hy,_,h1,h2⟩:=yH hk (h.steps k (List.getElem?_eq_some_iff.1 hk).1) h0
 exact ⟨y,List.mem_of_getElem? hy,P9 h1 h2⟩
theorem qP {l:List ap}(h:l.Pairwise (fun x y=>x.ID<y.ID)){i j:Nat}{x y:ap}(hi:l[i]? = some x)(hj:l[j]? = some y)(hij:i<j):x.ID<y.ID:=by
 grind [List.pairwise_iff_getElem,List.getElem?_eq_some_iff]
theorem vy.ok' {l:List ap}(h:vy l):cS l:=by
 refine qN fun k hk=>?_
 have hx:l[k]? = some l[k]:=List.getElem?_eq_getElem hk
 have hm:l[k]∈l:=List.getElem_mem hk
 have h0:=h.ok _ hm
 have w:=C5 h0
 have hsh:¬ 0<k ∨ ∃y,l[k-1]? = some y/\y.ID<(l[k]).ID:=by
  by_cases h1:0<k
  .
   have hy:l[k-1]? = some (l[k-1]' ae):=List.getElem?_eq_getElem ae
   exact .inr ⟨_,hy,qP h.rise hy hx ae⟩
  omega
 by_cases hf:(l[k]).From=0
 .grind [yB]
 obtain ⟨y,hy,hmd⟩:=h.made _ hm hf
 obtain ⟨j,hj⟩:=List.mem_iff_getElem?.1 hy
 have hjl:j<l.length:=(List.getElem?_eq_some_iff.1 hj).1
 have hjk:j<k:=by
  rcases Nat.lt_trichotomy j k with h1|h1|h1
  .omega
  .
   subst h1;rw [hj] at hx;injection hx with hx
   have:=hmd.gF;have:=w.R2;grind
  have:=qP h.rise hx hj h1;have:=hmd.gF;have:=w.R2;omega
 have hfw:cO (l.take k) (l[k]).From=(j:Int):=by
  have hl:j<(l.take k).length:=aB
  have hge:(l.take k)[j]=y:=by
   grind
  refine MB hl (by rw [hge];exact hmd.gF) (fun i z hi hz=>?_)
  have hz':l[i]? = some z:=aB
  have:=qP h.rise hz' hj hi
  have:=hmd.gF;omega
 rw [ji hx h0 hsh hf hfw hjk hj]
 grind [Hq]
theorem BL {l:List ap}(h:cS l){a b:Int}(ha:0<=cO l a)(hb:0<=cO l b):b∈jd a l↔a∈above l b:=by
 rw [Jp h]
 have ha0:=h.wT ha
 have hb0:=h.wT hb
 unfold beneath tj above
 rw [<- E4 h ha _ hb0.2.2.1]
 simp only [List.mem_map,List.mem_filter,Wl,Bool.and_eq_true,decide_eq_true_eq]
 obtain ⟨y,_,hy2,hy3,hy4⟩:=oO hb
 constructor
 .
  rintro ⟨x,⟨hx,hu,_⟩,hid⟩
  have:x=y:=h.inj hx hy3 ae
  grind
 grind
theorem gK {l:List ap}{id:Int}{x:ap}:x∈without l id ↔ ∃y∈l,y.ID≠id/\x=ml id (fx l id) y:=by
 unfold without EY
 grind
theorem lE {id f:Int}(x:ap):(ml id f x).ID=x.ID/\(ml id f x).aA=x.aA/\(ml id f x).Rights=x.Rights/\(ml id f x).aU=x.aU:=by unfold ml;grind
theorem vz {id f:Int}(x:ap):(ml id f x).From=if x.From=id then f else x.From:=by grind [ml]
theorem Qb {x:ap}(h:dB x=0){f:Int}(h0:0<=f)(h1:f<x.ID):dB { x with From:=f }=0:=by
 grind [C5,gH]
theorem Qc {id f:Int}{y x:ap}(h:Made y x)(hf:x.From≠id):Made (ml id f y) (ml id f x):=by
 have hy:=lE (id:=id) (f:=f) y
 have hx:=lE (id:=id) (f:=f) x
 refine ⟨by rw [hy.2.1,hx.2.1];exact h.thing,by rw [hy.2.2.1,hx.2.2.1];exact h.has,by rw [hy.2.2.2,hx.2.2.2];exact h.bU,?_⟩
 rw [hy.1,vz,if_neg hf];exact h.gF
theorem cS.wo {l:List ap}(h:cS l)(id:Int):cS (without l id):=by
 have hi:=h.is
 refine vy.ok' ⟨fun x hx=>?_,?_,fun x hx h0=>?_⟩
 .
  obtain ⟨y,hy,hne,rfl⟩:=gK.1 hx
  have hyf:=hi.ok y hy
  unfold ml
  split
  .
   rename_i he
   have w:=C5 hyf
   have:=w.R1;have:=w.R2
   have hid:0<=fx l id/\(0<fx l id->fx l id<id):=by
    rcases Int.lt_or_le (cO l id) 0 with h1|h1
    .grind [tf]
    have:=h.wT h1;omega
   grind [Qb]
  omega
 .
  unfold without EY
  rw [List.pairwise_map]
  refine (hi.rise.filter _).imp ?_
  grind [lE]
 obtain ⟨y,hy,hne,rfl⟩:=gK.1 hx
 rw [vz] at h0
 by_cases he:y.From=id
 .
  rw [if_pos he] at h0
  have hid:0<=cO l id:=by
   grind [Int.lt_or_le,tf]
  obtain ⟨p,_,hp2,hp3,hp4⟩:=oO hid
  have aah:=h.wT hid
  obtain ⟨z,hz,Wm⟩:=hi.made p hp3 ae
  have hy0:y.From≠0:=ae
  obtain ⟨p',hp',hpy⟩:=hi.made y hy hy0
  have:p'=p:=h.inj hp' hp3 (by rw [hpy.gF,he,hp2])
  subst this
  have YR:z.ID≠id:=by have:=Wm.gF;omega
  refine ⟨ml id (fx l id) z,gK.2 ⟨z,hz,YR,rfl⟩,?_⟩
  have wz:=h.mem hz;have wp:=h.mem hp3;have wy:=h.mem hy
  have hz':=lE (id:=id) (f:=fx l id) z
  have hy':=lE (id:=id) (f:=fx l id) y
  refine ⟨by rw [hz'.2.1,hy'.2.1,Wm.thing,hpy.thing],by rw [hz'.2.2.1,hy'.2.2.1];exact YQ wz.R3 wz.R4 wp.R3 wp.R4 wy.R3 wy.R4 Wm.has hpy.has,?_,?_⟩
  .
   rw [hz'.2.2.2,hy'.2.2.2]
   rcases Wm.bU with h1|h1
   .omega
   rcases hpy.bU with h2|h2
   .omega
   omega
  rw [hz'.1,vz,if_pos he,Wm.gF,hp4]
 rw [if_neg he] at h0
 obtain ⟨p,hp,hpy⟩:=hi.made y hy h0
 exact ⟨ml id (fx l id) p,gK.2 ⟨p,hp,by rw [hpy.gF];omega,rfl⟩,Qc hpy he⟩
theorem MI {l:List ap}(h:cS l)(id:Int):EZ l id=without l id:=by
 unfold EZ
 split
 .
  rename_i h1
  unfold without EY
  rw [tf h1]
  have:∀x∈l.filter (fun x=>decide (x.ID≠id)),ml id 0 x=x:=by
   intro x hx
   have hxl:=(List.mem_filter.1 hx).1
   unfold ml;split
   .
    rename_i he
    by_cases h0:x.From=0
    .cases x;grind
    obtain ⟨y,hy,hm⟩:=h.is.made x hxl h0
    have:=lf hy;rw [hm.gF,he] at this;omega
   rfl
  exact (List.map_congr_left this).trans (List.map_id' _) |>.symm
 rfl
end
section
open Go.RowKit
def hasT? (l:List ap)(t:Int):Bool:=l.any (fun x=>x.aA==t)
def eX (l:List ap):Nat->List Int
  | 0=>[]
  | n+1=>if hasT? l ((n+1:Nat):Int) then eX l n++[((n+1:Nat):Int)] else eX l n
def E5 (l:List ap):List Int:=eX l 999
theorem uq (l:List ap):∀n,(eX l n).length<=n
 | 0=>by simp [eX]
 | n+1=>by
  have:=uq l n
  simp only [eX];split
  .simp;omega
  omega
theorem C9 {l:List ap}{n:Nat}{t:Int}{x:ap}{j:Nat}(hn:0<n)(ht:t=(n:Int))(hx:l[j]? = some x)(h:x.aA=t):eX l n=eX l (n-1)++[t]:=by
 obtain ⟨m,rfl⟩:∃m,n=m+1:=⟨n-1,ae⟩
 simp only [eX,Nat.add_sub_cancel]
 have:hasT? l ((m+1:Nat):Int)=true:=by
  grind [hasT?,List.any_eq_true,List.mem_of_getElem?]
 grind
theorem AQ {l:List ap}{n:Nat}(hn:0<n)(h:∀ (j:Nat) x,j<l.length->l[j]? = some x->¬ x.aA=(n:Int)):eX l n=eX l (n-1):=by
 obtain ⟨m,rfl⟩:∃m,n=m+1:=⟨n-1,ae⟩
 simp only [eX,Nat.add_sub_cancel]
 have:hasT? l ((m+1:Nat):Int)=false:=by
  grind [hasT?,List.any_eq_false,List.mem_iff_getElem?,List.getElem?_eq_some_iff]
 grind
end
end Go.Proofs.YtnmpibjlnninjaaGreatDoor
section
set_option maxRecDepth 100000
namespace Go.Proofs
open Go.Shelf
def Tryz.lays189_ren:Go.Shelf.Ren:=⟨fun|189=>202|125=>205|257=>239|128=>248|129=>249|294=>273|295=>274|296=>275|297=>276|298=>277|299=>278|216=>279|300=>280|301=>281|328=>303|329=>283|330=>284|331=>304|332=>305|215=>306|343=>315|n=>n,fun|28=>110|3=>3|46=>183|0=>0|51=>236|53=>33|4=>4|183=>277|182=>276|131=>201|5=>5|9=>9|218=>308|222=>312|228=>329|229=>330|n=>n,fun|n=>n⟩
theorem Tryz.lays189:Go.Proofs.Lays.n189 Tryz.prog Tryz.lays189_ren:={
 mixed:=by kernel_rfl
 f125:=Tryz.func205.trans (congrArg some (by kernel_rfl))
 f128:=Tryz.func248.trans (congrArg some (by kernel_rfl))
 f129:=Tryz.func249.trans (congrArg some (by kernel_rfl))
 f189:=Tryz.func202.trans (congrArg some (by kernel_rfl))
 f215:=Tryz.func306.trans (congrArg some (by kernel_rfl))
 f216:=Tryz.func279.trans (congrArg some (by kernel_rfl))
 f257:=Tryz.func239.trans (congrArg some (by kernel_rfl))
 f294:=Tryz.func273.trans (congrArg some (by kernel_rfl))
 f295:=Tryz.func274.trans (congrArg some (by kernel_rfl))
 f296:=Tryz.func275.trans (congrArg some (by kernel_rfl))
 f297:=Tryz.func276.trans (congrArg some (by kernel_rfl))
 f298:=Tryz.func277.trans (congrArg some (by kernel_rfl))
 f299:=Tryz.func278.trans (congrArg some (by kernel_rfl))
 f300:=Tryz.func280.trans (congrArg some (by kernel_rfl))
 f301:=Tryz.func281.trans (congrArg some (by kernel_rfl))
 f328:=Tryz.func303.trans (congrArg some (by kernel_rfl))
 f329:=Tryz.func283.trans (congrArg some (by kernel_rfl))
 f330:=Tryz.func284.trans (congrArg some (by kernel_rfl))
 f331:=Tryz.func304.trans (congrArg some (by kernel_rfl))
 f332:=Tryz.func305.trans (congrArg some (by kernel_rfl))
 f343:=Tryz.func315.trans (congrArg some (by kernel_rfl))
 t0:=Tryz.underlying0
 a0:=Tryz.isAgg0
 z0:=Tryz.sizeOf0
 v0:=Tryz.zeroValue0
 t3:=Tryz.underlying3
 a3:=Tryz.isAgg3
 z3:=Tryz.sizeOf3
 v3:=Tryz.zeroValue3
 t4:=Tryz.underlying4
 a4:=Tryz.isAgg4
 z4:=Tryz.sizeOf4
 v4:=Tryz.zeroValue4
 t5:=Tryz.underlying5
 a5:=Tryz.isAgg5
 z5:=Tryz.sizeOf5
 v5:=Tryz.zeroValue5
 t9:=Tryz.underlying9
 a9:=Tryz.isAgg9
 z9:=Tryz.sizeOf9
 v9:=Tryz.zeroValue9
 t28:=Tryz.underlying110
 a28:=Tryz.isAgg110
 z28:=Tryz.sizeOf110
 v28:=Tryz.zeroValue110
 t46:=Tryz.underlying183
 a46:=Tryz.isAgg183
 z46:=Tryz.sizeOf183
 v46:=Tryz.zeroValue183
 t51:=Tryz.underlying236
 a51:=Tryz.isAgg236
 z51:=Tryz.sizeOf236
 v51:=Tryz.zeroValue236
 t53:=Tryz.underlying33
 a53:=Tryz.isAgg33
 z53:=Tryz.sizeOf33
 v53:=Tryz.zeroValue33
 t131:=Tryz.underlying201
 a131:=Tryz.isAgg201
 z131:=Tryz.sizeOf201
 v131:=Tryz.zeroValue201
 t182:=Tryz.underlying276
 a182:=Tryz.isAgg276
 z182:=Tryz.sizeOf276
 v182:=Tryz.zeroValue276
 t183:=Tryz.underlying277
 a183:=Tryz.isAgg277
 z183:=Tryz.sizeOf277
 v183:=Tryz.zeroValue277
 t218:=Tryz.underlying308
 a218:=Tryz.isAgg308
 z218:=Tryz.sizeOf308
 v218:=Tryz.zeroValue308
 t222:=Tryz.underlying312
 a222:=Tryz.isAgg312
 z222:=Tryz.sizeOf312
 v222:=Tryz.zeroValue312
 t228:=Tryz.underlying329
 a228:=Tryz.isAgg329
 z228:=Tryz.sizeOf329
 v228:=Tryz.zeroValue329
 t229:=Tryz.underlying330
 a229:=Tryz.isAgg330
 z229:=Tryz.sizeOf330
 v229:=Tryz.zeroValue330 }
def Tryz.laysNm220_ren:Go.Shelf.Ren:=⟨fun|20=>203|n=>n,fun|22=>110|3=>3|4=>4|0=>0|n=>n,fun|n=>n⟩
theorem Tryz.laysNm220:Go.Proofs.Lays2.n20 Tryz.prog Tryz.laysNm220_ren:={
 mixed:=by kernel_rfl
 f20:=Tryz.func203.trans (congrArg some (by kernel_rfl))
 t0:=Tryz.underlying0
 a0:=Tryz.isAgg0
 z0:=Tryz.sizeOf0
 v0:=Tryz.zeroValue0
 t3:=Tryz.underlying3
 a3:=Tryz.isAgg3
 z3:=Tryz.sizeOf3
 v3:=Tryz.zeroValue3
 t4:=Tryz.underlying4
 a4:=Tryz.isAgg4
 z4:=Tryz.sizeOf4
 v4:=Tryz.zeroValue4
 t22:=Tryz.underlying110
 a22:=Tryz.isAgg110
 z22:=Tryz.sizeOf110
 v22:=Tryz.zeroValue110
 i3:=by kernel_rfl }
open Go.Sort Go.RowKit in
theorem Tryz.slices_Sort_int (blk off cap:Nat)(zs:List Int)(w:World)(hH:Holds (Value.int .i64) w blk off zs.toArray)(hblk:blk<w.heap.size)(hsz:zs.length<4611686018427387904) :
    Calls Tryz.prog 202 #[.slice (some ⟨blk,off,none⟩) zs.length cap] w fun e w' =>
      e = .returned (.tuple #[]) /\ ∃n os,w'=grow (putRow (Value.int .i64) (Sort.ahead w n) blk off (zs.mergeSort fun x y=>decide (x<=y)).toArray) os:=Any.slices_Sort_int Tryz.lays189 blk off cap zs w hH hblk hsz
open Go.RowKit Go.Lib Go.Sort in
theorem Tryz.slices_Compact_int (blk off cap:Nat)(zs:List Int)(w:World)(hH:Holds (Value.int .i64) w blk off zs.toArray)(hsz:zs.length<=9223372036854775807)(hcap:zs.length<=cap) :
    Calls Tryz.prog 203 #[.slice (some ⟨blk,off,none⟩) zs.length cap] w fun e w'=>e = .returned (.slice (some ⟨blk,off,none⟩) (Lib.compact zs).length cap) /\ ∃q,w'=putRow (Value.int .i64) (Sort.ahead w q) blk off (Lib.compact zs++List.replicate (zs.length-(Lib.compact zs).length) 0).toArray:=Any.slices_Compact_int Tryz.laysNm220 blk off cap zs w hH hsz hcap
open Go.RowKit Go.Lib Go.Sort in
theorem Tryz.slices_Compact_int_empty (a:Option Addr)(cap:Nat)(w:World) :
    Calls Tryz.prog 203 #[.slice a 0 cap] w fun e w'=>e = .returned (.slice a 0 cap)/\w'=w:=Any.slices_Compact_int_empty Tryz.laysNm220 a cap w
open Go.RowKit Go.Sort in
theorem Tryz.slices_Sort_int_none (p:Option Addr)(cap:Nat)(w:World) :
    Calls Tryz.prog 202 #[.slice p 0 cap] w fun e w'=>e = .returned (.tuple #[])/\w'=w:=Any.slices_Sort_int_none Tryz.lays189 p cap w
end Go.Proofs
end
namespace Go.Proofs.YtnmpibjlnninjaaGreatDoor
set_option linter.unusedVariables false
set_option linter.unusedSimpArgs false
set_option maxRecDepth 100000
set_option maxHeartbeats 90000000
section
open Go Go.RowKit Go.Sort
def qq (l:List Int):List Int:=l.mergeSort fun x y=>decide (x<=y)
theorem vA (l:List Int):l.flatMap Enc.cells=l.map (Value.int .i64):=by
 induction l with
 | nil=>rfl
 | cons x l ih=>rw [List.flatMap_cons,ih];rfl
theorem yI {w:World}{g cap n m:Nat}{os:Array Obj}{l ts zs:List Int}{v:Value}(hv:v = .slice (some ⟨g,0,none⟩) l.length cap)(how:Own 0 3 w v l)(hl:ts.length=l.length)(hz:zs=ts.take m)(hm:m<=l.length) :
 Turned [aj.row 3 v l] [aj.row 3 (.slice (some ⟨g,0,none⟩) m cap) zs] w (grow (putRow (Value.int .i64) (Sort.ahead w n) g 0 ts.toArray) os):=by
 obtain ⟨hlen,hn|⟨g',cap',cur,hv',_,hgg,hnc,hcm,hcs,htk⟩⟩:=how
 .grind
 rw [hv] at hv'
 simp only [Value.slice.injEq,Option.some.injEq,Addr.mk.injEq,and_true,true_and] at hv'
 obtain ⟨rfl,rfl⟩:=hv'
 have h3:cur.size=cap*1:=hcs
 have hgb:=grownBy_sortedI (w:=w) (g:=g) (n:=n) (os:=os) ts.toArray
 have hz2:zs.length=m:=aB
 have hown:Own 0 3 (grow (putRow (Value.int .i64) (Sort.ahead w n) g 0 ts.toArray) os) (.slice (some ⟨g,0,none⟩) m cap) zs:=by
  have h:=ownsRow_sortedI (w:=w) (base:=0) (n:=n) (os:=os) (ss:=l) (ts:=ts) hl (Nat.zero_le _) hgg hnc hcm h3
  obtain ⟨h1,h2|⟨g2,c2,Wn,e2,b2,hg2,n2,m2,s2,t2⟩⟩:=h
  .grind
  simp only [Value.slice.injEq,Option.some.injEq,Addr.mk.injEq,and_true,true_and] at e2
  obtain ⟨rfl,rfl⟩:=e2
  refine ⟨by rw [eK],.inr ⟨g,cap,Wn,aB,Nat.zero_le _,hg2,ae,hcm,s2,?_⟩⟩
  show Wn.toList.take (zs.length*1)=_
  rw [vA,hz2,Nat.mul_one,hz,List.map_take,<- t2,List.take_take,Nat.mul_one,Nat.min_eq_left hm]
 have hlt:g<w.heap.size:=(Array.getElem?_eq_some_iff.1 hgg).1
 refine ⟨⟨hgb.os,hgb.tape,hgb.output,hgb.size,fun k hk hx=>hgb.block k hk (fun e=>hx ?_)⟩,?_,?_,fun k hk=>?_⟩
 .grind [blks,aj.row,fk]
 .intro r hr;simp at hr;subst hr;exact hown
 .simp [blks,aj.row,fk]
 simp [blks,aj.row,fk] at hk;subst hk
 exact ⟨Nat.lt_of_lt_of_le hlt hgb.size,.inl (by grind [blks,aj.row,fk])⟩
theorem Turned.refl {B0:List aj}{w:World}(h:Hnd B0 w):Turned B0 B0 w w:=⟨mH.refl _ _,h.ok,h.sep,fun k hk=>⟨h.lt k hk,.inl hk⟩⟩
theorem MJ (v:Value)(l:List Int)(w:World)(H:Hnd [aj.row 3 v l] w)(hl:l.length<=1000000):Calls Tryz.prog 202 [v].toArray w fun e w' => ∃_z:Unit,e = .returned (.tuple #[])/\Turned [aj.row 3 v l] [aj.row 3 v (qq l)] w w':=by
 have how:Own 0 3 w v l:=H.ok (aj.row 3 v l) (List.mem_singleton.2 rfl)
 have hs:(qq l).length=l.length:=List.length_mergeSort l
 rcases how.2 with ⟨rfl,h0⟩ | ⟨g,cap,cur,hv,_,hgg,hnc,hcm,hcs,htk⟩
 .
  have:l=[]:=List.eq_nil_of_length_eq_zero h0
  subst this
  refine (Tryz.slices_Sort_int_none none 0 w).mono ?_
  rintro e w' ⟨rfl,rfl⟩
  have e0:qq []=[]:=aB
  rw [e0]
  exact ⟨(),rfl,Turned.refl H⟩
 have hH:=holds_of_blockI (ss:=l) hgg (by simp_all [Enc.k,vA])
 rw [hv]
 refine (Tryz.slices_Sort_int g 0 cap l w hH (Array.getElem?_eq_some_iff.1 hgg).1 ae).mono ?_
 rintro e w' ⟨rfl,n,os,rfl⟩
 refine ⟨(),rfl,?_⟩
 simp_all [qq,yI,List.take_of_length_le,Nat.le_refl]
theorem E6 (v:Value)(l:List Int)(w:World)(H:Hnd [aj.row 3 v l] w)(hl:l.length<=1000000):Calls Tryz.prog 203 [v].toArray w fun e w' => ∃z:Value,e = .returned z/\Turned [aj.row 3 v l] [aj.row 3 z (Lib.compact l)] w w':=by
 have how:Own 0 3 w v l:=H.ok (aj.row 3 v l) (List.mem_singleton.2 rfl)
 rcases how.2 with ⟨rfl,h0⟩ | ⟨g,cap,cur,hv,_,hgg,hnc,hcm,hcs,htk⟩
 .
  have:l=[]:=List.eq_nil_of_length_eq_zero h0
  subst this
  refine (Tryz.slices_Compact_int_empty none 0 w).mono ?_
  rintro e w' ⟨rfl,rfl⟩
  exact ⟨_,rfl,Turned.refl H⟩
 have hH:=holds_of_blockI (ss:=l) hgg (by simp_all [Enc.k,vA])
 have hc:(Lib.compact l).length<=l.length:=by
  grind [Lib.compact,Lib.compactUpTo,List.length_map,Nat.le_trans,List.length_filter_le]
 rw [hv]
 refine (Tryz.slices_Compact_int g 0 cap l w hH ae hnc).mono ?_
 rintro e w' ⟨rfl,n,rfl⟩
 refine ⟨_,rfl,?_⟩
 have:=yI (os:= #[]) (n:=n) (ts:=Lib.compact l++List.replicate (l.length-(Lib.compact l).length) 0) (zs:=Lib.compact l) (m:=(Lib.compact l).length) hv how aB bW hc
 simp_all
end
section
open Go.RowKit
theorem Jq:∀ (a b:List Int),a.Pairwise (· < ·)->b.Pairwise (· < ·)->(∀x,x∈a↔x∈b)->a=b
 | [],[],_,_,_=>rfl
 | [],y::b,_,_,h=>by have:=(h y).2 bW;simp at this
 | x::a,[],_,_,h=>by have:=(h x).1 bW;simp at this
 | x::a,y::b,ha,hb,h=>by
  obtain ⟨ha1,ha2⟩:=List.pairwise_cons.1 ha
  obtain ⟨hb1,hb2⟩:=List.pairwise_cons.1 hb
  have hxy:x=y:=by
   have h1:x=y∨x∈b:=by simpa using (h x).1 bW
   have h2:y=x∨y∈a:=by simpa using (h y).2 bW
   rcases h1 with h1|h1
   .exact h1
   rcases h2 with h2|h2
   .exact h2.symm
   have:=hb1 x h1;have:=ha1 y h2;omega
  subst hxy
  congr 1
  refine Jq a b ha2 hb2 fun z=>?_
  constructor
  .
   intro hz
   have h1:z=x∨z∈b:=by simpa using (h z).1 (by simp [hz])
   rcases h1 with h1|h1
   .have:=ha1 z hz;omega
   exact h1
  intro hz
  have h1:z=x∨z∈a:=by simpa using (h z).2 (by simp [hz])
  rcases h1 with h1|h1
  .have:=hb1 z hz;omega
  exact h1
theorem ut {zs:List Int}(hs:zs.Pairwise (· <= ·)):∀m,m<=zs.length->(Lib.compactUpTo zs.toArray m).Pairwise (· < ·) /\ ∀x,x∈Lib.compactUpTo zs.toArray m ↔ ∃j,j<m/\zs[j]? = some x
 | 0,_=>by simp [Lib.compactUpTo]
 | m+1,hm=>by
  obtain ⟨ih1,ih2⟩:=ut hs m ae
  have hz:zs[m]? = some zs[m]:=List.getElem?_eq_getElem ae
  have hd:zs.toArray[m]! = zs[m]:=aB
  rw [Lib.compactUpTo_succ,hd]
  have hle:∀j x,j<m->zs[j]? = some x->x<=zs[m]:=fun j x hj hx=>by
   grind [List.getElem?_eq_some_iff,List.pairwise_iff_getElem]
  by_cases hk:Lib.keeps zs.toArray m=true
  .
   rw [if_pos hk]
   have hlt:∀x∈Lib.compactUpTo zs.toArray m,x<zs[m]:=fun x hx=>by
    obtain ⟨j,hj,hxj⟩:=(ih2 x).1 hx
    have h1:=hle j x hj hxj
    simp only [Lib.keeps,decide_eq_true_eq] at hk
    rcases hk with hk|hk
    .omega
    have hd1:zs.toArray[m-1]! = zs[m-1]:=aB
    rw [hd,hd1] at hk
    have h2:x<=zs[m-1]:=by
     obtain ⟨h3,rfl⟩:=List.getElem?_eq_some_iff.1 hxj
     rcases Nat.lt_or_ge j (m-1) with h4|h4
     .grind [List.pairwise_iff_getElem]
     grind
    grind
   grind
  rw [if_neg hk,List.append_nil]
  refine ⟨ih1,fun x=>?_⟩
  rw [ih2]
  simp only [Lib.keeps,decide_eq_true_eq] at hk
  grind
theorem oa (l:List ap):∀n,(eX l n).Pairwise (· < ·) /\ ∀x,x∈eX l n↔1<=x/\x<=(n:Int)/\hasT? l x=true
 | 0=>by simp [eX];omega
 | n+1=>by
  obtain ⟨h1,h2⟩:=oa l n
  simp only [eX]
  split
  .
   rename_i hh
   refine ⟨List.pairwise_append.2 ⟨h1,bW,fun a ha b hb=>by simp at hb;subst hb;have:=(h2 a).1 ha;omega⟩,fun x=>?_⟩
   rw [List.mem_append,h2]
   constructor
   .
    rintro (⟨a,b,c⟩ | h)
    .exact ⟨a,ae,c⟩
    simp at h;subst h;exact ⟨ae,ae,hh⟩
   rintro ⟨a,b,c⟩
   by_cases e:x<=(n:Int)
   .exact .inl ⟨a,e,c⟩
   right;simp;omega
  rename_i hh
  refine ⟨h1,fun x=>?_⟩
  rw [h2]
  constructor
  .rintro ⟨a,b,c⟩;exact ⟨a,ae,c⟩
  rintro ⟨a,b,c⟩
  refine ⟨a,?_,c⟩
  by_cases e:x<=(n:Int)
  .exact e
  have:x=((n+1:Nat):Int):=ae
  rw [this] at c;exact absurd c hh
theorem vB {l:List ap}(h:cS l):Lib.compact (qq (l.map ap.aA))=E5 l:=by
 have hs:(qq (l.map ap.aA)).Pairwise (· <= ·):=by
  have:=List.pairwise_mergeSort (le:=fun x y:Int=>decide (x<=y)) (fun a b c=>by grind) (fun a b=>by grind) (l.map ap.aA)
  exact this.imp bW
 obtain ⟨h1,h2⟩:=ut hs _ (Nat.le_refl _)
 obtain ⟨h3,h4⟩:=oa l 999
 refine Jq _ _ h1 h3 fun x=>?_
 show x∈Lib.compactUpTo _ _↔x∈eX l 999
 rw [h2,h4]
 have hm:(∃j,j<(qq (l.map ap.aA)).length/\(qq (l.map ap.aA))[j]? = some x)↔x∈l.map ap.aA:=by
  rw [<- List.mem_mergeSort (le:=fun x y:Int=>decide (x<=y)) (l:=l.map ap.aA)]
  constructor
  .rintro ⟨j,_,hx⟩;exact List.mem_of_getElem? hx
  intro hx
  obtain ⟨j,hj⟩:=List.mem_iff_getElem?.1 hx
  exact ⟨j,(List.getElem?_eq_some_iff.1 hj).1,hj⟩
 rw [hm]
 simp only [List.mem_map,hasT?,List.any_eq_true,beq_iff_eq]
 constructor
 .
  rintro ⟨y,hy,rfl⟩
  have w:=h.mem hy
  have:=w.Vz;have:=w.VA
  grind
 grind
end
section
theorem j9 {α:Type}(p:α->Bool)(l:List α):(idxOf p l = -1 /\ ∀x∈l,p x=false) ∨ ∃ (k:Nat) (x:α),idxOf p l=k/\l[k]? = some x/\p x=true/\(∀ (j:Nat) y,j<k->l[j]? = some y->p y=false)/\k<l.length:=by
 unfold idxOf
 cases h:l.findIdx? p with
 | none=>grind
 | some k =>
  grind [List.findIdx?_eq_some_iff_getElem,List.getElem?_eq_getElem,List.getElem?_eq_some_iff]
section
variable {α:Type} {p:α->Bool} {l acc:List α} {i j k:Nat} {x:α}
theorem yJ (h:∀x∈l,p x=false):l.filter (fun x => !p x)=l:=List.filter_eq_self.2 (fun x hx=>by grind)
def qw (p:α->Bool)(l acc:List α)(i j:Nat):Prop:=i<=j/\j<=l.length/\acc.length=l.length/\acc.take i=(l.take j).filter (fun x => !p x)/\acc.drop j=l.drop j
theorem qw.start (hx:l[k]? = some x)(hp:p x=true)(hb:∀ (j:Nat) y,j<k->l[j]? = some y->p y=false):qw p l l k (k+1):=by
 have hk:=(List.getElem?_eq_some_iff.1 hx).1
 refine ⟨ae,ae,rfl,?_,rfl⟩
 rw [List.take_add_one,hx,List.filter_append]
 grind [List.filter_eq_self,List.mem_iff_getElem?]
theorem qw.at (h:qw p l acc i j):acc[j]? = l[j]?:=by
 have:=congrArg (·[0]?) h.2.2.2.2
 grind
theorem qw.skip (h:qw p l acc i j)(hx:acc[j]? = some x)(hp:p x=true):qw p l acc i (j+1):=by
 rw [h.at] at hx
 have hk:=(List.getElem?_eq_some_iff.1 hx).1
 obtain ⟨h1,h2,h3,h4,h5⟩:=h
 refine ⟨ae,ae,h3,?_,?_⟩
 .grind [List.take_add_one]
 rw [<- List.drop_drop,<- List.drop_drop,h5]
theorem qw.keep (h:qw p l acc i j)(hx:acc[j]? = some x)(hp:p x=false):qw p l (acc.set i x) (i+1) (j+1):=by
 rw [h.at] at hx
 have hk:=(List.getElem?_eq_some_iff.1 hx).1
 obtain ⟨h1,h2,h3,h4,h5⟩:=h
 refine ⟨ae,ae,aB,?_,?_⟩
 .
  rw [List.take_add_one (l:=l),hx,List.filter_append,<- h4,List.take_add_one,List.getElem?_set_self ae,List.take_set_of_le (Nat.le_refl _)]
  grind
 rw [List.drop_set_of_lt ae,<- List.drop_drop,<- List.drop_drop,h5]
theorem qw.done (h:qw p l acc i j)(hj:¬ j<l.length){z:α}{m:Nat}:l.filter (fun x => !p x)=(acc.take i++List.replicate m z).take i:=by
 obtain ⟨h1,h2,h3,h4,h5⟩:=h
 grind
end
end
end Go.Proofs.YtnmpibjlnninjaaGreatDoor
