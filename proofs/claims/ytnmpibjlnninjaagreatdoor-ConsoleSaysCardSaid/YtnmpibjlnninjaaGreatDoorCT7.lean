import Derived.Test.YtnmpibjlnninjaaGreatDoorCT6
import Derived.Lib.SlicesCompact
import Derived.Shelf.Strings.Builder1
import Derived.Shelf.Strings.Builder2
import Derived.Shelf.Small.Bits
import Derived.Shelf.Small.Strs
import Derived.Shelf.Small.Wraps
import Derived.Shelf.Strings.BuilderF
import Derived.Shelf.Strconv.Atoi
import Derived.Shelf.Strconv.Itoa0
import Derived.Shelf.Strconv.Itoa1
import Derived.Shelf.LaysM
import Derived.Shelf.Strconv.Itoa2
import Derived.Shelf.Strconv.Itoa3
import Derived.Shelf.Strconv.AtoiErrFast
import Derived.Shelf.Strconv.ParseIntEmpty
import Derived.Shelf.Strconv.AtoiFail
import Derived.Shelf.Strconv.Clone
import Derived.Shelf.Strconv.SyntaxError
import Derived.Shelf.LaysC
import Derived.Shelf.Strconv.ToError
import Derived.Shelf.Strconv.AtoiErr
import Derived.Shelf.Strconv.ErrVar
import Derived.Shelf.Strings.Search1
import Derived.Shelf.Strings.Search2
import Derived.Shelf.Strings.Search3
import Derived.Shelf.Strings.Count
import Derived.Shelf.Strings.Shaped
import Derived.Shelf.Sort.Plain
import Derived.Shelf.Strings.Prefix
import Derived.Shelf.Bits.Mul64
import Derived.Shelf.Strings.Repeat
import Derived.Shelf.Unicode.DecodeSlow
import Derived.Shelf.Slices.Turned
import Derived.Shelf.Slices.Equal
import Derived.Ground.Names2Prog
import Derived.Shelf.Slices.CompactI
import Derived.Shelf.Slices.SearchI
import Derived.Shelf.Slices.Cells
import Derived.Shelf.Slices.In.SortNone
import Derived.Shelf.Slices.Empties2
import Derived.Sort.OwnSortedInts
namespace Go.Proofs.YtnmpibjlnninjaaGreatDoor
set_option linter.unusedVariables false
set_option linter.unusedSimpArgs false
set_option maxRecDepth 100000
set_option maxHeartbeats 90000000
section
theorem J4 {α:Type}{l u:List α}{i:Nat}(h:i=l.length):l.take i++u++l.drop i=l++u:=by
 grind
theorem FR {α:Type}{l u:List α}{i m:Nat}{z:α}(hu:u.length=1)(hi:i<l.length)(hm:m=l.length+u.length-i) :
 l.take i++u++l.drop i=((l.take i++List.replicate m z).take i++u++(l.take i++List.replicate m z).drop (i+u.length)).take (i+u.length)++l.drop i++((l.take i++List.replicate m z).take i++u++(l.take i++List.replicate m z).drop (i+u.length)).drop (i+u.length+(l.drop i).length):=by
 have h1:(l.take i).length=i:=az
 have h2:((l.take i++List.replicate m z).take i)=l.take i:=az
 have h3:(l.take i++u).length=i+u.length:=az
 rw [h2,List.take_append_of_le_length ae,List.take_of_length_le (l:=l.take i++u) ae]
 grind [List.length_append,List.length_drop,List.length_replicate,List.drop_of_length_le]
theorem Ei {α:Type}{l u:List α}{i:Nat}(hu:u.length=1)(hi:i<l.length) :
 l.take i++u++l.drop i=(l.take (i+1)++l.drop i).take i++u++(l.take (i+1)++l.drop i).drop (i+u.length):=by
 grind
theorem zu {α:Type}{l:List α}{i j:Nat}(h:i=j):l.take i++l.drop j=l:=uY
section
variable {α:Type}
def bsGo (f:α->Int)(l:List α)(lo hi:Nat):Nat :=
  if h:lo<hi then
    match l[(lo+hi) / 2]? with
    | some x=>if f x<0 then bsGo f l ((lo+hi) / 2+1) hi else bsGo f l lo ((lo+hi) / 2)
    | none=>lo
  else lo
termination_by hi-lo
decreasing_by all_goals omega
def kS (f:α->Int)(l:List α):Nat:=bsGo f l 0 l.length
def rk (f:α->Int)(l:List α):Bool:=match l[kS f l]? with|some x=>decide (f x=0)|none=>false
variable {f:α->Int} {l:List α} {lo hi:Nat} {x:α}
theorem Ej (h:lo<hi)(hx:l[(lo+hi) / 2]? = some x)(hf:f x<0):bsGo f l lo hi=bsGo f l ((lo+hi) / 2+1) hi:=by
 rw [bsGo,dif_pos h,hx];grind
theorem Ek (h:lo<hi)(hx:l[(lo+hi) / 2]? = some x)(hf:¬ f x<0):bsGo f l lo hi=bsGo f l lo ((lo+hi) / 2):=by
 rw [bsGo,dif_pos h,hx];grind
theorem iG (h:¬ lo<hi):bsGo f l lo hi=lo:=by rw [bsGo,dif_neg h]
theorem Rt:∀ (n lo hi:Nat),hi-lo=n->lo<=hi->bsGo f l lo hi<=hi:=by
 intro n
 induction n using Nat.strongRecOn with
 | _ n ih =>
  intro lo hi hn hle
  rw [bsGo]
  split
  .
   split
   .
    split
    .grind
    grind
   omega
  omega
theorem rY:kS f l<=l.length:=Rt _ 0 l.length rfl (Nat.zero_le _)
theorem FT (h:rk f l=true):∃x,l[kS f l]? = some x/\f x=0:=by
 unfold rk at h
 grind
theorem Lw (hm:∀ (i j:Nat) x y,i<=j->l[i]? = some x->l[j]? = some y->f y<0->f x<0):∀ (n lo hi:Nat),hi-lo=n->lo<=hi->hi<=l.length ->
 (∀ (i:Nat) x,i<lo->l[i]? = some x->f x<0)->(∀ (i:Nat) x,hi<=i->l[i]? = some x->¬ f x<0) ->
 (∀ (i:Nat) x,i<bsGo f l lo hi->l[i]? = some x->f x<0)/\(∀ (i:Nat) x,bsGo f l lo hi<=i->l[i]? = some x->¬ f x<0):=by
 intro n
 induction n using Nat.strongRecOn with
 | _ n ih =>
  intro lo hi hn hle hl h1 h2
  by_cases hlt:lo<hi
  .
   obtain ⟨x,hx⟩:∃x,l[(lo+hi) / 2]? = some x:=⟨_,List.getElem?_eq_getElem ae⟩
   by_cases hf:f x<0
   .
    rw [Ej hlt hx hf]
    exact ih (hi-((lo+hi) / 2+1)) ae _ _ rfl ae hl (fun i y hi' hy=>hm i ((lo+hi) / 2) y x ae hy hx hf) h2
   rw [Ek hlt hx hf]
   exact ih ((lo+hi) / 2-lo) ae _ _ rfl ae ae h1 (fun i y hi' hy hc=>hf (hm ((lo+hi) / 2) i x y hi' hx hy hc))
  rw [iG hlt]
  grind
theorem FU (hm:∀ (i j:Nat) x y,i<=j->l[i]? = some x->l[j]? = some y->f y<0->f x<0) :
 (∀ (i:Nat) x,i<kS f l->l[i]? = some x->f x<0)/\(∀ (i:Nat) x,kS f l<=i->l[i]? = some x->¬ f x<0) :=
 Lw hm _ 0 l.length rfl (Nat.zero_le _) (Nat.le_refl _) (fun i x hi=>absurd hi (Nat.not_lt_zero _)) (fun i x hi hx=>by
  grind)
end
def tN (a b:Int):Int:=if a<b then -1 else if b<a then 1 else 0
def NC:List Int->Int
  | []=>0
  | x::l=>if x=0 then NC l else x
theorem ND {l:List Int}{k:Nat}{x:Int}(h:l[k]? = some x)(h0:x=0):NC (l.drop k)=NC (l.drop (k+1)):=by
 grind [NC,List.getElem?_eq_some_iff,List.drop_eq_getElem_cons]
theorem Ru {l:List Int}{k:Nat}{x:Int}(h:l[k]? = some x)(h0:¬ x=0):NC (l.drop k)=x:=by
 grind [NC,List.getElem?_eq_some_iff,List.drop_eq_getElem_cons]
end
def bq (p:Place):Int:=if p.aD<1∨4<p.aD∨p.Slot<0∨5<p.Slot then 1 else 0
def tO (p q:Place):Int:=if tN p.aD q.aD=0 then tN p.Slot q.Slot else tN p.aD q.aD
theorem Rv (p q:Place):NC [tN p.aD q.aD,tN p.Slot q.Slot]=tO p q:=by
 grind [NC,tO]
theorem Lx {p q:Place}(h:tO p q=0):p=q:=by
 cases p;cases q
 grind [tO,tN,Place.mk.injEq]
theorem Ly (p:Place):tO p p=0:=by simp [tO,tN]
def jF (l:List Held)(p:Place):Nat:=kS (fun h=>tO h.Place p) l
def Lz (l:List Held)(p:Place):Bool:=rk (fun h=>tO h.Place p) l
theorem yL (l:List Held)(p:Place):jF l p<=l.length:=rY
theorem wN (l:List Held)(p:Place):Lz l p=false ∨ ∃x,l[jF l p]? = some x/\Lz l p=true/\x.Place=p/\jF l p<l.length:=by
 cases h:Lz l p with
 | false=>grind
 | true =>
  obtain ⟨x,h1,h2⟩:=FT h
  exact .inr ⟨x,h1,rfl,Lx h2,(List.getElem?_eq_some_iff.1 h1).1⟩
def oI (l:List Held)(p:Place):Int:=if Lz l p then (match l[jF l p]? with|some x=>x.ak|none=>0) else 0
theorem NF {l:List Held}{p:Place}(h:Lz l p=false):oI l p=0:=by simp [oI,h]
theorem J5 {l:List Held}{p:Place}{x:Held}(h:Lz l p=true)(hx:l[jF l p]? = some x):oI l p=x.ak:=by grind [oI]
def fW (l:List Held)(p:Place)(id:Int):List Held :=
  if Lz l p then (if id=0 then l.take (jF l p)++l.drop (jF l p+1) else l.set (jF l p) ⟨p,id⟩)
  else if id=0 then l else l.take (jF l p)++[⟨p,id⟩]++l.drop (jF l p)
theorem nV (l:List Held)(p:Place)(id:Int):(fW l p id).length<=l.length+1:=by
 grind [fW,yL]
def lP (l:List Held)(h:Int):Nat->Nat->Int
  | 0,_ => -1
  | n+1,s=>if oI l ⟨h,s⟩=0 then s else lP l h n (s+1)
def gk (l:List Held)(h:Int):Int:=lP l h 6 0
theorem IB {l:List Held}{h:Int}{n s:Nat}(e:oI l ⟨h,s⟩=0)(hn:0<n):lP l h n s=s:=by
 cases n with
 | zero=>omega
 | succ n=>simp [lP,e]
theorem FV {l:List Held}{h:Int}{s:Nat}(e:¬ oI l ⟨h,s⟩=0)(hs:s<6):lP l h (6-s) s=lP l h (6-(s+1)) (s+1):=by
 have:6-s=(6-(s+1))+1:=ae
 simp_all [lP,if_neg]
def mA (l:List Held)(p:Place):Int:=match l.find? (fun h=>h.Place==p) with|some h=>h.ak|none=>0
theorem LA {l:List Held}{p:Place}{k:Nat}{x:Held}(hx:l[k]? = some x)(he:x.Place=p)(hb:∀ (j:Nat) y,j<k->l[j]? = some y->¬ y.Place=p):mA l p=x.ak:=by
 grind [mA,List.getElem?_eq_some_iff,List.find?_eq_some_iff_getElem,List.getElem?_eq_getElem]
theorem IC {l:List Held}{p:Place}(hb:∀ (j:Nat) y,j<l.length->l[j]? = some y->¬ y.Place=p):mA l p=0:=by
 grind [mA,List.find?_eq_none,List.mem_iff_getElem?,List.getElem?_eq_some_iff]
def lv (p:Place)(id:Int)(s:List Held×Bool)(h:Held):List Held×Bool :=
  let s1:=if s.2=false/\(p.aD<h.Place.aD∨(p.aD=h.Place.aD/\p.Slot<=h.Place.Slot)) then (s.1++[⟨p,id⟩],true) else s
  (if h.Place=p then s1.1 else s1.1++[h],s1.2)
theorem ic {p:Place}{id:Int}{acc:List Held}{h:Held}(ho:p.aD<h.Place.aD∨(p.aD=h.Place.aD/\p.Slot<=h.Place.Slot)):lv p id (acc,false) h=(if h.Place=p then acc++[⟨p,id⟩] else acc++[⟨p,id⟩]++[h],true):=by
 unfold lv;grind
theorem d9 {p:Place}{id:Int}{acc:List Held}{b:Bool}{h:Held}(ho:b=true∨¬ (p.aD<h.Place.aD∨(p.aD=h.Place.aD/\p.Slot<=h.Place.Slot))):lv p id (acc,b) h=(if h.Place=p then acc else acc++[h],b):=by
 unfold lv;grind
def oS (l:List Held)(p:Place)(id:Int):List Held×Bool:=l.foldl (lv p id) ([],id==0)
def mS (l:List Held)(p:Place)(id:Int):List Held:=if (oS l p id).2 then (oS l p id).1 else (oS l p id).1++[⟨p,id⟩]
theorem dB (l:List Held)(p:Place)(id:Int)(k:Nat)(x:Held)(h:l[k]? = some x):oS (l.take (k+1)) p id=lv p id (oS (l.take k) p id) x:=by
 grind [oS,List.getElem?_eq_some_iff,List.take_add_one]
theorem FW (p:Place)(id:Int)(s:List Held×Bool)(h:Held):(lv p id s h).1.length<=s.1.length+2:=by
 grind [lv]
theorem CB (l:List Held)(p:Place)(id:Int):(oS l p id).1.length<=2*l.length:=by
 have:∀ (l:List Held) (s:List Held×Bool),(l.foldl (lv p id) s).1.length<=s.1.length+2*l.length:=by
  intro l
  induction l with
  | nil=>grind
  | cons h l ih=>grind [List.length_cons,FW]
 grind [oS,id]
def l9 (l:List Held)(h:Int):Nat->Nat->Int
  | 0,_ => -1
  | n+1,s=>if mA l ⟨h,s⟩=0 then s else l9 l h n (s+1)
def El (l:List Held)(h:Int):Int:=l9 l h 6 0
theorem FX {l:List Held}{h:Int}{n s:Nat}(e:mA l ⟨h,s⟩=0)(hn:0<n):l9 l h n s=s:=by
 cases n with
 | zero=>omega
 | succ n=>simp [l9,e]
theorem Em {l:List Held}{h:Int}{s:Nat}(e:¬ mA l ⟨h,s⟩=0)(hs:s<6):l9 l h (6-s) s=l9 l h (6-(s+1)) (s+1):=by
 have:6-s=(6-(s+1))+1:=ae
 simp_all [l9,if_neg]
theorem jq (p:Place):bq p=0∨bq p=1:=by grind [bq]
theorem fE {p:Place}(h:p.aD<1∨4<p.aD∨p.Slot<0∨5<p.Slot):bq p=1:=if_pos h
theorem t8 {p:Place}(h:1<=p.aD/\p.aD<=4/\0<=p.Slot/\p.Slot<=5):bq p=0:=if_neg ae
theorem bP {p:Place}(h:bq p=0):1<=p.aD/\p.aD<=4/\0<=p.Slot/\p.Slot<=5:=by
 grind [bq]
def ln (p q:Place):Prop:=p.aD<q.aD∨(p.aD=q.aD/\p.Slot<q.Slot)
def GoodAt (l:List Held)(k:Nat):Prop:= ∀h,l[k]? = some h->bq h.Place=0/\h.ak≠0 /\ ∀g,0<k->l[k-1]? = some g->ln g.Place h.Place
def Good (l:List Held):Prop:= ∀k,k<l.length->GoodAt l k
section
open Go.RowKit
def dS (r:Int):Int:=if r<0 then 1 else if 7<r then 1 else 0
theorem ig {r:Int}(h0:0<=r)(h7:r<=7):dS r=0:=by simp_all [dS,if_neg]
theorem nW {r:Int}(h:r<0∨7<r):dS r=1:=by unfold dS;omega
theorem iH (r:Int):(dS r=1/\(r<0∨7<r))∨(dS r=0/\0<=r/\r<=7):=by
 grind [nW,ig]
def iI (r need:Int):Bool:=(r.toNat &&& need.toNat)==need.toNat
def hasB (r need:Int):Bool:= !(need % 2==1&&r % 2==0) && !(need / 2 % 2==1&&r / 2 % 2==0) && !(need / 4 % 2==1&&r / 4 % 2==0)
theorem NG:∀r n:Fin 8,hasB ((r:Nat):Int) ((n:Nat):Int)=iI ((r:Nat):Int) ((n:Nat):Int):=aC
theorem NH {r:Int}(h0:0<=r)(h7:r<=7):∃x:Fin 8,r=((x:Nat):Int):=⟨⟨r.toNat,ae⟩,az⟩
theorem iW {r n:Int}(r0:0<=r)(r7:r<=7)(n0:0<=n)(n7:n<=7):hasB r n=iI r n:=by
 grind [NH,NG]
theorem kB {r n:Int}(h:(n % 2=1/\r % 2=0)∨(n / 2 % 2=1/\r / 2 % 2=0)∨(n / 4 % 2=1/\r / 4 % 2=0)):hasB r n=false:=by
 grind [hasB]
theorem kU {r n:Int}(h0:¬(n % 2=1/\r % 2=0))(h1:¬ (n / 2 % 2=1/\r / 2 % 2=0))(h2:¬ (n / 4 % 2=1/\r / 4 % 2=0)):hasB r n=true:=by
 unfold hasB;grind
def cZ (w:ak):Int :=
  if w.ID<1 then 1 else if 999<w.ID then 1 else if w.aA<1 then 1 else if 999<w.aA then 1 else if w.aM<0 then 1 else if 99<w.aM then 1 else
  if w.From<0 then 1 else if w.ID<=w.From then 1 else dS w.Rights
theorem gQ (x:ak):(cZ x=1/\(x.ID<1∨999<x.ID∨x.aA<1∨999<x.aA∨x.aM<0∨99<x.aM∨x.From<0∨x.ID<=x.From∨x.Rights<0∨7<x.Rights)) ∨
 (cZ x=0/\1<=x.ID/\x.ID<=999/\1<=x.aA/\x.aA<=999/\0<=x.aM/\x.aM<=99/\0<=x.From/\x.From<x.ID/\0<=x.Rights/\x.Rights<=7):=by
 unfold cZ dS;omega
def kf:ak:=⟨0,0,0,0,0⟩
def derived (w:ak)(id rights cU:Int):ak×Int :=
  if dS rights=1 then (kf,1) else if cU<0 then (kf,1) else if 99<cU then (kf,1) else
  if iI w.Rights rights=false then (kf,7) else
  if cU≠0/\w.aM≠0/\cU≠w.aM then (kf,7) else
  (⟨id,w.aA,rights,if cU=0 then w.aM else cU,w.ID⟩,0)
def cE (l:List ak)(id:Int):Int:=match l.findIdx? (fun w=>w.ID==id) with|some i=>i|none => -1
theorem ea (l:List ak)(id:Int):(cE l id = -1 /\ ∀x∈l,¬ x.ID=id) ∨ ∃ (k:Nat) (h:k<l.length),cE l id=k/\l[k].ID=id /\ ∀j (hj:j<k),¬ (l[j]'(by omega)).ID=id:=by
 unfold cE
 grind [List.findIdx?_eq_none_iff,List.findIdx?_eq_some_iff_getElem]
theorem NI {l:List ak}{id:Int}{k:Nat}(hk:k<l.length)(h1:l[k].ID=id)(h2:∀j x,j<k->l[j]? = some x->¬ x.ID=id):cE l id=k:=by
 unfold cE
 rw [List.findIdx?_eq_some_iff_getElem.2 ⟨hk,az,fun j hj=>by
  have:=h2 j l[j] hj (List.getElem?_eq_getElem ae);grind⟩]
end
section
open Go.RowKit
def iJ (l:List ak)(i:Nat):Int :=
  match l[i]? with
  | none=>0
  | some x =>
    if cZ x=1 then 1
    else if 0<i /\ ∃y,l[i-1]? = some y/\x.ID<=y.ID then 3
    else if x.From=0 then 0
    else match (l.take i).find? (fun y=>y.ID==x.From) with
      | none=>5
      | some y=>if (derived y x.ID x.Rights x.aM).2≠0 then (derived y x.ID x.Rights x.aM).2 else if (derived y x.ID x.Rights x.aM).1≠x then 7 else 0
def eE (l:List ak):Int:=match (List.range l.length).find? (fun i=>iJ l i != 0) with|some i=>iJ l i|none=>0
theorem ij {l:List ak}{k:Nat}{f:Int}(hk:k<l.length)(h:iJ l k=f)(hf:f≠0)(h0:∀j,j<k->iJ l j=0):eE l=f:=by
 grind [eE,List.range,iJ,List.find?_range_eq_some]
theorem rZ {l:List ak}(h0:∀j,j<l.length->iJ l j=0):eE l=0:=by
 grind [eE,List.range,iJ,List.find?_eq_none]
theorem yu {l:List ak}(h:eE l=0):∀j,j<l.length->iJ l j=0:=by
 grind [eE,List.range,iJ,absurd,List.find?_eq_none]
theorem lQ {l:List ak}{id:Int}:(cE l id = -1/\l.find? (fun y=>y.ID==id)=none) ∨ ∃ (k:Nat) (h:k<l.length),cE l id=k/\l.find? (fun y=>y.ID==id)=some l[k]:=by
 grind [ea,List.find?_eq_none,List.find?_eq_some_iff_getElem]
end
section
open Go.RowKit
theorem LB (a:Nat)(ha:a<9223372036854775808):(BitVec.ofInt 64 (a:Int)).toNat=a:=by
 grind
theorem FY (a b:Nat)(ha:a<9223372036854775808)(hb:b<9223372036854775808):bits .and .i64 (a:Int) (b:Int)=((a &&& b:Nat):Int):=by
 have hx:a &&& b<2 ^ 63:=Nat.and_lt_two_pow _ ae
 show IntKind.i64.wrap ((BitVec.ofInt 64 (a:Int) &&& BitVec.ofInt 64 (b:Int)).toNat:Int)=_
 grind [BitVec.toNat_and,LB,IntKind.wrap_i64]
theorem J6 {r n:Int}{b:Bool}(r0:0<=r)(r7:r<=7)(n0:0<=n)(n7:n<=7)(h:(bits .and .i64 r n==n)=b):b=iI r n:=by
 rw [<- h]
 obtain ⟨a,rfl⟩:=Int.eq_ofNat_of_zero_le r0
 obtain ⟨b,rfl⟩:=Int.eq_ofNat_of_zero_le n0
 rw [FY a b ae ae]
 unfold iI
 grind
theorem rl {r:Int}(h:dS r=0):0<=r/\r<=7:=by
 grind [iH]
theorem bI {r:Int}(h:¬ dS r=0):dS r=1:=by
 grind [iH]
theorem fA {x:ak}(h:x.ID<1∨999<x.ID∨x.aA<1∨999<x.aA∨x.aM<0∨99<x.aM∨x.From<0∨x.ID<=x.From∨x.Rights<0∨7<x.Rights):cZ x=1:=by
 grind [gQ]
theorem qm {x:ak}(h:1<=x.ID/\x.ID<=999/\1<=x.aA/\x.aA<=999/\0<=x.aM/\x.aM<=99/\0<=x.From/\x.From<x.ID/\0<=x.Rights/\x.Rights<=7):cZ x=0:=by
 grind [gQ]
theorem zw {x:ak}(h:1<=x.ID/\x.ID<=999/\1<=x.aA/\x.aA<=999/\0<=x.aM/\x.aM<=99/\0<=x.From/\x.From<x.ID):cZ x=dS x.Rights:=by
 grind [iH,fA,qm]
theorem uA {x:ak}{id r b:Int}(h:¬ dS r=0):derived x id r b=(kf,1):=by
 have:dS r=1:=by grind [iH]
 simp_all [derived,if_pos]
theorem gR {x:ak}{id r b:Int}(h:r<0∨7<r∨b<0∨99<b):derived x id r b=(kf,1):=by
 by_cases h1:dS r=0
 .
  have:=rl h1
  unfold derived;grind
 grind [uA]
theorem qn {x:ak}{id r b:Int}(h:0<=r/\r<=7/\0<=b/\b<=99)(hh:iI x.Rights r=false):derived x id r b=(kf,7):=by
 simp_all [derived,if_neg,ig,if_pos]
theorem qp {x:ak}{id r b:Int}(h:0<=r/\r<=7/\0<=b/\b<=99)(hh:iI x.Rights r=true)(hc:¬ b=0/\¬ x.aM=0/\¬ b=x.aM):derived x id r b=(kf,7):=by
 simp_all [derived,if_neg,ig,if_pos]
theorem nX {x:ak}{id r b:Int}(h:0<=r/\r<=7/\0<=b/\b<=99)(hh:iI x.Rights r=true)(hc:b=0):derived x id r b=(⟨id,x.aA,r,x.aM,x.ID⟩,0):=by
 simp_all [derived,if_neg,ig,if_pos]
theorem nY {x:ak}{id r b:Int}(h:0<=r/\r<=7/\0<=b/\b<=99)(hh:iI x.Rights r=true)(hc:¬ b=0)(hc2:x.aM=0∨b=x.aM):derived x id r b=(⟨id,x.aA,r,b,x.ID⟩,0):=by
 unfold derived;rw [if_neg (by grind [ig]),if_neg ae,if_neg ae,if_neg az,if_neg ae,if_neg hc]
theorem lR {x:ak}{id r b:Int}(h:0<=r/\r<=7/\0<=b/\b<=99)(hh:iI x.Rights r=true)(hc:¬ x.aM=0)(hc2:b=0∨b=x.aM):derived x id r b=(⟨id,x.aA,r,x.aM,x.ID⟩,0):=by
 grind [nX,nY]
def idxOf {α:Type}(p:α->Bool)(l:List α):Int:=match l.findIdx? p with|some i=>i|none => -1
theorem idxOf_hit {α:Type}{p:α->Bool}{l:List α}{k:Nat}{x:α}(hk:l[k]? = some x)(h1:p x=true)(h2:∀ (j:Nat) x,j<k->l[j]? = some x->p x=false):idxOf p l=k:=by
 obtain ⟨hk',rfl⟩:=List.getElem?_eq_some_iff.1 hk
 unfold idxOf
 rw [List.findIdx?_eq_some_iff_getElem.2 ⟨hk',h1,fun j hj=>by
  grind⟩]
theorem idxOf_miss {α:Type}{p:α->Bool}{l:List α}{k:Nat}(hk:¬ k<l.length)(h:∀ (j:Nat) x,j<k->l[j]? = some x->p x=false):idxOf p l = -1:=by
 grind [idxOf,List.findIdx?_eq_none_iff,List.mem_iff_getElem?,List.getElem?_eq_some_iff]
theorem CC (l:List ak)(id:Int):cE l id=idxOf (fun x=>x.ID==id) l:=rfl
theorem kV {α:Type}{p:α->Bool}{l:List α}{k:Nat}{x:α}(h:∀ (j:Nat) x,j<k->l[j]? = some x->p x=false)(hx:l[k]? = some x)(hp:p x=false):∀ (j:Nat) x,j<k+1->l[j]? = some x->p x=false:=by
 grind
end
section
open Go.RowKit
structure XH (x:ak):Prop where
  id1:1<=x.ID
  Q0:x.ID<=999
  U5:1<=x.aA
  U6:x.aA<=999
  U7:0<=x.aM
  U8:x.aM<=99
  Rw:0<=x.From
  Rx:x.From<x.ID
  Ry:0<=x.Rights
  Rz:x.Rights<=7
theorem En {x:ak}(h:cZ x=0):XH x:=by
 rcases gQ x with ⟨h1,_⟩ | ⟨_,h2⟩
 .omega
 obtain ⟨a,b,c,d,e,f,g,i,j,k⟩:=h2;exact ⟨a,b,c,d,e,f,g,i,j,k⟩
theorem lw (x:ak):cZ x=0∨cZ x=1:=by
 grind [gQ]
theorem jJ {l:List ak}{k:Nat}{x:ak}(hx:l[k]? = some x)(h:¬ cZ x=0):iJ l k=1:=by
 have:cZ x=1:=by grind [gQ]
 simp_all [iJ,if_pos]
theorem oT {l:List ak}{k:Nat}{x y:ak}(hx:l[k]? = some x)(h:cZ x=0)(hk:0<k)(hy:l[k-1]? = some y)(hle:¬ y.ID<x.ID):iJ l k=3:=by
 simp_all [iJ,if_neg,if_pos]
theorem zx {l:List ak}{k:Nat}{x:ak}(hx:l[k]? = some x)(h:cZ x=0)(hs:¬ 0<k ∨ ∃y,l[k-1]? = some y/\y.ID<x.ID)(h0:x.From=0):iJ l k=0:=by
 unfold iJ;grind
theorem zy {l:List ak}{k:Nat}{x:ak}(hx:l[k]? = some x)(h:cZ x=0)(hs:¬ 0<k ∨ ∃y,l[k-1]? = some y/\y.ID<x.ID)(h0:¬ x.From=0)(hf:cE (l.take k) x.From = -1):iJ l k=5:=by
 have hn:(l.take k).find? (fun y=>y.ID==x.From)=none:=by
  grind [lQ]
 unfold iJ;grind
theorem jK {l:List ak}{k j:Nat}{x y:ak}(hx:l[k]? = some x)(h:cZ x=0)(hs:¬ 0<k ∨ ∃y,l[k-1]? = some y/\y.ID<x.ID)(h0:¬ x.From=0)(hf:cE (l.take k) x.From=(j:Int))(hj:j<k)(hy:l[j]? = some y) :
 iJ l k=if (derived y x.ID x.Rights x.aM).2≠0 then (derived y x.ID x.Rights x.aM).2 else if (derived y x.ID x.Rights x.aM).1≠x then 7 else 0:=by
 have hn:(l.take k).find? (fun y=>y.ID==x.From)=some y:=by
  grind [lQ,List.getElem?_eq_some_iff]
 unfold iJ;grind
theorem vy {l:List ak}{k:Nat}{x:ak}(hx:l[k]? = some x)(h:iJ l k=0):XH x:=by
 grind [En,jJ]
theorem gq (x:ak)(id r b:Int):(derived x id r b).2=0∨(derived x id r b).2=1∨(derived x id r b).2=7:=by
 grind [derived]
def cJ (l:List ak):Prop:=eE l=0
theorem cJ.steps {l:List ak}(h:cJ l):∀j,j<l.length->iJ l j=0:=yu h
theorem cJ.mem {l:List ak}(h:cJ l){x:ak}(hx:x∈l):XH x:=by
 obtain ⟨j,hj⟩:=List.mem_iff_getElem?.1 hx
 exact vy hj (h.steps j (List.getElem?_eq_some_iff.1 hj).1)
theorem uB {l:List ak}{k:Nat}(h:∀j,j<k->iJ l j=0)(hk:iJ l k=0):∀j,j<k+1->iJ l j=0:=by
 grind
theorem zA (l:List ak)(c:Int)(h:0<=cE l c):∃x,l[(cE l c).toNat]? = some x/\x.ID=c/\x∈l:=by
 grind [ea,List.getElem_mem]
def m8 (id from':Int)(x:ak):ak:=if x.From=id then { x with From:=from'} else x
def FZ (id from':Int)(l:List ak):List ak:=(l.filter (fun x=>decide (x.ID≠id))).map (m8 id from')
theorem J7 {id f:Int}{l:List ak}{k:Nat}{x:ak}(hx:l[k]? = some x)(h:x.ID=id):FZ id f (l.take (k+1))=FZ id f (l.take k):=by
 grind [FZ,List.take_add_one]
theorem vz {id f:Int}{l:List ak}{k:Nat}{x:ak}(hx:l[k]? = some x)(h:¬ x.ID=id):FZ id f (l.take (k+1))=FZ id f (l.take k)++[m8 id f x]:=by
 grind [FZ,List.take_add_one]
theorem Eo (id f:Int)(l:List ak):(FZ id f l).length<=l.length:=by grind [FZ,List.length_filter_le]
theorem zB {id f:Int}{x:ak}(h:x.From=id):m8 id f x=⟨x.ID,x.aA,x.Rights,x.aM,f⟩:=by simp_all [m8,if_pos]
theorem wO {id f:Int}{x:ak}(h:¬ x.From=id):m8 id f x=x:=by simp_all [m8,if_neg]
def ff (l:List ak)(id:Int):Int:=match l.find? (fun y=>y.ID==id) with|some y=>y.From|none=>0
theorem oU {l:List ak}{id:Int}{j:Nat}{y:ak}(hf:cE l id=(j:Int))(hy:l[j]? = some y):ff l id=y.From:=by
 grind [ff,id,lQ,List.getElem?_eq_some_iff]
theorem xK {l:List ak}{id:Int}(hf:cE l id = -1):ff l id=0:=by
 grind [ff,id,lQ]
def without (l:List ak)(id:Int):List ak:=FZ id (ff l id) l
def F3 (l:List ak)(id:Int):List ak:=if cE l id<0 then l.filter (fun x=>decide (x.ID≠id)) else without l id
def NJ (l:List ak)(id:Int)(x:ak):ak:=if cE l id<0 then x else m8 id (ff l id) x
def tP (l:List ak)(id:Int)(m:List ak):List ak:=(m.filter (fun x=>decide (x.ID≠id))).map (NJ l id)
theorem zC {l0:List ak}{id:Int}{l:List ak}{k:Nat}{x:ak}(hx:l[k]? = some x)(h:x.ID=id):tP l0 id (l.take (k+1))=tP l0 id (l.take k):=by
 grind [tP,List.take_add_one]
theorem wP {l0:List ak}{id:Int}{l:List ak}{k:Nat}{x:ak}(hx:l[k]? = some x)(h:¬ x.ID=id):tP l0 id (l.take (k+1))=tP l0 id (l.take k)++[NJ l0 id x]:=by
 grind [tP,List.take_add_one]
theorem F4 (l0:List ak)(id:Int)(l:List ak):(tP l0 id l).length<=l.length:=by grind [tP,List.length_filter_le]
theorem F5 (l:List ak)(wid:Int):tP l wid l=F3 l wid:=by
 unfold tP F3 without FZ
 split
 .
  rename_i h
  have:NJ l wid=fun x=>x:=by funext x;simp_all [NJ,if_pos]
  simp_all
 simp_all [NJ,if_neg]
end
section
open Go.RowKit
theorem zE {l:List ak}{k:Nat}{x y:ak}(hx:l[k]? = some x)(h:iJ l k=0)(hk:0<k)(hy:l[k-1]? = some y):y.ID<x.ID:=by
 grind [vy,lw,jJ,Int.lt_or_le,oT]
theorem cJ.rise {l:List ak}(h:cJ l):∀ (j i:Nat) {x y:ak},i<j->l[j]? = some x->l[i]? = some y->y.ID<x.ID
 | 0,i,x,y,hij,hx,hy=>by omega
 | j+1,i,x,y,hij,hx,hy=>by
  have hlt:j+1<l.length:=(List.getElem?_eq_some_iff.1 hx).1
  have hz:l[j]? = some l[j]:=List.getElem?_eq_getElem ae
  have h1:=zE hx (h.steps _ hlt) ae hz
  by_cases hj:i=j
  .grind
  have:=h.rise j i ae hz hy;omega
theorem cJ.inj {l:List ak}(h:cJ l){x y:ak}(hx:x∈l)(hy:y∈l)(he:x.ID=y.ID):x=y:=by
 obtain ⟨i,hi⟩:=List.mem_iff_getElem?.1 hx
 obtain ⟨j,hj⟩:=List.mem_iff_getElem?.1 hy
 rcases Nat.lt_trichotomy i j with h1|h1|h1
 .have:=h.rise j i h1 hj hi;omega
 .grind
 have:=h.rise i j h1 hi hj;omega
theorem zF {l:List ak}{k:Nat}{x:ak}(hx:l[k]? = some x)(h:iJ l k=0)(h0:x.From≠0) :
 ∃j y,j<k/\l[j]? = some y/\y.ID=x.From/\(derived y x.ID x.Rights x.aM).2=0/\(derived y x.ID x.Rights x.aM).1=x:=by
 have hw:cZ x=0:=by grind [lw,jJ]
 have hsh:¬ 0<k ∨ ∃y,l[k-1]? = some y/\y.ID<x.ID:=by
  by_cases hk:0<k
  .
   have hlt:k<l.length:=(List.getElem?_eq_some_iff.1 hx).1
   exact .inr ⟨_,List.getElem?_eq_getElem ae,zE hx h hk (List.getElem?_eq_getElem ae)⟩
  omega
 rcases ea (l.take k) x.From with ⟨h1,h2⟩ | ⟨j,hj,h1,h2,h3⟩
 .grind [zy]
 have hjk:j<k:=az
 have hlt:k<l.length:=(List.getElem?_eq_some_iff.1 hx).1
 have hy:l[j]? = some l[j]:=List.getElem?_eq_getElem ae
 rw [jK hx hw hsh h0 h1 hjk hy] at h
 grind
theorem lS {l:List ak}{x:ak}(hx:x∈l):0<=cE l x.ID:=by
 grind [ea]
theorem pI {l:List ak}{f:Int}(h:0<=cE l f):∃y,l[(cE l f).toNat]? = some y/\y.ID=f/\y∈l/\ff l f=y.From:=by
 grind [zA,oU]
theorem uC {l:List ak}{f:Int}(h:cE l f<0):ff l f=0:=by
 grind [ea,xK]
theorem cJ.xL {l:List ak}(h:cJ l){f:Int}(hf:0<=cE l f):0<f/\f<=999/\0<=ff l f/\ff l f<f:=by
 obtain ⟨y,h1,h2,h3,h4⟩:=pI hf
 have w:=h.mem h3
 have:=w.id1;have:=w.Rw;have:=w.Rx;have:=w.Q0
 omega
def chain (l:List ak)(f:Int):List Int :=
  if h:0<=cE l f/\0<f/\ff l f<f then f::chain l (ff l f) else []
termination_by f.toNat
decreasing_by omega
def above (l:List ak)(id:Int):List Int:=chain l (ff l id)
theorem uD {l:List ak}(h:cJ l){f:Int}(hf:0<=cE l f):chain l f=f::chain l (ff l f):=by
 have:=h.xL hf
 rw [chain,dif_pos ⟨hf,ae,ae⟩]
theorem IE {l:List ak}{f:Int}(hf:cE l f<0):chain l f=[]:=by
 rw [chain,dif_neg ae]
def NK (id:Int)(acc:List Int)(x:ak):List Int:=if (x.From=id∨x.From∈acc)/\0<x.From then acc++[x.ID] else acc
def gW (id:Int)(l:List ak):List Int:=l.foldl (NK id) []
theorem F6 {id:Int}{l:List ak}{k:Nat}{x:ak}{S:List Int}(hx:l[k]? = some x)(hS:∀z,z∈S↔z=id∨z∈gW id (l.take k))(h:x.From∈S)(h0:0<x.From):gW id (l.take (k+1))=gW id (l.take k)++[x.ID]:=by
 simp_all [gW,Option.toList,NK,List.take_add_one,List.foldl_append,List.foldl_cons,List.foldl_nil,if_pos]
theorem wQ {id:Int}{l:List ak}{k:Nat}{x:ak}{S:List Int}(hx:l[k]? = some x)(hS:∀z,z∈S↔z=id∨z∈gW id (l.take k))(h:¬ (x.From∈S/\0<x.From)):gW id (l.take (k+1))=gW id (l.take k):=by
 simp_all [gW,Option.toList,NK,List.take_add_one,List.foldl_append,List.foldl_cons,List.foldl_nil,if_neg]
theorem zH (id:Int)(l:List ak):(gW id l).length<=l.length:=by
 have:∀ (l:List ak) (acc:List Int),(l.foldl (NK id) acc).length<=acc.length+l.length:=by
  intro l
  induction l with
  | nil=>grind
  | cons x l ih =>
   grind [NK,id,List.length_cons]
 grind [gW]
def up (l:List ak)(id f:Int):Int :=
  if h:0<f/\f≠id/\0<=cE l f/\ff l f<f then up l id (ff l f) else f
termination_by f.toNat
decreasing_by omega
theorem Ep {l:List ak}(h:cJ l){id f:Int}(h1:f≠id)(h2:0<=cE l f):up l id f=up l id (ff l f):=by
 have:=h.xL h2
 rw [up,dif_pos ⟨ae,h1,h2,ae⟩]
theorem r5 {l:List ak}{id f:Int}(h:¬ 0<f∨f=id∨cE l f<0):up l id f=f:=by
 rw [up,dif_neg ae]
def Ys (l:List ak)(id:Int)(x:ak):Bool:=decide (up l id x.From=id)&&decide (0<id)
def uE (l:List ak)(id:Int)(m:List ak):List Int:=(m.filter (Ys l id)).map ak.ID
theorem F7 {l0:List ak}{id:Int}{l:List ak}{k:Nat}{x:ak}(hx:l[k]? = some x)(h:up l0 id x.From=id)(h0:0<id):uE l0 id (l.take (k+1))=uE l0 id (l.take k)++[x.ID]:=by
 grind [uE,Ys,List.take_add_one]
theorem sV {l0:List ak}{id:Int}{l:List ak}{k:Nat}{x:ak}(hx:l[k]? = some x)(h:¬ (up l0 id x.From=id/\0<id)):uE l0 id (l.take (k+1))=uE l0 id (l.take k):=by
 grind [uE,Ys,id,up,List.take_add_one,Bool.and_eq_false_iff]
theorem NL (l0:List ak)(id:Int)(l:List ak):(uE l0 id l).length<=l.length:=by grind [uE,List.length_filter_le]
def beneath (l:List ak)(id:Int):List Int:=uE l id l
theorem NM {l:List ak}(h:cJ l)(id:Int):∀k,k<=l.length->gW id (l.take k)=uE l id (l.take k)
 | 0,_=>by rfl
 | k+1,hk=>by
  have ih:=NM h id k ae
  have hx:l[k]? = some l[k]:=List.getElem?_eq_getElem ae
  have hS:∀z,z∈id::gW id (l.take k)↔z=id∨z∈gW id (l.take k):=fun z=>by simp
  have w:=vy hx (h.steps k ae)
  have key:((l[k]).From∈id::gW id (l.take k)/\0<(l[k]).From)↔(up l id (l[k]).From=id/\0<id):=by
   by_cases h0:(l[k]).From=0
   .grind [r5]
   have hpos:0<(l[k]).From:=by have:=w.Rw;omega
   by_cases he:(l[k]).From=id
   .grind [r5]
   obtain ⟨j,y,hj,hy,hid,_,_⟩:=zF hx (h.steps k ae) h0
   have hym:y∈l:=List.mem_of_getElem? hy
   have hfi:0<=cE l (l[k]).From:=by rw [<- hid];exact lS hym
   rw [Ep h he hfi]
   obtain ⟨y',_,hy2,hy3,hy4⟩:=pI hfi
   have:y'=y:=h.inj hy3 hym ae
   subst this
   rw [hy4,ih]
   have hmem:(l[k]).From∈uE l id (l.take k)↔(up l id y'.From=id/\0<id):=by
    unfold uE
    simp only [List.mem_map,List.mem_filter,Ys,Bool.and_eq_true,decide_eq_true_eq]
    constructor
    .
     rintro ⟨z,⟨hz,hz2⟩,hz3⟩
     have:z=y':=h.inj (List.mem_of_mem_take hz) hy3 ae
     grind
    intro hh
    exact ⟨y',⟨List.mem_of_getElem? (i:=j) az,hh⟩,hid⟩
   grind
  by_cases hc:up l id (l[k]).From=id/\0<id
  .
   have:=key.2 hc
   rw [F6 hx hS this.1 this.2,F7 hx hc.1 hc.2,ih]
  grind [wQ,sV]
theorem J8 {l:List ak}(h:cJ l)(id:Int):gW id l=beneath l id:=by
 have:=NM h id l.length (Nat.le_refl _)
 grind [beneath,List.take_length]
theorem F8 {l:List ak}(h:cJ l){a:Int}(ha:0<=cE l a)(f:Int)(hf0:0<=f):up l a f=a↔a∈chain l f:=by
 have ha0:=h.xL ha
 by_cases he:f=a
 .subst he;rw [r5 (.inr (.inl rfl)),uD h ha];simp
 rcases Int.lt_or_le (cE l f) 0 with h1|h1
 .rw [r5 (.inr (.inr h1)),IE h1];simp [he]
 have hf:=h.xL h1
 rw [Ep h he h1,uD h h1,F8 h ha (ff l f) hf.2.2.1]
 simp [Ne.symm he]
termination_by f.toNat
decreasing_by omega
end
section
open Go.RowKit
structure Made (y x:ak):Prop where
  thing:y.aA=x.aA
  has:iI y.Rights x.Rights=true
  cU:y.aM=0∨x.aM=y.aM
  gS:y.ID=x.From
theorem RA {y x:ak}(h1:(derived y x.ID x.Rights x.aM).2=0)(h2:(derived y x.ID x.Rights x.aM).1=x):Made y x:=by
 unfold derived at h1 h2
 split at h1;· omega
 split at h1;· omega
 split at h1;· omega
 split at h1;· omega
 split at h1;· omega
 rename_i a b c d e
 rw [if_neg a,if_neg b,if_neg c,if_neg d,if_neg e] at h2
 have ht:=congrArg ak.aA h2
 have hb:=congrArg ak.aM h2
 have hf:=congrArg ak.From h2
 simp only [] at ht hb hf
 refine ⟨ht,az,?_,hf⟩
 omega
theorem IG {y x:ak}(w:XH x)(h:Made y x):derived y x.ID x.Rights x.aM=(x,0):=by
 have:=w.Ry;have:=w.Rz;have:=w.U7;have:=w.U8
 unfold derived
 rw [if_neg (by grind [ig]),if_neg ae,if_neg ae,if_neg (by rw [h.has];simp),if_neg (by rintro ⟨h1,h2,h3⟩;rcases h.cU with h4|h4 <;> omega)]
 have hb:(if x.aM=0 then y.aM else x.aM)=x.aM:=by
  split
  .rcases h.cU with h4|h4 <;> omega
  rfl
 rw [hb,h.thing,h.gS]
theorem NN:∀a b c:Fin 8,iI ((a:Nat):Int) ((b:Nat):Int)=true->iI ((b:Nat):Int) ((c:Nat):Int)=true->iI ((a:Nat):Int) ((c:Nat):Int)=true:=aC
theorem aaU {a b c:Int}(a0:0<=a)(a7:a<=7)(b0:0<=b)(b7:b<=7)(c0:0<=c)(c7:c<=7)(h:iI a b=true)(k:iI b c=true):iI a c=true:=by
 grind [NH,NN]
structure wR (l:List ak):Prop where
  ok:∀x∈l,cZ x=0
  rise:l.Pairwise (fun x y=>x.ID<y.ID)
  made:∀x∈l,x.From≠0 -> ∃y∈l,Made y x
theorem cJ.fault {l:List ak}(h:cJ l){x:ak}(hx:x∈l):cZ x=0:=by
 obtain ⟨j,hj⟩:=List.mem_iff_getElem?.1 hx
 rcases lw x with h1|h1
 .omega
 have:=jJ hj ae;rw [h.steps j (List.getElem?_eq_some_iff.1 hj).1] at this;omega
theorem cJ.is {l:List ak}(h:cJ l):wR l:=by
 refine ⟨fun x hx=>h.fault hx,?_,fun x hx h0=>?_⟩
 .
  rw [List.pairwise_iff_getElem]
  intro i j hi hj hij
  exact h.rise j i hij (List.getElem?_eq_getElem hj) (List.getElem?_eq_getElem hi)
 obtain ⟨k,hk⟩:=List.mem_iff_getElem?.1 hx
 obtain ⟨j,y,hj,hy,_,h1,h2⟩:=zF hk (h.steps k (List.getElem?_eq_some_iff.1 hk).1) h0
 exact ⟨y,List.mem_of_getElem? hy,RA h1 h2⟩
theorem r6 {l:List ak}(h:l.Pairwise (fun x y=>x.ID<y.ID)){i j:Nat}{x y:ak}(hi:l[i]? = some x)(hj:l[j]? = some y)(hij:i<j):x.ID<y.ID:=by
 grind [List.pairwise_iff_getElem,List.getElem?_eq_some_iff]
theorem wR.ok' {l:List ak}(h:wR l):cJ l:=by
 refine rZ fun k hk=>?_
 have hx:l[k]? = some l[k]:=List.getElem?_eq_getElem hk
 have hm:l[k]∈l:=List.getElem_mem hk
 have h0:=h.ok _ hm
 have w:=En h0
 have hsh:¬ 0<k ∨ ∃y,l[k-1]? = some y/\y.ID<(l[k]).ID:=by
  by_cases h1:0<k
  .
   have hy:l[k-1]? = some (l[k-1]' ae):=List.getElem?_eq_getElem ae
   exact .inr ⟨_,hy,r6 h.rise hy hx ae⟩
  omega
 by_cases hf:(l[k]).From=0
 .grind [zx]
 obtain ⟨y,hy,hmd⟩:=h.made _ hm hf
 obtain ⟨j,hj⟩:=List.mem_iff_getElem?.1 hy
 have hjl:j<l.length:=(List.getElem?_eq_some_iff.1 hj).1
 have hjk:j<k:=by
  rcases Nat.lt_trichotomy j k with h1|h1|h1
  .omega
  .
   subst h1;rw [hj] at hx;injection hx with hx
   have:=hmd.gS;have:=w.Rx;grind
  have:=r6 h.rise hx hj h1;have:=hmd.gS;have:=w.Rx;omega
 have hfw:cE (l.take k) (l[k]).From=(j:Int):=by
  have hl:j<(l.take k).length:=az
  have hge:(l.take k)[j]=y:=by
   grind
  refine NI hl (by rw [hge];exact hmd.gS) (fun i z hi hz=>?_)
  have hz':l[i]? = some z:=az
  have:=r6 h.rise hz' hj hi
  have:=hmd.gS;omega
 rw [jK hx h0 hsh hf hfw hjk hj]
 grind [IG]
theorem CF {l:List ak}(h:cJ l){a b:Int}(ha:0<=cE l a)(hb:0<=cE l b):b∈gW a l↔a∈above l b:=by
 rw [J8 h]
 have ha0:=h.xL ha
 have hb0:=h.xL hb
 unfold beneath uE above
 rw [<- F8 h ha _ hb0.2.2.1]
 simp only [List.mem_map,List.mem_filter,Ys,Bool.and_eq_true,decide_eq_true_eq]
 obtain ⟨y,_,hy2,hy3,hy4⟩:=pI hb
 constructor
 .
  rintro ⟨x,⟨hx,hu,_⟩,hid⟩
  have:x=y:=h.inj hx hy3 ae
  grind
 grind
theorem gX {l:List ak}{id:Int}{x:ak}:x∈without l id ↔ ∃y∈l,y.ID≠id/\x=m8 id (ff l id) y:=by
 unfold without FZ
 grind
theorem ma {id f:Int}(x:ak):(m8 id f x).ID=x.ID/\(m8 id f x).aA=x.aA/\(m8 id f x).Rights=x.Rights/\(m8 id f x).aM=x.aM:=by unfold m8;grind
theorem wS {id f:Int}(x:ak):(m8 id f x).From=if x.From=id then f else x.From:=by grind [m8]
theorem RD {x:ak}(h:cZ x=0){f:Int}(h0:0<=f)(h1:f<x.ID):cZ { x with From:=f}=0:=by
 grind [En,gQ]
theorem RE {id f:Int}{y x:ak}(h:Made y x)(hf:x.From≠id):Made (m8 id f y) (m8 id f x):=by
 have hy:=ma (id:=id) (f:=f) y
 have hx:=ma (id:=id) (f:=f) x
 refine ⟨by rw [hy.2.1,hx.2.1];exact h.thing,by rw [hy.2.2.1,hx.2.2.1];exact h.has,by rw [hy.2.2.2,hx.2.2.2];exact h.cU,?_⟩
 rw [hy.1,wS,if_neg hf];exact h.gS
theorem cJ.wo {l:List ak}(h:cJ l)(id:Int):cJ (without l id):=by
 have hi:=h.is
 refine wR.ok' ⟨fun x hx=>?_,?_,fun x hx h0=>?_⟩
 .
  obtain ⟨y,hy,hne,rfl⟩:=gX.1 hx
  have hyf:=hi.ok y hy
  unfold m8
  split
  .
   rename_i he
   have w:=En hyf
   have:=w.Rw;have:=w.Rx
   have hid:0<=ff l id/\(0<ff l id->ff l id<id):=by
    rcases Int.lt_or_le (cE l id) 0 with h1|h1
    .grind [uC]
    have:=h.xL h1;omega
   grind [RD]
  omega
 .
  unfold without FZ
  rw [List.pairwise_map]
  refine (hi.rise.filter _).imp ?_
  grind [ma]
 obtain ⟨y,hy,hne,rfl⟩:=gX.1 hx
 rw [wS] at h0
 by_cases he:y.From=id
 .
  rw [if_pos he] at h0
  have hid:0<=cE l id:=by
   grind [Int.lt_or_le,uC]
  obtain ⟨p,_,hp2,hp3,hp4⟩:=pI hid
  have abW:=h.xL hid
  obtain ⟨z,hz,Yt⟩:=hi.made p hp3 ae
  have hy0:y.From≠0:=ae
  obtain ⟨p',hp',hpy⟩:=hi.made y hy hy0
  have:p'=p:=h.inj hp' hp3 (by rw [hpy.gS,he,hp2])
  subst this
  have aaV:z.ID≠id:=by have:=Yt.gS;omega
  refine ⟨m8 id (ff l id) z,gX.2 ⟨z,hz,aaV,rfl⟩,?_⟩
  have wz:=h.mem hz;have wp:=h.mem hp3;have wy:=h.mem hy
  have hz':=ma (id:=id) (f:=ff l id) z
  have hy':=ma (id:=id) (f:=ff l id) y
  refine ⟨by rw [hz'.2.1,hy'.2.1,Yt.thing,hpy.thing],by rw [hz'.2.2.1,hy'.2.2.1];exact aaU wz.Ry wz.Rz wp.Ry wp.Rz wy.Ry wy.Rz Yt.has hpy.has,?_,?_⟩
  .
   rw [hz'.2.2.2,hy'.2.2.2]
   rcases Yt.cU with h1|h1
   .omega
   rcases hpy.cU with h2|h2
   .omega
   omega
  rw [hz'.1,wS,if_pos he,Yt.gS,hp4]
 rw [if_neg he] at h0
 obtain ⟨p,hp,hpy⟩:=hi.made y hy h0
 exact ⟨m8 id (ff l id) p,gX.2 ⟨p,hp,by rw [hpy.gS];omega,rfl⟩,RE hpy he⟩
theorem NP {l:List ak}(h:cJ l)(id:Int):F3 l id=without l id:=by
 unfold F3
 split
 .
  rename_i h1
  unfold without FZ
  rw [uC h1]
  have:∀x∈l.filter (fun x=>decide (x.ID≠id)),m8 id 0 x=x:=by
   intro x hx
   have hxl:=(List.mem_filter.1 hx).1
   unfold m8;split
   .
    rename_i he
    by_cases h0:x.From=0
    .cases x;grind
    obtain ⟨y,hy,hm⟩:=h.is.made x hxl h0
    have:=lS hy;rw [hm.gS,he] at this;omega
   rfl
  exact (List.map_congr_left this).trans (List.map_id' _) |>.symm
 rfl
end
section
open Go.RowKit
def hasT? (l:List ak)(t:Int):Bool:=l.any (fun x=>x.aA==t)
def eY (l:List ak):Nat->List Int
  | 0=>[]
  | n+1=>if hasT? l ((n+1:Nat):Int) then eY l n++[((n+1:Nat):Int)] else eY l n
def F9 (l:List ak):List Int:=eY l 999
theorem vA (l:List ak):∀n,(eY l n).length<=n
 | 0=>by simp [eY]
 | n+1=>by
  have:=vA l n
  simp only [eY];split
  .simp;omega
  omega
theorem Er {l:List ak}{n:Nat}{t:Int}{x:ak}{j:Nat}(hn:0<n)(ht:t=(n:Int))(hx:l[j]? = some x)(h:x.aA=t):eY l n=eY l (n-1)++[t]:=by
 obtain ⟨m,rfl⟩:∃m,n=m+1:=⟨n-1,ae⟩
 simp only [eY,Nat.add_sub_cancel]
 have:hasT? l ((m+1:Nat):Int)=true:=by
  grind [hasT?,List.any_eq_true,List.mem_of_getElem?]
 grind
theorem B3 {l:List ak}{n:Nat}(hn:0<n)(h:∀ (j:Nat) x,j<l.length->l[j]? = some x->¬ x.aA=(n:Int)):eY l n=eY l (n-1):=by
 obtain ⟨m,rfl⟩:∃m,n=m+1:=⟨n-1,ae⟩
 simp only [eY,Nat.add_sub_cancel]
 have:hasT? l ((m+1:Nat):Int)=false:=by
  grind [hasT?,List.any_eq_false,List.mem_iff_getElem?,List.getElem?_eq_some_iff]
 grind
end
end Go.Proofs.YtnmpibjlnninjaaGreatDoor
section
set_option maxRecDepth 100000
namespace Go.Proofs
open Go.Shelf
def Tryz.lays189_ren:Go.Shelf.Ren:=⟨fun|189=>202|125=>205|257=>239|128=>248|129=>249|294=>273|295=>274|296=>275|297=>276|298=>277|299=>278|216=>279|300=>280|301=>281|328=>303|329=>283|330=>284|331=>304|332=>305|215=>306|343=>315|n=>n,fun|28=>110|3=>3|46=>183|0=>0|51=>236|53=>33|4=>4|183=>277|182=>276|131=>201|5=>5|9=>9|218=>308|222=>312|228=>329|229=>330|n=>n,fun|n=>n⟩
theorem Tryz.lays189:Go.Proofs.Lays.n189 Tryz.prog Tryz.lays189_ren:={
 mixed:=by kernel_rfl
 f125:=Tryz.func205.trans (congrArg some (by kernel_rfl))
 f128:=Tryz.func248.trans (congrArg some (by kernel_rfl))
 f129:=Tryz.func249.trans (congrArg some (by kernel_rfl))
 f189:=Tryz.func202.trans (congrArg some (by kernel_rfl))
 f215:=Tryz.func306.trans (congrArg some (by kernel_rfl))
 f216:=Tryz.func279.trans (congrArg some (by kernel_rfl))
 f257:=Tryz.func239.trans (congrArg some (by kernel_rfl))
 f294:=Tryz.func273.trans (congrArg some (by kernel_rfl))
 f295:=Tryz.func274.trans (congrArg some (by kernel_rfl))
 f296:=Tryz.func275.trans (congrArg some (by kernel_rfl))
 f297:=Tryz.func276.trans (congrArg some (by kernel_rfl))
 f298:=Tryz.func277.trans (congrArg some (by kernel_rfl))
 f299:=Tryz.func278.trans (congrArg some (by kernel_rfl))
 f300:=Tryz.func280.trans (congrArg some (by kernel_rfl))
 f301:=Tryz.func281.trans (congrArg some (by kernel_rfl))
 f328:=Tryz.func303.trans (congrArg some (by kernel_rfl))
 f329:=Tryz.func283.trans (congrArg some (by kernel_rfl))
 f330:=Tryz.func284.trans (congrArg some (by kernel_rfl))
 f331:=Tryz.func304.trans (congrArg some (by kernel_rfl))
 f332:=Tryz.func305.trans (congrArg some (by kernel_rfl))
 f343:=Tryz.func315.trans (congrArg some (by kernel_rfl))
 t0:=Tryz.underlying0
 a0:=Tryz.isAgg0
 z0:=Tryz.sizeOf0
 v0:=Tryz.zeroValue0
 t3:=Tryz.underlying3
 a3:=Tryz.isAgg3
 z3:=Tryz.sizeOf3
 v3:=Tryz.zeroValue3
 t4:=Tryz.underlying4
 a4:=Tryz.isAgg4
 z4:=Tryz.sizeOf4
 v4:=Tryz.zeroValue4
 t5:=Tryz.underlying5
 a5:=Tryz.isAgg5
 z5:=Tryz.sizeOf5
 v5:=Tryz.zeroValue5
 t9:=Tryz.underlying9
 a9:=Tryz.isAgg9
 z9:=Tryz.sizeOf9
 v9:=Tryz.zeroValue9
 t28:=Tryz.underlying110
 a28:=Tryz.isAgg110
 z28:=Tryz.sizeOf110
 v28:=Tryz.zeroValue110
 t46:=Tryz.underlying183
 a46:=Tryz.isAgg183
 z46:=Tryz.sizeOf183
 v46:=Tryz.zeroValue183
 t51:=Tryz.underlying236
 a51:=Tryz.isAgg236
 z51:=Tryz.sizeOf236
 v51:=Tryz.zeroValue236
 t53:=Tryz.underlying33
 a53:=Tryz.isAgg33
 z53:=Tryz.sizeOf33
 v53:=Tryz.zeroValue33
 t131:=Tryz.underlying201
 a131:=Tryz.isAgg201
 z131:=Tryz.sizeOf201
 v131:=Tryz.zeroValue201
 t182:=Tryz.underlying276
 a182:=Tryz.isAgg276
 z182:=Tryz.sizeOf276
 v182:=Tryz.zeroValue276
 t183:=Tryz.underlying277
 a183:=Tryz.isAgg277
 z183:=Tryz.sizeOf277
 v183:=Tryz.zeroValue277
 t218:=Tryz.underlying308
 a218:=Tryz.isAgg308
 z218:=Tryz.sizeOf308
 v218:=Tryz.zeroValue308
 t222:=Tryz.underlying312
 a222:=Tryz.isAgg312
 z222:=Tryz.sizeOf312
 v222:=Tryz.zeroValue312
 t228:=Tryz.underlying329
 a228:=Tryz.isAgg329
 z228:=Tryz.sizeOf329
 v228:=Tryz.zeroValue329
 t229:=Tryz.underlying330
 a229:=Tryz.isAgg330
 z229:=Tryz.sizeOf330
 v229:=Tryz.zeroValue330}
def Tryz.laysNm220_ren:Go.Shelf.Ren:=⟨fun|20=>203|n=>n,fun|22=>110|3=>3|4=>4|0=>0|n=>n,fun|n=>n⟩
theorem Tryz.laysNm220:Go.Proofs.Lays2.n20 Tryz.prog Tryz.laysNm220_ren:={
 mixed:=by kernel_rfl
 f20:=Tryz.func203.trans (congrArg some (by kernel_rfl))
 t0:=Tryz.underlying0
 a0:=Tryz.isAgg0
 z0:=Tryz.sizeOf0
 v0:=Tryz.zeroValue0
 t3:=Tryz.underlying3
 a3:=Tryz.isAgg3
 z3:=Tryz.sizeOf3
 v3:=Tryz.zeroValue3
 t4:=Tryz.underlying4
 a4:=Tryz.isAgg4
 z4:=Tryz.sizeOf4
 v4:=Tryz.zeroValue4
 t22:=Tryz.underlying110
 a22:=Tryz.isAgg110
 z22:=Tryz.sizeOf110
 v22:=Tryz.zeroValue110
 i3:=by kernel_rfl}
open Go.Sort Go.RowKit in
theorem Tryz.slices_Sort_int (blk off cap:Nat)(zs:List Int)(w:World)(hH:Holds (Value.int .i64) w blk off zs.toArray)(hblk:blk<w.heap.size)(hsz:zs.length<4611686018427387904) :
    Calls Tryz.prog 202 #[.slice (some ⟨blk,off,none⟩) zs.length cap] w fun e w' =>
      e = .returned (.tuple #[]) /\ ∃n os,w'=grow (putRow (Value.int .i64) (Sort.ahead w n) blk off (zs.mergeSort fun x y=>decide (x<=y)).toArray) os:=Any.slices_Sort_int Tryz.lays189 blk off cap zs w hH hblk hsz
open Go.RowKit Go.Lib Go.Sort in
theorem Tryz.slices_Compact_int (blk off cap:Nat)(zs:List Int)(w:World)(hH:Holds (Value.int .i64) w blk off zs.toArray)(hsz:zs.length<=9223372036854775807)(hcap:zs.length<=cap) :
    Calls Tryz.prog 203 #[.slice (some ⟨blk,off,none⟩) zs.length cap] w fun e w'=>e = .returned (.slice (some ⟨blk,off,none⟩) (Lib.compact zs).length cap) /\ ∃q,w'=putRow (Value.int .i64) (Sort.ahead w q) blk off (Lib.compact zs++List.replicate (zs.length-(Lib.compact zs).length) 0).toArray:=Any.slices_Compact_int Tryz.laysNm220 blk off cap zs w hH hsz hcap
open Go.RowKit Go.Lib Go.Sort in
theorem Tryz.slices_Compact_int_empty (a:Option Addr)(cap:Nat)(w:World) :
    Calls Tryz.prog 203 #[.slice a 0 cap] w fun e w'=>e = .returned (.slice a 0 cap)/\w'=w:=Any.slices_Compact_int_empty Tryz.laysNm220 a cap w
open Go.RowKit Go.Sort in
theorem Tryz.slices_Sort_int_none (p:Option Addr)(cap:Nat)(w:World) :
    Calls Tryz.prog 202 #[.slice p 0 cap] w fun e w'=>e = .returned (.tuple #[])/\w'=w:=Any.slices_Sort_int_none Tryz.lays189 p cap w
end Go.Proofs
end
namespace Go.Proofs.YtnmpibjlnninjaaGreatDoor
set_option linter.unusedVariables false
set_option linter.unusedSimpArgs false
set_option maxRecDepth 100000
set_option maxHeartbeats 90000000
section
open Go Go.RowKit Go.Sort
def rm (l:List Int):List Int:=l.mergeSort fun x y=>decide (x<=y)
theorem wT (l:List Int):l.flatMap Enc.cells=l.map (Value.int .i64):=by
 induction l with
 | nil=>rfl
 | cons x l ih=>rw [List.flatMap_cons,ih];rfl
theorem zI {w:World}{g cap n m:Nat}{os:Array Obj}{l ts zs:List Int}{v:Value}(hv:v = .slice (some ⟨g,0,none⟩) l.length cap)(how:Own 0 3 w v l)(hl:ts.length=l.length)(hz:zs=ts.take m)(hm:m<=l.length) :
 Turned [ag.row 3 v l] [ag.row 3 (.slice (some ⟨g,0,none⟩) m cap) zs] w (grow (putRow (Value.int .i64) (Sort.ahead w n) g 0 ts.toArray) os):=by
 obtain ⟨hlen,hn|⟨g',cap',cur,hv',_,hgg,hnc,hcm,hcs,htk⟩⟩:=how
 .grind
 rw [hv] at hv'
 simp only [Value.slice.injEq,Option.some.injEq,Addr.mk.injEq,and_true,true_and] at hv'
 obtain ⟨rfl,rfl⟩:=hv'
 have h3:cur.size=cap*1:=hcs
 have hgb:=grownBy_sortedI (w:=w) (g:=g) (n:=n) (os:=os) ts.toArray
 have hz2:zs.length=m:=az
 have hown:Own 0 3 (grow (putRow (Value.int .i64) (Sort.ahead w n) g 0 ts.toArray) os) (.slice (some ⟨g,0,none⟩) m cap) zs:=by
  have h:=ownsRow_sortedI (w:=w) (base:=0) (n:=n) (os:=os) (ss:=l) (ts:=ts) hl (Nat.zero_le _) hgg hnc hcm h3
  obtain ⟨h1,h2|⟨g2,c2,Yu,e2,b2,hg2,n2,m2,s2,t2⟩⟩:=h
  .grind
  simp only [Value.slice.injEq,Option.some.injEq,Addr.mk.injEq,and_true,true_and] at e2
  obtain ⟨rfl,rfl⟩:=e2
  refine ⟨by rw [eI],.inr ⟨g,cap,Yu,az,Nat.zero_le _,hg2,ae,hcm,s2,?_⟩⟩
  show Yu.toList.take (zs.length*1)=_
  rw [wT,hz2,Nat.mul_one,hz,List.map_take,<- t2,List.take_take,Nat.mul_one,Nat.min_eq_left hm]
 have hlt:g<w.heap.size:=(Array.getElem?_eq_some_iff.1 hgg).1
 refine ⟨⟨hgb.os,hgb.tape,hgb.output,hgb.size,fun k hk hx=>hgb.block k hk (fun e=>hx ?_)⟩,?_,?_,fun k hk=>?_⟩
 .grind [blks,ag.row,eB]
 .intro r hr;simp at hr;subst hr;exact hown
 .simp [blks,ag.row,eB]
 simp [blks,ag.row,eB] at hk;subst hk
 exact ⟨Nat.lt_of_lt_of_le hlt hgb.size,.inl (by grind [blks,ag.row,eB])⟩
theorem Turned.refl {B0:List ag}{w:World}(h:Hnd B0 w):Turned B0 B0 w w:=⟨np.refl _ _,h.ok,h.sep,fun k hk=>⟨h.lt k hk,.inl hk⟩⟩
theorem NQ (v:Value)(l:List Int)(w:World)(H:Hnd [ag.row 3 v l] w)(hl:l.length<=1000000):Calls Tryz.prog 202 [v].toArray w fun e w' => ∃_z:Unit,e = .returned (.tuple #[])/\Turned [ag.row 3 v l] [ag.row 3 v (rm l)] w w':=by
 have how:Own 0 3 w v l:=H.ok (ag.row 3 v l) (List.mem_singleton.2 rfl)
 have hs:(rm l).length=l.length:=List.length_mergeSort l
 rcases how.2 with ⟨rfl,h0⟩ | ⟨g,cap,cur,hv,_,hgg,hnc,hcm,hcs,htk⟩
 .
  have:l=[]:=List.eq_nil_of_length_eq_zero h0
  subst this
  refine (Tryz.slices_Sort_int_none none 0 w).mono ?_
  rintro e w' ⟨rfl,rfl⟩
  have e0:rm []=[]:=az
  rw [e0]
  exact ⟨(),rfl,Turned.refl H⟩
 have hH:=holds_of_blockI (ss:=l) hgg (by simp_all [Enc.k,wT])
 rw [hv]
 refine (Tryz.slices_Sort_int g 0 cap l w hH (Array.getElem?_eq_some_iff.1 hgg).1 ae).mono ?_
 rintro e w' ⟨rfl,n,os,rfl⟩
 refine ⟨(),rfl,?_⟩
 simp_all [rm,zI,List.take_of_length_le,Nat.le_refl]
theorem Ga (v:Value)(l:List Int)(w:World)(H:Hnd [ag.row 3 v l] w)(hl:l.length<=1000000):Calls Tryz.prog 203 [v].toArray w fun e w' => ∃z:Value,e = .returned z/\Turned [ag.row 3 v l] [ag.row 3 z (Lib.compact l)] w w':=by
 have how:Own 0 3 w v l:=H.ok (ag.row 3 v l) (List.mem_singleton.2 rfl)
 rcases how.2 with ⟨rfl,h0⟩ | ⟨g,cap,cur,hv,_,hgg,hnc,hcm,hcs,htk⟩
 .
  have:l=[]:=List.eq_nil_of_length_eq_zero h0
  subst this
  refine (Tryz.slices_Compact_int_empty none 0 w).mono ?_
  rintro e w' ⟨rfl,rfl⟩
  exact ⟨_,rfl,Turned.refl H⟩
 have hH:=holds_of_blockI (ss:=l) hgg (by simp_all [Enc.k,wT])
 have hc:(Lib.compact l).length<=l.length:=by
  grind [Lib.compact,Lib.compactUpTo,List.length_map,Nat.le_trans,List.length_filter_le]
 rw [hv]
 refine (Tryz.slices_Compact_int g 0 cap l w hH ae hnc).mono ?_
 rintro e w' ⟨rfl,n,rfl⟩
 refine ⟨_,rfl,?_⟩
 have:=zI (os:= #[]) (n:=n) (ts:=Lib.compact l++List.replicate (l.length-(Lib.compact l).length) 0) (zs:=Lib.compact l) (m:=(Lib.compact l).length) hv how az bA hc
 simp_all
end
section
open Go.RowKit
theorem J9:∀ (a b:List Int),a.Pairwise (· < ·)->b.Pairwise (· < ·)->(∀x,x∈a↔x∈b)->a=b
 | [],[],_,_,_=>rfl
 | [],y::b,_,_,h=>by have:=(h y).2 bA;simp at this
 | x::a,[],_,_,h=>by have:=(h x).1 bA;simp at this
 | x::a,y::b,ha,hb,h=>by
  obtain ⟨ha1,ha2⟩:=List.pairwise_cons.1 ha
  obtain ⟨hb1,hb2⟩:=List.pairwise_cons.1 hb
  have hxy:x=y:=by
   have h1:x=y∨x∈b:=by simpa using (h x).1 bA
   have h2:y=x∨y∈a:=by simpa using (h y).2 bA
   rcases h1 with h1|h1
   .exact h1
   rcases h2 with h2|h2
   .exact h2.symm
   have:=hb1 x h1;have:=ha1 y h2;omega
  subst hxy
  congr 1
  refine J9 a b ha2 hb2 fun z=>?_
  constructor
  .
   intro hz
   have h1:z=x∨z∈b:=by simpa using (h z).1 (by simp [hz])
   rcases h1 with h1|h1
   .have:=ha1 z hz;omega
   exact h1
  intro hz
  have h1:z=x∨z∈a:=by simpa using (h z).2 (by simp [hz])
  rcases h1 with h1|h1
  .have:=hb1 z hz;omega
  exact h1
theorem vB {zs:List Int}(hs:zs.Pairwise (· <= ·)):∀m,m<=zs.length->(Lib.compactUpTo zs.toArray m).Pairwise (· < ·) /\ ∀x,x∈Lib.compactUpTo zs.toArray m ↔ ∃j,j<m/\zs[j]? = some x
 | 0,_=>by simp [Lib.compactUpTo]
 | m+1,hm=>by
  obtain ⟨ih1,ih2⟩:=vB hs m ae
  have hz:zs[m]? = some zs[m]:=List.getElem?_eq_getElem ae
  have hd:zs.toArray[m]! = zs[m]:=az
  rw [Lib.compactUpTo_succ,hd]
  have hle:∀j x,j<m->zs[j]? = some x->x<=zs[m]:=fun j x hj hx=>by
   grind [List.getElem?_eq_some_iff,List.pairwise_iff_getElem]
  by_cases hk:Lib.keeps zs.toArray m=true
  .
   rw [if_pos hk]
   have hlt:∀x∈Lib.compactUpTo zs.toArray m,x<zs[m]:=fun x hx=>by
    obtain ⟨j,hj,hxj⟩:=(ih2 x).1 hx
    have h1:=hle j x hj hxj
    simp only [Lib.keeps,decide_eq_true_eq] at hk
    rcases hk with hk|hk
    .omega
    have hd1:zs.toArray[m-1]! = zs[m-1]:=az
    rw [hd,hd1] at hk
    have h2:x<=zs[m-1]:=by
     obtain ⟨h3,rfl⟩:=List.getElem?_eq_some_iff.1 hxj
     rcases Nat.lt_or_ge j (m-1) with h4|h4
     .grind [List.pairwise_iff_getElem]
     grind
    grind
   grind
  rw [if_neg hk,List.append_nil]
  refine ⟨ih1,fun x=>?_⟩
  rw [ih2]
  simp only [Lib.keeps,decide_eq_true_eq] at hk
  grind
theorem oV (l:List ak):∀n,(eY l n).Pairwise (· < ·) /\ ∀x,x∈eY l n↔1<=x/\x<=(n:Int)/\hasT? l x=true
 | 0=>by simp [eY];omega
 | n+1=>by
  obtain ⟨h1,h2⟩:=oV l n
  simp only [eY]
  split
  .
   rename_i hh
   refine ⟨List.pairwise_append.2 ⟨h1,bA,fun a ha b hb=>by simp at hb;subst hb;have:=(h2 a).1 ha;omega⟩,fun x=>?_⟩
   rw [List.mem_append,h2]
   constructor
   .
    rintro (⟨a,b,c⟩ | h)
    .exact ⟨a,ae,c⟩
    simp at h;subst h;exact ⟨ae,ae,hh⟩
   rintro ⟨a,b,c⟩
   by_cases e:x<=(n:Int)
   .exact .inl ⟨a,e,c⟩
   right;simp;omega
  rename_i hh
  refine ⟨h1,fun x=>?_⟩
  rw [h2]
  constructor
  .rintro ⟨a,b,c⟩;exact ⟨a,ae,c⟩
  rintro ⟨a,b,c⟩
  refine ⟨a,?_,c⟩
  by_cases e:x<=(n:Int)
  .exact e
  have:x=((n+1:Nat):Int):=ae
  rw [this] at c;exact absurd c hh
theorem sW {l:List ak}(h:cJ l):Lib.compact (rm (l.map ak.aA))=F9 l:=by
 have hs:(rm (l.map ak.aA)).Pairwise (· <= ·):=by
  have:=List.pairwise_mergeSort (le:=fun x y:Int=>decide (x<=y)) (fun a b c=>by grind) (fun a b=>by grind) (l.map ak.aA)
  exact this.imp bA
 obtain ⟨h1,h2⟩:=vB hs _ (Nat.le_refl _)
 obtain ⟨h3,h4⟩:=oV l 999
 refine J9 _ _ h1 h3 fun x=>?_
 show x∈Lib.compactUpTo _ _↔x∈eY l 999
 rw [h2,h4]
 have hm:(∃j,j<(rm (l.map ak.aA)).length/\(rm (l.map ak.aA))[j]? = some x)↔x∈l.map ak.aA:=by
  rw [<- List.mem_mergeSort (le:=fun x y:Int=>decide (x<=y)) (l:=l.map ak.aA)]
  constructor
  .rintro ⟨j,_,hx⟩;exact List.mem_of_getElem? hx
  intro hx
  obtain ⟨j,hj⟩:=List.mem_iff_getElem?.1 hx
  exact ⟨j,(List.getElem?_eq_some_iff.1 hj).1,hj⟩
 rw [hm]
 simp only [List.mem_map,hasT?,List.any_eq_true,beq_iff_eq]
 constructor
 .
  rintro ⟨y,hy,rfl⟩
  have w:=h.mem hy
  have:=w.U5;have:=w.U6
  grind
 grind
end
section
theorem kY {α:Type}(p:α->Bool)(l:List α):(idxOf p l = -1 /\ ∀x∈l,p x=false) ∨ ∃ (k:Nat) (x:α),idxOf p l=k/\l[k]? = some x/\p x=true/\(∀ (j:Nat) y,j<k->l[j]? = some y->p y=false)/\k<l.length:=by
 unfold idxOf
 cases h:l.findIdx? p with
 | none=>grind
 | some k =>
  grind [List.findIdx?_eq_some_iff_getElem,List.getElem?_eq_getElem,List.getElem?_eq_some_iff]
section
variable {α:Type} {p:α->Bool} {l acc:List α} {i j k:Nat} {x:α}
theorem zJ (h:∀x∈l,p x=false):l.filter (fun x => !p x)=l:=List.filter_eq_self.2 (fun x hx=>by grind)
def rD (p:α->Bool)(l acc:List α)(i j:Nat):Prop:=i<=j/\j<=l.length/\acc.length=l.length/\acc.take i=(l.take j).filter (fun x => !p x)/\acc.drop j=l.drop j
theorem rD.start (hx:l[k]? = some x)(hp:p x=true)(hb:∀ (j:Nat) y,j<k->l[j]? = some y->p y=false):rD p l l k (k+1):=by
 have hk:=(List.getElem?_eq_some_iff.1 hx).1
 refine ⟨ae,ae,rfl,?_,rfl⟩
 rw [List.take_add_one,hx,List.filter_append]
 grind [List.filter_eq_self,List.mem_iff_getElem?]
theorem rD.at (h:rD p l acc i j):acc[j]? = l[j]?:=by
 have:=congrArg (·[0]?) h.2.2.2.2
 grind
theorem rD.skip (h:rD p l acc i j)(hx:acc[j]? = some x)(hp:p x=true):rD p l acc i (j+1):=by
 rw [h.at] at hx
 have hk:=(List.getElem?_eq_some_iff.1 hx).1
 obtain ⟨h1,h2,h3,h4,h5⟩:=h
 refine ⟨ae,ae,h3,?_,?_⟩
 .grind [List.take_add_one]
 rw [<- List.drop_drop,<- List.drop_drop,h5]
theorem rD.keep (h:rD p l acc i j)(hx:acc[j]? = some x)(hp:p x=false):rD p l (acc.set i x) (i+1) (j+1):=by
 rw [h.at] at hx
 have hk:=(List.getElem?_eq_some_iff.1 hx).1
 obtain ⟨h1,h2,h3,h4,h5⟩:=h
 refine ⟨ae,ae,az,?_,?_⟩
 .
  rw [List.take_add_one (l:=l),hx,List.filter_append,<- h4,List.take_add_one,List.getElem?_set_self ae,List.take_set_of_le (Nat.le_refl _)]
  grind
 rw [List.drop_set_of_lt ae,<- List.drop_drop,<- List.drop_drop,h5]
theorem rD.done (h:rD p l acc i j)(hj:¬ j<l.length){z:α}{m:Nat}:l.filter (fun x => !p x)=(acc.take i++List.replicate m z).take i:=by
 obtain ⟨h1,h2,h3,h4,h5⟩:=h
 grind
end
end
end Go.Proofs.YtnmpibjlnninjaaGreatDoor
