import Derived.Test.YtnmpibjlnninjaaGreatDoorKT6
import Derived.Lib.SlicesCompact
import Derived.Shelf.Strings.Builder1
import Derived.Shelf.Strings.Builder2
import Derived.Shelf.Small.Bits
import Derived.Shelf.Small.Strs
import Derived.Shelf.Small.Wraps
import Derived.Shelf.Strings.BuilderF
import Derived.Shelf.Strconv.Atoi
import Derived.Shelf.Strconv.Itoa0
import Derived.Shelf.Strconv.Itoa1
import Derived.Shelf.LaysM
import Derived.Shelf.Strconv.Itoa2
import Derived.Shelf.Strconv.Itoa3
import Derived.Shelf.Strconv.AtoiErrFast
import Derived.Shelf.Strconv.ParseIntEmpty
import Derived.Shelf.Strconv.AtoiFail
import Derived.Shelf.Strconv.Clone
import Derived.Shelf.Strconv.SyntaxError
import Derived.Shelf.LaysC
import Derived.Shelf.Strconv.ToError
import Derived.Shelf.Strconv.AtoiErr
import Derived.Shelf.Strconv.ErrVar
import Derived.Shelf.Strings.Search1
import Derived.Shelf.Strings.Search2
import Derived.Shelf.Strings.Search3
import Derived.Shelf.Strings.Count
import Derived.Shelf.Strings.Shaped
import Derived.Shelf.Sort.Plain
import Derived.Shelf.Strings.Prefix
import Derived.Shelf.Bits.Mul64
import Derived.Shelf.Strings.Repeat
import Derived.Shelf.Unicode.DecodeSlow
import Derived.Shelf.Slices.Turned
import Derived.Shelf.Slices.Equal
import Derived.Ground.Names2Prog
import Derived.Shelf.Slices.CompactI
import Derived.Shelf.Slices.SearchI
import Derived.Shelf.Slices.Cells
import Derived.Shelf.Slices.In.SortNone
import Derived.Shelf.Slices.Empties2
import Derived.Sort.OwnSortedInts
namespace Go.Proofs.YtnmpibjlnninjaaGreatDoor
set_option linter.unusedVariables false
set_option linter.unusedSimpArgs false
set_option maxRecDepth 100000
set_option maxHeartbeats 90000000
section
theorem Ho {α:Type}{l u:List α}{i:Nat}(h:i=l.length):l.take i++u++l.drop i=l++u:=by
 grind
theorem Dx {α:Type}{l u:List α}{i m:Nat}{z:α}(hu:u.length=1)(hi:i<l.length)(hm:m=l.length+u.length-i) :
 l.take i++u++l.drop i=((l.take i++List.replicate m z).take i++u++(l.take i++List.replicate m z).drop (i+u.length)).take (i+u.length)++l.drop i++((l.take i++List.replicate m z).take i++u++(l.take i++List.replicate m z).drop (i+u.length)).drop (i+u.length+(l.drop i).length):=by
 have h1:(l.take i).length=i:=au
 have h2:((l.take i++List.replicate m z).take i)=l.take i:=au
 have h3:(l.take i++u).length=i+u.length:=au
 rw [h2,List.take_append_of_le_length ae,List.take_of_length_le (l:=l.take i++u) ae]
 grind [List.length_append,List.length_drop,List.length_replicate,List.drop_of_length_le]
theorem BF {α:Type}{l u:List α}{i:Nat}(hu:u.length=1)(hi:i<l.length) :
 l.take i++u++l.drop i=(l.take (i+1)++l.drop i).take i++u++(l.take (i+1)++l.drop i).drop (i+u.length):=by
 grind
theorem xk {α:Type}{l:List α}{i j:Nat}(h:i=j):l.take i++l.drop j=l:=sH
section
variable {α:Type}
def bsGo (f:α->Int)(l:List α)(lo hi:Nat):Nat :=
  if h:lo<hi then
    match l[(lo+hi) / 2]? with
    | some x=>if f x<0 then bsGo f l ((lo+hi) / 2+1) hi else bsGo f l lo ((lo+hi) / 2)
    | none=>lo
  else lo
termination_by hi-lo
decreasing_by all_goals omega
def jw (f:α->Int)(l:List α):Nat:=bsGo f l 0 l.length
def py (f:α->Int)(l:List α):Bool:=match l[jw f l]? with|some x=>decide (f x=0)|none=>false
variable {f:α->Int} {l:List α} {lo hi:Nat} {x:α}
theorem BG (h:lo<hi)(hx:l[(lo+hi) / 2]? = some x)(hf:f x<0):bsGo f l lo hi=bsGo f l ((lo+hi) / 2+1) hi:=by
 rw [bsGo,dif_pos h,hx];grind
theorem BH (h:lo<hi)(hx:l[(lo+hi) / 2]? = some x)(hf:¬ f x<0):bsGo f l lo hi=bsGo f l lo ((lo+hi) / 2):=by
 rw [bsGo,dif_pos h,hx];grind
theorem gh (h:¬ lo<hi):bsGo f l lo hi=lo:=by rw [bsGo,dif_neg h]
theorem NU:∀ (n lo hi:Nat),hi-lo=n->lo<=hi->bsGo f l lo hi<=hi:=by
 intro n
 induction n using Nat.strongRecOn with
 | _ n ih =>
  intro lo hi hn hle
  rw [bsGo]
  split
  .
   split
   .
    split
    .grind
    grind
   omega
  omega
theorem pU:jw f l<=l.length:=NU _ 0 l.length rfl (Nat.zero_le _)
theorem Dy (h:py f l=true):∃x,l[jw f l]? = some x/\f x=0:=by
 unfold py at h
 grind
theorem I4 (hm:∀ (i j:Nat) x y,i<=j->l[i]? = some x->l[j]? = some y->f y<0->f x<0):∀ (n lo hi:Nat),hi-lo=n->lo<=hi->hi<=l.length ->
 (∀ (i:Nat) x,i<lo->l[i]? = some x->f x<0)->(∀ (i:Nat) x,hi<=i->l[i]? = some x->¬ f x<0) ->
 (∀ (i:Nat) x,i<bsGo f l lo hi->l[i]? = some x->f x<0)/\(∀ (i:Nat) x,bsGo f l lo hi<=i->l[i]? = some x->¬ f x<0):=by
 intro n
 induction n using Nat.strongRecOn with
 | _ n ih =>
  intro lo hi hn hle hl h1 h2
  by_cases hlt:lo<hi
  .
   obtain ⟨x,hx⟩:∃x,l[(lo+hi) / 2]? = some x:=⟨_,List.getElem?_eq_getElem ae⟩
   by_cases hf:f x<0
   .
    rw [BG hlt hx hf]
    exact ih (hi-((lo+hi) / 2+1)) ae _ _ rfl ae hl (fun i y hi' hy=>hm i ((lo+hi) / 2) y x ae hy hx hf) h2
   rw [BH hlt hx hf]
   exact ih ((lo+hi) / 2-lo) ae _ _ rfl ae ae h1 (fun i y hi' hy hc=>hf (hm ((lo+hi) / 2) i x y hi' hx hy hc))
  rw [gh hlt]
  grind
theorem Dz (hm:∀ (i j:Nat) x y,i<=j->l[i]? = some x->l[j]? = some y->f y<0->f x<0) :
 (∀ (i:Nat) x,i<jw f l->l[i]? = some x->f x<0)/\(∀ (i:Nat) x,jw f l<=i->l[i]? = some x->¬ f x<0) :=
 I4 hm _ 0 l.length rfl (Nat.zero_le _) (Nat.le_refl _) (fun i x hi=>absurd hi (Nat.not_lt_zero _)) (fun i x hi hx=>by
  grind)
end
def rq (a b:Int):Int:=if a<b then -1 else if b<a then 1 else 0
def KU:List Int->Int
  | []=>0
  | x::l=>if x=0 then KU l else x
theorem KV {l:List Int}{k:Nat}{x:Int}(h:l[k]? = some x)(h0:x=0):KU (l.drop k)=KU (l.drop (k+1)):=by
 grind [KU,List.getElem?_eq_some_iff,List.drop_eq_getElem_cons]
theorem NV {l:List Int}{k:Nat}{x:Int}(h:l[k]? = some x)(h0:¬ x=0):KU (l.drop k)=x:=by
 grind [KU,List.getElem?_eq_some_iff,List.drop_eq_getElem_cons]
end
def aY (p:Place):Int:=if p.aB<1∨4<p.aB∨p.Slot<0∨5<p.Slot then 1 else 0
def ru (p q:Place):Int:=if rq p.aB q.aB=0 then rq p.Slot q.Slot else rq p.aB q.aB
theorem NW (p q:Place):KU [rq p.aB q.aB,rq p.Slot q.Slot]=ru p q:=by
 grind [KU,ru]
theorem I5 {p q:Place}(h:ru p q=0):p=q:=by
 cases p;cases q
 grind [ru,rq,Place.mk.injEq]
theorem I6 (p:Place):ru p p=0:=by simp [ru,rq]
def hZ (l:List Held)(p:Place):Nat:=jw (fun h=>ru h.Place p) l
def I7 (l:List Held)(p:Place):Bool:=py (fun h=>ru h.Place p) l
theorem wt (l:List Held)(p:Place):hZ l p<=l.length:=pU
theorem uo (l:List Held)(p:Place):I7 l p=false ∨ ∃x,l[hZ l p]? = some x/\I7 l p=true/\x.Place=p/\hZ l p<l.length:=by
 cases h:I7 l p with
 | false=>grind
 | true =>
  obtain ⟨x,h1,h2⟩:=Dy h
  exact .inr ⟨x,h1,rfl,I5 h2,(List.getElem?_eq_some_iff.1 h1).1⟩
def lY (l:List Held)(p:Place):Int:=if I7 l p then (match l[hZ l p]? with|some x=>x.ak|none=>0) else 0
theorem KW {l:List Held}{p:Place}(h:I7 l p=false):lY l p=0:=by simp [lY,h]
theorem Hq {l:List Held}{p:Place}{x:Held}(h:I7 l p=true)(hx:l[hZ l p]? = some x):lY l p=x.ak:=by grind [lY]
def eY (l:List Held)(p:Place)(id:Int):List Held :=
  if I7 l p then (if id=0 then l.take (hZ l p)++l.drop (hZ l p+1) else l.set (hZ l p) ⟨p,id⟩)
  else if id=0 then l else l.take (hZ l p)++[⟨p,id⟩]++l.drop (hZ l p)
theorem lZ (l:List Held)(p:Place)(id:Int):(eY l p id).length<=l.length+1:=by
 grind [eY,wt]
def j9 (l:List Held)(h:Int):Nat->Nat->Int
  | 0,_ => -1
  | n+1,s=>if lY l ⟨h,s⟩=0 then s else j9 l h n (s+1)
def fj (l:List Held)(h:Int):Int:=j9 l h 6 0
theorem FW {l:List Held}{h:Int}{n s:Nat}(e:lY l ⟨h,s⟩=0)(hn:0<n):j9 l h n s=s:=by
 cases n with
 | zero=>omega
 | succ n=>simp [j9,e]
theorem DC {l:List Held}{h:Int}{s:Nat}(e:¬ lY l ⟨h,s⟩=0)(hs:s<6):j9 l h (6-s) s=j9 l h (6-(s+1)) (s+1):=by
 have:6-s=(6-(s+1))+1:=ae
 simp_all [j9,if_neg]
def kP (l:List Held)(p:Place):Int:=match l.find? (fun h=>h.Place==p) with|some h=>h.ak|none=>0
theorem I8 {l:List Held}{p:Place}{k:Nat}{x:Held}(hx:l[k]? = some x)(he:x.Place=p)(hb:∀ (j:Nat) y,j<k->l[j]? = some y->¬ y.Place=p):kP l p=x.ak:=by
 grind [kP,List.getElem?_eq_some_iff,List.find?_eq_some_iff_getElem,List.getElem?_eq_getElem]
theorem FX {l:List Held}{p:Place}(hb:∀ (j:Nat) y,j<l.length->l[j]? = some y->¬ y.Place=p):kP l p=0:=by
 grind [kP,List.find?_eq_none,List.mem_iff_getElem?,List.getElem?_eq_some_iff]
def jL (p:Place)(id:Int)(s:List Held×Bool)(h:Held):List Held×Bool :=
  let s1:=if s.2=false/\(p.aB<h.Place.aB∨(p.aB=h.Place.aB/\p.Slot<=h.Place.Slot)) then (s.1++[⟨p,id⟩],true) else s
  (if h.Place=p then s1.1 else s1.1++[h],s1.2)
theorem fS {p:Place}{id:Int}{acc:List Held}{h:Held}(ho:p.aB<h.Place.aB∨(p.aB=h.Place.aB/\p.Slot<=h.Place.Slot)):jL p id (acc,false) h=(if h.Place=p then acc++[⟨p,id⟩] else acc++[⟨p,id⟩]++[h],true):=by
 unfold jL;grind
theorem du {p:Place}{id:Int}{acc:List Held}{b:Bool}{h:Held}(ho:b=true∨¬ (p.aB<h.Place.aB∨(p.aB=h.Place.aB/\p.Slot<=h.Place.Slot))):jL p id (acc,b) h=(if h.Place=p then acc else acc++[h],b):=by
 unfold jL;grind
def mP (l:List Held)(p:Place)(id:Int):List Held×Bool:=l.foldl (jL p id) ([],id==0)
def lv (l:List Held)(p:Place)(id:Int):List Held:=if (mP l p id).2 then (mP l p id).1 else (mP l p id).1++[⟨p,id⟩]
theorem cU (l:List Held)(p:Place)(id:Int)(k:Nat)(x:Held)(h:l[k]? = some x):mP (l.take (k+1)) p id=jL p id (mP (l.take k) p id) x:=by
 grind [mP,List.getElem?_eq_some_iff,List.take_add_one]
theorem DF (p:Place)(id:Int)(s:List Held×Bool)(h:Held):(jL p id s h).1.length<=s.1.length+2:=by
 grind [jL]
theorem Ad (l:List Held)(p:Place)(id:Int):(mP l p id).1.length<=2*l.length:=by
 have:∀ (l:List Held) (s:List Held×Bool),(l.foldl (jL p id) s).1.length<=s.1.length+2*l.length:=by
  intro l
  induction l with
  | nil=>grind
  | cons h l ih=>grind [List.length_cons,DF]
 grind [mP,id]
def kC (l:List Held)(h:Int):Nat->Nat->Int
  | 0,_ => -1
  | n+1,s=>if kP l ⟨h,s⟩=0 then s else kC l h n (s+1)
def BJ (l:List Held)(h:Int):Int:=kC l h 6 0
theorem DG {l:List Held}{h:Int}{n s:Nat}(e:kP l ⟨h,s⟩=0)(hn:0<n):kC l h n s=s:=by
 cases n with
 | zero=>omega
 | succ n=>simp [kC,e]
theorem BK {l:List Held}{h:Int}{s:Nat}(e:¬ kP l ⟨h,s⟩=0)(hs:s<6):kC l h (6-s) s=kC l h (6-(s+1)) (s+1):=by
 have:6-s=(6-(s+1))+1:=ae
 simp_all [kC,if_neg]
theorem kD (p:Place):aY p=0∨aY p=1:=by grind [aY]
theorem eK {p:Place}(h:p.aB<1∨4<p.aB∨p.Slot<0∨5<p.Slot):aY p=1:=if_pos h
theorem rH {p:Place}(h:1<=p.aB/\p.aB<=4/\0<=p.Slot/\p.Slot<=5):aY p=0:=if_neg ae
theorem bG {p:Place}(h:aY p=0):1<=p.aB/\p.aB<=4/\0<=p.Slot/\p.Slot<=5:=by
 grind [aY]
def jI (p q:Place):Prop:=p.aB<q.aB∨(p.aB=q.aB/\p.Slot<q.Slot)
def GoodAt (l:List Held)(k:Nat):Prop:= ∀h,l[k]? = some h->aY h.Place=0/\h.ak≠0 /\ ∀g,0<k->l[k-1]? = some g->jI g.Place h.Place
def Good (l:List Held):Prop:= ∀k,k<l.length->GoodAt l k
section
open Go.RowKit
def dj (r:Int):Int:=if r<0 then 1 else if 7<r then 1 else 0
theorem fT {r:Int}(h0:0<=r)(h7:r<=7):dj r=0:=by simp_all [dj,if_neg]
theorem l4 {r:Int}(h:r<0∨7<r):dj r=1:=by unfold dj;omega
theorem gi (r:Int):(dj r=1/\(r<0∨7<r))∨(dj r=0/\0<=r/\r<=7):=by
 grind [l4,fT]
def gj (r need:Int):Bool:=(r.toNat &&& need.toNat)==need.toNat
def hasB (r need:Int):Bool:= !(need % 2==1&&r % 2==0) && !(need / 2 % 2==1&&r / 2 % 2==0) && !(need / 4 % 2==1&&r / 4 % 2==0)
theorem KX:∀r n:Fin 8,hasB ((r:Nat):Int) ((n:Nat):Int)=gj ((r:Nat):Int) ((n:Nat):Int):=aD
theorem KY {r:Int}(h0:0<=r)(h7:r<=7):∃x:Fin 8,r=((x:Nat):Int):=⟨⟨r.toNat,ae⟩,au⟩
theorem gy {r n:Int}(r0:0<=r)(r7:r<=7)(n0:0<=n)(n7:n<=7):hasB r n=gj r n:=by
 grind [KY,KX]
theorem jh {r n:Int}(h:(n % 2=1/\r % 2=0)∨(n / 2 % 2=1/\r / 2 % 2=0)∨(n / 4 % 2=1/\r / 4 % 2=0)):hasB r n=false:=by
 grind [hasB]
theorem jx {r n:Int}(h0:¬(n % 2=1/\r % 2=0))(h1:¬ (n / 2 % 2=1/\r / 2 % 2=0))(h2:¬ (n / 4 % 2=1/\r / 4 % 2=0)):hasB r n=true:=by
 unfold hasB;grind
def cI (w:ak):Int :=
  if w.ID<1 then 1 else if 999<w.ID then 1 else if w.av<1 then 1 else if 999<w.av then 1 else if w.aO<0 then 1 else if 99<w.aO then 1 else
  if w.From<0 then 1 else if w.ID<=w.From then 1 else dj w.Rights
theorem fG (x:ak):(cI x=1/\(x.ID<1∨999<x.ID∨x.av<1∨999<x.av∨x.aO<0∨99<x.aO∨x.From<0∨x.ID<=x.From∨x.Rights<0∨7<x.Rights)) ∨
 (cI x=0/\1<=x.ID/\x.ID<=999/\1<=x.av/\x.av<=999/\0<=x.aO/\x.aO<=99/\0<=x.From/\x.From<x.ID/\0<=x.Rights/\x.Rights<=7):=by
 unfold cI dj;omega
def iT:ak:=⟨0,0,0,0,0⟩
def derived (w:ak)(id rights cB:Int):ak×Int :=
  if dj rights=1 then (iT,1) else if cB<0 then (iT,1) else if 99<cB then (iT,1) else
  if gj w.Rights rights=false then (iT,7) else
  if cB≠0/\w.aO≠0/\cB≠w.aO then (iT,7) else
  (⟨id,w.av,rights,if cB=0 then w.aO else cB,w.ID⟩,0)
def bY (l:List ak)(id:Int):Int:=match l.findIdx? (fun w=>w.ID==id) with|some i=>i|none => -1
theorem dv (l:List ak)(id:Int):(bY l id = -1 /\ ∀x∈l,¬ x.ID=id) ∨ ∃ (k:Nat) (h:k<l.length),bY l id=k/\l[k].ID=id /\ ∀j (hj:j<k),¬ (l[j]'(by omega)).ID=id:=by
 unfold bY
 grind [List.findIdx?_eq_none_iff,List.findIdx?_eq_some_iff_getElem]
theorem KZ {l:List ak}{id:Int}{k:Nat}(hk:k<l.length)(h1:l[k].ID=id)(h2:∀j x,j<k->l[j]? = some x->¬ x.ID=id):bY l id=k:=by
 unfold bY
 rw [List.findIdx?_eq_some_iff_getElem.2 ⟨hk,au,fun j hj=>by
  have:=h2 j l[j] hj (List.getElem?_eq_getElem ae);grind⟩]
end
section
open Go.RowKit
def gk (l:List ak)(i:Nat):Int :=
  match l[i]? with
  | none=>0
  | some x =>
    if cI x=1 then 1
    else if 0<i /\ ∃y,l[i-1]? = some y/\x.ID<=y.ID then 3
    else if x.From=0 then 0
    else match (l.take i).find? (fun y=>y.ID==x.From) with
      | none=>5
      | some y=>if (derived y x.ID x.Rights x.aO).2≠0 then (derived y x.ID x.Rights x.aO).2 else if (derived y x.ID x.Rights x.aO).1≠x then 7 else 0
def dS (l:List ak):Int:=match (List.range l.length).find? (fun i=>gk l i != 0) with|some i=>gk l i|none=>0
theorem fU {l:List ak}{k:Nat}{f:Int}(hk:k<l.length)(h:gk l k=f)(hf:f≠0)(h0:∀j,j<k->gk l j=0):dS l=f:=by
 grind [dS,List.range,gk,List.find?_range_eq_some]
theorem pW {l:List ak}(h0:∀j,j<l.length->gk l j=0):dS l=0:=by
 grind [dS,List.range,gk,List.find?_eq_none]
theorem vU {l:List ak}(h:dS l=0):∀j,j<l.length->gk l j=0:=by
 grind [dS,List.range,gk,absurd,List.find?_eq_none]
theorem ka {l:List ak}{id:Int}:(bY l id = -1/\l.find? (fun y=>y.ID==id)=none) ∨ ∃ (k:Nat) (h:k<l.length),bY l id=k/\l.find? (fun y=>y.ID==id)=some l[k]:=by
 grind [dv,List.find?_eq_none,List.find?_eq_some_iff_getElem]
end
section
open Go.RowKit
theorem I9 (a:Nat)(ha:a<9223372036854775808):(BitVec.ofInt 64 (a:Int)).toNat=a:=by
 grind
theorem DI (a b:Nat)(ha:a<9223372036854775808)(hb:b<9223372036854775808):bits .and .i64 (a:Int) (b:Int)=((a &&& b:Nat):Int):=by
 have hx:a &&& b<2 ^ 63:=Nat.and_lt_two_pow _ ae
 show IntKind.i64.wrap ((BitVec.ofInt 64 (a:Int) &&& BitVec.ofInt 64 (b:Int)).toNat:Int)=_
 grind [BitVec.toNat_and,I9,IntKind.wrap_i64]
theorem Hr {r n:Int}{b:Bool}(r0:0<=r)(r7:r<=7)(n0:0<=n)(n7:n<=7)(h:(bits .and .i64 r n==n)=b):b=gj r n:=by
 rw [<- h]
 obtain ⟨a,rfl⟩:=Int.eq_ofNat_of_zero_le r0
 obtain ⟨b,rfl⟩:=Int.eq_ofNat_of_zero_le n0
 rw [DI a b ae ae]
 unfold gj
 grind
theorem pz {r:Int}(h:dj r=0):0<=r/\r<=7:=by
 grind [gi]
theorem bz {r:Int}(h:¬ dj r=0):dj r=1:=by
 grind [gi]
theorem eI {x:ak}(h:x.ID<1∨999<x.ID∨x.av<1∨999<x.av∨x.aO<0∨99<x.aO∨x.From<0∨x.ID<=x.From∨x.Rights<0∨7<x.Rights):cI x=1:=by
 grind [fG]
theorem ow {x:ak}(h:1<=x.ID/\x.ID<=999/\1<=x.av/\x.av<=999/\0<=x.aO/\x.aO<=99/\0<=x.From/\x.From<x.ID/\0<=x.Rights/\x.Rights<=7):cI x=0:=by
 grind [fG]
theorem xl {x:ak}(h:1<=x.ID/\x.ID<=999/\1<=x.av/\x.av<=999/\0<=x.aO/\x.aO<=99/\0<=x.From/\x.From<x.ID):cI x=dj x.Rights:=by
 grind [gi,eI,ow]
theorem rW {x:ak}{id r b:Int}(h:¬ dj r=0):derived x id r b=(iT,1):=by
 have:dj r=1:=by grind [gi]
 simp_all [derived,if_pos]
theorem fH {x:ak}{id r b:Int}(h:r<0∨7<r∨b<0∨99<b):derived x id r b=(iT,1):=by
 by_cases h1:dj r=0
 .
  have:=pz h1
  unfold derived;grind
 grind [rW]
theorem ox {x:ak}{id r b:Int}(h:0<=r/\r<=7/\0<=b/\b<=99)(hh:gj x.Rights r=false):derived x id r b=(iT,7):=by
 simp_all [derived,if_neg,fT,if_pos]
theorem oy {x:ak}{id r b:Int}(h:0<=r/\r<=7/\0<=b/\b<=99)(hh:gj x.Rights r=true)(hc:¬ b=0/\¬ x.aO=0/\¬ b=x.aO):derived x id r b=(iT,7):=by
 simp_all [derived,if_neg,fT,if_pos]
theorem l5 {x:ak}{id r b:Int}(h:0<=r/\r<=7/\0<=b/\b<=99)(hh:gj x.Rights r=true)(hc:b=0):derived x id r b=(⟨id,x.av,r,x.aO,x.ID⟩,0):=by
 simp_all [derived,if_neg,fT,if_pos]
theorem l6 {x:ak}{id r b:Int}(h:0<=r/\r<=7/\0<=b/\b<=99)(hh:gj x.Rights r=true)(hc:¬ b=0)(hc2:x.aO=0∨b=x.aO):derived x id r b=(⟨id,x.av,r,b,x.ID⟩,0):=by
 unfold derived;rw [if_neg (by grind [fT]),if_neg ae,if_neg ae,if_neg au,if_neg ae,if_neg hc]
theorem kb {x:ak}{id r b:Int}(h:0<=r/\r<=7/\0<=b/\b<=99)(hh:gj x.Rights r=true)(hc:¬ x.aO=0)(hc2:b=0∨b=x.aO):derived x id r b=(⟨id,x.av,r,x.aO,x.ID⟩,0):=by
 grind [l5,l6]
def idxOf {α:Type}(p:α->Bool)(l:List α):Int:=match l.findIdx? p with|some i=>i|none => -1
theorem idxOf_hit {α:Type}{p:α->Bool}{l:List α}{k:Nat}{x:α}(hk:l[k]? = some x)(h1:p x=true)(h2:∀ (j:Nat) x,j<k->l[j]? = some x->p x=false):idxOf p l=k:=by
 obtain ⟨hk',rfl⟩:=List.getElem?_eq_some_iff.1 hk
 unfold idxOf
 rw [List.findIdx?_eq_some_iff_getElem.2 ⟨hk',h1,fun j hj=>by
  grind⟩]
theorem idxOf_miss {α:Type}{p:α->Bool}{l:List α}{k:Nat}(hk:¬ k<l.length)(h:∀ (j:Nat) x,j<k->l[j]? = some x->p x=false):idxOf p l = -1:=by
 grind [idxOf,List.findIdx?_eq_none_iff,List.mem_iff_getElem?,List.getElem?_eq_some_iff]
theorem Ae (l:List ak)(id:Int):bY l id=idxOf (fun x=>x.ID==id) l:=rfl
theorem jy {α:Type}{p:α->Bool}{l:List α}{k:Nat}{x:α}(h:∀ (j:Nat) x,j<k->l[j]? = some x->p x=false)(hx:l[k]? = some x)(hp:p x=false):∀ (j:Nat) x,j<k+1->l[j]? = some x->p x=false:=by
 grind
end
section
open Go.RowKit
structure Tj (x:ak):Prop where
  id1:1<=x.ID
  P5:x.ID<=999
  Tk:1<=x.av
  Tl:x.av<=999
  Tm:0<=x.aO
  Tn:x.aO<=99
  P6:0<=x.From
  P7:x.From<x.ID
  P8:0<=x.Rights
  P9:x.Rights<=7
theorem BL {x:ak}(h:cI x=0):Tj x:=by
 rcases fG x with ⟨h1,_⟩ | ⟨_,h2⟩
 .omega
 obtain ⟨a,b,c,d,e,f,g,i,j,k⟩:=h2;exact ⟨a,b,c,d,e,f,g,i,j,k⟩
theorem jM (x:ak):cI x=0∨cI x=1:=by
 grind [fG]
theorem ig {l:List ak}{k:Nat}{x:ak}(hx:l[k]? = some x)(h:¬ cI x=0):gk l k=1:=by
 have:cI x=1:=by grind [fG]
 simp_all [gk,if_pos]
theorem mQ {l:List ak}{k:Nat}{x y:ak}(hx:l[k]? = some x)(h:cI x=0)(hk:0<k)(hy:l[k-1]? = some y)(hle:¬ y.ID<x.ID):gk l k=3:=by
 simp_all [gk,if_neg,if_pos]
theorem xm {l:List ak}{k:Nat}{x:ak}(hx:l[k]? = some x)(h:cI x=0)(hs:¬ 0<k ∨ ∃y,l[k-1]? = some y/\y.ID<x.ID)(h0:x.From=0):gk l k=0:=by
 unfold gk;grind
theorem xn {l:List ak}{k:Nat}{x:ak}(hx:l[k]? = some x)(h:cI x=0)(hs:¬ 0<k ∨ ∃y,l[k-1]? = some y/\y.ID<x.ID)(h0:¬ x.From=0)(hf:bY (l.take k) x.From = -1):gk l k=5:=by
 have hn:(l.take k).find? (fun y=>y.ID==x.From)=none:=by
  grind [ka]
 unfold gk;grind
theorem ij {l:List ak}{k j:Nat}{x y:ak}(hx:l[k]? = some x)(h:cI x=0)(hs:¬ 0<k ∨ ∃y,l[k-1]? = some y/\y.ID<x.ID)(h0:¬ x.From=0)(hf:bY (l.take k) x.From=(j:Int))(hj:j<k)(hy:l[j]? = some y) :
 gk l k=if (derived y x.ID x.Rights x.aO).2≠0 then (derived y x.ID x.Rights x.aO).2 else if (derived y x.ID x.Rights x.aO).1≠x then 7 else 0:=by
 have hn:(l.take k).find? (fun y=>y.ID==x.From)=some y:=by
  grind [ka,List.getElem?_eq_some_iff]
 unfold gk;grind
theorem s8 {l:List ak}{k:Nat}{x:ak}(hx:l[k]? = some x)(h:gk l k=0):Tj x:=by
 grind [BL,ig]
theorem gO (x:ak)(id r b:Int):(derived x id r b).2=0∨(derived x id r b).2=1∨(derived x id r b).2=7:=by
 grind [derived]
def cb (l:List ak):Prop:=dS l=0
theorem cb.steps {l:List ak}(h:cb l):∀j,j<l.length->gk l j=0:=vU h
theorem cb.mem {l:List ak}(h:cb l){x:ak}(hx:x∈l):Tj x:=by
 obtain ⟨j,hj⟩:=List.mem_iff_getElem?.1 hx
 exact s8 hj (h.steps j (List.getElem?_eq_some_iff.1 hj).1)
theorem rX {l:List ak}{k:Nat}(h:∀j,j<k->gk l j=0)(hk:gk l k=0):∀j,j<k+1->gk l j=0:=by
 grind
theorem xo (l:List ak)(c:Int)(h:0<=bY l c):∃x,l[(bY l c).toNat]? = some x/\x.ID=c/\x∈l:=by
 grind [dv,List.getElem_mem]
def lB (id from':Int)(x:ak):ak:=if x.From=id then { x with From:=from'} else x
def DJ (id from':Int)(l:List ak):List ak:=(l.filter (fun x=>decide (x.ID≠id))).map (lB id from')
theorem Hs {id f:Int}{l:List ak}{k:Nat}{x:ak}(hx:l[k]? = some x)(h:x.ID=id):DJ id f (l.take (k+1))=DJ id f (l.take k):=by
 grind [DJ,List.take_add_one]
theorem s9 {id f:Int}{l:List ak}{k:Nat}{x:ak}(hx:l[k]? = some x)(h:¬ x.ID=id):DJ id f (l.take (k+1))=DJ id f (l.take k)++[lB id f x]:=by
 grind [DJ,List.take_add_one]
theorem BM (id f:Int)(l:List ak):(DJ id f l).length<=l.length:=by grind [DJ,List.length_filter_le]
theorem xp {id f:Int}{x:ak}(h:x.From=id):lB id f x=⟨x.ID,x.av,x.Rights,x.aO,f⟩:=by simp_all [lB,if_pos]
theorem uq {id f:Int}{x:ak}(h:¬ x.From=id):lB id f x=x:=by simp_all [lB,if_neg]
def eC (l:List ak)(id:Int):Int:=match l.find? (fun y=>y.ID==id) with|some y=>y.From|none=>0
theorem mR {l:List ak}{id:Int}{j:Nat}{y:ak}(hf:bY l id=(j:Int))(hy:l[j]? = some y):eC l id=y.From:=by
 grind [eC,id,ka,List.getElem?_eq_some_iff]
theorem vu {l:List ak}{id:Int}(hf:bY l id = -1):eC l id=0:=by
 grind [eC,id,ka]
def without (l:List ak)(id:Int):List ak:=DJ id (eC l id) l
def DK (l:List ak)(id:Int):List ak:=if bY l id<0 then l.filter (fun x=>decide (x.ID≠id)) else without l id
def K0 (l:List ak)(id:Int)(x:ak):ak:=if bY l id<0 then x else lB id (eC l id) x
def rx (l:List ak)(id:Int)(m:List ak):List ak:=(m.filter (fun x=>decide (x.ID≠id))).map (K0 l id)
theorem xq {l0:List ak}{id:Int}{l:List ak}{k:Nat}{x:ak}(hx:l[k]? = some x)(h:x.ID=id):rx l0 id (l.take (k+1))=rx l0 id (l.take k):=by
 grind [rx,List.take_add_one]
theorem ut {l0:List ak}{id:Int}{l:List ak}{k:Nat}{x:ak}(hx:l[k]? = some x)(h:¬ x.ID=id):rx l0 id (l.take (k+1))=rx l0 id (l.take k)++[K0 l0 id x]:=by
 grind [rx,List.take_add_one]
theorem DL (l0:List ak)(id:Int)(l:List ak):(rx l0 id l).length<=l.length:=by grind [rx,List.length_filter_le]
theorem DN (l:List ak)(wid:Int):rx l wid l=DK l wid:=by
 unfold rx DK without DJ
 split
 .
  rename_i h
  have:K0 l wid=fun x=>x:=by funext x;simp_all [K0,if_pos]
  simp_all
 simp_all [K0,if_neg]
end
section
open Go.RowKit
theorem xt {l:List ak}{k:Nat}{x y:ak}(hx:l[k]? = some x)(h:gk l k=0)(hk:0<k)(hy:l[k-1]? = some y):y.ID<x.ID:=by
 grind [s8,jM,ig,Int.lt_or_le,mQ]
theorem cb.rise {l:List ak}(h:cb l):∀ (j i:Nat) {x y:ak},i<j->l[j]? = some x->l[i]? = some y->y.ID<x.ID
 | 0,i,x,y,hij,hx,hy=>by omega
 | j+1,i,x,y,hij,hx,hy=>by
  have hlt:j+1<l.length:=(List.getElem?_eq_some_iff.1 hx).1
  have hz:l[j]? = some l[j]:=List.getElem?_eq_getElem ae
  have h1:=xt hx (h.steps _ hlt) ae hz
  by_cases hj:i=j
  .grind
  have:=h.rise j i ae hz hy;omega
theorem cb.inj {l:List ak}(h:cb l){x y:ak}(hx:x∈l)(hy:y∈l)(he:x.ID=y.ID):x=y:=by
 obtain ⟨i,hi⟩:=List.mem_iff_getElem?.1 hx
 obtain ⟨j,hj⟩:=List.mem_iff_getElem?.1 hy
 rcases Nat.lt_trichotomy i j with h1|h1|h1
 .have:=h.rise j i h1 hj hi;omega
 .grind
 have:=h.rise i j h1 hi hj;omega
theorem xu {l:List ak}{k:Nat}{x:ak}(hx:l[k]? = some x)(h:gk l k=0)(h0:x.From≠0) :
 ∃j y,j<k/\l[j]? = some y/\y.ID=x.From/\(derived y x.ID x.Rights x.aO).2=0/\(derived y x.ID x.Rights x.aO).1=x:=by
 have hw:cI x=0:=by grind [jM,ig]
 have hsh:¬ 0<k ∨ ∃y,l[k-1]? = some y/\y.ID<x.ID:=by
  by_cases hk:0<k
  .
   have hlt:k<l.length:=(List.getElem?_eq_some_iff.1 hx).1
   exact .inr ⟨_,List.getElem?_eq_getElem ae,xt hx h hk (List.getElem?_eq_getElem ae)⟩
  omega
 rcases dv (l.take k) x.From with ⟨h1,h2⟩ | ⟨j,hj,h1,h2,h3⟩
 .grind [xn]
 have hjk:j<k:=au
 have hlt:k<l.length:=(List.getElem?_eq_some_iff.1 hx).1
 have hy:l[j]? = some l[j]:=List.getElem?_eq_getElem ae
 rw [ij hx hw hsh h0 h1 hjk hy] at h
 grind
theorem ke {l:List ak}{x:ak}(hx:x∈l):0<=bY l x.ID:=by
 grind [dv]
theorem nI {l:List ak}{f:Int}(h:0<=bY l f):∃y,l[(bY l f).toNat]? = some y/\y.ID=f/\y∈l/\eC l f=y.From:=by
 grind [xo,mR]
theorem rY {l:List ak}{f:Int}(h:bY l f<0):eC l f=0:=by
 grind [dv,vu]
theorem cb.vv {l:List ak}(h:cb l){f:Int}(hf:0<=bY l f):0<f/\f<=999/\0<=eC l f/\eC l f<f:=by
 obtain ⟨y,h1,h2,h3,h4⟩:=nI hf
 have w:=h.mem h3
 have:=w.id1;have:=w.P6;have:=w.P7;have:=w.P5
 omega
def chain (l:List ak)(f:Int):List Int :=
  if h:0<=bY l f/\0<f/\eC l f<f then f::chain l (eC l f) else []
termination_by f.toNat
decreasing_by omega
def above (l:List ak)(id:Int):List Int:=chain l (eC l id)
theorem rZ {l:List ak}(h:cb l){f:Int}(hf:0<=bY l f):chain l f=f::chain l (eC l f):=by
 have:=h.vv hf
 rw [chain,dif_pos ⟨hf,ae,ae⟩]
theorem FY {l:List ak}{f:Int}(hf:bY l f<0):chain l f=[]:=by
 rw [chain,dif_neg ae]
def K1 (id:Int)(acc:List Int)(x:ak):List Int:=if (x.From=id∨x.From∈acc)/\0<x.From then acc++[x.ID] else acc
def im (id:Int)(l:List ak):List Int:=l.foldl (K1 id) []
theorem DR {id:Int}{l:List ak}{k:Nat}{x:ak}{S:List Int}(hx:l[k]? = some x)(hS:∀z,z∈S↔z=id∨z∈im id (l.take k))(h:x.From∈S)(h0:0<x.From):im id (l.take (k+1))=im id (l.take k)++[x.ID]:=by
 simp_all [im,Option.toList,K1,List.take_add_one,List.foldl_append,List.foldl_cons,List.foldl_nil,if_pos]
theorem uu {id:Int}{l:List ak}{k:Nat}{x:ak}{S:List Int}(hx:l[k]? = some x)(hS:∀z,z∈S↔z=id∨z∈im id (l.take k))(h:¬ (x.From∈S/\0<x.From)):im id (l.take (k+1))=im id (l.take k):=by
 simp_all [im,Option.toList,K1,List.take_add_one,List.foldl_append,List.foldl_cons,List.foldl_nil,if_neg]
theorem K2 (id:Int)(l:List ak):(im id l).length<=l.length:=by
 have:∀ (l:List ak) (acc:List Int),(l.foldl (K1 id) acc).length<=acc.length+l.length:=by
  intro l
  induction l with
  | nil=>grind
  | cons x l ih =>
   grind [K1,id,List.length_cons]
 grind [im]
def up (l:List ak)(id f:Int):Int :=
  if h:0<f/\f≠id/\0<=bY l f/\eC l f<f then up l id (eC l f) else f
termination_by f.toNat
decreasing_by omega
theorem BN {l:List ak}(h:cb l){id f:Int}(h1:f≠id)(h2:0<=bY l f):up l id f=up l id (eC l f):=by
 have:=h.vv h2
 rw [up,dif_pos ⟨ae,h1,h2,ae⟩]
theorem pX {l:List ak}{id f:Int}(h:¬ 0<f∨f=id∨bY l f<0):up l id f=f:=by
 rw [up,dif_neg ae]
def Uf (l:List ak)(id:Int)(x:ak):Bool:=decide (up l id x.From=id)&&decide (0<id)
def r5 (l:List ak)(id:Int)(m:List ak):List Int:=(m.filter (Uf l id)).map ak.ID
theorem DT {l0:List ak}{id:Int}{l:List ak}{k:Nat}{x:ak}(hx:l[k]? = some x)(h:up l0 id x.From=id)(h0:0<id):r5 l0 id (l.take (k+1))=r5 l0 id (l.take k)++[x.ID]:=by
 grind [r5,Uf,List.take_add_one]
theorem qE {l0:List ak}{id:Int}{l:List ak}{k:Nat}{x:ak}(hx:l[k]? = some x)(h:¬ (up l0 id x.From=id/\0<id)):r5 l0 id (l.take (k+1))=r5 l0 id (l.take k):=by
 grind [r5,Uf,id,up,List.take_add_one,Bool.and_eq_false_iff]
theorem K3 (l0:List ak)(id:Int)(l:List ak):(r5 l0 id l).length<=l.length:=by grind [r5,List.length_filter_le]
def beneath (l:List ak)(id:Int):List Int:=r5 l id l
theorem K4 {l:List ak}(h:cb l)(id:Int):∀k,k<=l.length->im id (l.take k)=r5 l id (l.take k)
 | 0,_=>by rfl
 | k+1,hk=>by
  have ih:=K4 h id k ae
  have hx:l[k]? = some l[k]:=List.getElem?_eq_getElem ae
  have hS:∀z,z∈id::im id (l.take k)↔z=id∨z∈im id (l.take k):=fun z=>by simp
  have w:=s8 hx (h.steps k ae)
  have key:((l[k]).From∈id::im id (l.take k)/\0<(l[k]).From)↔(up l id (l[k]).From=id/\0<id):=by
   by_cases h0:(l[k]).From=0
   .grind [pX]
   have hpos:0<(l[k]).From:=by have:=w.P6;omega
   by_cases he:(l[k]).From=id
   .grind [pX]
   obtain ⟨j,y,hj,hy,hid,_,_⟩:=xu hx (h.steps k ae) h0
   have hym:y∈l:=List.mem_of_getElem? hy
   have hfi:0<=bY l (l[k]).From:=by rw [<- hid];exact ke hym
   rw [BN h he hfi]
   obtain ⟨y',_,hy2,hy3,hy4⟩:=nI hfi
   have:y'=y:=h.inj hy3 hym ae
   subst this
   rw [hy4,ih]
   have hmem:(l[k]).From∈r5 l id (l.take k)↔(up l id y'.From=id/\0<id):=by
    unfold r5
    simp only [List.mem_map,List.mem_filter,Uf,Bool.and_eq_true,decide_eq_true_eq]
    constructor
    .
     rintro ⟨z,⟨hz,hz2⟩,hz3⟩
     have:z=y':=h.inj (List.mem_of_mem_take hz) hy3 ae
     grind
    intro hh
    exact ⟨y',⟨List.mem_of_getElem? (i:=j) au,hh⟩,hid⟩
   grind
  by_cases hc:up l id (l[k]).From=id/\0<id
  .
   have:=key.2 hc
   rw [DR hx hS this.1 this.2,DT hx hc.1 hc.2,ih]
  grind [uu,qE]
theorem Ht {l:List ak}(h:cb l)(id:Int):im id l=beneath l id:=by
 have:=K4 h id l.length (Nat.le_refl _)
 grind [beneath,List.take_length]
theorem DU {l:List ak}(h:cb l){a:Int}(ha:0<=bY l a)(f:Int)(hf0:0<=f):up l a f=a↔a∈chain l f:=by
 have ha0:=h.vv ha
 by_cases he:f=a
 .subst he;rw [pX (.inr (.inl rfl)),rZ h ha];simp
 rcases Int.lt_or_le (bY l f) 0 with h1|h1
 .rw [pX (.inr (.inr h1)),FY h1];simp [he]
 have hf:=h.vv h1
 rw [BN h he h1,rZ h h1,DU h ha (eC l f) hf.2.2.1]
 simp [Ne.symm he]
termination_by f.toNat
decreasing_by omega
end
section
open Go.RowKit
structure Made (y x:ak):Prop where
  thing:y.av=x.av
  has:gj y.Rights x.Rights=true
  cB:y.aO=0∨x.aO=y.aO
  fI:y.ID=x.From
theorem NY {y x:ak}(h1:(derived y x.ID x.Rights x.aO).2=0)(h2:(derived y x.ID x.Rights x.aO).1=x):Made y x:=by
 unfold derived at h1 h2
 split at h1;· omega
 split at h1;· omega
 split at h1;· omega
 split at h1;· omega
 split at h1;· omega
 rename_i a b c d e
 rw [if_neg a,if_neg b,if_neg c,if_neg d,if_neg e] at h2
 have ht:=congrArg ak.av h2
 have hb:=congrArg ak.aO h2
 have hf:=congrArg ak.From h2
 simp only [] at ht hb hf
 refine ⟨ht,au,?_,hf⟩
 omega
theorem FZ {y x:ak}(w:Tj x)(h:Made y x):derived y x.ID x.Rights x.aO=(x,0):=by
 have:=w.P8;have:=w.P9;have:=w.Tm;have:=w.Tn
 unfold derived
 rw [if_neg (by grind [fT]),if_neg ae,if_neg ae,if_neg (by rw [h.has];simp),if_neg (by rintro ⟨h1,h2,h3⟩;rcases h.cB with h4|h4 <;> omega)]
 have hb:(if x.aO=0 then y.aO else x.aO)=x.aO:=by
  split
  .rcases h.cB with h4|h4 <;> omega
  rfl
 rw [hb,h.thing,h.fI]
theorem K5:∀a b c:Fin 8,gj ((a:Nat):Int) ((b:Nat):Int)=true->gj ((b:Nat):Int) ((c:Nat):Int)=true->gj ((a:Nat):Int) ((c:Nat):Int)=true:=aD
theorem WU {a b c:Int}(a0:0<=a)(a7:a<=7)(b0:0<=b)(b7:b<=7)(c0:0<=c)(c7:c<=7)(h:gj a b=true)(k:gj b c=true):gj a c=true:=by
 grind [KY,K5]
structure uv (l:List ak):Prop where
  ok:∀x∈l,cI x=0
  rise:l.Pairwise (fun x y=>x.ID<y.ID)
  made:∀x∈l,x.From≠0 -> ∃y∈l,Made y x
theorem cb.fault {l:List ak}(h:cb l){x:ak}(hx:x∈l):cI x=0:=by
 obtain ⟨j,hj⟩:=List.mem_iff_getElem?.1 hx
 rcases jM x with h1|h1
 .omega
 have:=ig hj ae;rw [h.steps j (List.getElem?_eq_some_iff.1 hj).1] at this;omega
theorem cb.is {l:List ak}(h:cb l):uv l:=by
 refine ⟨fun x hx=>h.fault hx,?_,fun x hx h0=>?_⟩
 .
  rw [List.pairwise_iff_getElem]
  intro i j hi hj hij
  exact h.rise j i hij (List.getElem?_eq_getElem hj) (List.getElem?_eq_getElem hi)
 obtain ⟨k,hk⟩:=List.mem_iff_getElem?.1 hx
 obtain ⟨j,y,hj,hy,_,h1,h2⟩:=xu hk (h.steps k (List.getElem?_eq_some_iff.1 hk).1) h0
 exact ⟨y,List.mem_of_getElem? hy,NY h1 h2⟩
theorem pY {l:List ak}(h:l.Pairwise (fun x y=>x.ID<y.ID)){i j:Nat}{x y:ak}(hi:l[i]? = some x)(hj:l[j]? = some y)(hij:i<j):x.ID<y.ID:=by
 grind [List.pairwise_iff_getElem,List.getElem?_eq_some_iff]
theorem uv.ok' {l:List ak}(h:uv l):cb l:=by
 refine pW fun k hk=>?_
 have hx:l[k]? = some l[k]:=List.getElem?_eq_getElem hk
 have hm:l[k]∈l:=List.getElem_mem hk
 have h0:=h.ok _ hm
 have w:=BL h0
 have hsh:¬ 0<k ∨ ∃y,l[k-1]? = some y/\y.ID<(l[k]).ID:=by
  by_cases h1:0<k
  .
   have hy:l[k-1]? = some (l[k-1]' ae):=List.getElem?_eq_getElem ae
   exact .inr ⟨_,hy,pY h.rise hy hx ae⟩
  omega
 by_cases hf:(l[k]).From=0
 .grind [xm]
 obtain ⟨y,hy,hmd⟩:=h.made _ hm hf
 obtain ⟨j,hj⟩:=List.mem_iff_getElem?.1 hy
 have hjl:j<l.length:=(List.getElem?_eq_some_iff.1 hj).1
 have hjk:j<k:=by
  rcases Nat.lt_trichotomy j k with h1|h1|h1
  .omega
  .
   subst h1;rw [hj] at hx;injection hx with hx
   have:=hmd.fI;have:=w.P7;grind
  have:=pY h.rise hx hj h1;have:=hmd.fI;have:=w.P7;omega
 have hfw:bY (l.take k) (l[k]).From=(j:Int):=by
  have hl:j<(l.take k).length:=au
  have hge:(l.take k)[j]=y:=by
   grind
  refine KZ hl (by rw [hge];exact hmd.fI) (fun i z hi hz=>?_)
  have hz':l[i]? = some z:=au
  have:=pY h.rise hz' hj hi
  have:=hmd.fI;omega
 rw [ij hx h0 hsh hf hfw hjk hj]
 grind [FZ]
theorem Af {l:List ak}(h:cb l){a b:Int}(ha:0<=bY l a)(hb:0<=bY l b):b∈im a l↔a∈above l b:=by
 rw [Ht h]
 have ha0:=h.vv ha
 have hb0:=h.vv hb
 unfold beneath r5 above
 rw [<- DU h ha _ hb0.2.2.1]
 simp only [List.mem_map,List.mem_filter,Uf,Bool.and_eq_true,decide_eq_true_eq]
 obtain ⟨y,_,hy2,hy3,hy4⟩:=nI hb
 constructor
 .
  rintro ⟨x,⟨hx,hu,_⟩,hid⟩
  have:x=y:=h.inj hx hy3 ae
  grind
 grind
theorem fM {l:List ak}{id:Int}{x:ak}:x∈without l id ↔ ∃y∈l,y.ID≠id/\x=lB id (eC l id) y:=by
 unfold without DJ
 grind
theorem kE {id f:Int}(x:ak):(lB id f x).ID=x.ID/\(lB id f x).av=x.av/\(lB id f x).Rights=x.Rights/\(lB id f x).aO=x.aO:=by unfold lB;grind
theorem uw {id f:Int}(x:ak):(lB id f x).From=if x.From=id then f else x.From:=by grind [lB]
theorem NZ {x:ak}(h:cI x=0){f:Int}(h0:0<=f)(h1:f<x.ID):cI { x with From:=f}=0:=by
 grind [BL,fG]
theorem N0 {id f:Int}{y x:ak}(h:Made y x)(hf:x.From≠id):Made (lB id f y) (lB id f x):=by
 have hy:=kE (id:=id) (f:=f) y
 have hx:=kE (id:=id) (f:=f) x
 refine ⟨by rw [hy.2.1,hx.2.1];exact h.thing,by rw [hy.2.2.1,hx.2.2.1];exact h.has,by rw [hy.2.2.2,hx.2.2.2];exact h.cB,?_⟩
 rw [hy.1,uw,if_neg hf];exact h.fI
theorem cb.wo {l:List ak}(h:cb l)(id:Int):cb (without l id):=by
 have hi:=h.is
 refine uv.ok' ⟨fun x hx=>?_,?_,fun x hx h0=>?_⟩
 .
  obtain ⟨y,hy,hne,rfl⟩:=fM.1 hx
  have YL:=hi.ok y hy
  unfold lB
  split
  .
   rename_i he
   have w:=BL YL
   have:=w.P6;have:=w.P7
   have hid:0<=eC l id/\(0<eC l id->eC l id<id):=by
    rcases Int.lt_or_le (bY l id) 0 with h1|h1
    .grind [rY]
    have:=h.vv h1;omega
   grind [NZ]
  omega
 .
  unfold without DJ
  rw [List.pairwise_map]
  refine (hi.rise.filter _).imp ?_
  grind [kE]
 obtain ⟨y,hy,hne,rfl⟩:=fM.1 hx
 rw [uw] at h0
 by_cases he:y.From=id
 .
  rw [if_pos he] at h0
  have hid:0<=bY l id:=by
   grind [Int.lt_or_le,rY]
  obtain ⟨p,_,hp2,hp3,YM⟩:=nI hid
  have YN:=h.vv hid
  obtain ⟨z,hz,Ug⟩:=hi.made p hp3 ae
  have hy0:y.From≠0:=ae
  obtain ⟨p',hp',hpy⟩:=hi.made y hy hy0
  have:p'=p:=h.inj hp' hp3 (by rw [hpy.fI,he,hp2])
  subst this
  have WV:z.ID≠id:=by have:=Ug.fI;omega
  refine ⟨lB id (eC l id) z,fM.2 ⟨z,hz,WV,rfl⟩,?_⟩
  have wz:=h.mem hz;have wp:=h.mem hp3;have wy:=h.mem hy
  have hz':=kE (id:=id) (f:=eC l id) z
  have hy':=kE (id:=id) (f:=eC l id) y
  refine ⟨by rw [hz'.2.1,hy'.2.1,Ug.thing,hpy.thing],by rw [hz'.2.2.1,hy'.2.2.1];exact WU wz.P8 wz.P9 wp.P8 wp.P9 wy.P8 wy.P9 Ug.has hpy.has,?_,?_⟩
  .
   rw [hz'.2.2.2,hy'.2.2.2]
   rcases Ug.cB with h1|h1
   .omega
   rcases hpy.cB with h2|h2
   .omega
   omega
  rw [hz'.1,uw,if_pos he,Ug.fI,YM]
 rw [if_neg he] at h0
 obtain ⟨p,hp,hpy⟩:=hi.made y hy h0
 exact ⟨lB id (eC l id) p,fM.2 ⟨p,hp,by rw [hpy.fI];omega,rfl⟩,N0 hpy he⟩
theorem K6 {l:List ak}(h:cb l)(id:Int):DK l id=without l id:=by
 unfold DK
 split
 .
  rename_i h1
  unfold without DJ
  rw [rY h1]
  have:∀x∈l.filter (fun x=>decide (x.ID≠id)),lB id 0 x=x:=by
   intro x hx
   have hxl:=(List.mem_filter.1 hx).1
   unfold lB;split
   .
    rename_i he
    by_cases h0:x.From=0
    .cases x;grind
    obtain ⟨y,hy,hm⟩:=h.is.made x hxl h0
    have:=ke hy;rw [hm.fI,he] at this;omega
   rfl
  exact (List.map_congr_left this).trans (List.map_id' _) |>.symm
 rfl
end
section
open Go.RowKit
def hasT? (l:List ak)(t:Int):Bool:=l.any (fun x=>x.av==t)
def ea (l:List ak):Nat->List Int
  | 0=>[]
  | n+1=>if hasT? l ((n+1:Nat):Int) then ea l n++[((n+1:Nat):Int)] else ea l n
def DV (l:List ak):List Int:=ea l 999
theorem ta (l:List ak):∀n,(ea l n).length<=n
 | 0=>by simp [ea]
 | n+1=>by
  have:=ta l n
  simp only [ea];split
  .simp;omega
  omega
theorem BO {l:List ak}{n:Nat}{t:Int}{x:ak}{j:Nat}(hn:0<n)(ht:t=(n:Int))(hx:l[j]? = some x)(h:x.av=t):ea l n=ea l (n-1)++[t]:=by
 obtain ⟨m,rfl⟩:∃m,n=m+1:=⟨n-1,ae⟩
 simp only [ea,Nat.add_sub_cancel]
 have:hasT? l ((m+1:Nat):Int)=true:=by
  grind [hasT?,List.any_eq_true,List.mem_of_getElem?]
 grind
theorem zD {l:List ak}{n:Nat}(hn:0<n)(h:∀ (j:Nat) x,j<l.length->l[j]? = some x->¬ x.av=(n:Int)):ea l n=ea l (n-1):=by
 obtain ⟨m,rfl⟩:∃m,n=m+1:=⟨n-1,ae⟩
 simp only [ea,Nat.add_sub_cancel]
 have:hasT? l ((m+1:Nat):Int)=false:=by
  grind [hasT?,List.any_eq_false,List.mem_iff_getElem?,List.getElem?_eq_some_iff]
 grind
end
end Go.Proofs.YtnmpibjlnninjaaGreatDoor
section
set_option maxRecDepth 100000
namespace Go.Proofs
open Go.Shelf
def Tryz.lays189_ren:Go.Shelf.Ren:=⟨fun|189=>202|125=>205|257=>239|128=>248|129=>249|294=>273|295=>274|296=>275|297=>276|298=>277|299=>278|216=>279|300=>280|301=>281|328=>303|329=>283|330=>284|331=>304|332=>305|215=>306|343=>315|n=>n,fun|28=>110|3=>3|46=>183|0=>0|51=>236|53=>33|4=>4|183=>277|182=>276|131=>201|5=>5|9=>9|218=>308|222=>312|228=>329|229=>330|n=>n,fun|n=>n⟩
theorem Tryz.lays189:Go.Proofs.Lays.n189 Tryz.prog Tryz.lays189_ren:={
 mixed:=by kernel_rfl
 f125:=Tryz.func205.trans (congrArg some (by kernel_rfl))
 f128:=Tryz.func248.trans (congrArg some (by kernel_rfl))
 f129:=Tryz.func249.trans (congrArg some (by kernel_rfl))
 f189:=Tryz.func202.trans (congrArg some (by kernel_rfl))
 f215:=Tryz.func306.trans (congrArg some (by kernel_rfl))
 f216:=Tryz.func279.trans (congrArg some (by kernel_rfl))
 f257:=Tryz.func239.trans (congrArg some (by kernel_rfl))
 f294:=Tryz.func273.trans (congrArg some (by kernel_rfl))
 f295:=Tryz.func274.trans (congrArg some (by kernel_rfl))
 f296:=Tryz.func275.trans (congrArg some (by kernel_rfl))
 f297:=Tryz.func276.trans (congrArg some (by kernel_rfl))
 f298:=Tryz.func277.trans (congrArg some (by kernel_rfl))
 f299:=Tryz.func278.trans (congrArg some (by kernel_rfl))
 f300:=Tryz.func280.trans (congrArg some (by kernel_rfl))
 f301:=Tryz.func281.trans (congrArg some (by kernel_rfl))
 f328:=Tryz.func303.trans (congrArg some (by kernel_rfl))
 f329:=Tryz.func283.trans (congrArg some (by kernel_rfl))
 f330:=Tryz.func284.trans (congrArg some (by kernel_rfl))
 f331:=Tryz.func304.trans (congrArg some (by kernel_rfl))
 f332:=Tryz.func305.trans (congrArg some (by kernel_rfl))
 f343:=Tryz.func315.trans (congrArg some (by kernel_rfl))
 t0:=Tryz.underlying0
 a0:=Tryz.isAgg0
 z0:=Tryz.sizeOf0
 v0:=Tryz.zeroValue0
 t3:=Tryz.underlying3
 a3:=Tryz.isAgg3
 z3:=Tryz.sizeOf3
 v3:=Tryz.zeroValue3
 t4:=Tryz.underlying4
 a4:=Tryz.isAgg4
 z4:=Tryz.sizeOf4
 v4:=Tryz.zeroValue4
 t5:=Tryz.underlying5
 a5:=Tryz.isAgg5
 z5:=Tryz.sizeOf5
 v5:=Tryz.zeroValue5
 t9:=Tryz.underlying9
 a9:=Tryz.isAgg9
 z9:=Tryz.sizeOf9
 v9:=Tryz.zeroValue9
 t28:=Tryz.underlying110
 a28:=Tryz.isAgg110
 z28:=Tryz.sizeOf110
 v28:=Tryz.zeroValue110
 t46:=Tryz.underlying183
 a46:=Tryz.isAgg183
 z46:=Tryz.sizeOf183
 v46:=Tryz.zeroValue183
 t51:=Tryz.underlying236
 a51:=Tryz.isAgg236
 z51:=Tryz.sizeOf236
 v51:=Tryz.zeroValue236
 t53:=Tryz.underlying33
 a53:=Tryz.isAgg33
 z53:=Tryz.sizeOf33
 v53:=Tryz.zeroValue33
 t131:=Tryz.underlying201
 a131:=Tryz.isAgg201
 z131:=Tryz.sizeOf201
 v131:=Tryz.zeroValue201
 t182:=Tryz.underlying276
 a182:=Tryz.isAgg276
 z182:=Tryz.sizeOf276
 v182:=Tryz.zeroValue276
 t183:=Tryz.underlying277
 a183:=Tryz.isAgg277
 z183:=Tryz.sizeOf277
 v183:=Tryz.zeroValue277
 t218:=Tryz.underlying308
 a218:=Tryz.isAgg308
 z218:=Tryz.sizeOf308
 v218:=Tryz.zeroValue308
 t222:=Tryz.underlying312
 a222:=Tryz.isAgg312
 z222:=Tryz.sizeOf312
 v222:=Tryz.zeroValue312
 t228:=Tryz.underlying329
 a228:=Tryz.isAgg329
 z228:=Tryz.sizeOf329
 v228:=Tryz.zeroValue329
 t229:=Tryz.underlying330
 a229:=Tryz.isAgg330
 z229:=Tryz.sizeOf330
 v229:=Tryz.zeroValue330}
def Tryz.laysNm220_ren:Go.Shelf.Ren:=⟨fun|20=>203|n=>n,fun|22=>110|3=>3|4=>4|0=>0|n=>n,fun|n=>n⟩
theorem Tryz.laysNm220:Go.Proofs.Lays2.n20 Tryz.prog Tryz.laysNm220_ren:={
 mixed:=by kernel_rfl
 f20:=Tryz.func203.trans (congrArg some (by kernel_rfl))
 t0:=Tryz.underlying0
 a0:=Tryz.isAgg0
 z0:=Tryz.sizeOf0
 v0:=Tryz.zeroValue0
 t3:=Tryz.underlying3
 a3:=Tryz.isAgg3
 z3:=Tryz.sizeOf3
 v3:=Tryz.zeroValue3
 t4:=Tryz.underlying4
 a4:=Tryz.isAgg4
 z4:=Tryz.sizeOf4
 v4:=Tryz.zeroValue4
 t22:=Tryz.underlying110
 a22:=Tryz.isAgg110
 z22:=Tryz.sizeOf110
 v22:=Tryz.zeroValue110
 i3:=by kernel_rfl}
open Go.Sort Go.RowKit in
theorem Tryz.slices_Sort_int (blk off cap:Nat)(zs:List Int)(w:World)(hH:Holds (Value.int .i64) w blk off zs.toArray)(hblk:blk<w.heap.size)(hsz:zs.length<4611686018427387904) :
    Calls Tryz.prog 202 #[.slice (some ⟨blk,off,none⟩) zs.length cap] w fun e w' =>
      e = .returned (.tuple #[]) /\ ∃n os,w'=grow (putRow (Value.int .i64) (Sort.ahead w n) blk off (zs.mergeSort fun x y=>decide (x<=y)).toArray) os:=Any.slices_Sort_int Tryz.lays189 blk off cap zs w hH hblk hsz
open Go.RowKit Go.Lib Go.Sort in
theorem Tryz.slices_Compact_int (blk off cap:Nat)(zs:List Int)(w:World)(hH:Holds (Value.int .i64) w blk off zs.toArray)(hsz:zs.length<=9223372036854775807)(hcap:zs.length<=cap) :
    Calls Tryz.prog 203 #[.slice (some ⟨blk,off,none⟩) zs.length cap] w fun e w'=>e = .returned (.slice (some ⟨blk,off,none⟩) (Lib.compact zs).length cap) /\ ∃q,w'=putRow (Value.int .i64) (Sort.ahead w q) blk off (Lib.compact zs++List.replicate (zs.length-(Lib.compact zs).length) 0).toArray:=Any.slices_Compact_int Tryz.laysNm220 blk off cap zs w hH hsz hcap
open Go.RowKit Go.Lib Go.Sort in
theorem Tryz.slices_Compact_int_empty (a:Option Addr)(cap:Nat)(w:World) :
    Calls Tryz.prog 203 #[.slice a 0 cap] w fun e w'=>e = .returned (.slice a 0 cap)/\w'=w:=Any.slices_Compact_int_empty Tryz.laysNm220 a cap w
open Go.RowKit Go.Sort in
theorem Tryz.slices_Sort_int_none (p:Option Addr)(cap:Nat)(w:World) :
    Calls Tryz.prog 202 #[.slice p 0 cap] w fun e w'=>e = .returned (.tuple #[])/\w'=w:=Any.slices_Sort_int_none Tryz.lays189 p cap w
end Go.Proofs
end
namespace Go.Proofs.YtnmpibjlnninjaaGreatDoor
set_option linter.unusedVariables false
set_option linter.unusedSimpArgs false
set_option maxRecDepth 100000
set_option maxHeartbeats 90000000
section
open Go Go.RowKit Go.Sort
def pA (l:List Int):List Int:=l.mergeSort fun x y=>decide (x<=y)
theorem ux (l:List Int):l.flatMap Enc.cells=l.map (Value.int .i64):=by
 induction l with
 | nil=>rfl
 | cons x l ih=>rw [List.flatMap_cons,ih];rfl
theorem xw {w:World}{g cap n m:Nat}{os:Array Obj}{l ts zs:List Int}{v:Value}(hv:v = .slice (some ⟨g,0,none⟩) l.length cap)(how:Own 0 3 w v l)(hl:ts.length=l.length)(hz:zs=ts.take m)(hm:m<=l.length) :
 Turned [ah.row 3 v l] [ah.row 3 (.slice (some ⟨g,0,none⟩) m cap) zs] w (grow (putRow (Value.int .i64) (Sort.ahead w n) g 0 ts.toArray) os):=by
 obtain ⟨hlen,hn|⟨g',cap',cur,hv',_,hgg,hnc,hcm,hcs,htk⟩⟩:=how
 .grind
 rw [hv] at hv'
 simp only [Value.slice.injEq,Option.some.injEq,Addr.mk.injEq,and_true,true_and] at hv'
 obtain ⟨rfl,rfl⟩:=hv'
 have h3:cur.size=cap*1:=hcs
 have hgb:=grownBy_sortedI (w:=w) (g:=g) (n:=n) (os:=os) ts.toArray
 have hz2:zs.length=m:=au
 have hown:Own 0 3 (grow (putRow (Value.int .i64) (Sort.ahead w n) g 0 ts.toArray) os) (.slice (some ⟨g,0,none⟩) m cap) zs:=by
  have h:=ownsRow_sortedI (w:=w) (base:=0) (n:=n) (os:=os) (ss:=l) (ts:=ts) hl (Nat.zero_le _) hgg hnc hcm h3
  obtain ⟨h1,h2|⟨g2,c2,Uh,e2,b2,hg2,n2,m2,s2,t2⟩⟩:=h
  .grind
  simp only [Value.slice.injEq,Option.some.injEq,Addr.mk.injEq,and_true,true_and] at e2
  obtain ⟨rfl,rfl⟩:=e2
  refine ⟨by rw [dL],.inr ⟨g,cap,Uh,au,Nat.zero_le _,hg2,ae,hcm,s2,?_⟩⟩
  show Uh.toList.take (zs.length*1)=_
  rw [ux,hz2,Nat.mul_one,hz,List.map_take,<- t2,List.take_take,Nat.mul_one,Nat.min_eq_left hm]
 have hlt:g<w.heap.size:=(Array.getElem?_eq_some_iff.1 hgg).1
 refine ⟨⟨hgb.os,hgb.tape,hgb.output,hgb.size,fun k hk hx=>hgb.block k hk (fun e=>hx ?_)⟩,?_,?_,fun k hk=>?_⟩
 .grind [blks,ah.row,eA]
 .intro r hr;simp at hr;subst hr;exact hown
 .simp [blks,ah.row,eA]
 simp [blks,ah.row,eA] at hk;subst hk
 exact ⟨Nat.lt_of_lt_of_le hlt hgb.size,.inl (by grind [blks,ah.row,eA])⟩
theorem Turned.refl {B0:List ah}{w:World}(h:Hnd B0 w):Turned B0 B0 w w:=⟨lL.refl _ _,h.ok,h.sep,fun k hk=>⟨h.lt k hk,.inl hk⟩⟩
theorem K7 (v:Value)(l:List Int)(w:World)(H:Hnd [ah.row 3 v l] w)(hl:l.length<=1000000):Calls Tryz.prog 202 [v].toArray w fun e w' => ∃_z:Unit,e = .returned (.tuple #[])/\Turned [ah.row 3 v l] [ah.row 3 v (pA l)] w w':=by
 have how:Own 0 3 w v l:=H.ok (ah.row 3 v l) (List.mem_singleton.2 rfl)
 have hs:(pA l).length=l.length:=List.length_mergeSort l
 rcases how.2 with ⟨rfl,h0⟩ | ⟨g,cap,cur,hv,_,hgg,hnc,hcm,hcs,htk⟩
 .
  have:l=[]:=List.eq_nil_of_length_eq_zero h0
  subst this
  refine (Tryz.slices_Sort_int_none none 0 w).mono ?_
  rintro e w' ⟨rfl,rfl⟩
  have e0:pA []=[]:=au
  rw [e0]
  exact ⟨(),rfl,Turned.refl H⟩
 have hH:=holds_of_blockI (ss:=l) hgg (by simp_all [Enc.k,ux])
 rw [hv]
 refine (Tryz.slices_Sort_int g 0 cap l w hH (Array.getElem?_eq_some_iff.1 hgg).1 ae).mono ?_
 rintro e w' ⟨rfl,n,os,rfl⟩
 refine ⟨(),rfl,?_⟩
 simp_all [pA,xw,List.take_of_length_le,Nat.le_refl]
theorem DW (v:Value)(l:List Int)(w:World)(H:Hnd [ah.row 3 v l] w)(hl:l.length<=1000000):Calls Tryz.prog 203 [v].toArray w fun e w' => ∃z:Value,e = .returned z/\Turned [ah.row 3 v l] [ah.row 3 z (Lib.compact l)] w w':=by
 have how:Own 0 3 w v l:=H.ok (ah.row 3 v l) (List.mem_singleton.2 rfl)
 rcases how.2 with ⟨rfl,h0⟩ | ⟨g,cap,cur,hv,_,hgg,hnc,hcm,hcs,htk⟩
 .
  have:l=[]:=List.eq_nil_of_length_eq_zero h0
  subst this
  refine (Tryz.slices_Compact_int_empty none 0 w).mono ?_
  rintro e w' ⟨rfl,rfl⟩
  exact ⟨_,rfl,Turned.refl H⟩
 have hH:=holds_of_blockI (ss:=l) hgg (by simp_all [Enc.k,ux])
 have hc:(Lib.compact l).length<=l.length:=by
  grind [Lib.compact,Lib.compactUpTo,List.length_map,Nat.le_trans,List.length_filter_le]
 rw [hv]
 refine (Tryz.slices_Compact_int g 0 cap l w hH ae hnc).mono ?_
 rintro e w' ⟨rfl,n,rfl⟩
 refine ⟨_,rfl,?_⟩
 have:=xw (os:= #[]) (n:=n) (ts:=Lib.compact l++List.replicate (l.length-(Lib.compact l).length) 0) (zs:=Lib.compact l) (m:=(Lib.compact l).length) hv how au bC hc
 simp_all
end
section
open Go.RowKit
theorem Hu:∀ (a b:List Int),a.Pairwise (· < ·)->b.Pairwise (· < ·)->(∀x,x∈a↔x∈b)->a=b
 | [],[],_,_,_=>rfl
 | [],y::b,_,_,h=>by have:=(h y).2 bC;simp at this
 | x::a,[],_,_,h=>by have:=(h x).1 bC;simp at this
 | x::a,y::b,ha,hb,h=>by
  obtain ⟨ha1,ha2⟩:=List.pairwise_cons.1 ha
  obtain ⟨hb1,hb2⟩:=List.pairwise_cons.1 hb
  have hxy:x=y:=by
   have h1:x=y∨x∈b:=by simpa using (h x).1 bC
   have h2:y=x∨y∈a:=by simpa using (h y).2 bC
   rcases h1 with h1|h1
   .exact h1
   rcases h2 with h2|h2
   .exact h2.symm
   have:=hb1 x h1;have:=ha1 y h2;omega
  subst hxy
  congr 1
  refine Hu a b ha2 hb2 fun z=>?_
  constructor
  .
   intro hz
   have h1:z=x∨z∈b:=by simpa using (h z).1 (by simp [hz])
   rcases h1 with h1|h1
   .have:=ha1 z hz;omega
   exact h1
  intro hz
  have h1:z=x∨z∈a:=by simpa using (h z).2 (by simp [hz])
  rcases h1 with h1|h1
  .have:=hb1 z hz;omega
  exact h1
theorem td {zs:List Int}(hs:zs.Pairwise (· <= ·)):∀m,m<=zs.length->(Lib.compactUpTo zs.toArray m).Pairwise (· < ·) /\ ∀x,x∈Lib.compactUpTo zs.toArray m ↔ ∃j,j<m/\zs[j]? = some x
 | 0,_=>by simp [Lib.compactUpTo]
 | m+1,hm=>by
  obtain ⟨ih1,ih2⟩:=td hs m ae
  have hz:zs[m]? = some zs[m]:=List.getElem?_eq_getElem ae
  have hd:zs.toArray[m]! = zs[m]:=au
  rw [Lib.compactUpTo_succ,hd]
  have hle:∀j x,j<m->zs[j]? = some x->x<=zs[m]:=fun j x hj hx=>by
   grind [List.getElem?_eq_some_iff,List.pairwise_iff_getElem]
  by_cases hk:Lib.keeps zs.toArray m=true
  .
   rw [if_pos hk]
   have hlt:∀x∈Lib.compactUpTo zs.toArray m,x<zs[m]:=fun x hx=>by
    obtain ⟨j,hj,hxj⟩:=(ih2 x).1 hx
    have h1:=hle j x hj hxj
    simp only [Lib.keeps,decide_eq_true_eq] at hk
    rcases hk with hk|hk
    .omega
    have hd1:zs.toArray[m-1]! = zs[m-1]:=au
    rw [hd,hd1] at hk
    have h2:x<=zs[m-1]:=by
     obtain ⟨h3,rfl⟩:=List.getElem?_eq_some_iff.1 hxj
     rcases Nat.lt_or_ge j (m-1) with h4|h4
     .grind [List.pairwise_iff_getElem]
     grind
    grind
   grind
  rw [if_neg hk,List.append_nil]
  refine ⟨ih1,fun x=>?_⟩
  rw [ih2]
  simp only [Lib.keeps,decide_eq_true_eq] at hk
  grind
theorem mS (l:List ak):∀n,(ea l n).Pairwise (· < ·) /\ ∀x,x∈ea l n↔1<=x/\x<=(n:Int)/\hasT? l x=true
 | 0=>by simp [ea];omega
 | n+1=>by
  obtain ⟨h1,h2⟩:=mS l n
  simp only [ea]
  split
  .
   rename_i hh
   refine ⟨List.pairwise_append.2 ⟨h1,bC,fun a ha b hb=>by simp at hb;subst hb;have:=(h2 a).1 ha;omega⟩,fun x=>?_⟩
   rw [List.mem_append,h2]
   constructor
   .
    rintro (⟨a,b,c⟩ | h)
    .exact ⟨a,ae,c⟩
    simp at h;subst h;exact ⟨ae,ae,hh⟩
   rintro ⟨a,b,c⟩
   by_cases e:x<=(n:Int)
   .exact .inl ⟨a,e,c⟩
   right;simp;omega
  rename_i hh
  refine ⟨h1,fun x=>?_⟩
  rw [h2]
  constructor
  .rintro ⟨a,b,c⟩;exact ⟨a,ae,c⟩
  rintro ⟨a,b,c⟩
  refine ⟨a,?_,c⟩
  by_cases e:x<=(n:Int)
  .exact e
  have:x=((n+1:Nat):Int):=ae
  rw [this] at c;exact absurd c hh
theorem uy {l:List ak}(h:cb l):Lib.compact (pA (l.map ak.av))=DV l:=by
 have hs:(pA (l.map ak.av)).Pairwise (· <= ·):=by
  have:=List.pairwise_mergeSort (le:=fun x y:Int=>decide (x<=y)) (fun a b c=>by grind) (fun a b=>by grind) (l.map ak.av)
  exact this.imp bC
 obtain ⟨h1,h2⟩:=td hs _ (Nat.le_refl _)
 obtain ⟨h3,h4⟩:=mS l 999
 refine Hu _ _ h1 h3 fun x=>?_
 show x∈Lib.compactUpTo _ _↔x∈ea l 999
 rw [h2,h4]
 have hm:(∃j,j<(pA (l.map ak.av)).length/\(pA (l.map ak.av))[j]? = some x)↔x∈l.map ak.av:=by
  rw [<- List.mem_mergeSort (le:=fun x y:Int=>decide (x<=y)) (l:=l.map ak.av)]
  constructor
  .rintro ⟨j,_,hx⟩;exact List.mem_of_getElem? hx
  intro hx
  obtain ⟨j,hj⟩:=List.mem_iff_getElem?.1 hx
  exact ⟨j,(List.getElem?_eq_some_iff.1 hj).1,hj⟩
 rw [hm]
 simp only [List.mem_map,hasT?,List.any_eq_true,beq_iff_eq]
 constructor
 .
  rintro ⟨y,hy,rfl⟩
  have w:=h.mem hy
  have:=w.Tk;have:=w.Tl
  grind
 grind
end
section
theorem jz {α:Type}(p:α->Bool)(l:List α):(idxOf p l = -1 /\ ∀x∈l,p x=false) ∨ ∃ (k:Nat) (x:α),idxOf p l=k/\l[k]? = some x/\p x=true/\(∀ (j:Nat) y,j<k->l[j]? = some y->p y=false)/\k<l.length:=by
 unfold idxOf
 cases h:l.findIdx? p with
 | none=>grind
 | some k =>
  grind [List.findIdx?_eq_some_iff_getElem,List.getElem?_eq_getElem,List.getElem?_eq_some_iff]
section
variable {α:Type} {p:α->Bool} {l acc:List α} {i j k:Nat} {x:α}
theorem xx (h:∀x∈l,p x=false):l.filter (fun x => !p x)=l:=List.filter_eq_self.2 (fun x hx=>by grind)
def pE (p:α->Bool)(l acc:List α)(i j:Nat):Prop:=i<=j/\j<=l.length/\acc.length=l.length/\acc.take i=(l.take j).filter (fun x => !p x)/\acc.drop j=l.drop j
theorem pE.start (hx:l[k]? = some x)(hp:p x=true)(hb:∀ (j:Nat) y,j<k->l[j]? = some y->p y=false):pE p l l k (k+1):=by
 have hk:=(List.getElem?_eq_some_iff.1 hx).1
 refine ⟨ae,ae,rfl,?_,rfl⟩
 rw [List.take_add_one,hx,List.filter_append]
 grind [List.filter_eq_self,List.mem_iff_getElem?]
theorem pE.at (h:pE p l acc i j):acc[j]? = l[j]?:=by
 have:=congrArg (·[0]?) h.2.2.2.2
 grind
theorem pE.skip (h:pE p l acc i j)(hx:acc[j]? = some x)(hp:p x=true):pE p l acc i (j+1):=by
 rw [h.at] at hx
 have hk:=(List.getElem?_eq_some_iff.1 hx).1
 obtain ⟨h1,h2,h3,h4,h5⟩:=h
 refine ⟨ae,ae,h3,?_,?_⟩
 .grind [List.take_add_one]
 rw [<- List.drop_drop,<- List.drop_drop,h5]
theorem pE.keep (h:pE p l acc i j)(hx:acc[j]? = some x)(hp:p x=false):pE p l (acc.set i x) (i+1) (j+1):=by
 rw [h.at] at hx
 have hk:=(List.getElem?_eq_some_iff.1 hx).1
 obtain ⟨h1,h2,h3,h4,h5⟩:=h
 refine ⟨ae,ae,au,?_,?_⟩
 .
  rw [List.take_add_one (l:=l),hx,List.filter_append,<- h4,List.take_add_one,List.getElem?_set_self ae,List.take_set_of_le (Nat.le_refl _)]
  grind
 rw [List.drop_set_of_lt ae,<- List.drop_drop,<- List.drop_drop,h5]
theorem pE.done (h:pE p l acc i j)(hj:¬ j<l.length){z:α}{m:Nat}:l.filter (fun x => !p x)=(acc.take i++List.replicate m z).take i:=by
 obtain ⟨h1,h2,h3,h4,h5⟩:=h
 grind
end
end
end Go.Proofs.YtnmpibjlnninjaaGreatDoor
