import Derived.Test.YtbkfhjaibhnkmaaGreatDoorIMS1
import Derived.Laws.BitsAllLaws
section
namespace Go.Proofs.YtbkfhjaibhnkmaaGreatDoor
open Go.RowKit
set_option linter.unusedVariables false
def dH (r:Int):Int:=if r<0 then 1 else if 7<r then 1 else 0
theorem fE {r:Int}(h0:0≤r)(h7:r≤7):dH r=0:=by unfold dH;rw [if_neg (by omega),if_neg (by omega)]
theorem jF {r:Int}(h:r<0∨7<r):dH r=1:=by unfold dH;split;rfl;rw [if_pos (by omega)]
theorem fN (r:Int):(dH r=1∧(r<0∨7<r))∨(dH r=0∧0≤r∧r≤7):=by
 by_cases h:r<0∨7<r
 ·exact .inl ⟨jF h,h⟩
 ·exact .inr ⟨fE (by omega) (by omega),by omega,by omega⟩
def fF (r need:Int):Bool:=(r.toNat &&& need.toNat)==need.toNat
def hasB (r need:Int):Bool:= !(need % 2==1&&r % 2==0) && !(need / 2 % 2==1&&r / 2 % 2==0) && !(need / 4 % 2==1&&r / 4 % 2==0)
theorem Bh:∀r n:Fin 8,hasB ((r:Nat):Int) ((n:Nat):Int)=fF ((r:Nat):Int) ((n:Nat):Int):=by decide
theorem rk {r:Int}(h0:0≤r)(h7:r≤7):∃x:Fin 8,r=((x:Nat):Int):=⟨⟨r.toNat,by omega⟩,by simp;omega⟩
theorem fT {r n:Int}(r0:0≤r)(r7:r≤7)(n0:0≤n)(n7:n≤7):hasB r n=fF r n:=by
 obtain ⟨x,rfl⟩:=rk r0 r7;obtain ⟨y,rfl⟩:=rk n0 n7;exact Bh x y
theorem gT {r n:Int}(h:(n % 2=1∧r % 2=0)∨(n / 2 % 2=1∧r / 2 % 2=0)∨(n / 4 % 2=1∧r / 4 % 2=0)):hasB r n=false:=by
 unfold hasB
 rcases h with ⟨a,b⟩ | ⟨a,b⟩ | ⟨a,b⟩ <;> simp [a,b]
theorem hD {r n:Int}(h0:¬(n % 2=1∧r % 2=0))(h1:¬ (n / 2 % 2=1∧r / 2 % 2=0))(h2:¬ (n / 4 % 2=1∧r / 4 % 2=0)):hasB r n=true:=by
 unfold hasB;simp only [Bool.and_eq_true,Bool.not_eq_true',Bool.and_eq_false_iff,beq_eq_false_iff_ne]
 refine ⟨⟨?_,?_⟩,?_⟩ <;> omega
def cM (w:ak):Int :=
  if w.ID<1 then 1 else if 999<w.ID then 1 else if w.ao<1 then 1 else if 999<w.ao then 1 else if w.aI<0 then 1 else if 99<w.aI then 1 else
  if w.From<0 then 1 else if w.ID≤w.From then 1 else dH w.Rights
theorem fk (x:ak):(cM x=1∧(x.ID<1∨999<x.ID∨x.ao<1∨999<x.ao∨x.aI<0∨99<x.aI∨x.From<0∨x.ID≤x.From∨x.Rights<0∨7<x.Rights)) ∨
 (cM x=0∧1≤x.ID∧x.ID≤999∧1≤x.ao∧x.ao≤999∧0≤x.aI∧x.aI≤99∧0≤x.From∧x.From<x.ID∧0≤x.Rights∧x.Rights≤7):=by
 unfold cM dH;(repeat' split) <;> first|(left;exact ⟨rfl,by omega⟩)|(right;exact ⟨rfl,by omega⟩)
def gO:ak:=⟨0,0,0,0,0⟩
def derived (w:ak)(id rights aJ:Int):ak×Int :=
  if dH rights=1 then (gO,1) else if aJ<0 then (gO,1) else if 99<aJ then (gO,1) else
  if fF w.Rights rights=false then (gO,7) else
  if aJ≠0∧w.aI≠0∧aJ≠w.aI then (gO,7) else
  (⟨id,w.ao,rights,if aJ=0 then w.aI else aJ,w.ID⟩,0)
def cB (l:List ak)(id:Int):Int:=match l.findIdx? (fun w=>w.ID==id) with|some i=>i|none => -1
theorem dR (l:List ak)(id:Int):(cB l id = -1 ∧ ∀x∈l,¬ x.ID=id) ∨ ∃ (k:Nat) (h:k<l.length),cB l id=k∧l[k].ID=id ∧ ∀j (hj:j<k),¬ (l[j]'(by omega)).ID=id:=by
 unfold cB
 cases h:l.findIdx? (fun w=>w.ID==id) with
 | none =>
  left
  refine ⟨rfl,fun x hx=>?_⟩
  have:=List.findIdx?_eq_none_iff.1 h x hx
  simpa using this
 | some k =>
  right
  obtain ⟨hk,h1,h2⟩:=List.findIdx?_eq_some_iff_getElem.1 h
  exact ⟨k,hk,rfl,by simpa using h1,fun j hj=>by simpa using h2 j hj⟩
theorem Bi {l:List ak}{id:Int}{k:Nat}(hk:k<l.length)(h1:l[k].ID=id)(h2:∀j x,j<k→l[j]? = some x→¬ x.ID=id):cB l id=k:=by
 unfold cB
 rw [List.findIdx?_eq_some_iff_getElem.2 ⟨hk,by simpa using h1,fun j hj=>by
  have:=h2 j l[j] hj (List.getElem?_eq_getElem (by omega));simpa using this⟩]
end Go.Proofs.YtbkfhjaibhnkmaaGreatDoor
end
section
namespace Go.Proofs.YtbkfhjaibhnkmaaGreatDoor
open Go.RowKit
set_option linter.unusedVariables false
theorem s6 (a:Nat)(ha:a<9223372036854775808):(BitVec.ofInt 64 (a:Int)).toNat=a:=by
 rw [BitVec.ofInt_natCast,BitVec.toNat_ofNat];exact Nat.mod_eq_of_lt (by omega)
theorem vu (a b:Nat)(ha:a<9223372036854775808)(hb:b<9223372036854775808):bits .and .i64 (a:Int) (b:Int)=((a &&& b:Nat):Int):=by
 have hx:a &&& b<2 ^ 63:=Nat.and_lt_two_pow _ (by omega)
 show IntKind.i64.wrap ((BitVec.ofInt 64 (a:Int) &&& BitVec.ofInt 64 (b:Int)).toNat:Int)=_
 rw [BitVec.toNat_and,s6 a ha,s6 b hb,IntKind.wrap_i64]
 omega
theorem yz {r n:Int}{b:Bool}(r0:0≤r)(r7:r≤7)(n0:0≤n)(n7:n≤7)(h:(bits .and .i64 r n==n)=b):b=fF r n:=by
 rw [← h]
 obtain ⟨a,rfl⟩:=Int.eq_ofNat_of_zero_le r0
 obtain ⟨b,rfl⟩:=Int.eq_ofNat_of_zero_le n0
 rw [vu a b (by omega) (by omega)]
 unfold fF
 simp only [Int.toNat_natCast]
 rw [Bool.eq_iff_iff];simp only [beq_iff_eq];omega
theorem lU {r:Int}(h:dH r=0):0≤r∧r≤7:=by
 rcases fN r with ⟨h1,_⟩ | ⟨_,h2⟩
 ·omega
 ·exact h2
theorem bX {r:Int}(h:¬ dH r=0):dH r=1:=by
 rcases fN r with ⟨h1,_⟩ | ⟨h1,_⟩
 ·exact h1
 ·exact absurd h1 h
theorem eJ {x:ak}(h:x.ID<1∨999<x.ID∨x.ao<1∨999<x.ao∨x.aI<0∨99<x.aI∨x.From<0∨x.ID≤x.From∨x.Rights<0∨7<x.Rights):cM x=1:=by
 rcases fk x with ⟨h1,_⟩ | ⟨_,h2⟩
 ·exact h1
 ·omega
theorem lr {x:ak}(h:1≤x.ID∧x.ID≤999∧1≤x.ao∧x.ao≤999∧0≤x.aI∧x.aI≤99∧0≤x.From∧x.From<x.ID∧0≤x.Rights∧x.Rights≤7):cM x=0:=by
 rcases fk x with ⟨_,h2⟩ | ⟨h1,_⟩
 ·omega
 ·exact h1
theorem rl {x:ak}(h:1≤x.ID∧x.ID≤999∧1≤x.ao∧x.ao≤999∧0≤x.aI∧x.aI≤99∧0≤x.From∧x.From<x.ID):cM x=dH x.Rights:=by
 rcases fN x.Rights with ⟨h1,h2⟩ | ⟨h1,h2⟩
 ·rw [h1,eJ (by omega)]
 ·rw [h1,lr (by omega)]
theorem nL {x:ak}{id r b:Int}(h:¬ dH r=0):derived x id r b=(gO,1):=by
 have:dH r=1:=by rcases fN r with ⟨h1,_⟩ | ⟨h1,_⟩;exact h1;exact absurd h1 h
 unfold derived;rw [if_pos this]
theorem fm {x:ak}{id r b:Int}(h:r<0∨7<r∨b<0∨99<b):derived x id r b=(gO,1):=by
 by_cases h1:dH r=0
 ·
  have:=lU h1
  unfold derived;rw [if_neg (by rw [h1];decide)];split;rfl;rw [if_pos (by omega)]
 ·exact nL h1
theorem lu {x:ak}{id r b:Int}(h:0≤r∧r≤7∧0≤b∧b≤99)(hh:fF x.Rights r=false):derived x id r b=(gO,7):=by
 unfold derived;rw [if_neg (by rw [fE h.1 h.2.1];decide),if_neg (by omega),if_neg (by omega),if_pos hh]
theorem lv {x:ak}{id r b:Int}(h:0≤r∧r≤7∧0≤b∧b≤99)(hh:fF x.Rights r=true)(hc:¬ b=0∧¬ x.aI=0∧¬ b=x.aI):derived x id r b=(gO,7):=by
 unfold derived;rw [if_neg (by rw [fE h.1 h.2.1];decide),if_neg (by omega),if_neg (by omega),if_neg (by rw [hh];decide),if_pos hc]
theorem jG {x:ak}{id r b:Int}(h:0≤r∧r≤7∧0≤b∧b≤99)(hh:fF x.Rights r=true)(hc:b=0):derived x id r b=(⟨id,x.ao,r,x.aI,x.ID⟩,0):=by
 unfold derived;rw [if_neg (by rw [fE h.1 h.2.1];decide),if_neg (by omega),if_neg (by omega),if_neg (by rw [hh];decide),if_neg (by omega),if_pos hc]
theorem jH {x:ak}{id r b:Int}(h:0≤r∧r≤7∧0≤b∧b≤99)(hh:fF x.Rights r=true)(hc:¬ b=0)(hc2:x.aI=0∨b=x.aI):derived x id r b=(⟨id,x.ao,r,b,x.ID⟩,0):=by
 unfold derived;rw [if_neg (by rw [fE h.1 h.2.1];decide),if_neg (by omega),if_neg (by omega),if_neg (by rw [hh];decide),if_neg (by omega),if_neg hc]
theorem iE {x:ak}{id r b:Int}(h:0≤r∧r≤7∧0≤b∧b≤99)(hh:fF x.Rights r=true)(hc:¬ x.aI=0)(hc2:b=0∨b=x.aI):derived x id r b=(⟨id,x.ao,r,x.aI,x.ID⟩,0):=by
 by_cases hb:b=0
 ·exact jG h hh hb
 ·rw [jH h hh hb (by omega),show b=x.aI by omega]
def idxOf {α:Type}(p:α→Bool)(l:List α):Int:=match l.findIdx? p with|some i=>i|none => -1
theorem idxOf_hit {α:Type}{p:α→Bool}{l:List α}{k:Nat}{x:α}(hk:l[k]? = some x)(h1:p x=true)(h2:∀ (j:Nat) x,j<k→l[j]? = some x→p x=false):idxOf p l=k:=by
 obtain ⟨hk',rfl⟩:=List.getElem?_eq_some_iff.1 hk
 unfold idxOf
 rw [List.findIdx?_eq_some_iff_getElem.2 ⟨hk',h1,fun j hj=>by
  have:=h2 j l[j] hj (List.getElem?_eq_getElem (by omega));simp [this]⟩]
theorem idxOf_miss {α:Type}{p:α→Bool}{l:List α}{k:Nat}(hk:¬ k<l.length)(h:∀ (j:Nat) x,j<k→l[j]? = some x→p x=false):idxOf p l = -1:=by
 unfold idxOf
 rw [List.findIdx?_eq_none_iff.2 (fun x hx=>by obtain ⟨j,hj⟩:=List.mem_iff_getElem?.1 hx;exact h j x (by have:=(List.getElem?_eq_some_iff.1 hj).1;omega) hj)]
theorem s7 (l:List ak)(id:Int):cB l id=idxOf (fun x=>x.ID==id) l:=rfl
theorem hG {α:Type}{p:α→Bool}{l:List α}{k:Nat}{x:α}(h:∀ (j:Nat) x,j<k→l[j]? = some x→p x=false)(hx:l[k]? = some x)(hp:p x=false):∀ (j:Nat) x,j<k+1→l[j]? = some x→p x=false:=by
 intro j y hj hy
 rcases Nat.lt_or_ge j k with h1|h1
 ·exact h j y h1 hy
 ·
  have:j=k:=by omega
  subst this;rw [hx] at hy;injection hy with hy;subst hy;exact hp
end Go.Proofs.YtbkfhjaibhnkmaaGreatDoor
end
