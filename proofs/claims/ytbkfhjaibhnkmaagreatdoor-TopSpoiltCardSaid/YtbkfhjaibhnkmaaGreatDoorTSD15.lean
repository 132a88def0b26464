import Derived.Test.YtbkfhjaibhnkmaaGreatDoorTSD1
import Derived.Laws.BitsAllLaws
section
namespace Go.Proofs.YtbkfhjaibhnkmaaGreatDoor
open Go.RowKit
set_option linter.unusedVariables false
def cu (r:Int):Int:=if r<0 then 1 else if 7<r then 1 else 0
theorem dK {r:Int}(h0:0≤r)(h7:r≤7):cu r=0:=by unfold cu;rw [if_neg (by omega),if_neg (by omega)]
theorem gp {r:Int}(h:r<0∨7<r):cu r=1:=by unfold cu;split;rfl;rw [if_pos (by omega)]
theorem eV (r:Int):(cu r=1∧(r<0∨7<r))∨(cu r=0∧0≤r∧r≤7):=by
 by_cases h:r<0∨7<r
 ·exact .inl ⟨gp h,h⟩
 ·exact .inr ⟨dK (by omega) (by omega),by omega,by omega⟩
def fB (r need:Int):Bool:=(r.toNat &&& need.toNat)==need.toNat
theorem sB {r:Int}(h0:0≤r)(h7:r≤7):∃x:Fin 8,r=((x:Nat):Int):=⟨⟨r.toNat,by omega⟩,by simp;omega⟩
def bK (w:aj):Int :=
  if w.ID<1 then 1 else if 999<w.ID then 1 else if w.ah<1 then 1 else if 999<w.ah then 1 else if w.aG<0 then 1 else if 99<w.aG then 1 else
  if w.From<0 then 1 else if w.ID≤w.From then 1 else cu w.Rights
theorem eE (x:aj):(bK x=1∧(x.ID<1∨999<x.ID∨x.ah<1∨999<x.ah∨x.aG<0∨99<x.aG∨x.From<0∨x.ID≤x.From∨x.Rights<0∨7<x.Rights)) ∨
 (bK x=0∧1≤x.ID∧x.ID≤999∧1≤x.ah∧x.ah≤999∧0≤x.aG∧x.aG≤99∧0≤x.From∧x.From<x.ID∧0≤x.Rights∧x.Rights≤7):=by
 unfold bK cu;(repeat' split) <;> first|(left;exact ⟨rfl,by omega⟩)|(right;exact ⟨rfl,by omega⟩)
def fS:aj:=⟨0,0,0,0,0⟩
def derived (w:aj)(id rights bB:Int):aj×Int :=
  if cu rights=1 then (fS,1) else if bB<0 then (fS,1) else if 99<bB then (fS,1) else
  if fB w.Rights rights=false then (fS,7) else
  if bB≠0∧w.aG≠0∧bB≠w.aG then (fS,7) else
  (⟨id,w.ah,rights,if bB=0 then w.aG else bB,w.ID⟩,0)
def bL (l:List aj)(id:Int):Int:=match l.findIdx? (fun w=>w.ID==id) with|some i=>i|none => -1
theorem dO (l:List aj)(id:Int):(bL l id = -1 ∧ ∀x∈l,¬ x.ID=id) ∨ ∃ (k:Nat) (h:k<l.length),bL l id=k∧l[k].ID=id ∧ ∀j (hj:j<k),¬ (l[j]'(by omega)).ID=id:=by
 unfold bL
 cases h:l.findIdx? (fun w=>w.ID==id) with
 | none =>
  left
  refine ⟨rfl,fun x hx=>?_⟩
  have:=List.findIdx?_eq_none_iff.1 h x hx
  simpa using this
 | some k =>
  right
  obtain ⟨hk,h1,h2⟩:=List.findIdx?_eq_some_iff_getElem.1 h
  exact ⟨k,hk,rfl,by simpa using h1,fun j hj=>by simpa using h2 j hj⟩
theorem wt {l:List aj}{id:Int}{k:Nat}(hk:k<l.length)(h1:l[k].ID=id)(h2:∀j x,j<k→l[j]? = some x→¬ x.ID=id):bL l id=k:=by
 unfold bL
 rw [List.findIdx?_eq_some_iff_getElem.2 ⟨hk,by simpa using h1,fun j hj=>by
  have:=h2 j l[j] hj (List.getElem?_eq_getElem (by omega));simpa using this⟩]
end Go.Proofs.YtbkfhjaibhnkmaaGreatDoor
end
section
namespace Go.Proofs.YtbkfhjaibhnkmaaGreatDoor
open Go.RowKit
set_option linter.unusedVariables false
theorem pN (a:Nat)(ha:a<9223372036854775808):(BitVec.ofInt 64 (a:Int)).toNat=a:=by
 rw [BitVec.ofInt_natCast,BitVec.toNat_ofNat];exact Nat.mod_eq_of_lt (by omega)
theorem q8 (a b:Nat)(ha:a<9223372036854775808)(hb:b<9223372036854775808):bits .and .i64 (a:Int) (b:Int)=((a &&& b:Nat):Int):=by
 have hx:a &&& b<2 ^ 63:=Nat.and_lt_two_pow _ (by omega)
 show IntKind.i64.wrap ((BitVec.ofInt 64 (a:Int) &&& BitVec.ofInt 64 (b:Int)).toNat:Int)=_
 rw [BitVec.toNat_and,pN a ha,pN b hb,IntKind.wrap_i64]
 omega
theorem tW {r n:Int}{b:Bool}(r0:0≤r)(r7:r≤7)(n0:0≤n)(n7:n≤7)(h:(bits .and .i64 r n==n)=b):b=fB r n:=by
 rw [← h]
 obtain ⟨a,rfl⟩:=Int.eq_ofNat_of_zero_le r0
 obtain ⟨b,rfl⟩:=Int.eq_ofNat_of_zero_le n0
 rw [q8 a b (by omega) (by omega)]
 unfold fB
 simp only [Int.toNat_natCast]
 rw [Bool.eq_iff_iff];simp only [beq_iff_eq];omega
theorem jT {r:Int}(h:cu r=0):0≤r∧r≤7:=by
 rcases eV r with ⟨h1,_⟩ | ⟨_,h2⟩
 ·omega
 ·exact h2
theorem bN {r:Int}(h:¬ cu r=0):cu r=1:=by
 rcases eV r with ⟨h1,_⟩ | ⟨h1,_⟩
 ·exact h1
 ·exact absurd h1 h
theorem dj {x:aj}(h:x.ID<1∨999<x.ID∨x.ah<1∨999<x.ah∨x.aG<0∨99<x.aG∨x.From<0∨x.ID≤x.From∨x.Rights<0∨7<x.Rights):bK x=1:=by
 rcases eE x with ⟨h1,_⟩ | ⟨_,h2⟩
 ·exact h1
 ·omega
theorem jC {x:aj}(h:1≤x.ID∧x.ID≤999∧1≤x.ah∧x.ah≤999∧0≤x.aG∧x.aG≤99∧0≤x.From∧x.From<x.ID∧0≤x.Rights∧x.Rights≤7):bK x=0:=by
 rcases eE x with ⟨_,h2⟩ | ⟨h1,_⟩
 ·omega
 ·exact h1
theorem dn {x:aj}(h:1≤x.ID∧x.ID≤999∧1≤x.ah∧x.ah≤999∧0≤x.aG∧x.aG≤99∧0≤x.From∧x.From<x.ID):bK x=cu x.Rights:=by
 rcases eV x.Rights with ⟨h1,h2⟩ | ⟨h1,h2⟩
 ·rw [h1,dj (by omega)]
 ·rw [h1,jC (by omega)]
theorem cF {x:aj}{id r b:Int}(h:¬ cu r=0):derived x id r b=(fS,1):=by
 have:cu r=1:=by rcases eV r with ⟨h1,_⟩ | ⟨h1,_⟩;exact h1;exact absurd h1 h
 unfold derived;rw [if_pos this]
theorem dt {x:aj}{id r b:Int}(h:r<0∨7<r∨b<0∨99<b):derived x id r b=(fS,1):=by
 by_cases h1:cu r=0
 ·
  have:=jT h1
  unfold derived;rw [if_neg (by rw [h1];decide)];split;rfl;rw [if_pos (by omega)]
 ·exact cF h1
theorem cM {x:aj}{id r b:Int}(h:0≤r∧r≤7∧0≤b∧b≤99)(hh:fB x.Rights r=false):derived x id r b=(fS,7):=by
 unfold derived;rw [if_neg (by rw [dK h.1 h.2.1];decide),if_neg (by omega),if_neg (by omega),if_pos hh]
theorem cO {x:aj}{id r b:Int}(h:0≤r∧r≤7∧0≤b∧b≤99)(hh:fB x.Rights r=true)(hc:¬ b=0∧¬ x.aG=0∧¬ b=x.aG):derived x id r b=(fS,7):=by
 unfold derived;rw [if_neg (by rw [dK h.1 h.2.1];decide),if_neg (by omega),if_neg (by omega),if_neg (by rw [hh];decide),if_pos hc]
theorem cG {x:aj}{id r b:Int}(h:0≤r∧r≤7∧0≤b∧b≤99)(hh:fB x.Rights r=true)(hc:b=0):derived x id r b=(⟨id,x.ah,r,x.aG,x.ID⟩,0):=by
 unfold derived;rw [if_neg (by rw [dK h.1 h.2.1];decide),if_neg (by omega),if_neg (by omega),if_neg (by rw [hh];decide),if_neg (by omega),if_pos hc]
theorem cI {x:aj}{id r b:Int}(h:0≤r∧r≤7∧0≤b∧b≤99)(hh:fB x.Rights r=true)(hc:¬ b=0)(hc2:x.aG=0∨b=x.aG):derived x id r b=(⟨id,x.ah,r,b,x.ID⟩,0):=by
 unfold derived;rw [if_neg (by rw [dK h.1 h.2.1];decide),if_neg (by omega),if_neg (by omega),if_neg (by rw [hh];decide),if_neg (by omega),if_neg hc]
theorem cQ {x:aj}{id r b:Int}(h:0≤r∧r≤7∧0≤b∧b≤99)(hh:fB x.Rights r=true)(hc:¬ x.aG=0)(hc2:b=0∨b=x.aG):derived x id r b=(⟨id,x.ah,r,x.aG,x.ID⟩,0):=by
 by_cases hb:b=0
 ·exact cG h hh hb
 ·rw [cI h hh hb (by omega),show b=x.aG by omega]
def idxOf {α:Type}(p:α→Bool)(l:List α):Int:=match l.findIdx? p with|some i=>i|none => -1
theorem idxOf_hit {α:Type}{p:α→Bool}{l:List α}{k:Nat}{x:α}(hk:l[k]? = some x)(h1:p x=true)(h2:∀ (j:Nat) x,j<k→l[j]? = some x→p x=false):idxOf p l=k:=by
 obtain ⟨hk',rfl⟩:=List.getElem?_eq_some_iff.1 hk
 unfold idxOf
 rw [List.findIdx?_eq_some_iff_getElem.2 ⟨hk',h1,fun j hj=>by
  have:=h2 j l[j] hj (List.getElem?_eq_getElem (by omega));simp [this]⟩]
theorem idxOf_miss {α:Type}{p:α→Bool}{l:List α}{k:Nat}(hk:¬ k<l.length)(h:∀ (j:Nat) x,j<k→l[j]? = some x→p x=false):idxOf p l = -1:=by
 unfold idxOf
 rw [List.findIdx?_eq_none_iff.2 (fun x hx=>by obtain ⟨j,hj⟩:=List.mem_iff_getElem?.1 hx;exact h j x (by have:=(List.getElem?_eq_some_iff.1 hj).1;omega) hj)]
theorem jc {α:Type}{p:α→Bool}{l:List α}{k:Nat}{x:α}(h:∀ (j:Nat) x,j<k→l[j]? = some x→p x=false)(hx:l[k]? = some x)(hp:p x=false):∀ (j:Nat) x,j<k+1→l[j]? = some x→p x=false:=by
 intro j y hj hy
 rcases Nat.lt_or_ge j k with h1|h1
 ·exact h j y h1 hy
 ·
  have:j=k:=by omega
  subst this;rw [hx] at hy;injection hy with hy;subst hy;exact hp
end Go.Proofs.YtbkfhjaibhnkmaaGreatDoor
end
