import Derived.Test.YtpipachmngdegaaGreatRSP2
import Derived.Laws.BitsAllLaws
section
namespace Go.Proofs.YtpipachmngdegaaGreat
open Go.RowKit
set_option linter.unusedVariables false
def cW (r:Int):Int:=if r<0 then 1 else if 7<r then 1 else 0
theorem dG {r:Int}(h0:0≤r)(h7:r≤7):cW r=0:=by unfold cW;rw [if_neg (by omega),if_neg (by omega)]
theorem fM {r:Int}(h:r<0∨7<r):cW r=1:=by unfold cW;split;rfl;rw [if_pos (by omega)]
theorem eR (r:Int):(cW r=1∧(r<0∨7<r))∨(cW r=0∧0≤r∧r≤7):=by
  by_cases h:r<0∨7<r
  · exact .inl ⟨fM h,h⟩
  · exact .inr ⟨dG (by omega) (by omega),by omega,by omega⟩
def cT (r need:Int):Bool:=(r.toNat &&& need.toNat)==need.toNat
def hasB (r need:Int):Bool:= !(need % 2==1&&r % 2==0) && !(need / 2 % 2==1&&r / 2 % 2==0) && !(need / 4 % 2==1&&r / 4 % 2==0)
theorem sZ:∀r n:Fin 8,hasB ((r:Nat):Int) ((n:Nat):Int)=cT ((r:Nat):Int) ((n:Nat):Int):=by decide
theorem ml {r:Int}(h0:0≤r)(h7:r≤7):∃x:Fin 8,r=((x:Nat):Int):=⟨⟨r.toNat,by omega⟩,by simp;omega⟩
theorem ez {r n:Int}(r0:0≤r)(r7:r≤7)(n0:0≤n)(n7:n≤7):hasB r n=cT r n:=by
  obtain ⟨x,rfl⟩:=ml r0 r7;obtain ⟨y,rfl⟩:=ml n0 n7;exact sZ x y
theorem dk {r n:Int}(h:(n % 2=1∧r % 2=0)∨(n / 2 % 2=1∧r / 2 % 2=0)∨(n / 4 % 2=1∧r / 4 % 2=0)):hasB r n=false:=by
  unfold hasB
  rcases h with ⟨a,b⟩ | ⟨a,b⟩ | ⟨a,b⟩ <;> simp [a,b]
theorem dF {r n:Int}(h0:¬(n % 2=1∧r % 2=0))(h1:¬ (n / 2 % 2=1∧r / 2 % 2=0))(h2:¬ (n / 4 % 2=1∧r / 4 % 2=0)):hasB r n=true:=by
  unfold hasB;simp only [Bool.and_eq_true,Bool.not_eq_true',Bool.and_eq_false_iff,beq_eq_false_iff_ne]
  refine ⟨⟨?_,?_⟩,?_⟩ <;> omega
def cK (w:ao):Int :=
  if w.ID<1 then 1 else if 999<w.ID then 1 else if w.ai<1 then 1 else if 999<w.ai then 1 else if w.ar<0 then 1 else if 99<w.ar then 1 else
  if w.From<0 then 1 else if w.ID≤w.From then 1 else cW w.Rights
theorem eC (x:ao):(cK x=1∧(x.ID<1∨999<x.ID∨x.ai<1∨999<x.ai∨x.ar<0∨99<x.ar∨x.From<0∨x.ID≤x.From∨x.Rights<0∨7<x.Rights)) ∨
    (cK x=0∧1≤x.ID∧x.ID≤999∧1≤x.ai∧x.ai≤999∧0≤x.ar∧x.ar≤99∧0≤x.From∧x.From<x.ID∧0≤x.Rights∧x.Rights≤7):=by
  unfold cK cW;(repeat' split) <;> first|(left;exact ⟨rfl,by omega⟩)|(right;exact ⟨rfl,by omega⟩)
def e7:ao:=⟨0,0,0,0,0⟩
def derived (w:ao)(id rights aC:Int):ao×Int :=
  if cW rights=1 then (e7,1) else if aC<0 then (e7,1) else if 99<aC then (e7,1) else
  if cT w.Rights rights=false then (e7,7) else
  if aC≠0∧w.ar≠0∧aC≠w.ar then (e7,7) else
  (⟨id,w.ai,rights,if aC=0 then w.ar else aC,w.ID⟩,0)
def cb (l:List ao)(id:Int):Int:=match l.findIdx? (fun w=>w.ID==id) with|some i=>i|none => -1
theorem dm (l:List ao)(id:Int):(cb l id = -1 ∧ ∀x∈l,¬ x.ID=id) ∨ ∃ (k:Nat) (h:k<l.length),cb l id=k∧l[k].ID=id ∧ ∀j (hj:j<k),¬ (l[j]'(by omega)).ID=id:=by
  unfold cb
  cases h:l.findIdx? (fun w=>w.ID==id) with
  | none =>
    left
    refine ⟨rfl,fun x hx=>?_⟩
    have:=List.findIdx?_eq_none_iff.1 h x hx
    simpa using this
  | some k =>
    right
    obtain ⟨hk,h1,h2⟩:=List.findIdx?_eq_some_iff_getElem.1 h
    exact ⟨k,hk,rfl,by simpa using h1,fun j hj=>by simpa using h2 j hj⟩
theorem s3 {l:List ao}{id:Int}{k:Nat}(hk:k<l.length)(h1:l[k].ID=id)(h2:∀j x,j<k→l[j]? = some x→¬ x.ID=id):cb l id=k:=by
  unfold cb
  rw [List.findIdx?_eq_some_iff_getElem.2 ⟨hk,by simpa using h1,fun j hj=>by
    have:=h2 j l[j] hj (List.getElem?_eq_getElem (by omega));simpa using this⟩]
end Go.Proofs.YtpipachmngdegaaGreat
end
section
namespace Go.Proofs.YtpipachmngdegaaGreat
open Go.RowKit
set_option linter.unusedVariables false
theorem nz (a:Nat)(ha:a<9223372036854775808):(BitVec.ofInt 64 (a:Int)).toNat=a:=by
  rw [BitVec.ofInt_natCast,BitVec.toNat_ofNat];exact Nat.mod_eq_of_lt (by omega)
theorem oU (a b:Nat)(ha:a<9223372036854775808)(hb:b<9223372036854775808):bits .and .i64 (a:Int) (b:Int)=((a &&& b:Nat):Int):=by
  have hx:a &&& b<2 ^ 63:=Nat.and_lt_two_pow _ (by omega)
  show IntKind.i64.wrap ((BitVec.ofInt 64 (a:Int) &&& BitVec.ofInt 64 (b:Int)).toNat:Int)=_
  rw [BitVec.toNat_and,nz a ha,nz b hb,IntKind.wrap_i64]
  omega
theorem qX {r n:Int}{b:Bool}(r0:0≤r)(r7:r≤7)(n0:0≤n)(n7:n≤7)(h:(bits .and .i64 r n==n)=b):b=cT r n:=by
  rw [← h]
  obtain ⟨a,rfl⟩:=Int.eq_ofNat_of_zero_le r0
  obtain ⟨b,rfl⟩:=Int.eq_ofNat_of_zero_le n0
  rw [oU a b (by omega) (by omega)]
  unfold cT
  simp only [Int.toNat_natCast]
  rw [Bool.eq_iff_iff];simp only [beq_iff_eq];omega
theorem i9 {r:Int}(h:cW r=0):0≤r∧r≤7:=by
  rcases eR r with ⟨h1,_⟩ | ⟨_,h2⟩
  · omega
  · exact h2
theorem aR {r:Int}(h:¬ cW r=0):cW r=1:=by
  rcases eR r with ⟨h1,_⟩ | ⟨h1,_⟩
  · exact h1
  · exact absurd h1 h
theorem kJ {x:ao}(h:1≤x.ID∧x.ID≤999∧1≤x.ai∧x.ai≤999∧0≤x.ar∧x.ar≤99∧0≤x.From∧x.From<x.ID∧0≤x.Rights∧x.Rights≤7):cK x=0:=by
  rcases eC x with ⟨_,h2⟩ | ⟨h1,_⟩
  · omega
  · exact h1
theorem br {x:ao}{id r b:Int}(h:¬ cW r=0):derived x id r b=(e7,1):=by
  have:cW r=1:=by rcases eR r with ⟨h1,_⟩ | ⟨h1,_⟩;exact h1;exact absurd h1 h
  unfold derived;rw [if_pos this]
theorem bL {x:ao}{id r b:Int}(h:r<0∨7<r∨b<0∨99<b):derived x id r b=(e7,1):=by
  by_cases h1:cW r=0
  ·
    have:=i9 h1
    unfold derived;rw [if_neg (by rw [h1];decide)];split;rfl;rw [if_pos (by omega)]
  · exact br h1
theorem bA {x:ao}{id r b:Int}(h:0≤r∧r≤7∧0≤b∧b≤99)(hh:cT x.Rights r=false):derived x id r b=(e7,7):=by
  unfold derived;rw [if_neg (by rw [dG h.1 h.2.1];decide),if_neg (by omega),if_neg (by omega),if_pos hh]
theorem bB {x:ao}{id r b:Int}(h:0≤r∧r≤7∧0≤b∧b≤99)(hh:cT x.Rights r=true)(hc:¬ b=0∧¬ x.ar=0∧¬ b=x.ar):derived x id r b=(e7,7):=by
  unfold derived;rw [if_neg (by rw [dG h.1 h.2.1];decide),if_neg (by omega),if_neg (by omega),if_neg (by rw [hh];decide),if_pos hc]
theorem bu {x:ao}{id r b:Int}(h:0≤r∧r≤7∧0≤b∧b≤99)(hh:cT x.Rights r=true)(hc:b=0):derived x id r b=(⟨id,x.ai,r,x.ar,x.ID⟩,0):=by
  unfold derived;rw [if_neg (by rw [dG h.1 h.2.1];decide),if_neg (by omega),if_neg (by omega),if_neg (by rw [hh];decide),if_neg (by omega),if_pos hc]
theorem bz {x:ao}{id r b:Int}(h:0≤r∧r≤7∧0≤b∧b≤99)(hh:cT x.Rights r=true)(hc:¬ b=0)(hc2:x.ar=0∨b=x.ar):derived x id r b=(⟨id,x.ai,r,b,x.ID⟩,0):=by
  unfold derived;rw [if_neg (by rw [dG h.1 h.2.1];decide),if_neg (by omega),if_neg (by omega),if_neg (by rw [hh];decide),if_neg (by omega),if_neg hc]
theorem bC {x:ao}{id r b:Int}(h:0≤r∧r≤7∧0≤b∧b≤99)(hh:cT x.Rights r=true)(hc:¬ x.ar=0)(hc2:b=0∨b=x.ar):derived x id r b=(⟨id,x.ai,r,x.ar,x.ID⟩,0):=by
  by_cases hb:b=0
  · exact bu h hh hb
  · rw [bz h hh hb (by omega),show b=x.ar by omega]
def idxOf {α:Type}(p:α→Bool)(l:List α):Int:=match l.findIdx? p with|some i=>i|none => -1
theorem idxOf_hit {α:Type}{p:α→Bool}{l:List α}{k:Nat}{x:α}(hk:l[k]? = some x)(h1:p x=true)(h2:∀ (j:Nat) x,j<k→l[j]? = some x→p x=false):idxOf p l=k:=by
  obtain ⟨hk',rfl⟩:=List.getElem?_eq_some_iff.1 hk
  unfold idxOf
  rw [List.findIdx?_eq_some_iff_getElem.2 ⟨hk',h1,fun j hj=>by
    have:=h2 j l[j] hj (List.getElem?_eq_getElem (by omega));simp [this]⟩]
theorem idxOf_miss {α:Type}{p:α→Bool}{l:List α}{k:Nat}(hk:¬ k<l.length)(h:∀ (j:Nat) x,j<k→l[j]? = some x→p x=false):idxOf p l = -1:=by
  unfold idxOf
  rw [List.findIdx?_eq_none_iff.2 (fun x hx=>by obtain ⟨j,hj⟩:=List.mem_iff_getElem?.1 hx;exact h j x (by have:=(List.getElem?_eq_some_iff.1 hj).1;omega) hj)]
theorem nA (l:List ao)(id:Int):cb l id=idxOf (fun x=>x.ID==id) l:=rfl
theorem fA {α:Type}{p:α→Bool}{l:List α}{k:Nat}{x:α}(h:∀ (j:Nat) x,j<k→l[j]? = some x→p x=false)(hx:l[k]? = some x)(hp:p x=false):∀ (j:Nat) x,j<k+1→l[j]? = some x→p x=false:=by
  intro j y hj hy
  rcases Nat.lt_or_ge j k with h1|h1
  · exact h j y h1 hy
  ·
    have:j=k:=by omega
    subst this;rw [hx] at hy;injection hy with hy;subst hy;exact hp
end Go.Proofs.YtpipachmngdegaaGreat
end
