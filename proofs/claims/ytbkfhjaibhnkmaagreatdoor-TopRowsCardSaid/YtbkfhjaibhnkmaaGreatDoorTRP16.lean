import Derived.Test.YtbkfhjaibhnkmaaGreatDoorTRP1
import Derived.Laws.BitsAllLaws
section
namespace Go.Proofs.YtbkfhjaibhnkmaaGreatDoor
open Go.RowKit
set_option linter.unusedVariables false
def bW (r:Int):Int:=if r<0 then 1 else if 7<r then 1 else 0
theorem dz {r:Int}(h0:0≤r)(h7:r≤7):bW r=0:=by unfold bW;rw [if_neg (by omega),if_neg (by omega)]
theorem fJ {r:Int}(h:r<0∨7<r):bW r=1:=by unfold bW;split;rfl;rw [if_pos (by omega)]
theorem eC (r:Int):(bW r=1∧(r<0∨7<r))∨(bW r=0∧0≤r∧r≤7):=by
  by_cases h:r<0∨7<r
  · exact .inl ⟨fJ h,h⟩
  · exact .inr ⟨dz (by omega) (by omega),by omega,by omega⟩
def eY (r need:Int):Bool:=(r.toNat &&& need.toNat)==need.toNat
theorem qQ {r:Int}(h0:0≤r)(h7:r≤7):∃x:Fin 8,r=((x:Nat):Int):=⟨⟨r.toNat,by omega⟩,by simp;omega⟩
def bB (w:ak):Int :=
  if w.ID<1 then 1 else if 999<w.ID then 1 else if w.ai<1 then 1 else if 999<w.ai then 1 else if w.ar<0 then 1 else if 99<w.ar then 1 else
  if w.From<0 then 1 else if w.ID≤w.From then 1 else bW w.Rights
theorem ea (x:ak):(bB x=1∧(x.ID<1∨999<x.ID∨x.ai<1∨999<x.ai∨x.ar<0∨99<x.ar∨x.From<0∨x.ID≤x.From∨x.Rights<0∨7<x.Rights)) ∨
    (bB x=0∧1≤x.ID∧x.ID≤999∧1≤x.ai∧x.ai≤999∧0≤x.ar∧x.ar≤99∧0≤x.From∧x.From<x.ID∧0≤x.Rights∧x.Rights≤7):=by
  unfold bB bW;(repeat' split) <;> first|(left;exact ⟨rfl,by omega⟩)|(right;exact ⟨rfl,by omega⟩)
def fm:ak:=⟨0,0,0,0,0⟩
def derived (w:ak)(id rights aT:Int):ak×Int :=
  if bW rights=1 then (fm,1) else if aT<0 then (fm,1) else if 99<aT then (fm,1) else
  if eY w.Rights rights=false then (fm,7) else
  if aT≠0∧w.ar≠0∧aT≠w.ar then (fm,7) else
  (⟨id,w.ai,rights,if aT=0 then w.ar else aT,w.ID⟩,0)
def bC (l:List ak)(id:Int):Int:=match l.findIdx? (fun w=>w.ID==id) with|some i=>i|none => -1
theorem dB (l:List ak)(id:Int):(bC l id = -1 ∧ ∀x∈l,¬ x.ID=id) ∨ ∃ (k:Nat) (h:k<l.length),bC l id=k∧l[k].ID=id ∧ ∀j (hj:j<k),¬ (l[j]'(by omega)).ID=id:=by
  unfold bC
  cases h:l.findIdx? (fun w=>w.ID==id) with
  | none =>
    left
    refine ⟨rfl,fun x hx=>?_⟩
    have:=List.findIdx?_eq_none_iff.1 h x hx
    simpa using this
  | some k =>
    right
    obtain ⟨hk,h1,h2⟩:=List.findIdx?_eq_some_iff_getElem.1 h
    exact ⟨k,hk,rfl,by simpa using h1,fun j hj=>by simpa using h2 j hj⟩
theorem uV {l:List ak}{id:Int}{k:Nat}(hk:k<l.length)(h1:l[k].ID=id)(h2:∀j x,j<k→l[j]? = some x→¬ x.ID=id):bC l id=k:=by
  unfold bC
  rw [List.findIdx?_eq_some_iff_getElem.2 ⟨hk,by simpa using h1,fun j hj=>by
    have:=h2 j l[j] hj (List.getElem?_eq_getElem (by omega));simpa using this⟩]
end Go.Proofs.YtbkfhjaibhnkmaaGreatDoor
end
section
namespace Go.Proofs.YtbkfhjaibhnkmaaGreatDoor
open Go.RowKit
set_option linter.unusedVariables false
theorem oB (a:Nat)(ha:a<9223372036854775808):(BitVec.ofInt 64 (a:Int)).toNat=a:=by
  rw [BitVec.ofInt_natCast,BitVec.toNat_ofNat];exact Nat.mod_eq_of_lt (by omega)
theorem pU (a b:Nat)(ha:a<9223372036854775808)(hb:b<9223372036854775808):bits .and .i64 (a:Int) (b:Int)=((a &&& b:Nat):Int):=by
  have hx:a &&& b<2 ^ 63:=Nat.and_lt_two_pow _ (by omega)
  show IntKind.i64.wrap ((BitVec.ofInt 64 (a:Int) &&& BitVec.ofInt 64 (b:Int)).toNat:Int)=_
  rw [BitVec.toNat_and,oB a ha,oB b hb,IntKind.wrap_i64]
  omega
theorem sA {r n:Int}{b:Bool}(r0:0≤r)(r7:r≤7)(n0:0≤n)(n7:n≤7)(h:(bits .and .i64 r n==n)=b):b=eY r n:=by
  rw [← h]
  obtain ⟨a,rfl⟩:=Int.eq_ofNat_of_zero_le r0
  obtain ⟨b,rfl⟩:=Int.eq_ofNat_of_zero_le n0
  rw [pU a b (by omega) (by omega)]
  unfold eY
  simp only [Int.toNat_natCast]
  rw [Bool.eq_iff_iff];simp only [beq_iff_eq];omega
theorem ji {r:Int}(h:bW r=0):0≤r∧r≤7:=by
  rcases eC r with ⟨h1,_⟩ | ⟨_,h2⟩
  · omega
  · exact h2
theorem bF {r:Int}(h:¬ bW r=0):bW r=1:=by
  rcases eC r with ⟨h1,_⟩ | ⟨h1,_⟩
  · exact h1
  · exact absurd h1 h
theorem cT {x:ak}(h:x.ID<1∨999<x.ID∨x.ai<1∨999<x.ai∨x.ar<0∨99<x.ar∨x.From<0∨x.ID≤x.From∨x.Rights<0∨7<x.Rights):bB x=1:=by
  rcases ea x with ⟨h1,_⟩ | ⟨_,h2⟩
  · exact h1
  · omega
theorem iV {x:ak}(h:1≤x.ID∧x.ID≤999∧1≤x.ai∧x.ai≤999∧0≤x.ar∧x.ar≤99∧0≤x.From∧x.From<x.ID∧0≤x.Rights∧x.Rights≤7):bB x=0:=by
  rcases ea x with ⟨_,h2⟩ | ⟨h1,_⟩
  · omega
  · exact h1
theorem cW {x:ak}(h:1≤x.ID∧x.ID≤999∧1≤x.ai∧x.ai≤999∧0≤x.ar∧x.ar≤99∧0≤x.From∧x.From<x.ID):bB x=bW x.Rights:=by
  rcases eC x.Rights with ⟨h1,h2⟩ | ⟨h1,h2⟩
  · rw [h1,cT (by omega)]
  · rw [h1,iV (by omega)]
theorem cm {x:ak}{id r b:Int}(h:¬ bW r=0):derived x id r b=(fm,1):=by
  have:bW r=1:=by rcases eC r with ⟨h1,_⟩ | ⟨h1,_⟩;exact h1;exact absurd h1 h
  unfold derived;rw [if_pos this]
theorem cZ {x:ak}{id r b:Int}(h:r<0∨7<r∨b<0∨99<b):derived x id r b=(fm,1):=by
  by_cases h1:bW r=0
  ·
    have:=ji h1
    unfold derived;rw [if_neg (by rw [h1];decide)];split;rfl;rw [if_pos (by omega)]
  · exact cm h1
theorem cy {x:ak}{id r b:Int}(h:0≤r∧r≤7∧0≤b∧b≤99)(hh:eY x.Rights r=false):derived x id r b=(fm,7):=by
  unfold derived;rw [if_neg (by rw [dz h.1 h.2.1];decide),if_neg (by omega),if_neg (by omega),if_pos hh]
theorem cz {x:ak}{id r b:Int}(h:0≤r∧r≤7∧0≤b∧b≤99)(hh:eY x.Rights r=true)(hc:¬ b=0∧¬ x.ar=0∧¬ b=x.ar):derived x id r b=(fm,7):=by
  unfold derived;rw [if_neg (by rw [dz h.1 h.2.1];decide),if_neg (by omega),if_neg (by omega),if_neg (by rw [hh];decide),if_pos hc]
theorem cp {x:ak}{id r b:Int}(h:0≤r∧r≤7∧0≤b∧b≤99)(hh:eY x.Rights r=true)(hc:b=0):derived x id r b=(⟨id,x.ai,r,x.ar,x.ID⟩,0):=by
  unfold derived;rw [if_neg (by rw [dz h.1 h.2.1];decide),if_neg (by omega),if_neg (by omega),if_neg (by rw [hh];decide),if_neg (by omega),if_pos hc]
theorem cq {x:ak}{id r b:Int}(h:0≤r∧r≤7∧0≤b∧b≤99)(hh:eY x.Rights r=true)(hc:¬ b=0)(hc2:x.ar=0∨b=x.ar):derived x id r b=(⟨id,x.ai,r,b,x.ID⟩,0):=by
  unfold derived;rw [if_neg (by rw [dz h.1 h.2.1];decide),if_neg (by omega),if_neg (by omega),if_neg (by rw [hh];decide),if_neg (by omega),if_neg hc]
theorem cB {x:ak}{id r b:Int}(h:0≤r∧r≤7∧0≤b∧b≤99)(hh:eY x.Rights r=true)(hc:¬ x.ar=0)(hc2:b=0∨b=x.ar):derived x id r b=(⟨id,x.ai,r,x.ar,x.ID⟩,0):=by
  by_cases hb:b=0
  · exact cp h hh hb
  · rw [cq h hh hb (by omega),show b=x.ar by omega]
def idxOf {α:Type}(p:α→Bool)(l:List α):Int:=match l.findIdx? p with|some i=>i|none => -1
theorem idxOf_hit {α:Type}{p:α→Bool}{l:List α}{k:Nat}{x:α}(hk:l[k]? = some x)(h1:p x=true)(h2:∀ (j:Nat) x,j<k→l[j]? = some x→p x=false):idxOf p l=k:=by
  obtain ⟨hk',rfl⟩:=List.getElem?_eq_some_iff.1 hk
  unfold idxOf
  rw [List.findIdx?_eq_some_iff_getElem.2 ⟨hk',h1,fun j hj=>by
    have:=h2 j l[j] hj (List.getElem?_eq_getElem (by omega));simp [this]⟩]
theorem idxOf_miss {α:Type}{p:α→Bool}{l:List α}{k:Nat}(hk:¬ k<l.length)(h:∀ (j:Nat) x,j<k→l[j]? = some x→p x=false):idxOf p l = -1:=by
  unfold idxOf
  rw [List.findIdx?_eq_none_iff.2 (fun x hx=>by obtain ⟨j,hj⟩:=List.mem_iff_getElem?.1 hx;exact h j x (by have:=(List.getElem?_eq_some_iff.1 hj).1;omega) hj)]
theorem iz {α:Type}{p:α→Bool}{l:List α}{k:Nat}{x:α}(h:∀ (j:Nat) x,j<k→l[j]? = some x→p x=false)(hx:l[k]? = some x)(hp:p x=false):∀ (j:Nat) x,j<k+1→l[j]? = some x→p x=false:=by
  intro j y hj hy
  rcases Nat.lt_or_ge j k with h1|h1
  · exact h j y h1 hy
  ·
    have:j=k:=by omega
    subst this;rw [hx] at hy;injection hy with hy;subst hy;exact hp
end Go.Proofs.YtbkfhjaibhnkmaaGreatDoor
end
