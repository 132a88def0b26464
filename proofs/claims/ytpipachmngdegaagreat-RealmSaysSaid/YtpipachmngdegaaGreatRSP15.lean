import Derived.Test.YtpipachmngdegaaGreatRSP14
section
namespace Go.Proofs.YtpipachmngdegaaGreat
set_option linter.unusedVariables false
def bH (p:Place):Int:=if p.ag<1∨4<p.ag∨p.Slot<0∨5<p.Slot then 1 else 0
def jW (p q:Place):Int:=if jV p.ag q.ag=0 then jV p.Slot q.Slot else jV p.ag q.ag
theorem ua (p q:Place):sR [jV p.ag q.ag,jV p.Slot q.Slot]=jW p q:=by
  simp only [sR,jW]
  split
  ·
    split
    · rename_i h;exact h.symm
    · rfl
  · rfl
theorem rJ {p q:Place}(h:jW p q=0):p=q:=by
  cases p;cases q
  simp only [jW,jV] at h
  simp only [Place.mk.injEq]
  split at h <;> (try split at h) <;> (try split at h) <;> (try split at h) <;> omega
theorem rK (p:Place):jW p p=0:=by simp [jW,jV]
def dE (l:List Held)(p:Place):Nat:=tZ (fun h=>jW h.Place p) l
def rL (l:List Held)(p:Place):Bool:=t6 (fun h=>jW h.Place p) l
theorem lQ (l:List Held)(p:Place):dE l p≤l.length:=vm
theorem kX (l:List Held)(p:Place):rL l p=false ∨ ∃x,l[dE l p]? = some x∧rL l p=true∧x.Place=p∧dE l p<l.length:=by
  cases h:rL l p with
  | false=>exact .inl rfl
  | true =>
    obtain ⟨x,h1,h2⟩:=sP h
    exact .inr ⟨x,h1,rfl,rJ h2,(List.getElem?_eq_some_iff.1 h1).1⟩
def gI (l:List Held)(p:Place):Int:=if rL l p then (match l[dE l p]? with|some x=>x.ao|none=>0) else 0
theorem pQ {l:List Held}{p:Place}(h:rL l p=false):gI l p=0:=by simp [gI,h]
theorem nX {l:List Held}{p:Place}{x:Held}(h:rL l p=true)(hx:l[dE l p]? = some x):gI l p=x.ao:=by simp [gI,h,hx]
def bO (l:List Held)(p:Place)(id:Int):List Held :=
  if rL l p then (if id=0 then l.take (dE l p)++l.drop (dE l p+1) else l.set (dE l p) ⟨p,id⟩)
  else if id=0 then l else l.take (dE l p)++[⟨p,id⟩]++l.drop (dE l p)
theorem gO (l:List Held)(p:Place)(id:Int):(bO l p id).length≤l.length+1:=by
  have:=lQ l p
  unfold bO;split <;> split <;> simp <;> omega
def fR (l:List Held)(h:Int):Nat→Nat→Int
  | 0,_ => -1
  | n+1,s=>if gI l ⟨h,s⟩=0 then s else fR l h n (s+1)
def cE (l:List Held)(h:Int):Int:=fR l h 6 0
theorem pR {l:List Held}{h:Int}{n s:Nat}(e:gI l ⟨h,s⟩=0)(hn:0<n):fR l h n s=s:=by
  cases n with
  | zero=>omega
  | succ n=>simp [fR,e]
theorem oP {l:List Held}{h:Int}{s:Nat}(e:¬ gI l ⟨h,s⟩=0)(hs:s<6):fR l h (6-s) s=fR l h (6-(s+1)) (s+1):=by
  have:6-s=(6-(s+1))+1:=by omega
  rw [this];simp only [fR];rw [if_neg e]
def gj (l:List Held)(p:Place):Int:=match l.find? (fun h=>h.Place==p) with|some h=>h.ao|none=>0
theorem rM {l:List Held}{p:Place}{k:Nat}{x:Held}(hx:l[k]? = some x)(he:x.Place=p)(hb:∀ (j:Nat) y,j<k→l[j]? = some y→¬ y.Place=p):gj l p=x.ao:=by
  have hk:=(List.getElem?_eq_some_iff.1 hx).1
  have:l.find? (fun h=>h.Place==p)=some x:=by
    rw [List.find?_eq_some_iff_getElem]
    refine ⟨by simp [he],k,hk,(List.getElem?_eq_some_iff.1 hx).2,fun j hj=>?_⟩
    have:=hb j l[j] hj (List.getElem?_eq_getElem (by omega))
    simp [this]
  simp [gj,this]
theorem pS {l:List Held}{p:Place}(hb:∀ (j:Nat) y,j<l.length→l[j]? = some y→¬ y.Place=p):gj l p=0:=by
  have:l.find? (fun h=>h.Place==p)=none:=by
    rw [List.find?_eq_none]
    intro x hx
    obtain ⟨j,hj⟩:=List.mem_iff_getElem?.1 hx
    have:=hb j x (List.getElem?_eq_some_iff.1 hj).1 hj
    simp [this]
  simp [gj,this]
def ft (p:Place)(id:Int)(s:List Held×Bool)(h:Held):List Held×Bool :=
  let s1:=if s.2=false∧(p.ag<h.Place.ag∨(p.ag=h.Place.ag∧p.Slot≤h.Place.Slot)) then (s.1++[⟨p,id⟩],true) else s
  (if h.Place=p then s1.1 else s1.1++[h],s1.2)
theorem cy {p:Place}{id:Int}{acc:List Held}{h:Held}(ho:p.ag<h.Place.ag∨(p.ag=h.Place.ag∧p.Slot≤h.Place.Slot)):ft p id (acc,false) h=(if h.Place=p then acc++[⟨p,id⟩] else acc++[⟨p,id⟩]++[h],true):=by
  unfold ft;rw [if_pos ⟨rfl,ho⟩]
theorem bX {p:Place}{id:Int}{acc:List Held}{b:Bool}{h:Held}(ho:b=true∨¬ (p.ag<h.Place.ag∨(p.ag=h.Place.ag∧p.Slot≤h.Place.Slot))):ft p id (acc,b) h=(if h.Place=p then acc else acc++[h],b):=by
  unfold ft;rw [if_neg (fun hh=>by
                                           rcases ho with ho|ho;· rw [ho] at hh;cases hh.1
                                           · exact ho hh.2)]
def hJ (l:List Held)(p:Place)(id:Int):List Held×Bool:=l.foldl (ft p id) ([],id==0)
def gx (l:List Held)(p:Place)(id:Int):List Held:=if (hJ l p id).2 then (hJ l p id).1 else (hJ l p id).1++[⟨p,id⟩]
theorem cD (l:List Held)(p:Place)(id:Int)(k:Nat)(x:Held)(h:l[k]? = some x):hJ (l.take (k+1)) p id=ft p id (hJ (l.take k) p id) x:=by
  have hk:=(List.getElem?_eq_some_iff.1 h).1
  have:l.take (k+1)=l.take k++[x]:=by rw [List.take_add_one,h];rfl
  rw [this];simp [hJ]
theorem oQ (p:Place)(id:Int)(s:List Held×Bool)(h:Held):(ft p id s h).1.length≤s.1.length+2:=by
  unfold ft;dsimp only;split <;> split <;> simp <;> omega
theorem nw (l:List Held)(p:Place)(id:Int):(hJ l p id).1.length≤2*l.length:=by
  have:∀ (l:List Held) (s:List Held×Bool),(l.foldl (ft p id) s).1.length≤s.1.length+2*l.length:=by
    intro l
    induction l with
    | nil=>intro s;simp
    | cons h l ih=>intro s;simp only [List.foldl_cons,List.length_cons];have:=ih (ft p id s h);have:=oQ p id s h;omega
  simpa [hJ] using this l ([],id==0)
def fX (l:List Held)(h:Int):Nat→Nat→Int
  | 0,_ => -1
  | n+1,s=>if gj l ⟨h,s⟩=0 then s else fX l h n (s+1)
def nY (l:List Held)(h:Int):Int:=fX l h 6 0
theorem oS {l:List Held}{h:Int}{n s:Nat}(e:gj l ⟨h,s⟩=0)(hn:0<n):fX l h n s=s:=by
  cases n with
  | zero=>omega
  | succ n=>simp [fX,e]
theorem nZ {l:List Held}{h:Int}{s:Nat}(e:¬ gj l ⟨h,s⟩=0)(hs:s<6):fX l h (6-s) s=fX l h (6-(s+1)) (s+1):=by
  have:6-s=(6-(s+1))+1:=by omega
  rw [this];simp only [fX];rw [if_neg e]
theorem dv (p:Place):bH p=0∨bH p=1:=by unfold bH;split <;> simp
theorem df {p:Place}(h:p.ag<1∨4<p.ag∨p.Slot<0∨5<p.Slot):bH p=1:=if_pos h
theorem cz {p:Place}(h:1≤p.ag∧p.ag≤4∧0≤p.Slot∧p.Slot≤5):bH p=0:=if_neg (by omega)
theorem dO {p:Place}(h:bH p=0):1≤p.ag∧p.ag≤4∧0≤p.Slot∧p.Slot≤5:=by
  unfold bH at h;split at h <;> omega
def fS (p q:Place):Prop:=p.ag<q.ag∨(p.ag=q.ag∧p.Slot<q.Slot)
def GoodAt (l:List Held)(k:Nat):Prop:= ∀h,l[k]? = some h→bH h.Place=0∧h.ao≠0 ∧ ∀g,0<k→l[k-1]? = some g→fS g.Place h.Place
def Good (l:List Held):Prop:= ∀k,k<l.length→GoodAt l k
end Go.Proofs.YtpipachmngdegaaGreat
end
