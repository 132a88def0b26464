import Derived.Test.YtkbhcbipadkcaaaGreatDoorTO11
namespace Go.Proofs.YtkbhcbipadkcaaaGreatDoor
set_option linter.unusedVariables false
set_option linter.unusedSimpArgs false
section
theorem qJ {α:Type}{l u:List α}{i:Nat}(h:i=l.length):l.take i++u++l.drop i=l++u:=by
 subst h;simp
theorem nT {α:Type}{l u:List α}{i m:Nat}{z:α}(hu:u.length=1)(hi:i<l.length)(hm:m=l.length+u.length-i) :
 l.take i++u++l.drop i=((l.take i++List.replicate m z).take i++u++(l.take i++List.replicate m z).drop (i+u.length)).take (i+u.length)++l.drop i++((l.take i++List.replicate m z).take i++u++(l.take i++List.replicate m z).drop (i+u.length)).drop (i+u.length+(l.drop i).length):=by
 have h1:(l.take i).length=i:=by rw [List.length_take];omega
 have h2:((l.take i++List.replicate m z).take i)=l.take i:=by rw [List.take_append_of_le_length (by omega),List.take_of_length_le (by omega)]
 have h3:(l.take i++u).length=i+u.length:=by rw [List.length_append,h1]
 rw [h2,List.take_append_of_le_length (by omega),List.take_of_length_le (l:=l.take i++u) (by omega)]
 have h4:(l.take i++u++(l.take i++List.replicate m z).drop (i+u.length)).length<=i+u.length+(l.drop i).length:=by
  simp only [List.length_append,List.length_drop,h1,List.length_replicate];omega
 rw [List.drop_of_length_le h4,List.append_nil]
theorem rX {α:Type}{l u:List α}{i:Nat}(hu:u.length=1)(hi:i<l.length) :
 l.take i++u++l.drop i=(l.take (i+1)++l.drop i).take i++u++(l.take (i+1)++l.drop i).drop (i+u.length):=by
 have h1:(l.take (i+1)).length=i+1:=by rw [List.length_take];omega
 rw [hu,List.take_append_of_le_length (by omega),List.take_take,Nat.min_eq_left (by omega),List.drop_append_of_le_length (by omega),List.drop_of_length_le (l:=l.take (i+1)) (by omega),List.nil_append]
theorem pY {α:Type}{l:List α}{i j:Nat}(h:i=j):l.take i++l.drop j=l:=by subst h;simp
section
variable {α:Type}
def bsGo (f:α->Int)(l:List α)(lo hi:Nat):Nat :=
  if h:lo<hi then
    match l[(lo+hi) / 2]? with
    | some x=>if f x<0 then bsGo f l ((lo+hi) / 2+1) hi else bsGo f l lo ((lo+hi) / 2)
    | none=>lo
  else lo
termination_by hi-lo
decreasing_by all_goals omega
def jF (f:α->Int)(l:List α):Nat:=bsGo f l 0 l.length
def lF (f:α->Int)(l:List α):Bool:=match l[jF f l]? with|some x=>decide (f x=0)|none=>false
variable {f:α->Int} {l:List α} {lo hi:Nat} {x:α}
theorem AR (h:lo<hi)(hx:l[(lo+hi) / 2]? = some x)(hf:f x<0):bsGo f l lo hi=bsGo f l ((lo+hi) / 2+1) hi:=by
 rw [bsGo,dif_pos h,hx];simp [hf]
theorem AU (h:lo<hi)(hx:l[(lo+hi) / 2]? = some x)(hf:¬ f x<0):bsGo f l lo hi=bsGo f l lo ((lo+hi) / 2):=by
 rw [bsGo,dif_pos h,hx];simp [hf]
theorem gZ (h:¬ lo<hi):bsGo f l lo hi=lo:=by rw [bsGo,dif_neg h]
theorem Mi:∀ (n lo hi:Nat),hi-lo=n->lo<=hi->bsGo f l lo hi<=hi:=by
 intro n
 induction n using Nat.strongRecOn with
 | _ n ih =>
  intro lo hi hn hle
  rw [bsGo]
  split
  .
   split
   .
    split
    .exact ih (hi-((lo+hi) / 2+1)) (by omega) _ _ rfl (by omega)
    .exact Nat.le_trans (ih ((lo+hi) / 2-lo) (by omega) _ _ rfl (by omega)) (by omega)
   .exact hle
  .exact hle
theorem pZ:jF f l<=l.length:=Mi _ 0 l.length rfl (Nat.zero_le _)
theorem CH (h:lF f l=true):∃x,l[jF f l]? = some x/\f x=0:=by
 unfold lF at h
 split at h
 .rename_i x hx;exact ⟨x,hx,of_decide_eq_true h⟩
 .cases h
theorem Hl (hm:∀ (i j:Nat) x y,i<=j->l[i]? = some x->l[j]? = some y->f y<0->f x<0):∀ (n lo hi:Nat),hi-lo=n->lo<=hi->hi<=l.length ->
 (∀ (i:Nat) x,i<lo->l[i]? = some x->f x<0)->(∀ (i:Nat) x,hi<=i->l[i]? = some x->¬ f x<0) ->
 (∀ (i:Nat) x,i<bsGo f l lo hi->l[i]? = some x->f x<0)/\(∀ (i:Nat) x,bsGo f l lo hi<=i->l[i]? = some x->¬ f x<0):=by
 intro n
 induction n using Nat.strongRecOn with
 | _ n ih =>
  intro lo hi hn hle hl h1 h2
  by_cases hlt:lo<hi
  .
   obtain ⟨x,hx⟩:∃x,l[(lo+hi) / 2]? = some x:=⟨_,List.getElem?_eq_getElem (by omega)⟩
   by_cases hf:f x<0
   .
    rw [AR hlt hx hf]
    exact ih (hi-((lo+hi) / 2+1)) (by omega) _ _ rfl (by omega) hl (fun i y hi' hy=>hm i ((lo+hi) / 2) y x (by omega) hy hx hf) h2
   .
    rw [AU hlt hx hf]
    exact ih ((lo+hi) / 2-lo) (by omega) _ _ rfl (by omega) (by omega) h1 (fun i y hi' hy hc=>hf (hm ((lo+hi) / 2) i x y hi' hx hy hc))
  .
   rw [gZ hlt]
   have:lo=hi:=by omega
   subst this
   exact ⟨h1,h2⟩
theorem CJ (hm:∀ (i j:Nat) x y,i<=j->l[i]? = some x->l[j]? = some y->f y<0->f x<0) :
 (∀ (i:Nat) x,i<jF f l->l[i]? = some x->f x<0)/\(∀ (i:Nat) x,jF f l<=i->l[i]? = some x->¬ f x<0) :=
 Hl hm _ 0 l.length rfl (Nat.zero_le _) (Nat.le_refl _) (fun i x hi=>absurd hi (Nat.not_lt_zero _)) (fun i x hi hx=>by
  have:=(List.getElem?_eq_some_iff.1 hx).1;omega)
end
def ry (a b:Int):Int:=if a<b then -1 else if b<a then 1 else 0
def JM:List Int->Int
  | []=>0
  | x::l=>if x=0 then JM l else x
theorem JN {l:List Int}{k:Nat}{x:Int}(h:l[k]? = some x)(h0:x=0):JM (l.drop k)=JM (l.drop (k+1)):=by
 have hk:=(List.getElem?_eq_some_iff.1 h).1
 have he:=(List.getElem?_eq_some_iff.1 h).2
 rw [List.drop_eq_getElem_cons hk,he];simp [JM,h0]
theorem Mj {l:List Int}{k:Nat}{x:Int}(h:l[k]? = some x)(h0:¬ x=0):JM (l.drop k)=x:=by
 have hk:=(List.getElem?_eq_some_iff.1 h).1
 have he:=(List.getElem?_eq_some_iff.1 h).2
 rw [List.drop_eq_getElem_cons hk,he];simp [JM,h0]
end
def aY (p:Place):Int:=if p.aB<1∨4<p.aB∨p.Slot<0∨5<p.Slot then 1 else 0
def rz (p q:Place):Int:=if ry p.aB q.aB=0 then ry p.Slot q.Slot else ry p.aB q.aB
theorem Mk (p q:Place):JM [ry p.aB q.aB,ry p.Slot q.Slot]=rz p q:=by
 simp only [JM,rz]
 split
 .
  split
  .rename_i h;exact h.symm
  .rfl
 .rfl
theorem Hm {p q:Place}(h:rz p q=0):p=q:=by
 cases p;cases q
 simp only [rz,ry] at h
 simp only [Place.mk.injEq]
 split at h <;> (try split at h) <;> (try split at h) <;> (try split at h) <;> omega
theorem Hn (p:Place):rz p p=0:=by simp [rz,ry]
def fT (l:List Held)(p:Place):Nat:=jF (fun h=>rz h.Place p) l
def Ho (l:List Held)(p:Place):Bool:=lF (fun h=>rz h.Place p) l
theorem vC (l:List Held)(p:Place):fT l p<=l.length:=pZ
theorem tV (l:List Held)(p:Place):Ho l p=false ∨ ∃x,l[fT l p]? = some x/\Ho l p=true/\x.Place=p/\fT l p<l.length:=by
 cases h:Ho l p with
 | false=>exact .inl rfl
 | true =>
  obtain ⟨x,h1,h2⟩:=CH h
  exact .inr ⟨x,h1,rfl,Hm h2,(List.getElem?_eq_some_iff.1 h1).1⟩
def mV (l:List Held)(p:Place):Int:=if Ho l p then (match l[fT l p]? with|some x=>x.aj|none=>0) else 0
theorem JO {l:List Held}{p:Place}(h:Ho l p=false):mV l p=0:=by simp [mV,h]
theorem Gb {l:List Held}{p:Place}{x:Held}(h:Ho l p=true)(hx:l[fT l p]? = some x):mV l p=x.aj:=by simp [mV,h,hx]
def fP (l:List Held)(p:Place)(id:Int):List Held :=
  if Ho l p then (if id=0 then l.take (fT l p)++l.drop (fT l p+1) else l.set (fT l p) ⟨p,id⟩)
  else if id=0 then l else l.take (fT l p)++[⟨p,id⟩]++l.drop (fT l p)
theorem nU (l:List Held)(p:Place)(id:Int):(fP l p id).length<=l.length+1:=by
 have:=vC l p
 unfold fP;split <;> split <;> simp <;> omega
def mC (l:List Held)(h:Int):Nat->Nat->Int
  | 0,_ => -1
  | n+1,s=>if mV l ⟨h,s⟩=0 then s else mC l h n (s+1)
def je (l:List Held)(h:Int):Int:=mC l h 6 0
theorem EK {l:List Held}{h:Int}{n s:Nat}(e:mV l ⟨h,s⟩=0)(hn:0<n):mC l h n s=s:=by
 cases n with
 | zero=>omega
 | succ n=>simp [mC,e]
theorem CK {l:List Held}{h:Int}{s:Nat}(e:¬ mV l ⟨h,s⟩=0)(hs:s<6):mC l h (6-s) s=mC l h (6-(s+1)) (s+1):=by
 have:6-s=(6-(s+1))+1:=by omega
 rw [this];simp only [mC];rw [if_neg e]
def uJ (l:List Held)(p:Place):Int:=match l.find? (fun h=>h.Place==p) with|some h=>h.aj|none=>0
def oH (p:Place)(id:Int)(s:List Held×Bool)(h:Held):List Held×Bool :=
  let s1:=if s.2=false/\(p.aB<h.Place.aB∨(p.aB=h.Place.aB/\p.Slot<=h.Place.Slot)) then (s.1++[⟨p,id⟩],true) else s
  (if h.Place=p then s1.1 else s1.1++[h],s1.2)
theorem wU {p:Place}{id:Int}{acc:List Held}{h:Held}(ho:p.aB<h.Place.aB∨(p.aB=h.Place.aB/\p.Slot<=h.Place.Slot)):oH p id (acc,false) h=(if h.Place=p then acc++[⟨p,id⟩] else acc++[⟨p,id⟩]++[h],true):=by
 unfold oH;rw [if_pos ⟨rfl,ho⟩]
theorem p6 {p:Place}{id:Int}{acc:List Held}{b:Bool}{h:Held}(ho:b=true∨¬ (p.aB<h.Place.aB∨(p.aB=h.Place.aB/\p.Slot<=h.Place.Slot))):oH p id (acc,b) h=(if h.Place=p then acc else acc++[h],b):=by
 unfold oH;rw [if_neg (fun hh=>by
  rcases ho with ho|ho;· rw [ho] at hh;cases hh.1
  .exact ho hh.2)]
def CL (l:List Held)(p:Place)(id:Int):List Held×Bool:=l.foldl (oH p id) ([],id==0)
def EL (l:List Held)(p:Place)(id:Int):List Held:=if (CL l p id).2 then (CL l p id).1 else (CL l p id).1++[⟨p,id⟩]
theorem rL (p:Place):aY p=0∨aY p=1:=by unfold aY;split <;> simp
theorem ko {p:Place}(h:p.aB<1∨4<p.aB∨p.Slot<0∨5<p.Slot):aY p=1:=if_pos h
theorem yF {p:Place}(h:1<=p.aB/\p.aB<=4/\0<=p.Slot/\p.Slot<=5):aY p=0:=if_neg (by omega)
theorem cu {p:Place}(h:aY p=0):1<=p.aB/\p.aB<=4/\0<=p.Slot/\p.Slot<=5:=by
 unfold aY at h;split at h <;> omega
def j9 (p q:Place):Prop:=p.aB<q.aB∨(p.aB=q.aB/\p.Slot<q.Slot)
def GoodAt (l:List Held)(k:Nat):Prop:= ∀h,l[k]? = some h->aY h.Place=0/\h.aj≠0 /\ ∀g,0<k->l[k-1]? = some g->j9 g.Place h.Place
def Good (l:List Held):Prop:= ∀k,k<l.length->GoodAt l k
end Go.Proofs.YtkbhcbipadkcaaaGreatDoor
