import Derived.Test.YtkbhcbipadkcaaaGreatDoorTO11
namespace Go.Proofs.YtkbhcbipadkcaaaGreatDoor
set_option linter.unusedVariables false
set_option linter.unusedSimpArgs false
section
theorem qF {α:Type}{l u:List α}{i:Nat}(h:i=l.length):l.take i++u++l.drop i=l++u:=by
 subst h;simp
theorem nQ {α:Type}{l u:List α}{i m:Nat}{z:α}(hu:u.length=1)(hi:i<l.length)(hm:m=l.length+u.length-i) :
 l.take i++u++l.drop i=((l.take i++List.replicate m z).take i++u++(l.take i++List.replicate m z).drop (i+u.length)).take (i+u.length)++l.drop i++((l.take i++List.replicate m z).take i++u++(l.take i++List.replicate m z).drop (i+u.length)).drop (i+u.length+(l.drop i).length):=by
 have h1:(l.take i).length=i:=by rw [List.length_take];omega
 have h2:((l.take i++List.replicate m z).take i)=l.take i:=by rw [List.take_append_of_le_length (by omega),List.take_of_length_le (by omega)]
 have h3:(l.take i++u).length=i+u.length:=by rw [List.length_append,h1]
 rw [h2,List.take_append_of_le_length (by omega),List.take_of_length_le (l:=l.take i++u) (by omega)]
 have h4:(l.take i++u++(l.take i++List.replicate m z).drop (i+u.length)).length<=i+u.length+(l.drop i).length:=by
  simp only [List.length_append,List.length_drop,h1,List.length_replicate];omega
 rw [List.drop_of_length_le h4,List.append_nil]
theorem rT {α:Type}{l u:List α}{i:Nat}(hu:u.length=1)(hi:i<l.length) :
 l.take i++u++l.drop i=(l.take (i+1)++l.drop i).take i++u++(l.take (i+1)++l.drop i).drop (i+u.length):=by
 have h1:(l.take (i+1)).length=i+1:=by rw [List.length_take];omega
 rw [hu,List.take_append_of_le_length (by omega),List.take_take,Nat.min_eq_left (by omega),List.drop_append_of_le_length (by omega),List.drop_of_length_le (l:=l.take (i+1)) (by omega),List.nil_append]
theorem pV {α:Type}{l:List α}{i j:Nat}(h:i=j):l.take i++l.drop j=l:=by subst h;simp
section
variable {α:Type}
def bsGo (f:α->Int)(l:List α)(lo hi:Nat):Nat :=
  if h:lo<hi then
    match l[(lo+hi) / 2]? with
    | some x=>if f x<0 then bsGo f l ((lo+hi) / 2+1) hi else bsGo f l lo ((lo+hi) / 2)
    | none=>lo
  else lo
termination_by hi-lo
decreasing_by all_goals omega
def jF (f:α->Int)(l:List α):Nat:=bsGo f l 0 l.length
def lG (f:α->Int)(l:List α):Bool:=match l[jF f l]? with|some x=>decide (f x=0)|none=>false
variable {f:α->Int} {l:List α} {lo hi:Nat} {x:α}
theorem AK (h:lo<hi)(hx:l[(lo+hi) / 2]? = some x)(hf:f x<0):bsGo f l lo hi=bsGo f l ((lo+hi) / 2+1) hi:=by
 rw [bsGo,dif_pos h,hx];simp [hf]
theorem AL (h:lo<hi)(hx:l[(lo+hi) / 2]? = some x)(hf:¬ f x<0):bsGo f l lo hi=bsGo f l lo ((lo+hi) / 2):=by
 rw [bsGo,dif_pos h,hx];simp [hf]
theorem gZ (h:¬ lo<hi):bsGo f l lo hi=lo:=by rw [bsGo,dif_neg h]
theorem Mc:∀ (n lo hi:Nat),hi-lo=n->lo<=hi->bsGo f l lo hi<=hi:=by
 intro n
 induction n using Nat.strongRecOn with
 | _ n ih =>
  intro lo hi hn hle
  rw [bsGo]
  split
  .
   split
   .
    split
    .exact ih (hi-((lo+hi) / 2+1)) (by omega) _ _ rfl (by omega)
    .exact Nat.le_trans (ih ((lo+hi) / 2-lo) (by omega) _ _ rfl (by omega)) (by omega)
   .exact hle
  .exact hle
theorem pW:jF f l<=l.length:=Mc _ 0 l.length rfl (Nat.zero_le _)
theorem CB (h:lG f l=true):∃x,l[jF f l]? = some x/\f x=0:=by
 unfold lG at h
 split at h
 .rename_i x hx;exact ⟨x,hx,of_decide_eq_true h⟩
 .cases h
theorem He (hm:∀ (i j:Nat) x y,i<=j->l[i]? = some x->l[j]? = some y->f y<0->f x<0):∀ (n lo hi:Nat),hi-lo=n->lo<=hi->hi<=l.length ->
 (∀ (i:Nat) x,i<lo->l[i]? = some x->f x<0)->(∀ (i:Nat) x,hi<=i->l[i]? = some x->¬ f x<0) ->
 (∀ (i:Nat) x,i<bsGo f l lo hi->l[i]? = some x->f x<0)/\(∀ (i:Nat) x,bsGo f l lo hi<=i->l[i]? = some x->¬ f x<0):=by
 intro n
 induction n using Nat.strongRecOn with
 | _ n ih =>
  intro lo hi hn hle hl h1 h2
  by_cases hlt:lo<hi
  .
   obtain ⟨x,hx⟩:∃x,l[(lo+hi) / 2]? = some x:=⟨_,List.getElem?_eq_getElem (by omega)⟩
   by_cases hf:f x<0
   .
    rw [AK hlt hx hf]
    exact ih (hi-((lo+hi) / 2+1)) (by omega) _ _ rfl (by omega) hl (fun i y hi' hy=>hm i ((lo+hi) / 2) y x (by omega) hy hx hf) h2
   .
    rw [AL hlt hx hf]
    exact ih ((lo+hi) / 2-lo) (by omega) _ _ rfl (by omega) (by omega) h1 (fun i y hi' hy hc=>hf (hm ((lo+hi) / 2) i x y hi' hx hy hc))
  .
   rw [gZ hlt]
   have:lo=hi:=by omega
   subst this
   exact ⟨h1,h2⟩
theorem CC (hm:∀ (i j:Nat) x y,i<=j->l[i]? = some x->l[j]? = some y->f y<0->f x<0) :
 (∀ (i:Nat) x,i<jF f l->l[i]? = some x->f x<0)/\(∀ (i:Nat) x,jF f l<=i->l[i]? = some x->¬ f x<0) :=
 He hm _ 0 l.length rfl (Nat.zero_le _) (Nat.le_refl _) (fun i x hi=>absurd hi (Nat.not_lt_zero _)) (fun i x hi hx=>by
  have:=(List.getElem?_eq_some_iff.1 hx).1;omega)
end
def ru (a b:Int):Int:=if a<b then -1 else if b<a then 1 else 0
def JG:List Int->Int
  | []=>0
  | x::l=>if x=0 then JG l else x
theorem JH {l:List Int}{k:Nat}{x:Int}(h:l[k]? = some x)(h0:x=0):JG (l.drop k)=JG (l.drop (k+1)):=by
 have hk:=(List.getElem?_eq_some_iff.1 h).1
 have he:=(List.getElem?_eq_some_iff.1 h).2
 rw [List.drop_eq_getElem_cons hk,he];simp [JG,h0]
theorem Md {l:List Int}{k:Nat}{x:Int}(h:l[k]? = some x)(h0:¬ x=0):JG (l.drop k)=x:=by
 have hk:=(List.getElem?_eq_some_iff.1 h).1
 have he:=(List.getElem?_eq_some_iff.1 h).2
 rw [List.drop_eq_getElem_cons hk,he];simp [JG,h0]
end
def aY (p:Place):Int:=if p.aB<1∨4<p.aB∨p.Slot<0∨5<p.Slot then 1 else 0
def rx (p q:Place):Int:=if ru p.aB q.aB=0 then ru p.Slot q.Slot else ru p.aB q.aB
theorem Me (p q:Place):JG [ru p.aB q.aB,ru p.Slot q.Slot]=rx p q:=by
 simp only [JG,rx]
 split
 .
  split
  .rename_i h;exact h.symm
  .rfl
 .rfl
theorem Hf {p q:Place}(h:rx p q=0):p=q:=by
 cases p;cases q
 simp only [rx,ru] at h
 simp only [Place.mk.injEq]
 split at h <;> (try split at h) <;> (try split at h) <;> (try split at h) <;> omega
theorem Hg (p:Place):rx p p=0:=by simp [rx,ru]
def fT (l:List Held)(p:Place):Nat:=jF (fun h=>rx h.Place p) l
def Hh (l:List Held)(p:Place):Bool:=lG (fun h=>rx h.Place p) l
theorem vx (l:List Held)(p:Place):fT l p<=l.length:=pW
theorem tP (l:List Held)(p:Place):Hh l p=false ∨ ∃x,l[fT l p]? = some x/\Hh l p=true/\x.Place=p/\fT l p<l.length:=by
 cases h:Hh l p with
 | false=>exact .inl rfl
 | true =>
  obtain ⟨x,h1,h2⟩:=CB h
  exact .inr ⟨x,h1,rfl,Hf h2,(List.getElem?_eq_some_iff.1 h1).1⟩
def mU (l:List Held)(p:Place):Int:=if Hh l p then (match l[fT l p]? with|some x=>x.aj|none=>0) else 0
theorem JI {l:List Held}{p:Place}(h:Hh l p=false):mU l p=0:=by simp [mU,h]
theorem F6 {l:List Held}{p:Place}{x:Held}(h:Hh l p=true)(hx:l[fT l p]? = some x):mU l p=x.aj:=by simp [mU,h,hx]
def fP (l:List Held)(p:Place)(id:Int):List Held :=
  if Hh l p then (if id=0 then l.take (fT l p)++l.drop (fT l p+1) else l.set (fT l p) ⟨p,id⟩)
  else if id=0 then l else l.take (fT l p)++[⟨p,id⟩]++l.drop (fT l p)
theorem nT (l:List Held)(p:Place)(id:Int):(fP l p id).length<=l.length+1:=by
 have:=vx l p
 unfold fP;split <;> split <;> simp <;> omega
def mB (l:List Held)(h:Int):Nat->Nat->Int
  | 0,_ => -1
  | n+1,s=>if mU l ⟨h,s⟩=0 then s else mB l h n (s+1)
def je (l:List Held)(h:Int):Int:=mB l h 6 0
theorem EG {l:List Held}{h:Int}{n s:Nat}(e:mU l ⟨h,s⟩=0)(hn:0<n):mB l h n s=s:=by
 cases n with
 | zero=>omega
 | succ n=>simp [mB,e]
theorem CF {l:List Held}{h:Int}{s:Nat}(e:¬ mU l ⟨h,s⟩=0)(hs:s<6):mB l h (6-s) s=mB l h (6-(s+1)) (s+1):=by
 have:6-s=(6-(s+1))+1:=by omega
 rw [this];simp only [mB];rw [if_neg e]
def uE (l:List Held)(p:Place):Int:=match l.find? (fun h=>h.Place==p) with|some h=>h.aj|none=>0
def oG (p:Place)(id:Int)(s:List Held×Bool)(h:Held):List Held×Bool :=
  let s1:=if s.2=false/\(p.aB<h.Place.aB∨(p.aB=h.Place.aB/\p.Slot<=h.Place.Slot)) then (s.1++[⟨p,id⟩],true) else s
  (if h.Place=p then s1.1 else s1.1++[h],s1.2)
theorem wP {p:Place}{id:Int}{acc:List Held}{h:Held}(ho:p.aB<h.Place.aB∨(p.aB=h.Place.aB/\p.Slot<=h.Place.Slot)):oG p id (acc,false) h=(if h.Place=p then acc++[⟨p,id⟩] else acc++[⟨p,id⟩]++[h],true):=by
 unfold oG;rw [if_pos ⟨rfl,ho⟩]
theorem pX {p:Place}{id:Int}{acc:List Held}{b:Bool}{h:Held}(ho:b=true∨¬ (p.aB<h.Place.aB∨(p.aB=h.Place.aB/\p.Slot<=h.Place.Slot))):oG p id (acc,b) h=(if h.Place=p then acc else acc++[h],b):=by
 unfold oG;rw [if_neg (fun hh=>by
  rcases ho with ho|ho;· rw [ho] at hh;cases hh.1
  .exact ho hh.2)]
def CG (l:List Held)(p:Place)(id:Int):List Held×Bool:=l.foldl (oG p id) ([],id==0)
def EH (l:List Held)(p:Place)(id:Int):List Held:=if (CG l p id).2 then (CG l p id).1 else (CG l p id).1++[⟨p,id⟩]
theorem rG (p:Place):aY p=0∨aY p=1:=by unfold aY;split <;> simp
theorem ko {p:Place}(h:p.aB<1∨4<p.aB∨p.Slot<0∨5<p.Slot):aY p=1:=if_pos h
theorem yA {p:Place}(h:1<=p.aB/\p.aB<=4/\0<=p.Slot/\p.Slot<=5):aY p=0:=if_neg (by omega)
theorem cu {p:Place}(h:aY p=0):1<=p.aB/\p.aB<=4/\0<=p.Slot/\p.Slot<=5:=by
 unfold aY at h;split at h <;> omega
def j9 (p q:Place):Prop:=p.aB<q.aB∨(p.aB=q.aB/\p.Slot<q.Slot)
def GoodAt (l:List Held)(k:Nat):Prop:= ∀h,l[k]? = some h->aY h.Place=0/\h.aj≠0 /\ ∀g,0<k->l[k-1]? = some g->j9 g.Place h.Place
def Good (l:List Held):Prop:= ∀k,k<l.length->GoodAt l k
end Go.Proofs.YtkbhcbipadkcaaaGreatDoor
