import Derived.Test.YtbkfhjaibhnkmaaGreatDoorTSD11
import Derived.Laws.StructEq
import Derived.Test.YtbkfhjaibhnkmaaGreatDoorTSD1
section
namespace Go.Proofs.YtbkfhjaibhnkmaaGreatDoor
open Go Go.RowKit
set_option linter.unusedVariables false
set_option linter.unusedSimpArgs false
set_option linter.unusedSectionVars false
set_option maxRecDepth 100000
theorem pJ {P:Program}{op:BinOp}{t:TypeId}(h:P.eqGuardType P.depth t=false)(a b:Operand)(xs ys:Array Value)(w:World):(eqGuard op t a b (.agg xs) (.agg ys)).run P w = .ok () w:=by
 have hp:(program:Sem Program).run P w = .ok P w:=rfl
 cases op <;> simp [eqGuard,hp,h]
theorem ot {P:Program}{t:TypeId}{β:Type}[DecidableEq β]{cs:β→List Value}(hg:P.eqGuardType P.depth t=false)(he:∀x y w,(Op.equal t (.agg (cs x).toArray) (.agg (cs y).toArray)).run P w = .ok (decide (x=y)) w):yV P t (fun x => .agg (cs x).toArray):=by
 refine ⟨fun x y w a b=>⟨pJ hg a b _ _ w,pJ hg a b _ _ w⟩,fun x y w=>⟨?_,?_⟩⟩
 ·simp only [binOp,Sem.run_bind,he x y w,Result.andThen_ok,Sem.run_pure]
 ·simp only [binOp,Sem.run_bind,he x y w,Result.andThen_ok,Sem.run_pure]
theorem pK:yV Tryz.prog 88 aj.val:=by
 have hS:Tryz.prog.underlying 88=some (.struct (Tryz.prog.fieldsOf 88)):=by kernel_rfl
 have hp:Tryz.prog.stoodInHeld 88=false:=by kernel_rfl
 refine ot (cs:=aj.cs) (by kernel_rfl) fun x y w=>?_
 have u3:=Tryz.underlying3;have a3:=Tryz.isAgg3;have z3:=Tryz.sizeOf3
 obtain ⟨x1,x2,x3,x4,x5⟩:=x;obtain ⟨y1,y2,y3,y4,y5⟩:=y
 rw [Op.equal,Op.maxDepth,show (10000:Nat)=9999+1 from rfl,run_equalIn_agg w 9999 88 _ _ hS hp]
 simp only [Program.fieldsOf,Tryz.underlying88]
 go_simp
 by_cases h1:x1=y1 <;> by_cases h2:x2=y2 <;> by_cases h3:x3=y3 <;> by_cases h4:x4=y4 <;> by_cases h5:x5=y5 <;> simp [h1,h2,h3,h4,h5]
theorem wc (d:Nat)(x y:Place)(w:World):(Op.equalIn (d+1+1) 39 (.agg #[.int .i64 x.ao,.int .i64 x.Slot]) (.agg #[.int .i64 y.ao,.int .i64 y.Slot])).run Tryz.prog w = .ok (decide (x=y)) w:=by
 have hS:Tryz.prog.underlying 39=some (.struct (Tryz.prog.fieldsOf 39)):=by kernel_rfl
 have hp:Tryz.prog.stoodInHeld 39=false:=by kernel_rfl
 have u3:=Tryz.underlying3;have a3:=Tryz.isAgg3;have z3:=Tryz.sizeOf3
 obtain ⟨x1,x2⟩:=x;obtain ⟨y1,y2⟩:=y
 rw [run_equalIn_agg w (d+1) 39 _ _ hS hp]
 simp only [Program.fieldsOf,Tryz.underlying39]
 go_simp
 by_cases h1:x1=y1 <;> by_cases h2:x2=y2 <;> simp [h1,h2]
theorem zo:yV Tryz.prog 85 Held.val:=by
 have hS:Tryz.prog.underlying 85=some (.struct (Tryz.prog.fieldsOf 85)):=by kernel_rfl
 have hp:Tryz.prog.stoodInHeld 85=false:=by kernel_rfl
 refine ot (cs:=Held.cs) (by kernel_rfl) fun x y w=>?_
 have u3:=Tryz.underlying3;have a3:=Tryz.isAgg3;have z3:=Tryz.sizeOf3;have a4:=Tryz.isAgg39;have z4:=Tryz.sizeOf39
 obtain ⟨⟨x1,x2⟩,x3⟩:=x;obtain ⟨⟨y1,y2⟩,y3⟩:=y
 rw [Op.equal,Op.maxDepth,show (10000:Nat)=9999+1 from rfl,run_equalIn_agg w 9999 85 _ _ hS hp]
 have hpl:=fun w=>wc 9997 ⟨x1,x2⟩ ⟨y1,y2⟩ w
 simp only [Nat.reduceAdd] at hpl
 simp only [Program.fieldsOf,Tryz.underlying85]
 go_simp
 by_cases h1:x1=y1 <;> by_cases h2:x2=y2 <;> by_cases h3:x3=y3 <;> simp [h1,h2,h3]
theorem zp:yV Tryz.prog 52 Change.val:=by
 have hS:Tryz.prog.underlying 52=some (.struct (Tryz.prog.fieldsOf 52)):=by kernel_rfl
 have hp:Tryz.prog.stoodInHeld 52=false:=by kernel_rfl
 refine ot (cs:=Change.cs) (by kernel_rfl) fun x y w=>?_
 have u3:=Tryz.underlying9;have a3:=Tryz.isAgg9;have z3:=Tryz.sizeOf9;have u4:=Tryz.underlying4;have a4:=Tryz.isAgg4;have z4:=Tryz.sizeOf4
 obtain ⟨x1,x2,x3⟩:=x;obtain ⟨y1,y2,y3⟩:=y
 rw [Op.equal,Op.maxDepth,show (10000:Nat)=9999+1 from rfl,run_equalIn_agg w 9999 52 _ _ hS hp]
 simp only [Program.fieldsOf,Tryz.underlying52]
 go_simp
 have tl:∀a b:ByteArray,a.toList=b.toList↔a=b:=fun a b=>by have:=gP a b;rw [Bool.eq_iff_iff] at this;simpa using this
 by_cases h1:x1=y1 <;> by_cases h2:x2=y2 <;> by_cases h3:x3=y3 <;> simp [h1,h2,h3,tl]
section
variable {α:Type} [DecidableEq α] {a b:List α}
theorem ej (h:¬ a.length=b.length):false=decide (a=b):=(decide_eq_false (fun e=>h (by rw [e]))).symm
theorem eo {k:Nat}{x y:α}(hx:a[k]? = some x)(hy:b[k]? = some y)(h:¬ x=y):false=decide (a=b):=(decide_eq_false (fun e=>h (by rw [e,hy] at hx;injection hx with hx;exact hx.symm))).symm
theorem dN {k:Nat}(hl:a.length=b.length)(hk:¬ k<a.length)(h:∀j,j<k→a[j]? = b[j]?):true=decide (a=b):=by
 refine (decide_eq_true (List.ext_getElem? fun j=>?_)).symm
 rcases Nat.lt_or_ge j k with h1|h1
 ·exact h j h1
 ·rw [List.getElem?_eq_none (by omega),List.getElem?_eq_none (by omega)]
theorem gC {k:Nat}{x y:α}(h:∀j,j<k→a[j]? = b[j]?)(hx:a[k]? = some x)(hy:b[k]? = some y)(e:x=y):∀j,j<k+1→a[j]? = b[j]?:=by
 intro j hj
 rcases Nat.lt_or_ge j k with h1|h1
 ·exact h j h1
 ·
  have:j=k:=by omega
  subst this;rw [hx,hy,e]
end
end Go.Proofs.YtbkfhjaibhnkmaaGreatDoor
end
section
namespace Go.Proofs.YtbkfhjaibhnkmaaGreatDoor
set_option linter.unusedVariables false
theorem lQ {α:Type}{l u:List α}{i:Nat}(h:i=l.length):l.take i++u++l.drop i=l++u:=by
 subst h;simp
theorem j8 {α:Type}{l u:List α}{i m:Nat}{z:α}(hu:u.length=1)(hi:i<l.length)(hm:m=l.length+u.length-i) :
 l.take i++u++l.drop i=((l.take i++List.replicate m z).take i++u++(l.take i++List.replicate m z).drop (i+u.length)).take (i+u.length)++l.drop i++((l.take i++List.replicate m z).take i++u++(l.take i++List.replicate m z).drop (i+u.length)).drop (i+u.length+(l.drop i).length):=by
 have h1:(l.take i).length=i:=by rw [List.length_take];omega
 have h2:((l.take i++List.replicate m z).take i)=l.take i:=by rw [List.take_append_of_le_length (by omega),List.take_of_length_le (by omega)]
 have h3:(l.take i++u).length=i+u.length:=by rw [List.length_append,h1]
 rw [h2,List.take_append_of_le_length (by omega),List.take_of_length_le (l:=l.take i++u) (by omega)]
 have h4:(l.take i++u++(l.take i++List.replicate m z).drop (i+u.length)).length≤i+u.length+(l.drop i).length:=by
  simp only [List.length_append,List.length_drop,h1,List.length_replicate];omega
 rw [List.drop_of_length_le h4,List.append_nil]
theorem ou {α:Type}{l u:List α}{i:Nat}(hu:u.length=1)(hi:i<l.length) :
 l.take i++u++l.drop i=(l.take (i+1)++l.drop i).take i++u++(l.take (i+1)++l.drop i).drop (i+u.length):=by
 have h1:(l.take (i+1)).length=i+1:=by rw [List.length_take];omega
 rw [hu,List.take_append_of_le_length (by omega),List.take_take,Nat.min_eq_left (by omega),List.drop_append_of_le_length (by omega),List.drop_of_length_le (l:=l.take (i+1)) (by omega),List.nil_append]
theorem i6 {α:Type}{l:List α}{i j:Nat}(h:i=j):l.take i++l.drop j=l:=by subst h;simp
section
variable {α:Type}
def bsGo (f:α→Int)(l:List α)(lo hi:Nat):Nat :=
  if h:lo<hi then
    match l[(lo+hi) / 2]? with
    | some x=>if f x<0 then bsGo f l ((lo+hi) / 2+1) hi else bsGo f l lo ((lo+hi) / 2)
    | none=>lo
  else lo
termination_by hi-lo
decreasing_by all_goals omega
def pb (f:α→Int)(l:List α):Nat:=bsGo f l 0 l.length
def tT (f:α→Int)(l:List α):Bool:=match l[pb f l]? with|some x=>decide (f x=0)|none=>false
variable {f:α→Int} {l:List α} {lo hi:Nat} {x:α}
theorem tU (h:lo<hi)(hx:l[(lo+hi) / 2]? = some x)(hf:f x<0):bsGo f l lo hi=bsGo f l ((lo+hi) / 2+1) hi:=by
 rw [bsGo,dif_pos h,hx];simp [hf]
theorem tV (h:lo<hi)(hx:l[(lo+hi) / 2]? = some x)(hf:¬ f x<0):bsGo f l lo hi=bsGo f l lo ((lo+hi) / 2):=by
 rw [bsGo,dif_pos h,hx];simp [hf]
theorem hZ (h:¬ lo<hi):bsGo f l lo hi=lo:=by rw [bsGo,dif_neg h]
theorem yb:∀ (n lo hi:Nat),hi-lo=n→lo≤hi→bsGo f l lo hi≤hi:=by
 intro n
 induction n using Nat.strongRecOn with
 | _ n ih =>
  intro lo hi hn hle
  rw [bsGo]
  split
  ·
   split
   ·
    split
    ·exact ih (hi-((lo+hi) / 2+1)) (by omega) _ _ rfl (by omega)
    ·exact Nat.le_trans (ih ((lo+hi) / 2-lo) (by omega) _ _ rfl (by omega)) (by omega)
   ·exact hle
  ·exact hle
theorem wh:pb f l≤l.length:=yb _ 0 l.length rfl (Nat.zero_le _)
theorem wi (h:tT f l=true):∃x,l[pb f l]? = some x∧f x=0:=by
 unfold tT at h
 split at h
 ·rename_i x hx;exact ⟨x,hx,of_decide_eq_true h⟩
 ·cases h
theorem uL (hm:∀ (i j:Nat) x y,i≤j→l[i]? = some x→l[j]? = some y→f y<0→f x<0):∀ (n lo hi:Nat),hi-lo=n→lo≤hi→hi≤l.length →
 (∀ (i:Nat) x,i<lo→l[i]? = some x→f x<0)→(∀ (i:Nat) x,hi≤i→l[i]? = some x→¬ f x<0) →
 (∀ (i:Nat) x,i<bsGo f l lo hi→l[i]? = some x→f x<0)∧(∀ (i:Nat) x,bsGo f l lo hi≤i→l[i]? = some x→¬ f x<0):=by
 intro n
 induction n using Nat.strongRecOn with
 | _ n ih =>
  intro lo hi hn hle hl h1 h2
  by_cases hlt:lo<hi
  ·
   obtain ⟨x,hx⟩:∃x,l[(lo+hi) / 2]? = some x:=⟨_,List.getElem?_eq_getElem (by omega)⟩
   by_cases hf:f x<0
   ·
    rw [tU hlt hx hf]
    exact ih (hi-((lo+hi) / 2+1)) (by omega) _ _ rfl (by omega) hl (fun i y hi' hy=>hm i ((lo+hi) / 2) y x (by omega) hy hx hf) h2
   ·
    rw [tV hlt hx hf]
    exact ih ((lo+hi) / 2-lo) (by omega) _ _ rfl (by omega) (by omega) h1 (fun i y hi' hy hc=>hf (hm ((lo+hi) / 2) i x y hi' hx hy hc))
  ·
   rw [hZ hlt]
   have:lo=hi:=by omega
   subst this
   exact ⟨h1,h2⟩
theorem qX (hm:∀ (i j:Nat) x y,i≤j→l[i]? = some x→l[j]? = some y→f y<0→f x<0) :
 (∀ (i:Nat) x,i<pb f l→l[i]? = some x→f x<0)∧(∀ (i:Nat) x,pb f l≤i→l[i]? = some x→¬ f x<0) :=
 uL hm _ 0 l.length rfl (Nat.zero_le _) (Nat.le_refl _) (fun i x hi=>absurd hi (Nat.not_lt_zero _)) (fun i x hi hx=>by
  have:=(List.getElem?_eq_some_iff.1 hx).1;omega)
end
def kN (a b:Int):Int:=if a<b then -1 else if b<a then 1 else 0
def wj:List Int→Int
  | []=>0
  | x::l=>if x=0 then wj l else x
theorem wk {l:List Int}{k:Nat}{x:Int}(h:l[k]? = some x)(h0:x=0):wj (l.drop k)=wj (l.drop (k+1)):=by
 have hk:=(List.getElem?_eq_some_iff.1 h).1
 have he:=(List.getElem?_eq_some_iff.1 h).2
 rw [List.drop_eq_getElem_cons hk,he];simp [wj,h0]
theorem yc {l:List Int}{k:Nat}{x:Int}(h:l[k]? = some x)(h0:¬ x=0):wj (l.drop k)=x:=by
 have hk:=(List.getElem?_eq_some_iff.1 h).1
 have he:=(List.getElem?_eq_some_iff.1 h).2
 rw [List.drop_eq_getElem_cons hk,he];simp [wj,h0]
end Go.Proofs.YtbkfhjaibhnkmaaGreatDoor
end
section
namespace Go.Proofs.YtbkfhjaibhnkmaaGreatDoor
set_option linter.unusedVariables false
def aX (p:Place):Int:=if p.ao<1∨4<p.ao∨p.Slot<0∨5<p.Slot then 1 else 0
def kO (p q:Place):Int:=if kN p.ao q.ao=0 then kN p.Slot q.Slot else kN p.ao q.ao
theorem yd (p q:Place):wj [kN p.ao q.ao,kN p.Slot q.Slot]=kO p q:=by
 simp only [wj,kO]
 split
 ·
  split
  ·rename_i h;exact h.symm
  ·rfl
 ·rfl
theorem uM {p q:Place}(h:kO p q=0):p=q:=by
 cases p;cases q
 simp only [kO,kN] at h
 simp only [Place.mk.injEq]
 split at h <;> (try split at h) <;> (try split at h) <;> (try split at h) <;> omega
theorem uN (p:Place):kO p p=0:=by simp [kO,kN]
def dE (l:List Held)(p:Place):Nat:=pb (fun h=>kO h.Place p) l
def uO (l:List Held)(p:Place):Bool:=tT (fun h=>kO h.Place p) l
theorem nE (l:List Held)(p:Place):dE l p≤l.length:=wh
theorem mB (l:List Held)(p:Place):uO l p=false ∨ ∃x,l[dE l p]? = some x∧uO l p=true∧x.Place=p∧dE l p<l.length:=by
 cases h:uO l p with
 | false=>exact .inl rfl
 | true =>
  obtain ⟨x,h1,h2⟩:=wi h
  exact .inr ⟨x,h1,rfl,uM h2,(List.getElem?_eq_some_iff.1 h1).1⟩
def iQ (l:List Held)(p:Place):Int:=if uO l p then (match l[dE l p]? with|some x=>x.aj|none=>0) else 0
theorem sv {l:List Held}{p:Place}(h:uO l p=false):iQ l p=0:=by simp [iQ,h]
theorem qk {l:List Held}{p:Place}{x:Held}(h:uO l p=true)(hx:l[dE l p]? = some x):iQ l p=x.aj:=by simp [iQ,h,hx]
def cE (l:List Held)(p:Place)(id:Int):List Held :=
  if uO l p then (if id=0 then l.take (dE l p)++l.drop (dE l p+1) else l.set (dE l p) ⟨p,id⟩)
  else if id=0 then l else l.take (dE l p)++[⟨p,id⟩]++l.drop (dE l p)
theorem i7 (l:List Held)(p:Place)(id:Int):(cE l p id).length≤l.length+1:=by
 have:=nE l p
 unfold cE;split <;> split <;> simp <;> omega
def ia (l:List Held)(h:Int):Nat→Nat→Int
  | 0,_ => -1
  | n+1,s=>if iQ l ⟨h,s⟩=0 then s else ia l h n (s+1)
def eu (l:List Held)(h:Int):Int:=ia l h 6 0
theorem sy {l:List Held}{h:Int}{n s:Nat}(e:iQ l ⟨h,s⟩=0)(hn:0<n):ia l h n s=s:=by
 cases n with
 | zero=>omega
 | succ n=>simp [ia,e]
theorem qY {l:List Held}{h:Int}{s:Nat}(e:¬ iQ l ⟨h,s⟩=0)(hs:s<6):ia l h (6-s) s=ia l h (6-(s+1)) (s+1):=by
 have:6-s=(6-(s+1))+1:=by omega
 rw [this];simp only [ia];rw [if_neg e]
def m0 (l:List Held)(p:Place):Int:=match l.find? (fun h=>h.Place==p) with|some h=>h.aj|none=>0
def jA (p:Place)(id:Int)(s:List Held×Bool)(h:Held):List Held×Bool :=
  let s1:=if s.2=false∧(p.ao<h.Place.ao∨(p.ao=h.Place.ao∧p.Slot≤h.Place.Slot)) then (s.1++[⟨p,id⟩],true) else s
  (if h.Place=p then s1.1 else s1.1++[h],s1.2)
theorem ov {p:Place}{id:Int}{acc:List Held}{h:Held}(ho:p.ao<h.Place.ao∨(p.ao=h.Place.ao∧p.Slot≤h.Place.Slot)):jA p id (acc,false) h=(if h.Place=p then acc++[⟨p,id⟩] else acc++[⟨p,id⟩]++[h],true):=by
 unfold jA;rw [if_pos ⟨rfl,ho⟩]
theorem j9 {p:Place}{id:Int}{acc:List Held}{b:Bool}{h:Held}(ho:b=true∨¬ (p.ao<h.Place.ao∨(p.ao=h.Place.ao∧p.Slot≤h.Place.Slot))):jA p id (acc,b) h=(if h.Place=p then acc else acc++[h],b):=by
 unfold jA;rw [if_neg (fun hh=>by
  rcases ho with ho|ho;· rw [ho] at hh;cases hh.1
  ·exact ho hh.2)]
def qZ (l:List Held)(p:Place)(id:Int):List Held×Bool:=l.foldl (jA p id) ([],id==0)
def sA (l:List Held)(p:Place)(id:Int):List Held:=if (qZ l p id).2 then (qZ l p id).1 else (qZ l p id).1++[⟨p,id⟩]
theorem kV (p:Place):aX p=0∨aX p=1:=by unfold aX;split <;> simp
theorem cZ {p:Place}(h:p.ao<1∨4<p.ao∨p.Slot<0∨5<p.Slot):aX p=1:=if_pos h
theorem cd {p:Place}(h:1≤p.ao∧p.ao≤4∧0≤p.Slot∧p.Slot≤5):aX p=0:=if_neg (by omega)
theorem bS {p:Place}(h:aX p=0):1≤p.ao∧p.ao≤4∧0≤p.Slot∧p.Slot≤5:=by
 unfold aX at h;split at h <;> omega
def e7 (p q:Place):Prop:=p.ao<q.ao∨(p.ao=q.ao∧p.Slot<q.Slot)
def GoodAt (l:List Held)(k:Nat):Prop:= ∀h,l[k]? = some h→aX h.Place=0∧h.aj≠0 ∧ ∀g,0<k→l[k-1]? = some g→e7 g.Place h.Place
def Good (l:List Held):Prop:= ∀k,k<l.length→GoodAt l k
noncomputable def ka (l:List Held):Bool:= @decide (Good l) (Classical.propDecidable _)
theorem lR {l:List Held}(h:Good l):ka l=true:=by unfold ka;simp [h]
theorem iI {l:List Held}{k:Nat}(hk:k<l.length)(h:¬ GoodAt l k):ka l=false:=by
 unfold ka;simp;exact fun hg=>h (hg k hk)
theorem mC {l:List Held}{k:Nat}(h:∀j,j<k→GoodAt l j)(hk:GoodAt l k):∀j,j<k+1→GoodAt l j:=fun j hj=>by
 rcases Nat.lt_or_ge j k with h1|h1
 ·exact h j h1
 ·
  have:j=k:=by omega
  subst this;exact hk
end Go.Proofs.YtbkfhjaibhnkmaaGreatDoor
end
