import Derived.Test.YtbkfhjaibhnkmaaGreatDoorIMS11
import Derived.Laws.StructEq
import Derived.Test.YtbkfhjaibhnkmaaGreatDoorIMS1
section
namespace Go.Proofs.YtbkfhjaibhnkmaaGreatDoor
open Go Go.RowKit
set_option linter.unusedVariables false
set_option linter.unusedSimpArgs false
set_option linter.unusedSectionVars false
set_option maxRecDepth 100000
theorem sW {P:Program}{op:BinOp}{t:TypeId}(h:P.eqGuardType P.depth t=false)(a b:Operand)(xs ys:Array Value)(w:World):(eqGuard op t a b (.agg xs) (.agg ys)).run P w = .ok () w:=by
 have hp:(program:Sem Program).run P w = .ok P w:=rfl
 cases op <;> simp [eqGuard,hp,h]
theorem o0 {P:Program}{t:TypeId}{β:Type}[DecidableEq β]{cs:β→List Value}(hg:P.eqGuardType P.depth t=false)(he:∀x y w,(Op.equal t (.agg (cs x).toArray) (.agg (cs y).toArray)).run P w = .ok (decide (x=y)) w):Ao P t (fun x => .agg (cs x).toArray):=by
 refine ⟨fun x y w a b=>⟨sW hg a b _ _ w,sW hg a b _ _ w⟩,fun x y w=>⟨?_,?_⟩⟩
 ·simp only [binOp,Sem.run_bind,he x y w,Result.andThen_ok,Sem.run_pure]
 ·simp only [binOp,Sem.run_bind,he x y w,Result.andThen_ok,Sem.run_pure]
theorem sX:Ao Tryz.prog 88 ak.val:=by
 have hS:Tryz.prog.underlying 88=some (.struct (Tryz.prog.fieldsOf 88)):=by kernel_rfl
 have hp:Tryz.prog.stoodInHeld 88=false:=by kernel_rfl
 refine o0 (cs:=ak.cs) (by kernel_rfl) fun x y w=>?_
 have u3:=Tryz.underlying3;have a3:=Tryz.isAgg3;have z3:=Tryz.sizeOf3
 obtain ⟨x1,x2,x3,x4,x5⟩:=x;obtain ⟨y1,y2,y3,y4,y5⟩:=y
 rw [Op.equal,Op.maxDepth,show (10000:Nat)=9999+1 from rfl,run_equalIn_agg w 9999 88 _ _ hS hp]
 simp only [Program.fieldsOf,Tryz.underlying88]
 go_simp
 by_cases h1:x1=y1 <;> by_cases h2:x2=y2 <;> by_cases h3:x3=y3 <;> by_cases h4:x4=y4 <;> by_cases h5:x5=y5 <;> simp [h1,h2,h3,h4,h5]
theorem gK:Ao Tryz.prog 39 Place.val:=by
 have hS:Tryz.prog.underlying 39=some (.struct (Tryz.prog.fieldsOf 39)):=by kernel_rfl
 have hp:Tryz.prog.stoodInHeld 39=false:=by kernel_rfl
 refine o0 (cs:=fun x:Place=>[.int .i64 x.aj,.int .i64 x.Slot]) (by kernel_rfl) fun x y w=>?_
 have u3:=Tryz.underlying3;have a3:=Tryz.isAgg3;have z3:=Tryz.sizeOf3
 obtain ⟨x1,x2⟩:=x;obtain ⟨y1,y2⟩:=y
 rw [Op.equal,Op.maxDepth,show (10000:Nat)=9999+1 from rfl,run_equalIn_agg w 9999 39 _ _ hS hp]
 simp only [Program.fieldsOf,Tryz.underlying39]
 go_simp
 by_cases h1:x1=y1 <;> by_cases h2:x2=y2 <;> simp [h1,h2]
theorem AX (d:Nat)(x y:Place)(w:World):(Op.equalIn (d+1+1) 39 (.agg #[.int .i64 x.aj,.int .i64 x.Slot]) (.agg #[.int .i64 y.aj,.int .i64 y.Slot])).run Tryz.prog w = .ok (decide (x=y)) w:=by
 have hS:Tryz.prog.underlying 39=some (.struct (Tryz.prog.fieldsOf 39)):=by kernel_rfl
 have hp:Tryz.prog.stoodInHeld 39=false:=by kernel_rfl
 have u3:=Tryz.underlying3;have a3:=Tryz.isAgg3;have z3:=Tryz.sizeOf3
 obtain ⟨x1,x2⟩:=x;obtain ⟨y1,y2⟩:=y
 rw [run_equalIn_agg w (d+1) 39 _ _ hS hp]
 simp only [Program.fieldsOf,Tryz.underlying39]
 go_simp
 by_cases h1:x1=y1 <;> by_cases h2:x2=y2 <;> simp [h1,h2]
theorem EG:Ao Tryz.prog 85 Held.val:=by
 have hS:Tryz.prog.underlying 85=some (.struct (Tryz.prog.fieldsOf 85)):=by kernel_rfl
 have hp:Tryz.prog.stoodInHeld 85=false:=by kernel_rfl
 refine o0 (cs:=Held.cs) (by kernel_rfl) fun x y w=>?_
 have u3:=Tryz.underlying3;have a3:=Tryz.isAgg3;have z3:=Tryz.sizeOf3;have a4:=Tryz.isAgg39;have z4:=Tryz.sizeOf39
 obtain ⟨⟨x1,x2⟩,x3⟩:=x;obtain ⟨⟨y1,y2⟩,y3⟩:=y
 rw [Op.equal,Op.maxDepth,show (10000:Nat)=9999+1 from rfl,run_equalIn_agg w 9999 85 _ _ hS hp]
 have hpl:=fun w=>AX 9997 ⟨x1,x2⟩ ⟨y1,y2⟩ w
 simp only [Nat.reduceAdd] at hpl
 simp only [Program.fieldsOf,Tryz.underlying85]
 go_simp
 by_cases h1:x1=y1 <;> by_cases h2:x2=y2 <;> by_cases h3:x3=y3 <;> simp [h1,h2,h3]
theorem pT:Ao Tryz.prog 52 Change.val:=by
 have hS:Tryz.prog.underlying 52=some (.struct (Tryz.prog.fieldsOf 52)):=by kernel_rfl
 have hp:Tryz.prog.stoodInHeld 52=false:=by kernel_rfl
 refine o0 (cs:=Change.cs) (by kernel_rfl) fun x y w=>?_
 have u3:=Tryz.underlying9;have a3:=Tryz.isAgg9;have z3:=Tryz.sizeOf9;have u4:=Tryz.underlying4;have a4:=Tryz.isAgg4;have z4:=Tryz.sizeOf4
 obtain ⟨x1,x2,x3⟩:=x;obtain ⟨y1,y2,y3⟩:=y
 rw [Op.equal,Op.maxDepth,show (10000:Nat)=9999+1 from rfl,run_equalIn_agg w 9999 52 _ _ hS hp]
 simp only [Program.fieldsOf,Tryz.underlying52]
 go_simp
 have tl:∀a b:ByteArray,a.toList=b.toList↔a=b:=fun a b=>by have:=i7 a b;rw [Bool.eq_iff_iff] at this;simpa using this
 by_cases h1:x1=y1 <;> by_cases h2:x2=y2 <;> by_cases h3:x3=y3 <;> simp [h1,h2,h3,tl]
section
variable {α:Type} [DecidableEq α] {a b:List α}
theorem ow (h:¬ a.length=b.length):false=decide (a=b):=(decide_eq_false (fun e=>h (by rw [e]))).symm
theorem ox {k:Nat}{x y:α}(hx:a[k]? = some x)(hy:b[k]? = some y)(h:¬ x=y):false=decide (a=b):=(decide_eq_false (fun e=>h (by rw [e,hy] at hx;injection hx with hx;exact hx.symm))).symm
theorem kK {k:Nat}(hl:a.length=b.length)(hk:¬ k<a.length)(h:∀j,j<k→a[j]? = b[j]?):true=decide (a=b):=by
 refine (decide_eq_true (List.ext_getElem? fun j=>?_)).symm
 rcases Nat.lt_or_ge j k with h1|h1
 ·exact h j h1
 ·rw [List.getElem?_eq_none (by omega),List.getElem?_eq_none (by omega)]
theorem jA {k:Nat}{x y:α}(h:∀j,j<k→a[j]? = b[j]?)(hx:a[k]? = some x)(hy:b[k]? = some y)(e:x=y):∀j,j<k+1→a[j]? = b[j]?:=by
 intro j hj
 rcases Nat.lt_or_ge j k with h1|h1
 ·exact h j h1
 ·
  have:j=k:=by omega
  subst this;rw [hx,hy,e]
end
end Go.Proofs.YtbkfhjaibhnkmaaGreatDoor
end
section
namespace Go.Proofs.YtbkfhjaibhnkmaaGreatDoor
set_option linter.unusedVariables false
theorem Df {α:Type}{l u:List α}{i:Nat}(h:i=l.length):l.take i++u++l.drop i=l++u:=by
 subst h;simp
theorem AY {α:Type}{l u:List α}{i m:Nat}{z:α}(hu:u.length=1)(hi:i<l.length)(hm:m=l.length+u.length-i) :
 l.take i++u++l.drop i=((l.take i++List.replicate m z).take i++u++(l.take i++List.replicate m z).drop (i+u.length)).take (i+u.length)++l.drop i++((l.take i++List.replicate m z).take i++u++(l.take i++List.replicate m z).drop (i+u.length)).drop (i+u.length+(l.drop i).length):=by
 have h1:(l.take i).length=i:=by rw [List.length_take];omega
 have h2:((l.take i++List.replicate m z).take i)=l.take i:=by rw [List.take_append_of_le_length (by omega),List.take_of_length_le (by omega)]
 have h3:(l.take i++u).length=i+u.length:=by rw [List.length_append,h1]
 rw [h2,List.take_append_of_le_length (by omega),List.take_of_length_le (l:=l.take i++u) (by omega)]
 have h4:(l.take i++u++(l.take i++List.replicate m z).drop (i+u.length)).length≤i+u.length+(l.drop i).length:=by
  simp only [List.length_append,List.length_drop,h1,List.length_replicate];omega
 rw [List.drop_of_length_le h4,List.append_nil]
theorem AZ {α:Type}{l u:List α}{i:Nat}(hu:u.length=1)(hi:i<l.length) :
 l.take i++u++l.drop i=(l.take (i+1)++l.drop i).take i++u++(l.take (i+1)++l.drop i).drop (i+u.length):=by
 have h1:(l.take (i+1)).length=i+1:=by rw [List.length_take];omega
 rw [hu,List.take_append_of_le_length (by omega),List.take_take,Nat.min_eq_left (by omega),List.drop_append_of_le_length (by omega),List.drop_of_length_le (l:=l.take (i+1)) (by omega),List.nil_append]
theorem vj {α:Type}{l:List α}{i j:Nat}(h:i=j):l.take i++l.drop j=l:=by subst h;simp
section
variable {α:Type}
def bsGo (f:α→Int)(l:List α)(lo hi:Nat):Nat :=
  if h:lo<hi then
    match l[(lo+hi) / 2]? with
    | some x=>if f x<0 then bsGo f l ((lo+hi) / 2+1) hi else bsGo f l lo ((lo+hi) / 2)
    | none=>lo
  else lo
termination_by hi-lo
decreasing_by all_goals omega
def mQ (f:α→Int)(l:List α):Nat:=bsGo f l 0 l.length
def mR (f:α→Int)(l:List α):Bool:=match l[mQ f l]? with|some x=>decide (f x=0)|none=>false
variable {f:α→Int} {l:List α} {lo hi:Nat} {x:α}
theorem tZ (h:lo<hi)(hx:l[(lo+hi) / 2]? = some x)(hf:f x<0):bsGo f l lo hi=bsGo f l ((lo+hi) / 2+1) hi:=by
 rw [bsGo,dif_pos h,hx];simp [hf]
theorem t6 (h:lo<hi)(hx:l[(lo+hi) / 2]? = some x)(hf:¬ f x<0):bsGo f l lo hi=bsGo f l lo ((lo+hi) / 2):=by
 rw [bsGo,dif_pos h,hx];simp [hf]
theorem fM (h:¬ lo<hi):bsGo f l lo hi=lo:=by rw [bsGo,dif_neg h]
theorem Dh:∀ (n lo hi:Nat),hi-lo=n→lo≤hi→bsGo f l lo hi≤hi:=by
 intro n
 induction n using Nat.strongRecOn with
 | _ n ih =>
  intro lo hi hn hle
  rw [bsGo]
  split
  ·
   split
   ·
    split
    ·exact ih (hi-((lo+hi) / 2+1)) (by omega) _ _ rfl (by omega)
    ·exact Nat.le_trans (ih ((lo+hi) / 2-lo) (by omega) _ _ rfl (by omega)) (by omega)
   ·exact hle
  ·exact hle
theorem A8:mQ f l≤l.length:=Dh _ 0 l.length rfl (Nat.zero_le _)
theorem vk (h:mR f l=true):∃x,l[mQ f l]? = some x∧f x=0:=by
 unfold mR at h
 split at h
 ·rename_i x hx;exact ⟨x,hx,of_decide_eq_true h⟩
 ·cases h
theorem zm (hm:∀ (i j:Nat) x y,i≤j→l[i]? = some x→l[j]? = some y→f y<0→f x<0):∀ (n lo hi:Nat),hi-lo=n→lo≤hi→hi≤l.length →
 (∀ (i:Nat) x,i<lo→l[i]? = some x→f x<0)→(∀ (i:Nat) x,hi≤i→l[i]? = some x→¬ f x<0) →
 (∀ (i:Nat) x,i<bsGo f l lo hi→l[i]? = some x→f x<0)∧(∀ (i:Nat) x,bsGo f l lo hi≤i→l[i]? = some x→¬ f x<0):=by
 intro n
 induction n using Nat.strongRecOn with
 | _ n ih =>
  intro lo hi hn hle hl h1 h2
  by_cases hlt:lo<hi
  ·
   obtain ⟨x,hx⟩:∃x,l[(lo+hi) / 2]? = some x:=⟨_,List.getElem?_eq_getElem (by omega)⟩
   by_cases hf:f x<0
   ·
    rw [tZ hlt hx hf]
    exact ih (hi-((lo+hi) / 2+1)) (by omega) _ _ rfl (by omega) hl (fun i y hi' hy=>hm i ((lo+hi) / 2) y x (by omega) hy hx hf) h2
   ·
    rw [t6 hlt hx hf]
    exact ih ((lo+hi) / 2-lo) (by omega) _ _ rfl (by omega) (by omega) h1 (fun i y hi' hy hc=>hf (hm ((lo+hi) / 2) i x y hi' hx hy hc))
  ·
   rw [fM hlt]
   have:lo=hi:=by omega
   subst this
   exact ⟨h1,h2⟩
theorem vm (hm:∀ (i j:Nat) x y,i≤j→l[i]? = some x→l[j]? = some y→f y<0→f x<0) :
 (∀ (i:Nat) x,i<mQ f l→l[i]? = some x→f x<0)∧(∀ (i:Nat) x,mQ f l≤i→l[i]? = some x→¬ f x<0) :=
 zm hm _ 0 l.length rfl (Nat.zero_le _) (Nat.le_refl _) (fun i x hi=>absurd hi (Nat.not_lt_zero _)) (fun i x hi hx=>by
  have:=(List.getElem?_eq_some_iff.1 hx).1;omega)
end
def ng (a b:Int):Int:=if a<b then -1 else if b<a then 1 else 0
def A9:List Int→Int
  | []=>0
  | x::l=>if x=0 then A9 l else x
theorem Ba {l:List Int}{k:Nat}{x:Int}(h:l[k]? = some x)(h0:x=0):A9 (l.drop k)=A9 (l.drop (k+1)):=by
 have hk:=(List.getElem?_eq_some_iff.1 h).1
 have he:=(List.getElem?_eq_some_iff.1 h).2
 rw [List.drop_eq_getElem_cons hk,he];simp [A9,h0]
theorem Di {l:List Int}{k:Nat}{x:Int}(h:l[k]? = some x)(h0:¬ x=0):A9 (l.drop k)=x:=by
 have hk:=(List.getElem?_eq_some_iff.1 h).1
 have he:=(List.getElem?_eq_some_iff.1 h).2
 rw [List.drop_eq_getElem_cons hk,he];simp [A9,h0]
end Go.Proofs.YtbkfhjaibhnkmaaGreatDoor
end
section
namespace Go.Proofs.YtbkfhjaibhnkmaaGreatDoor
set_option linter.unusedVariables false
def bu (p:Place):Int:=if p.aj<1∨4<p.aj∨p.Slot<0∨5<p.Slot then 1 else 0
def nh (p q:Place):Int:=if ng p.aj q.aj=0 then ng p.Slot q.Slot else ng p.aj q.aj
theorem Dj (p q:Place):A9 [ng p.aj q.aj,ng p.Slot q.Slot]=nh p q:=by
 simp only [A9,nh]
 split
 ·
  split
  ·rename_i h;exact h.symm
  ·rfl
 ·rfl
theorem zn {p q:Place}(h:nh p q=0):p=q:=by
 cases p;cases q
 simp only [nh,ng] at h
 simp only [Place.mk.injEq]
 split at h <;> (try split at h) <;> (try split at h) <;> (try split at h) <;> omega
theorem zo (p:Place):nh p p=0:=by simp [nh,ng]
def eH (l:List Held)(p:Place):Nat:=mQ (fun h=>nh h.Place p) l
def zp (l:List Held)(p:Place):Bool:=mR (fun h=>nh h.Place p) l
theorem qu (l:List Held)(p:Place):eH l p≤l.length:=A8
theorem o5 (l:List Held)(p:Place):zp l p=false ∨ ∃x,l[eH l p]? = some x∧zp l p=true∧x.Place=p∧eH l p<l.length:=by
 cases h:zp l p with
 | false=>exact .inl rfl
 | true =>
  obtain ⟨x,h1,h2⟩:=vk h
  exact .inr ⟨x,h1,rfl,zn h2,(List.getElem?_eq_some_iff.1 h1).1⟩
def jY (l:List Held)(p:Place):Int:=if zp l p then (match l[eH l p]? with|some x=>x.ak|none=>0) else 0
theorem Bb {l:List Held}{p:Place}(h:zp l p=false):jY l p=0:=by simp [jY,h]
theorem yy {l:List Held}{p:Place}{x:Held}(h:zp l p=true)(hx:l[eH l p]? = some x):jY l p=x.ak:=by simp [jY,h,hx]
def cw (l:List Held)(p:Place)(id:Int):List Held :=
  if zp l p then (if id=0 then l.take (eH l p)++l.drop (eH l p+1) else l.set (eH l p) ⟨p,id⟩)
  else if id=0 then l else l.take (eH l p)++[⟨p,id⟩]++l.drop (eH l p)
theorem jD (l:List Held)(p:Place)(id:Int):(cw l p id).length≤l.length+1:=by
 have:=qu l p
 unfold cw;split <;> split <;> simp <;> omega
def iD (l:List Held)(h:Int):Nat→Nat→Int
  | 0,_ => -1
  | n+1,s=>if jY l ⟨h,s⟩=0 then s else iD l h n (s+1)
def dA (l:List Held)(h:Int):Int:=iD l h 6 0
theorem wV {l:List Held}{h:Int}{n s:Nat}(e:jY l ⟨h,s⟩=0)(hn:0<n):iD l h n s=s:=by
 cases n with
 | zero=>omega
 | succ n=>simp [iD,e]
theorem vo {l:List Held}{h:Int}{s:Nat}(e:¬ jY l ⟨h,s⟩=0)(hs:s<6):iD l h (6-s) s=iD l h (6-(s+1)) (s+1):=by
 have:6-s=(6-(s+1))+1:=by omega
 rw [this];simp only [iD];rw [if_neg e]
def jf (l:List Held)(p:Place):Int:=match l.find? (fun h=>h.Place==p) with|some h=>h.ak|none=>0
theorem zq {l:List Held}{p:Place}{k:Nat}{x:Held}(hx:l[k]? = some x)(he:x.Place=p)(hb:∀ (j:Nat) y,j<k→l[j]? = some y→¬ y.Place=p):jf l p=x.ak:=by
 have hk:=(List.getElem?_eq_some_iff.1 hx).1
 have:l.find? (fun h=>h.Place==p)=some x:=by
  rw [List.find?_eq_some_iff_getElem]
  refine ⟨by simp [he],k,hk,(List.getElem?_eq_some_iff.1 hx).2,fun j hj=>?_⟩
  have:=hb j l[j] hj (List.getElem?_eq_getElem (by omega))
  simp [this]
 simp [jf,this]
theorem wW {l:List Held}{p:Place}(hb:∀ (j:Nat) y,j<l.length→l[j]? = some y→¬ y.Place=p):jf l p=0:=by
 have:l.find? (fun h=>h.Place==p)=none:=by
  rw [List.find?_eq_none]
  intro x hx
  obtain ⟨j,hj⟩:=List.mem_iff_getElem?.1 hx
  have:=hb j x (List.getElem?_eq_some_iff.1 hj).1 hj
  simp [this]
 simp [jf,this]
def gQ (p:Place)(id:Int)(s:List Held×Bool)(h:Held):List Held×Bool :=
  let s1:=if s.2=false∧(p.aj<h.Place.aj∨(p.aj=h.Place.aj∧p.Slot≤h.Place.Slot)) then (s.1++[⟨p,id⟩],true) else s
  (if h.Place=p then s1.1 else s1.1++[h],s1.2)
theorem fD {p:Place}{id:Int}{acc:List Held}{h:Held}(ho:p.aj<h.Place.aj∨(p.aj=h.Place.aj∧p.Slot≤h.Place.Slot)):gQ p id (acc,false) h=(if h.Place=p then acc++[⟨p,id⟩] else acc++[⟨p,id⟩]++[h],true):=by
 unfold gQ;rw [if_pos ⟨rfl,ho⟩]
theorem dQ {p:Place}{id:Int}{acc:List Held}{b:Bool}{h:Held}(ho:b=true∨¬ (p.aj<h.Place.aj∨(p.aj=h.Place.aj∧p.Slot≤h.Place.Slot))):gQ p id (acc,b) h=(if h.Place=p then acc else acc++[h],b):=by
 unfold gQ;rw [if_neg (fun hh=>by
  rcases ho with ho|ho;· rw [ho] at hh;cases hh.1
  ·exact ho hh.2)]
def j4 (l:List Held)(p:Place)(id:Int):List Held×Bool:=l.foldl (gQ p id) ([],id==0)
def jl (l:List Held)(p:Place)(id:Int):List Held:=if (j4 l p id).2 then (j4 l p id).1 else (j4 l p id).1++[⟨p,id⟩]
theorem dx (l:List Held)(p:Place)(id:Int)(k:Nat)(x:Held)(h:l[k]? = some x):j4 (l.take (k+1)) p id=gQ p id (j4 (l.take k) p id) x:=by
 have hk:=(List.getElem?_eq_some_iff.1 h).1
 have:l.take (k+1)=l.take k++[x]:=by rw [List.take_add_one,h];rfl
 rw [this];simp [j4]
theorem vp (p:Place)(id:Int)(s:List Held×Bool)(h:Held):(gQ p id s h).1.length≤s.1.length+2:=by
 unfold gQ;dsimp only;split <;> split <;> simp <;> omega
theorem sY (l:List Held)(p:Place)(id:Int):(j4 l p id).1.length≤2*l.length:=by
 have:∀ (l:List Held) (s:List Held×Bool),(l.foldl (gQ p id) s).1.length≤s.1.length+2*l.length:=by
  intro l
  induction l with
  | nil=>intro s;simp
  | cons h l ih=>intro s;simp only [List.foldl_cons,List.length_cons];have:=ih (gQ p id s h);have:=vp p id s h;omega
 simpa [j4] using this l ([],id==0)
def iQ (l:List Held)(h:Int):Nat→Nat→Int
  | 0,_ => -1
  | n+1,s=>if jf l ⟨h,s⟩=0 then s else iQ l h n (s+1)
def t7 (l:List Held)(h:Int):Int:=iQ l h 6 0
theorem vq {l:List Held}{h:Int}{n s:Nat}(e:jf l ⟨h,s⟩=0)(hn:0<n):iQ l h n s=s:=by
 cases n with
 | zero=>omega
 | succ n=>simp [iQ,e]
theorem t8 {l:List Held}{h:Int}{s:Nat}(e:¬ jf l ⟨h,s⟩=0)(hs:s<6):iQ l h (6-s) s=iQ l h (6-(s+1)) (s+1):=by
 have:6-s=(6-(s+1))+1:=by omega
 rw [this];simp only [iQ];rw [if_neg e]
theorem eu (p:Place):bu p=0∨bu p=1:=by unfold bu;split <;> simp
theorem eL {p:Place}(h:p.aj<1∨4<p.aj∨p.Slot<0∨5<p.Slot):bu p=1:=if_pos h
theorem nx {p:Place}(h:1≤p.aj∧p.aj≤4∧0≤p.Slot∧p.Slot≤5):bu p=0:=if_neg (by omega)
theorem ck {p:Place}(h:bu p=0):1≤p.aj∧p.aj≤4∧0≤p.Slot∧p.Slot≤5:=by
 unfold bu at h;split at h <;> omega
def gM (p q:Place):Prop:=p.aj<q.aj∨(p.aj=q.aj∧p.Slot<q.Slot)
def GoodAt (l:List Held)(k:Nat):Prop:= ∀h,l[k]? = some h→bu h.Place=0∧h.ak≠0 ∧ ∀g,0<k→l[k-1]? = some g→gM g.Place h.Place
def Good (l:List Held):Prop:= ∀k,k<l.length→GoodAt l k
end Go.Proofs.YtbkfhjaibhnkmaaGreatDoor
end
section
namespace Go.Proofs.YtbkfhjaibhnkmaaGreatDoor
open Go Go.RowKit
set_option linter.unusedVariables false
theorem ny (k9:Value)(a:List ak)(lq:Value)(b:List ak)(w:World)(nK:Sl w k9 a)(o6:Sl w lq b):Calls Tryz.prog 52 #[k9,lq] w fun e w'=>e = .returned (.bool (decide (a=b)))∧Ext w w':=by
 have IJ:=nK.ec
 have IK:=o6.ec
 refine R.enter (n:=26) (vs:=[k9,lq]) [] [(0,k9),(1,lq)] Tryz.func52 O O O O ?_
 refine R.reg O<|R.u 1 O<|R.nil ?_
 refine R.reg O<|R.u 1 O<|R.q (q.len' (fun _=>Wd.old nK) O Tryz.underlying27) O<|R.u 1 O<|R.q (q.len' (fun _=>Wd.old o6) O Tryz.underlying27) O<|?_
 by_cases h1:a.length=b.length
 ·
  refine R.q (q.neq O O (bne_eq_false_iff_eq.2 (by omega))) O<|R.nil ?_
  refine R.aF O O ?_
  refine R.reg O<|R.u 1 O<|R.nil ?_
  refine R.loop (fun k:Nat=>[(0,k9),(1,lq),(5,iV (k:Int))]) (fun k:Nat=>[]) (fun k:Nat=>[]) (fun k:Nat=>k≤a.length ∧ ∀j,j<k→a[j]? = b[j]?) (fun k:Nat=>a.length-k) 0 O (by exact ⟨by omega,fun j hj=>absurd hj (Nat.not_lt_zero _)⟩) ⟨rfl,rfl,rfl,trivial⟩ (fun _=>Wd.pick [] [] O O O) ?_
  rintro k ⟨hk,HA⟩
  refine R.reg O<|R.u 2 O<|R.q (q.len' (fun _=>Wd.old nK) O Tryz.underlying27) O<|?_
  by_cases h2:k<a.length
  ·
   refine R.q (q.lss O O (decide_eq_true (by omega))) O<|R.nil ?_
   refine R.aE O O ?_
   obtain ⟨x1,hx1⟩:∃z,a[k]? = some z:=⟨_,List.getElem?_eq_getElem (by omega)⟩
   obtain ⟨x2,hx2⟩:∃z,b[k]? = some z:=⟨_,List.getElem?_eq_getElem (by omega)⟩
   by_cases h3:x1=x2
   ·
    refine R.dP O mixed (by kernel_rfl)<|Q.u 2 O<|Q.q (q.idx (i:=k) (fun _=>Wd.old nK) O O cK O hx1) O<|Q.q (q.cY (ds:=ay x1) (fun _=>Wd.old nK) hx1 O aP O) O<|Q.u 2 O<|Q.q (q.idx (i:=k) (fun _=>Wd.old o6) O O cK O hx2) O<|Q.q (q.cY (ds:=ay x2) (fun _=>Wd.old o6) hx2 O aP O) O<|Q.q (q.gX (x:=x1) (y:=x2) sX O O h3) O<|Q.nil ?_
    refine R.aF O O ?_
    refine R.reg O<|R.u 1 O<|R.q (q.add (r:=((k+1:Nat):Int)) O O (wr (by omega))) O<|R.u 1 O<|R.nil ?_
    refine R.back (k+1) O (by (exact ⟨by omega,jA HA hx1 hx2 ‹_›⟩)) (by omega) ⟨rfl,rfl,rfl,trivial⟩ (fun _=>Wd.pick [] [] O O O)
   ·
    refine R.dP O mixed (by kernel_rfl)<|Q.u 2 O<|Q.q (q.idx (i:=k) (fun _=>Wd.old nK) O O cK O hx1) O<|Q.q (q.cY (ds:=ay x1) (fun _=>Wd.old nK) hx1 O aP O) O<|Q.u 2 O<|Q.q (q.idx (i:=k) (fun _=>Wd.old o6) O O cK O hx2) O<|Q.q (q.cY (ds:=ay x2) (fun _=>Wd.old o6) hx2 O aP O) O<|Q.q (q.gY (x:=x1) (y:=x2) sX O O h3) O<|Q.nil ?_
    refine R.aE O O ?_
    refine R.reg O<|R.u 1 O<|R.nil ?_
    exact R.rv O Tryz.results52 O (rB (by (exact ox hx1 hx2 ‹_›)))
  ·
   refine R.q (q.lss O O (decide_eq_false (by omega))) O<|R.nil ?_
   refine R.aF O O ?_
   refine R.reg O<|R.u 1 O<|R.nil ?_
   exact R.rv O Tryz.results52 O (rB (by (exact kK ‹_› ‹_› HA)))
 ·
  refine R.q (q.neq O O (bne_iff_ne.2 (by omega))) O<|R.nil ?_
  refine R.aE O O ?_
  refine R.reg O<|R.u 1 O<|R.nil ?_
  exact R.rv O Tryz.results52 O (rB (by (exact ow ‹_›)))
theorem jr (k9:Value)(a:List Held)(lq:Value)(b:List Held)(w:World)(nK:Sl w k9 a)(o6:Sl w lq b):Calls Tryz.prog 53 #[k9,lq] w fun e w'=>e = .returned (.bool (decide (a=b)))∧Ext w w':=by
 have IJ:=nK.ec
 have IK:=o6.ec
 refine R.enter (n:=26) (vs:=[k9,lq]) [] [(0,k9),(1,lq)] Tryz.func53 O O O O ?_
 refine R.reg O<|R.u 1 O<|R.nil ?_
 refine R.reg O<|R.u 1 O<|R.q (q.len' (fun _=>Wd.old nK) O Tryz.underlying29) O<|R.u 1 O<|R.q (q.len' (fun _=>Wd.old o6) O Tryz.underlying29) O<|?_
 by_cases h1:a.length=b.length
 ·
  refine R.q (q.neq O O (bne_eq_false_iff_eq.2 (by omega))) O<|R.nil ?_
  refine R.aF O O ?_
  refine R.reg O<|R.u 1 O<|R.nil ?_
  refine R.loop (fun k:Nat=>[(0,k9),(1,lq),(5,iV (k:Int))]) (fun k:Nat=>[]) (fun k:Nat=>[]) (fun k:Nat=>k≤a.length ∧ ∀j,j<k→a[j]? = b[j]?) (fun k:Nat=>a.length-k) 0 O (by exact ⟨by omega,fun j hj=>absurd hj (Nat.not_lt_zero _)⟩) ⟨rfl,rfl,rfl,trivial⟩ (fun _=>Wd.pick [] [] O O O) ?_
  rintro k ⟨hk,HA⟩
  refine R.reg O<|R.u 2 O<|R.q (q.len' (fun _=>Wd.old nK) O Tryz.underlying29) O<|?_
  by_cases h2:k<a.length
  ·
   refine R.q (q.lss O O (decide_eq_true (by omega))) O<|R.nil ?_
   refine R.aE O O ?_
   obtain ⟨x1,hx1⟩:∃z,a[k]? = some z:=⟨_,List.getElem?_eq_getElem (by omega)⟩
   obtain ⟨x2,hx2⟩:∃z,b[k]? = some z:=⟨_,List.getElem?_eq_getElem (by omega)⟩
   by_cases h3:x1=x2
   ·
    refine R.dP O mixed (by kernel_rfl)<|Q.u 2 O<|Q.q (q.idx (i:=k) (fun _=>Wd.old nK) O O bK O hx1) O<|Q.q (q.cY (ds:=dJ x1) (fun _=>Wd.old nK) hx1 O dB O) O<|Q.u 2 O<|Q.q (q.idx (i:=k) (fun _=>Wd.old o6) O O bK O hx2) O<|Q.q (q.cY (ds:=dJ x2) (fun _=>Wd.old o6) hx2 O dB O) O<|Q.q (q.gX (x:=x1) (y:=x2) EG O O h3) O<|Q.nil ?_
    refine R.aF O O ?_
    refine R.reg O<|R.u 1 O<|R.q (q.add (r:=((k+1:Nat):Int)) O O (wr (by omega))) O<|R.u 1 O<|R.nil ?_
    refine R.back (k+1) O (by (exact ⟨by omega,jA HA hx1 hx2 ‹_›⟩)) (by omega) ⟨rfl,rfl,rfl,trivial⟩ (fun _=>Wd.pick [] [] O O O)
   ·
    refine R.dP O mixed (by kernel_rfl)<|Q.u 2 O<|Q.q (q.idx (i:=k) (fun _=>Wd.old nK) O O bK O hx1) O<|Q.q (q.cY (ds:=dJ x1) (fun _=>Wd.old nK) hx1 O dB O) O<|Q.u 2 O<|Q.q (q.idx (i:=k) (fun _=>Wd.old o6) O O bK O hx2) O<|Q.q (q.cY (ds:=dJ x2) (fun _=>Wd.old o6) hx2 O dB O) O<|Q.q (q.gY (x:=x1) (y:=x2) EG O O h3) O<|Q.nil ?_
    refine R.aE O O ?_
    refine R.reg O<|R.u 1 O<|R.nil ?_
    exact R.rv O Tryz.results53 O (rB (by (exact ox hx1 hx2 ‹_›)))
  ·
   refine R.q (q.lss O O (decide_eq_false (by omega))) O<|R.nil ?_
   refine R.aF O O ?_
   refine R.reg O<|R.u 1 O<|R.nil ?_
   exact R.rv O Tryz.results53 O (rB (by (exact kK ‹_› ‹_› HA)))
 ·
  refine R.q (q.neq O O (bne_iff_ne.2 (by omega))) O<|R.nil ?_
  refine R.aE O O ?_
  refine R.reg O<|R.u 1 O<|R.nil ?_
  exact R.rv O Tryz.results53 O (rB (by (exact ow ‹_›)))
theorem gR (k9:Value)(a:List Change)(lq:Value)(b:List Change)(w:World)(nK:Sl w k9 a)(o6:Sl w lq b):Calls Tryz.prog 14 #[k9,lq] w fun e w'=>e = .returned (.bool (decide (a=b)))∧Ext w w':=by
 have IJ:=nK.ec
 have IK:=o6.ec
 refine R.enter (n:=26) (vs:=[k9,lq]) [] [(0,k9),(1,lq)] Tryz.func14 O O O O ?_
 refine R.reg O<|R.u 1 O<|R.nil ?_
 refine R.reg O<|R.u 1 O<|R.q (q.len' (fun _=>Wd.old nK) O Tryz.underlying23) O<|R.u 1 O<|R.q (q.len' (fun _=>Wd.old o6) O Tryz.underlying23) O<|?_
 by_cases h1:a.length=b.length
 ·
  refine R.q (q.neq O O (bne_eq_false_iff_eq.2 (by omega))) O<|R.nil ?_
  refine R.aF O O ?_
  refine R.reg O<|R.u 1 O<|R.nil ?_
  refine R.loop (fun k:Nat=>[(0,k9),(1,lq),(5,iV (k:Int))]) (fun k:Nat=>[]) (fun k:Nat=>[]) (fun k:Nat=>k≤a.length ∧ ∀j,j<k→a[j]? = b[j]?) (fun k:Nat=>a.length-k) 0 O (by exact ⟨by omega,fun j hj=>absurd hj (Nat.not_lt_zero _)⟩) ⟨rfl,rfl,rfl,trivial⟩ (fun _=>Wd.pick [] [] O O O) ?_
  rintro k ⟨hk,HA⟩
  refine R.reg O<|R.u 2 O<|R.q (q.len' (fun _=>Wd.old nK) O Tryz.underlying23) O<|?_
  by_cases h2:k<a.length
  ·
   refine R.q (q.lss O O (decide_eq_true (by omega))) O<|R.nil ?_
   refine R.aE O O ?_
   obtain ⟨x1,hx1⟩:∃z,a[k]? = some z:=⟨_,List.getElem?_eq_getElem (by omega)⟩
   obtain ⟨x2,hx2⟩:∃z,b[k]? = some z:=⟨_,List.getElem?_eq_getElem (by omega)⟩
   by_cases h3:x1=x2
   ·
    refine R.dP O mixed (by kernel_rfl)<|Q.u 2 O<|Q.q (q.idx (i:=k) (fun _=>Wd.old nK) O O bL O hx1) O<|Q.q (q.cY (ds:=bY x1) (fun _=>Wd.old nK) hx1 O dm O) O<|Q.u 2 O<|Q.q (q.idx (i:=k) (fun _=>Wd.old o6) O O bL O hx2) O<|Q.q (q.cY (ds:=bY x2) (fun _=>Wd.old o6) hx2 O dm O) O<|Q.q (q.gX (x:=x1) (y:=x2) pT O O h3) O<|Q.nil ?_
    refine R.aF O O ?_
    refine R.reg O<|R.u 1 O<|R.q (q.add (r:=((k+1:Nat):Int)) O O (wr (by omega))) O<|R.u 1 O<|R.nil ?_
    refine R.back (k+1) O (by (exact ⟨by omega,jA HA hx1 hx2 ‹_›⟩)) (by omega) ⟨rfl,rfl,rfl,trivial⟩ (fun _=>Wd.pick [] [] O O O)
   ·
    refine R.dP O mixed (by kernel_rfl)<|Q.u 2 O<|Q.q (q.idx (i:=k) (fun _=>Wd.old nK) O O bL O hx1) O<|Q.q (q.cY (ds:=bY x1) (fun _=>Wd.old nK) hx1 O dm O) O<|Q.u 2 O<|Q.q (q.idx (i:=k) (fun _=>Wd.old o6) O O bL O hx2) O<|Q.q (q.cY (ds:=bY x2) (fun _=>Wd.old o6) hx2 O dm O) O<|Q.q (q.gY (x:=x1) (y:=x2) pT O O h3) O<|Q.nil ?_
    refine R.aE O O ?_
    refine R.reg O<|R.u 1 O<|R.nil ?_
    exact R.rv O Tryz.results14 O (rB (by (exact ox hx1 hx2 ‹_›)))
  ·
   refine R.q (q.lss O O (decide_eq_false (by omega))) O<|R.nil ?_
   refine R.aF O O ?_
   refine R.reg O<|R.u 1 O<|R.nil ?_
   exact R.rv O Tryz.results14 O (rB (by (exact kK ‹_› ‹_› HA)))
 ·
  refine R.q (q.neq O O (bne_iff_ne.2 (by omega))) O<|R.nil ?_
  refine R.aE O O ?_
  refine R.reg O<|R.u 1 O<|R.nil ?_
  exact R.rv O Tryz.results14 O (rB (by (exact ow ‹_›)))
end Go.Proofs.YtbkfhjaibhnkmaaGreatDoor
end
