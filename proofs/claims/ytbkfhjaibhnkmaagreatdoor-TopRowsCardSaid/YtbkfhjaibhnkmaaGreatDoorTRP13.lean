import Derived.Test.YtbkfhjaibhnkmaaGreatDoorTRP12
import Derived.Laws.StructEq
import Derived.Test.YtbkfhjaibhnkmaaGreatDoorTRP1
section
namespace Go.Proofs.YtbkfhjaibhnkmaaGreatDoor
open Go Go.RowKit
set_option linter.unusedVariables false
set_option linter.unusedSimpArgs false
set_option linter.unusedSectionVars false
set_option maxRecDepth 100000
theorem ox {P:Program}{op:BinOp}{t:TypeId}(h:P.eqGuardType P.depth t=false)(a b:Operand)(xs ys:Array Value)(w:World):(eqGuard op t a b (.agg xs) (.agg ys)).run P w = .ok () w:=by
  have hp:(program:Sem Program).run P w = .ok P w:=rfl
  cases op <;> simp [eqGuard,hp,h]
theorem o5 {P:Program}{t:TypeId}{β:Type}[DecidableEq β]{cs:β→List Value}(hg:P.eqGuardType P.depth t=false)(he:∀x y w,(Op.equal t (.agg (cs x).toArray) (.agg (cs y).toArray)).run P w = .ok (decide (x=y)) w):yi P t (fun x => .agg (cs x).toArray):=by
  refine ⟨fun x y w a b=>⟨ox hg a b _ _ w,ox hg a b _ _ w⟩,fun x y w=>⟨?_,?_⟩⟩
  · simp only [binOp,Sem.run_bind,he x y w,Result.andThen_ok,Sem.run_pure]
  · simp only [binOp,Sem.run_bind,he x y w,Result.andThen_ok,Sem.run_pure]
theorem oy:yi Tryz.prog 88 ak.val:=by
  have hS:Tryz.prog.underlying 88=some (.struct (Tryz.prog.fieldsOf 88)):=by kernel_rfl
  have hp:Tryz.prog.stoodInHeld 88=false:=by kernel_rfl
  refine o5 (cs:=ak.cs) (by kernel_rfl) fun x y w=>?_
  have u3:=Tryz.underlying3;have a3:=Tryz.isAgg3;have z3:=Tryz.sizeOf3
  obtain ⟨x1,x2,x3,x4,x5⟩:=x;obtain ⟨y1,y2,y3,y4,y5⟩:=y
  rw [Op.equal,Op.maxDepth,show (10000:Nat)=9999+1 from rfl,run_equalIn_agg w 9999 88 _ _ hS hp]
  simp only [Program.fieldsOf,Tryz.underlying88]
  go_simp
  by_cases h1:x1=y1 <;> by_cases h2:x2=y2 <;> by_cases h3:x3=y3 <;> by_cases h4:x4=y4 <;> by_cases h5:x5=y5 <;> simp [h1,h2,h3,h4,h5]
theorem uN (d:Nat)(x y:Place)(w:World):(Op.equalIn (d+1+1) 39 (.agg #[.int .i64 x.ag,.int .i64 x.Slot]) (.agg #[.int .i64 y.ag,.int .i64 y.Slot])).run Tryz.prog w = .ok (decide (x=y)) w:=by
  have hS:Tryz.prog.underlying 39=some (.struct (Tryz.prog.fieldsOf 39)):=by kernel_rfl
  have hp:Tryz.prog.stoodInHeld 39=false:=by kernel_rfl
  have u3:=Tryz.underlying3;have a3:=Tryz.isAgg3;have z3:=Tryz.sizeOf3
  obtain ⟨x1,x2⟩:=x;obtain ⟨y1,y2⟩:=y
  rw [run_equalIn_agg w (d+1) 39 _ _ hS hp]
  simp only [Program.fieldsOf,Tryz.underlying39]
  go_simp
  by_cases h1:x1=y1 <;> by_cases h2:x2=y2 <;> simp [h1,h2]
theorem xS:yi Tryz.prog 85 Held.val:=by
  have hS:Tryz.prog.underlying 85=some (.struct (Tryz.prog.fieldsOf 85)):=by kernel_rfl
  have hp:Tryz.prog.stoodInHeld 85=false:=by kernel_rfl
  refine o5 (cs:=Held.cs) (by kernel_rfl) fun x y w=>?_
  have u3:=Tryz.underlying3;have a3:=Tryz.isAgg3;have z3:=Tryz.sizeOf3;have a4:=Tryz.isAgg39;have z4:=Tryz.sizeOf39
  obtain ⟨⟨x1,x2⟩,x3⟩:=x;obtain ⟨⟨y1,y2⟩,y3⟩:=y
  rw [Op.equal,Op.maxDepth,show (10000:Nat)=9999+1 from rfl,run_equalIn_agg w 9999 85 _ _ hS hp]
  have hpl:=fun w=>uN 9997 ⟨x1,x2⟩ ⟨y1,y2⟩ w
  simp only [Nat.reduceAdd] at hpl
  simp only [Program.fieldsOf,Tryz.underlying85]
  go_simp
  by_cases h1:x1=y1 <;> by_cases h2:x2=y2 <;> by_cases h3:x3=y3 <;> simp [h1,h2,h3]
section
variable {α:Type} [DecidableEq α] {a b:List α}
theorem fG (h:¬ a.length=b.length):false=decide (a=b):=(decide_eq_false (fun e=>h (by rw [e]))).symm
theorem fH {k:Nat}{x y:α}(hx:a[k]? = some x)(hy:b[k]? = some y)(h:¬ x=y):false=decide (a=b):=(decide_eq_false (fun e=>h (by rw [e,hy] at hx;injection hx with hx;exact hx.symm))).symm
theorem eW {k:Nat}(hl:a.length=b.length)(hk:¬ k<a.length)(h:∀j,j<k→a[j]? = b[j]?):true=decide (a=b):=by
  refine (decide_eq_true (List.ext_getElem? fun j=>?_)).symm
  rcases Nat.lt_or_ge j k with h1|h1
  · exact h j h1
  · rw [List.getElem?_eq_none (by omega),List.getElem?_eq_none (by omega)]
theorem iu {k:Nat}{x y:α}(h:∀j,j<k→a[j]? = b[j]?)(hx:a[k]? = some x)(hy:b[k]? = some y)(e:x=y):∀j,j<k+1→a[j]? = b[j]?:=by
  intro j hj
  rcases Nat.lt_or_ge j k with h1|h1
  · exact h j h1
  ·
    have:j=k:=by omega
    subst this;rw [hx,hy,e]
end
end Go.Proofs.YtbkfhjaibhnkmaaGreatDoor
end
section
namespace Go.Proofs.YtbkfhjaibhnkmaaGreatDoor
set_option linter.unusedVariables false
theorem k5 {α:Type}{l u:List α}{i:Nat}(h:i=l.length):l.take i++u++l.drop i=l++u:=by
  subst h;simp
theorem jA {α:Type}{l u:List α}{i m:Nat}{z:α}(hu:u.length=1)(hi:i<l.length)(hm:m=l.length+u.length-i) :
    l.take i++u++l.drop i=((l.take i++List.replicate m z).take i++u++(l.take i++List.replicate m z).drop (i+u.length)).take (i+u.length)++l.drop i++((l.take i++List.replicate m z).take i++u++(l.take i++List.replicate m z).drop (i+u.length)).drop (i+u.length+(l.drop i).length):=by
  have h1:(l.take i).length=i:=by rw [List.length_take];omega
  have h2:((l.take i++List.replicate m z).take i)=l.take i:=by rw [List.take_append_of_le_length (by omega),List.take_of_length_le (by omega)]
  have h3:(l.take i++u).length=i+u.length:=by rw [List.length_append,h1]
  rw [h2,List.take_append_of_le_length (by omega),List.take_of_length_le (l:=l.take i++u) (by omega)]
  have h4:(l.take i++u++(l.take i++List.replicate m z).drop (i+u.length)).length≤i+u.length+(l.drop i).length:=by
    simp only [List.length_append,List.length_drop,h1,List.length_replicate];omega
  rw [List.drop_of_length_le h4,List.append_nil]
theorem nh {α:Type}{l u:List α}{i:Nat}(hu:u.length=1)(hi:i<l.length) :
    l.take i++u++l.drop i=(l.take (i+1)++l.drop i).take i++u++(l.take (i+1)++l.drop i).drop (i+u.length):=by
  have h1:(l.take (i+1)).length=i+1:=by rw [List.length_take];omega
  rw [hu,List.take_append_of_le_length (by omega),List.take_take,Nat.min_eq_left (by omega),List.drop_append_of_le_length (by omega),List.drop_of_length_le (l:=l.take (i+1)) (by omega),List.nil_append]
theorem iw {α:Type}{l:List α}{i j:Nat}(h:i=j):l.take i++l.drop j=l:=by subst h;simp
section
variable {α:Type}
def bsGo (f:α→Int)(l:List α)(lo hi:Nat):Nat :=
  if h:lo<hi then
    match l[(lo+hi) / 2]? with
    | some x=>if f x<0 then bsGo f l ((lo+hi) / 2+1) hi else bsGo f l lo ((lo+hi) / 2)
    | none=>lo
  else lo
termination_by hi-lo
decreasing_by all_goals omega
def wJ (f:α→Int)(l:List α):Nat:=bsGo f l 0 l.length
def wK (f:α→Int)(l:List α):Bool:=match l[wJ f l]? with|some x=>decide (f x=0)|none=>false
variable {f:α→Int} {l:List α} {lo hi:Nat} {x:α}
theorem sv (h:lo<hi)(hx:l[(lo+hi) / 2]? = some x)(hf:f x<0):bsGo f l lo hi=bsGo f l ((lo+hi) / 2+1) hi:=by
  rw [bsGo,dif_pos h,hx];simp [hf]
theorem sy (h:lo<hi)(hx:l[(lo+hi) / 2]? = some x)(hf:¬ f x<0):bsGo f l lo hi=bsGo f l lo ((lo+hi) / 2):=by
  rw [bsGo,dif_pos h,hx];simp [hf]
theorem gM (h:¬ lo<hi):bsGo f l lo hi=lo:=by rw [bsGo,dif_neg h]
theorem wL:∀ (n lo hi:Nat),hi-lo=n→lo≤hi→bsGo f l lo hi≤hi:=by
  intro n
  induction n using Nat.strongRecOn with
  | _ n ih =>
    intro lo hi hn hle
    rw [bsGo]
    split
    ·
      split
      ·
        split
        · exact ih (hi-((lo+hi) / 2+1)) (by omega) _ _ rfl (by omega)
        · exact Nat.le_trans (ih ((lo+hi) / 2-lo) (by omega) _ _ rfl (by omega)) (by omega)
      · exact hle
    · exact hle
theorem yE:wJ f l≤l.length:=wL _ 0 l.length rfl (Nat.zero_le _)
theorem uO (h:wK f l=true):∃x,l[wJ f l]? = some x∧f x=0:=by
  unfold wK at h
  split at h
  · rename_i x hx;exact ⟨x,hx,of_decide_eq_true h⟩
  · cases h
theorem tj (hm:∀ (i j:Nat) x y,i≤j→l[i]? = some x→l[j]? = some y→f y<0→f x<0):∀ (n lo hi:Nat),hi-lo=n→lo≤hi→hi≤l.length →
    (∀ (i:Nat) x,i<lo→l[i]? = some x→f x<0)→(∀ (i:Nat) x,hi≤i→l[i]? = some x→¬ f x<0) →
    (∀ (i:Nat) x,i<bsGo f l lo hi→l[i]? = some x→f x<0)∧(∀ (i:Nat) x,bsGo f l lo hi≤i→l[i]? = some x→¬ f x<0):=by
  intro n
  induction n using Nat.strongRecOn with
  | _ n ih =>
    intro lo hi hn hle hl h1 h2
    by_cases hlt:lo<hi
    ·
      obtain ⟨x,hx⟩:∃x,l[(lo+hi) / 2]? = some x:=⟨_,List.getElem?_eq_getElem (by omega)⟩
      by_cases hf:f x<0
      ·
        rw [sv hlt hx hf]
        exact ih (hi-((lo+hi) / 2+1)) (by omega) _ _ rfl (by omega) hl (fun i y hi' hy=>hm i ((lo+hi) / 2) y x (by omega) hy hx hf) h2
      ·
        rw [sy hlt hx hf]
        exact ih ((lo+hi) / 2-lo) (by omega) _ _ rfl (by omega) (by omega) h1 (fun i y hi' hy hc=>hf (hm ((lo+hi) / 2) i x y hi' hx hy hc))
    ·
      rw [gM hlt]
      have:lo=hi:=by omega
      subst this
      exact ⟨h1,h2⟩
theorem uP (hm:∀ (i j:Nat) x y,i≤j→l[i]? = some x→l[j]? = some y→f y<0→f x<0) :
    (∀ (i:Nat) x,i<wJ f l→l[i]? = some x→f x<0)∧(∀ (i:Nat) x,wJ f l≤i→l[i]? = some x→¬ f x<0) :=
  tj hm _ 0 l.length rfl (Nat.zero_le _) (Nat.le_refl _) (fun i x hi=>absurd hi (Nat.not_lt_zero _)) (fun i x hi hx=>by
    have:=(List.getElem?_eq_some_iff.1 hx).1;omega)
end
def j8 (a b:Int):Int:=if a<b then -1 else if b<a then 1 else 0
def uQ:List Int→Int
  | []=>0
  | x::l=>if x=0 then uQ l else x
theorem uR {l:List Int}{k:Nat}{x:Int}(h:l[k]? = some x)(h0:x=0):uQ (l.drop k)=uQ (l.drop (k+1)):=by
  have hk:=(List.getElem?_eq_some_iff.1 h).1
  have he:=(List.getElem?_eq_some_iff.1 h).2
  rw [List.drop_eq_getElem_cons hk,he];simp [uQ,h0]
theorem wM {l:List Int}{k:Nat}{x:Int}(h:l[k]? = some x)(h0:¬ x=0):uQ (l.drop k)=x:=by
  have hk:=(List.getElem?_eq_some_iff.1 h).1
  have he:=(List.getElem?_eq_some_iff.1 h).2
  rw [List.drop_eq_getElem_cons hk,he];simp [uQ,h0]
end Go.Proofs.YtbkfhjaibhnkmaaGreatDoor
end
