import Derived.Test.YtpipachmngdegaaTCP2
section
namespace Go.Proofs.Ytpipachmngdegaa
set_option linter.unusedVariables false
theorem j5 {α:Type}{l u:List α}{i:Nat}(h:i=l.length):l.take i++u++l.drop i=l++u:=by
  subst h;simp
theorem i6 {α:Type}{l u:List α}{i m:Nat}{z:α}(hu:u.length=1)(hi:i<l.length)(hm:m=l.length+u.length-i) :
    l.take i++u++l.drop i=((l.take i++List.replicate m z).take i++u++(l.take i++List.replicate m z).drop (i+u.length)).take (i+u.length)++l.drop i++((l.take i++List.replicate m z).take i++u++(l.take i++List.replicate m z).drop (i+u.length)).drop (i+u.length+(l.drop i).length):=by
  have h1:(l.take i).length=i:=by rw [List.length_take];omega
  have h2:((l.take i++List.replicate m z).take i)=l.take i:=by rw [List.take_append_of_le_length (by omega),List.take_of_length_le (by omega)]
  have h3:(l.take i++u).length=i+u.length:=by rw [List.length_append,h1]
  rw [h2,List.take_append_of_le_length (by omega),List.take_of_length_le (l:=l.take i++u) (by omega)]
  have h4:(l.take i++u++(l.take i++List.replicate m z).drop (i+u.length)).length≤i+u.length+(l.drop i).length:=by
    simp only [List.length_append,List.length_drop,h1,List.length_replicate];omega
  rw [List.drop_of_length_le h4,List.append_nil]
theorem lN {α:Type}{l u:List α}{i:Nat}(hu:u.length=1)(hi:i<l.length) :
    l.take i++u++l.drop i=(l.take (i+1)++l.drop i).take i++u++(l.take (i+1)++l.drop i).drop (i+u.length):=by
  have h1:(l.take (i+1)).length=i+1:=by rw [List.length_take];omega
  rw [hu,List.take_append_of_le_length (by omega),List.take_take,Nat.min_eq_left (by omega),List.drop_append_of_le_length (by omega),List.drop_of_length_le (l:=l.take (i+1)) (by omega),List.nil_append]
theorem lO {α:Type}{l:List α}{i j:Nat}(h:i=j):l.take i++l.drop j=l:=by subst h;simp
section
variable {α:Type}
def bsGo (f:α→Int)(l:List α)(lo hi:Nat):Nat :=
  if h:lo<hi then
    match l[(lo+hi) / 2]? with
    | some x=>if f x<0 then bsGo f l ((lo+hi) / 2+1) hi else bsGo f l lo ((lo+hi) / 2)
    | none=>lo
  else lo
termination_by hi-lo
decreasing_by all_goals omega
def eU (f:α→Int)(l:List α):Nat:=bsGo f l 0 l.length
def j6 (f:α→Int)(l:List α):Bool:=match l[eU f l]? with|some x=>decide (f x=0)|none=>false
variable {f:α→Int} {l:List α} {lo hi:Nat} {x:α}
theorem qK (h:lo<hi)(hx:l[(lo+hi) / 2]? = some x)(hf:f x<0):bsGo f l lo hi=bsGo f l ((lo+hi) / 2+1) hi:=by
  rw [bsGo,dif_pos h,hx];simp [hf]
theorem qL (h:lo<hi)(hx:l[(lo+hi) / 2]? = some x)(hf:¬ f x<0):bsGo f l lo hi=bsGo f l lo ((lo+hi) / 2):=by
  rw [bsGo,dif_pos h,hx];simp [hf]
theorem gA (h:¬ lo<hi):bsGo f l lo hi=lo:=by rw [bsGo,dif_neg h]
theorem uB:∀ (n lo hi:Nat),hi-lo=n→lo≤hi→bsGo f l lo hi≤hi:=by
  intro n
  induction n using Nat.strongRecOn with
  | _ n ih =>
    intro lo hi hn hle
    rw [bsGo]
    split
    ·
      split
      ·
        split
        · exact ih (hi-((lo+hi) / 2+1)) (by omega) _ _ rfl (by omega)
        · exact Nat.le_trans (ih ((lo+hi) / 2-lo) (by omega) _ _ rfl (by omega)) (by omega)
      · exact hle
    · exact hle
theorem jF:eU f l≤l.length:=uB _ 0 l.length rfl (Nat.zero_le _)
theorem sV (h:j6 f l=true):∃x,l[eU f l]? = some x∧f x=0:=by
  unfold j6 at h
  split at h
  · rename_i x hx;exact ⟨x,hx,of_decide_eq_true h⟩
  · cases h
theorem rM (hm:∀ (i j:Nat) x y,i≤j→l[i]? = some x→l[j]? = some y→f y<0→f x<0):∀ (n lo hi:Nat),hi-lo=n→lo≤hi→hi≤l.length →
    (∀ (i:Nat) x,i<lo→l[i]? = some x→f x<0)→(∀ (i:Nat) x,hi≤i→l[i]? = some x→¬ f x<0) →
    (∀ (i:Nat) x,i<bsGo f l lo hi→l[i]? = some x→f x<0)∧(∀ (i:Nat) x,bsGo f l lo hi≤i→l[i]? = some x→¬ f x<0):=by
  intro n
  induction n using Nat.strongRecOn with
  | _ n ih =>
    intro lo hi hn hle hl h1 h2
    by_cases hlt:lo<hi
    ·
      obtain ⟨x,hx⟩:∃x,l[(lo+hi) / 2]? = some x:=⟨_,List.getElem?_eq_getElem (by omega)⟩
      by_cases hf:f x<0
      ·
        rw [qK hlt hx hf]
        exact ih (hi-((lo+hi) / 2+1)) (by omega) _ _ rfl (by omega) hl (fun i y hi' hy=>hm i ((lo+hi) / 2) y x (by omega) hy hx hf) h2
      ·
        rw [qL hlt hx hf]
        exact ih ((lo+hi) / 2-lo) (by omega) _ _ rfl (by omega) (by omega) h1 (fun i y hi' hy hc=>hf (hm ((lo+hi) / 2) i x y hi' hx hy hc))
    ·
      rw [gA hlt]
      have:lo=hi:=by omega
      subst this
      exact ⟨h1,h2⟩
theorem sW (hm:∀ (i j:Nat) x y,i≤j→l[i]? = some x→l[j]? = some y→f y<0→f x<0) :
    (∀ (i:Nat) x,i<eU f l→l[i]? = some x→f x<0)∧(∀ (i:Nat) x,eU f l≤i→l[i]? = some x→¬ f x<0) :=
  rM hm _ 0 l.length rfl (Nat.zero_le _) (Nat.le_refl _) (fun i x hi=>absurd hi (Nat.not_lt_zero _)) (fun i x hi hx=>by
    have:=(List.getElem?_eq_some_iff.1 hx).1;omega)
end
end Go.Proofs.Ytpipachmngdegaa
end
