import Derived.Test.YtbkfhjaibhnkmaaGreatDoorTSD21
import Derived.Test.YtbkfhjaibhnkmaaGreatDoorTSD15
section
namespace Go.Proofs.YtbkfhjaibhnkmaaGreatDoor
open Go.RowKit
set_option linter.unusedVariables false
theorem tZ:∀ (a b:List Int),a.Pairwise (· < ·)→b.Pairwise (· < ·)→(∀x,x∈a↔x∈b)→a=b
 | [],[],_,_,_=>rfl
 | [],y::b,_,_,h=>by have:=(h y).2 (by simp);simp at this
 | x::a,[],_,_,h=>by have:=(h x).1 (by simp);simp at this
 | x::a,y::b,ha,hb,h=>by
  obtain ⟨ha1,ha2⟩:=List.pairwise_cons.1 ha
  obtain ⟨hb1,hb2⟩:=List.pairwise_cons.1 hb
  have hxy:x=y:=by
   have h1:x=y∨x∈b:=by simpa using (h x).1 (by simp)
   have h2:y=x∨y∈a:=by simpa using (h y).2 (by simp)
   rcases h1 with h1|h1
   ·exact h1
   ·
    rcases h2 with h2|h2
    ·exact h2.symm
    ·have:=hb1 x h1;have:=ha1 y h2;omega
  subst hxy
  congr 1
  refine tZ a b ha2 hb2 fun z=>?_
  constructor
  ·
   intro hz
   have h1:z=x∨z∈b:=by simpa using (h z).1 (by simp [hz])
   rcases h1 with h1|h1
   ·have:=ha1 z hz;omega
   ·exact h1
  ·
   intro hz
   have h1:z=x∨z∈a:=by simpa using (h z).2 (by simp [hz])
   rcases h1 with h1|h1
   ·have:=hb1 z hz;omega
   ·exact h1
theorem lX {zs:List Int}(hs:zs.Pairwise (· ≤ ·)):∀m,m≤zs.length→(Lib.compactUpTo zs.toArray m).Pairwise (· < ·) ∧ ∀x,x∈Lib.compactUpTo zs.toArray m ↔ ∃j,j<m∧zs[j]? = some x
 | 0,_=>by simp [Lib.compactUpTo]
 | m+1,hm=>by
  obtain ⟨ih1,ih2⟩:=lX hs m (by omega)
  have hz:zs[m]? = some zs[m]:=List.getElem?_eq_getElem (by omega)
  have hd:zs.toArray[m]! = zs[m]:=by simp [getElem!_pos zs.toArray m (by simp;omega)]
  rw [Lib.compactUpTo_succ,hd]
  have hle:∀j x,j<m→zs[j]? = some x→x≤zs[m]:=fun j x hj hx=>by
   obtain ⟨h1,rfl⟩:=List.getElem?_eq_some_iff.1 hx
   exact List.pairwise_iff_getElem.1 hs j m h1 (by omega) hj
  by_cases hk:Lib.keeps zs.toArray m=true
  ·
   rw [if_pos hk]
   have hlt:∀x∈Lib.compactUpTo zs.toArray m,x<zs[m]:=fun x hx=>by
    obtain ⟨j,hj,hxj⟩:=(ih2 x).1 hx
    have h1:=hle j x hj hxj
    simp only [Lib.keeps,decide_eq_true_eq] at hk
    rcases hk with hk|hk
    ·omega
    ·
     have hd1:zs.toArray[m-1]! = zs[m-1]:=by simp [getElem!_pos zs.toArray (m-1) (by simp;omega)]
     rw [hd,hd1] at hk
     have h2:x≤zs[m-1]:=by
      obtain ⟨h3,rfl⟩:=List.getElem?_eq_some_iff.1 hxj
      rcases Nat.lt_or_ge j (m-1) with h4|h4
      ·exact List.pairwise_iff_getElem.1 hs j (m-1) h3 (by omega) h4
      ·
       have:j=m-1:=by omega
       subst this;exact Int.le_refl _
     have h5:zs[m-1]≤zs[m]:=List.pairwise_iff_getElem.1 hs (m-1) m (by omega) (by omega) (by omega)
     omega
   refine ⟨List.pairwise_append.2 ⟨ih1,by simp,fun a ha b hb=>by simp at hb;subst hb;exact hlt a ha⟩,fun x=>?_⟩
   rw [List.mem_append,ih2]
   constructor
   ·
    rintro (⟨j,hj,hx⟩ | h)
    ·exact ⟨j,by omega,hx⟩
    ·simp at h;exact ⟨m,by omega,by rw [hz,h]⟩
   ·
    rintro ⟨j,hj,hx⟩
    by_cases e:j=m
    ·subst e;rw [hz] at hx;injection hx with hx;right;simp [hx]
    ·exact .inl ⟨j,by omega,hx⟩
  ·
   rw [if_neg hk,List.append_nil]
   refine ⟨ih1,fun x=>?_⟩
   rw [ih2]
   simp only [Lib.keeps,decide_eq_true_eq] at hk
   have hm0:m≠0:=fun e=>hk (.inl e)
   have hd1:zs.toArray[m-1]! = zs[m-1]:=by simp [getElem!_pos zs.toArray (m-1) (by simp;omega)]
   have he:zs[m]=zs[m-1]:=by
    by_cases e:zs[m]=zs[m-1]
    ·exact e
    ·exact absurd (.inr (by rw [hd,hd1];exact e)) hk
   constructor
   ·rintro ⟨j,hj,hx⟩;exact ⟨j,by omega,hx⟩
   ·
    rintro ⟨j,hj,hx⟩
    by_cases e:j=m
    ·
     subst e;rw [hz] at hx;injection hx with hx
     exact ⟨j-1,by omega,by rw [List.getElem?_eq_getElem (by omega),← he,hx]⟩
    ·exact ⟨j,by omega,hx⟩
theorem iL (l:List aj):∀n,(gv l n).Pairwise (· < ·) ∧ ∀x,x∈gv l n↔1≤x∧x≤(n:Int)∧hasT? l x=true
 | 0=>by simp [gv];omega
 | n+1=>by
  obtain ⟨h1,h2⟩:=iL l n
  simp only [gv]
  split
  ·
   rename_i hh
   refine ⟨List.pairwise_append.2 ⟨h1,by simp,fun a ha b hb=>by simp at hb;subst hb;have:=(h2 a).1 ha;omega⟩,fun x=>?_⟩
   rw [List.mem_append,h2]
   constructor
   ·
    rintro (⟨a,b,c⟩ | h)
    ·exact ⟨a,by omega,c⟩
    ·simp at h;subst h;exact ⟨by omega,by omega,hh⟩
   ·
    rintro ⟨a,b,c⟩
    by_cases e:x≤(n:Int)
    ·exact .inl ⟨a,e,c⟩
    ·right;simp;omega
  ·
   rename_i hh
   refine ⟨h1,fun x=>?_⟩
   rw [h2]
   constructor
   ·rintro ⟨a,b,c⟩;exact ⟨a,by omega,c⟩
   ·
    rintro ⟨a,b,c⟩
    refine ⟨a,?_,c⟩
    by_cases e:x≤(n:Int)
    ·exact e
    ·
     have:x=((n+1:Nat):Int):=by omega
     rw [this] at c;exact absurd c hh
theorem pQ {l:List aj}(h:cj l):Lib.compact (im (l.map aj.ah))=wE l:=by
 have hs:(im (l.map aj.ah)).Pairwise (· ≤ ·):=by
  have:=List.pairwise_mergeSort (le:=fun x y:Int=>decide (x≤y)) (fun a b c=>by simp;omega) (fun a b=>by simp;omega) (l.map aj.ah)
  exact this.imp (by simp)
 obtain ⟨h1,h2⟩:=lX hs _ (Nat.le_refl _)
 obtain ⟨h3,h4⟩:=iL l 999
 refine tZ _ _ h1 h3 fun x=>?_
 show x∈Lib.compactUpTo _ _↔x∈gv l 999
 rw [h2,h4]
 have hm:(∃j,j<(im (l.map aj.ah)).length∧(im (l.map aj.ah))[j]? = some x)↔x∈l.map aj.ah:=by
  rw [← List.mem_mergeSort (le:=fun x y:Int=>decide (x≤y)) (l:=l.map aj.ah)]
  constructor
  ·rintro ⟨j,_,hx⟩;exact List.mem_of_getElem? hx
  ·
   intro hx
   obtain ⟨j,hj⟩:=List.mem_iff_getElem?.1 hx
   exact ⟨j,(List.getElem?_eq_some_iff.1 hj).1,hj⟩
 rw [hm]
 simp only [List.mem_map,hasT?,List.any_eq_true,beq_iff_eq]
 constructor
 ·
  rintro ⟨y,hy,rfl⟩
  have w:=h.mem hy
  have:=w.Ai;have:=w.A9
  exact ⟨by omega,by omega,y,hy,rfl⟩
 ·rintro ⟨_,_,y,hy,he⟩;exact ⟨y,hy,he⟩
end Go.Proofs.YtbkfhjaibhnkmaaGreatDoor
end
section
namespace Go.Proofs.YtbkfhjaibhnkmaaGreatDoor
set_option linter.unusedVariables false
theorem f8 {α:Type}(p:α→Bool)(l:List α):(idxOf p l = -1 ∧ ∀x∈l,p x=false) ∨ ∃ (k:Nat) (x:α),idxOf p l=k∧l[k]? = some x∧p x=true∧(∀ (j:Nat) y,j<k→l[j]? = some y→p y=false)∧k<l.length:=by
 unfold idxOf
 cases h:l.findIdx? p with
 | none=>exact .inl ⟨rfl,fun x hx=>by have:=List.findIdx?_eq_none_iff.1 h x hx;simpa using this⟩
 | some k =>
  obtain ⟨hk,hp,hb⟩:=List.findIdx?_eq_some_iff_getElem.1 h
  refine .inr ⟨k,l[k],rfl,List.getElem?_eq_getElem hk,hp,fun j y hj hy=>?_,hk⟩
  have:=hb j hj
  have e:=(List.getElem?_eq_some_iff.1 hy).2
  rw [e] at this;simpa using this
section
variable {α:Type} {p:α→Bool} {l acc:List α} {i j k:Nat} {x:α}
theorem je (h:∀x∈l,p x=false):l.filter (fun x => !p x)=l:=List.filter_eq_self.2 (fun x hx=>by simp [h x hx])
def jW (p:α→Bool)(l acc:List α)(i j:Nat):Prop:=i≤j∧j≤l.length∧acc.length=l.length∧acc.take i=(l.take j).filter (fun x => !p x)∧acc.drop j=l.drop j
theorem jW.start (hx:l[k]? = some x)(hp:p x=true)(hb:∀ (j:Nat) y,j<k→l[j]? = some y→p y=false):jW p l l k (k+1):=by
 have hk:=(List.getElem?_eq_some_iff.1 hx).1
 refine ⟨by omega,by omega,rfl,?_,rfl⟩
 rw [List.take_add_one,hx,List.filter_append]
 have:(l.take k).filter (fun x => !p x)=l.take k:=List.filter_eq_self.2 (fun y hy=>by
  obtain ⟨q,hq⟩:=List.mem_iff_getElem?.1 hy
  rw [List.getElem?_take] at hq
  split at hq
  ·simp [hb q y (by assumption) hq]
  ·cases hq)
 rw [this];simp [hp]
theorem jW.at (h:jW p l acc i j):acc[j]? = l[j]?:=by
 have:=congrArg (·[0]?) h.2.2.2.2
 simpa using this
theorem jW.skip (h:jW p l acc i j)(hx:acc[j]? = some x)(hp:p x=true):jW p l acc i (j+1):=by
 rw [h.at] at hx
 have hk:=(List.getElem?_eq_some_iff.1 hx).1
 obtain ⟨h1,h2,h3,h4,h5⟩:=h
 refine ⟨by omega,by omega,h3,?_,?_⟩
 ·rw [List.take_add_one,hx,List.filter_append,← h4];simp [hp]
 ·rw [← List.drop_drop,← List.drop_drop,h5]
theorem jW.keep (h:jW p l acc i j)(hx:acc[j]? = some x)(hp:p x=false):jW p l (acc.set i x) (i+1) (j+1):=by
 rw [h.at] at hx
 have hk:=(List.getElem?_eq_some_iff.1 hx).1
 obtain ⟨h1,h2,h3,h4,h5⟩:=h
 refine ⟨by omega,by omega,by rw [List.length_set,h3],?_,?_⟩
 ·
  rw [List.take_add_one (l:=l),hx,List.filter_append,← h4,List.take_add_one,List.getElem?_set_self (by omega),List.take_set_of_le (Nat.le_refl _)]
  simp [hp]
 ·rw [List.drop_set_of_lt (by omega),← List.drop_drop,← List.drop_drop,h5]
theorem jW.done (h:jW p l acc i j)(hj:¬ j<l.length){z:α}{m:Nat}:l.filter (fun x => !p x)=(acc.take i++List.replicate m z).take i:=by
 obtain ⟨h1,h2,h3,h4,h5⟩:=h
 have hl:(acc.take i).length=i:=by rw [List.length_take];omega
 rw [List.take_append_of_le_length (by omega),List.take_of_length_le (by omega),h4,List.take_of_length_le (l:=l) (by omega)]
end
end Go.Proofs.YtbkfhjaibhnkmaaGreatDoor
end
