import Derived.Test.YtpipachmngdegaaTCP20
import Derived.Test.YtpipachmngdegaaTCP17
import Derived.Test.YtpipachmngdegaaTCP12
import Derived.Lib.Bytealg
import Derived.Sort.Walk0
section
namespace Go.Proofs.Ytpipachmngdegaa
set_option linter.unusedVariables false
end Go.Proofs.Ytpipachmngdegaa
end
section
namespace Go.Proofs.Ytpipachmngdegaa
open Go Go.RowKit
set_option linter.unusedVariables false
set_option linter.unusedSimpArgs false
set_option maxRecDepth 100000
end Go.Proofs.Ytpipachmngdegaa
end
section
namespace Go.Proofs.Ytpipachmngdegaa
open Go
set_option linter.unusedVariables false
theorem jm (a:ByteArray):a.toList=a.data.toList:=Lib.toList_data a
theorem dN {a b:ByteArray}(h:a.data.toList=b.data.toList):a=b:=by
  cases a with|mk x=>cases b with|mk y=>congr;exact Array.toList_inj.1 h
theorem gN (a b:ByteArray):gh a b=true↔a.data.toList<b.data.toList:=by
  unfold gh;rw [Proofs.bytesLess_eq,jm,jm];exact decide_eq_true_iff
theorem fw (a:ByteArray):gh a a=false:=by
  rw [Bool.eq_false_iff];intro h;exact List.lt_irrefl _ ((gN a a).1 h)
theorem m9 {a b c:ByteArray}(h:gh a b=true)(k:gh b c=true):gh a c=true:=(gN _ _).2 (List.lt_trans ((gN _ _).1 h) ((gN _ _).1 k))
theorem nf {a b:ByteArray}(h:gh a b=true):gh b a=false:=by
  rw [Bool.eq_false_iff];intro k;have:=m9 h k;rw [fw] at this;cases this
theorem oQ:∀ (x y:List UInt8),x<y∨x=y∨y<x
  | [],[] => .inr (.inl rfl)
  | [],_::_ => .inl (List.Lex.nil)
  | _::_,[] => .inr (.inr (List.Lex.nil))
  | a::x,b::y=>by
    rcases Nat.lt_trichotomy a.toNat b.toNat with h|h|h
    · exact .inl (List.Lex.rel (UInt8.lt_iff_toNat_lt.2 h))
    ·
      have e:a=b:=UInt8.toNat_inj.1 h
      subst e
      rcases oQ x y with h|h|h
      · exact .inl (List.Lex.cons h)
      · exact .inr (.inl (by rw [h]))
      · exact .inr (.inr (List.Lex.cons h))
    · exact .inr (.inr (List.Lex.rel (UInt8.lt_iff_toNat_lt.2 h)))
theorem uC (a b:ByteArray):gh a b=true∨a=b∨gh b a=true:=by
  rcases oQ a.data.toList b.data.toList with h|h|h
  · exact .inl ((gN _ _).2 h)
  · exact .inr (.inl (dN h))
  · exact .inr (.inr ((gN _ _).2 h))
def oS (a b:ByteArray):Int:=if gh a b=true then -1 else if a=b then 0 else 1
theorem oT:∀ (x y:List UInt8),Lib.compareBytes x y=if x<y then -1 else if x=y then 0 else 1
  | [],[]=>rfl
  | [],b::y=>by rw [if_pos (show ([]:List UInt8)<b::y from List.Lex.nil)];rfl
  | a::x,[]=>by rw [if_neg (show ¬ (a::x)<[] from List.not_lt_nil _),if_neg (by simp)];rfl
  | a::x,b::y=>by
    unfold Lib.compareBytes
    rw [oT x y]
    by_cases h:a<b
    · rw [if_pos h,if_pos (show a::x<b::y from List.Lex.rel h)]
    ·
      rw [if_neg h]
      by_cases k:b<a
      ·
        have hne:¬ a=b:=fun e=>by subst e;exact UInt8.lt_irrefl _ k
        rw [if_pos k,if_neg (fun hh=>by
          cases hh with
          | rel hh=>exact h hh
          | cons _=>exact hne rfl),if_neg (by simp [hne])]
      ·
        have e:a=b:=UInt8.toNat_inj.1 (by have h1:=(not_congr UInt8.lt_iff_toNat_lt).1 h;have h2:=(not_congr UInt8.lt_iff_toNat_lt).1 k;omega)
        subst e
        rw [if_neg k]
        have hc:(a::x<a::y)=(x<y):=propext ⟨fun hh=>by
          cases hh with
          | rel hh=>exact absurd hh h
          | cons hh=>exact hh,fun hh=>List.Lex.cons hh⟩
        simp only [hc,List.cons.injEq,true_and]
theorem uD (a b:ByteArray):Lib.compareBytes a.toList b.toList=oS a b:=by
  rw [oT,jm,jm];unfold oS
  have e:(a.data.toList=b.data.toList)=(a=b):=propext ⟨dN,fun h=>by rw [h]⟩
  by_cases h:gh a b=true
  · rw [if_pos ((gN _ _).1 h),if_pos h]
  · rw [if_neg (fun k=>h ((gN _ _).2 k)),if_neg h];simp only [e]
theorem ng {a b:ByteArray}:oS a b=0↔a=b:=by
  unfold oS
  by_cases h:gh a b=true
  ·
    rw [if_pos h];constructor
    · intro k;cases k
    · intro k;subst k;rw [fw] at h;cases h
  ·
    rw [if_neg h];by_cases k:a=b
    · rw [if_pos k];simp [k]
    · rw [if_neg k];simp [k]
theorem sX {a b:ByteArray}:oS a b<0↔gh a b=true:=by
  unfold oS
  by_cases h:gh a b=true
  · rw [if_pos h];simp [h]
  ·
    rw [if_neg h];by_cases k:a=b
    · rw [if_pos k];simp [h]
    · rw [if_neg k];simp [h]
end Go.Proofs.Ytpipachmngdegaa
end
