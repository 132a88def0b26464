import Derived.Test.YtpipachmngdegaaTCP18
import Derived.Test.YtpipachmngdegaaTCP22
import Derived.Test.YtpipachmngdegaaTCP17
section
namespace Go.Proofs.Ytpipachmngdegaa
open Go Go.RowKit
set_option linter.unusedVariables false
structure Lg where
  From:Int
  Many:Int
  First:Int
  Next:Int
  deriving DecidableEq
def aM (n:Int):ByteArray:=⟨#[u8 (n % 256),u8 (n / 256 % 256),u8 (n / 65536 % 256),u8 (n / 16777216 % 256)]⟩
theorem az (n:Int):(aM n).size=4:=rfl
theorem i9 (n:Int):bl (aM n)=[u8 (n % 256),u8 (n / 256 % 256),u8 (n / 65536 % 256),u8 (n / 16777216 % 256)]:=rfl
theorem nW {a b:Int}(ha:0≤a∧a≤255)(hb:0≤b∧b≤255)(h:u8 a=u8 b):a=b:=by
  rw [← gx ha,← gx hb,h]
theorem rN {a b:Int}(ha:0≤a∧a<4294967296)(hb:0≤b∧b<4294967296)(h:aM a=aM b):a=b:=by
  have h1:bl (aM a)=bl (aM b):=by rw [h]
  rw [i9,i9] at h1
  simp only [List.cons.injEq,and_true] at h1
  obtain ⟨e0,e1,e2,e3⟩:=h1
  have i0:=nW (by omega) (by omega) e0
  have i1:=nW (by omega) (by omega) e1
  have i2:=nW (by omega) (by omega) e2
  have i3:=nW (by omega) (by omega) e3
  omega
def a8 (k:Int)(n:Int)(s:ByteArray):ByteArray:=⟨#[u8 k]⟩++aM n++⟨#[UInt8.ofNat s.size,UInt8.ofNat (s.size / 256)]⟩++s
theorem qQ (k n:Int)(s:ByteArray):bl (a8 k n s)=u8 k::u8 (n % 256)::u8 (n / 256 % 256)::u8 (n / 65536 % 256)::u8 (n / 16777216 % 256)::UInt8.ofNat s.size::UInt8.ofNat (s.size / 256)::bl s:=by
  unfold a8;simp only [iC,i9];rfl
theorem ic (k n:Int)(s:ByteArray):(a8 k n s).size=7+s.size:=by
  rw [← eA,qQ];simp only [List.length_cons,eA];omega
def aU (s:ByteArray):Nat:=aV s 5+256*aV s 6
def fE (s:ByteArray):ByteArray:=s.extract 7 (7+aU s)
def ni (s:ByteArray)(n k:Int):Bool:=decide (s.extract 1 5=aM n)&&decide (aU s≤41)&&decide (aV s 0=99)&&decide (fE s=aM k)
def pD (s:ByteArray)(n:Int):Bool:=decide (s.extract 1 5=aM n)&&decide (aU s≤41)&&decide (aV s 0=111)&&decide ((ib (fE s)).2=0)
def dF:List ByteArray→Int→List (List Change)→List Change→Nat→Nat→List (List Change)×Nat
  | [],_,out,_,used,_=>(out,used)
  | s::r,n,out,deed,used,pos =>
    if ni s n (deed.length:Int)=true then dF r (n+1) (out++[deed]) [] (pos+1) (pos+1)
    else if pD s n=true then dF r (n+1) out (deed++[(ib (fE s)).1]) used (pos+1)
    else (out,used)
def scan (l:List ByteArray)(first:Int):List (List Change)×Nat:=dF l first [] [] 0 0
section
variable {l:List ByteArray} {first n:Int} {out:List (List Change)} {deed:List Change} {used pos i:Nat} {s:ByteArray} {Z:List (List Change)×Nat}
theorem drop_at {α:Type}{l:List α}{i:Nat}{s:α}(h:l[i]? = some s):l.drop i=s::l.drop (i+1):=by
  obtain ⟨h1,h2⟩:=List.getElem?_eq_some_iff.1 h
  rw [List.drop_eq_getElem_cons h1,h2]
theorem s9 (h:dF (l.drop i) (first+(i:Int)) out deed used i=Z)(hs:l[i]? = some s)(hc:ni s (first+(i:Int)) (deed.length:Int)=true) :
    dF (l.drop (i+1)) (first+((i+1:Nat):Int)) (out++[deed]) [] (i+1) (i+1)=Z:=by
  rw [drop_at hs] at h
  unfold dF at h
  rw [if_pos hc] at h
  rw [show first+((i+1:Nat):Int)=first+(i:Int)+1 by omega]
  exact h
theorem uK (h:dF (l.drop i) (first+(i:Int)) out deed used i=Z)(hs:l[i]? = some s)(hc:ni s (first+(i:Int)) (deed.length:Int)=false)(ho:pD s (first+(i:Int))=true) :
    dF (l.drop (i+1)) (first+((i+1:Nat):Int)) out (deed++[(ib (fE s)).1]) used (i+1)=Z:=by
  rw [drop_at hs] at h
  unfold dF at h
  rw [if_neg (by rw [hc];decide),if_pos ho] at h
  rw [show first+((i+1:Nat):Int)=first+(i:Int)+1 by omega]
  exact h
theorem eo (h:dF (l.drop i) (first+(i:Int)) out deed used i=Z)(hs:l[i]? = some s)(hc:ni s (first+(i:Int)) (deed.length:Int)=false)(ho:pD s (first+(i:Int))=false):Z=(out,used):=by
  rw [drop_at hs] at h
  unfold dF at h
  rw [if_neg (by rw [hc];decide),if_neg (by rw [ho];decide)] at h
  exact h.symm
theorem nX (h:dF (l.drop i) (first+(i:Int)) out deed used i=Z)(hl:l.length≤i):Z=(out,used):=by
  rw [List.drop_of_length_le hl] at h
  exact h.symm
theorem ka {k:Int}(h:¬ aV s 0=99):ni s n k=false:=by unfold ni;simp [h]
theorem nY (h:¬ aV s 0=111):pD s n=false:=by unfold pD;simp [h]
theorem nZ:∀ (l:List ByteArray) (n:Int) (out:List (List Change)) (deed:List Change) (used pos:Nat),
    dF l n out deed used pos=(out,used)∨(pos<(dF l n out deed used pos).2∧(dF l n out deed used pos).2≤pos+l.length ∧
      ∀l':List ByteArray,l'.take ((dF l n out deed used pos).2-pos)=l.take ((dF l n out deed used pos).2-pos) →
        dF l' n out deed used pos=dF (l'.drop ((dF l n out deed used pos).2-pos)) (n+(((dF l n out deed used pos).2-pos:Nat):Int)) (dF l n out deed used pos).1 [] (dF l n out deed used pos).2 (dF l n out deed used pos).2)
  | [],n,out,deed,used,pos => .inl rfl
  | s::r,n,out,deed,used,pos=>by
    have key:∀ (out':List (List Change)) (gP:List Change) (gQ:Nat),dF (s::r) n out deed used pos=dF r (n+1) out' gP gQ (pos+1) →
        (∀r',dF (s::r') n out deed used pos=dF r' (n+1) out' gP gQ (pos+1)) →
        (pos+1<(dF r (n+1) out' gP gQ (pos+1)).2∧(dF r (n+1) out' gP gQ (pos+1)).2≤pos+1+r.length ∧
          ∀l':List ByteArray,l'.take ((dF r (n+1) out' gP gQ (pos+1)).2-(pos+1))=r.take ((dF r (n+1) out' gP gQ (pos+1)).2-(pos+1)) →
            dF l' (n+1) out' gP gQ (pos+1)=dF (l'.drop ((dF r (n+1) out' gP gQ (pos+1)).2-(pos+1))) (n+1+(((dF r (n+1) out' gP gQ (pos+1)).2-(pos+1):Nat):Int)) (dF r (n+1) out' gP gQ (pos+1)).1 [] (dF r (n+1) out' gP gQ (pos+1)).2 (dF r (n+1) out' gP gQ (pos+1)).2) →
        (pos<(dF (s::r) n out deed used pos).2∧(dF (s::r) n out deed used pos).2≤pos+(s::r).length ∧
          ∀l':List ByteArray,l'.take ((dF (s::r) n out deed used pos).2-pos)=(s::r).take ((dF (s::r) n out deed used pos).2-pos) →
            dF l' n out deed used pos=dF (l'.drop ((dF (s::r) n out deed used pos).2-pos)) (n+(((dF (s::r) n out deed used pos).2-pos:Nat):Int)) (dF (s::r) n out deed used pos).1 [] (dF (s::r) n out deed used pos).2 (dF (s::r) n out deed used pos).2):=by
      intro out' gP gQ e e' h
      rw [e]
      generalize dF r (n+1) out' gP gQ (pos+1)=R at h
      obtain ⟨h1,h2,h3⟩:=h
      refine ⟨by omega,by rw [List.length_cons];omega,fun l' hl'=>?_⟩
      obtain ⟨m,hm⟩:∃m,R.2-pos=m+1:=⟨R.2-pos-1,by omega⟩
      have hm':R.2-(pos+1)=m:=by omega
      rw [hm] at hl' ⊢
      rw [hm'] at h3
      cases l' with
      | nil=>simp at hl'
      | cons s' r' =>
        rw [List.take_succ_cons,List.take_succ_cons] at hl'
        injection hl' with q1 q2
        subst q1
        rw [e',h3 r' q2,List.drop_succ_cons]
        rw [show n+1+(m:Int)=n+((m+1:Nat):Int) by omega]
    by_cases hc:ni s n (deed.length:Int)=true
    ·
      right
      have e:∀r',dF (s::r') n out deed used pos=dF r' (n+1) (out++[deed]) [] (pos+1) (pos+1):=fun r'=>by rw [dF,if_pos hc]
      rcases nZ r (n+1) (out++[deed]) [] (pos+1) (pos+1) with h|h
      ·
        rw [e r,h]
        refine ⟨by omega,by rw [List.length_cons];omega,fun l' hl'=>?_⟩
        dsimp only at hl' ⊢
        rw [show pos+1-pos=1 by omega] at hl' ⊢
        cases l' with
        | nil=>simp at hl'
        | cons s' r' =>
          rw [List.take_succ_cons,List.take_succ_cons] at hl'
          injection hl' with q1 q2
          subst q1
          rw [e];rfl
      · exact key _ _ _ (e r) e h
    ·
      by_cases ho:pD s n=true
      ·
        have e:∀r',dF (s::r') n out deed used pos=dF r' (n+1) out (deed++[(ib (fE s)).1]) used (pos+1):=fun r'=>by rw [dF,if_neg hc,if_pos ho]
        rcases nZ r (n+1) out (deed++[(ib (fE s)).1]) used (pos+1) with h|h
        · left;rw [e r,h]
        · right;exact key _ _ _ (e r) e h
      · left;rw [dF,if_neg hc,if_neg ho]
theorem qR (l:List ByteArray)(first:Int):(scan l first).2≤l.length:=by
  rcases nZ l first [] [] 0 0 with h|⟨_,h,_⟩
  · unfold scan;rw [h];exact Nat.zero_le _
  · unfold scan;omega
theorem lU {l l':List ByteArray}{first:Int}(h:l'.take (scan l first).2=l.take (scan l first).2) :
    scan l' first=dF (l'.drop (scan l first).2) (first+((scan l first).2:Int)) (scan l first).1 [] (scan l first).2 (scan l first).2:=by
  rcases nZ l first [] [] 0 0 with h1|⟨_,_,h1⟩
  ·
    have e:scan l first=([],0):=h1
    rw [e];simp [scan]
  ·
    unfold scan at h ⊢
    exact h1 l' (by simpa using h)
end
theorem wi (n:Nat):bl (kt n)=List.replicate n 0:=by simp [bl,kt]
theorem oa (s:ByteArray):bl (full s)=bl s++List.replicate (48-s.size) 0:=by unfold full;rw [iC,wi]
section
variable {k n:Int} {s:ByteArray}
theorem jc (hs:s.size≤41):bl (full (a8 k n s))=u8 k::u8 (n % 256)::u8 (n / 256 % 256)::u8 (n / 65536 % 256)::u8 (n / 16777216 % 256)::UInt8.ofNat s.size::UInt8.ofNat (s.size / 256)::(bl s++List.replicate (41-s.size) 0):=by
  rw [oa,qQ,ic,show 48-(7+s.size)=41-s.size by omega];rfl
theorem jd (hs:s.size≤41):aV (full (a8 k n s)) 0=(u8 k).toNat:=by rw [dE,jc hs];rfl
theorem ig (hs:s.size≤41):(full (a8 k n s)).extract 1 5=aM n:=dN (by
  have:=fh (full (a8 k n s)) 1 5
  rw [jc hs] at this
  refine this.trans ?_
  rfl)
theorem oc (hs:s.size≤41):aU (full (a8 k n s))=s.size:=by
  unfold aU
  have b5:aV (full (a8 k n s)) 5=s.size:=by rw [dE,jc hs];exact i7 (by omega)
  have b6:aV (full (a8 k n s)) 6=0:=by rw [dE,jc hs];show (UInt8.ofNat (s.size / 256)).toNat=0;rw [i7 (by omega)];omega
  rw [b5,b6];omega
theorem od (hs:s.size≤41):fE (full (a8 k n s))=s:=by
  unfold fE
  rw [oc hs]
  exact dN (by
    have:=fh (full (a8 k n s)) 7 (7+s.size)
    rw [jc hs] at this
    refine this.trans ?_
    rw [show 7+s.size=s.size+1+1+1+1+1+1+1 by omega]
    simp only [List.take_succ_cons,List.drop_succ_cons,List.drop_zero]
    rw [← eA s,List.take_left])
theorem uL {c:Int}(n:Int):ni (full (a8 99 n (aM c))) n c=true:=by
  have h:(aM c).size≤41:=by rw [az];omega
  unfold ni
  rw [ig h,oc h,jd h,od h,az]
  simp;rfl
theorem uM {c:Int}(hs:s.size≤41)(n m:Int):ni (full (a8 111 n s)) m c=false:=ka (by rw [jd hs];decide)
theorem uN {c:Change}(hc:ea c=0)(n:Int):pD (full (a8 111 n (dO c).1)) n=true:=by
  have h:(dO c).1.size≤41:=by
    obtain ⟨_,_,h3,h4⟩:=dx hc
    rw [fC hc];omega
  unfold pD
  rw [ig h,oc h,jd h,od h,qM hc]
  simp [h];rfl
theorem uO {c:Change}(hc:ea c=0)(n:Int):(ib (fE (full (a8 111 n (dO c).1)))).1=c:=by
  have h:(dO c).1.size≤41:=by
    obtain ⟨_,_,h3,h4⟩:=dx hc
    rw [fC hc];omega
  rw [od h,qM hc]
theorem iF:aV (full ⟨#[]⟩) 0=0:=by decide +kernel
theorem oW:aV (kt 48) 0=0:=by decide +kernel
theorem oX:full ⟨#[]⟩=kt 48:=by decide +kernel
end
def cu (n:Int):List Change→List ByteArray
  | []=>[]
  | c::l=>full (a8 111 n (dO c).1)::cu (n+1) l
theorem cY:∀ (l:List Change) (n:Int),(cu n l).length=l.length
  | [],_=>rfl
  | c::l,n=>by simp [cu,cY l]
theorem ky:∀ (l:List Change) (n:Int) (i:Nat) (c:Change),l[i]? = some c→(cu n l)[i]? = some (full (a8 111 (n+(i:Int)) (dO c).1))
  | [],_,i,c,h=>by simp at h
  | x::l,n,0,c,h=>by
    simp at h;subst h;simp [cu]
  | x::l,n,i+1,c,h=>by
    simp at h
    have:=ky l (n+1) i c h
    simp only [cu,List.getElem?_cons_succ]
    rw [this,show n+1+(i:Int)=n+((i+1:Nat):Int) by omega]
theorem oY:∀ (l:List Change) (n:Int) (r:List ByteArray) (out:List (List Change)) (deed:List Change) (used pos:Nat),(∀c∈l,ea c=0) →
    dF (cu n l++r) n out deed used pos=dF r (n+(l.length:Int)) out (deed++l) used (pos+l.length)
  | [],n,r,out,deed,used,pos,_=>by simp [cu]
  | c::l,n,r,out,deed,used,pos,h=>by
    have hc:=h c (List.mem_cons_self ..)
    obtain ⟨_,_,h3,h4⟩:=dx hc
    have hs:(dO c).1.size≤41:=by rw [fC hc];omega
    simp only [cu,List.cons_append]
    rw [dF,if_neg (by rw [uM hs];decide),if_pos (uN hc n),uO hc,oY l _ r _ _ _ _ (fun c hc=>h c (List.mem_cons_of_mem _ hc))]
    rw [List.append_assoc,List.length_cons,show n+1+(l.length:Int)=n+((l.length+1:Nat):Int) by omega,show pos+1+l.length=pos+(l.length+1) by omega]
    rfl
theorem qS {l:List Change}{n:Int}{r:List ByteArray}{out:List (List Change)}{used:Nat}(hl:∀c∈l,ea c=0)(hr:r=[] ∨ ∃s r',r=s::r'∧aV s 0=0) :
    dF (cu n l++full (a8 99 (n+(l.length:Int)) (aM (l.length:Int)))::r) n out [] used used=(out++[l],used+l.length+1):=by
  rw [oY l n _ _ _ _ _ hl]
  rw [dF,List.nil_append,if_pos (uL _)]
  rcases hr with rfl|⟨s,r',rfl,hs⟩
  · rfl
  · rw [dF,if_neg (by rw [ka (by omega)];decide),if_neg (by rw [nY (by omega)];decide)]
end Go.Proofs.Ytpipachmngdegaa
end
