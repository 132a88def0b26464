import Derived.Test.YtpipachmngdegaaSSP18
import Derived.Test.YtpipachmngdegaaSSP22
import Derived.Test.YtpipachmngdegaaSSP17
section
namespace Go.Proofs.Ytpipachmngdegaa
open Go Go.RowKit
set_option linter.unusedVariables false
structure Lg where
  From:Int
  Many:Int
  First:Int
  Next:Int
  deriving DecidableEq
def aN (n:Int):ByteArray:=⟨#[u8 (n % 256),u8 (n / 256 % 256),u8 (n / 65536 % 256),u8 (n / 16777216 % 256)]⟩
theorem au (n:Int):(aN n).size=4:=rfl
theorem jh (n:Int):bl (aN n)=[u8 (n % 256),u8 (n / 256 % 256),u8 (n / 65536 % 256),u8 (n / 16777216 % 256)]:=rfl
theorem oo {a b:Int}(ha:0≤a∧a≤255)(hb:0≤b∧b≤255)(h:u8 a=u8 b):a=b:=by
  rw [← gH ha,← gH hb,h]
theorem rU {a b:Int}(ha:0≤a∧a<4294967296)(hb:0≤b∧b<4294967296)(h:aN a=aN b):a=b:=by
  have h1:bl (aN a)=bl (aN b):=by rw [h]
  rw [jh,jh] at h1
  simp only [List.cons.injEq,and_true] at h1
  obtain ⟨e0,e1,e2,e3⟩:=h1
  have i0:=oo (by omega) (by omega) e0
  have i1:=oo (by omega) (by omega) e1
  have i2:=oo (by omega) (by omega) e2
  have i3:=oo (by omega) (by omega) e3
  omega
def bf (k:Int)(n:Int)(s:ByteArray):ByteArray:=⟨#[u8 k]⟩++aN n++⟨#[UInt8.ofNat s.size,UInt8.ofNat (s.size / 256)]⟩++s
theorem qX (k n:Int)(s:ByteArray):bl (bf k n s)=u8 k::u8 (n % 256)::u8 (n / 256 % 256)::u8 (n / 65536 % 256)::u8 (n / 16777216 % 256)::UInt8.ofNat s.size::UInt8.ofNat (s.size / 256)::bl s:=by
  unfold bf;simp only [iJ,jh];rfl
theorem iz (k n:Int)(s:ByteArray):(bf k n s).size=7+s.size:=by
  rw [← eO,qX];simp only [List.length_cons,eO];omega
def aX (s:ByteArray):Nat:=aW s 5+256*aW s 6
def fH (s:ByteArray):ByteArray:=s.extract 7 (7+aX s)
def mP (s:ByteArray)(n k:Int):Bool:=decide (s.extract 1 5=aN n)&&decide (aX s≤41)&&decide (aW s 0=99)&&decide (fH s=aN k)
def o7 (s:ByteArray)(n:Int):Bool:=decide (s.extract 1 5=aN n)&&decide (aX s≤41)&&decide (aW s 0=111)&&decide ((iy (fH s)).2=0)
def dQ:List ByteArray→Int→List (List Change)→List Change→Nat→Nat→List (List Change)×Nat
  | [],_,out,_,used,_=>(out,used)
  | s::r,n,out,deed,used,pos =>
    if mP s n (deed.length:Int)=true then dQ r (n+1) (out++[deed]) [] (pos+1) (pos+1)
    else if o7 s n=true then dQ r (n+1) out (deed++[(iy (fH s)).1]) used (pos+1)
    else (out,used)
def scan (l:List ByteArray)(first:Int):List (List Change)×Nat:=dQ l first [] [] 0 0
section
variable {l:List ByteArray} {first n:Int} {out:List (List Change)} {deed:List Change} {used pos i:Nat} {s:ByteArray} {Z:List (List Change)×Nat}
theorem drop_at {α:Type}{l:List α}{i:Nat}{s:α}(h:l[i]? = some s):l.drop i=s::l.drop (i+1):=by
  obtain ⟨h1,h2⟩:=List.getElem?_eq_some_iff.1 h
  rw [List.drop_eq_getElem_cons h1,h2]
theorem tC (h:dQ (l.drop i) (first+(i:Int)) out deed used i=Z)(hs:l[i]? = some s)(hc:mP s (first+(i:Int)) (deed.length:Int)=true) :
    dQ (l.drop (i+1)) (first+((i+1:Nat):Int)) (out++[deed]) [] (i+1) (i+1)=Z:=by
  rw [drop_at hs] at h
  unfold dQ at h
  rw [if_pos hc] at h
  rw [show first+((i+1:Nat):Int)=first+(i:Int)+1 by omega]
  exact h
theorem uT (h:dQ (l.drop i) (first+(i:Int)) out deed used i=Z)(hs:l[i]? = some s)(hc:mP s (first+(i:Int)) (deed.length:Int)=false)(ho:o7 s (first+(i:Int))=true) :
    dQ (l.drop (i+1)) (first+((i+1:Nat):Int)) out (deed++[(iy (fH s)).1]) used (i+1)=Z:=by
  rw [drop_at hs] at h
  unfold dQ at h
  rw [if_neg (by rw [hc];decide),if_pos ho] at h
  rw [show first+((i+1:Nat):Int)=first+(i:Int)+1 by omega]
  exact h
theorem eI (h:dQ (l.drop i) (first+(i:Int)) out deed used i=Z)(hs:l[i]? = some s)(hc:mP s (first+(i:Int)) (deed.length:Int)=false)(ho:o7 s (first+(i:Int))=false):Z=(out,used):=by
  rw [drop_at hs] at h
  unfold dQ at h
  rw [if_neg (by rw [hc];decide),if_neg (by rw [ho];decide)] at h
  exact h.symm
theorem oq (h:dQ (l.drop i) (first+(i:Int)) out deed used i=Z)(hl:l.length≤i):Z=(out,used):=by
  rw [List.drop_of_length_le hl] at h
  exact h.symm
theorem ko {k:Int}(h:¬ aW s 0=99):mP s n k=false:=by unfold mP;simp [h]
theorem lx (h:¬ aW s 0=111):o7 s n=false:=by unfold o7;simp [h]
theorem ot:∀ (l:List ByteArray) (n:Int) (out:List (List Change)) (deed:List Change) (used pos:Nat),
    dQ l n out deed used pos=(out,used)∨(pos<(dQ l n out deed used pos).2∧(dQ l n out deed used pos).2≤pos+l.length ∧
      ∀l':List ByteArray,l'.take ((dQ l n out deed used pos).2-pos)=l.take ((dQ l n out deed used pos).2-pos) →
        dQ l' n out deed used pos=dQ (l'.drop ((dQ l n out deed used pos).2-pos)) (n+(((dQ l n out deed used pos).2-pos:Nat):Int)) (dQ l n out deed used pos).1 [] (dQ l n out deed used pos).2 (dQ l n out deed used pos).2)
  | [],n,out,deed,used,pos => .inl rfl
  | s::r,n,out,deed,used,pos=>by
    have key:∀ (out':List (List Change)) (gY:List Change) (gZ:Nat),dQ (s::r) n out deed used pos=dQ r (n+1) out' gY gZ (pos+1) →
        (∀r',dQ (s::r') n out deed used pos=dQ r' (n+1) out' gY gZ (pos+1)) →
        (pos+1<(dQ r (n+1) out' gY gZ (pos+1)).2∧(dQ r (n+1) out' gY gZ (pos+1)).2≤pos+1+r.length ∧
          ∀l':List ByteArray,l'.take ((dQ r (n+1) out' gY gZ (pos+1)).2-(pos+1))=r.take ((dQ r (n+1) out' gY gZ (pos+1)).2-(pos+1)) →
            dQ l' (n+1) out' gY gZ (pos+1)=dQ (l'.drop ((dQ r (n+1) out' gY gZ (pos+1)).2-(pos+1))) (n+1+(((dQ r (n+1) out' gY gZ (pos+1)).2-(pos+1):Nat):Int)) (dQ r (n+1) out' gY gZ (pos+1)).1 [] (dQ r (n+1) out' gY gZ (pos+1)).2 (dQ r (n+1) out' gY gZ (pos+1)).2) →
        (pos<(dQ (s::r) n out deed used pos).2∧(dQ (s::r) n out deed used pos).2≤pos+(s::r).length ∧
          ∀l':List ByteArray,l'.take ((dQ (s::r) n out deed used pos).2-pos)=(s::r).take ((dQ (s::r) n out deed used pos).2-pos) →
            dQ l' n out deed used pos=dQ (l'.drop ((dQ (s::r) n out deed used pos).2-pos)) (n+(((dQ (s::r) n out deed used pos).2-pos:Nat):Int)) (dQ (s::r) n out deed used pos).1 [] (dQ (s::r) n out deed used pos).2 (dQ (s::r) n out deed used pos).2):=by
      intro out' gY gZ e e' h
      rw [e]
      generalize dQ r (n+1) out' gY gZ (pos+1)=R at h
      obtain ⟨h1,h2,h3⟩:=h
      refine ⟨by omega,by rw [List.length_cons];omega,fun l' hl'=>?_⟩
      obtain ⟨m,hm⟩:∃m,R.2-pos=m+1:=⟨R.2-pos-1,by omega⟩
      have hm':R.2-(pos+1)=m:=by omega
      rw [hm] at hl' ⊢
      rw [hm'] at h3
      cases l' with
      | nil=>simp at hl'
      | cons s' r' =>
        rw [List.take_succ_cons,List.take_succ_cons] at hl'
        injection hl' with q1 q2
        subst q1
        rw [e',h3 r' q2,List.drop_succ_cons]
        rw [show n+1+(m:Int)=n+((m+1:Nat):Int) by omega]
    by_cases hc:mP s n (deed.length:Int)=true
    ·
      right
      have e:∀r',dQ (s::r') n out deed used pos=dQ r' (n+1) (out++[deed]) [] (pos+1) (pos+1):=fun r'=>by rw [dQ,if_pos hc]
      rcases ot r (n+1) (out++[deed]) [] (pos+1) (pos+1) with h|h
      ·
        rw [e r,h]
        refine ⟨by omega,by rw [List.length_cons];omega,fun l' hl'=>?_⟩
        dsimp only at hl' ⊢
        rw [show pos+1-pos=1 by omega] at hl' ⊢
        cases l' with
        | nil=>simp at hl'
        | cons s' r' =>
          rw [List.take_succ_cons,List.take_succ_cons] at hl'
          injection hl' with q1 q2
          subst q1
          rw [e];rfl
      · exact key _ _ _ (e r) e h
    ·
      by_cases ho:o7 s n=true
      ·
        have e:∀r',dQ (s::r') n out deed used pos=dQ r' (n+1) out (deed++[(iy (fH s)).1]) used (pos+1):=fun r'=>by rw [dQ,if_neg hc,if_pos ho]
        rcases ot r (n+1) out (deed++[(iy (fH s)).1]) used (pos+1) with h|h
        · left;rw [e r,h]
        · right;exact key _ _ _ (e r) e h
      · left;rw [dQ,if_neg hc,if_neg ho]
theorem qY (l:List ByteArray)(first:Int):(scan l first).2≤l.length:=by
  rcases ot l first [] [] 0 0 with h|⟨_,h,_⟩
  · unfold scan;rw [h];exact Nat.zero_le _
  · unfold scan;omega
theorem ma {l l':List ByteArray}{first:Int}(h:l'.take (scan l first).2=l.take (scan l first).2) :
    scan l' first=dQ (l'.drop (scan l first).2) (first+((scan l first).2:Int)) (scan l first).1 [] (scan l first).2 (scan l first).2:=by
  rcases ot l first [] [] 0 0 with h1|⟨_,_,h1⟩
  ·
    have e:scan l first=([],0):=h1
    rw [e];simp [scan]
  ·
    unfold scan at h ⊢
    exact h1 l' (by simpa using h)
end
theorem wA (n:Nat):bl (jK n)=List.replicate n 0:=by simp [bl,jK]
theorem ou (s:ByteArray):bl (full s)=bl s++List.replicate (48-s.size) 0:=by unfold full;rw [iJ,wA]
section
variable {k n:Int} {s:ByteArray}
theorem ji (hs:s.size≤41):bl (full (bf k n s))=u8 k::u8 (n % 256)::u8 (n / 256 % 256)::u8 (n / 65536 % 256)::u8 (n / 16777216 % 256)::UInt8.ofNat s.size::UInt8.ofNat (s.size / 256)::(bl s++List.replicate (41-s.size) 0):=by
  rw [ou,qX,iz,show 48-(7+s.size)=41-s.size by omega];rfl
theorem jj (hs:s.size≤41):aW (full (bf k n s)) 0=(u8 k).toNat:=by rw [dP,ji hs];rfl
theorem iA (hs:s.size≤41):(full (bf k n s)).extract 1 5=aN n:=ec (by
  have:=fF (full (bf k n s)) 1 5
  rw [ji hs] at this
  refine this.trans ?_
  rfl)
theorem ov (hs:s.size≤41):aX (full (bf k n s))=s.size:=by
  unfold aX
  have b5:aW (full (bf k n s)) 5=s.size:=by rw [dP,ji hs];exact jg (by omega)
  have b6:aW (full (bf k n s)) 6=0:=by rw [dP,ji hs];show (UInt8.ofNat (s.size / 256)).toNat=0;rw [jg (by omega)];omega
  rw [b5,b6];omega
theorem ow (hs:s.size≤41):fH (full (bf k n s))=s:=by
  unfold fH
  rw [ov hs]
  exact ec (by
    have:=fF (full (bf k n s)) 7 (7+s.size)
    rw [ji hs] at this
    refine this.trans ?_
    rw [show 7+s.size=s.size+1+1+1+1+1+1+1 by omega]
    simp only [List.take_succ_cons,List.drop_succ_cons,List.drop_zero]
    rw [← eO s,List.take_left])
theorem uU {c:Int}(n:Int):mP (full (bf 99 n (aN c))) n c=true:=by
  have h:(aN c).size≤41:=by rw [au];omega
  unfold mP
  rw [iA h,ov h,jj h,ow h,au]
  simp;rfl
theorem uV {c:Int}(hs:s.size≤41)(n m:Int):mP (full (bf 111 n s)) m c=false:=ko (by rw [jj hs];decide)
theorem uW {c:Change}(hc:dH c=0)(n:Int):o7 (full (bf 111 n (ef c).1)) n=true:=by
  have h:(ef c).1.size≤41:=by
    obtain ⟨_,_,h3,h4⟩:=dB hc
    rw [fR hc];omega
  unfold o7
  rw [iA h,ov h,jj h,ow h,qT hc]
  simp [h];rfl
theorem uX {c:Change}(hc:dH c=0)(n:Int):(iy (fH (full (bf 111 n (ef c).1)))).1=c:=by
  have h:(ef c).1.size≤41:=by
    obtain ⟨_,_,h3,h4⟩:=dB hc
    rw [fR hc];omega
  rw [ow h,qT hc]
theorem iN:aW (full ⟨#[]⟩) 0=0:=by decide +kernel
theorem o8:aW (jK 48) 0=0:=by decide +kernel
theorem o9:full ⟨#[]⟩=jK 48:=by decide +kernel
end
def cy (n:Int):List Change→List ByteArray
  | []=>[]
  | c::l=>full (bf 111 n (ef c).1)::cy (n+1) l
theorem dh:∀ (l:List Change) (n:Int),(cy n l).length=l.length
  | [],_=>rfl
  | c::l,n=>by simp [cy,dh l]
theorem kK:∀ (l:List Change) (n:Int) (i:Nat) (c:Change),l[i]? = some c→(cy n l)[i]? = some (full (bf 111 (n+(i:Int)) (ef c).1))
  | [],_,i,c,h=>by simp at h
  | x::l,n,0,c,h=>by
    simp at h;subst h;simp [cy]
  | x::l,n,i+1,c,h=>by
    simp at h
    have:=kK l (n+1) i c h
    simp only [cy,List.getElem?_cons_succ]
    rw [this,show n+1+(i:Int)=n+((i+1:Nat):Int) by omega]
theorem pb:∀ (l:List Change) (n:Int) (r:List ByteArray) (out:List (List Change)) (deed:List Change) (used pos:Nat),(∀c∈l,dH c=0) →
    dQ (cy n l++r) n out deed used pos=dQ r (n+(l.length:Int)) out (deed++l) used (pos+l.length)
  | [],n,r,out,deed,used,pos,_=>by simp [cy]
  | c::l,n,r,out,deed,used,pos,h=>by
    have hc:=h c (List.mem_cons_self ..)
    obtain ⟨_,_,h3,h4⟩:=dB hc
    have hs:(ef c).1.size≤41:=by rw [fR hc];omega
    simp only [cy,List.cons_append]
    rw [dQ,if_neg (by rw [uV hs];decide),if_pos (uW hc n),uX hc,pb l _ r _ _ _ _ (fun c hc=>h c (List.mem_cons_of_mem _ hc))]
    rw [List.append_assoc,List.length_cons,show n+1+(l.length:Int)=n+((l.length+1:Nat):Int) by omega,show pos+1+l.length=pos+(l.length+1) by omega]
    rfl
theorem qZ {l:List Change}{n:Int}{r:List ByteArray}{out:List (List Change)}{used:Nat}(hl:∀c∈l,dH c=0)(hr:r=[] ∨ ∃s r',r=s::r'∧aW s 0=0) :
    dQ (cy n l++full (bf 99 (n+(l.length:Int)) (aN (l.length:Int)))::r) n out [] used used=(out++[l],used+l.length+1):=by
  rw [pb l n _ _ _ _ _ hl]
  rw [dQ,List.nil_append,if_pos (uU _)]
  rcases hr with rfl|⟨s,r',rfl,hs⟩
  · rfl
  · rw [dQ,if_neg (by rw [ko (by omega)];decide),if_neg (by rw [lx (by omega)];decide)]
end Go.Proofs.Ytpipachmngdegaa
end
