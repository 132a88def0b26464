import Derived.Test.YtpipachmngdegaaSSP24
import Derived.Test.YtpipachmngdegaaSSP25
section
namespace Go.Proofs.Ytpipachmngdegaa
open Go Go.RowKit
set_option linter.unusedVariables false
structure vT where
  C:List Change
structure u7 where
  E:Int
def ej (s:ByteArray)(n:Int):Bool:=decide (s.extract 1 5=aN n)&&(decide (aW s 0=111)||decide (aW s 0=99))&&decide (aX s≤41)
def iU (s:ByteArray)(n:Int):Nat:=if ej s n=true then aW s 0 else 0
def dw (s:ByteArray)(n:Int):ByteArray:=if ej s n=true then fH s else ⟨#[]⟩
section
variable {s:ByteArray} {n k:Int}
theorem cw (h:¬ s.extract 1 5=aN n):ej s n=false:=by unfold ej;simp [h]
theorem cx (h:¬ aW s 0=111)(h':¬ aW s 0=99):ej s n=false:=by unfold ej;simp [h,h']
theorem bn (h:41<aX s):ej s n=false:=by unfold ej;simp;intros;omega
theorem bh (h:s.extract 1 5=aN n)(h':aW s 0=111∨aW s 0=99)(hl:aX s≤41):ej s n=true:=by
  unfold ej;rcases h' with h'|h' <;> simp [h,h',hl]
theorem aP (h:ej s n=false):iU s n=0∧dw s n=⟨#[]⟩:=by unfold iU dw;simp [h]
theorem bw (h:ej s n=true):iU s n=aW s 0∧dw s n=fH s:=by unfold iU dw;simp [h]
theorem mb (h:ej s n=true):s.extract 1 5=aN n∧(aW s 0=111∨aW s 0=99)∧aX s≤41:=by
  unfold ej at h;simpa [and_assoc] using h
theorem wE (h:ej s n=true)(hk:iU s n=99)(hx:dw s n=aN k):mP s n k=true:=by
  obtain ⟨h1,h2,h3⟩:=mb h
  obtain ⟨e1,e2⟩:=bw h
  unfold mP;simp [h1,h3,← e1,hk,← e2,hx]
theorem fT (h:ej s n=false):mP s n k=false∧o7 s n=false:=by
  constructor
  ·
    rw [Bool.eq_false_iff];intro hc
    unfold mP at hc;simp only [Bool.and_eq_true,decide_eq_true_eq] at hc
    rw [bh hc.1.1.1 (.inr hc.1.2) hc.1.1.2] at h;cases h
  ·
    rw [Bool.eq_false_iff];intro hc
    unfold o7 at hc;simp only [Bool.and_eq_true,decide_eq_true_eq] at hc
    rw [bh hc.1.1.1 (.inl hc.1.2) hc.1.1.2] at h;cases h
theorem fU (h:ej s n=true)(hk:iU s n=99)(hx:¬ dw s n=aN k):mP s n k=false∧o7 s n=false:=by
  obtain ⟨e1,e2⟩:=bw h
  refine ⟨?_,lx (by rw [← e1,hk];decide)⟩
  unfold mP;simp [← e2,hx]
theorem wF (h:ej s n=true)(hk:¬ iU s n=99)(hp:(iy (dw s n)).2=0):mP s n k=false∧o7 s n=true∧dw s n=fH s:=by
  obtain ⟨h1,h2,h3⟩:=mb h
  obtain ⟨e1,e2⟩:=bw h
  have h4:¬ aW s 0=99:=by rw [← e1];exact hk
  have h5:aW s 0=111:=h2.resolve_right h4
  refine ⟨ko h4,?_,e2⟩
  unfold o7;simp [h1,h3,h5,← e2,hp]
theorem fV (h:ej s n=true)(hk:¬ iU s n=99)(hp:¬ (iy (dw s n)).2=0):mP s n k=false∧o7 s n=false:=by
  obtain ⟨e1,e2⟩:=bw h
  refine ⟨ko (by rw [← e1];exact hk),?_⟩
  unfold o7;simp [← e2,hp]
theorem p7 (hs:s.size=48):(dw s n).size≤48:=by
  unfold dw fH;split
  · rw [ByteArray.size_extract];omega
  · decide
end
def jm (d:bA)(cS:Int)(many:Nat):List ByteArray:=(List.range many).map fun (i:Nat)=>(aO d (cS+(i:Int))).1
theorem fW (d:bA)(cS:Int)(many:Nat):(jm d cS many).length=many:=by simp [jm]
theorem dE {d:bA}{cS:Int}{many i:Nat}(h:i<many):(jm d cS many)[i]? = some ((aO d (cS+(i:Int))).1):=by
  simp [jm,h]
def dL (d:bA)(cS:Int)(many:Nat)(first:Int):List (List Change):=(scan (jm d cS many) first).1
def cj (d:bA)(cS:Int)(many:Nat)(first:Int):Nat:=(scan (jm d cS many) first).2
def fI (lg:Lg):bA→List Change→Nat→bA×Int
  | d,[],i=>(d,0)
  | d,x::r,i =>
    if (aj d (lg.From+lg.Next+(i:Int)) (bf 111 (lg.First+lg.Next+(i:Int)) (ef x).1)).2=0 then fI lg (aj d (lg.From+lg.Next+(i:Int)) (bf 111 (lg.First+lg.Next+(i:Int)) (ef x).1)).1 r (i+1)
    else aj d (lg.From+lg.Next+(i:Int)) (bf 111 (lg.First+lg.Next+(i:Int)) (ef x).1)
def aV (lg:Lg)(d:bA)(c:List Change):bA×Int :=
  if (fI lg d c 0).2=0 then (if lg.Next+(c.length:Int)+1<lg.Many then aj (fI lg d c 0).1 (lg.From+(lg.Next+(c.length:Int)+1)) ⟨#[]⟩ else ((fI lg d c 0).1,0)) else fI lg d c 0
def jU (lg:Lg)(d:bA)(c:List Change):bA×Int:=ag (aV lg d c).1
def kr (lg:Lg)(d:bA)(c:List Change):bA×Int:=aj (jU lg d c).1 (lg.From+(lg.Next+(c.length:Int))) (bf 99 (lg.First+(lg.Next+(c.length:Int))) (aN (c.length:Int)))
def lq (lg:Lg)(d:bA)(c:List Change):bA×Int:=ag (kr lg d c).1
def dF:List Change→Int
  | []=>0
  | x::r=>if dH x=0 then dF r else dH x
def eE (lg:Lg)(c:List Change):Int:=if 62<c.length then 2 else if lg.Many-lg.Next<(c.length:Int)+1 then 9 else dF c
def aR (lg:Lg)(d:bA)(c:List Change):Lg×bA×Int :=
  if ¬ eE lg c=0 then (lg,d,eE lg c)
  else if ¬ (aV lg d c).2=0 then (lg,aV lg d c)
  else if ¬ (jU lg d c).2=0 then (lg,jU lg d c)
  else if ¬ (kr lg d c).2=0 then (lg,kr lg d c)
  else if ¬ (lq lg d c).2=0 then (lg,lq lg d c)
  else (⟨lg.From,lg.Many,lg.First,lg.Next+(c.length:Int)+1⟩,(lq lg d c).1,0)
section
variable {lg:Lg} {d dm:bA} {c:List Change} {i n m:Nat} {x:Change} {Z:bA×Int}
theorem wG (h:fI lg dm (c.drop i) i=Z)(hx:c[i]? = some x)(hw:(aj dm (lg.From+lg.Next+(i:Int)) (bf 111 (lg.First+lg.Next+(i:Int)) (ef x).1)).2=0) :
    fI lg (aj dm (lg.From+lg.Next+(i:Int)) (bf 111 (lg.First+lg.Next+(i:Int)) (ef x).1)).1 (c.drop (i+1)) (i+1)=Z:=by
  rw [drop_at hx] at h;unfold fI at h;rw [if_pos hw] at h;exact h
theorem tF (h:fI lg dm (c.drop i) i=Z)(hx:c[i]? = some x)(hw:¬ (aj dm (lg.From+lg.Next+(i:Int)) (bf 111 (lg.First+lg.Next+(i:Int)) (ef x).1)).2=0) :
    Z=aj dm (lg.From+lg.Next+(i:Int)) (bf 111 (lg.First+lg.Next+(i:Int)) (ef x).1):=by
  rw [drop_at hx] at h;unfold fI at h;rw [if_neg hw] at h;exact h.symm
theorem ra (h:fI lg dm (c.drop i) i=Z)(hi:c.length≤i):Z=(dm,0):=by
  rw [List.drop_of_length_le hi] at h;unfold fI at h;exact h.symm
theorem rX (h:Z=fI lg d c 0)(hz:¬ Z.2=0):aV lg d c=(Z.1,Z.2):=by
  unfold aV;rw [← h,if_neg hz]
theorem pg (h:fI lg d c 0=(dm,0))(hl:lg.Next+(c.length:Int)+1<lg.Many):aV lg d c=((aj dm (lg.From+(lg.Next+(c.length:Int)+1)) ⟨#[]⟩).1,(aj dm (lg.From+(lg.Next+(c.length:Int)+1)) ⟨#[]⟩).2):=by
  unfold aV;rw [h,if_pos rfl,if_pos hl]
theorem nz (h:fI lg d c 0=(dm,0))(hl:¬ lg.Next+(c.length:Int)+1<lg.Many):aV lg d c=(dm,0):=by
  unfold aV;rw [h,if_pos rfl,if_neg hl]
theorem kt (h:cI n m d)(hd:d.Down=false){i:Int}(h0:0≤i)(h1:i<(n:Int)):(aO d i).2=0∧(aO d i).1.size=48:=by
  have hn:=h.nl
  obtain ⟨x,hx⟩:∃x,d.Now[i.toNat]? = some x:=⟨_,List.getElem?_eq_getElem (by omega)⟩
  rw [d9 hd h0 hx]
  exact ⟨rfl,h.ns x (List.mem_of_getElem? hx)⟩
theorem oz (h:dH x=0):(ef x).2=0∧(ef x).1.size≤41:=by
  obtain ⟨_,_,h3,h4⟩:=dB h
  exact ⟨by unfold ef;rw [if_pos h],by rw [fR h];omega⟩
theorem rh:∀ (c:List Change) (d:bA) (i m:Nat),cI n m d→cI n (m+c.length) (fI lg d c i).1
  | [],d,i,m,h=>by unfold fI;simpa using h
  | x::r,d,i,m,h=>by
    unfold fI
    have h1:=h.write (lg.From+lg.Next+(i:Int)) (bf 111 (lg.First+lg.Next+(i:Int)) (ef x).1)
    split
    ·
      have:=rh r _ (i+1) (m+1) h1
      rw [List.length_cons,show m+(r.length+1)=m+1+r.length by omega];exact this
    · exact h1.up (by rw [List.length_cons];omega)
theorem oA (h:cI n m d):cI n (m+c.length+1) (aV lg d c).1:=by
  have h1:=rh (lg:=lg) c d 0 m h
  unfold aV
  split
  ·
    split
    · exact h1.write _ _
    · exact h1.up (by omega)
  · exact h1.up (by omega)
theorem ri (h:cI n m d):cI n (m+c.length+1) (jU lg d c).1:=(oA h).flush
theorem rj (h:cI n m d):cI n (m+c.length+2) (kr lg d c).1:=(ri h).write _ _
theorem rk (h:cI n m d):cI n (m+c.length+2) (lq lg d c).1:=(rj h).flush
theorem ly (h:cI n m d):cI n (m+c.length+2) (aR lg d c).2.1:=by
  unfold aR
  (repeat' split)
  · exact h.up (by omega)
  · exact (oA h).up (by omega)
  · exact (ri h).up (by omega)
  · exact rj h
  · exact rk h
  · exact rk h
theorem kU:∀c:List Change,0≤dF c
  | []=>Int.le_refl _
  | x::r=>by
    unfold dF;have:=aS x;have:=kU r
    split <;> omega
theorem jC:∀ {c:List Change},dF c=0 → ∀x∈c,dH x=0
  | [],_,x,hx=>by cases hx
  | y::r,h,x,hx=>by
    unfold dF at h
    split at h
    ·
      rename_i h0
      rcases List.mem_cons.1 hx with rfl|hx
      · exact h0
      · exact jC h x hx
    · exact absurd h (by assumption)
theorem rl {f:Int}(h:dF (c.drop i)=f)(hx:c[i]? = some x)(h0:dH x=0):dF (c.drop (i+1))=f:=by
  rw [drop_at hx] at h;unfold dF at h;rw [if_pos h0] at h;exact h
theorem lz {f:Int}(h:dF (c.drop i)=f)(hx:c[i]? = some x)(h0:¬ dH x=0):f=dH x:=by
  rw [drop_at hx] at h;unfold dF at h;rw [if_neg h0] at h;exact h.symm
theorem p8 {f:Int}(h:dF (c.drop i)=f)(hi:c.length≤i):f=0:=by
  rw [List.drop_of_length_le hi] at h;unfold dF at h;exact h.symm
theorem tG (h:62<c.length):aR lg d c=(lg,d,2):=by
  have e:eE lg c=2:=by unfold eE;rw [if_pos h]
  unfold aR;rw [e,if_pos (by decide)]
theorem tH (h:¬ 62<c.length)(h':lg.Many-lg.Next<(c.length:Int)+1):aR lg d c=(lg,d,9):=by
  have e:eE lg c=9:=by unfold eE;rw [if_neg h,if_pos h']
  unfold aR;rw [e,if_pos (by decide)]
theorem rY {f:Int}(h:¬ 62<c.length)(h':¬ lg.Many-lg.Next<(c.length:Int)+1)(hf:dF c=f)(h0:¬ f=0):aR lg d c=(lg,d,f):=by
  have e:eE lg c=f:=by unfold eE;rw [if_neg h,if_neg h',hf]
  unfold aR;rw [e,if_pos h0]
theorem oB (h:¬ 62<c.length)(h':¬ lg.Many-lg.Next<(c.length:Int)+1)(hf:dF c=0):eE lg c=0:=by
  unfold eE;rw [if_neg h,if_neg h',hf]
theorem nA (h:eE lg c=0)(ha:¬ (aV lg d c).2=0):aR lg d c=(lg,(aV lg d c).1,(aV lg d c).2):=by
  unfold aR;rw [if_neg (by omega),if_pos ha]
theorem nB (h:eE lg c=0)(ha:(aV lg d c).2=0)(hb:¬ (jU lg d c).2=0):aR lg d c=(lg,(jU lg d c).1,(jU lg d c).2):=by
  unfold aR;rw [if_neg (by omega),if_neg (by omega),if_pos hb]
theorem nC (h:eE lg c=0)(ha:(aV lg d c).2=0)(hb:(jU lg d c).2=0)(hc:¬ (kr lg d c).2=0):aR lg d c=(lg,(kr lg d c).1,(kr lg d c).2):=by
  unfold aR;rw [if_neg (by omega),if_neg (by omega),if_neg (by omega),if_pos hc]
theorem nD (h:eE lg c=0)(ha:(aV lg d c).2=0)(hb:(jU lg d c).2=0)(hc:(kr lg d c).2=0)(hd:¬ (lq lg d c).2=0):aR lg d c=(lg,(lq lg d c).1,(lq lg d c).2):=by
  unfold aR;rw [if_neg (by omega),if_neg (by omega),if_neg (by omega),if_neg (by omega),if_pos hd]
theorem jV (h:eE lg c=0)(ha:(aV lg d c).2=0)(hb:(jU lg d c).2=0)(hc:(kr lg d c).2=0)(hd:(lq lg d c).2=0):aR lg d c=(⟨lg.From,lg.Many,lg.First,lg.Next+(c.length:Int)+1⟩,(lq lg d c).1,0):=by
  unfold aR;rw [if_neg (by omega),if_neg (by omega),if_neg (by omega),if_neg (by omega),if_neg (by omega)]
end
end Go.Proofs.Ytpipachmngdegaa
end
