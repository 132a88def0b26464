import Derived.Test.YtpipachmngdegaaTCP24
import Derived.Test.YtpipachmngdegaaTCP25
import Derived.Test.YtpipachmngdegaaTCP15
section
namespace Go.Proofs.Ytpipachmngdegaa
open Go Go.RowKit
set_option linter.unusedVariables false
structure vE where
  C:List Change
structure uP where
  E:Int
def dQ (s:ByteArray)(n:Int):Bool:=decide (s.extract 1 5=aM n)&&(decide (aV s 0=111)||decide (aV s 0=99))&&decide (aU s≤41)
def iL (s:ByteArray)(n:Int):Nat:=if dQ s n=true then aV s 0 else 0
def dh (s:ByteArray)(n:Int):ByteArray:=if dQ s n=true then fE s else ⟨#[]⟩
section
variable {s:ByteArray} {n k:Int}
theorem cr (h:¬ s.extract 1 5=aM n):dQ s n=false:=by unfold dQ;simp [h]
theorem ct (h:¬ aV s 0=111)(h':¬ aV s 0=99):dQ s n=false:=by unfold dQ;simp [h,h']
theorem bj (h:41<aU s):dQ s n=false:=by unfold dQ;simp;intros;omega
theorem bf (h:s.extract 1 5=aM n)(h':aV s 0=111∨aV s 0=99)(hl:aU s≤41):dQ s n=true:=by
  unfold dQ;rcases h' with h'|h' <;> simp [h,h',hl]
theorem aO (h:dQ s n=false):iL s n=0∧dh s n=⟨#[]⟩:=by unfold iL dh;simp [h]
theorem bw (h:dQ s n=true):iL s n=aV s 0∧dh s n=fE s:=by unfold iL dh;simp [h]
theorem lV (h:dQ s n=true):s.extract 1 5=aM n∧(aV s 0=111∨aV s 0=99)∧aU s≤41:=by
  unfold dQ at h;simpa [and_assoc] using h
theorem wj (h:dQ s n=true)(hk:iL s n=99)(hx:dh s n=aM k):ni s n k=true:=by
  obtain ⟨h1,h2,h3⟩:=lV h
  obtain ⟨e1,e2⟩:=bw h
  unfold ni;simp [h1,h3,← e1,hk,← e2,hx]
theorem fF (h:dQ s n=false):ni s n k=false∧pD s n=false:=by
  constructor
  ·
    rw [Bool.eq_false_iff];intro hc
    unfold ni at hc;simp only [Bool.and_eq_true,decide_eq_true_eq] at hc
    rw [bf hc.1.1.1 (.inr hc.1.2) hc.1.1.2] at h;cases h
  ·
    rw [Bool.eq_false_iff];intro hc
    unfold pD at hc;simp only [Bool.and_eq_true,decide_eq_true_eq] at hc
    rw [bf hc.1.1.1 (.inl hc.1.2) hc.1.1.2] at h;cases h
theorem fG (h:dQ s n=true)(hk:iL s n=99)(hx:¬ dh s n=aM k):ni s n k=false∧pD s n=false:=by
  obtain ⟨e1,e2⟩:=bw h
  refine ⟨?_,nY (by rw [← e1,hk];decide)⟩
  unfold ni;simp [← e2,hx]
theorem wk (h:dQ s n=true)(hk:¬ iL s n=99)(hp:(ib (dh s n)).2=0):ni s n k=false∧pD s n=true∧dh s n=fE s:=by
  obtain ⟨h1,h2,h3⟩:=lV h
  obtain ⟨e1,e2⟩:=bw h
  have h4:¬ aV s 0=99:=by rw [← e1];exact hk
  have h5:aV s 0=111:=h2.resolve_right h4
  refine ⟨ka h4,?_,e2⟩
  unfold pD;simp [h1,h3,h5,← e2,hp]
theorem fH (h:dQ s n=true)(hk:¬ iL s n=99)(hp:¬ (ib (dh s n)).2=0):ni s n k=false∧pD s n=false:=by
  obtain ⟨e1,e2⟩:=bw h
  refine ⟨ka (by rw [← e1];exact hk),?_⟩
  unfold pD;simp [← e2,hp]
theorem pO (hs:s.size=48):(dh s n).size≤48:=by
  unfold dh fE;split
  · rw [ByteArray.size_extract];omega
  · decide
end
def je (d:bp)(cR:Int)(many:Nat):List ByteArray:=(List.range many).map fun (i:Nat)=>(a6 d (cR+(i:Int))).1
theorem fI (d:bp)(cR:Int)(many:Nat):(je d cR many).length=many:=by simp [je]
theorem dy {d:bp}{cR:Int}{many i:Nat}(h:i<many):(je d cR many)[i]? = some ((a6 d (cR+(i:Int))).1):=by
  simp [je,h]
def dz (d:bp)(cR:Int)(many:Nat)(first:Int):List (List Change):=(scan (je d cR many) first).1
def bY (d:bp)(cR:Int)(many:Nat)(first:Int):Nat:=(scan (je d cR many) first).2
def fq (lg:Lg):bp→List Change→Nat→bp×Int
  | d,[],i=>(d,0)
  | d,x::r,i =>
    if (ar d (lg.From+lg.Next+(i:Int)) (a8 111 (lg.First+lg.Next+(i:Int)) (dO x).1)).2=0 then fq lg (ar d (lg.From+lg.Next+(i:Int)) (a8 111 (lg.First+lg.Next+(i:Int)) (dO x).1)).1 r (i+1)
    else ar d (lg.From+lg.Next+(i:Int)) (a8 111 (lg.First+lg.Next+(i:Int)) (dO x).1)
def aR (lg:Lg)(d:bp)(c:List Change):bp×Int :=
  if (fq lg d c 0).2=0 then (if lg.Next+(c.length:Int)+1<lg.Many then ar (fq lg d c 0).1 (lg.From+(lg.Next+(c.length:Int)+1)) ⟨#[]⟩ else ((fq lg d c 0).1,0)) else fq lg d c 0
def jH (lg:Lg)(d:bp)(c:List Change):bp×Int:=aj (aR lg d c).1
def kb (lg:Lg)(d:bp)(c:List Change):bp×Int:=ar (jH lg d c).1 (lg.From+(lg.Next+(c.length:Int))) (a8 99 (lg.First+(lg.Next+(c.length:Int))) (aM (c.length:Int)))
def kV (lg:Lg)(d:bp)(c:List Change):bp×Int:=aj (kb lg d c).1
def dR:List Change→Int
  | []=>0
  | x::r=>if ea x=0 then dR r else ea x
def ec (lg:Lg)(c:List Change):Int:=if 62<c.length then 2 else if lg.Many-lg.Next<(c.length:Int)+1 then 9 else dR c
def aP (lg:Lg)(d:bp)(c:List Change):Lg×bp×Int :=
  if ¬ ec lg c=0 then (lg,d,ec lg c)
  else if ¬ (aR lg d c).2=0 then (lg,aR lg d c)
  else if ¬ (jH lg d c).2=0 then (lg,jH lg d c)
  else if ¬ (kb lg d c).2=0 then (lg,kb lg d c)
  else if ¬ (kV lg d c).2=0 then (lg,kV lg d c)
  else (⟨lg.From,lg.Many,lg.First,lg.Next+(c.length:Int)+1⟩,(kV lg d c).1,0)
section
variable {lg:Lg} {d dm:bp} {c:List Change} {i n m:Nat} {x:Change} {Z:bp×Int}
theorem wm (h:fq lg dm (c.drop i) i=Z)(hx:c[i]? = some x)(hw:(ar dm (lg.From+lg.Next+(i:Int)) (a8 111 (lg.First+lg.Next+(i:Int)) (dO x).1)).2=0) :
    fq lg (ar dm (lg.From+lg.Next+(i:Int)) (a8 111 (lg.First+lg.Next+(i:Int)) (dO x).1)).1 (c.drop (i+1)) (i+1)=Z:=by
  rw [drop_at hx] at h;unfold fq at h;rw [if_pos hw] at h;exact h
theorem ta (h:fq lg dm (c.drop i) i=Z)(hx:c[i]? = some x)(hw:¬ (ar dm (lg.From+lg.Next+(i:Int)) (a8 111 (lg.First+lg.Next+(i:Int)) (dO x).1)).2=0) :
    Z=ar dm (lg.From+lg.Next+(i:Int)) (a8 111 (lg.First+lg.Next+(i:Int)) (dO x).1):=by
  rw [drop_at hx] at h;unfold fq at h;rw [if_neg hw] at h;exact h.symm
theorem qT (h:fq lg dm (c.drop i) i=Z)(hi:c.length≤i):Z=(dm,0):=by
  rw [List.drop_of_length_le hi] at h;unfold fq at h;exact h.symm
theorem rO (h:Z=fq lg d c 0)(hz:¬ Z.2=0):aR lg d c=(Z.1,Z.2):=by
  unfold aR;rw [← h,if_neg hz]
theorem o0 (h:fq lg d c 0=(dm,0))(hl:lg.Next+(c.length:Int)+1<lg.Many):aR lg d c=((ar dm (lg.From+(lg.Next+(c.length:Int)+1)) ⟨#[]⟩).1,(ar dm (lg.From+(lg.Next+(c.length:Int)+1)) ⟨#[]⟩).2):=by
  unfold aR;rw [h,if_pos rfl,if_pos hl]
theorem nj (h:fq lg d c 0=(dm,0))(hl:¬ lg.Next+(c.length:Int)+1<lg.Many):aR lg d c=(dm,0):=by
  unfold aR;rw [h,if_pos rfl,if_neg hl]
theorem lW (h:cz n m d)(hd:d.Down=false){i:Int}(h0:0≤i)(h1:i<(n:Int)):(a6 d i).2=0∧(a6 d i).1.size=48:=by
  have hn:=h.nl
  obtain ⟨x,hx⟩:∃x,d.Now[i.toNat]? = some x:=⟨_,List.getElem?_eq_getElem (by omega)⟩
  rw [dL hd h0 hx]
  exact ⟨rfl,h.ns x (List.mem_of_getElem? hx)⟩
theorem og (h:ea x=0):(dO x).2=0∧(dO x).1.size≤41:=by
  obtain ⟨_,_,h3,h4⟩:=dx h
  exact ⟨by unfold dO;rw [if_pos h],by rw [fC h];omega⟩
theorem qU:∀ (c:List Change) (d:bp) (i m:Nat),cz n m d→cz n (m+c.length) (fq lg d c i).1
  | [],d,i,m,h=>by unfold fq;simpa using h
  | x::r,d,i,m,h=>by
    unfold fq
    have h1:=h.write (lg.From+lg.Next+(i:Int)) (a8 111 (lg.First+lg.Next+(i:Int)) (dO x).1)
    split
    ·
      have:=qU r _ (i+1) (m+1) h1
      rw [List.length_cons,show m+(r.length+1)=m+1+r.length by omega];exact this
    · exact h1.up (by rw [List.length_cons];omega)
theorem oj (h:cz n m d):cz n (m+c.length+1) (aR lg d c).1:=by
  have h1:=qU (lg:=lg) c d 0 m h
  unfold aR
  split
  ·
    split
    · exact h1.write _ _
    · exact h1.up (by omega)
  · exact h1.up (by omega)
theorem qV (h:cz n m d):cz n (m+c.length+1) (jH lg d c).1:=(oj h).flush
theorem qW (h:cz n m d):cz n (m+c.length+2) (kb lg d c).1:=(qV h).write _ _
theorem qX (h:cz n m d):cz n (m+c.length+2) (kV lg d c).1:=(qW h).flush
theorem k0 (h:cz n m d):cz n (m+c.length+2) (aP lg d c).2.1:=by
  unfold aP
  (repeat' split)
  · exact h.up (by omega)
  · exact (oj h).up (by omega)
  · exact (qV h).up (by omega)
  · exact qW h
  · exact qX h
  · exact qX h
theorem jq:∀ {c:List Change},dR c=0 → ∀x∈c,ea x=0
  | [],_,x,hx=>by cases hx
  | y::r,h,x,hx=>by
    unfold dR at h
    split at h
    ·
      rename_i h0
      rcases List.mem_cons.1 hx with rfl|hx
      · exact h0
      · exact jq h x hx
    · exact absurd h (by assumption)
theorem td {f:Int}(h:dR (c.drop i)=f)(hx:c[i]? = some x)(h0:ea x=0):dR (c.drop (i+1))=f:=by
  rw [drop_at hx] at h;unfold dR at h;rw [if_pos h0] at h;exact h
theorem om {f:Int}(h:dR (c.drop i)=f)(hx:c[i]? = some x)(h0:¬ ea x=0):f=ea x:=by
  rw [drop_at hx] at h;unfold dR at h;rw [if_neg h0] at h;exact h.symm
theorem tf {f:Int}(h:dR (c.drop i)=f)(hi:c.length≤i):f=0:=by
  rw [List.drop_of_length_le hi] at h;unfold dR at h;exact h.symm
theorem tg (h:62<c.length):aP lg d c=(lg,d,2):=by
  have e:ec lg c=2:=by unfold ec;rw [if_pos h]
  unfold aP;rw [e,if_pos (by decide)]
theorem tj (h:¬ 62<c.length)(h':lg.Many-lg.Next<(c.length:Int)+1):aP lg d c=(lg,d,9):=by
  have e:ec lg c=9:=by unfold ec;rw [if_neg h,if_pos h']
  unfold aP;rw [e,if_pos (by decide)]
theorem rP {f:Int}(h:¬ 62<c.length)(h':¬ lg.Many-lg.Next<(c.length:Int)+1)(hf:dR c=f)(h0:¬ f=0):aP lg d c=(lg,d,f):=by
  have e:ec lg c=f:=by unfold ec;rw [if_neg h,if_neg h',hf]
  unfold aP;rw [e,if_pos h0]
theorem oo (h:¬ 62<c.length)(h':¬ lg.Many-lg.Next<(c.length:Int)+1)(hf:dR c=0):ec lg c=0:=by
  unfold ec;rw [if_neg h,if_neg h',hf]
theorem nk (h:ec lg c=0)(ha:¬ (aR lg d c).2=0):aP lg d c=(lg,(aR lg d c).1,(aR lg d c).2):=by
  unfold aP;rw [if_neg (by omega),if_pos ha]
theorem nn (h:ec lg c=0)(ha:(aR lg d c).2=0)(hb:¬ (jH lg d c).2=0):aP lg d c=(lg,(jH lg d c).1,(jH lg d c).2):=by
  unfold aP;rw [if_neg (by omega),if_neg (by omega),if_pos hb]
theorem np (h:ec lg c=0)(ha:(aR lg d c).2=0)(hb:(jH lg d c).2=0)(hc:¬ (kb lg d c).2=0):aP lg d c=(lg,(kb lg d c).1,(kb lg d c).2):=by
  unfold aP;rw [if_neg (by omega),if_neg (by omega),if_neg (by omega),if_pos hc]
theorem nq (h:ec lg c=0)(ha:(aR lg d c).2=0)(hb:(jH lg d c).2=0)(hc:(kb lg d c).2=0)(hd:¬ (kV lg d c).2=0):aP lg d c=(lg,(kV lg d c).1,(kV lg d c).2):=by
  unfold aP;rw [if_neg (by omega),if_neg (by omega),if_neg (by omega),if_neg (by omega),if_pos hd]
theorem jI (h:ec lg c=0)(ha:(aR lg d c).2=0)(hb:(jH lg d c).2=0)(hc:(kb lg d c).2=0)(hd:(kV lg d c).2=0):aP lg d c=(⟨lg.From,lg.Many,lg.First,lg.Next+(c.length:Int)+1⟩,(kV lg d c).1,0):=by
  unfold aP;rw [if_neg (by omega),if_neg (by omega),if_neg (by omega),if_neg (by omega),if_neg (by omega)]
end
end Go.Proofs.Ytpipachmngdegaa
end
