import Derived.Test.YtbkfhjaibhnkmaaGreatDoorTRP11
import Derived.Lib.Bytealg
import Derived.Sort.Walk0
import Derived.Test.YtbkfhjaibhnkmaaGreatDoorTRP13
import Derived.Test.YtbkfhjaibhnkmaaGreatDoorTRP35
import Derived.Lib.Atoi
import Derived.Lib.ItoaNum
import Derived.Lib.Repeat
section
namespace Go.Proofs.YtbkfhjaibhnkmaaGreatDoor
open Go
set_option linter.unusedVariables false
theorem sQ (a:ByteArray):a.toList=a.data.toList:=Lib.toList_data a
theorem nH {a b:ByteArray}(h:a.data.toList=b.data.toList):a=b:=by
  cases a with|mk x=>cases b with|mk y=>congr;exact Array.toList_inj.1 h
theorem hO (a b:ByteArray):ke a b=true↔a.data.toList<b.data.toList:=by
  unfold ke;rw [Proofs.bytesLess_eq,sQ,sQ];exact decide_eq_true_iff
theorem sR (a:ByteArray):ke a a=false:=by
  rw [Bool.eq_false_iff];intro h;exact List.lt_irrefl _ ((hO a a).1 h)
theorem oO {a b c:ByteArray}(h:ke a b=true)(k:ke b c=true):ke a c=true:=(hO _ _).2 (List.lt_trans ((hO _ _).1 h) ((hO _ _).1 k))
theorem tT {a b:ByteArray}(h:ke a b=true):ke b a=false:=by
  rw [Bool.eq_false_iff];intro k;have:=oO h k;rw [sR] at this;cases this
theorem qq:∀ (x y:List UInt8),x<y∨x=y∨y<x
  | [],[] => .inr (.inl rfl)
  | [],_::_ => .inl (List.Lex.nil)
  | _::_,[] => .inr (.inr (List.Lex.nil))
  | a::x,b::y=>by
    rcases Nat.lt_trichotomy a.toNat b.toNat with h|h|h
    · exact .inl (List.Lex.rel (UInt8.lt_iff_toNat_lt.2 h))
    ·
      have e:a=b:=UInt8.toNat_inj.1 h
      subst e
      rcases qq x y with h|h|h
      · exact .inl (List.Lex.cons h)
      · exact .inr (.inl (by rw [h]))
      · exact .inr (.inr (List.Lex.cons h))
    · exact .inr (.inr (List.Lex.rel (UInt8.lt_iff_toNat_lt.2 h)))
theorem sS (a b:ByteArray):ke a b=true∨a=b∨ke b a=true:=by
  rcases qq a.data.toList b.data.toList with h|h|h
  · exact .inl ((hO _ _).2 h)
  · exact .inr (.inl (nH h))
  · exact .inr (.inr ((hO _ _).2 h))
theorem zc {a b:ByteArray}(h:ke a b=false)(hn:a≠b):ke b a=true:=by
  rcases sS a b with k|k|k
  · rw [h] at k;cases k
  · exact absurd k hn
  · exact k
end Go.Proofs.YtbkfhjaibhnkmaaGreatDoor
end
section
namespace Go.Proofs.YtbkfhjaibhnkmaaGreatDoor
open Go
set_option linter.unusedVariables false
def c0:Change:=⟨⟨#[]⟩,⟨#[]⟩,false⟩
def fw (s:ByteArray)(i:Nat):Nat:=((s.data[i]?).getD 0).toNat
abbrev bl (s:ByteArray):List UInt8:=s.data.toList
theorem fQ (s:ByteArray):(bl s).length=s.size:=Array.length_toList
theorem kI (a b:ByteArray):bl (a++b)=bl a++bl b:=by simp [bl,ByteArray.data_append]
theorem pq (s:ByteArray)(i j:Nat):bl (s.extract i j)=((bl s).take j).drop i:=by
  simp only [bl,ByteArray.data_extract,Array.toList_extract,List.extract_eq_take_drop]
  rw [List.drop_take]
theorem tU (s:ByteArray)(i:Nat):fw s i=(((bl s)[i]?).getD 0).toNat:=by simp [fw,bl]
theorem vF {s:ByteArray}(h:s.size=0):s=⟨#[]⟩:=nH (by rw [List.eq_nil_of_length_eq_zero (l:=s.data.toList) (by rw [Array.length_toList];exact h)])
theorem vG {n:Nat}(h:n<256):(UInt8.ofNat n).toNat=n:=by rw [UInt8.toNat_ofNat'];omega
def oP (l:List Change):Prop:=l.Pairwise (fun a b=>ke a.Key b.Key=true)
inductive Cut (l:List Change)(k:ByteArray):Prop where
  | hit (A B:List Change) (x:Change) (e:l=A++x::B) (hx:x.Key=k) (ha:∀y∈A,ke y.Key k=true) (hb:∀y∈B,ke k y.Key=true)
  | miss (A B:List Change) (e:l=A++B) (ha:∀y∈A,ke y.Key k=true) (hb:∀y∈B,ke k y.Key=true)
theorem oP.cut:∀ {l:List Change} (h:oP l) (k:ByteArray),Cut l k
  | [],h,k => .miss [] [] rfl (fun y hy=>by cases hy) (fun y hy=>by cases hy)
  | x::l,h,k=>by
    obtain ⟨h1,h2⟩:=List.pairwise_cons.1 h
    rcases sS x.Key k with hl|hl|hl
    ·
      rcases oP.cut h2 k with ⟨A,B,y,e,hy,ha,hb⟩ | ⟨A,B,e,ha,hb⟩
      · exact .hit (x::A) B y (by rw [e];rfl) hy (fun z hz=>by rcases List.mem_cons.1 hz with r|r;exact r▸hl;exact ha z r) hb
      · exact .miss (x::A) B (by rw [e];rfl) (fun z hz=>by rcases List.mem_cons.1 hz with r|r;exact r▸hl;exact ha z r) hb
    · subst hl;exact .hit [] l x rfl rfl (fun y hy=>by cases hy) h1
    · exact .miss [] (x::l) rfl (fun y hy=>by cases hy) (fun z hz=>by rcases List.mem_cons.1 hz with r|r;exact r▸hl;exact oO hl (h1 z r))
end Go.Proofs.YtbkfhjaibhnkmaaGreatDoor
end
section
namespace Go.Proofs.YtbkfhjaibhnkmaaGreatDoor
set_option linter.unusedVariables false
def eu (n:Int):ByteArray:=⟨(Lib.itoa n).toArray⟩
def aZ (n:Int):ByteArray:=⟨(Lib.repeatL [48] (4-(eu n).size)).toArray⟩++eu n
def mC (s:ByteArray):Option Int:=match Lib.atoi s.data.toList with|some n=>if aZ n=s then some n else none|none=>none
def fq (s:ByteArray):Nat→Option (List Int)
  | 0=>some []
  | k+1=>match fq s k with
    | some l=>match mC (s.extract (4*k) (4*k+4)) with|some n=>some (l++[n])|none=>none
    | none=>none
def cK (s:ByteArray)(m:Nat):Option (List Int):=if s.size<4*m then none else fq s m
theorem lQ {s:ByteArray}:∀ {k:Nat} {l:List Int},fq s k=some l→l.length=k
  | 0,l,h=>by simp [fq] at h;subst h;rfl
  | k+1,l,h=>by
    simp only [fq] at h
    split at h
    ·
      rename_i l' h'
      split at h
      · injection h with h;subst h;simp [lQ h']
      · cases h
    · cases h
theorem rM {s:ByteArray}{k:Nat}{l:List Int}{n:Int}(h:fq s k=some l)(hn:mC (s.extract (4*k) (4*k+4))=some n):fq s (k+1)=some (l++[n]):=by simp only [fq,h,hn]
theorem nI {s:ByteArray}:∀ {m k:Nat},k≤m→fq s k=none→fq s m=none
  | 0,k,hk,h=>by
                      have:k=0:=by omega
                      subst this;exact h
  | m+1,k,hk,h=>by
    rcases Nat.lt_or_ge k (m+1) with h1|h1
    · simp only [fq,nI (m:=m) (by omega) h]
    ·
      have:k=m+1:=by omega
      subst this;exact h
theorem tV {s:ByteArray}{k m:Nat}{l:List Int}(hk:k<m)(h:fq s k=some l)(hn:mC (s.extract (4*k) (4*k+4))=none):fq s m=none :=
  nI (k:=k+1) (by omega) (by simp only [fq,h,hn])
theorem tW {s:ByteArray}{m:Nat}{l:List Int}(h:cK s m=some l):l.length=m∧4*m≤s.size:=by
  unfold cK at h;split at h
  · cases h
  · exact ⟨lQ h,by omega⟩
def kH:ByteArray:=⟨#[104]⟩
def kT:ByteArray:=⟨#[116]⟩
def kW:ByteArray:=⟨#[119]⟩
def kX:ByteArray:=⟨#[120]⟩
def hrow (h:Held):Change:=⟨kH++eu h.Place.ag++eu h.Place.Slot,aZ h.ak,false⟩
def gx (t:ai):Change:=⟨kT++aZ t.ID,aZ t.Kind++t.Data,false⟩
def iH (w:ak):Change:=⟨kW++aZ w.ID,aZ w.ai++aZ w.Rights++aZ w.ar++aZ w.From,false⟩
def rN (r:au):Change:=⟨kX,aZ r.ae++aZ r.af,false⟩
def rowsOf (q:au):List Change:=q.Held.map hrow++q.Things.map gx++q.aj.map iH++[rN q]
def bP (r:au):List Change:=rowsOf (aI r)
def xh (s:ByteArray)(i:Nat):Int:=(fw s i:Int)
def AP (c:Change):Place:=⟨xh c.Key 1-48,xh c.Key 2-48⟩
def tX (r:au)(h:Held):au:=⟨r.aj,r.Things,r.Held++[h],r.Notes,r.ae,r.af⟩
def tY (r:au)(t:ai):au:=⟨r.aj,r.Things++[t],r.Held,r.Notes,r.ae,r.af⟩
def qt (r:au)(w:ak):au:=⟨r.aj++[w],r.Things,r.Held,r.Notes,r.ae,r.af⟩
def xj (r:au)(a b:Int):au:=⟨r.aj,r.Things,r.Held,r.Notes,a,b⟩
def tZ (o:Option (List Int))(j:Nat):Int:=((o.getD [])[j]?).getD 0
def rowP (r:au)(c:Change):au×Bool :=
  if c.Key.size=0 then (r,false) else
  let key:=cK (c.Key.extract 1 c.Key.size) 1
  let ok:=key.isSome&&decide (c.Key.size=5)
  let n1:=cK c.Val 1
  let n4:=cK c.Val 4
  let n2:=cK c.Val 2
  if fw c.Key 0=104 then (if n1.isSome=false∨c.Val.size≠4∨c.Key.size≠3 then (r,false) else (tX r ⟨AP c,tZ n1 0⟩,decide (aW (AP c)=0)))
  else if fw c.Key 0=116 then (if ok=false∨n1.isSome=false∨12<c.Val.size then (r,false) else (tY r ⟨tZ key 0,tZ n1 0,c.Val.extract 4 c.Val.size⟩,decide (tZ n1 0=1∨tZ n1 0=2∧c.Val.size=4)))
  else if fw c.Key 0=119 then (if ok=false∨n4.isSome=false∨c.Val.size≠16 then (r,false) else (qt r ⟨tZ key 0,tZ n4 0,tZ n4 1,tZ n4 2,tZ n4 3⟩,true))
  else if c.Key≠kX∨n2.isSome=false∨c.Val.size≠8 then (r,false) else (xj r (tZ n2 0) (tZ n2 1),true)
def kJ (pv:Option ByteArray)(c:Change):Bool:=match pv with|some k=>ke k c.Key|none=>true
def pgo:List Change→Option ByteArray→au→Option au
  | [],_,r=>some r
  | c::l,pv,r=>if kJ pv c && !c.Gone&&(rowP r c).2 then pgo l (some c.Key) (rowP r c).1 else none
structure Whole (r:au):Prop where
  tree:bQ r.aj
  fj:r.Things.length≤10
  jk:1≤r.ae
  j4:r.ae≤1000
  jo:1≤r.af
  jq:r.af≤1000
  hlen:r.Held.length=r.aj.length
  dk:∀h∈r.Held,0≤bC r.aj h.ak
  once:(r.Held.map Held.ak).Nodup
  things:r.Things.map ai.ID=aR r.aj
  xZ:∀w,r.aj.getLast? = some w→w.ID<r.ae
  ya:∀t,r.Things.getLast? = some t→t.ID<r.af
noncomputable def cI (r:au):Bool:= @decide (Whole r) (Classical.propDecidable _)
noncomputable def bj (l:List Change):au×Int:=match pgo l none r0 with|some r=>if cI r=true then (r,0) else (r0,4)|none=>(r0,4)
theorem nJ {r:au}(h:Whole r):cI r=true:=by unfold cI;simp [h]
theorem eb {r:au}(h:¬ Whole r):cI r=false:=by unfold cI;simp [h]
end Go.Proofs.YtbkfhjaibhnkmaaGreatDoor
end
