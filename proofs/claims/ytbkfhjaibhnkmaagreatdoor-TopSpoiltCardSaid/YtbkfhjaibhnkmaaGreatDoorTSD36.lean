import Derived.Test.YtbkfhjaibhnkmaaGreatDoorTSD34
import Derived.Test.YtbkfhjaibhnkmaaGreatDoorTSD35
import Derived.Lib.Atoi
import Derived.Lib.ItoaNum
import Derived.Lib.Repeat
import Derived.Test.YtbkfhjaibhnkmaaGreatDoorTSD12
section
namespace Go.Proofs.YtbkfhjaibhnkmaaGreatDoor
set_option linter.unusedVariables false
def dV (n:Int):ByteArray:=⟨(Lib.itoa n).toArray⟩
def bf (n:Int):ByteArray:=⟨(Lib.repeatL [48] (4-(dV n).size)).toArray⟩++dV n
def mb (s:ByteArray):Option Int:=match Lib.atoi s.data.toList with|some n=>if bf n=s then some n else none|none=>none
def fL (s:ByteArray):Nat→Option (List Int)
  | 0=>some []
  | k+1=>match fL s k with
    | some l=>match mb (s.extract (4*k) (4*k+4)) with|some n=>some (l++[n])|none=>none
    | none=>none
def bV (s:ByteArray)(m:Nat):Option (List Int):=if s.size<4*m then none else fL s m
theorem jk {s:ByteArray}:∀ {k:Nat} {l:List Int},fL s k=some l→l.length=k
 | 0,l,h=>by simp [fL] at h;subst h;rfl
 | k+1,l,h=>by
  simp only [fL] at h
  split at h
  ·
   rename_i l' h'
   split at h
   ·injection h with h;subst h;simp [jk h']
   ·cases h
  ·cases h
theorem oS {s:ByteArray}{k:Nat}{l:List Int}{n:Int}(h:fL s k=some l)(hn:mb (s.extract (4*k) (4*k+4))=some n):fL s (k+1)=some (l++[n]):=by simp only [fL,h,hn]
theorem oT {s:ByteArray}:∀ {m k:Nat},k≤m→fL s k=none→fL s m=none
 | 0,k,hk,h=>by
  have:k=0:=by omega
  subst this;exact h
 | m+1,k,hk,h=>by
  rcases Nat.lt_or_ge k (m+1) with h1|h1
  ·simp only [fL,oT (m:=m) (by omega) h]
  ·
   have:k=m+1:=by omega
   subst this;exact h
theorem vm {s:ByteArray}{k m:Nat}{l:List Int}(hk:k<m)(h:fL s k=some l)(hn:mb (s.extract (4*k) (4*k+4))=none):fL s m=none :=
 oT (k:=k+1) (by omega) (by simp only [fL,h,hn])
theorem mP {s:ByteArray}:∀ {m k:Nat} {l:List Int},fL s m=some l→k≤m→fL s k=some (l.take k)
 | 0,k,l,h,hk=>by
  have:k=0:=by omega
  subst this;simp [fL] at h ⊢
 | m+1,k,l,h,hk=>by
  simp only [fL] at h
  split at h
  ·
   rename_i l' h'
   split at h
   ·
    rename_i n hn
    injection h with h;subst h
    have hl:=jk h'
    rcases Nat.lt_or_ge k (m+1) with h1|h1
    ·rw [List.take_append_of_le_length (by omega)];exact mP h' (by omega)
    ·
     have:k=m+1:=by omega
     subst this
     rw [List.take_of_length_le (by simp;omega)];exact oS h' hn
   ·cases h
  ·cases h
theorem xb {s:ByteArray}{m j:Nat}{l:List Int}{n:Int}(h:fL s m=some l)(hn:l[j]? = some n):mb (s.extract (4*j) (4*j+4))=some n:=by
 have hl:=jk h
 have hj:=(List.getElem?_eq_some_iff.1 hn).1
 have h1:=mP h (k:=j+1) (by omega)
 have h0:=mP h (k:=j) (by omega)
 simp only [fL,h0] at h1
 split at h1
 ·
  rename_i x hx
  injection h1 with h1
  have e:(l.take (j+1))[j]? = some n:=by rw [List.getElem?_take_of_lt (by omega)];exact hn
  rw [← h1,List.getElem?_append_right (by simp;omega)] at e
  have:j-(l.take j).length=0:=by simp;omega
  rw [this] at e;simp at e;rw [hx,e]
 ·cases h1
theorem iz {s:ByteArray}{m j:Nat}{l:List Int}{n:Int}(h:bV s m=some l)(hn:l[j]? = some n):mb (s.extract (4*j) (4*j+4))=some n:=by
 unfold bV at h;split at h
 ·cases h
 ·exact xb h hn
theorem jl {s:ByteArray}{m:Nat}{l:List Int}(h:bV s m=some l):l.length=m∧4*m≤s.size:=by
 unfold bV at h;split at h
 ·cases h
 ·exact ⟨jk h,by omega⟩
def kH:ByteArray:=⟨#[104]⟩
def kT:ByteArray:=⟨#[116]⟩
def kW:ByteArray:=⟨#[119]⟩
def kX:ByteArray:=⟨#[120]⟩
def hrow (h:Held):Change:=⟨kH++dV h.Place.ao++dV h.Place.Slot,bf h.aj,false⟩
def kQ (t:ah):Change:=⟨kT++bf t.ID,bf t.Kind++t.Data,false⟩
def me (w:aj):Change:=⟨kW++bf w.ID,bf w.ah++bf w.Rights++bf w.aG++bf w.From,false⟩
def CL (r:ap):Change:=⟨kX,bf r.ae++bf r.af,false⟩
def rowsOf (q:ap):List Change:=q.Held.map hrow++q.Things.map kQ++q.ai.map me++[CL q]
def bk (r:ap):List Change:=rowsOf (aR r)
def AG (s:ByteArray)(i:Nat):Int:=(fQ s i:Int)
def sh (c:Change):Place:=⟨AG c.Key 1-48,AG c.Key 2-48⟩
def tf (r:ap)(h:Held):ap:=⟨r.ai,r.Things,r.Held++[h],r.Notes,r.ae,r.af⟩
def vo (r:ap)(t:ah):ap:=⟨r.ai,r.Things++[t],r.Held,r.Notes,r.ae,r.af⟩
def p6 (r:ap)(w:aj):ap:=⟨r.ai++[w],r.Things,r.Held,r.Notes,r.ae,r.af⟩
def xc (r:ap)(a b:Int):ap:=⟨r.ai,r.Things,r.Held,r.Notes,a,b⟩
def mQ (o:Option (List Int))(j:Nat):Int:=((o.getD [])[j]?).getD 0
def rowP (r:ap)(c:Change):ap×Bool :=
  if c.Key.size=0 then (r,false) else
  let key:=bV (c.Key.extract 1 c.Key.size) 1
  let ok:=key.isSome&&decide (c.Key.size=5)
  let n1:=bV c.Val 1
  let n4:=bV c.Val 4
  let n2:=bV c.Val 2
  if fQ c.Key 0=104 then (if n1.isSome=false∨c.Val.size≠4∨c.Key.size≠3 then (r,false) else (tf r ⟨sh c,mQ n1 0⟩,decide (aX (sh c)=0)))
  else if fQ c.Key 0=116 then (if ok=false∨n1.isSome=false∨12<c.Val.size then (r,false) else (vo r ⟨mQ key 0,mQ n1 0,c.Val.extract 4 c.Val.size⟩,decide (mQ n1 0=1∨mQ n1 0=2∧c.Val.size=4)))
  else if fQ c.Key 0=119 then (if ok=false∨n4.isSome=false∨c.Val.size≠16 then (r,false) else (p6 r ⟨mQ key 0,mQ n4 0,mQ n4 1,mQ n4 2,mQ n4 3⟩,true))
  else if c.Key≠kX∨n2.isSome=false∨c.Val.size≠8 then (r,false) else (xc r (mQ n2 0) (mQ n2 1),true)
def lC (pv:Option ByteArray)(c:Change):Bool:=match pv with|some k=>fT k c.Key|none=>true
def pgo:List Change→Option ByteArray→ap→Option ap
  | [],_,r=>some r
  | c::l,pv,r=>if lC pv c && !c.Gone&&(rowP r c).2 then pgo l (some c.Key) (rowP r c).1 else none
structure Whole (r:ap):Prop where
  tree:cj r.ai
  fN:r.Things.length≤10
  jV:1≤r.ae
  kP:r.ae≤1000
  jY:1≤r.af
  jZ:r.af≤1000
  hlen:r.Held.length=r.ai.length
  dz:∀h∈r.Held,0≤bL r.ai h.aj
  once:(r.Held.map Held.aj).Nodup
  things:r.Things.map ah.ID=aY r.ai
  zw:∀w,r.ai.getLast? = some w→w.ID<r.ae
  zx:∀t,r.Things.getLast? = some t→t.ID<r.af
noncomputable def da (r:ap):Bool:= @decide (Whole r) (Classical.propDecidable _)
noncomputable def aZ (l:List Change):ap×Int:=match pgo l none r0 with|some r=>if da r=true then (r,0) else (r0,4)|none=>(r0,4)
theorem oU {r:ap}(h:Whole r):da r=true:=by unfold da;simp [h]
theorem ei {r:ap}(h:¬ Whole r):da r=false:=by unfold da;simp [h]
theorem nk (l:List Change):(∃z,pgo l none r0=some z∧Whole z∧aZ l=(z,0))∨aZ l=(r0,4):=by
 unfold aZ
 cases h:pgo l none r0 with
 | none=>exact .inr rfl
 | some z =>
  by_cases hw:Whole z
  ·left;exact ⟨z,rfl,hw,by dsimp only;rw [if_pos (oU hw)]⟩
  ·right;dsimp only;rw [if_neg (by rw [ei hw];decide)]
end Go.Proofs.YtbkfhjaibhnkmaaGreatDoor
end
section
namespace Go.Proofs.YtbkfhjaibhnkmaaGreatDoor
set_option linter.unusedVariables false
set_option linter.unusedSimpArgs false
def d8 (k:Nat):UInt8:=UInt8.ofNat (48+k)
def vD (k:Nat):List UInt8:=[d8 (k / 1000),d8 (k / 100 % 10),d8 (k / 10 % 10),d8 (k % 10)]
theorem tg {k:Nat}(h:k<10):(d8 k).toNat=48+k:=wZ (by omega)
theorem p7 {a b:Nat}(ha:a<10)(hb:b<10):d8 a<d8 b↔a<b:=by
 rw [UInt8.lt_iff_toNat_lt,tg ha,tg hb];omega
theorem yI (u:Nat):Lib.decDigits u=if u<10 then [d8 u] else Lib.decDigits (u / 10)++[d8 (u % 10)]:=by
 rw [Lib.decDigits];split <;> rfl
theorem zy (l:List UInt8):bl ⟨l.toArray⟩=l:=rfl
theorem size_mk (l:List UInt8):(⟨l.toArray⟩:ByteArray).size=l.length:=by rw [← iy,zy]
theorem qC {n:Int}(h:0≤n):bl (dV n)=Lib.decDigits n.toNat:=by
 show Lib.itoa n=_
 unfold Lib.itoa;rw [if_neg (by omega)]
theorem AH {u:Nat}(h:u<10):Lib.decDigits u=[d8 u]:=by rw [yI,if_pos h]
theorem CM {u:Nat}(h0:10≤u)(h:u<100):Lib.decDigits u=[d8 (u / 10),d8 (u % 10)]:=by rw [yI,if_neg (by omega),AH (by omega)];rfl
theorem CN {u:Nat}(h0:100≤u)(h:u<1000):Lib.decDigits u=[d8 (u / 100),d8 (u / 10 % 10),d8 (u % 10)]:=by
 rw [yI,if_neg (by omega),CM (by omega) (by omega),show u / 10 / 10=u / 100 by omega];rfl
theorem Dy {u:Nat}(h0:1000≤u)(h:u<10000):Lib.decDigits u=vD u:=by
 rw [yI,if_neg (by omega),CN (by omega) (by omega),show u / 10 / 100=u / 1000 by omega,show u / 10 / 10 % 10=u / 100 % 10 by omega];rfl
theorem qD {n:Int}(h0:0≤n)(h1:n<10000):bl (bf n)=vD n.toNat:=by
 have hs:(dV n).size=(Lib.decDigits n.toNat).length:=by rw [← iy,qC h0]
 unfold bf
 rw [gW,zy,qC h0,hs]
 generalize hk:n.toNat=k
 have hk4:k<10000:=by omega
 have z0:(48:UInt8)=d8 0:=rfl
 by_cases c1:k<10
 ·
  rw [AH c1];unfold vD
  rw [show k / 1000=0 by omega,show k / 100 % 10=0 by omega,show k / 10 % 10=0 by omega,show k % 10=k by omega];rfl
 ·
  by_cases c2:k<100
  ·
   rw [CM (by omega) c2];unfold vD
   rw [show k / 1000=0 by omega,show k / 100 % 10=0 by omega,show k / 10 % 10=k / 10 by omega];rfl
  ·
   by_cases c3:k<1000
   ·
    rw [CN (by omega) c3];unfold vD
    rw [show k / 1000=0 by omega,show k / 100 % 10=k / 100 by omega];rfl
   ·rw [Dy (by omega) hk4];rfl
theorem gh {n:Int}(h0:0≤n)(h1:n<10000):(bf n).size=4:=by rw [← iy,qD h0 h1];rfl
theorem jL {s:ByteArray}{n:Int}(h:mb s=some n):bf n=s:=by
 unfold mb at h;split at h
 ·
  split at h
  ·rename_i m hm he;injection h with h;subst h;exact he
  ·cases h
 ·cases h
theorem xd {a b:Nat}(hb:b<10000)(h:a<b):vD a<vD b:=by
 unfold vD
 simp only [List.cons_lt_cons_iff,p7 (show a / 1000<10 by omega) (show b / 1000<10 by omega),p7 (show a / 100 % 10<10 by omega) (show b / 100 % 10<10 by omega),p7 (show a / 10 % 10<10 by omega) (show b / 10 % 10<10 by omega),p7 (show a % 10<10 by omega) (show b % 10<10 by omega)]
 by_cases c1:a / 1000<b / 1000
 ·exact .inl c1
 ·
  refine .inr ⟨by rw [show a / 1000=b / 1000 by omega],?_⟩
  by_cases c2:a / 100 % 10<b / 100 % 10
  ·exact .inl c2
  ·
   refine .inr ⟨by rw [show a / 100 % 10=b / 100 % 10 by omega],?_⟩
   by_cases c3:a / 10 % 10<b / 10 % 10
   ·exact .inl c3
   ·
    refine .inr ⟨by rw [show a / 10 % 10=b / 10 % 10 by omega],?_⟩
    exact .inl (by omega)
theorem rW {n:Int}(h0:0≤n)(h1:n<10):bl (dV n)=[d8 n.toNat]:=by rw [qC h0,AH (by omega)]
theorem hkey {h:Held}(hp:aX h.Place=0):bl (hrow h).Key=[104,d8 h.Place.ao.toNat,d8 h.Place.Slot.toNat]:=by
 have:=bS hp
 show bl (kH++dV h.Place.ao++dV h.Place.Slot)=_
 rw [gW,gW,rW (by omega) (by omega),rW (by omega) (by omega)];rfl
theorem tkey {t:ah}(h0:0≤t.ID)(h1:t.ID<10000):bl (kQ t).Key=116::vD t.ID.toNat:=by
 show bl (kT++bf t.ID)=_
 rw [gW,qD h0 h1];rfl
theorem yJ {w:aj}(h0:0≤w.ID)(h1:w.ID<10000):bl (me w).Key=119::vD w.ID.toNat:=by
 show bl (kW++bf w.ID)=_
 rw [gW,qD h0 h1];rfl
theorem jM {a b:ByteArray}{x y:UInt8}{l m:List UInt8}(ha:bl a=x::l)(hb:bl b=y::m)(h:x<y):fT a b=true:=by
 rw [iP];show bl a<bl b;rw [ha,hb,List.cons_lt_cons_iff];exact .inl h
theorem qE {a b:ByteArray}{x:UInt8}{l m:List UInt8}(ha:bl a=x::l)(hb:bl b=x::m)(h:l<m):fT a b=true:=by
 rw [iP];show bl a<bl b;rw [ha,hb,List.cons_lt_cons_iff];exact .inr ⟨rfl,h⟩
theorem uv {g h:Held}(hg:aX g.Place=0)(hh:aX h.Place=0)(hl:e7 g.Place h.Place):fT (hrow g).Key (hrow h).Key=true:=by
 have:=bS hg;have:=bS hh
 refine qE (hkey hg) (hkey hh) ?_
 rw [List.cons_lt_cons_iff,p7 (by omega) (by omega)]
 rcases hl with hl|⟨he,hl⟩
 ·exact .inl (by omega)
 ·
  refine .inr ⟨by rw [he],?_⟩
  rw [List.cons_lt_cons_iff,p7 (by omega) (by omega)];exact .inl (by omega)
theorem yK {s t:ah}(h0:0≤s.ID)(h1:t.ID<10000)(h:s.ID<t.ID):fT (kQ s).Key (kQ t).Key=true :=
 qE (tkey h0 (by omega)) (tkey (by omega) h1) (xd (by omega) (by omega))
theorem yL {v w:aj}(h0:0≤v.ID)(h1:w.ID<10000)(h:v.ID<w.ID):fT (me v).Key (me w).Key=true :=
 qE (yJ h0 (by omega)) (yJ (by omega) h1) (xd (by omega) (by omega))
theorem mg (a:ByteArray)(j:Nat)(hj:j=a.size):a.extract 0 j=a:=by
 apply lA;show bl _=bl _
 rw [lB,List.take_of_length_le (by rw [iy];omega),List.drop_zero]
theorem oV (a b:ByteArray):(a++b).size=a.size+b.size:=ByteArray.size_append
end Go.Proofs.YtbkfhjaibhnkmaaGreatDoor
end
