import Derived.Test.YtbkfhjaibhnkmaaGreatDoorTRP36
import Derived.Test.YtbkfhjaibhnkmaaGreatDoorTRP13
namespace Go.Proofs.YtbkfhjaibhnkmaaGreatDoor
set_option linter.unusedVariables false
set_option linter.unusedSimpArgs false
def d8 (k:Nat):UInt8:=UInt8.ofNat (48+k)
def rO (k:Nat):List UInt8:=[d8 (k / 1000),d8 (k / 100 % 10),d8 (k / 10 % 10),d8 (k % 10)]
theorem lR {k:Nat}(h:k<10):(d8 k).toNat=48+k:=vG (by omega)
theorem oQ {a b:Nat}(ha:a<10)(hb:b<10):d8 a<d8 b↔a<b:=by
  rw [UInt8.lt_iff_toNat_lt,lR ha,lR hb];omega
theorem xk (u:Nat):Lib.decDigits u=if u<10 then [d8 u] else Lib.decDigits (u / 10)++[d8 (u % 10)]:=by
  rw [Lib.decDigits];split <;> rfl
theorem yb (l:List UInt8):bl ⟨l.toArray⟩=l:=rfl
theorem size_mk (l:List UInt8):(⟨l.toArray⟩:ByteArray).size=l.length:=by rw [← fQ,yb]
theorem pw {n:Int}(h:0≤n):bl (eu n)=Lib.decDigits n.toNat:=by
  show Lib.itoa n=_
  unfold Lib.itoa;rw [if_neg (by omega)]
theorem zd {u:Nat}(h:u<10):Lib.decDigits u=[d8 u]:=by rw [xk,if_pos h]
theorem AQ {u:Nat}(h0:10≤u)(h:u<100):Lib.decDigits u=[d8 (u / 10),d8 (u % 10)]:=by rw [xk,if_neg (by omega),zd (by omega)];rfl
theorem AR {u:Nat}(h0:100≤u)(h:u<1000):Lib.decDigits u=[d8 (u / 100),d8 (u / 10 % 10),d8 (u % 10)]:=by
  rw [xk,if_neg (by omega),AQ (by omega) (by omega),show u / 10 / 10=u / 100 by omega];rfl
theorem BO {u:Nat}(h0:1000≤u)(h:u<10000):Lib.decDigits u=rO u:=by
  rw [xk,if_neg (by omega),AR (by omega) (by omega),show u / 10 / 100=u / 1000 by omega,show u / 10 / 10 % 10=u / 100 % 10 by omega];rfl
theorem mL {n:Int}(h0:0≤n)(h1:n<10000):bl (aZ n)=rO n.toNat:=by
  have hs:(eu n).size=(Lib.decDigits n.toNat).length:=by rw [← fQ,pw h0]
  unfold aZ
  rw [kI,yb,pw h0,hs]
  generalize hk:n.toNat=k
  have hk4:k<10000:=by omega
  have z0:(48:UInt8)=d8 0:=rfl
  by_cases c1:k<10
  ·
    rw [zd c1];unfold rO
    rw [show k / 1000=0 by omega,show k / 100 % 10=0 by omega,show k / 10 % 10=0 by omega,show k % 10=k by omega];rfl
  ·
    by_cases c2:k<100
    ·
      rw [AQ (by omega) c2];unfold rO
      rw [show k / 1000=0 by omega,show k / 100 % 10=0 by omega,show k / 10 % 10=k / 10 by omega];rfl
    ·
      by_cases c3:k<1000
      ·
        rw [AR (by omega) c3];unfold rO
        rw [show k / 1000=0 by omega,show k / 100 % 10=k / 100 by omega];rfl
      · rw [BO (by omega) hk4];rfl
theorem bM {n:Int}(h0:0≤n)(h1:n<10000):(aZ n).size=4:=by rw [← fQ,mL h0 h1];rfl
theorem lu {k:Nat}(h:k<10):Lib.digitVal (d8 k)=some k:=by
  unfold Lib.digitVal;rw [lR h,if_pos (by omega)];congr 1;omega
theorem yc {k:Nat}(h:k<10){c:UInt8}(hc:c.toNat<48):(d8 k==c)=false:=by
  rw [beq_eq_false_iff_ne];intro e;have:=congrArg UInt8.toNat e;rw [lR h] at this;omega
theorem vH {k:Nat}(h:k<10000):Lib.atoi (rO k)=some (k:Int):=by
  unfold rO Lib.atoi
  dsimp only
  rw [if_neg (by rw [yc (by omega) (by decide)];decide),if_neg (by rw [yc (by omega) (by decide)];decide)]
  simp only [Lib.decNat,List.isEmpty_cons,Bool.false_eq_true,if_false,Lib.decFrom,lu (show k / 1000<10 by omega),lu (show k / 100 % 10<10 by omega),lu (show k / 10 % 10<10 by omega),lu (show k % 10<10 by omega),Option.map_some]
  congr 1;omega
theorem fC {n:Int}(h0:0≤n)(h1:n<10000):mC (aZ n)=some n:=by
  unfold mC
  have e:(aZ n).data.toList=rO n.toNat:=mL h0 h1
  rw [e,vH (by omega)]
  dsimp only
  rw [show ((n.toNat:Nat):Int)=n by omega,if_pos rfl]
theorem vI {a b:Nat}(hb:b<10000)(h:a<b):rO a<rO b:=by
  unfold rO
  simp only [List.cons_lt_cons_iff,oQ (show a / 1000<10 by omega) (show b / 1000<10 by omega),oQ (show a / 100 % 10<10 by omega) (show b / 100 % 10<10 by omega),oQ (show a / 10 % 10<10 by omega) (show b / 10 % 10<10 by omega),oQ (show a % 10<10 by omega) (show b % 10<10 by omega)]
  by_cases c1:a / 1000<b / 1000
  · exact .inl c1
  ·
    refine .inr ⟨by rw [show a / 1000=b / 1000 by omega],?_⟩
    by_cases c2:a / 100 % 10<b / 100 % 10
    · exact .inl c2
    ·
      refine .inr ⟨by rw [show a / 100 % 10=b / 100 % 10 by omega],?_⟩
      by_cases c3:a / 10 % 10<b / 10 % 10
      · exact .inl c3
      ·
        refine .inr ⟨by rw [show a / 10 % 10=b / 10 % 10 by omega],?_⟩
        exact .inl (by omega)
theorem qu {n:Int}(h0:0≤n)(h1:n<10):bl (eu n)=[d8 n.toNat]:=by rw [pw h0,zd (by omega)]
theorem hkey {h:Held}(hp:aW h.Place=0):bl (hrow h).Key=[104,d8 h.Place.ag.toNat,d8 h.Place.Slot.toNat]:=by
  have:=bS hp
  show bl (kH++eu h.Place.ag++eu h.Place.Slot)=_
  rw [kI,kI,qu (by omega) (by omega),qu (by omega) (by omega)];rfl
theorem tkey {t:ai}(h0:0≤t.ID)(h1:t.ID<10000):bl (gx t).Key=116::rO t.ID.toNat:=by
  show bl (kT++aZ t.ID)=_
  rw [kI,mL h0 h1];rfl
theorem vJ {w:ak}(h0:0≤w.ID)(h1:w.ID<10000):bl (iH w).Key=119::rO w.ID.toNat:=by
  show bl (kW++aZ w.ID)=_
  rw [kI,mL h0 h1];rfl
theorem j7 {a b:ByteArray}{x y:UInt8}{l m:List UInt8}(ha:bl a=x::l)(hb:bl b=y::m)(h:x<y):ke a b=true:=by
  rw [hO];show bl a<bl b;rw [ha,hb,List.cons_lt_cons_iff];exact .inl h
theorem px {a b:ByteArray}{x:UInt8}{l m:List UInt8}(ha:bl a=x::l)(hb:bl b=x::m)(h:l<m):ke a b=true:=by
  rw [hO];show bl a<bl b;rw [ha,hb,List.cons_lt_cons_iff];exact .inr ⟨rfl,h⟩
theorem xl {g h:Held}(hg:aW g.Place=0)(hh:aW h.Place=0)(hl:fD g.Place h.Place):ke (hrow g).Key (hrow h).Key=true:=by
  have:=bS hg;have:=bS hh
  refine px (hkey hg) (hkey hh) ?_
  rw [List.cons_lt_cons_iff,oQ (by omega) (by omega)]
  rcases hl with hl|⟨he,hl⟩
  · exact .inl (by omega)
  ·
    refine .inr ⟨by rw [he],?_⟩
    rw [List.cons_lt_cons_iff,oQ (by omega) (by omega)];exact .inl (by omega)
theorem xm {s t:ai}(h0:0≤s.ID)(h1:t.ID<10000)(h:s.ID<t.ID):ke (gx s).Key (gx t).Key=true :=
  px (tkey h0 (by omega)) (tkey (by omega) h1) (vI (by omega) (by omega))
theorem xn {v w:ak}(h0:0≤v.ID)(h1:w.ID<10000)(h:v.ID<w.ID):ke (iH v).Key (iH w).Key=true :=
  px (vJ h0 (by omega)) (vJ (by omega) h1) (vI (by omega) (by omega))
theorem i7 (a b:ByteArray)(i j:Nat)(hi:i=a.size)(hj:j=a.size+b.size):(a++b).extract i j=b:=by
  apply nH;show bl _=bl _
  rw [pq,kI,List.take_of_length_le (by rw [List.length_append,fQ,fQ];omega),hi,← fQ a,List.drop_left]
theorem hX (a b:ByteArray)(i j:Nat)(hj:j≤a.size):(a++b).extract i j=a.extract i j:=by
  apply nH;show bl _=bl _
  rw [pq,pq,kI,List.take_append_of_le_length (by rw [fQ];exact hj)]
theorem mM (a:ByteArray)(j:Nat)(hj:j=a.size):a.extract 0 j=a:=by
  apply nH;show bl _=bl _
  rw [pq,List.take_of_length_le (by rw [fQ];omega),List.drop_zero]
theorem dr (a b:ByteArray):(a++b).size=a.size+b.size:=ByteArray.size_append
theorem AU {a b:ByteArray}{n:Int}(h0:0≤n)(h1:n<10000)(ha:a=aZ n):cK (a++b) 1=some [n]:=by
  have hs:a.size=4:=by rw [ha,bM h0 h1]
  unfold cK;rw [if_neg (by rw [dr];omega)]
  simp only [fq]
  rw [hX _ _ _ _ (by omega),mM _ _ (by omega),ha,fC h0 h1];rfl
theorem rP {n:Int}(h0:0≤n)(h1:n<10000):cK (aZ n) 1=some [n]:=by
  have hs:=bM h0 h1
  unfold cK;rw [if_neg (by omega)]
  simp only [fq]
  rw [mM _ _ (by omega),fC h0 h1];rfl
theorem AV {a b:Int}(ha:0≤a∧a<10000)(hb:0≤b∧b<10000):cK (aZ a++aZ b) 2=some [a,b]:=by
  have s1:=bM ha.1 ha.2;have s2:=bM hb.1 hb.2
  unfold cK;rw [if_neg (by rw [dr];omega)]
  simp only [fq]
  rw [hX _ _ _ _ (by omega),mM _ _ (by omega),fC ha.1 ha.2]
  dsimp only
  rw [i7 _ _ _ _ (by omega) (by omega),fC hb.1 hb.2];rfl
theorem AW {a b c d:Int}(ha:0≤a∧a<10000)(hb:0≤b∧b<10000)(hc:0≤c∧c<10000)(hd:0≤d∧d<10000):cK (aZ a++aZ b++aZ c++aZ d) 4=some [a,b,c,d]:=by
  have s1:=bM ha.1 ha.2;have s2:=bM hb.1 hb.2;have s3:=bM hc.1 hc.2;have s4:=bM hd.1 hd.2
  unfold cK;rw [if_neg (by simp only [dr];omega)]
  simp only [fq]
  rw [hX _ _ _ _ (by simp only [dr];omega),hX _ _ _ _ (by simp only [dr];omega),hX _ _ _ _ (by omega),mM _ _ (by omega),fC ha.1 ha.2]
  dsimp only
  rw [hX _ _ _ _ (by simp only [dr];omega),hX _ _ _ _ (by simp only [dr];omega),i7 _ _ _ _ (by omega) (by omega),fC hb.1 hb.2]
  dsimp only
  rw [hX _ _ _ _ (by simp only [dr];omega),i7 _ _ _ _ (by simp only [dr];omega) (by simp only [dr];omega),fC hc.1 hc.2]
  dsimp only
  rw [i7 _ _ _ _ (by simp only [dr];omega) (by simp only [dr];omega),fC hd.1 hd.2];rfl
theorem qv {s:ByteArray}{l:List UInt8}{i:Nat}{x:UInt8}(h:bl s=l)(hx:l[i]? = some x):fw s i=x.toNat:=by rw [tU,h,hx];rfl
theorem vK (r:au){h:Held}(hp:aW h.Place=0)(h0:0≤h.ak)(h1:h.ak<10000):rowP r (hrow h)=(tX r h,true):=by
  have hk:=hkey hp;have hz:=bS hp
  have hs:(hrow h).Key.size=3:=by rw [← fQ,hk];rfl
  have b0:fw (hrow h).Key 0=104:=qv (x:=104) hk rfl
  have b1:fw (hrow h).Key 1=48+h.Place.ag.toNat:=by rw [qv hk rfl,lR (by omega)]
  have b2:fw (hrow h).Key 2=48+h.Place.Slot.toNat:=by rw [qv hk rfl,lR (by omega)]
  have hpl:AP (hrow h)=h.Place:=by
    unfold AP xh;rw [b1,b2]
    show (⟨_,_⟩:Place)=⟨h.Place.ag,h.Place.Slot⟩
    congr 1 <;> omega
  have hv:cK (hrow h).Val 1=some [h.ak]:=rP h0 h1
  have hvs:(hrow h).Val.size=4:=bM h0 h1
  unfold rowP
  rw [if_neg (by omega)]
  dsimp only
  rw [if_pos b0,hv,if_neg (by rw [hs,hvs];simp),hpl,decide_eq_true hp];rfl
theorem vL (r:au){t:ai}(h0:0≤t.ID)(h1:t.ID<10000)(hk:t.Kind=1∨t.Kind=2∧t.Data.size=0)(hd:t.Data.size≤8):rowP r (gx t)=(tY r t,true):=by
  have hky:=tkey h0 h1
  have hs:(gx t).Key.size=5:=by rw [← fQ,hky];rfl
  have b0:fw (gx t).Key 0=116:=qv (x:=116) hky rfl
  have e1:cK ((gx t).Key.extract 1 (gx t).Key.size) 1=some [t.ID]:=by
    show cK ((kT++aZ t.ID).extract 1 _) 1=_
    have hf:=bM h0 h1
    rw [i7 _ _ _ _ (by rfl) (by rw [hs,hf];rfl)];exact rP h0 h1
  have k4:0≤t.Kind∧t.Kind<10000:=by omega
  have hf:=bM k4.1 k4.2
  have hv:cK (gx t).Val 1=some [t.Kind]:=AU k4.1 k4.2 rfl
  have hvs:(gx t).Val.size=4+t.Data.size:=by show (aZ t.Kind++t.Data).size=_;rw [dr,hf]
  have hx:(gx t).Val.extract 4 (gx t).Val.size=t.Data:=by
    rw [hvs];show (aZ t.Kind++t.Data).extract _ _=_
    exact i7 _ _ _ _ (by omega) (by omega)
  unfold rowP
  rw [if_neg (by omega)]
  dsimp only
  rw [if_neg (by omega),if_pos b0,e1,hv,if_neg (by rw [hs,hvs];simp;omega),hx]
  show (tY r ⟨t.ID,t.Kind,t.Data⟩,decide (t.Kind=1∨t.Kind=2∧(gx t).Val.size=4))=_
  rw [decide_eq_true (by rw [hvs];omega)]
theorem vM (r:au){w:ak}(h:zt w):rowP r (iH w)=(qt r w,true):=by
  have i1:=h.id1;have i9:=h.xU;have t1:=h.yH;have t9:=h.yI;have a0:=h.yJ;have a9:=h.yK;have f0:=h.zu;have fl:=h.yL;have q0:=h.uX;have q7:=h.uY
  have hky:=vJ (w:=w) (by omega) (by omega)
  have hs:(iH w).Key.size=5:=by rw [← fQ,hky];rfl
  have b0:fw (iH w).Key 0=119:=qv (x:=119) hky rfl
  have e1:cK ((iH w).Key.extract 1 (iH w).Key.size) 1=some [w.ID]:=by
    show cK ((kW++aZ w.ID).extract 1 _) 1=_
    have hf:=bM (n:=w.ID) (by omega) (by omega)
    rw [i7 _ _ _ _ (by rfl) (by rw [hs,hf];rfl)];exact rP (by omega) (by omega)
  have hv:cK (iH w).Val 4=some [w.ai,w.Rights,w.ar,w.From]:=AW (by omega) (by omega) (by omega) (by omega)
  have hvs:(iH w).Val.size=16:=by
    show (aZ w.ai++aZ w.Rights++aZ w.ar++aZ w.From).size=_
    simp only [dr]
    rw [bM (by omega) (by omega),bM (by omega) (by omega),bM (by omega) (by omega),bM (by omega) (by omega)]
  unfold rowP
  rw [if_neg (by omega)]
  dsimp only
  rw [if_neg (by omega),if_neg (by omega),if_pos b0,e1,hv,if_neg (by rw [hs,hvs];simp)];rfl
theorem vN (r q:au)(ha:0≤q.ae∧q.ae<10000)(hb:0≤q.af∧q.af<10000):rowP r (rN q)=(xj r q.ae q.af,true):=by
  have hv:cK (rN q).Val 2=some [q.ae,q.af]:=AV ha hb
  have hvs:(rN q).Val.size=8:=by
    show (aZ q.ae++aZ q.af).size=_
    rw [dr,bM ha.1 ha.2,bM hb.1 hb.2]
  have b0:fw (rN q).Key 0=120:=rfl
  unfold rowP
  rw [if_neg (show ¬ (rN q).Key.size=0 from (by decide:¬ kX.size=0))]
  dsimp only
  rw [if_neg (by omega),if_neg (by omega),if_neg (by omega),hv,if_neg (by rw [hvs];simp;rfl)];rfl
end Go.Proofs.YtbkfhjaibhnkmaaGreatDoor
