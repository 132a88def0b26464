import Derived.Test.YtbkfhjaibhnkmaaGreatDoorIMS31
import Derived.Test.YtbkfhjaibhnkmaaGreatDoorIMS12
import Derived.Test.YtbkfhjaibhnkmaaGreatDoorIMS11
import Derived.Test.YtbkfhjaibhnkmaaGreatDoorIMS27
import Derived.Test.YtbkfhjaibhnkmaaGreatDoorIMS28
import Derived.Test.YtbkfhjaibhnkmaaGreatDoorIMS10
import Derived.Laws.OwnMore
import Derived.Lib.AppendIntMem
import Derived.Lib.AtoiBound
import Derived.Lib.SmallJoins
import Derived.Lib.ItoaLen
import Derived.Test.YtbkfhjaibhnkmaaGreatDoorIMS13
section
namespace Go.Proofs.YtbkfhjaibhnkmaaGreatDoor
set_option linter.unusedVariables false
set_option linter.unusedSimpArgs false
def d8 (k:Nat):UInt8:=UInt8.ofNat (48+k)
def xG (k:Nat):List UInt8:=[d8 (k / 1000),d8 (k / 100 % 10),d8 (k / 10 % 10),d8 (k % 10)]
theorem nW {k:Nat}(h:k<10):(d8 k).toNat=48+k:=BR (by omega)
theorem tA {a b:Nat}(ha:a<10)(hb:b<10):d8 a<d8 b↔a<b:=by
 rw [UInt8.lt_iff_toNat_lt,nW ha,nW hb];omega
theorem BX (u:Nat):Lib.decDigits u=if u<10 then [d8 u] else Lib.decDigits (u / 10)++[d8 (u % 10)]:=by
 rw [Lib.decDigits];split <;> rfl
theorem ER (l:List UInt8):bl ⟨l.toArray⟩=l:=rfl
theorem size_mk (l:List UInt8):(⟨l.toArray⟩:ByteArray).size=l.length:=by rw [← gi,ER]
theorem qD {n:Int}(h:0≤n):bl (dr n)=Lib.decDigits n.toNat:=by
 show Lib.itoa n=_
 unfold Lib.itoa;rw [if_neg (by omega)]
theorem DL {u:Nat}(h:u<10):Lib.decDigits u=[d8 u]:=by rw [BX,if_pos h]
theorem HX {u:Nat}(h0:10≤u)(h:u<100):Lib.decDigits u=[d8 (u / 10),d8 (u % 10)]:=by rw [BX,if_neg (by omega),DL (by omega)];rfl
theorem HY {u:Nat}(h0:100≤u)(h:u<1000):Lib.decDigits u=[d8 (u / 100),d8 (u / 10 % 10),d8 (u % 10)]:=by
 rw [BX,if_neg (by omega),HX (by omega) (by omega),show u / 10 / 10=u / 100 by omega];rfl
theorem I1 {u:Nat}(h0:1000≤u)(h:u<10000):Lib.decDigits u=xG u:=by
 rw [BX,if_neg (by omega),HY (by omega) (by omega),show u / 10 / 100=u / 1000 by omega,show u / 10 / 10 % 10=u / 100 % 10 by omega];rfl
theorem oM {n:Int}(h0:0≤n)(h1:n<10000):bl (aW n)=xG n.toNat:=by
 have hs:(dr n).size=(Lib.decDigits n.toNat).length:=by rw [← gi,qD h0]
 unfold aW
 rw [iy,ER,qD h0,hs]
 generalize hk:n.toNat=k
 have hk4:k<10000:=by omega
 have z0:(48:UInt8)=d8 0:=rfl
 by_cases c1:k<10
 ·
  rw [DL c1];unfold xG
  rw [show k / 1000=0 by omega,show k / 100 % 10=0 by omega,show k / 10 % 10=0 by omega,show k % 10=k by omega];rfl
 ·
  by_cases c2:k<100
  ·
   rw [HX (by omega) c2];unfold xG
   rw [show k / 1000=0 by omega,show k / 100 % 10=0 by omega,show k / 10 % 10=k / 10 by omega];rfl
  ·
   by_cases c3:k<1000
   ·
    rw [HY (by omega) c3];unfold xG
    rw [show k / 1000=0 by omega,show k / 100 % 10=k / 100 by omega];rfl
   ·rw [I1 (by omega) hk4];rfl
theorem dh {n:Int}(h0:0≤n)(h1:n<10000):(aW n).size=4:=by rw [← gi,oM h0 h1];rfl
theorem oN {k:Nat}(h:k<10):Lib.digitVal (d8 k)=some k:=by
 unfold Lib.digitVal;rw [nW h,if_pos (by omega)];congr 1;omega
theorem ES {k:Nat}(h:k<10){c:UInt8}(hc:c.toNat<48):(d8 k==c)=false:=by
 rw [beq_eq_false_iff_ne];intro e;have:=congrArg UInt8.toNat e;rw [nW h] at this;omega
theorem BZ {k:Nat}(h:k<10000):Lib.atoi (xG k)=some (k:Int):=by
 unfold xG Lib.atoi
 dsimp only
 rw [if_neg (by rw [ES (by omega) (by decide)];decide),if_neg (by rw [ES (by omega) (by decide)];decide)]
 simp only [Lib.decNat,List.isEmpty_cons,Bool.false_eq_true,if_false,Lib.decFrom,oN (show k / 1000<10 by omega),oN (show k / 100 % 10<10 by omega),oN (show k / 10 % 10<10 by omega),oN (show k % 10<10 by omega),Option.map_some]
 congr 1;omega
theorem hO {n:Int}(h0:0≤n)(h1:n<10000):nn (aW n)=some n:=by
 unfold nn
 have e:(aW n).data.toList=xG n.toNat:=oM h0 h1
 rw [e,BZ (by omega)]
 dsimp only
 rw [show ((n.toNat:Nat):Int)=n by omega,if_pos rfl]
theorem lD {s:ByteArray}{n:Int}(h:nn s=some n):aW n=s:=by
 unfold nn at h;split at h
 ·
  split at h
  ·rename_i m hm he;injection h with h;subst h;exact he
  ·cases h
 ·cases h
theorem B3 {a b:Nat}(hb:b<10000)(h:a<b):xG a<xG b:=by
 unfold xG
 simp only [List.cons_lt_cons_iff,tA (show a / 1000<10 by omega) (show b / 1000<10 by omega),tA (show a / 100 % 10<10 by omega) (show b / 100 % 10<10 by omega),tA (show a / 10 % 10<10 by omega) (show b / 10 % 10<10 by omega),tA (show a % 10<10 by omega) (show b % 10<10 by omega)]
 by_cases c1:a / 1000<b / 1000
 ·exact .inl c1
 ·
  refine .inr ⟨by rw [show a / 1000=b / 1000 by omega],?_⟩
  by_cases c2:a / 100 % 10<b / 100 % 10
  ·exact .inl c2
  ·
   refine .inr ⟨by rw [show a / 100 % 10=b / 100 % 10 by omega],?_⟩
   by_cases c3:a / 10 % 10<b / 10 % 10
   ·exact .inl c3
   ·
    refine .inr ⟨by rw [show a / 10 % 10=b / 10 % 10 by omega],?_⟩
    exact .inl (by omega)
theorem wa {n:Int}(h0:0≤n)(h1:n<10):bl (dr n)=[d8 n.toNat]:=by rw [qD h0,DL (by omega)]
theorem hkey {h:Held}(hp:bu h.Place=0):bl (hrow h).Key=[104,d8 h.Place.aj.toNat,d8 h.Place.Slot.toNat]:=by
 have:=ck hp
 show bl (kH++dr h.Place.aj++dr h.Place.Slot)=_
 rw [iy,iy,wa (by omega) (by omega),wa (by omega) (by omega)];rfl
theorem tkey {t:ao}(h0:0≤t.ID)(h1:t.ID<10000):bl (gV t).Key=116::xG t.ID.toNat:=by
 show bl (kT++aW t.ID)=_
 rw [iy,oM h0 h1];rfl
theorem B5 {w:ak}(h0:0≤w.ID)(h1:w.ID<10000):bl (jo w).Key=119::xG w.ID.toNat:=by
 show bl (kW++aW w.ID)=_
 rw [iy,oM h0 h1];rfl
theorem lE {a b:ByteArray}{x y:UInt8}{l m:List UInt8}(ha:bl a=x::l)(hb:bl b=y::m)(h:x<y):fS a b=true:=by
 rw [iW];show bl a<bl b;rw [ha,hb,List.cons_lt_cons_iff];exact .inl h
theorem uv {a b:ByteArray}{x:UInt8}{l m:List UInt8}(ha:bl a=x::l)(hb:bl b=x::m)(h:l<m):fS a b=true:=by
 rw [iW];show bl a<bl b;rw [ha,hb,List.cons_lt_cons_iff];exact .inr ⟨rfl,h⟩
theorem yO {g h:Held}(hg:bu g.Place=0)(hh:bu h.Place=0)(hl:gM g.Place h.Place):fS (hrow g).Key (hrow h).Key=true:=by
 have:=ck hg;have:=ck hh
 refine uv (hkey hg) (hkey hh) ?_
 rw [List.cons_lt_cons_iff,tA (by omega) (by omega)]
 rcases hl with hl|⟨he,hl⟩
 ·exact .inl (by omega)
 ·
  refine .inr ⟨by rw [he],?_⟩
  rw [List.cons_lt_cons_iff,tA (by omega) (by omega)];exact .inl (by omega)
theorem DN {s t:ao}(h0:0≤s.ID)(h1:t.ID<10000)(h:s.ID<t.ID):fS (gV s).Key (gV t).Key=true :=
 uv (tkey h0 (by omega)) (tkey (by omega) h1) (B3 (by omega) (by omega))
theorem DR {v w:ak}(h0:0≤v.ID)(h1:w.ID<10000)(h:v.ID<w.ID):fS (jo v).Key (jo w).Key=true :=
 uv (B5 h0 (by omega)) (B5 (by omega) h1) (B3 (by omega) (by omega))
theorem lF (a b:ByteArray)(i j:Nat)(hi:i=a.size)(hj:j=a.size+b.size):(a++b).extract i j=b:=by
 apply iw;show bl _=bl _
 rw [ku,iy,List.take_of_length_le (by rw [List.length_append,gi,gi];omega),hi,← gi a,List.drop_left]
theorem kl (a b:ByteArray)(i j:Nat)(hj:j≤a.size):(a++b).extract i j=a.extract i j:=by
 apply iw;show bl _=bl _
 rw [ku,ku,iy,List.take_append_of_le_length (by rw [gi];exact hj)]
theorem jv (a:ByteArray)(j:Nat)(hj:j=a.size):a.extract 0 j=a:=by
 apply iw;show bl _=bl _
 rw [ku,List.take_of_length_le (by rw [gi];omega),List.drop_zero]
theorem eF (a b:ByteArray):(a++b).size=a.size+b.size:=ByteArray.size_append
theorem HZ {a b:ByteArray}{n:Int}(h0:0≤n)(h1:n<10000)(ha:a=aW n):cx (a++b) 1=some [n]:=by
 have hs:a.size=4:=by rw [ha,dh h0 h1]
 unfold cx;rw [if_neg (by rw [eF];omega)]
 simp only [fR]
 rw [kl _ _ _ _ (by omega),jv _ _ (by omega),ha,hO h0 h1];rfl
theorem xH {n:Int}(h0:0≤n)(h1:n<10000):cx (aW n) 1=some [n]:=by
 have hs:=dh h0 h1
 unfold cx;rw [if_neg (by omega)]
 simp only [fR]
 rw [jv _ _ (by omega),hO h0 h1];rfl
theorem H0 {a b:Int}(ha:0≤a∧a<10000)(hb:0≤b∧b<10000):cx (aW a++aW b) 2=some [a,b]:=by
 have s1:=dh ha.1 ha.2;have s2:=dh hb.1 hb.2
 unfold cx;rw [if_neg (by rw [eF];omega)]
 simp only [fR]
 rw [kl _ _ _ _ (by omega),jv _ _ (by omega),hO ha.1 ha.2]
 dsimp only
 rw [lF _ _ _ _ (by omega) (by omega),hO hb.1 hb.2];rfl
theorem H2 {a b c d:Int}(ha:0≤a∧a<10000)(hb:0≤b∧b<10000)(hc:0≤c∧c<10000)(hd:0≤d∧d<10000):cx (aW a++aW b++aW c++aW d) 4=some [a,b,c,d]:=by
 have s1:=dh ha.1 ha.2;have s2:=dh hb.1 hb.2;have s3:=dh hc.1 hc.2;have s4:=dh hd.1 hd.2
 unfold cx;rw [if_neg (by simp only [eF];omega)]
 simp only [fR]
 rw [kl _ _ _ _ (by simp only [eF];omega),kl _ _ _ _ (by simp only [eF];omega),kl _ _ _ _ (by omega),jv _ _ (by omega),hO ha.1 ha.2]
 dsimp only
 rw [kl _ _ _ _ (by simp only [eF];omega),kl _ _ _ _ (by simp only [eF];omega),lF _ _ _ _ (by omega) (by omega),hO hb.1 hb.2]
 dsimp only
 rw [kl _ _ _ _ (by simp only [eF];omega),lF _ _ _ _ (by simp only [eF];omega) (by simp only [eF];omega),hO hc.1 hc.2]
 dsimp only
 rw [lF _ _ _ _ (by simp only [eF];omega) (by simp only [eF];omega),hO hd.1 hd.2];rfl
theorem wb {s:ByteArray}{l:List UInt8}{i:Nat}{x:UInt8}(h:bl s=l)(hx:l[i]? = some x):fa s i=x.toNat:=by rw [kS,h,hx];rfl
theorem B6 (r:ar){h:Held}(hp:bu h.Place=0)(h0:0≤h.ak)(h1:h.ak<10000):rowP r (hrow h)=(sD r h,true):=by
 have hk:=hkey hp;have hz:=ck hp
 have hs:(hrow h).Key.size=3:=by rw [← gi,hk];rfl
 have b0:fa (hrow h).Key 0=104:=wb (x:=104) hk rfl
 have b1:fa (hrow h).Key 1=48+h.Place.aj.toNat:=by rw [wb hk rfl,nW (by omega)]
 have b2:fa (hrow h).Key 2=48+h.Place.Slot.toNat:=by rw [wb hk rfl,nW (by omega)]
 have hpl:uP (hrow h)=h.Place:=by
  unfold uP DK;rw [b1,b2]
  show (⟨_,_⟩:Place)=⟨h.Place.aj,h.Place.Slot⟩
  congr 1 <;> omega
 have hv:cx (hrow h).Val 1=some [h.ak]:=xH h0 h1
 have hvs:(hrow h).Val.size=4:=dh h0 h1
 unfold rowP
 rw [if_neg (by omega)]
 dsimp only
 rw [if_pos b0,hv,if_neg (by rw [hs,hvs];simp),hpl,decide_eq_true hp];rfl
theorem Ca (r:ar){t:ao}(h0:0≤t.ID)(h1:t.ID<10000)(hk:t.Kind=1∨t.Kind=2∧t.Data.size=0)(hd:t.Data.size≤8):rowP r (gV t)=(sE r t,true):=by
 have hky:=tkey h0 h1
 have hs:(gV t).Key.size=5:=by rw [← gi,hky];rfl
 have b0:fa (gV t).Key 0=116:=wb (x:=116) hky rfl
 have e1:cx ((gV t).Key.extract 1 (gV t).Key.size) 1=some [t.ID]:=by
  show cx ((kT++aW t.ID).extract 1 _) 1=_
  have hf:=dh h0 h1
  rw [lF _ _ _ _ (by rfl) (by rw [hs,hf];rfl)];exact xH h0 h1
 have k4:0≤t.Kind∧t.Kind<10000:=by omega
 have hf:=dh k4.1 k4.2
 have hv:cx (gV t).Val 1=some [t.Kind]:=HZ k4.1 k4.2 rfl
 have hvs:(gV t).Val.size=4+t.Data.size:=by show (aW t.Kind++t.Data).size=_;rw [eF,hf]
 have hx:(gV t).Val.extract 4 (gV t).Val.size=t.Data:=by
  rw [hvs];show (aW t.Kind++t.Data).extract _ _=_
  exact lF _ _ _ _ (by omega) (by omega)
 unfold rowP
 rw [if_neg (by omega)]
 dsimp only
 rw [if_neg (by omega),if_pos b0,e1,hv,if_neg (by rw [hs,hvs];simp;omega),hx]
 show (sE r ⟨t.ID,t.Kind,t.Data⟩,decide (t.Kind=1∨t.Kind=2∧(gV t).Val.size=4))=_
 rw [decide_eq_true (by rw [hvs];omega)]
theorem Cb (r:ar){w:ak}(h:Gi w):rowP r (jo w)=(oL r w,true):=by
 have i1:=h.id1;have i9:=h.Dl;have t1:=h.EH;have t9:=h.Fu;have a0:=h.Fv;have a9:=h.Fw;have f0:=h.EI;have fl:=h.EJ;have q0:=h.Bm;have q7:=h.Bn
 have hky:=B5 (w:=w) (by omega) (by omega)
 have hs:(jo w).Key.size=5:=by rw [← gi,hky];rfl
 have b0:fa (jo w).Key 0=119:=wb (x:=119) hky rfl
 have e1:cx ((jo w).Key.extract 1 (jo w).Key.size) 1=some [w.ID]:=by
  show cx ((kW++aW w.ID).extract 1 _) 1=_
  have hf:=dh (n:=w.ID) (by omega) (by omega)
  rw [lF _ _ _ _ (by rfl) (by rw [hs,hf];rfl)];exact xH (by omega) (by omega)
 have hv:cx (jo w).Val 4=some [w.ao,w.Rights,w.aI,w.From]:=H2 (by omega) (by omega) (by omega) (by omega)
 have hvs:(jo w).Val.size=16:=by
  show (aW w.ao++aW w.Rights++aW w.aI++aW w.From).size=_
  simp only [eF]
  rw [dh (by omega) (by omega),dh (by omega) (by omega),dh (by omega) (by omega),dh (by omega) (by omega)]
 unfold rowP
 rw [if_neg (by omega)]
 dsimp only
 rw [if_neg (by omega),if_neg (by omega),if_pos b0,e1,hv,if_neg (by rw [hs,hvs];simp)];rfl
theorem Cc (r q:ar)(ha:0≤q.ae∧q.ae<10000)(hb:0≤q.af∧q.af<10000):rowP r (vZ q)=(xF r q.ae q.af,true):=by
 have hv:cx (vZ q).Val 2=some [q.ae,q.af]:=H0 ha hb
 have hvs:(vZ q).Val.size=8:=by
  show (aW q.ae++aW q.af).size=_
  rw [eF,dh ha.1 ha.2,dh hb.1 hb.2]
 have b0:fa (vZ q).Key 0=120:=rfl
 unfold rowP
 rw [if_neg (show ¬ (vZ q).Key.size=0 from (by decide:¬ kX.size=0))]
 dsimp only
 rw [if_neg (by omega),if_neg (by omega),if_neg (by omega),hv,if_neg (by rw [hvs];simp;rfl)];rfl
end Go.Proofs.YtbkfhjaibhnkmaaGreatDoor
end
section
namespace Go.Proofs.YtbkfhjaibhnkmaaGreatDoor
open Go Go.RowKit
set_option linter.unusedVariables false
set_option linter.unusedSimpArgs false
set_option maxRecDepth 100000
theorem I2 (w:World):Calls Tryz.prog 97 #[.string ⟨#[48]⟩,.int .i64 0] w fun e w'=>e = .returned (.string ⟨#[]⟩)∧w'=w:=by
 go_enter Tryz.func97,Tryz.ntmps97
 go_wp2
 go_ret
 exact ⟨rfl,rfl⟩
theorem I3 (w:World):Calls Tryz.prog 97 #[.string ⟨#[48]⟩,.int .i64 1] w fun e w'=>e = .returned (.string ⟨#[48]⟩)∧w'=w:=by
 go_enter Tryz.func97,Tryz.ntmps97
 go_wp2
 go_ret
 exact ⟨rfl,rfl⟩
theorem I4 (w:World):Calls Tryz.prog 97 #[.string ⟨#[48]⟩,.int .i64 2] w fun e w'=>e = .returned (.string ⟨#[48,48]⟩)∧w'=w:=by
 have hm:=fun w=>Tryz.bits_Mul 1 2 (by decide) (by decide) w
 have hp:∀ (a b:ByteArray) w,Calls Tryz.prog 126 #[.string a,.string b] w fun e w'=>e = .returned (.bool (Lib.hasPrefix a.data.toList b.data.toList))∧w'=w:=fun a b w=>Tryz.strings_HasPrefix a b w
 go_enter Tryz.func97,Tryz.ntmps97
 go_wp2_with (first
  | (go_at_call 125;refine (hm _).mono ?_;rintro e w' ⟨rfl,rfl⟩)
  | (go_at_call 126;refine (hp _ _ _).mono ?_;rintro e w' ⟨rfl,rfl⟩))
 all_goals first|(go_ret;exact ⟨rfl,rfl⟩)|(exfalso;repeat (rename_i h;first|exact absurd h (by decide)|clear h))
theorem I5 (w:World):Calls Tryz.prog 97 #[.string ⟨#[48]⟩,.int .i64 3] w fun e w'=>e = .returned (.string ⟨#[48,48,48]⟩)∧w'=w:=by
 have hm:=fun w=>Tryz.bits_Mul 1 3 (by decide) (by decide) w
 have hp:∀ (a b:ByteArray) w,Calls Tryz.prog 126 #[.string a,.string b] w fun e w'=>e = .returned (.bool (Lib.hasPrefix a.data.toList b.data.toList))∧w'=w:=fun a b w=>Tryz.strings_HasPrefix a b w
 go_enter Tryz.func97,Tryz.ntmps97
 go_wp2_with (first
  | (go_at_call 125;refine (hm _).mono ?_;rintro e w' ⟨rfl,rfl⟩)
  | (go_at_call 126;refine (hp _ _ _).mono ?_;rintro e w' ⟨rfl,rfl⟩))
 all_goals first|(go_ret;exact ⟨rfl,rfl⟩)|(exfalso;repeat (rename_i h;first|exact absurd h (by decide)|clear h))
theorem xI (sx:ByteArray)(c:Int)(w:World)(hs:sx=⟨#[48]⟩)(h:0≤c∧c≤3):Calls Tryz.prog 97 #[.string sx,.int .i64 c] w fun e w'=>e = .returned (.string ⟨(Lib.repeatL [48] c.toNat).toArray⟩)∧Ext w w':=by
 subst hs
 have e0:c=0∨c=1∨c=2∨c=3:=by omega
 rcases e0 with rfl|rfl|rfl|rfl
 ·exact (I2 w).mono fun e w' ⟨h1,h2⟩=>⟨h1,h2▸Ext.refl _⟩
 ·exact (I3 w).mono fun e w' ⟨h1,h2⟩=>⟨h1,h2▸Ext.refl _⟩
 ·exact (I4 w).mono fun e w' ⟨h1,h2⟩=>⟨h1,h2▸Ext.refl _⟩
 ·exact (I5 w).mono fun e w' ⟨h1,h2⟩=>⟨h1,h2▸Ext.refl _⟩
end Go.Proofs.YtbkfhjaibhnkmaaGreatDoor
end
section
namespace Go.Proofs.YtbkfhjaibhnkmaaGreatDoor
open Go Go.RowKit
set_option linter.unusedVariables false
section
variable {P:Program} {n:Nat} {we:World} {X:List Nat} {L:Fm} {B F:List ag} {x y z':Operand} {v:Value} {d:Nat} {ty:TypeId} {pos:String} {eV:Array Edge} {g:Option (Nat×Bool)} {t e:TypeId} {α:Type} [Enc α] {l:List α}
end
section
variable {P:Program} {n:Nat} {we:World} {X:List Nat} {L:Fm} {B F:List ag} {ty xT e:TypeId} {x y:Operand}
end
def yP (places:List (Nat×Nat)):List Value→List (Nat×List Value)→Option (List Value)
  | cells,[]=>some cells
  | cells,(i,v)::rest=>match places[i]? with
    | none=>none
    | some (off,size)=>bif Nat.beq v.length size&&Nat.ble (off+size) cells.length then yP places (cells.take off++v++cells.drop (off+size)) rest else none
theorem wc (places:List (Nat×Nat)):∀ (parts:List (Nat×Value)) (cells:List Value),qS places cells parts=yP places cells (parts.map fun p=>(p.1,p.2.cells.toList))
 | [],cells=>rfl
 | (i,v)::rest,cells=>by
  simp only [qS,List.map_cons,yP]
  cases places[i]? with
  | none=>rfl
  | some q =>
   obtain ⟨off,size⟩:=q
   simp only [wc places rest]
theorem tC:∀ (is:List Nat) (vs:List Value),(is.zip vs).map (fun p=>(p.1,p.2.cells.toList))=is.zip (vs.map fun v=>v.cells.toList)
 | [],vs=>by simp
 | i::is,[]=>by simp
 | i::is,v::vs=>by simp [tC is vs]
theorem FL:([]:List Value).map (fun v=>v.cells.toList)=[]:=rfl
theorem uw {v:Value}{vs:List Value}{u:List Value}{us:List (List Value)}(h:v.cells.toList=u)(hs:vs.map (fun v=>v.cells.toList)=us):(v::vs).map (fun v=>v.cells.toList)=u::us:=by
 rw [List.map_cons,h,hs]
theorem Sl.FM {α:Type}[Enc α]{w:World}{v:Value}{l:List α}(h:Sl w v l):v.cells.toList=[v]:=by rw [h.cm]
section
variable {P:Program} {n:Nat} {we:World} {X:List Nat} {L:Fm} {B F:List ag} {ty:TypeId}
theorem q.FN {t:TypeId}{parts:Array (Nat×Operand)}{places:List (Nat×Nat)}{zs vs cs:List Value}{us:List (List Value)}(ht:tB P t=some (places,zs))(hp:evs L (parts.toList.map (·.2))=some vs)
 (hv:∀w,Wd we X B F w→vs.map (fun v=>v.cells.toList)=us) (hf:yP places zs ((parts.toList.map (·.1)).zip us)=some cs) :
 Qt P n we X L B F (.build t parts) ty (.agg cs.toArray):=fun q1 q2 q3 q4 a w ha hw =>
 q.build ht hp (by rw [wc,tC,hv w hw];exact hf) q1 q2 q3 q4 a w ha hw
end
section
variable {we w w':World} {X:List Nat} {B0 Bl Br B1 F Fl:List ag}
end
section
variable {P:Program} {n:Nat} {we:World} {X:List Nat} {L:Fm} {B F:List ag} {d:Nat} {ty:TypeId} {pos:String} {eV:Array Edge} {g:Option (Nat×Bool)}
end
end Go.Proofs.YtbkfhjaibhnkmaaGreatDoor
end
section
namespace Go.Proofs.YtbkfhjaibhnkmaaGreatDoor
open Go Go.RowKit
set_option linter.unusedVariables false
set_option linter.unusedSimpArgs false
theorem FP:Tryz.prog.globalNamed "internal/strconv.uint64pow10" = some 1:=by kernel_rfl
theorem FQ:Tryz.prog.globalNamed "strconv.ErrSyntax" = some 2:=by kernel_rfl
structure wh (w:World):Prop where
  pow:Lib.TabIs Tryz.prog w "internal/strconv.uint64pow10" .u64 Lib.pow10Tab
  err:∃tp p,w.var? Tryz.prog "strconv.ErrSyntax" = some #[.iface tp p]
theorem Cd {w w':World}{s:String}{g:Nat}(hg:Tryz.prog.globalNamed s=some g)(h:w'.heap[g]? = w.heap[g]?):w'.var? Tryz.prog s=w.var? Tryz.prog s:=by
 unfold World.var?;rw [hg];simp only [Option.bind_some,h]
theorem Ce {w:World}{s:String}{g:Nat}{cs:Array Value}(hg:Tryz.prog.globalNamed s=some g)(h:w.var? Tryz.prog s=some cs):g<w.heap.size:=by
 unfold World.var? at h;rw [hg] at h;simp only [Option.bind_some] at h
 split at h
 ·rename_i hq;exact (Array.getElem?_eq_some_iff.1 hq).1
 ·cases h
def bR:ag:=⟨[1,2],wh,fun w w' h ⟨h1,h2⟩=>⟨by unfold Lib.TabIs;rw [Cd FP (h _ (by simp))];exact h1,by rw [Cd FQ (h _ (by simp))];exact h2⟩⟩
theorem ux {w:World}(h:wh w):∀k∈bR.blk,k<w.heap.size:=fun k hk=>by
 rcases List.mem_cons.1 hk with rfl|hk
 ·exact Ce FP h.pow
 ·
  obtain ⟨tp,p,h2⟩:=h.err
  rw [List.mem_singleton.1 hk];exact Ce FQ h2
theorem r6 (n:Int)(w:World)(ht:wh w)(hn : -9223372036854775808≤n∧n≤9223372036854775807):Calls Tryz.prog 46 #[.int .i64 n] w fun e w'=>e = .returned (.string (dr n))∧Ext w w' :=
 (Tryz.strconv_Itoa n hn.1 hn.2 w ht.pow).mono fun e w' ⟨h1,k,os,h2⟩=>⟨h1,Ext.mk (h2▸Lib.below_grow _ w (Nat.le_refl _) k os)⟩
def aV (s:ByteArray):Int:=(Lib.atoi s.data.toList).getD 0
theorem Cg (s:ByteArray)(w:World)(h:(Lib.atoi s.data.toList).isSome=true)(hs:s.size≤18):Calls Tryz.prog 131 #[.string s] w fun e w'=>e = .returned (.tuple #[.int .i64 (aV s),.nilIface])∧Ext w w':=by
 obtain ⟨n,hn⟩:=Option.isSome_iff_exists.1 h
 refine (Tryz.strconv_Atoi s n hs hn w).mono fun e w' ⟨h1,t,h2⟩=>⟨?_,Ext.mk (h2▸Joins.below_bytesWorld _ w _ t (Nat.le_refl _))⟩
 rw [h1];unfold aV;rw [hn];rfl
theorem Ch (s:ByteArray)(w:World)(own:List Nat)(H:Wd w (blks []++own) ([]++[ag.held w own]) [bR] w)(h:¬ (Lib.atoi s.data.toList).isSome=true)(hs:s.size≤18) :
 Calls Tryz.prog 131 #[.string s] w fun e w' => ∃z:Value,e = .returned (.tuple #[.int .i64 0,.iface 219 (z)])∧Wd w (blks []++own) ([]++[ag.held w own]) [] w':=by
 have ht:wh w:=H.okF bR (List.Mem.head _)
 obtain ⟨tp,p,he⟩:=ht.err
 have hn:Lib.atoi s.data.toList=none:=by cases hq:Lib.atoi s.data.toList with|none=>rfl|some n=>rw [hq] at h;exact absurd rfl h
 refine (Tryz.strconv_Atoi_err_var s hs hn tp p w he).mono fun e w' ⟨N,h1,h2,h3,h4⟩=>⟨_,h1,?_⟩
 have hw:=H.grow (Ext.mk h4).upd
 exact ⟨hw.upd,hw.okB,(fun r hr=>by cases hr),hw.sep,hw.own,(fun k hk=>by cases hk)⟩
theorem Ci {s:ByteArray}(hs:s.size≤18) : -9223372036854775808≤aV s∧aV s≤9223372036854775807:=by
 unfold aV
 cases h:Lib.atoi s.data.toList with
 | none=>exact ⟨by decide,by decide⟩
 | some n =>
  have:=Lib.atoi_bound h (by rw [Array.length_toList];exact hs)
  show -9223372036854775808≤n∧n≤9223372036854775807
  omega
theorem oO {n:Int}(h : -9223372036854775808≤n∧n≤9223372036854775807):(dr n).size≤21:=by
 show (⟨(Lib.itoa n).toArray⟩:ByteArray).size≤21
 rw [size_mk];exact Lib.itoa_length_le n h.1 h.2
theorem Cj (n:Int):0<(dr n).size:=by
 show 0<(⟨(Lib.itoa n).toArray⟩:ByteArray).size
 rw [size_mk];unfold Lib.itoa
 split
 ·simp
 ·rw [Lib.decDigits_length];exact Lib.nDigits_pos _
theorem yQ (k:Nat):(⟨(Lib.repeatL [48] k).toArray⟩:ByteArray).size=k:=by rw [size_mk,Lib.repeatL_length];simp
theorem Ck {n:Int}(h : -9223372036854775808≤n∧n≤9223372036854775807):(aW n).size≤25:=by
 unfold aW;rw [ByteArray.size_append,yQ];have:=oO h;omega
end Go.Proofs.YtbkfhjaibhnkmaaGreatDoor
end
section
namespace Go.Proofs.YtbkfhjaibhnkmaaGreatDoor
open Go Go.RowKit
set_option linter.unusedVariables false
def u8 (n:Int):UInt8:=UInt8.ofNat n.toNat
theorem Cl {n:Int}(h:0≤n∧n≤255):(((u8 n).toNat:Nat):Int)=n:=by
 unfold u8;rw [UInt8.toNat_ofNat'];omega
theorem uy {n:Int}(h:0≤n∧n≤255):(Value.int .u8 n).cells.toList=Enc.cells (u8 n):=by
 show [Value.int .u8 n]=[Value.int .u8 (((u8 n).toNat:Nat):Int)]
 rw [Cl h]
theorem eG (l:List UInt8):(⟨l.toArray⟩:ByteArray).size=l.length:=by simp [ByteArray.size]
section
variable {α:Type} [Enc α]
theorem xJ:([]:List Value).map (fun v=>v.cells.toList)=([]:List α).map Enc.cells:=rfl
theorem uz {v:Value}{x:α}{vs:List Value}{l:List α}(h:v.cells.toList=Enc.cells x)(hs:vs.map (fun v=>v.cells.toList)=l.map Enc.cells) :
 (v::vs).map (fun v=>v.cells.toList)=(x::l).map Enc.cells:=by
 rw [List.map_cons,List.map_cons,h,hs]
end
end Go.Proofs.YtbkfhjaibhnkmaaGreatDoor
end
section
namespace Go.Proofs.YtbkfhjaibhnkmaaGreatDoor
open Go Go.RowKit
set_option linter.unusedVariables false
set_option linter.unusedSimpArgs false
set_option maxRecDepth 100000
theorem r8 (a b:ByteArray)(w:World):Calls Tryz.prog 57 #[.string a,.string b] w fun e w'=>e = .returned (.int .i64 (ut a b))∧Ext w w' :=
 (Tryz.strings_Compare a b w).mono fun e w' ⟨h1,h2⟩=>⟨by rw [h1,← kj,← kj,yN],by rw [h2];exact Ext.refl _⟩
theorem gk (bG:Value)(l:List Change)(t:ByteArray)(c:Change→ByteArray→Int)(wX:Nat)(Bf:List Value)(wY:∀args w,(callFunc wX args).run Tryz.prog w = .ok (.enter wX args) w)(w:World)(df:Sl w bG l)(Fq:∀W (x1:Change) (x2:ByteArray),Ext w W→Calls Tryz.prog wX ([x1.val,.string x2]++Bf).toArray W fun e w'=>e = .returned (iV (c x1 x2))∧Ext W w')(hl:l.length≤1000000):Calls Tryz.prog 58 #[bG,.string t,.func (.func wX) #[] Bf.toArray] w fun e w'=>e = .returned (.tuple #[iV (mQ (fun x=>c x t) l:Int),.bool (mR (fun x=>c x t) l)])∧Ext w w':=by
 have pV:=df.ec
 refine R.enter (n:=49) (vs:=[bG,.string t,.func (.func wX) #[] Bf.toArray]) [] [(0,bG),(1,.string t),(2,.func (.func wX) #[] Bf.toArray)] Tryz.func58 O O O O ?_
 refine R.reg O<|R.u 2 O<|R.nil ?_
 refine R.reg O<|R.u 1 O<|R.q (q.len' (fun _=>Wd.old df) O Tryz.underlying23) O<|R.u 1 O<|R.nil ?_
 refine R.reg O<|R.u 3 O<|R.nil ?_
 refine R.loop (fun g_:Nat×Nat=>[(0,bG),(1,.string t),(2,.func (.func wX) #[] Bf.toArray),(8,iV (l.length:Int)),(9,iV (g_.1:Int)),(10,iV (g_.2:Int))]) (fun g_=>[]) (fun g_=>[]) (fun g_=>g_.1≤g_.2∧g_.2≤l.length∧bsGo (fun x=>c x t) l g_.1 g_.2=mQ (fun x=>c x t) l) (fun g_=>g_.2-g_.1) (0,l.length) O (by exact ⟨Nat.zero_le _,Nat.le_refl _,rfl⟩) ⟨rfl,rfl,rfl,rfl,rfl,rfl,trivial⟩ (fun _=>Wd.pick [] [] O O O) ?_
 rintro ⟨lo,hi⟩ ⟨IL,JH,HA⟩
 dsimp only at *
 refine R.reg O<|R.u 2 O<|?_
 by_cases h1:lo<hi
 ·
  refine R.q (q.lss O O (decide_eq_true (by omega))) O<|R.nil ?_
  refine R.aE O O ?_
  refine R.reg O<|R.u 2 O<|R.q (q.add (r:=((lo+hi:Nat):Int)) O O (wr (by omega))) O<|R.q (q.Em (r:=(((lo+hi):Nat):Int)) O (by rw [Tryz.underlying3];rfl) Tryz.underlying138 (Aw (by omega))) O<|R.q (q.shr (r:=((((lo+hi) / 2):Nat):Int)) O O (by decide) (GM (by decide))) O<|R.q (q.Em (r:=((((lo+hi) / 2):Nat):Int)) O (by rw [Tryz.underlying138];rfl) Tryz.underlying3 (wr (by omega))) O<|R.u 1 O<|R.nil ?_
  refine R.reg O<|R.u 3 O<|?_
  obtain ⟨x1,hx1⟩:∃z,l[((lo+hi) / 2)]? = some z:=⟨_,List.getElem?_eq_getElem (by omega)⟩
  refine R.q (q.idx (i:=((lo+hi) / 2)) (fun _=>Wd.old df) O O bL O hx1) O<|R.q (q.cY (ds:=bY x1) (fun _=>Wd.old df) hx1 O dm O) O<|R.u 1 O<|R.c (q.call wY O O (fun w hw=>Fq w x1 t hw.ext)) O<|?_
  by_cases h2:(c x1 t)<0
  ·
   refine R.q (q.lss O O (decide_eq_true (by omega))) O<|R.nil ?_
   refine R.aE O O ?_
   refine R.reg O<|R.u 1 O<|R.q (q.add (r:=((((lo+hi) / 2)+1:Nat):Int)) O O (wr (by omega))) O<|R.u 1 O<|R.nil ?_
   refine R.back ((((lo+hi) / 2)+1),hi) O (by (exact ⟨by omega,by omega,(tZ (by omega) hx1 (by omega)).symm.trans HA⟩)) (by dsimp only;omega) ⟨rfl,rfl,rfl,rfl,rfl,rfl,trivial⟩ (fun _=>Wd.pick [] [] O O O)
  ·
   refine R.q (q.lss O O (decide_eq_false (by omega))) O<|R.nil ?_
   refine R.aF O O ?_
   refine R.reg O<|R.u 2 O<|R.nil ?_
   refine R.back (lo,((lo+hi) / 2)) O (by (exact ⟨by omega,by omega,(t6 (by omega) hx1 (by omega)).symm.trans HA⟩)) (by dsimp only;omega) ⟨rfl,rfl,rfl,rfl,rfl,rfl,trivial⟩ (fun _=>Wd.pick [] [] O O O)
 ·
  refine R.q (q.lss O O (decide_eq_false (by omega))) O<|R.nil ?_
  refine R.aF O O ?_
  refine R.reg O<|R.u 3 O<|?_
  by_cases h3:lo<l.length
  ·
   refine R.q (q.lss O O (decide_eq_true (by omega))) O<|R.u 4 O<|?_
   obtain ⟨x2,hx2⟩:∃z,l[lo]? = some z:=⟨_,List.getElem?_eq_getElem (by omega)⟩
   refine R.qg O (q.idx (i:=lo) (fun _=>Wd.old df) O O bL O hx2) O<|R.qg O (q.cY (ds:=bY x2) (fun _=>Wd.old df) hx2 O dm O) O<|R.u 1 O<|R.cg O (q.call wY O O (fun w hw=>Fq w x2 t hw.ext)) O<|?_
   by_cases h4:(c x2 t)=0
   ·
    refine R.qg O (q.eql O O (beq_iff_eq.2 (by omega))) O<|R.u 3 O<|R.nil ?_
    exact R.E1 O Tryz.results58 O O (rI (by (exact congrArg (fun n:Nat=>(n:Int)) ((fM (by omega)).symm.trans HA)))) (rB (by (have e:=(fM (by omega)).symm.trans HA;unfold mR;rw [← e];(rw [hx2];exact (decide_eq_true ‹_›).symm))))
   ·
    refine R.qg O (q.eql O O (beq_eq_false_iff_ne.2 (by omega))) O<|R.u 3 O<|R.nil ?_
    exact R.E1 O Tryz.results58 O O (rI (by (exact congrArg (fun n:Nat=>(n:Int)) ((fM (by omega)).symm.trans HA)))) (rB (by (have e:=(fM (by omega)).symm.trans HA;unfold mR;rw [← e];(rw [hx2];exact (decide_eq_false ‹_›).symm))))
  ·
   refine R.q (q.lss O O (decide_eq_false (by omega))) O<|R.u 12 O<|R.nil ?_
   exact R.E1 O Tryz.results58 O O (rI (by (exact congrArg (fun n:Nat=>(n:Int)) ((fM (by omega)).symm.trans HA)))) (rB (by (have e:=(fM (by omega)).symm.trans HA;unfold mR;rw [← e];(rw [List.getElem?_eq_none (by omega)]))))
theorem FR {α:Type}{f:α→Int}{l:List α}(h:mR f l=true):mQ f l<l.length:=by
 obtain ⟨x,hx,_⟩:=vk h
 exact (List.getElem?_eq_some_iff.1 hx).1
end Go.Proofs.YtbkfhjaibhnkmaaGreatDoor
end
