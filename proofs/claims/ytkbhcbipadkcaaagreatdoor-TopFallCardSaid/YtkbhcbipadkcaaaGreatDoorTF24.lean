import Derived.Test.YtkbhcbipadkcaaaGreatDoorTF23
import Derived.Lib.AppendIntMem
import Derived.Lib.AtoiBound
import Derived.Lib.ItoaLen
namespace Go.Proofs.YtkbhcbipadkcaaaGreatDoor
set_option linter.unusedVariables false
set_option linter.unusedSimpArgs false
set_option maxRecDepth 100000
set_option maxHeartbeats 90000000
def d8 (k:Nat):UInt8:=UInt8.ofNat (48+k)
def Fx (k:Nat):List UInt8:=[d8 (k / 1000),d8 (k / 100 % 10),d8 (k / 10 % 10),d8 (k % 10)]
theorem uo {k:Nat}(h:k<10):(d8 k).toNat=48+k:=nQ (by omega)
theorem zX {a b:Nat}(ha:a<10)(hb:b<10):d8 a<d8 b↔a<b:=by
 rw [UInt8.lt_iff_toNat_lt,uo ha,uo hb];omega
theorem M5 (u:Nat):Lib.decDigits u=if u<10 then [d8 u] else Lib.decDigits (u / 10)++[d8 (u % 10)]:=by
 rw [Lib.decDigits];split <;> rfl
theorem OA (l:List UInt8):bl ⟨l.toArray⟩=l:=rfl
theorem size_mk (l:List UInt8):(⟨l.toArray⟩:ByteArray).size=l.length:=by rw [<- eD,OA]
theorem BM {n:Int}(h:0<=n):bl (gQ n)=Lib.decDigits n.toNat:=by
 show Lib.itoa n=_
 unfold Lib.itoa;rw [if_neg (by omega)]
theorem QA {u:Nat}(h:u<10):Lib.decDigits u=[d8 u]:=by rw [M5,if_pos h]
theorem Td {u:Nat}(h0:10<=u)(h:u<100):Lib.decDigits u=[d8 (u / 10),d8 (u % 10)]:=by rw [M5,if_neg (by omega),QA (by omega)];rfl
theorem Te {u:Nat}(h0:100<=u)(h:u<1000):Lib.decDigits u=[d8 (u / 100),d8 (u / 10 % 10),d8 (u % 10)]:=by
 rw [M5,if_neg (by omega),Td (by omega) (by omega),show u / 10 / 10=u / 100 by omega];rfl
theorem UA {u:Nat}(h0:1000<=u)(h:u<10000):Lib.decDigits u=Fx u:=by
 rw [M5,if_neg (by omega),Te (by omega) (by omega),show u / 10 / 100=u / 1000 by omega,show u / 10 / 10 % 10=u / 100 % 10 by omega];rfl
theorem vJ {n:Int}(h0:0<=n)(h1:n<10000):bl (bM n)=Fx n.toNat:=by
 have hs:(gQ n).size=(Lib.decDigits n.toNat).length:=by rw [<- eD,BM h0]
 unfold bM
 rw [iL,OA,BM h0,hs]
 generalize hk:n.toNat=k
 have hk4:k<10000:=by omega
 have z0:(48:UInt8)=d8 0:=rfl
 by_cases c1:k<10
 .
  rw [QA c1];unfold Fx
  rw [show k / 1000=0 by omega,show k / 100 % 10=0 by omega,show k / 10 % 10=0 by omega,show k % 10=k by omega];rfl
 .
  by_cases c2:k<100
  .
   rw [Td (by omega) c2];unfold Fx
   rw [show k / 1000=0 by omega,show k / 100 % 10=0 by omega,show k / 10 % 10=k / 10 by omega];rfl
  .
   by_cases c3:k<1000
   .
    rw [Te (by omega) c3];unfold Fx
    rw [show k / 1000=0 by omega,show k / 100 % 10=k / 100 by omega];rfl
   .rw [UA (by omega) hk4];rfl
theorem cJ {n:Int}(h0:0<=n)(h1:n<10000):(bM n).size=4:=by rw [<- eD,vJ h0 h1];rfl
theorem tD {k:Nat}(h:k<10):Lib.digitVal (d8 k)=some k:=by
 unfold Lib.digitVal;rw [uo h,if_pos (by omega)];congr 1;omega
theorem OB {k:Nat}(h:k<10){c:UInt8}(hc:c.toNat<48):(d8 k==c)=false:=by
 rw [beq_eq_false_iff_ne];intro e;have:=congrArg UInt8.toNat e;rw [uo h] at this;omega
theorem K7 {k:Nat}(h:k<10000):Lib.atoi (Fx k)=some (k:Int):=by
 unfold Fx Lib.atoi
 dsimp only
 rw [if_neg (by rw [OB (by omega) (by decide)];decide),if_neg (by rw [OB (by omega) (by decide)];decide)]
 simp only [Lib.decNat,List.isEmpty_cons,Bool.false_eq_true,if_false,Lib.decFrom,tD (show k / 1000<10 by omega),tD (show k / 100 % 10<10 by omega),tD (show k / 10 % 10<10 by omega),tD (show k % 10<10 by omega),Option.map_some]
 congr 1;omega
theorem j5 {n:Int}(h0:0<=n)(h1:n<10000):vu (bM n)=some n:=by
 unfold vu
 have e:(bM n).data.toList=Fx n.toNat:=vJ h0 h1
 rw [e,K7 (by omega)]
 dsimp only
 rw [show ((n.toNat:Nat):Int)=n by omega,if_pos rfl]
theorem K8 {a b:Nat}(hb:b<10000)(h:a<b):Fx a<Fx b:=by
 unfold Fx
 simp only [List.cons_lt_cons_iff,zX (show a / 1000<10 by omega) (show b / 1000<10 by omega),zX (show a / 100 % 10<10 by omega) (show b / 100 % 10<10 by omega),zX (show a / 10 % 10<10 by omega) (show b / 10 % 10<10 by omega),zX (show a % 10<10 by omega) (show b % 10<10 by omega)]
 by_cases c1:a / 1000<b / 1000
 .exact .inl c1
 .
  refine .inr ⟨by rw [show a / 1000=b / 1000 by omega],?_⟩
  by_cases c2:a / 100 % 10<b / 100 % 10
  .exact .inl c2
  .
   refine .inr ⟨by rw [show a / 100 % 10=b / 100 % 10 by omega],?_⟩
   by_cases c3:a / 10 % 10<b / 10 % 10
   .exact .inl c3
   .
    refine .inr ⟨by rw [show a / 10 % 10=b / 10 % 10 by omega],?_⟩
    exact .inl (by omega)
theorem DT {n:Int}(h0:0<=n)(h1:n<10):bl (gQ n)=[d8 n.toNat]:=by rw [BM h0,QA (by omega)]
theorem hkey {h:Held}(hp:aY h.Place=0):bl (hrow h).Key=[104,d8 h.Place.aA.toNat,d8 h.Place.Slot.toNat]:=by
 have:=cy hp
 show bl (kH++gQ h.Place.aA++gQ h.Place.Slot)=_
 rw [iL,iL,DT (by omega) (by omega),DT (by omega) (by omega)];rfl
theorem tkey {t:aF}(h0:0<=t.ID)(h1:t.ID<10000):bl (lZ t).Key=116::Fx t.ID.toNat:=by
 show bl (kT++bM t.ID)=_
 rw [iL,vJ h0 h1];rfl
theorem K9 {w:ak}(h0:0<=w.ID)(h1:w.ID<10000):bl (oc w).Key=119::Fx w.ID.toNat:=by
 show bl (kW++bM w.ID)=_
 rw [iL,vJ h0 h1];rfl
theorem qZ {a b:ByteArray}{x y:UInt8}{l m:List UInt8}(ha:bl a=x::l)(hb:bl b=y::m)(h:x<y):jx a b=true:=by
 rw [lq];show bl a<bl b;rw [ha,hb,List.cons_lt_cons_iff];exact .inl h
theorem BN {a b:ByteArray}{x:UInt8}{l m:List UInt8}(ha:bl a=x::l)(hb:bl b=x::m)(h:l<m):jx a b=true:=by
 rw [lq];show bl a<bl b;rw [ha,hb,List.cons_lt_cons_iff];exact .inr ⟨rfl,h⟩
theorem M6 {g h:Held}(hg:aY g.Place=0)(hh:aY h.Place=0)(hl:j7 g.Place h.Place):jx (hrow g).Key (hrow h).Key=true:=by
 have:=cy hg;have:=cy hh
 refine BN (hkey hg) (hkey hh) ?_
 rw [List.cons_lt_cons_iff,zX (by omega) (by omega)]
 rcases hl with hl|⟨he,hl⟩
 .exact .inl (by omega)
 .
  refine .inr ⟨by rw [he],?_⟩
  rw [List.cons_lt_cons_iff,zX (by omega) (by omega)];exact .inl (by omega)
theorem M7 {s t:aF}(h0:0<=s.ID)(h1:t.ID<10000)(h:s.ID<t.ID):jx (lZ s).Key (lZ t).Key=true :=
 BN (tkey h0 (by omega)) (tkey (by omega) h1) (K8 (by omega) (by omega))
theorem M8 {v w:ak}(h0:0<=v.ID)(h1:w.ID<10000)(h:v.ID<w.ID):jx (oc v).Key (oc w).Key=true :=
 BN (K9 h0 (by omega)) (K9 (by omega) h1) (K8 (by omega) (by omega))
theorem oT (a b:ByteArray)(i j:Nat)(hi:i=a.size)(hj:j=a.size+b.size):(a++b).extract i j=b:=by
 apply gN;show bl _=bl _
 rw [i7,iL,List.take_of_length_le (by rw [List.length_append,eD,eD];omega),hi,<- eD a,List.drop_left]
theorem nf (a b:ByteArray)(i j:Nat)(hj:j<=a.size):(a++b).extract i j=a.extract i j:=by
 apply gN;show bl _=bl _
 rw [i7,i7,iL,List.take_append_of_le_length (by rw [eD];exact hj)]
theorem vK (a:ByteArray)(j:Nat)(hj:j=a.size):a.extract 0 j=a:=by
 apply gN;show bl _=bl _
 rw [i7,List.take_of_length_le (by rw [eD];omega),List.drop_zero]
theorem eW (a b:ByteArray):(a++b).size=a.size+b.size:=ByteArray.size_append
theorem Tf {a b:ByteArray}{n:Int}(h0:0<=n)(h1:n<10000)(ha:a=bM n):dY (a++b) 1=some [n]:=by
 have hs:a.size=4:=by rw [ha,cJ h0 h1]
 unfold dY;rw [if_neg (by rw [eW];omega)]
 simp only [jK]
 rw [nf _ _ _ _ (by omega),vK _ _ (by omega),ha,j5 h0 h1];rfl
theorem Fy {n:Int}(h0:0<=n)(h1:n<10000):dY (bM n) 1=some [n]:=by
 have hs:=cJ h0 h1
 unfold dY;rw [if_neg (by omega)]
 simp only [jK]
 rw [vK _ _ (by omega),j5 h0 h1];rfl
theorem Tg {a b:Int}(ha:0<=a/\a<10000)(hb:0<=b/\b<10000):dY (bM a++bM b) 2=some [a,b]:=by
 have s1:=cJ ha.1 ha.2;have s2:=cJ hb.1 hb.2
 unfold dY;rw [if_neg (by rw [eW];omega)]
 simp only [jK]
 rw [nf _ _ _ _ (by omega),vK _ _ (by omega),j5 ha.1 ha.2]
 dsimp only
 rw [oT _ _ _ _ (by omega) (by omega),j5 hb.1 hb.2];rfl
theorem Ti {a b c d:Int}(ha:0<=a/\a<10000)(hb:0<=b/\b<10000)(hc:0<=c/\c<10000)(hd:0<=d/\d<10000):dY (bM a++bM b++bM c++bM d) 4=some [a,b,c,d]:=by
 have s1:=cJ ha.1 ha.2;have s2:=cJ hb.1 hb.2;have s3:=cJ hc.1 hc.2;have s4:=cJ hd.1 hd.2
 unfold dY;rw [if_neg (by simp only [eW];omega)]
 simp only [jK]
 rw [nf _ _ _ _ (by simp only [eW];omega),nf _ _ _ _ (by simp only [eW];omega),nf _ _ _ _ (by omega),vK _ _ (by omega),j5 ha.1 ha.2]
 dsimp only
 rw [nf _ _ _ _ (by simp only [eW];omega),nf _ _ _ _ (by simp only [eW];omega),oT _ _ _ _ (by omega) (by omega),j5 hb.1 hb.2]
 dsimp only
 rw [nf _ _ _ _ (by simp only [eW];omega),oT _ _ _ _ (by simp only [eW];omega) (by simp only [eW];omega),j5 hc.1 hc.2]
 dsimp only
 rw [oT _ _ _ _ (by simp only [eW];omega) (by simp only [eW];omega),j5 hd.1 hd.2];rfl
theorem DU {s:ByteArray}{l:List UInt8}{i:Nat}{x:UInt8}(h:bl s=l)(hx:l[i]? = some x):bf s i=x.toNat:=by rw [gZ,h,hx];rfl
theorem La (r:aB){h:Held}(hp:aY h.Place=0)(h0:0<=h.ak)(h1:h.ak<10000):rowP r (hrow h)=(Iv r h,true):=by
 have hk:=hkey hp;have hz:=cy hp
 have hs:(hrow h).Key.size=3:=by rw [<- eD,hk];rfl
 have b0:bf (hrow h).Key 0=104:=DU (x:=104) hk rfl
 have b1:bf (hrow h).Key 1=48+h.Place.aA.toNat:=by rw [DU hk rfl,uo (by omega)]
 have b2:bf (hrow h).Key 2=48+h.Place.Slot.toNat:=by rw [DU hk rfl,uo (by omega)]
 have hpl:Tc (hrow h)=h.Place:=by
  unfold Tc M3;rw [b1,b2]
  show (⟨_,_⟩:Place)=⟨h.Place.aA,h.Place.Slot⟩
  congr 1 <;> omega
 have hv:dY (hrow h).Val 1=some [h.ak]:=Fy h0 h1
 have hvs:(hrow h).Val.size=4:=cJ h0 h1
 unfold rowP
 rw [if_neg (by omega)]
 dsimp only
 rw [if_pos b0,hv,if_neg (by rw [hs,hvs];simp),hpl,decide_eq_true hp];rfl
theorem Lb (r:aB){t:aF}(h0:0<=t.ID)(h1:t.ID<10000)(hk:t.Kind=1∨t.Kind=2/\t.Data.size=0)(hd:t.Data.size<=8):rowP r (lZ t)=(Iw r t,true):=by
 have hky:=tkey h0 h1
 have hs:(lZ t).Key.size=5:=by rw [<- eD,hky];rfl
 have b0:bf (lZ t).Key 0=116:=DU (x:=116) hky rfl
 have e1:dY ((lZ t).Key.extract 1 (lZ t).Key.size) 1=some [t.ID]:=by
  show dY ((kT++bM t.ID).extract 1 _) 1=_
  have hf:=cJ h0 h1
  rw [oT _ _ _ _ (by rfl) (by rw [hs,hf];rfl)];exact Fy h0 h1
 have k4:0<=t.Kind/\t.Kind<10000:=by omega
 have hf:=cJ k4.1 k4.2
 have hv:dY (lZ t).Val 1=some [t.Kind]:=Tf k4.1 k4.2 rfl
 have hvs:(lZ t).Val.size=4+t.Data.size:=by show (bM t.Kind++t.Data).size=_;rw [eW,hf]
 have hx:(lZ t).Val.extract 4 (lZ t).Val.size=t.Data:=by
  rw [hvs];show (bM t.Kind++t.Data).extract _ _=_
  exact oT _ _ _ _ (by omega) (by omega)
 unfold rowP
 rw [if_neg (by omega)]
 dsimp only
 rw [if_neg (by omega),if_pos b0,e1,hv,if_neg (by rw [hs,hvs];simp;omega),hx]
 show (Iw r ⟨t.ID,t.Kind,t.Data⟩,decide (t.Kind=1∨t.Kind=2/\(lZ t).Val.size=4))=_
 rw [decide_eq_true (by rw [hvs];omega)]
theorem Lc (r:aB){w:ak}(h:Rb w):rowP r (oc w)=(DR r w,true):=by
 have i1:=h.id1;have i9:=h.Ov;have t1:=h.Qj;have t9:=h.Qk;have a0:=h.Ql;have a9:=h.Qm;have f0:=h.Rc;have fl:=h.Qn;have q0:=h.KG;have q7:=h.KH
 have hky:=K9 (w:=w) (by omega) (by omega)
 have hs:(oc w).Key.size=5:=by rw [<- eD,hky];rfl
 have b0:bf (oc w).Key 0=119:=DU (x:=119) hky rfl
 have e1:dY ((oc w).Key.extract 1 (oc w).Key.size) 1=some [w.ID]:=by
  show dY ((kW++bM w.ID).extract 1 _) 1=_
  have hf:=cJ (n:=w.ID) (by omega) (by omega)
  rw [oT _ _ _ _ (by rfl) (by rw [hs,hf];rfl)];exact Fy (by omega) (by omega)
 have hv:dY (oc w).Val 4=some [w.aF,w.Rights,w.aQ,w.From]:=Ti (by omega) (by omega) (by omega) (by omega)
 have hvs:(oc w).Val.size=16:=by
  show (bM w.aF++bM w.Rights++bM w.aQ++bM w.From).size=_
  simp only [eW]
  rw [cJ (by omega) (by omega),cJ (by omega) (by omega),cJ (by omega) (by omega),cJ (by omega) (by omega)]
 unfold rowP
 rw [if_neg (by omega)]
 dsimp only
 rw [if_neg (by omega),if_neg (by omega),if_pos b0,e1,hv,if_neg (by rw [hs,hvs];simp)];rfl
theorem Ld (r q:aB)(ha:0<=q.ae/\q.ae<10000)(hb:0<=q.ah/\q.ah<10000):rowP r (DN q)=(M4 r q.ae q.ah,true):=by
 have hv:dY (DN q).Val 2=some [q.ae,q.ah]:=Tg ha hb
 have hvs:(DN q).Val.size=8:=by
  show (bM q.ae++bM q.ah).size=_
  rw [eW,cJ ha.1 ha.2,cJ hb.1 hb.2]
 have b0:bf (DN q).Key 0=120:=rfl
 unfold rowP
 rw [if_neg (show ¬ (DN q).Key.size=0 from (by decide:¬ kX.size=0))]
 dsimp only
 rw [if_neg (by omega),if_neg (by omega),if_neg (by omega),hv,if_neg (by rw [hvs];simp;rfl)];rfl
section
open Go Go.RowKit
theorem UB (w:World):Calls Tryz.prog 176 #[.string ⟨#[48]⟩,.int .i64 0] w fun e w'=>e = .returned (.string ⟨#[]⟩)/\w'=w:=by
 go_enter Tryz.func176,Tryz.ntmps176
 go_wp2
 go_ret
 exact ⟨rfl,rfl⟩
theorem UC (w:World):Calls Tryz.prog 176 #[.string ⟨#[48]⟩,.int .i64 1] w fun e w'=>e = .returned (.string ⟨#[48]⟩)/\w'=w:=by
 go_enter Tryz.func176,Tryz.ntmps176
 go_wp2
 go_ret
 exact ⟨rfl,rfl⟩
theorem UD (w:World):Calls Tryz.prog 176 #[.string ⟨#[48]⟩,.int .i64 2] w fun e w'=>e = .returned (.string ⟨#[48,48]⟩)/\w'=w:=by
 have hm:=fun w=>Tryz.bits_Mul 1 2 (by decide) (by decide) w
 have hp:∀ (a b:ByteArray) w,Calls Tryz.prog 198 #[.string a,.string b] w fun e w'=>e = .returned (.bool (Lib.hasPrefix a.data.toList b.data.toList))/\w'=w:=fun a b w=>Tryz.strings_HasPrefix a b w
 go_enter Tryz.func176,Tryz.ntmps176
 go_wp2_with (first
  | (go_at_call 132;refine (hm _).mono ?_;rintro e w' ⟨rfl,rfl⟩)
  | (go_at_call 198;refine (hp _ _ _).mono ?_;rintro e w' ⟨rfl,rfl⟩))
 all_goals first|(go_ret;exact ⟨rfl,rfl⟩)|(exfalso;repeat (rename_i h;first|exact absurd h (by decide)|clear h))
theorem UE (w:World):Calls Tryz.prog 176 #[.string ⟨#[48]⟩,.int .i64 3] w fun e w'=>e = .returned (.string ⟨#[48,48,48]⟩)/\w'=w:=by
 have hm:=fun w=>Tryz.bits_Mul 1 3 (by decide) (by decide) w
 have hp:∀ (a b:ByteArray) w,Calls Tryz.prog 198 #[.string a,.string b] w fun e w'=>e = .returned (.bool (Lib.hasPrefix a.data.toList b.data.toList))/\w'=w:=fun a b w=>Tryz.strings_HasPrefix a b w
 go_enter Tryz.func176,Tryz.ntmps176
 go_wp2_with (first
  | (go_at_call 132;refine (hm _).mono ?_;rintro e w' ⟨rfl,rfl⟩)
  | (go_at_call 198;refine (hp _ _ _).mono ?_;rintro e w' ⟨rfl,rfl⟩))
 all_goals first|(go_ret;exact ⟨rfl,rfl⟩)|(exfalso;repeat (rename_i h;first|exact absurd h (by decide)|clear h))
theorem FA (sx:ByteArray)(c:Int)(w:World)(hs:sx=⟨#[48]⟩)(h:0<=c/\c<=3):Calls Tryz.prog 176 #[.string sx,.int .i64 c] w fun e w'=>e = .returned (.string ⟨(Lib.repeatL [48] c.toNat).toArray⟩)/\Ext w w':=by
 subst hs
 have e0:c=0∨c=1∨c=2∨c=3:=by omega
 rcases e0 with rfl|rfl|rfl|rfl
 .exact (UB w).mono fun e w' ⟨h1,h2⟩=>⟨h1,h2▸Ext.refl _⟩
 .exact (UC w).mono fun e w' ⟨h1,h2⟩=>⟨h1,h2▸Ext.refl _⟩
 .exact (UD w).mono fun e w' ⟨h1,h2⟩=>⟨h1,h2▸Ext.refl _⟩
 .exact (UE w).mono fun e w' ⟨h1,h2⟩=>⟨h1,h2▸Ext.refl _⟩
end
section
open Go Go.RowKit
theorem QB:Tryz.prog.globalNamed "internal/strconv.uint64pow10" = some 1:=by kernel_rfl
theorem QC:Tryz.prog.globalNamed "strconv.ErrSyntax" = some 2:=by kernel_rfl
structure DV (w:World):Prop where
  pow:Lib.TabIs Tryz.prog w "internal/strconv.uint64pow10" .u64 Lib.pow10Tab
  err:∃tp p,w.var? Tryz.prog "strconv.ErrSyntax" = some #[.iface tp p]
theorem Le {w w':World}{s:String}{g:Nat}(hg:Tryz.prog.globalNamed s=some g)(h:w'.heap[g]? = w.heap[g]?):w'.var? Tryz.prog s=w.var? Tryz.prog s:=by
 unfold World.var?;rw [hg];simp only [Option.bind_some,h]
theorem Lf {w:World}{s:String}{g:Nat}{cs:Array Value}(hg:Tryz.prog.globalNamed s=some g)(h:w.var? Tryz.prog s=some cs):g<w.heap.size:=by
 unfold World.var? at h;rw [hg] at h;simp only [Option.bind_some] at h
 split at h
 .rename_i hq;exact (Array.getElem?_eq_some_iff.1 hq).1
 .cases h
def ew:ag:=⟨[1,2],DV,fun w w' h ⟨h1,h2⟩=>⟨by unfold Lib.TabIs;rw [Le QB (h _ (by simp))];exact h1,by rw [Le QC (h _ (by simp))];exact h2⟩⟩
theorem BO {w:World}(h:DV w):∀k∈ew.blk,k<w.heap.size:=fun k hk=>by
 rcases List.mem_cons.1 hk with rfl|hk
 .exact Lf QB h.pow
 .
  obtain ⟨tp,p,h2⟩:=h.err
  rw [List.mem_singleton.1 hk];exact Lf QC h2
theorem yd (n:Int)(w:World)(ht:DV w)(hn : -9223372036854775808<=n/\n<=9223372036854775807):Calls Tryz.prog 130 #[.int .i64 n] w fun e w'=>e = .returned (.string (gQ n))/\Ext w w' :=
 (Tryz.strconv_Itoa n hn.1 hn.2 w ht.pow).mono fun e w' ⟨h1,k,os,h2⟩=>⟨h1,Ext.mk (h2▸Lib.below_grow _ w (Nat.le_refl _) k os)⟩
def aV (s:ByteArray):Int:=(Lib.atoi s.data.toList).getD 0
theorem Lh (s:ByteArray)(w:World)(h:(Lib.atoi s.data.toList).isSome=true)(hs:s.size<=18):Calls Tryz.prog 187 #[.string s] w fun e w'=>e = .returned (.tuple #[.int .i64 (aV s),.nilIface])/\Ext w w':=by
 obtain ⟨n,hn⟩:=Option.isSome_iff_exists.1 h
 refine (Tryz.strconv_Atoi s n hs hn w).mono fun e w' ⟨h1,t,h2⟩=>⟨?_,Ext.mk (h2▸Joins.below_bytesWorld _ w _ t (Nat.le_refl _))⟩
 rw [h1];unfold aV;rw [hn];rfl
theorem Li (s:ByteArray)(w:World)(own:List Nat)(H:Wd w (blks []++own) ([]++[ag.held w own]) [ew] w)(h:¬ (Lib.atoi s.data.toList).isSome=true)(hs:s.size<=18) :
 Calls Tryz.prog 187 #[.string s] w fun e w' => ∃z:Value,e = .returned (.tuple #[.int .i64 0,.iface 279 (z)])/\Wd w (blks []++own) ([]++[ag.held w own]) [] w':=by
 have ht:DV w:=H.okF ew (List.Mem.head _)
 obtain ⟨tp,p,he⟩:=ht.err
 have hn:Lib.atoi s.data.toList=none:=by cases hq:Lib.atoi s.data.toList with|none=>rfl|some n=>rw [hq] at h;exact absurd rfl h
 refine (Tryz.strconv_Atoi_err_var s hs hn tp p w he).mono fun e w' ⟨N,h1,h2,h3,h4⟩=>⟨_,h1,?_⟩
 have hw:=H.grow (Ext.mk h4).upd
 exact ⟨hw.upd,hw.okB,(fun r hr=>by cases hr),hw.sep,hw.own,(fun k hk=>by cases hk)⟩
theorem Lj {s:ByteArray}(hs:s.size<=18) : -9223372036854775808<=aV s/\aV s<=9223372036854775807:=by
 unfold aV
 cases h:Lib.atoi s.data.toList with
 | none=>exact ⟨by decide,by decide⟩
 | some n =>
  have:=Lib.atoi_bound h (by rw [Array.length_toList];exact hs)
  show -9223372036854775808<=n/\n<=9223372036854775807
  omega
theorem ye {n:Int}(h : -9223372036854775808<=n/\n<=9223372036854775807):(gQ n).size<=21:=by
 show (⟨(Lib.itoa n).toArray⟩:ByteArray).size<=21
 rw [size_mk];exact Lib.itoa_length_le n h.1 h.2
theorem Lk (n:Int):0<(gQ n).size:=by
 show 0<(⟨(Lib.itoa n).toArray⟩:ByteArray).size
 rw [size_mk];unfold Lib.itoa
 split
 .simp
 .rw [Lib.decDigits_length];exact Lib.nDigits_pos _
theorem GX (k:Nat):(⟨(Lib.repeatL [48] k).toArray⟩:ByteArray).size=k:=by rw [size_mk,Lib.repeatL_length];simp
theorem Ll {n:Int}(h : -9223372036854775808<=n/\n<=9223372036854775807):(bM n).size<=25:=by
 unfold bM;rw [ByteArray.size_append,GX];have:=ye h;omega
end
section
open Go Go.RowKit
def QD (md:Region.Mode)(o:Oper)(ls:Array Bool):Bool:=o.after.all fun e => !Region.binds md e||ls.getD e.on false
def oU (md:Region.Mode)(ops:Array Oper)(ls:Array Bool):Bool:=(List.range ops.size).all fun j => !(ls.getD j false)||((ops[j]?).map (QD md · ls)).getD true
def DW (md:Region.Mode)(ops:Array Oper):Nat->Nat->Nat->Bool
  | 0,_,_=>false
  | f+1,j,i=>((ops[j]?).map fun o=>o.after.any fun e=>Region.binds md e&&(e.on==i||DW md ops f e.on i)).getD false
section
variable {P:Program} {ops:Array Oper} {Q:Exit->Act->World->Prop} {md:Region.Mode} {S:World->Prop} {T:Nat->Bool}
theorem uq {ls:Array Bool}(h:oU md ops ls=true){j:Nat}{o:Oper}(ho:ops[j]? = some o)(hj:ls.getD j false=true):QD md o ls=true:=by
 have hlt:j<ops.size:=(Array.getElem?_eq_some_iff.1 ho).1
 have:=List.all_eq_true.1 h j (List.mem_range.2 hlt)
 rw [hj,ho] at this
 simpa using this
theorem oV {ls:Array Bool}(hc:oU md ops ls=true):∀ (f j i:Nat) (o:Oper),ops[j]? = some o->QD md o ls=true->DW md ops f j i=true->ls.getD i false=true
 | 0,j,i,o,_,_,h=>by cases h
 | f+1,j,i,o,ho,hu,h=>by
  unfold DW at h
  rw [ho] at h
  simp only [Option.map_some,Option.getD_some,Array.any_eq_true'] at h
  obtain ⟨e,he,h⟩:=h
  simp only [Bool.and_eq_true,Bool.or_eq_true,beq_iff_eq] at h
  have hl:ls.getD e.on false=true:=by
   have:=Array.all_eq_true'.1 hu e he
   simpa [h.1] using this
  rcases h.2 with h2|h2
  .rw [<- h2];exact hl
  .
   cases ho2:ops[e.on]? with
   | none=>cases f with
    | zero=>cases h2
    | succ f=>unfold DW at h2;rw [ho2] at h2;cases h2
   | some o2=>exact oV hc f e.on i o2 ho2 (uq hc ho2 hl) h2
theorem GY {o:Oper}{ls:Array Bool}{j:Nat}(h:QD md o ls=true):QD md o (ls.setIfInBounds j true)=true:=by
 refine Array.all_eq_true'.2 fun e he=>?_
 have:=Array.all_eq_true'.1 h e he
 simp only [Bool.or_eq_true,Bool.not_eq_true'] at this ⊢
 rcases this with h1|h1
 .exact .inl h1
 .exact .inr (getD_set_true h1)
theorem FB {ls:Array Bool}(h:oU md ops ls=true){j:Nat}{o:Oper}(ho:ops[j]? = some o)(hu:QD md o ls=true):oU md ops (ls.setIfInBounds j true)=true:=by
 refine List.all_eq_true.2 fun k hk=>?_
 have hlt:=List.mem_range.1 hk
 cases hl:(ls.setIfInBounds j true).getD k false with
 | false=>rfl
 | true =>
  have hok:ops[k]? = some ops[k]:=Array.getElem?_eq_getElem hlt
  rw [hok]
  simp only [Bool.not_true,Bool.false_or,Option.map_some,Option.getD_some]
  by_cases hj:j=k
  .subst hj;rw [ho] at hok;injection hok with hok;rw [<- hok];exact GY hu
  .
   have:ls.getD k false=true:=by
    rw [<- hl];simp [Array.getD_eq_getD_getElem?,Array.getElem?_setIfInBounds_ne hj]
   exact GY (uq h hok this)
def noT (T:Nat->Bool)(ls:Array Bool):Prop:= ∀j,T j=true->ls.getD j false=false
def nu (P:Program)(md:Region.Mode)(ops:Array Oper)(Q:Exit->Act->World->Prop)(S:World->Prop)(T:Nat->Bool):Nat->Array Bool->Act->World->Prop
  | 0,ls,a,w=>Region.ready md ops ls=[]/\Q .normal a w
  | fuel+1,ls,a,w =>
    (Region.ready md ops ls=[]->Q .normal a w) /\
    ∀i∈Region.ready md ops ls,wpOp P ops Q i (fun a' w'=>(noT T (ls.setIfInBounds i true)->S w')/\nu P md ops Q S T fuel (ls.setIfInBounds i true) a' w') a w
theorem yg:∀ (fuel:Nat) (ls:Array Bool) (a:Act) (w:World),nu P md ops Q S T fuel ls a w->wpAny P md ops Q fuel ls a w
 | 0,_,_,_,h=>h
 | fuel+1,_,_,_,h=>⟨h.1,fun i hi=>wpOp_mono (fun a' w' h'=>yg fuel _ a' w' h'.2) (h.2 i hi)⟩
theorem DX {ls:Array Bool}{j:Nat}(h:j∈Region.ready md ops ls):∃o,ops[j]? = some o/\QD md o ls=true:=by
 unfold Region.ready at h
 obtain ⟨h1,h2⟩:=List.mem_filter.1 h
 simp only [Bool.and_eq_true] at h2
 cases ho:ops[j]? with
 | none=>rw [ho] at h2;simp at h2
 | some o =>
  rw [ho] at h2
  have h3:=h2.2
  rw [Option.map_some,Option.getD_some] at h3
  exact ⟨o,rfl,h3⟩
theorem BP {N i:Nat}{oi:Oper}{v:Value}(hi:ops[i]? = some oi)(hsel:∀ (j:Nat) (o:Oper) cs b,ops[j]? = some o->o.op ≠ .select cs b)
 (hQ:∀c a w,Q (.panic c) (a.put oi.dst v) w->Q (.panic c) a w) (hT:∀j,T j=true->DW md ops N j i=true) :
 ∀ (fuel:Nat) (listed:Array Bool) (a:Act) (w:World),oU md ops listed=true ->
  (∀j oj,ops[j]? = some oj->j≠i->listed.getD j true=false->(∀e∈oj.after,Region.binds md e=true->e.on≠i)->oi.apart ops oj=true) ->
  i∈Region.ready md ops listed->YieldsIf P ops S oi v a->S w ->
  nu P md ops Q S T fuel (listed.setIfInBounds i true) (a.put oi.dst v) w->nu P md ops Q S T (fuel+1) listed a w:=by
 intro fuel
 induction fuel with
 | zero =>
  intro listed a w _ _ hr hy hS H
  refine ⟨fun h=>(by rw [h] at hr;cases hr),fun j hj=>?_⟩
  by_cases hji:j=i
  .subst hji;exact hy.wpOp hi hS ⟨fun _=>hS,H⟩
  .
   have:=ready_mono hj hji
   rw [H.1] at this
   cases this
 | succ fuel ih =>
  intro listed a w hcl hfree hr hy hS H
  refine ⟨fun h=>(by rw [h] at hr;cases hr),fun j hj=>?_⟩
  by_cases hji:j=i
  .subst hji;exact hy.wpOp hi hS ⟨fun _=>hS,H⟩
  .
   have h1:=H.2 j (ready_mono hj hji)
   obtain ⟨hjun,oj,hoj,hall⟩:=mem_ready.1 hj
   have hun:=(mem_ready.1 hr).1
   have hnl:listed.getD i false=false:=by
    rcases Nat.lt_or_ge i listed.size with h'|h'
    .simpa [Array.getD,h'] using hun
    .simp [Array.getD,Nat.not_lt.2 h']
   obtain ⟨Wa,Tj,Ve⟩:=DX hj
   have Wb:¬ T j=true:=fun h=>by
    have:=oV hcl N j i Wa Tj Ve (hT j h)
    rw [hnl] at this;cases this
   obtain ⟨Wc,UF,UX⟩:=DX hr
   have Tk:¬ T i=true:=fun h=>by
    have:=oV hcl N i i Wc UF UX (hT i h)
    rw [hnl] at this;cases this
   have hno:noT T ((listed.setIfInBounds i true).setIfInBounds j true):=fun k hk=>by
    have hki:i≠k:=fun e=>Tk (e▸hk)
    have hkj:j≠k:=fun e=>Wb (e▸hk)
    rw [Array.getD_eq_getD_getElem?,Array.getElem?_setIfInBounds_ne hkj,Array.getElem?_setIfInBounds_ne hki,<- Array.getD_eq_getD_getElem?]
    cases hl:listed.getD k false with
    | false=>rfl
    | true =>
     exfalso
     cases hok:ops[k]? with
     | none=>have:=hT k hk;cases N with
      | zero=>cases this
      | succ N=>unfold DW at this;rw [hok] at this;cases this
     | some ok =>
      have:=oV hcl N k i ok hok (uq hcl hok hl) (hT k hk)
      rw [hnl] at this;cases this
   have hnot:∀e∈oj.after,Region.binds md e=true->e.on≠i:=fun e he hb heq=>by
    have h1:=hall e he hb
    rw [heq] at h1
    rcases Nat.lt_or_ge i listed.size with h'|h'
    .simp [h'] at hun h1;rw [hun] at h1;cases h1
    .simp [Array.getElem?_eq_none h'] at h1
   have h2:=wpOp_putIf hoj (hfree j oj hoj hji hjun hnot) (fun cs b=>hsel i oi cs b hi) (fun cs b=>hsel j oj cs b hoj) hQ hy h1
   have hfree':∀k ok,ops[k]? = some ok->k≠i->(listed.setIfInBounds j true).getD k true=false ->
    (∀e∈ok.after,Region.binds md e=true->e.on≠i)->oi.apart ops ok=true:=fun k ok hk hki hun hno=>by
    refine hfree k ok hk hki ?_ hno
    by_cases hjk:j=k
    .subst hjk;exact hjun
    .rw [getD_set_ne true hjk] at hun;exact hun
   have UG:=FB hcl Tj Ve
   refine wpOp_mono (fun a' w' h3=>⟨fun _=>h3.2.1 hno,ih (listed.setIfInBounds j true) a' w' UG hfree' (ready_mono hr (Ne.symm hji)) h3.1 (h3.2.1 hno) ?_⟩) h2
   rw [Array.setIfInBounds_comm _ _ hji]
   exact h3.2.2
theorem BQ {ls:Array Bool}{i:Nat}(hi:¬ T i=true):noT T (ls.setIfInBounds i true)↔noT T ls:=by
 have e:∀k,T k=true->(ls.setIfInBounds i true).getD k false=ls.getD k false:=fun k hk=>getD_set_ne false (fun e=>hi (e▸hk))
 exact ⟨fun h k hk=>(e k hk).symm.trans (h k hk),fun h k hk=>(e k hk).trans (h k hk)⟩
theorem yO {i:Nat}{oi:Oper}{v:Value}(hi:ops[i]? = some oi)(hsel:∀ (j:Nat) (o:Oper) cs b,ops[j]? = some o->o.op ≠ .select cs b)
 (hQ:∀c a w,Q (.panic c) (a.put oi.dst v) w->Q (.panic c) a w) (Tk:¬ T i=true) :
 ∀ (fuel:Nat) (listed:Array Bool) (a:Act) (w:World),
  (∀j oj,ops[j]? = some oj->j≠i->listed.getD j true=false->(∀e∈oj.after,Region.binds md e=true->e.on≠i)->oi.apart ops oj=true) ->
  i∈Region.ready md ops listed->YieldsIf P ops (fun _=>True) oi v a->(noT T listed->S w) ->
  nu P md ops Q S T fuel (listed.setIfInBounds i true) (a.put oi.dst v) w->nu P md ops Q S T (fuel+1) listed a w:=by
 intro fuel
 induction fuel with
 | zero =>
  intro listed a w _ hr hy hS H
  refine ⟨fun h=>(by rw [h] at hr;cases hr),fun j hj=>?_⟩
  by_cases hji:j=i
  .subst hji;exact hy.wpOp hi trivial ⟨fun h=>hS ((BQ Tk).1 h),H⟩
  .
   have:=ready_mono hj hji
   rw [H.1] at this
   cases this
 | succ fuel ih =>
  intro listed a w hfree hr hy hS H
  refine ⟨fun h=>(by rw [h] at hr;cases hr),fun j hj=>?_⟩
  by_cases hji:j=i
  .subst hji;exact hy.wpOp hi trivial ⟨fun h=>hS ((BQ Tk).1 h),H⟩
  .
   have h1:=H.2 j (ready_mono hj hji)
   obtain ⟨hjun,oj,hoj,hall⟩:=mem_ready.1 hj
   have hun:=(mem_ready.1 hr).1
   have hnot:∀e∈oj.after,Region.binds md e=true->e.on≠i:=fun e he hb heq=>by
    have h1:=hall e he hb
    rw [heq] at h1
    rcases Nat.lt_or_ge i listed.size with h'|h'
    .simp [h'] at hun h1;rw [hun] at h1;cases h1
    .simp [Array.getElem?_eq_none h'] at h1
   have h2:=wpOp_putIf hoj (hfree j oj hoj hji hjun hnot) (fun cs b=>hsel i oi cs b hi) (fun cs b=>hsel j oj cs b hoj) hQ hy h1
   have hfree':∀k ok,ops[k]? = some ok->k≠i->(listed.setIfInBounds j true).getD k true=false ->
    (∀e∈ok.after,Region.binds md e=true->e.on≠i)->oi.apart ops ok=true:=fun k ok hk hki hun hno=>by
    refine hfree k ok hk hki ?_ hno
    by_cases hjk:j=k
    .subst hjk;exact hjun
    .rw [getD_set_ne true hjk] at hun;exact hun
   refine wpOp_mono (fun a' w' h3=>?_) h2
   have hS':noT T (listed.setIfInBounds j true)->S w':=fun h=>h3.2.1 (by rw [Array.setIfInBounds_comm _ _ (Ne.symm hji)];exact (BQ Tk).2 h)
   refine ⟨hS',ih (listed.setIfInBounds j true) a' w' hfree' (ready_mono hr (Ne.symm hji)) h3.1 hS' ?_⟩
   rw [Array.setIfInBounds_comm _ _ hji]
   exact h3.2.2
theorem DY {N i:Nat}{oi:Oper}{v:Value}{fuel:Nat}{listed:Array Bool}{a:Act}{w:World}(hi:ops[i]? = some oi)
 (hs:Region.noSelect ops=true) (hf:Region.free md ops listed i=true) (hr:(Region.ready md ops listed).contains i=true) (hcl:oU md ops listed=true) (hT:∀j,T j=true->DW md ops N j i=true)
 (hQ:∀c a w,Q (.panic c) (a.put oi.dst v) w->Q (.panic c) a w) (hy:YieldsIf P ops S oi v a) (hS:S w)
 (h:nu P md ops Q S T fuel (listed.setIfInBounds i true) (a.put oi.dst v) w):nu P md ops Q S T (fuel+1) listed a w :=
 BP hi (Region.noSelect_spec hs) hQ hT fuel listed a w hcl (Region.free_spec hi hf) (by simpa using hr) hy hS h
end
section
variable {P:Program} {n:Nat} {we:World} {X:List Nat} {Q:Exit->Act->World->Prop} {k k':List It} {L:Fm} {B F:List ag} {ops rest:List Oper}
variable {dst:Option Nat} {d:Nat} {op:Op} {ty:TypeId} {pos:String} {eh:Array Edge} {g:Option (Nat×Bool)} {v:Value}
def BR (l:List Nat)(j:Nat):Bool:=l.any (Nat.beq j)
def Kg (S:World->Prop)(T:List Nat)(P:Program)(n:Nat)(we:World)(X:List Nat)(Q:Exit->Act->World->Prop)(ops:List Oper)(fuel:Nat)(ls:Array Bool)(k:List It)(L:Fm)(B F:List ag):Prop :=
  ∀a w,Fr n L a->Wd we X B F w->nu P .any ops.toArray (NoPanic (pj P Q k)) S (BR T) fuel ls a w
def Ko (S:World->Prop)(T:List Nat)(P:Program)(n:Nat)(we:World)(X:List Nat)(Q:Exit->Act->World->Prop)(ops:List Oper)(i:Nat)(o:Oper)(fuel:Nat)(ls:Array Bool)(k:List It)(L:Fm)(B F:List ag):Prop :=
  ops[i]? = some o -> ∀a w,Fr n L a->Wd we X B F w->wpOp P ops.toArray (NoPanic (pj P Q k)) i (fun a' w'=>(noT (BR T) (ls.setIfInBounds i true)->S w')/\nu P .any ops.toArray (NoPanic (pj P Q k)) S (BR T) fuel (ls.setIfInBounds i true) a' w') a w
variable {S:World->Prop} {T:List Nat} {i j fuel:Nat} {ls ls':Array Bool} {o:Oper}
theorem R.UH {id:Nat}(S:World->Prop)(T:List Nat)(h:norm 200 k = .c (.region id ops.toArray true)::k')(hm:P.follows .mixedOrders=true)(hl:ops.length=fuel)(hr:Kg S T P n we X Q ops fuel (Array.replicate fuel false) k' L B F):Run P n we X Q k L B F:=by
 intro a w ha hw
 refine cT 200 (h ▸ ?_)
 refine wp_region_noPanic (wp_region_any hm (yg (S:=S) (T:=BR T) _ _ _ _ ?_))
 have:=hr a _ ha (hw.grow (lT.draw w))
 simpa [hl] using this
theorem R.UI {id:Nat}{B1:List ag}(is:List Nat)(T:List Nat)(hB:da B is=some B1)(h:norm 200 k = .c (.region id ops.toArray true)::k')(hm:P.follows .mixedOrders=true)(hl:ops.length=fuel)(hr:Kg (Wd we X B1 F) T P n we X Q ops fuel (Array.replicate fuel false) k' L B F):Run P n we X Q k L B F :=
 R.UH (Wd we X B1 F) T h hm hl hr
theorem K.done (h:Run P n we X Q k L B F)(h0:Region.ready .any ops.toArray ls=[]:=by kernel_rfl):Kg S T P n we X Q ops fuel ls k L B F :=
 fun a w ha hw=>by
  cases fuel with
  | zero=>exact ⟨h0,NoPanic.normal (h a w ha hw)⟩
  | succ f=>exact ⟨fun _=>NoPanic.normal (h a w ha hw),by rw [h0];simp⟩
theorem Lm {T:List Nat}{p:Nat->Bool}(h:T.all p=true):∀j,BR T j=true->p j=true:=fun j hj=>by
 unfold BR at hj
 obtain ⟨t,ht,e⟩:=List.any_eq_true.1 hj
 rw [Nat.eq_of_beq_eq_true e];exact List.all_eq_true.1 h t ht
theorem K.q (hi:ops[i]? = some ⟨some d,op,ty,pos,eh,g⟩)(hS:∀w,Wd we X B F w->S w)(hg:gd ops L g=some true)
 (hq:∀dst pos eh g a w,Fr n L a->S w->(execOp a.eval ⟨dst,op,ty,pos,eh,g⟩).run P w = .ok (.value v) w) (hd:Nat.blt d n=true) (h:Kg S T P n we X Q ops fuel (ls.setIfInBounds i true) k ((d,v)::L) B F) (hfr:(Region.noSelect ops.toArray&&Region.free .any ops.toArray ls i&&(Region.ready .any ops.toArray ls).contains i&&oU .any ops.toArray ls&&T.all (fun j=>DW .any ops.toArray 40 j i))=true:=by kernel_rfl):Kg S T P n we X Q ops (fuel+1) ls k L B F:=by
 intro a w ha hw
 simp only [Bool.and_eq_true] at hfr
 obtain ⟨⟨⟨⟨h1,h2⟩,h3⟩,h4⟩,h5⟩:=hfr
 exact DY (N:=40) (by simpa using hi) h1 h2 h3 h4 (Lm h5) (fun _ _ _ h=>h) (.inl ⟨d9 (o:=⟨some d,op,ty,pos,eh,g⟩) ha hg,fun w hw=>hq _ _ _ _ a w ha hw⟩) (hS w hw) (h _ w (ha.put d v hd) hw)
theorem K.p (hi:ops[i]? = some ⟨some d,op,ty,pos,eh,g⟩)(hS:T.any (fun t=>ls.getD t false)=true ∨ ∀w,Wd we X B F w->S w)(hg:gd ops L g=some true)
 (hq:∀w,Qt P n w [] L [] [] op ty v) (hd:Nat.blt d n=true) (h:Kg S T P n we X Q ops fuel (ls.setIfInBounds i true) k ((d,v)::L) B F) (hfr:(Region.noSelect ops.toArray&&Region.free .any ops.toArray ls i&&(Region.ready .any ops.toArray ls).contains i && !BR T i)=true:=by kernel_rfl):Kg S T P n we X Q ops (fuel+1) ls k L B F:=by
 intro a w ha hw
 simp only [Bool.and_eq_true,Bool.not_eq_true'] at hfr
 obtain ⟨⟨⟨h1,h2⟩,h3⟩,h4⟩:=hfr
 have hi':ops.toArray[i]? = some ⟨some d,op,ty,pos,eh,g⟩:=by simpa using hi
 exact yO hi' (Region.noSelect_spec h1) (fun _ _ _ h=>h) (by rw [h4];simp) fuel ls a w (Region.free_spec hi' h2) (by simpa using h3)
  (.inl ⟨d9 (o:=⟨some d,op,ty,pos,eh,g⟩) ha hg,fun w _=>hq w _ _ _ _ a w ha (Wd.start w [])⟩) (fun hno=>hS.elim (fun hT=>by
   obtain ⟨t,ht,e⟩:=List.any_eq_true.1 hT
   have:=hno t (List.any_eq_true.2 ⟨t,ht,Nat.beq_refl t⟩)
   rw [e] at this;cases this) fun h=>h w hw) (h _ w (ha.put d v hd) hw)
theorem K.one (hi:ops[i]? = some o)(h:Ko S T P n we X Q ops i o fuel ls k L B F)(h0:Region.ready .any ops.toArray ls=[i]:=by kernel_rfl):Kg S T P n we X Q ops (fuel+1) ls k L B F :=
 fun a w ha hw=>⟨fun h1=>(by rw [h0] at h1;cases h1),fun j hj=>by
  rw [h0] at hj;rw [List.mem_singleton.1 hj];exact h hi a w ha hw⟩
theorem K.two {o':Oper}(hi:ops[i]? = some o)(hj:ops[j]? = some o')(h:Ko S T P n we X Q ops i o fuel ls k L B F)(h':Ko S T P n we X Q ops j o' fuel ls k L B F)(h0:Region.ready .any ops.toArray ls=[i,j]:=by kernel_rfl):Kg S T P n we X Q ops (fuel+1) ls k L B F :=
 fun a w ha hw=>⟨fun h1=>(by rw [h0] at h1;cases h1),fun m hm=>by
  rw [h0] at hm
  rcases List.mem_cons.1 hm with rfl|hm
  .exact h hi a w ha hw
  .rw [List.mem_singleton.1 hm];exact h' hj a w ha hw⟩
theorem Ko.s {β:Type}{L':β->Fm}{B' F':β->List ag}(hs:Stp P n we X L B F o L' B' F')(hS:BR T i=true∨(∀z w,Wd we X (B' z) (F' z) w->S w))(hT:BR T i=true->Nat.blt i ls.size=true)(hg:gd ops L o.guard=some true)
 (h:∀z,Kg S T P n we X Q ops fuel (ls.setIfInBounds i true) k (L' z) (B' z) (F' z)):Ko S T P n we X Q ops i o fuel ls k L B F:=by
 intro hi a w ha hw
 unfold wpOp
 have:ops.toArray[i]? = some o:=by simpa using hi
 rw [this]
 simp only []
 rw [if_pos (d9 (o:=o) ha hg)]
 refine .inl (hs _ _ a w ha hw fun z a w ha hw=>⟨fun hno=>?_,h z a w ha hw⟩)
 rcases hS with hS|hS
 .
  have h1:=hno i hS
  have h2:i<ls.size:=Nat.blt_eq.mp (hT hS) |> fun h=>h
  simp [Array.getD,h2] at h1
 .exact hS z w hw
end
end
end Go.Proofs.YtkbhcbipadkcaaaGreatDoor
