import Derived.Test.YtkbhcbipadkcaaaGreatDoorTS23
import Derived.Lib.AppendIntMem
import Derived.Lib.AtoiBound
import Derived.Lib.ItoaLen
namespace Go.Proofs.YtkbhcbipadkcaaaGreatDoor
set_option linter.unusedVariables false
set_option linter.unusedSimpArgs false
set_option maxRecDepth 100000
set_option maxHeartbeats 90000000
def d8 (k:Nat):UInt8:=UInt8.ofNat (48+k)
def Fq (k:Nat):List UInt8:=[d8 (k / 1000),d8 (k / 100 % 10),d8 (k / 10 % 10),d8 (k % 10)]
theorem uh {k:Nat}(h:k<10):(d8 k).toNat=48+k:=nL (by omega)
theorem zT {a b:Nat}(ha:a<10)(hb:b<10):d8 a<d8 b↔a<b:=by
 rw [UInt8.lt_iff_toNat_lt,uh ha,uh hb];omega
theorem MW (u:Nat):Lib.decDigits u=if u<10 then [d8 u] else Lib.decDigits (u / 10)++[d8 (u % 10)]:=by
 rw [Lib.decDigits];split <;> rfl
theorem Om (l:List UInt8):bl ⟨l.toArray⟩=l:=rfl
theorem size_mk (l:List UInt8):(⟨l.toArray⟩:ByteArray).size=l.length:=by rw [<- eE,Om]
theorem BL {n:Int}(h:0<=n):bl (gQ n)=Lib.decDigits n.toNat:=by
 show Lib.itoa n=_
 unfold Lib.itoa;rw [if_neg (by omega)]
theorem Qs {u:Nat}(h:u<10):Lib.decDigits u=[d8 u]:=by rw [MW,if_pos h]
theorem S4 {u:Nat}(h0:10<=u)(h:u<100):Lib.decDigits u=[d8 (u / 10),d8 (u % 10)]:=by rw [MW,if_neg (by omega),Qs (by omega)];rfl
theorem S5 {u:Nat}(h0:100<=u)(h:u<1000):Lib.decDigits u=[d8 (u / 100),d8 (u / 10 % 10),d8 (u % 10)]:=by
 rw [MW,if_neg (by omega),S4 (by omega) (by omega),show u / 10 / 10=u / 100 by omega];rfl
theorem Uw {u:Nat}(h0:1000<=u)(h:u<10000):Lib.decDigits u=Fq u:=by
 rw [MW,if_neg (by omega),S5 (by omega) (by omega),show u / 10 / 100=u / 1000 by omega,show u / 10 / 10 % 10=u / 100 % 10 by omega];rfl
theorem vH {n:Int}(h0:0<=n)(h1:n<10000):bl (bN n)=Fq n.toNat:=by
 have hs:(gQ n).size=(Lib.decDigits n.toNat).length:=by rw [<- eE,BL h0]
 unfold bN
 rw [iM,Om,BL h0,hs]
 generalize hk:n.toNat=k
 have hk4:k<10000:=by omega
 have z0:(48:UInt8)=d8 0:=rfl
 by_cases c1:k<10
 .
  rw [Qs c1];unfold Fq
  rw [show k / 1000=0 by omega,show k / 100 % 10=0 by omega,show k / 10 % 10=0 by omega,show k % 10=k by omega];rfl
 .
  by_cases c2:k<100
  .
   rw [S4 (by omega) c2];unfold Fq
   rw [show k / 1000=0 by omega,show k / 100 % 10=0 by omega,show k / 10 % 10=k / 10 by omega];rfl
  .
   by_cases c3:k<1000
   .
    rw [S5 (by omega) c3];unfold Fq
    rw [show k / 1000=0 by omega,show k / 100 % 10=k / 100 by omega];rfl
   .rw [Uw (by omega) hk4];rfl
theorem cF {n:Int}(h0:0<=n)(h1:n<10000):(bN n).size=4:=by rw [<- eE,vH h0 h1];rfl
theorem tr {k:Nat}(h:k<10):Lib.digitVal (d8 k)=some k:=by
 unfold Lib.digitVal;rw [uh h,if_pos (by omega)];congr 1;omega
theorem Oo {k:Nat}(h:k<10){c:UInt8}(hc:c.toNat<48):(d8 k==c)=false:=by
 rw [beq_eq_false_iff_ne];intro e;have:=congrArg UInt8.toNat e;rw [uh h] at this;omega
theorem K0 {k:Nat}(h:k<10000):Lib.atoi (Fq k)=some (k:Int):=by
 unfold Fq Lib.atoi
 dsimp only
 rw [if_neg (by rw [Oo (by omega) (by decide)];decide),if_neg (by rw [Oo (by omega) (by decide)];decide)]
 simp only [Lib.decNat,List.isEmpty_cons,Bool.false_eq_true,if_false,Lib.decFrom,tr (show k / 1000<10 by omega),tr (show k / 100 % 10<10 by omega),tr (show k / 10 % 10<10 by omega),tr (show k % 10<10 by omega),Option.map_some]
 congr 1;omega
theorem j7 {n:Int}(h0:0<=n)(h1:n<10000):vq (bN n)=some n:=by
 unfold vq
 have e:(bN n).data.toList=Fq n.toNat:=vH h0 h1
 rw [e,K0 (by omega)]
 dsimp only
 rw [show ((n.toNat:Nat):Int)=n by omega,if_pos rfl]
theorem K1 {a b:Nat}(hb:b<10000)(h:a<b):Fq a<Fq b:=by
 unfold Fq
 simp only [List.cons_lt_cons_iff,zT (show a / 1000<10 by omega) (show b / 1000<10 by omega),zT (show a / 100 % 10<10 by omega) (show b / 100 % 10<10 by omega),zT (show a / 10 % 10<10 by omega) (show b / 10 % 10<10 by omega),zT (show a % 10<10 by omega) (show b % 10<10 by omega)]
 by_cases c1:a / 1000<b / 1000
 .exact .inl c1
 .
  refine .inr ⟨by rw [show a / 1000=b / 1000 by omega],?_⟩
  by_cases c2:a / 100 % 10<b / 100 % 10
  .exact .inl c2
  .
   refine .inr ⟨by rw [show a / 100 % 10=b / 100 % 10 by omega],?_⟩
   by_cases c3:a / 10 % 10<b / 10 % 10
   .exact .inl c3
   .
    refine .inr ⟨by rw [show a / 10 % 10=b / 10 % 10 by omega],?_⟩
    exact .inl (by omega)
theorem DR {n:Int}(h0:0<=n)(h1:n<10):bl (gQ n)=[d8 n.toNat]:=by rw [BL h0,Qs (by omega)]
theorem hkey {h:Held}(hp:aZ h.Place=0):bl (hrow h).Key=[104,d8 h.Place.aC.toNat,d8 h.Place.Slot.toNat]:=by
 have:=cx hp
 show bl (kH++gQ h.Place.aC++gQ h.Place.Slot)=_
 rw [iM,iM,DR (by omega) (by omega),DR (by omega) (by omega)];rfl
theorem tkey {t:aE}(h0:0<=t.ID)(h1:t.ID<10000):bl (lW t).Key=116::Fq t.ID.toNat:=by
 show bl (kT++bN t.ID)=_
 rw [iM,vH h0 h1];rfl
theorem K2 {w:ak}(h0:0<=w.ID)(h1:w.ID<10000):bl (nX w).Key=119::Fq w.ID.toNat:=by
 show bl (kW++bN w.ID)=_
 rw [iM,vH h0 h1];rfl
theorem qU {a b:ByteArray}{x y:UInt8}{l m:List UInt8}(ha:bl a=x::l)(hb:bl b=y::m)(h:x<y):jy a b=true:=by
 rw [lu];show bl a<bl b;rw [ha,hb,List.cons_lt_cons_iff];exact .inl h
theorem BM {a b:ByteArray}{x:UInt8}{l m:List UInt8}(ha:bl a=x::l)(hb:bl b=x::m)(h:l<m):jy a b=true:=by
 rw [lu];show bl a<bl b;rw [ha,hb,List.cons_lt_cons_iff];exact .inr ⟨rfl,h⟩
theorem MX {g h:Held}(hg:aZ g.Place=0)(hh:aZ h.Place=0)(hl:ka g.Place h.Place):jy (hrow g).Key (hrow h).Key=true:=by
 have:=cx hg;have:=cx hh
 refine BM (hkey hg) (hkey hh) ?_
 rw [List.cons_lt_cons_iff,zT (by omega) (by omega)]
 rcases hl with hl|⟨he,hl⟩
 .exact .inl (by omega)
 .
  refine .inr ⟨by rw [he],?_⟩
  rw [List.cons_lt_cons_iff,zT (by omega) (by omega)];exact .inl (by omega)
theorem MY {s t:aE}(h0:0<=s.ID)(h1:t.ID<10000)(h:s.ID<t.ID):jy (lW s).Key (lW t).Key=true :=
 BM (tkey h0 (by omega)) (tkey (by omega) h1) (K1 (by omega) (by omega))
theorem MZ {v w:ak}(h0:0<=v.ID)(h1:w.ID<10000)(h:v.ID<w.ID):jy (nX v).Key (nX w).Key=true :=
 BM (K2 h0 (by omega)) (K2 (by omega) h1) (K1 (by omega) (by omega))
theorem oO (a b:ByteArray)(i j:Nat)(hi:i=a.size)(hj:j=a.size+b.size):(a++b).extract i j=b:=by
 apply gM;show bl _=bl _
 rw [i7,iM,List.take_of_length_le (by rw [List.length_append,eE,eE];omega),hi,<- eE a,List.drop_left]
theorem m6 (a b:ByteArray)(i j:Nat)(hj:j<=a.size):(a++b).extract i j=a.extract i j:=by
 apply gM;show bl _=bl _
 rw [i7,i7,iM,List.take_append_of_le_length (by rw [eE];exact hj)]
theorem vI (a:ByteArray)(j:Nat)(hj:j=a.size):a.extract 0 j=a:=by
 apply gM;show bl _=bl _
 rw [i7,List.take_of_length_le (by rw [eE];omega),List.drop_zero]
theorem eT (a b:ByteArray):(a++b).size=a.size+b.size:=ByteArray.size_append
theorem S6 {a b:ByteArray}{n:Int}(h0:0<=n)(h1:n<10000)(ha:a=bN n):dR (a++b) 1=some [n]:=by
 have hs:a.size=4:=by rw [ha,cF h0 h1]
 unfold dR;rw [if_neg (by rw [eT];omega)]
 simp only [jL]
 rw [m6 _ _ _ _ (by omega),vI _ _ (by omega),ha,j7 h0 h1];rfl
theorem Ft {n:Int}(h0:0<=n)(h1:n<10000):dR (bN n) 1=some [n]:=by
 have hs:=cF h0 h1
 unfold dR;rw [if_neg (by omega)]
 simp only [jL]
 rw [vI _ _ (by omega),j7 h0 h1];rfl
theorem S7 {a b:Int}(ha:0<=a/\a<10000)(hb:0<=b/\b<10000):dR (bN a++bN b) 2=some [a,b]:=by
 have s1:=cF ha.1 ha.2;have s2:=cF hb.1 hb.2
 unfold dR;rw [if_neg (by rw [eT];omega)]
 simp only [jL]
 rw [m6 _ _ _ _ (by omega),vI _ _ (by omega),j7 ha.1 ha.2]
 dsimp only
 rw [oO _ _ _ _ (by omega) (by omega),j7 hb.1 hb.2];rfl
theorem S8 {a b c d:Int}(ha:0<=a/\a<10000)(hb:0<=b/\b<10000)(hc:0<=c/\c<10000)(hd:0<=d/\d<10000):dR (bN a++bN b++bN c++bN d) 4=some [a,b,c,d]:=by
 have s1:=cF ha.1 ha.2;have s2:=cF hb.1 hb.2;have s3:=cF hc.1 hc.2;have s4:=cF hd.1 hd.2
 unfold dR;rw [if_neg (by simp only [eT];omega)]
 simp only [jL]
 rw [m6 _ _ _ _ (by simp only [eT];omega),m6 _ _ _ _ (by simp only [eT];omega),m6 _ _ _ _ (by omega),vI _ _ (by omega),j7 ha.1 ha.2]
 dsimp only
 rw [m6 _ _ _ _ (by simp only [eT];omega),m6 _ _ _ _ (by simp only [eT];omega),oO _ _ _ _ (by omega) (by omega),j7 hb.1 hb.2]
 dsimp only
 rw [m6 _ _ _ _ (by simp only [eT];omega),oO _ _ _ _ (by simp only [eT];omega) (by simp only [eT];omega),j7 hc.1 hc.2]
 dsimp only
 rw [oO _ _ _ _ (by simp only [eT];omega) (by simp only [eT];omega),j7 hd.1 hd.2];rfl
theorem DT {s:ByteArray}{l:List UInt8}{i:Nat}{x:UInt8}(h:bl s=l)(hx:l[i]? = some x):bj s i=x.toNat:=by rw [g9,h,hx];rfl
theorem K3 (r:aB){h:Held}(hp:aZ h.Place=0)(h0:0<=h.ak)(h1:h.ak<10000):rowP r (hrow h)=(Io r h,true):=by
 have hk:=hkey hp;have hz:=cx hp
 have hs:(hrow h).Key.size=3:=by rw [<- eE,hk];rfl
 have b0:bj (hrow h).Key 0=104:=DT (x:=104) hk rfl
 have b1:bj (hrow h).Key 1=48+h.Place.aC.toNat:=by rw [DT hk rfl,uh (by omega)]
 have b2:bj (hrow h).Key 2=48+h.Place.Slot.toNat:=by rw [DT hk rfl,uh (by omega)]
 have hpl:S3 (hrow h)=h.Place:=by
  unfold S3 MU;rw [b1,b2]
  show (⟨_,_⟩:Place)=⟨h.Place.aC,h.Place.Slot⟩
  congr 1 <;> omega
 have hv:dR (hrow h).Val 1=some [h.ak]:=Ft h0 h1
 have hvs:(hrow h).Val.size=4:=cF h0 h1
 unfold rowP
 rw [if_neg (by omega)]
 dsimp only
 rw [if_pos b0,hv,if_neg (by rw [hs,hvs];simp),hpl,decide_eq_true hp];rfl
theorem K4 (r:aB){t:aE}(h0:0<=t.ID)(h1:t.ID<10000)(hk:t.Kind=1∨t.Kind=2/\t.Data.size=0)(hd:t.Data.size<=8):rowP r (lW t)=(Ip r t,true):=by
 have hky:=tkey h0 h1
 have hs:(lW t).Key.size=5:=by rw [<- eE,hky];rfl
 have b0:bj (lW t).Key 0=116:=DT (x:=116) hky rfl
 have e1:dR ((lW t).Key.extract 1 (lW t).Key.size) 1=some [t.ID]:=by
  show dR ((kT++bN t.ID).extract 1 _) 1=_
  have hf:=cF h0 h1
  rw [oO _ _ _ _ (by rfl) (by rw [hs,hf];rfl)];exact Ft h0 h1
 have k4:0<=t.Kind/\t.Kind<10000:=by omega
 have hf:=cF k4.1 k4.2
 have hv:dR (lW t).Val 1=some [t.Kind]:=S6 k4.1 k4.2 rfl
 have hvs:(lW t).Val.size=4+t.Data.size:=by show (bN t.Kind++t.Data).size=_;rw [eT,hf]
 have hx:(lW t).Val.extract 4 (lW t).Val.size=t.Data:=by
  rw [hvs];show (bN t.Kind++t.Data).extract _ _=_
  exact oO _ _ _ _ (by omega) (by omega)
 unfold rowP
 rw [if_neg (by omega)]
 dsimp only
 rw [if_neg (by omega),if_pos b0,e1,hv,if_neg (by rw [hs,hvs];simp;omega),hx]
 show (Ip r ⟨t.ID,t.Kind,t.Data⟩,decide (t.Kind=1∨t.Kind=2/\(lW t).Val.size=4))=_
 rw [decide_eq_true (by rw [hvs];omega)]
theorem K5 (r:aB){w:ak}(h:QW w):rowP r (nX w)=(DN r w,true):=by
 have i1:=h.id1;have i9:=h.Og;have t1:=h.Qc;have t9:=h.Qd;have a0:=h.Qe;have a9:=h.Qf;have f0:=h.QX;have fl:=h.Qg;have q0:=h.Ky;have q7:=h.Kz
 have hky:=K2 (w:=w) (by omega) (by omega)
 have hs:(nX w).Key.size=5:=by rw [<- eE,hky];rfl
 have b0:bj (nX w).Key 0=119:=DT (x:=119) hky rfl
 have e1:dR ((nX w).Key.extract 1 (nX w).Key.size) 1=some [w.ID]:=by
  show dR ((kW++bN w.ID).extract 1 _) 1=_
  have hf:=cF (n:=w.ID) (by omega) (by omega)
  rw [oO _ _ _ _ (by rfl) (by rw [hs,hf];rfl)];exact Ft (by omega) (by omega)
 have hv:dR (nX w).Val 4=some [w.aE,w.Rights,w.aQ,w.From]:=S8 (by omega) (by omega) (by omega) (by omega)
 have hvs:(nX w).Val.size=16:=by
  show (bN w.aE++bN w.Rights++bN w.aQ++bN w.From).size=_
  simp only [eT]
  rw [cF (by omega) (by omega),cF (by omega) (by omega),cF (by omega) (by omega),cF (by omega) (by omega)]
 unfold rowP
 rw [if_neg (by omega)]
 dsimp only
 rw [if_neg (by omega),if_neg (by omega),if_pos b0,e1,hv,if_neg (by rw [hs,hvs];simp)];rfl
theorem K6 (r q:aB)(ha:0<=q.af/\q.af<10000)(hb:0<=q.ah/\q.ah<10000):rowP r (DL q)=(MV r q.af q.ah,true):=by
 have hv:dR (DL q).Val 2=some [q.af,q.ah]:=S7 ha hb
 have hvs:(DL q).Val.size=8:=by
  show (bN q.af++bN q.ah).size=_
  rw [eT,cF ha.1 ha.2,cF hb.1 hb.2]
 have b0:bj (DL q).Key 0=120:=rfl
 unfold rowP
 rw [if_neg (show ¬ (DL q).Key.size=0 from (by decide:¬ kX.size=0))]
 dsimp only
 rw [if_neg (by omega),if_neg (by omega),if_neg (by omega),hv,if_neg (by rw [hvs];simp;rfl)];rfl
section
open Go Go.RowKit
theorem Ux (w:World):Calls Tryz.prog 176 #[.string ⟨#[48]⟩,.int .i64 0] w fun e w'=>e = .returned (.string ⟨#[]⟩)/\w'=w:=by
 go_enter Tryz.func176,Tryz.ntmps176
 go_wp2
 go_ret
 exact ⟨rfl,rfl⟩
theorem Uy (w:World):Calls Tryz.prog 176 #[.string ⟨#[48]⟩,.int .i64 1] w fun e w'=>e = .returned (.string ⟨#[48]⟩)/\w'=w:=by
 go_enter Tryz.func176,Tryz.ntmps176
 go_wp2
 go_ret
 exact ⟨rfl,rfl⟩
theorem Uz (w:World):Calls Tryz.prog 176 #[.string ⟨#[48]⟩,.int .i64 2] w fun e w'=>e = .returned (.string ⟨#[48,48]⟩)/\w'=w:=by
 have hm:=fun w=>Tryz.bits_Mul 1 2 (by decide) (by decide) w
 have hp:∀ (a b:ByteArray) w,Calls Tryz.prog 198 #[.string a,.string b] w fun e w'=>e = .returned (.bool (Lib.hasPrefix a.data.toList b.data.toList))/\w'=w:=fun a b w=>Tryz.strings_HasPrefix a b w
 go_enter Tryz.func176,Tryz.ntmps176
 go_wp2_with (first
  | (go_at_call 132;refine (hm _).mono ?_;rintro e w' ⟨rfl,rfl⟩)
  | (go_at_call 198;refine (hp _ _ _).mono ?_;rintro e w' ⟨rfl,rfl⟩))
 all_goals first|(go_ret;exact ⟨rfl,rfl⟩)|(exfalso;repeat (rename_i h;first|exact absurd h (by decide)|clear h))
theorem UA (w:World):Calls Tryz.prog 176 #[.string ⟨#[48]⟩,.int .i64 3] w fun e w'=>e = .returned (.string ⟨#[48,48,48]⟩)/\w'=w:=by
 have hm:=fun w=>Tryz.bits_Mul 1 3 (by decide) (by decide) w
 have hp:∀ (a b:ByteArray) w,Calls Tryz.prog 198 #[.string a,.string b] w fun e w'=>e = .returned (.bool (Lib.hasPrefix a.data.toList b.data.toList))/\w'=w:=fun a b w=>Tryz.strings_HasPrefix a b w
 go_enter Tryz.func176,Tryz.ntmps176
 go_wp2_with (first
  | (go_at_call 132;refine (hm _).mono ?_;rintro e w' ⟨rfl,rfl⟩)
  | (go_at_call 198;refine (hp _ _ _).mono ?_;rintro e w' ⟨rfl,rfl⟩))
 all_goals first|(go_ret;exact ⟨rfl,rfl⟩)|(exfalso;repeat (rename_i h;first|exact absurd h (by decide)|clear h))
theorem Fu (sx:ByteArray)(c:Int)(w:World)(hs:sx=⟨#[48]⟩)(h:0<=c/\c<=3):Calls Tryz.prog 176 #[.string sx,.int .i64 c] w fun e w'=>e = .returned (.string ⟨(Lib.repeatL [48] c.toNat).toArray⟩)/\Ext w w':=by
 subst hs
 have e0:c=0∨c=1∨c=2∨c=3:=by omega
 rcases e0 with rfl|rfl|rfl|rfl
 .exact (Ux w).mono fun e w' ⟨h1,h2⟩=>⟨h1,h2▸Ext.refl _⟩
 .exact (Uy w).mono fun e w' ⟨h1,h2⟩=>⟨h1,h2▸Ext.refl _⟩
 .exact (Uz w).mono fun e w' ⟨h1,h2⟩=>⟨h1,h2▸Ext.refl _⟩
 .exact (UA w).mono fun e w' ⟨h1,h2⟩=>⟨h1,h2▸Ext.refl _⟩
end
section
open Go Go.RowKit
theorem Qu:Tryz.prog.globalNamed "internal/strconv.uint64pow10" = some 1:=by kernel_rfl
theorem Qv:Tryz.prog.globalNamed "strconv.ErrSyntax" = some 2:=by kernel_rfl
structure DU (w:World):Prop where
  pow:Lib.TabIs Tryz.prog w "internal/strconv.uint64pow10" .u64 Lib.pow10Tab
  err:∃tp p,w.var? Tryz.prog "strconv.ErrSyntax" = some #[.iface tp p]
theorem K7 {w w':World}{s:String}{g:Nat}(hg:Tryz.prog.globalNamed s=some g)(h:w'.heap[g]? = w.heap[g]?):w'.var? Tryz.prog s=w.var? Tryz.prog s:=by
 unfold World.var?;rw [hg];simp only [Option.bind_some,h]
theorem K8 {w:World}{s:String}{g:Nat}{cs:Array Value}(hg:Tryz.prog.globalNamed s=some g)(h:w.var? Tryz.prog s=some cs):g<w.heap.size:=by
 unfold World.var? at h;rw [hg] at h;simp only [Option.bind_some] at h
 split at h
 .rename_i hq;exact (Array.getElem?_eq_some_iff.1 hq).1
 .cases h
def ew:ag:=⟨[1,2],DU,fun w w' h ⟨h1,h2⟩=>⟨by unfold Lib.TabIs;rw [K7 Qu (h _ (by simp))];exact h1,by rw [K7 Qv (h _ (by simp))];exact h2⟩⟩
theorem BN {w:World}(h:DU w):∀k∈ew.blk,k<w.heap.size:=fun k hk=>by
 rcases List.mem_cons.1 hk with rfl|hk
 .exact K8 Qu h.pow
 .
  obtain ⟨tp,p,h2⟩:=h.err
  rw [List.mem_singleton.1 hk];exact K8 Qv h2
theorem yb (n:Int)(w:World)(ht:DU w)(hn : -9223372036854775808<=n/\n<=9223372036854775807):Calls Tryz.prog 130 #[.int .i64 n] w fun e w'=>e = .returned (.string (gQ n))/\Ext w w' :=
 (Tryz.strconv_Itoa n hn.1 hn.2 w ht.pow).mono fun e w' ⟨h1,k,os,h2⟩=>⟨h1,Ext.mk (h2▸Lib.below_grow _ w (Nat.le_refl _) k os)⟩
def aV (s:ByteArray):Int:=(Lib.atoi s.data.toList).getD 0
theorem K9 (s:ByteArray)(w:World)(h:(Lib.atoi s.data.toList).isSome=true)(hs:s.size<=18):Calls Tryz.prog 187 #[.string s] w fun e w'=>e = .returned (.tuple #[.int .i64 (aV s),.nilIface])/\Ext w w':=by
 obtain ⟨n,hn⟩:=Option.isSome_iff_exists.1 h
 refine (Tryz.strconv_Atoi s n hs hn w).mono fun e w' ⟨h1,t,h2⟩=>⟨?_,Ext.mk (h2▸Joins.below_bytesWorld _ w _ t (Nat.le_refl _))⟩
 rw [h1];unfold aV;rw [hn];rfl
theorem La (s:ByteArray)(w:World)(own:List Nat)(H:Wd w (blks []++own) ([]++[ag.held w own]) [ew] w)(h:¬ (Lib.atoi s.data.toList).isSome=true)(hs:s.size<=18) :
 Calls Tryz.prog 187 #[.string s] w fun e w' => ∃z:Value,e = .returned (.tuple #[.int .i64 0,.iface 279 (z)])/\Wd w (blks []++own) ([]++[ag.held w own]) [] w':=by
 have ht:DU w:=H.okF ew (List.Mem.head _)
 obtain ⟨tp,p,he⟩:=ht.err
 have hn:Lib.atoi s.data.toList=none:=by cases hq:Lib.atoi s.data.toList with|none=>rfl|some n=>rw [hq] at h;exact absurd rfl h
 refine (Tryz.strconv_Atoi_err_var s hs hn tp p w he).mono fun e w' ⟨N,h1,h2,h3,h4⟩=>⟨_,h1,?_⟩
 have hw:=H.grow (Ext.mk h4).upd
 exact ⟨hw.upd,hw.okB,(fun r hr=>by cases hr),hw.sep,hw.own,(fun k hk=>by cases hk)⟩
theorem Lb {s:ByteArray}(hs:s.size<=18) : -9223372036854775808<=aV s/\aV s<=9223372036854775807:=by
 unfold aV
 cases h:Lib.atoi s.data.toList with
 | none=>exact ⟨by decide,by decide⟩
 | some n =>
  have:=Lib.atoi_bound h (by rw [Array.length_toList];exact hs)
  show -9223372036854775808<=n/\n<=9223372036854775807
  omega
theorem yc {n:Int}(h : -9223372036854775808<=n/\n<=9223372036854775807):(gQ n).size<=21:=by
 show (⟨(Lib.itoa n).toArray⟩:ByteArray).size<=21
 rw [size_mk];exact Lib.itoa_length_le n h.1 h.2
theorem Lc (n:Int):0<(gQ n).size:=by
 show 0<(⟨(Lib.itoa n).toArray⟩:ByteArray).size
 rw [size_mk];unfold Lib.itoa
 split
 .simp
 .rw [Lib.decDigits_length];exact Lib.nDigits_pos _
theorem GJ (k:Nat):(⟨(Lib.repeatL [48] k).toArray⟩:ByteArray).size=k:=by rw [size_mk,Lib.repeatL_length];simp
theorem Ld {n:Int}(h : -9223372036854775808<=n/\n<=9223372036854775807):(bN n).size<=25:=by
 unfold bN;rw [ByteArray.size_append,GJ];have:=yc h;omega
end
section
open Go Go.RowKit
def Qw (md:Region.Mode)(o:Oper)(ls:Array Bool):Bool:=o.after.all fun e => !Region.binds md e||ls.getD e.on false
def oP (md:Region.Mode)(ops:Array Oper)(ls:Array Bool):Bool:=(List.range ops.size).all fun j => !(ls.getD j false)||((ops[j]?).map (Qw md · ls)).getD true
def DV (md:Region.Mode)(ops:Array Oper):Nat->Nat->Nat->Bool
  | 0,_,_=>false
  | f+1,j,i=>((ops[j]?).map fun o=>o.after.any fun e=>Region.binds md e&&(e.on==i||DV md ops f e.on i)).getD false
section
variable {P:Program} {ops:Array Oper} {Q:Exit->Act->World->Prop} {md:Region.Mode} {S:World->Prop} {T:Nat->Bool}
theorem ui {ls:Array Bool}(h:oP md ops ls=true){j:Nat}{o:Oper}(ho:ops[j]? = some o)(hj:ls.getD j false=true):Qw md o ls=true:=by
 have hlt:j<ops.size:=(Array.getElem?_eq_some_iff.1 ho).1
 have:=List.all_eq_true.1 h j (List.mem_range.2 hlt)
 rw [hj,ho] at this
 simpa using this
theorem oQ {ls:Array Bool}(hc:oP md ops ls=true):∀ (f j i:Nat) (o:Oper),ops[j]? = some o->Qw md o ls=true->DV md ops f j i=true->ls.getD i false=true
 | 0,j,i,o,_,_,h=>by cases h
 | f+1,j,i,o,ho,hu,h=>by
  unfold DV at h
  rw [ho] at h
  simp only [Option.map_some,Option.getD_some,Array.any_eq_true'] at h
  obtain ⟨e,he,h⟩:=h
  simp only [Bool.and_eq_true,Bool.or_eq_true,beq_iff_eq] at h
  have hl:ls.getD e.on false=true:=by
   have:=Array.all_eq_true'.1 hu e he
   simpa [h.1] using this
  rcases h.2 with h2|h2
  .rw [<- h2];exact hl
  .
   cases ho2:ops[e.on]? with
   | none=>cases f with
    | zero=>cases h2
    | succ f=>unfold DV at h2;rw [ho2] at h2;cases h2
   | some o2=>exact oQ hc f e.on i o2 ho2 (ui hc ho2 hl) h2
theorem GK {o:Oper}{ls:Array Bool}{j:Nat}(h:Qw md o ls=true):Qw md o (ls.setIfInBounds j true)=true:=by
 refine Array.all_eq_true'.2 fun e he=>?_
 have:=Array.all_eq_true'.1 h e he
 simp only [Bool.or_eq_true,Bool.not_eq_true'] at this ⊢
 rcases this with h1|h1
 .exact .inl h1
 .exact .inr (getD_set_true h1)
theorem Fv {ls:Array Bool}(h:oP md ops ls=true){j:Nat}{o:Oper}(ho:ops[j]? = some o)(hu:Qw md o ls=true):oP md ops (ls.setIfInBounds j true)=true:=by
 refine List.all_eq_true.2 fun k hk=>?_
 have hlt:=List.mem_range.1 hk
 cases hl:(ls.setIfInBounds j true).getD k false with
 | false=>rfl
 | true =>
  have hok:ops[k]? = some ops[k]:=Array.getElem?_eq_getElem hlt
  rw [hok]
  simp only [Bool.not_true,Bool.false_or,Option.map_some,Option.getD_some]
  by_cases hj:j=k
  .subst hj;rw [ho] at hok;injection hok with hok;rw [<- hok];exact GK hu
  .
   have:ls.getD k false=true:=by
    rw [<- hl];simp [Array.getD_eq_getD_getElem?,Array.getElem?_setIfInBounds_ne hj]
   exact GK (ui h hok this)
def noT (T:Nat->Bool)(ls:Array Bool):Prop:= ∀j,T j=true->ls.getD j false=false
def np (P:Program)(md:Region.Mode)(ops:Array Oper)(Q:Exit->Act->World->Prop)(S:World->Prop)(T:Nat->Bool):Nat->Array Bool->Act->World->Prop
  | 0,ls,a,w=>Region.ready md ops ls=[]/\Q .normal a w
  | fuel+1,ls,a,w =>
    (Region.ready md ops ls=[]->Q .normal a w) /\
    ∀i∈Region.ready md ops ls,wpOp P ops Q i (fun a' w'=>(noT T (ls.setIfInBounds i true)->S w')/\np P md ops Q S T fuel (ls.setIfInBounds i true) a' w') a w
theorem yd:∀ (fuel:Nat) (ls:Array Bool) (a:Act) (w:World),np P md ops Q S T fuel ls a w->wpAny P md ops Q fuel ls a w
 | 0,_,_,_,h=>h
 | fuel+1,_,_,_,h=>⟨h.1,fun i hi=>wpOp_mono (fun a' w' h'=>yd fuel _ a' w' h'.2) (h.2 i hi)⟩
theorem DW {ls:Array Bool}{j:Nat}(h:j∈Region.ready md ops ls):∃o,ops[j]? = some o/\Qw md o ls=true:=by
 unfold Region.ready at h
 obtain ⟨h1,h2⟩:=List.mem_filter.1 h
 simp only [Bool.and_eq_true] at h2
 cases ho:ops[j]? with
 | none=>rw [ho] at h2;simp at h2
 | some o =>
  rw [ho] at h2
  have h3:=h2.2
  rw [Option.map_some,Option.getD_some] at h3
  exact ⟨o,rfl,h3⟩
theorem BO {N i:Nat}{oi:Oper}{v:Value}(hi:ops[i]? = some oi)(hsel:∀ (j:Nat) (o:Oper) cs b,ops[j]? = some o->o.op ≠ .select cs b)
 (hQ:∀c a w,Q (.panic c) (a.put oi.dst v) w->Q (.panic c) a w) (hT:∀j,T j=true->DV md ops N j i=true) :
 ∀ (fuel:Nat) (listed:Array Bool) (a:Act) (w:World),oP md ops listed=true ->
  (∀j oj,ops[j]? = some oj->j≠i->listed.getD j true=false->(∀e∈oj.after,Region.binds md e=true->e.on≠i)->oi.apart ops oj=true) ->
  i∈Region.ready md ops listed->YieldsIf P ops S oi v a->S w ->
  np P md ops Q S T fuel (listed.setIfInBounds i true) (a.put oi.dst v) w->np P md ops Q S T (fuel+1) listed a w:=by
 intro fuel
 induction fuel with
 | zero =>
  intro listed a w _ _ hr hy hS H
  refine ⟨fun h=>(by rw [h] at hr;cases hr),fun j hj=>?_⟩
  by_cases hji:j=i
  .subst hji;exact hy.wpOp hi hS ⟨fun _=>hS,H⟩
  .
   have:=ready_mono hj hji
   rw [H.1] at this
   cases this
 | succ fuel ih =>
  intro listed a w hcl hfree hr hy hS H
  refine ⟨fun h=>(by rw [h] at hr;cases hr),fun j hj=>?_⟩
  by_cases hji:j=i
  .subst hji;exact hy.wpOp hi hS ⟨fun _=>hS,H⟩
  .
   have h1:=H.2 j (ready_mono hj hji)
   obtain ⟨hjun,oj,hoj,hall⟩:=mem_ready.1 hj
   have hun:=(mem_ready.1 hr).1
   have hnl:listed.getD i false=false:=by
    rcases Nat.lt_or_ge i listed.size with h'|h'
    .simpa [Array.getD,h'] using hun
    .simp [Array.getD,Nat.not_lt.2 h']
   obtain ⟨V8,S9,Vb⟩:=DW hj
   have V9:¬ T j=true:=fun h=>by
    have:=oQ hcl N j i V8 S9 Vb (hT j h)
    rw [hnl] at this;cases this
   obtain ⟨Wa,UB,UV⟩:=DW hr
   have Ta:¬ T i=true:=fun h=>by
    have:=oQ hcl N i i Wa UB UV (hT i h)
    rw [hnl] at this;cases this
   have hno:noT T ((listed.setIfInBounds i true).setIfInBounds j true):=fun k hk=>by
    have hki:i≠k:=fun e=>Ta (e▸hk)
    have hkj:j≠k:=fun e=>V9 (e▸hk)
    rw [Array.getD_eq_getD_getElem?,Array.getElem?_setIfInBounds_ne hkj,Array.getElem?_setIfInBounds_ne hki,<- Array.getD_eq_getD_getElem?]
    cases hl:listed.getD k false with
    | false=>rfl
    | true =>
     exfalso
     cases hok:ops[k]? with
     | none=>have:=hT k hk;cases N with
      | zero=>cases this
      | succ N=>unfold DV at this;rw [hok] at this;cases this
     | some ok =>
      have:=oQ hcl N k i ok hok (ui hcl hok hl) (hT k hk)
      rw [hnl] at this;cases this
   have hnot:∀e∈oj.after,Region.binds md e=true->e.on≠i:=fun e he hb heq=>by
    have h1:=hall e he hb
    rw [heq] at h1
    rcases Nat.lt_or_ge i listed.size with h'|h'
    .simp [h'] at hun h1;rw [hun] at h1;cases h1
    .simp [Array.getElem?_eq_none h'] at h1
   have h2:=wpOp_putIf hoj (hfree j oj hoj hji hjun hnot) (fun cs b=>hsel i oi cs b hi) (fun cs b=>hsel j oj cs b hoj) hQ hy h1
   have hfree':∀k ok,ops[k]? = some ok->k≠i->(listed.setIfInBounds j true).getD k true=false ->
    (∀e∈ok.after,Region.binds md e=true->e.on≠i)->oi.apart ops ok=true:=fun k ok hk hki hun hno=>by
    refine hfree k ok hk hki ?_ hno
    by_cases hjk:j=k
    .subst hjk;exact hjun
    .rw [getD_set_ne true hjk] at hun;exact hun
   have UC:=Fv hcl S9 Vb
   refine wpOp_mono (fun a' w' h3=>⟨fun _=>h3.2.1 hno,ih (listed.setIfInBounds j true) a' w' UC hfree' (ready_mono hr (Ne.symm hji)) h3.1 (h3.2.1 hno) ?_⟩) h2
   rw [Array.setIfInBounds_comm _ _ hji]
   exact h3.2.2
theorem BP {ls:Array Bool}{i:Nat}(hi:¬ T i=true):noT T (ls.setIfInBounds i true)↔noT T ls:=by
 have e:∀k,T k=true->(ls.setIfInBounds i true).getD k false=ls.getD k false:=fun k hk=>getD_set_ne false (fun e=>hi (e▸hk))
 exact ⟨fun h k hk=>(e k hk).symm.trans (h k hk),fun h k hk=>(e k hk).trans (h k hk)⟩
theorem yM {i:Nat}{oi:Oper}{v:Value}(hi:ops[i]? = some oi)(hsel:∀ (j:Nat) (o:Oper) cs b,ops[j]? = some o->o.op ≠ .select cs b)
 (hQ:∀c a w,Q (.panic c) (a.put oi.dst v) w->Q (.panic c) a w) (Ta:¬ T i=true) :
 ∀ (fuel:Nat) (listed:Array Bool) (a:Act) (w:World),
  (∀j oj,ops[j]? = some oj->j≠i->listed.getD j true=false->(∀e∈oj.after,Region.binds md e=true->e.on≠i)->oi.apart ops oj=true) ->
  i∈Region.ready md ops listed->YieldsIf P ops (fun _=>True) oi v a->(noT T listed->S w) ->
  np P md ops Q S T fuel (listed.setIfInBounds i true) (a.put oi.dst v) w->np P md ops Q S T (fuel+1) listed a w:=by
 intro fuel
 induction fuel with
 | zero =>
  intro listed a w _ hr hy hS H
  refine ⟨fun h=>(by rw [h] at hr;cases hr),fun j hj=>?_⟩
  by_cases hji:j=i
  .subst hji;exact hy.wpOp hi trivial ⟨fun h=>hS ((BP Ta).1 h),H⟩
  .
   have:=ready_mono hj hji
   rw [H.1] at this
   cases this
 | succ fuel ih =>
  intro listed a w hfree hr hy hS H
  refine ⟨fun h=>(by rw [h] at hr;cases hr),fun j hj=>?_⟩
  by_cases hji:j=i
  .subst hji;exact hy.wpOp hi trivial ⟨fun h=>hS ((BP Ta).1 h),H⟩
  .
   have h1:=H.2 j (ready_mono hj hji)
   obtain ⟨hjun,oj,hoj,hall⟩:=mem_ready.1 hj
   have hun:=(mem_ready.1 hr).1
   have hnot:∀e∈oj.after,Region.binds md e=true->e.on≠i:=fun e he hb heq=>by
    have h1:=hall e he hb
    rw [heq] at h1
    rcases Nat.lt_or_ge i listed.size with h'|h'
    .simp [h'] at hun h1;rw [hun] at h1;cases h1
    .simp [Array.getElem?_eq_none h'] at h1
   have h2:=wpOp_putIf hoj (hfree j oj hoj hji hjun hnot) (fun cs b=>hsel i oi cs b hi) (fun cs b=>hsel j oj cs b hoj) hQ hy h1
   have hfree':∀k ok,ops[k]? = some ok->k≠i->(listed.setIfInBounds j true).getD k true=false ->
    (∀e∈ok.after,Region.binds md e=true->e.on≠i)->oi.apart ops ok=true:=fun k ok hk hki hun hno=>by
    refine hfree k ok hk hki ?_ hno
    by_cases hjk:j=k
    .subst hjk;exact hjun
    .rw [getD_set_ne true hjk] at hun;exact hun
   refine wpOp_mono (fun a' w' h3=>?_) h2
   have hS':noT T (listed.setIfInBounds j true)->S w':=fun h=>h3.2.1 (by rw [Array.setIfInBounds_comm _ _ (Ne.symm hji)];exact (BP Ta).2 h)
   refine ⟨hS',ih (listed.setIfInBounds j true) a' w' hfree' (ready_mono hr (Ne.symm hji)) h3.1 hS' ?_⟩
   rw [Array.setIfInBounds_comm _ _ hji]
   exact h3.2.2
theorem DX {N i:Nat}{oi:Oper}{v:Value}{fuel:Nat}{listed:Array Bool}{a:Act}{w:World}(hi:ops[i]? = some oi)
 (hs:Region.noSelect ops=true) (hf:Region.free md ops listed i=true) (hr:(Region.ready md ops listed).contains i=true) (hcl:oP md ops listed=true) (hT:∀j,T j=true->DV md ops N j i=true)
 (hQ:∀c a w,Q (.panic c) (a.put oi.dst v) w->Q (.panic c) a w) (hy:YieldsIf P ops S oi v a) (hS:S w)
 (h:np P md ops Q S T fuel (listed.setIfInBounds i true) (a.put oi.dst v) w):np P md ops Q S T (fuel+1) listed a w :=
 BO hi (Region.noSelect_spec hs) hQ hT fuel listed a w hcl (Region.free_spec hi hf) (by simpa using hr) hy hS h
end
section
variable {P:Program} {n:Nat} {we:World} {X:List Nat} {Q:Exit->Act->World->Prop} {k k':List It} {L:Fm} {B F:List ag} {ops rest:List Oper}
variable {dst:Option Nat} {d:Nat} {op:Op} {ty:TypeId} {pos:String} {eh:Array Edge} {g:Option (Nat×Bool)} {v:Value}
def BQ (l:List Nat)(j:Nat):Bool:=l.any (Nat.beq j)
def Kg (S:World->Prop)(T:List Nat)(P:Program)(n:Nat)(we:World)(X:List Nat)(Q:Exit->Act->World->Prop)(ops:List Oper)(fuel:Nat)(ls:Array Bool)(k:List It)(L:Fm)(B F:List ag):Prop :=
  ∀a w,Fr n L a->Wd we X B F w->np P .any ops.toArray (NoPanic (o8 P Q k)) S (BQ T) fuel ls a w
def Ko (S:World->Prop)(T:List Nat)(P:Program)(n:Nat)(we:World)(X:List Nat)(Q:Exit->Act->World->Prop)(ops:List Oper)(i:Nat)(o:Oper)(fuel:Nat)(ls:Array Bool)(k:List It)(L:Fm)(B F:List ag):Prop :=
  ops[i]? = some o -> ∀a w,Fr n L a->Wd we X B F w->wpOp P ops.toArray (NoPanic (o8 P Q k)) i (fun a' w'=>(noT (BQ T) (ls.setIfInBounds i true)->S w')/\np P .any ops.toArray (NoPanic (o8 P Q k)) S (BQ T) fuel (ls.setIfInBounds i true) a' w') a w
variable {S:World->Prop} {T:List Nat} {i j fuel:Nat} {ls ls':Array Bool} {o:Oper}
theorem R.UD {id:Nat}(S:World->Prop)(T:List Nat)(h:norm 200 k = .c (.region id ops.toArray true)::k')(hm:P.follows .mixedOrders=true)(hl:ops.length=fuel)(hr:Kg S T P n we X Q ops fuel (Array.replicate fuel false) k' L B F):Run P n we X Q k L B F:=by
 intro a w ha hw
 refine cR 200 (h ▸ ?_)
 refine wp_region_noPanic (wp_region_any hm (yd (S:=S) (T:=BQ T) _ _ _ _ ?_))
 have:=hr a _ ha (hw.grow (lR.draw w))
 simpa [hl] using this
theorem R.UE {id:Nat}{B1:List ag}(is:List Nat)(T:List Nat)(hB:cZ B is=some B1)(h:norm 200 k = .c (.region id ops.toArray true)::k')(hm:P.follows .mixedOrders=true)(hl:ops.length=fuel)(hr:Kg (Wd we X B1 F) T P n we X Q ops fuel (Array.replicate fuel false) k' L B F):Run P n we X Q k L B F :=
 R.UD (Wd we X B1 F) T h hm hl hr
theorem K.done (h:Run P n we X Q k L B F)(h0:Region.ready .any ops.toArray ls=[]:=by kernel_rfl):Kg S T P n we X Q ops fuel ls k L B F :=
 fun a w ha hw=>by
  cases fuel with
  | zero=>exact ⟨h0,NoPanic.normal (h a w ha hw)⟩
  | succ f=>exact ⟨fun _=>NoPanic.normal (h a w ha hw),by rw [h0];simp⟩
theorem Le {T:List Nat}{p:Nat->Bool}(h:T.all p=true):∀j,BQ T j=true->p j=true:=fun j hj=>by
 unfold BQ at hj
 obtain ⟨t,ht,e⟩:=List.any_eq_true.1 hj
 rw [Nat.eq_of_beq_eq_true e];exact List.all_eq_true.1 h t ht
theorem K.q (hi:ops[i]? = some ⟨some d,op,ty,pos,eh,g⟩)(hS:∀w,Wd we X B F w->S w)(hg:gd ops L g=some true)
 (hq:∀dst pos eh g a w,Fr n L a->S w->(execOp a.eval ⟨dst,op,ty,pos,eh,g⟩).run P w = .ok (.value v) w) (hd:Nat.blt d n=true) (h:Kg S T P n we X Q ops fuel (ls.setIfInBounds i true) k ((d,v)::L) B F) (hfr:(Region.noSelect ops.toArray&&Region.free .any ops.toArray ls i&&(Region.ready .any ops.toArray ls).contains i&&oP .any ops.toArray ls&&T.all (fun j=>DV .any ops.toArray 40 j i))=true:=by kernel_rfl):Kg S T P n we X Q ops (fuel+1) ls k L B F:=by
 intro a w ha hw
 simp only [Bool.and_eq_true] at hfr
 obtain ⟨⟨⟨⟨h1,h2⟩,h3⟩,h4⟩,h5⟩:=hfr
 exact DX (N:=40) (by simpa using hi) h1 h2 h3 h4 (Le h5) (fun _ _ _ h=>h) (.inl ⟨dV (o:=⟨some d,op,ty,pos,eh,g⟩) ha hg,fun w hw=>hq _ _ _ _ a w ha hw⟩) (hS w hw) (h _ w (ha.put d v hd) hw)
theorem K.p (hi:ops[i]? = some ⟨some d,op,ty,pos,eh,g⟩)(hS:T.any (fun t=>ls.getD t false)=true ∨ ∀w,Wd we X B F w->S w)(hg:gd ops L g=some true)
 (hq:∀w,Qt P n w [] L [] [] op ty v) (hd:Nat.blt d n=true) (h:Kg S T P n we X Q ops fuel (ls.setIfInBounds i true) k ((d,v)::L) B F) (hfr:(Region.noSelect ops.toArray&&Region.free .any ops.toArray ls i&&(Region.ready .any ops.toArray ls).contains i && !BQ T i)=true:=by kernel_rfl):Kg S T P n we X Q ops (fuel+1) ls k L B F:=by
 intro a w ha hw
 simp only [Bool.and_eq_true,Bool.not_eq_true'] at hfr
 obtain ⟨⟨⟨h1,h2⟩,h3⟩,h4⟩:=hfr
 have hi':ops.toArray[i]? = some ⟨some d,op,ty,pos,eh,g⟩:=by simpa using hi
 exact yM hi' (Region.noSelect_spec h1) (fun _ _ _ h=>h) (by rw [h4];simp) fuel ls a w (Region.free_spec hi' h2) (by simpa using h3)
  (.inl ⟨dV (o:=⟨some d,op,ty,pos,eh,g⟩) ha hg,fun w _=>hq w _ _ _ _ a w ha (Wd.start w [])⟩) (fun hno=>hS.elim (fun hT=>by
   obtain ⟨t,ht,e⟩:=List.any_eq_true.1 hT
   have:=hno t (List.any_eq_true.2 ⟨t,ht,Nat.beq_refl t⟩)
   rw [e] at this;cases this) fun h=>h w hw) (h _ w (ha.put d v hd) hw)
theorem K.one (hi:ops[i]? = some o)(h:Ko S T P n we X Q ops i o fuel ls k L B F)(h0:Region.ready .any ops.toArray ls=[i]:=by kernel_rfl):Kg S T P n we X Q ops (fuel+1) ls k L B F :=
 fun a w ha hw=>⟨fun h1=>(by rw [h0] at h1;cases h1),fun j hj=>by
  rw [h0] at hj;rw [List.mem_singleton.1 hj];exact h hi a w ha hw⟩
theorem K.two {o':Oper}(hi:ops[i]? = some o)(hj:ops[j]? = some o')(h:Ko S T P n we X Q ops i o fuel ls k L B F)(h':Ko S T P n we X Q ops j o' fuel ls k L B F)(h0:Region.ready .any ops.toArray ls=[i,j]:=by kernel_rfl):Kg S T P n we X Q ops (fuel+1) ls k L B F :=
 fun a w ha hw=>⟨fun h1=>(by rw [h0] at h1;cases h1),fun m hm=>by
  rw [h0] at hm
  rcases List.mem_cons.1 hm with rfl|hm
  .exact h hi a w ha hw
  .rw [List.mem_singleton.1 hm];exact h' hj a w ha hw⟩
theorem Ko.s {β:Type}{L':β->Fm}{B' F':β->List ag}(hs:Stp P n we X L B F o L' B' F')(hS:BQ T i=true∨(∀z w,Wd we X (B' z) (F' z) w->S w))(hT:BQ T i=true->Nat.blt i ls.size=true)(hg:gd ops L o.guard=some true)
 (h:∀z,Kg S T P n we X Q ops fuel (ls.setIfInBounds i true) k (L' z) (B' z) (F' z)):Ko S T P n we X Q ops i o fuel ls k L B F:=by
 intro hi a w ha hw
 unfold wpOp
 have:ops.toArray[i]? = some o:=by simpa using hi
 rw [this]
 simp only []
 rw [if_pos (dV (o:=o) ha hg)]
 refine .inl (hs _ _ a w ha hw fun z a w ha hw=>⟨fun hno=>?_,h z a w ha hw⟩)
 rcases hS with hS|hS
 .
  have h1:=hno i hS
  have h2:i<ls.size:=Nat.blt_eq.mp (hT hS) |> fun h=>h
  simp [Array.getD,h2] at h1
 .exact hS z w hw
end
end
end Go.Proofs.YtkbhcbipadkcaaaGreatDoor
