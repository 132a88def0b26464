import Derived.Test.YtnmpibjlnninjaaGreatDoorCT25
import Derived.Laws.Bits64
import Derived.Laws.BitsLemmas
namespace Go.Proofs.YtnmpibjlnninjaaGreatDoor
set_option linter.unusedVariables false
set_option linter.unusedSimpArgs false
set_option maxRecDepth 100000
set_option maxHeartbeats 90000000
section
open Go Go.RowKit
def UL (r:Nat):List UInt8:=match r with|0=>[45] | 1=>[108] | 2=>[97] | 3=>[108,97] | 4=>[103] | 5=>[108,103] | 6=>[97,103] | _=>[108,97,103]
def iP (r:Nat):ByteArray:=⟨(UL r).toArray⟩
def rH (s:ByteArray):Int:=match (List.range 8).find? (fun r=>decide (iP r=s)) with|some r=>r|none => -1
def Nc (s:ByteArray):Int:=if rH s<0 then 0 else rH s
def Q7 (s:ByteArray):Int:=if rH s<0 then 4 else 0
def dd (k s:ByteArray)(p t:Place)(a b:Int):jy:=⟨k,s,p,t,a,b,0,0,none,0,0,[]⟩
abbrev Xe:Place:=⟨0,0⟩
def uj (p:Place)(k:Int):jy:=dd ⟨#[109,97,107,101]⟩ ⟨#[]⟩ p Xe k 0
def yp (p t:Place)(a b:Int):jy:=dd ⟨#[103,105,118,101]⟩ ⟨#[]⟩ p t a b
def BM (p:Place)(a:Int):jy:=dd ⟨#[109,111,118,101]⟩ ⟨#[]⟩ p Xe a 0
def BN (p:Place):jy:=dd ⟨#[100,114,111,112]⟩ ⟨#[]⟩ p Xe 0 0
def Ii (p:Place):jy:=dd ⟨#[114,101,118,111,107,101]⟩ ⟨#[]⟩ p Xe 0 0
def uW (p:Place)(s:ByteArray):jy:=dd ⟨#[119,114,105,116,101]⟩ s p Xe 0 0
def rz (p:Place)(s:ByteArray)(a b:Int):jy:=dd ⟨#[115,101,110,100]⟩ s p Xe a b
def gM (p:Place):jy:=dd ⟨#[116,97,107,101]⟩ ⟨#[]⟩ p Xe 0 0
section
variable (r:aB) (p t:Place) (s:ByteArray) (a b:Int)
theorem Tf:dU r (uj p a)=cG r p a:=rfl
theorem Tg:dU r (yp p t a b)=dt r p t a b:=rfl
theorem Ti:dU r (BM p a)=gC r p a:=rfl
theorem Tj:dU r (BN p)=iK r p:=rfl
theorem Xf:dU r (Ii p)=dI r p:=rfl
theorem Qq:dU r (uW p s)=eh r p s:=rfl
theorem K4:dU r (rz p s a b)=cm r p s a b:=rfl
theorem K5:dU r (gM p)=((bG r p).1,(bG r p).2.2.2):=rfl
end
inductive Cm
  | act (a:jy)|read (p:Place)|take (p:Place)|look (p:Place)|all|save|again (z:Int)|bad
def okC:Cm->Bool | .bad=>false|_=>true
def mY (w:ByteArray)(p:Place):Cm :=
  if w=⟨#[99,101,108,108]⟩ then .act (uj p 1)
  else if w=⟨#[112,111,114,116]⟩ then .act (uj p 2)
  else if w=⟨#[100,114,111,112]⟩ then .act (BN p)
  else if w=⟨#[114,101,118,111,107,101]⟩ then .act (Ii p)
  else if w=⟨#[114,101,97,100]⟩ then .read p
  else if w=⟨#[116,97,107,101]⟩ then .take p
  else if w=⟨#[115,104,111,119]⟩ then .look p
  else .bad
def sP (s:ByteArray):ByteArray:=if s=⟨#[45]⟩ then ⟨#[]⟩ else s
def qc (s:ByteArray):ByteArray:=if s=⟨#[]⟩ then ⟨#[45]⟩ else s
def JH (w:List ByteArray):Place:=⟨bu (wd w 1),bu (wd w 2)⟩
def dL (w:List ByteArray):Cm :=
  if fP ((w.drop 1).take 2)=true then
    if wd w 3=⟨#[]⟩ then .bad
    else if wd w 0=⟨#[119,114,105,116,101]⟩ then (if w.length=4 then .act (uW (JH w) (sP (wd w 3))) else .bad)
    else if wd w 0=⟨#[115,101,110,100]⟩ then
      if w.length=4 then .act (rz (JH w) (sP (wd w 3)) (-1) 0)
      else if w.length=6 then
        (if fP [wd w 4]=true then (if Q7 (wd w 5)=0 then .act (rz (JH w) (sP (wd w 3)) (bu (wd w 4)) (Nc (wd w 5))) else .bad) else .bad)
      else .bad
    else .bad
  else .bad
theorem dR {w:List ByteArray}{i:Nat}{x:ByteArray}(h:w[i]? = some x):wd w i=x:=by unfold wd;rw [h];rfl
def lM (w:List ByteArray):Cm :=
  if fP [wd w 1,wd w 2,wd w 3,wd w 4,wd w 6]=true then
    (if Q7 (wd w 5)=0 then .act (yp (JH w) ⟨bu (wd w 3),bu (wd w 4)⟩ (Nc (wd w 5)) (bu (wd w 6))) else .bad)
  else .bad
def wC (w:List ByteArray):Cm :=
  if fP (w.drop 1)=true then
    if w.length=1 then (if wd w 0=⟨#[97,108,108]⟩ then .all else if wd w 0=⟨#[115,97,118,101]⟩ then .save else .bad)
    else if w.length=2 then (if wd w 0=⟨#[114,101,115,116,97,114,116]⟩ then .again (bu (wd w 1)) else .bad)
    else if w.length=3 then mY (wd w 0) (JH w)
    else if w.length=4 then (if wd w 0=⟨#[109,111,118,101]⟩ then .act (BM (JH w) (bu (wd w 3))) else .bad)
    else .bad
  else .bad
def iu (s:ByteArray):Cm :=
  if 60<s.size then .bad
  else if wd (spl s) 0=⟨#[119,114,105,116,101]⟩ then (if (spl s).length=4 then dL (spl s) else if (spl s).length=6 then dL (spl s) else .bad)
  else if wd (spl s) 0=⟨#[115,101,110,100]⟩ then (if (spl s).length=4 then dL (spl s) else if (spl s).length=6 then dL (spl s) else .bad)
  else if wd (spl s) 0=⟨#[103,105,118,101]⟩ then (if (spl s).length=7 then lM (spl s) else .bad)
  else wC (spl s)
def ke (e:Int):ByteArray:=⟨#[101,114,114,111,114,32]⟩++bS e
def oH (e:Int):ByteArray:=if e=0 then ⟨#[111,107]⟩ else ke e
def rA (r:aB)(p:Place):ByteArray :=
  if (aI r p).2=0 then bS (aI r p).1.ID++⟨#[32,111,102,32]⟩++bS (aI r p).1.aA++⟨#[32]⟩++iP (aI r p).1.Rights.toNat++⟨#[32,98,97,100,103,101,32]⟩++bS (aI r p).1.aM++⟨#[32,102,114,111,109,32]⟩++bS (aI r p).1.From++⟨#[32,98,101,110,101,97,116,104,32]⟩++bS (((gW (aI r p).1.ID r.aj).length:Nat):Int)
  else ke (aI r p).2
def DR (r:aB)(p:Place):ByteArray:=if (iz r p).2=0 then qc (iz r p).1 else ke (iz r p).2
def K6 (n:Note)(i:Int):ByteArray:=qc n.Data++⟨#[32,98,97,100,103,101,32]⟩++bS n.aM++⟨#[32,115,108,111,116,32]⟩++bS i
def yq (r:aB)(p:Place)(e:Int):ByteArray:=if e=0 then K6 (bG r p).2.1 (bG r p).2.2.1 else ke e
def allT (r:aB):ByteArray:=bS ((r.aj.length:Nat):Int)++⟨#[32]⟩++bS ((r.Things.length:Nat):Int)++⟨#[32]⟩++bS ((r.Notes.length:Nat):Int)
abbrev Z1:Type:=fI×fu×cq×Lg×ByteArray×Bool
def Z2 (q:Kst):Z1:=(q.1,q.2.1,q.2.2.1,q.2.2.2.1,oH q.2.2.2.2,true)
def DT (k:fI)(st:fu)(dk:cq)(lg:Lg)(p:Place):fI×fu×cq×Lg×ByteArray :=
  ((kb k st dk lg (dU k.R (gM p))).1,(kb k st dk lg (dU k.R (gM p))).2.1,(kb k st dk lg (dU k.R (gM p))).2.2.1,(kb k st dk lg (dU k.R (gM p))).2.2.2.1,yq k.R p (kb k st dk lg (dU k.R (gM p))).2.2.2.2)
def Z3 (q:fI×fu×cq×Lg×ByteArray):Z1:=(q.1,q.2.1,q.2.2.1,q.2.2.2.1,q.2.2.2.2,true)
noncomputable def Xg (dk:cq):Z1:=(⟨(bY (bf dk).c.Rows).1⟩,(bf dk).c,dk,(bf dk).L,⟨#[111,107]⟩,true)
noncomputable def gG (k:fI)(st:fu)(dk:cq)(lg:Lg):Cm->Z1
  | .act a=>Z2 (kb k st dk lg (dU k.R a))
  | .read p=>(k,st,dk,lg,DR k.R p,true)
  | .take p=>Z3 (DT k st dk lg p)
  | .look p=>(k,st,dk,lg,rA k.R p,true)
  | .all=>(k,st,dk,lg,allT k.R,true)
  | .save=>(k,(cC (mkS st lg) dk).1.c,(cC (mkS st lg) dk).2.1,(cC (mkS st lg) dk).1.L,oH (cC (mkS st lg) dk).2.2,true)
  | .again z=>Xg (eo dk z)
  | .bad=>(k,st,dk,lg,⟨#[]⟩,false)
def Z4 (q:Z1):fI×fu×cq×Lg×ByteArray :=
  (q.1,q.2.1,q.2.2.1,q.2.2.2.1,if q.2.2.2.2.2=true then q.2.2.2.2.1 else ke 4)
noncomputable def jo (k:fI)(st:fu)(dk:cq)(lg:Lg)(s:ByteArray):fI×fu×cq×Lg×ByteArray:=Z4 (gG k st dk lg (iu s))
def eS (m:j3)(ms:iO):Cm->j3×iO×ByteArray
  | .act a=>((fB m ms (dU m.R a)).1,(fB m ms (dU m.R a)).2.1,oH (fB m ms (dU m.R a)).2.2)
  | .read p=>(m,ms,DR m.R p)
  | .take p=>((fB m ms (dU m.R (gM p))).1,(fB m ms (dU m.R (gM p))).2.1,yq m.R p (fB m ms (dU m.R (gM p))).2.2)
  | .look p=>(m,ms,rA m.R p)
  | .all=>(m,ms,allT m.R)
  | .save=>(m,⟨ms.Rows,0,ms.Many⟩,⟨#[111,107]⟩)
  | .again z=>(⟨aN m.R⟩,ms,⟨#[111,107]⟩)
  | .bad=>(m,ms,ke 4)
def tW (r:aB):Cm->aB×ByteArray
  | .act a=>(rq r a,oH (dU r a).2)
  | .read p=>(r,DR r p)
  | .take p=>(rq r (gM p),yq r p (dU r (gM p)).2)
  | .look p=>(r,rA r p)
  | .all=>(r,allT r)
  | .save=>(r,⟨#[111,107]⟩)
  | .again z=>(aN r,⟨#[111,107]⟩)
  | .bad=>(r,ke 4)
structure CI (j:Nat)(k:fI)(st:fu)(dk:cq)(lg:Lg):Prop where
  fz:dk.Fuse = -1
  kp:∃u,KI dk st lg k.R u (j+1)
  sz:Sz j k.R
structure CM (j:Nat)(m:j3)(ms:iO)(r:aB):Prop where
  is:m.R=r
  kp:∃ (k:fI) (st:fu) (dk:cq) (lg:Lg) (u:Nat),k.R=r/\dk.Fuse = -1/\KI dk st lg r u (j+1)/\KM st u ms
  sz:Sz j r
end
section
open Go Go.RowKit
theorem Ij (r:Int)(w:World)(h:0<=r/\r<=7):Calls Tryz.prog 221 #[.int .i64 r] w fun e w'=>e = .returned (.string (iP r.toNat))/\w=w':=by
 have h:r=0∨r=1∨r=2∨r=3∨r=4∨r=5∨r=6∨r=7:=ae
 rcases h with rfl|rfl|rfl|rfl|rfl|rfl|rfl|rfl
 all_goals
  go_enter Tryz.func221,Tryz.ntmps221
  go_wp2
  refine wp_loop_rounds 4 ?_
  iterate 4 (rw [rounds_succ];go_wp2)
  all_goals (go_ret;refine ⟨?_,rfl⟩)
  all_goals first|rfl|(exact congrArg (fun s=>Ending.returned (.string s)) aC)|(exfalso;rename_i h;exact absurd h (by decide +kernel))
theorem BO (r:Int)(w:World)(h:0<=r/\r<=7):Calls Tryz.prog 118 #[.int .i64 r] w fun e w'=>e = .returned (.string (iP r.toNat))/\w=w':=by
 have h:r=0∨r=1∨r=2∨r=3∨r=4∨r=5∨r=6∨r=7:=ae
 rcases h with rfl|rfl|rfl|rfl|rfl|rfl|rfl|rfl
 all_goals
  go_enter Tryz.func118,Tryz.ntmps118
  go_wp2
  all_goals (go_ret;refine ⟨?_,rfl⟩)
  all_goals first|rfl|(exact congrArg (fun s=>Ending.returned (.string s)) aC)|(exfalso;rename_i h;exact absurd h (by decide +kernel))
theorem MV (r:Int)(w:World)(h:0<=r/\r<=7):Calls Tryz.prog 221 #[.int .i64 r] w fun e w'=>e = .returned (.string (iP r.toNat))/\Ext w w':=(Ij r w h).mono fun _ _ ⟨a,b⟩=>⟨a,b▸Ext.refl w⟩
theorem MW (r:Int)(w:World)(h:0<=r/\r<=7):Calls Tryz.prog 118 #[.int .i64 r] w fun e w'=>e = .returned (.string (iP r.toNat))/\Ext w w':=(BO r w h).mono fun _ _ ⟨a,b⟩=>⟨a,b▸Ext.refl w⟩
def mZ (s:ByteArray)(c:UInt8):Bool:=decide (0<=Lib.indexByte s.data.toList c)
def UM (a b c:Bool):Nat:=(if a then 1 else 0)+(if b then 2 else 0)+(if c then 4 else 0)
theorem K7:∀j:Fin 8,UM (mZ (iP j.val) 108) (mZ (iP j.val) 97) (mZ (iP j.val) 103)=j.val:=aC
theorem Qr (a b c:Bool):UM a b c<8:=by cases a <;> cases b <;> cases c <;> decide
theorem Qs (s:ByteArray):rH s=if iP (UM (mZ s 108) (mZ s 97) (mZ s 103))=s then ((UM (mZ s 108) (mZ s 97) (mZ s 103):Nat):Int) else -1:=by
 have hu:∀j,j<8->iP j=s->j=UM (mZ s 108) (mZ s 97) (mZ s 103):=fun j hj e=>by rw [<- e];exact (K7 ⟨j,hj⟩).symm
 have hl:=Qr (mZ s 108) (mZ s 97) (mZ s 103)
 generalize UM (mZ s 108) (mZ s 97) (mZ s 103)=k at hu hl ⊢
 unfold rH
 split
 .
  rename_i h
  have h1:=List.find?_some h
  have h2:=List.mem_range.1 (List.mem_of_find?_eq_some h)
  have h3:=hu _ h2 (by simpa using h1)
  subst h3
  rw [if_pos (by simpa using h1)]
 rename_i h
 rw [List.find?_eq_none] at h
 rw [if_neg]
 have:=h k (List.mem_range.2 hl)
 simpa using this
theorem sQ (s sub:ByteArray)(c:UInt8)(w:World)(h:sub=⟨#[c]⟩) :
 Calls Tryz.prog 220 #[.string s,.string sub] w fun e w'=>e = .returned (.bool (mZ s c))/\w=w':=by
 subst h
 exact (Tryz.strings_Contains_one s c w).mono fun e w' ⟨h1,h2⟩=>⟨h1,h2.symm⟩
theorem Tk (k:Nat)(r:Int)(hr:r=(k:Int))(hk:k<8)(w:World):Calls Tryz.prog 221 #[.int .i64 r] w fun e w'=>e = .returned (.string (iP k))/\w=w':=by
 subst hr;exact Ij _ w ae
theorem Qu (s:ByteArray)(w:World):Calls Tryz.prog 178 #[.string s] w fun e w'=>e = .returned (.tuple #[.int .i64 (Nc s),bQ (Q7 s)])/\w=w':=by
 have hr:=Qs s
 obtain ⟨b0,H0⟩:∃b,mZ s 108=b:=⟨_,rfl⟩
 obtain ⟨b1,H1⟩:∃b,mZ s 97=b:=⟨_,rfl⟩
 obtain ⟨b2,H2⟩:∃b,mZ s 103=b:=⟨_,rfl⟩
 rw [H0,H1,H2] at hr
 have hl:=Qr b0 b1 b2
 obtain ⟨K,hK⟩:∃K,UM b0 b1 b2=K:=⟨_,rfl⟩
 rw [hK] at hr hl
 have hv:Nc s=if rH s<0 then 0 else rH s:=rfl
 have he:Q7 s=if rH s<0 then 4 else 0:=rfl
 have H0:=Lib.hid H0
 have H1:=Lib.hid H1
 have H2:=Lib.hid H2
 by_cases hq:iP K=s
 all_goals
  first|rw [if_pos hq] at hr|rw [if_neg hq] at hr
  rw [hr] at hv he
  first|rw [if_neg ae] at hv he|rw [if_pos ae] at hv he
  rw [hv,he]
  clear hv he hr
  have hw:((iP K).toList==s.toList)=decide (iP K=s):=by first|(rw [hq];simp)|(rw [decide_eq_false hq,beq_eq_false_iff_ne];intro e;rw [ByteArray.toList_eq,ByteArray.toList_eq] at e;exact hq (fY e))
  first|rw [decide_eq_true hq] at hw|rw [decide_eq_false hq] at hw
  clear hq
  cases b0 <;> cases b1 <;> cases b2
 all_goals
  go_enter Tryz.func178,Tryz.ntmps178
  go_wp2
  refine wp_loop_rounds 4 ?_
  iterate 4 (rw [rounds_succ];go_wp2_with (first|(go_at_call 220;refine (sQ s _ 108 _ (by decide +kernel)).mono ?_;rintro e w' ⟨rfl,rfl⟩;rw [H0.out])|(go_at_call 220;refine (sQ s _ 97 _ (by decide +kernel)).mono ?_;rintro e w' ⟨rfl,rfl⟩;rw [H1.out])|(go_at_call 220;refine (sQ s _ 103 _ (by decide +kernel)).mono ?_;rintro e w' ⟨rfl,rfl⟩;rw [H2.out])|(go_at_call 221;refine (Tk K _ (by rw [<- hK];decide +kernel) hl _).mono ?_;rintro e w' ⟨rfl,rfl⟩)))
  go_ret2
  exact ⟨by first|rfl|(rw [<- hK];rfl),rfl⟩
theorem qU (s:ByteArray)(w:World):Calls Tryz.prog 178 #[.string s] w fun e w'=>e = .returned (.tuple #[.int .i64 (Nc s),bQ (Q7 s)])/\Ext w w':=(Qu s w).mono fun _ _ ⟨a,b⟩=>⟨a,b▸Ext.refl w⟩
theorem Xh {s:ByteArray}{k:Nat}(hk:k<8)(h:iP k=s):rH s=k:=by
 have e:UM (mZ s 108) (mZ s 97) (mZ s 103)=k:=by rw [<- h];exact K7 ⟨k,hk⟩
 rw [Qs,e,if_pos h]
theorem Tl {s:ByteArray}(h:∀j,j<8->¬ iP j=s):rH s = -1:=by
 rw [Qs,if_neg (h _ (Qr _ _ _))]
theorem y9 (s:ByteArray)(w:World):Calls Tryz.prog 115 #[.string s] w fun e w'=>e = .returned (.int .i64 (rH s))/\Ext w w':=by
 suffices h:Calls Tryz.prog 115 #[.string s] w fun e w'=>e = .returned (.int .i64 (rH s))/\w=w' from h.mono fun _ _ ⟨a,b⟩=>⟨a,b▸Ext.refl w⟩
 go_enter Tryz.func115,Tryz.ntmps115
 go_wp2
 go_loop [3] (fun i => ∃k:Nat,k<=8/\i = .int .i64 k/\Hid (∀j,j<k->¬ iP j=s)) (fun i=>8-(intOf i).toNat)
 case atStart=>exact ⟨0,aC,rfl,fun j hj=>absurd hj (Nat.not_lt_zero _)⟩
 case round =>
  obtain ⟨k,hk,rfl,HA⟩:=hrel
  by_cases hlt:k<8
  .
   by_cases hq:iP k=s
   .
    have hb:((iP k).toList==s.toList)=true:=by rw [hq];simp
    have HQ:=Lib.hid hq;clear hq
    go_wp2_with (go_at_call 118;refine (BO _ _ ae).mono ?_;rintro e w' ⟨rfl,rfl⟩;rw [Int.toNat_natCast])
    go_ret
    exact ⟨congrArg (fun x=>Ending.returned (Value.int .i64 x)) (Xh hlt HQ.out).symm,rfl⟩
   have hb:((iP k).toList==s.toList)=false:=by rw [beq_eq_false_iff_ne];intro e;rw [ByteArray.toList_eq,ByteArray.toList_eq] at e;exact hq (fY e)
   have HQ:=Lib.hid hq;clear hq
   go_wp2_with (go_at_call 118;refine (BO _ _ ae).mono ?_;rintro e w' ⟨rfl,rfl⟩;rw [Int.toNat_natCast])
   go_round
   case rel =>
    refine ⟨k+1,ae,by go_num,Lib.hid fun j hj=>?_⟩
    by_cases e:j=k
    .subst e;exact HQ.out
    exact HA.out j ae
   case measure=>simp [intOf];omega
  have:k=8:=ae
  subst this
  go_wp2
  go_ret
  exact ⟨congrArg (fun x=>Ending.returned (Value.int .i64 x)) (Tl HA.out).symm,rfl⟩
end
section
open Go Go.RowKit
def uk (P:Program)(t:TypeId):Bool :=
  match P.underlying t with
  | some (.map k e)=>match P.underlying k,eJ P e with
    | some .string,some (.int .i64 0)=>true
    | _,_=>false
  | _=>false
theorem Ik {P:Program}{t:TypeId}(h:uk P t=true):∃k e,P.underlying t=some (.map k e)/\P.underlying k=some .string/\eJ P e=some (.int .i64 0):=by
 grind [uk]
def Xi:List (ByteArray×Int)->ByteArray->Option Int
  | [],_=>none
  | p::l,k=>if k=p.1 then some p.2 else Xi l k
def MpS (es:List MapEntry)(l:List (ByteArray×Int)):Prop:=es.map (fun e=>(e.key,e.val))=l.map fun p=>(Value.string p.1,Value.int .i64 p.2)
theorem xD (k:ByteArray):∀ (es:List MapEntry) (l:List (ByteArray×Int)) (i:Nat),MpS es l->(∃j v,Xi l k=some v/\Instr.findNow .string (.string k) es i=some (some (j,.int .i64 v)))∨(Xi l k=none/\Instr.findNow .string (.string k) es i=some none)
 | [],[],i,h => .inr ⟨rfl,rfl⟩
 | [],p::l,i,h=>by cases h
 | e::es,[],i,h=>by cases h
 | e::es,p::l,i,h=>by
  injection h with h1 h2
  injection h1 with h3 h4
  by_cases hk:k=p.1
  .
   refine .inl ⟨i,p.2,by simp [Xi,hk],?_⟩
   have hb:(p.1==p.1)=true:=(MapKept.bytes_beq _ _).2 rfl
   simp [Instr.findNow,Instr.sameNow,h3,hk,h4,hb]
  have hb:(k==p.1)=false:=Bool.eq_false_iff.2 fun q=>hk ((MapKept.bytes_beq _ _).1 q)
  have ih:=xD k es l (i+1) h2
  simpa [Xi,hk,Instr.findNow,Instr.sameNow,h3,hb] using ih
def ag.mps (b:Nat)(l:List (ByteArray×Int)):ag:=⟨[b],fun w => ∃es c,w.heap[b]? = some (.map es c)/\MpS es.toList l,fun w w' h=>fun ⟨es,c,h1,h2⟩=>⟨es,c,(h b (by simp)).trans h1,h2⟩⟩
section
variable {P:Program} {n:Nat} {we:World} {X:List Nat} {L:Fm} {B F:List ag}
variable {dst:Option Nat} {d:Nat} {ty:TypeId} {pos:String} {dV:Array Edge} {g:Option (Nat×Bool)} {v:Value}
variable {x y m:Operand} {t:TypeId} {b:Nat} {l:List (ByteArray×Int)} {s:ByteArray} {z:Int}
theorem Il (em:Bool){kt:TypeId}(w:World)(h:P.underlying kt=some .string):(Instr.checkKey em 10000 kt (.string s)).run P w = .ok () w:=MapKept.run_checkKey h (by simp [MapKept.IsKey]) em 9999
theorem q.Om (i:Nat)(hB:B[i]? = some (ag.mps b l))(hm:ev L m=some (.map (some b)))(hy:ev L y=some (.string s))(ht:uk P t=true)(hr:Xi l s=some z):Qt P n we X L B F (.lookup t m y false) ty (.int .i64 z):=fun _ _ _ _ a w ha hw=>by
 obtain ⟨es,c,h1,h2⟩:=hw.b i hB
 obtain ⟨kt,e,hu,hk,hz⟩:=Ik ht
 simp only [execOp,ha.ev hm,ha.ev hy,Instr.lookup,Sem.run_bind,run_underlying hu,Result.andThen_ok,MapKept.run_getObj_map h1,Sem.run_pure,Il _ w hk,Instr.findKey,run_underlying hk]
 rcases xD s es.toList l 0 h2 with ⟨j,v,h3,hf⟩ | ⟨h3,hf⟩
 .
  rw [hr] at h3;injection h3 with h3;subst h3
  simp [hf]
 rw [hr] at h3;cases h3
theorem s.mkS (hd:Nat.blt d n=true):Stp P n we X L B F ⟨some d,.makeMap t none,ty,pos,dV,g⟩ (fun b:Nat=>(d,.map (some b))::L) (fun b=>ag.mps b []::B) (fun _=>F):=by
 intro K Q' a w ha hw hK
 unfold Oper.wp
 have hrun:(execOp a.eval ⟨some d,.makeMap t none,ty,pos,dV,g⟩).run P w = .ok (.value (.map (some w.heap.size))) (w.alloc (.map #[] 0)):=by
  rfl
 rw [hrun,Oper.upon_value]
 exact hK _ _ _ (ha.put d _ hd) (hw.alloc (r:=ag.mps w.heap.size []) ⟨#[],0,heap_alloc_new w _,rfl⟩ rfl)
theorem s.minS (i:Nat)(hB:B[i]? = some (ag.mps b l))(hm:ev L m=some (.map (some b)))(hx:ev L x=some (.string s))(hy:ev L y=some (.int .i64 z))(ht:uk P t=true)(hn:Xi l s=none) :
 Stp P n we X L B F ⟨none,.insert t m x y,ty,pos,dV,g⟩ (fun _:Unit=>L) (fun _=>B.set i (ag.mps b (l++[(s,z)]))) (fun _=>F):=by
 intro K Q' a w ha hw hK
 obtain ⟨es,c,h1,h2⟩:=hw.b i hB
 obtain ⟨kt,e,hu,hk,hz⟩:=Ik ht
 have hf:Instr.findNow .string (.string s) es.toList 0=some none:=by
  rcases xD s es.toList l 0 h2 with ⟨j,v,h3,hf⟩ | ⟨h3,hf⟩
  .rw [hn] at h3;cases h3
  exact hf
 have hrun:(execOp a.eval ⟨none,.insert t m x y,ty,pos,dV,g⟩).run P w = .ok .skip { w with heap:=w.heap.setIfInBounds b (.map (es.push { key:= .string s,val:= .int .i64 z,born:=c}) (c+1))}:=by
  simp [execOp,ha.ev hm,ha.ev hx,ha.ev hy,Instr.mapUpdate,run_underlying hu,MapKept.run_getObj_map h1,Il _ w hk,Instr.findKey,run_underlying hk,hf,MapKept.run_setObj_map _ h1]
 unfold Oper.wp
 rw [hrun,Oper.upon_skip]
 refine hK () _ _ af (hw.turn hB (zk w b _) ⟨_,_,(MapKept.heap_set h1).1,?_⟩ (by simp [ag.mps]) (fun k hk=>?_))
 .
  unfold MpS at h2 ⊢
  simp [h2]
 grind [ag.mps,Nat.lt_of_lt_of_le,bK,List.mem_of_getElem?]
end
end
section
open Go Go.RowKit
section
variable {we w:World} {X:List Nat} {B F l m Br:List ag}
theorem DU:∀ {is js:List Nat} {l m:List ag},bW B is=some l->bW B js=some m->bW B (is++js)=some (l++m)
 | [],js,l,m,h,k=>by injection h with h;subst h;exact k
 | i::is,js,l,m,h,k=>by
  obtain ⟨r,B'',h1,h2,rfl⟩:=ux h
  have:=DU h2 k
  simp only [List.cons_append,bW,h1,this]
theorem Wd.Q8 (hw:Wd we X B F w)(is js:List Nat)(h:bW B is=some l)(k:bW B js=some Br)(ha:eP (is++js)=true):Wd we X (ag.all l::Br) F w :=
 (hw.Lm _ (DU h k) ha).gather
theorem Wd.Q9 (hw:Wd we X B F w)(js:List Nat)(h:bW F js=some m):Wd we X B (ag.all m::F) w :=
 ⟨hw.upd,hw.okB,fun r hr=>(List.mem_cons.1 hr).elim (fun e=>e▸fun q hq=>hw.okF q (nu h q hq)) (hw.okF r),hw.sep,hw.own,
  fun k hk=>hw.nq k (by exact (List.mem_append.1 hk).elim (fun q=>zn h k q) id)⟩
theorem Wd.Z5 (hw:Wd we X B F w)(i:Nat)(js:List Nat)(h:B[i]? = some (ag.all l))(hj:bW B js=some Br)(ha:eP (i::js)=true):Wd we X (l++Br) F w :=
 (hw.Lm (i::js) (by simp only [bW,h,hj]) ha).D5
end
def Clo (g:FuncId)(c:List Value)(X U Y:ag)(a:jy)(r:aB):Prop:= ∀ (v1 v2 v3 v4:Value) (w:World) (own:List Nat)
  (H:HN w own [X] [ag.ls v1 r.aj,ag.ls v2 r.Things,ag.ls v3 r.Held,ag.ls v4 r.Notes,Y]),
  RC Tryz.prog g ([Value.agg #[v1,v2,v3,v4,.int .i64 r.ah,.int .i64 r.ai]]++c).toArray H
    (fun z:Value×Value×Value×Value => .tuple #[.agg #[z.1,z.2.1,z.2.2.1,z.2.2.2,.int .i64 (dU r a).1.ah,.int .i64 (dU r a).1.ai],bQ (dU r a).2]) (fun _=>[U])
    (fun z=>[ag.ls z.1 (dU r a).1.aj,ag.ls z.2.1 (dU r a).1.Things,ag.ls z.2.2.1 (dU r a).1.Held,ag.ls z.2.2.2 (dU r a).1.Notes])
theorem pB {g:FuncId}{c:List Value}{B0 B1 F0:List ag}{a:jy}{r:aB}
 (h:∀ (v1 v2 v3 v4:Value) (w:World) (own:List Nat) (H:HN w own B0 (ag.ls v1 r.aj::ag.ls v2 r.Things::ag.ls v3 r.Held::ag.ls v4 r.Notes::F0)),
  RC Tryz.prog g ([Value.agg #[v1,v2,v3,v4,.int .i64 r.ah,.int .i64 r.ai]]++c).toArray H
   (fun z:Value×Value×Value×Value => .tuple #[.agg #[z.1,z.2.1,z.2.2.1,z.2.2.2,.int .i64 (dU r a).1.ah,.int .i64 (dU r a).1.ai],bQ (dU r a).2]) (fun _=>B1)
   (fun z=>[ag.ls z.1 (dU r a).1.aj,ag.ls z.2.1 (dU r a).1.Things,ag.ls z.2.2.1 (dU r a).1.Held,ag.ls z.2.2.2 (dU r a).1.Notes])) :
 Clo g c (ag.all B0) (ag.all B1) (ag.all F0) a r:=fun v1 v2 v3 v4 w own H=>by
 have h1:=Wd.D5 (Br:=[ag.held w own]) H
 have h2:HN w own B0 (ag.ls v1 r.aj::ag.ls v2 r.Things::ag.ls v3 r.Held::ag.ls v4 r.Notes::F0):=by
  obtain ⟨q1,q2,q3,q4,q5,q6⟩:=h1
  have e:blks [ag.all B0]=blks B0:=List.append_nil _
  rw [e] at q1 q5
  refine ⟨q1,q2,fun x hx=>?_,q4,q5,fun k hk=>q6 k ?_⟩
  .
   simp only [List.mem_cons] at hx
   rcases hx with rfl|rfl|rfl|rfl|hx
   .exact q3 _ bA
   .exact q3 _ bA
   .exact q3 _ bA
   .exact q3 _ bA
   exact q3 (ag.all F0) bA x hx
  have:blks [ag.all F0]=blks F0:=List.append_nil _
  simp only [blks,List.mem_append] at hk ⊢
  simp only [blks,List.append_nil] at this
  rw [this];simpa using hk
 refine (h v1 v2 v3 v4 w own h2).mono fun e w' ⟨z,hz,ht⟩=>⟨z,hz,?_⟩
 have e:blks [ag.all B0]=blks B0:=List.append_nil _
 rw [e]
 exact ht.gather
theorem Sl.sl2 {α:Type}[Enc α]{w:World}{v:Value}{l:List α}(h:Sl w v l){i j:Nat}(hi:i<=j)(hj:j<=l.length):Sl w (YtnmpibjlnninjaaGreatDoor.sl2 v i j (Enc.k α)) ((l.drop i).take (j-i)):=by
 have h2:=(h.from (i:=i) ae).to (i:=j-i) (by rw [List.length_drop];omega)
 obtain ⟨A,c,rfl,_⟩:=h
 exact h2
theorem Tm (v:Value)(i j q:Nat):eB (YtnmpibjlnninjaaGreatDoor.sl2 v i j q)=eB v:=by
 cases v <;> first|rfl|skip
 rename_i A n c
 cases A with
 | none=>simp only [YtnmpibjlnninjaaGreatDoor.sl2];split <;> rfl
 | some a=>grind [YtnmpibjlnninjaaGreatDoor.sl2,eB,Addr.add]
theorem sR {α:Type}[Enc α]{v:Value}{l:List α}{i j q c:Nat}:∀k∈(ag.ls (YtnmpibjlnninjaaGreatDoor.sl2 v i j q) ((l.drop i).take c)).blk,k∈(ag.ls v l).blk:=fun k hk=>by
 grind [ag.ls,zp,Tm]
theorem Sl.lH {α:Type}[Enc α]{w:World}{v:Value}{l:List α}(h:Sl w v l):l.length<=YtnmpibjlnninjaaGreatDoor.lH v:=by
 obtain ⟨A,c,rfl,h1,_⟩:=h
 exact h1
theorem BP:bQ 0=Value.nilIface:=rfl
end
section
open Go Go.RowKit
theorem wD (r:aB)(p:Place):(aI r p).2<=10:=by
 have:=jq p
 unfold aI;(repeat' split) <;> dsimp only <;> omega
theorem BQ (r:aB)(p:Place):ft r p<=10:=by
 have:=jq p
 unfold ft;(repeat' split) <;> omega
theorem za (r:aB)(p:Place)(k a:Int):(bO r p k a).2.2<=10:=by
 have:=wD r p
 unfold bO;(repeat' split) <;> dsimp only <;> omega
theorem K8 (r:aB)(p:Place):0<=(iz r p).2/\(iz r p).2<=10:=by
 have:=za r p 1 1;have:=gu r p 1 1
 unfold iz;(repeat' split) <;> dsimp only <;> omega
theorem UN (r:aB)(a:jy):(dU r a).2<=10:=by
 have:=wD r a.P;have:=wD r ⟨a.P.aD,a.A⟩;have:=BQ r a.P;have:=BQ r a.Q;have:=BQ r ⟨a.P.aD,a.A⟩
 have:=za r a.P 1 2;have:=za r a.P 2 2;have:=za r a.P 2 1
 have:=gq (aI r a.P).1 r.ah a.A a.B;have:=gq (aI r ⟨a.P.aD,a.A⟩).1 r.ah a.B 0
 have h1:(cG r a.P a.A).2<=10:=by unfold cG;(repeat' split) <;> dsimp only <;> omega
 have h2:(dt r a.P a.Q a.A a.B).2<=10:=by unfold dt;(repeat' split) <;> dsimp only <;> omega
 have h3:(gC r a.P a.A).2<=10:=by unfold gC;(repeat' split) <;> dsimp only <;> omega
 have h4:(iK r a.P).2<=10:=by unfold iK;(repeat' split) <;> dsimp only <;> omega
 have h5:(dI r a.P).2<=10:=by unfold dI;(repeat' split) <;> dsimp only <;> omega
 have h6:(eh r a.P a.S).2<=10:=by unfold eh;(repeat' split) <;> dsimp only <;> omega
 have h7:(cm r a.P a.S a.A a.B).2<=10:=by unfold cm;(repeat' split) <;> dsimp only <;> omega
 have h8:(bG r a.P).2.2.2<=10:=by unfold bG;(repeat' split) <;> dsimp only <;> omega
 unfold dU
 (repeat' split) <;> first|assumption|exact h8|exact (by decide:(0:Int)<=10)
section
variable {j:Nat} {k:fI} {st:fu} {dk:cq} {lg:Lg} {m:j3} {ms:iO} {r:aB} {u t:Nat}
theorem zc (h:Inv r)(a:jy){q:Kst}{m:j3}{ms:iO}{u t i:Nat}{d:cq}{sc:fu}{lg:Lg}(hK:KI d sc lg r u t)(ht:t<=9999)(hf:d.Fuse = -1)(hM:KM sc u ms)(hm:m.R=r)(hS:Sz i r) :
 (kb ⟨r⟩ sc d lg (dU r a)).2.2.2.2=(dU r a).2/\(fB m ms (dU m.R a)).2.2=(dU r a).2/\(kb ⟨r⟩ sc d lg (dU r a)).1.R=rq r a/\(fB m ms (dU m.R a)).1.R=rq r a/\(kb ⟨r⟩ sc d lg (dU r a)).2.2.1.Fuse = -1/\Sz (i+1) (rq r a) /\
 ∃u2,KI (kb ⟨r⟩ sc d lg (dU r a)).2.2.1 (kb ⟨r⟩ sc d lg (dU r a)).2.1 (kb ⟨r⟩ sc d lg (dU r a)).2.2.2.1 (rq r a) u2 (t+1)/\KM (kb ⟨r⟩ sc d lg (dU r a)).2.1 u2 (fB m ms (dU m.R a)).2.1:=by
 obtain ⟨mr⟩:=m
 dsimp only at hm;subst hm
 obtain ⟨a1,a2,a3,a4,u2,a5,a6⟩:=hK.says (z:=dU mr a) ht hf hM (p6 a) (yY h a)
 have e:(kb ⟨mr⟩ sc d lg (dU mr a)).1.R=rq mr a:=a3
 have es:Sz (i+1) (rq mr a):=by
  unfold rq;split
  .exact TV hS a
  exact hS.up (Nat.le_succ i)
 have ec:(kb ⟨mr⟩ sc d lg (dU mr a)).2.2.2.2=(dU mr a).2:=by
  obtain ⟨b1,b2⟩:=hK.do ht (yY h a)
  by_cases hz:(dU mr a).2=0
  .
   rcases b2 hz with ⟨c1,_⟩ | ⟨_,_,c3,_⟩
   .rw [c1,hz]
   exact absurd hf c3
  rw [b1 hz]
 rw [e] at a5
 exact ⟨ec,a1.symm.trans ec,e,a2.trans e,a4,es,u2,a5,a6⟩
theorem Z6 (h:KI dk st lg r u t):KM st u ⟨st.Rows,(u:Int),98⟩:=⟨rfl,rfl,rfl⟩
theorem Qv (h:CI j k st dk lg)(hj:j<=200)(c:Cm) :
 (gG k st dk lg c).1.R=(tW k.R c).1/\(okC c=true->(gG k st dk lg c).2.2.2.2.1=(tW k.R c).2)/\(gG k st dk lg c).2.2.2.2.2=okC c/\CI (j+1) (gG k st dk lg c).1 (gG k st dk lg c).2.1 (gG k st dk lg c).2.2.1 (gG k st dk lg c).2.2.2.1:=by
 obtain ⟨hf,⟨u,hK⟩,hS⟩:=h
 obtain ⟨r⟩:=k
 have hI:=hK.inv
 have hs:CI (j+1) ⟨r⟩ st dk lg:=⟨hf,⟨u,hK.up ae⟩,hS.up ae⟩
 have hd:=fun a=>zc (q:=(⟨r⟩,st,dk,lg,0)) (m:=⟨r⟩) hI a hK ae hf (Z6 hK) rfl hS
 cases c with
 | act a =>
  obtain ⟨a1,_,a2,_,a3,a4,u2,a5,_⟩:=hd a
  exact ⟨a2,fun _=>congrArg oH a1,rfl,a3,⟨u2,a2▸a5⟩,a2▸a4⟩
 | take p =>
  obtain ⟨a1,_,a2,_,a3,a4,u2,a5,_⟩:=hd (gM p)
  exact ⟨a2,fun _=>congrArg (yq r p) a1,rfl,a3,⟨u2,a2▸a5⟩,a2▸a4⟩
 | read p=>exact ⟨rfl,fun _=>rfl,rfl,hs⟩
 | look p=>exact ⟨rfl,fun _=>rfl,rfl,hs⟩
 | all=>exact ⟨rfl,fun _=>rfl,rfl,hs⟩
 | bad=>exact ⟨rfl,fun h=>(by cases h),rfl,hs⟩
 | save =>
  obtain ⟨a1,a2,a3⟩:=hK.save ae hf
  exact ⟨rfl,fun _=>by show oH _=_;rw [a1];rfl,rfl,a2,⟨0,a3⟩,hS.up ae⟩
 | again z =>
  obtain ⟨_,_,_,_,_,a1,a2⟩:=(hK.again z).anew ae
  refine ⟨a1,fun _=>rfl,rfl,rfl,⟨u,?_⟩,?_⟩
  .
   show KI _ _ _ (bY (bf (eo dk z)).c.Rows).1 _ _
   rw [a1];exact a2.up ae
  show Sz _ (bY (bf (eo dk z)).c.Rows).1
  rw [a1];exact (Gl hS).up ae
theorem Qw (h:CM j m ms r)(hj:j<=200)(c:Cm):(eS m ms c).2.2=(tW r c).2/\CM (j+1) (eS m ms c).1 (eS m ms c).2.1 (tW r c).1:=by
 obtain ⟨hm,⟨k,st,dk,lg,u,hr,hf,hK,hM⟩,hS⟩:=h
 have hI:=hK.inv
 have hs:CM (j+1) m ms r:=⟨hm,⟨k,st,dk,lg,u,hr,hf,hK.up ae,hM⟩,hS.up ae⟩
 have hd:=fun a=>zc (q:=(⟨r⟩,st,dk,lg,0)) hI a hK ae hf hM hm hS
 cases c with
 | act a =>
  obtain ⟨_,a1,_,a2,a3,a4,u2,a5,a6⟩:=hd a
  exact ⟨congrArg oH a1,a2,⟨⟨rq r a⟩,_,_,_,u2,rfl,a3,a5,a6⟩,a4⟩
 | take p =>
  obtain ⟨_,a1,_,a2,a3,a4,u2,a5,a6⟩:=hd (gM p)
  exact ⟨by show yq m.R p _=_;rw [a1,hm];rfl,a2,⟨⟨rq r (gM p)⟩,_,_,_,u2,rfl,a3,a5,a6⟩,a4⟩
 | read p=>exact ⟨by show DR m.R p=_;rw [hm];rfl,hs⟩
 | look p=>exact ⟨by show rA m.R p=_;rw [hm];rfl,hs⟩
 | all=>exact ⟨by show allT m.R=_;rw [hm];rfl,hs⟩
 | bad=>exact ⟨rfl,hs⟩
 | save =>
  obtain ⟨a1,a2,a3⟩:=hK.save ae hf
  exact ⟨rfl,hm,⟨⟨r⟩,_,_,_,0,rfl,a2,a3,⟨hM.rows.trans (hK.rows.trans a3.rows.symm),rfl,hM.many⟩⟩,hS.up ae⟩
 | again z =>
  obtain ⟨_,_,_,_,_,a1,a2⟩:=(hK.again z).anew ae
  exact ⟨rfl,congrArg aN hm,⟨⟨aN r⟩,_,_,_,u,rfl,rfl,a2.up ae,⟨hM.rows.trans (hK.rows.trans ((AB hI).symm.trans a2.rows.symm)),hM.used,hM.many⟩⟩,(Gl hS).up ae⟩
end
theorem CI.err {j:Nat}{k:fI}{st:fu}{dk:cq}{lg:Lg}(h:CI j k st dk lg)(hj:j<=200)(a:jy):0<=(kb k st dk lg (dU k.R a)).2.2.2.2/\(kb k st dk lg (dU k.R a)).2.2.2.2<=10:=by
 obtain ⟨hf,⟨u,hK⟩,hS⟩:=h
 obtain ⟨r⟩:=k
 rw [(zc (q:=(⟨r⟩,st,dk,lg,0)) (m:=⟨r⟩) hK.inv a hK ae hf (Z6 hK) rfl hS).1]
 exact ⟨p6 a,UN _ a⟩
def iC:aB->List ByteArray->List ByteArray
  | _,[]=>[]
  | r,s::l=>(tW r (iu s)).2::iC (tW r (iu s)).1 l
theorem Qx {r:aB}{l:List ByteArray}{i:Nat}{s:ByteArray}(h:l[i]? = some s):iC r (l.drop i)=(tW r (iu s)).2::iC (tW r (iu s)).1 (l.drop (i+1)):=by
 obtain ⟨hi,rfl⟩:=List.getElem?_eq_some_iff.1 h
 rw [List.drop_eq_getElem_cons hi];rfl
theorem Fp:∀ (l:List ByteArray) (r:aB),(iC r l).length=l.length
 | [],r=>rfl
 | s::l,r=>congrArg (· + 1) (Fp l _)
theorem K9 {r m:aB}{l out:List ByteArray}{i:Nat}(h:out++iC r (l.drop i)=iC m l):out.length<=l.length:=by
 have:=congrArg List.length h
 rw [List.length_append,Fp,Fp] at this;omega
theorem Xj {c:Cm}(h:¬ okC c=true):c = .bad:=by
 cases c <;> first|rfl|exact absurd rfl h
theorem Qy {j:Nat}{k:fI}{st:fu}{dk:cq}{lg:Lg}(h:CI j k st dk lg)(hj:j<=200)(s:ByteArray) :
 (jo k st dk lg s).1.R=(tW k.R (iu s)).1/\(jo k st dk lg s).2.2.2.2=(tW k.R (iu s)).2/\CI (j+1) (jo k st dk lg s).1 (jo k st dk lg s).2.1 (jo k st dk lg s).2.2.1 (jo k st dk lg s).2.2.2.1:=by
 obtain ⟨h1,h2,h3,h4⟩:=Qv h hj (iu s)
 refine ⟨h1,?_,h4⟩
 show (if (gG k st dk lg (iu s)).2.2.2.2.2=true then (gG k st dk lg (iu s)).2.2.2.2.1 else ke 4)=_
 rw [h3]
 split
 .rename_i ho;exact h2 ho
 rename_i ho;rw [Xj ho];rfl
theorem Qz {i:Nat}{k:fI}{st:fu}{dk:cq}{lg:Lg}{l out:List ByteArray}{s:ByteArray}(h:CI i k st dk lg)(hi:i<=200)(hx:l[i]? = some s)(HO:out++iC k.R (l.drop i)=iC nR l) :
 CI (i+1) (jo k st dk lg s).1 (jo k st dk lg s).2.1 (jo k st dk lg s).2.2.1 (jo k st dk lg s).2.2.2.1/\(out++[(jo k st dk lg s).2.2.2.2])++iC (jo k st dk lg s).1.R (l.drop (i+1))=iC nR l:=by
 obtain ⟨h1,h2,h3⟩:=Qy h hi s
 exact ⟨h3,by rw [h1,h2,<- HO,Qx hx,List.append_assoc];rfl⟩
theorem run_end {r:aB}{l out:List ByteArray}{i:Nat}(hi:¬ i<l.length)(HO:out++iC r (l.drop i)=iC nR l):iC nR l=out:=by
 rw [<- HO,List.drop_eq_nil_of_le ae];exact (List.append_nil _)
theorem Tn:CI 0 KW wk uh P2:=by
 obtain ⟨_,h2,_,_,h5,h6⟩:=wm
 exact ⟨h2,⟨2,h5.symm▸h6⟩,h5.symm▸Sz.new⟩
theorem MX {i:Nat}{m:j3}{ms:iO}{r:aB}{l out:List ByteArray}{s:ByteArray}(h:CM i m ms r)(hi:i<=200)(hx:l[i]? = some s)(HO:out++iC r (l.drop i)=iC nR l) :
 CM (i+1) (eS m ms (iu s)).1 (eS m ms (iu s)).2.1 (tW r (iu s)).1/\(out++[(eS m ms (iu s)).2.2])++iC (tW r (iu s)).1 (l.drop (i+1))=iC nR l:=by
 obtain ⟨h1,h2⟩:=Qw h hi (iu s)
 exact ⟨h2,by rw [h1,<- HO,Qx hx,List.append_assoc];rfl⟩
theorem Tp:CM 0 ⟨nR⟩ P4 nR:=by
 obtain ⟨_,h2,_,_,h5,h6⟩:=wm
 exact ⟨rfl,⟨KW,wk,uh,P2,2,h5,h2,h6,WT⟩,Sz.new⟩
theorem Xk {s:ByteArray}(h:¬ (3<s.size/\s.extract 0 4=⟨#[97,114,109,32]⟩)):(spl s).length=2->¬ wd (spl s) 0=⟨#[97,114,109]⟩:=by
 intro hl hw
 rcases Lib.indexB_cases s sp with h1|⟨i,h1,h2⟩
 .rw [BL h1] at hl;simp at hl
 rw [Fj h1] at hw
 have hw':s.extract 0 i=⟨#[97,114,109]⟩:=hw
 have hsz:=congrArg ByteArray.size hw'
 rw [ByteArray.size_extract] at hsz
 have e3:(⟨#[97,114,109]⟩:ByteArray).size=3:=rfl
 have e1:sp.size=1:=rfl
 have hi:i=3:=ae
 subst hi
 refine h ⟨ae,?_⟩
 have h32:s.data[3]? = some 32:=by
  rcases Lib.index_spec s.data.toList [32] with ⟨q,_⟩ | ⟨k,q,hk,ho,_⟩
  .
   have:Lib.index s.data.toList [32]=3:=h1
   omega
  have:Lib.index s.data.toList [32]=3:=h1
  have hk3:k=3:=ae
  subst hk3
  have:=Lib.occAt_head rfl ho
  simpa using this
 refine fY ?_
 have ha:=congrArg (fun b:ByteArray=>b.data.toList) hw'
 have hq:s.data.toList[3]? = some 32:=by simpa using h32
 have e4:(s.extract 0 4).data.toList=s.data.toList.take 4:=Lib.extract_from_zero s 4
 have e5:(s.extract 0 3).data.toList=s.data.toList.take 3:=Lib.extract_from_zero s 3
 have ha':s.data.toList.take 3=[97,114,109]:=e5.symm.trans ha
 rw [e4,List.take_add_one,ha',hq];rfl
theorem UO {r:aB}{p:Place}(h:Inv r)(h0:(aI r p).2=0):(0<=(aI r p).1.ID/\(aI r p).1.ID<=999)/\(0<=(aI r p).1.aA/\(aI r p).1.aA<=999)/\(0<=(aI r p).1.Rights/\(aI r p).1.Rights<=7)/\(0<=(aI r p).1.aM/\(aI r p).1.aM<=99)/\0<=(aI r p).1.From/\(aI r p).1.From<=999:=by
 have w:=h.tree.mem (pJ h0).2.1
 exact ⟨⟨by have:=w.id1;omega,w.Q0⟩,⟨by have:=w.U5;omega,w.U6⟩,⟨w.Ry,w.Rz⟩,⟨w.U7,w.U8⟩,w.Rw,by have:=w.Rx;have:=w.Q0;omega⟩
theorem Im (k:Nat):(iP k).size<=3:=by
 unfold iP UL;split <;> decide
theorem Io {s:ByteArray}(h:s.size<=100):(qc s).size<=100:=by
 unfold qc;split
 .decide
 exact h
theorem look_ok {r:aB}{p:Place}(h:(aI r p).2=0):rA r p=bS (aI r p).1.ID++⟨#[32,111,102,32]⟩++bS (aI r p).1.aA++⟨#[32]⟩++iP (aI r p).1.Rights.toNat++⟨#[32,98,97,100,103,101,32]⟩++bS (aI r p).1.aM++⟨#[32,102,114,111,109,32]⟩++bS (aI r p).1.From++⟨#[32,98,101,110,101,97,116,104,32]⟩++bS (((gW (aI r p).1.ID r.aj).length:Nat):Int):=if_pos h
theorem QA {r:aB}{p:Place}(h:Inv r):(bG r p).2.1.Data.size<=100/\(0<=(bG r p).2.1.aM/\(bG r p).2.1.aM<=99) /\ -1<=(bG r p).2.2.1/\(bG r p).2.2.1<=99:=by
 have hn:∀ (i:Nat) n,r.Notes[i]? = some n->n.Data.size<=100/\0<=n.aM/\n.aM<=99:=fun i n hi=>by
  have:=h.kZ n (List.mem_of_getElem? hi)
  omega
 have hf:=free_spec r.Held p.aD
 have z:(⟨#[]⟩:ByteArray).size=0:=rfl
 have zd:n0.Data.size=0:=rfl
 have zb:n0.aM=0:=rfl
 unfold bG
 (repeat' split) <;> dsimp only <;> first|omega|(rename_i hq _ _ _;have:=hn _ _ hq;omega)|(rename_i hq _ _;have:=hn _ _ hq;omega)
end
end Go.Proofs.YtnmpibjlnninjaaGreatDoor
