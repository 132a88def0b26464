import Derived.Test.YtkbhcbipadkcaaaGreatDoorTS9
namespace Go.Proofs.YtkbhcbipadkcaaaGreatDoor
set_option linter.unusedVariables false
set_option linter.unusedSimpArgs false
set_option maxRecDepth 100000
set_option maxHeartbeats 90000000
section
open Go Go.RowKit
structure Lg where
  From:Int
  Many:Int
  First:Int
  Next:Int
  deriving DecidableEq
def bY (n:Int):ByteArray:=⟨#[u8 (n % 256),u8 (n / 256 % 256),u8 (n / 65536 % 256),u8 (n / 16777216 % 256)]⟩
theorem aG (n:Int):(bY n).size=4:=rfl
theorem pV (n:Int):bl (bY n)=[u8 (n % 256),u8 (n / 256 % 256),u8 (n / 65536 % 256),u8 (n / 16777216 % 256)]:=rfl
theorem AZ {a b:Int}(ha:0<=a/\a<=255)(hb:0<=b/\b<=255)(h:u8 a=u8 b):a=b:=by
 rw [<- mh ha,<- mh hb,h]
theorem Hy {a b:Int}(ha:0<=a/\a<4294967296)(hb:0<=b/\b<4294967296)(h:bY a=bY b):a=b:=by
 have h1:bl (bY a)=bl (bY b):=by rw [h]
 rw [pV,pV] at h1
 simp only [List.cons.injEq,and_true] at h1
 obtain ⟨e0,e1,e2,e3⟩:=h1
 have i0:=AZ (by omega) (by omega) e0
 have i1:=AZ (by omega) (by omega) e1
 have i2:=AZ (by omega) (by omega) e2
 have i3:=AZ (by omega) (by omega) e3
 omega
def dD (k:Int)(n:Int)(s:ByteArray):ByteArray:=⟨#[u8 k]⟩++bY n++⟨#[UInt8.ofNat s.size,UInt8.ofNat (s.size / 256)]⟩++s
theorem Gg (k n:Int)(s:ByteArray):bl (dD k n s)=u8 k::u8 (n % 256)::u8 (n / 256 % 256)::u8 (n / 65536 % 256)::u8 (n / 16777216 % 256)::UInt8.ofNat s.size::UInt8.ofNat (s.size / 256)::bl s:=by
 unfold dD;simp only [iM,pV];rfl
theorem nM (k n:Int)(s:ByteArray):(dD k n s).size=7+s.size:=by
 rw [<- eE,Gg];simp only [List.length_cons,eE];omega
def cE (s:ByteArray):Nat:=bj s 5+256*bj s 6
def rh (s:ByteArray):ByteArray:=s.extract 7 (7+cE s)
def zq (s:ByteArray)(n k:Int):Bool:=decide (s.extract 1 5=bY n)&&decide (cE s<=41)&&decide (bj s 0=99)&&decide (rh s=bY k)
def Et (s:ByteArray)(n:Int):Bool:=decide (s.extract 1 5=bY n)&&decide (cE s<=41)&&decide (bj s 0=111)&&decide ((rO (rh s)).2=0)
def iI:List ByteArray->Int->List (List Change)->List Change->Nat->Nat->List (List Change)×Nat
  | [],_,out,_,used,_=>(out,used)
  | s::r,n,out,deed,used,pos =>
    if zq s n (deed.length:Int)=true then iI r (n+1) (out++[deed]) [] (pos+1) (pos+1)
    else if Et s n=true then iI r (n+1) out (deed++[(rO (rh s)).1]) used (pos+1)
    else (out,used)
def scan (l:List ByteArray)(first:Int):List (List Change)×Nat:=iI l first [] [] 0 0
section
variable {l:List ByteArray} {first n:Int} {out:List (List Change)} {deed:List Change} {used pos i:Nat} {s:ByteArray} {Z:List (List Change)×Nat}
theorem drop_at {α:Type}{l:List α}{i:Nat}{s:α}(h:l[i]? = some s):l.drop i=s::l.drop (i+1):=by
 obtain ⟨h1,h2⟩:=List.getElem?_eq_some_iff.1 h
 rw [List.drop_eq_getElem_cons h1,h2]
theorem JO (h:iI (l.drop i) (first+(i:Int)) out deed used i=Z)(hs:l[i]? = some s)(hc:zq s (first+(i:Int)) (deed.length:Int)=true) :
 iI (l.drop (i+1)) (first+((i+1:Nat):Int)) (out++[deed]) [] (i+1) (i+1)=Z:=by
 rw [drop_at hs] at h
 unfold iI at h
 rw [if_pos hc] at h
 rw [show first+((i+1:Nat):Int)=first+(i:Int)+1 by omega]
 exact h
theorem Me (h:iI (l.drop i) (first+(i:Int)) out deed used i=Z)(hs:l[i]? = some s)(hc:zq s (first+(i:Int)) (deed.length:Int)=false)(ho:Et s (first+(i:Int))=true) :
 iI (l.drop (i+1)) (first+((i+1:Nat):Int)) out (deed++[(rO (rh s)).1]) used (i+1)=Z:=by
 rw [drop_at hs] at h
 unfold iI at h
 rw [if_neg (by rw [hc];decide),if_pos ho] at h
 rw [show first+((i+1:Nat):Int)=first+(i:Int)+1 by omega]
 exact h
theorem A8 (h:iI (l.drop i) (first+(i:Int)) out deed used i=Z)(hs:l[i]? = some s)(hc:zq s (first+(i:Int)) (deed.length:Int)=false)(ho:Et s (first+(i:Int))=false):Z=(out,used):=by
 rw [drop_at hs] at h
 unfold iI at h
 rw [if_neg (by rw [hc];decide),if_neg (by rw [ho];decide)] at h
 exact h.symm
theorem PH (h:iI (l.drop i) (first+(i:Int)) out deed used i=Z)(hl:l.length<=i):Z=(out,used):=by
 rw [List.drop_of_length_le hl] at h
 exact h.symm
theorem sQ {k:Int}(h:¬ bj s 0=99):zq s n k=false:=by unfold zq;simp [h]
theorem A9 (h:¬ bj s 0=111):Et s n=false:=by unfold Et;simp [h]
theorem Ba:∀ (l:List ByteArray) (n:Int) (out:List (List Change)) (deed:List Change) (used pos:Nat),
 iI l n out deed used pos=(out,used)∨(pos<(iI l n out deed used pos).2/\(iI l n out deed used pos).2<=pos+l.length /\
  ∀l':List ByteArray,l'.take ((iI l n out deed used pos).2-pos)=l.take ((iI l n out deed used pos).2-pos) ->
   iI l' n out deed used pos=iI (l'.drop ((iI l n out deed used pos).2-pos)) (n+(((iI l n out deed used pos).2-pos:Nat):Int)) (iI l n out deed used pos).1 [] (iI l n out deed used pos).2 (iI l n out deed used pos).2)
 | [],n,out,deed,used,pos => .inl rfl
 | s::r,n,out,deed,used,pos=>by
  have key:∀ (out':List (List Change)) (mT:List Change) (mU:Nat),iI (s::r) n out deed used pos=iI r (n+1) out' mT mU (pos+1) ->
   (∀r',iI (s::r') n out deed used pos=iI r' (n+1) out' mT mU (pos+1)) ->
   (pos+1<(iI r (n+1) out' mT mU (pos+1)).2/\(iI r (n+1) out' mT mU (pos+1)).2<=pos+1+r.length /\
    ∀l':List ByteArray,l'.take ((iI r (n+1) out' mT mU (pos+1)).2-(pos+1))=r.take ((iI r (n+1) out' mT mU (pos+1)).2-(pos+1)) ->
     iI l' (n+1) out' mT mU (pos+1)=iI (l'.drop ((iI r (n+1) out' mT mU (pos+1)).2-(pos+1))) (n+1+(((iI r (n+1) out' mT mU (pos+1)).2-(pos+1):Nat):Int)) (iI r (n+1) out' mT mU (pos+1)).1 [] (iI r (n+1) out' mT mU (pos+1)).2 (iI r (n+1) out' mT mU (pos+1)).2) ->
   (pos<(iI (s::r) n out deed used pos).2/\(iI (s::r) n out deed used pos).2<=pos+(s::r).length /\
    ∀l':List ByteArray,l'.take ((iI (s::r) n out deed used pos).2-pos)=(s::r).take ((iI (s::r) n out deed used pos).2-pos) ->
     iI l' n out deed used pos=iI (l'.drop ((iI (s::r) n out deed used pos).2-pos)) (n+(((iI (s::r) n out deed used pos).2-pos:Nat):Int)) (iI (s::r) n out deed used pos).1 [] (iI (s::r) n out deed used pos).2 (iI (s::r) n out deed used pos).2):=by
   intro out' mT mU e e' h
   rw [e]
   generalize iI r (n+1) out' mT mU (pos+1)=R at h
   obtain ⟨h1,h2,h3⟩:=h
   refine ⟨by omega,by rw [List.length_cons];omega,fun l' hl'=>?_⟩
   obtain ⟨m,hm⟩:∃m,R.2-pos=m+1:=⟨R.2-pos-1,by omega⟩
   have hm':R.2-(pos+1)=m:=by omega
   rw [hm] at hl' ⊢
   rw [hm'] at h3
   cases l' with
   | nil=>simp at hl'
   | cons s' r' =>
    rw [List.take_succ_cons,List.take_succ_cons] at hl'
    injection hl' with q1 q2
    subst q1
    rw [e',h3 r' q2,List.drop_succ_cons]
    rw [show n+1+(m:Int)=n+((m+1:Nat):Int) by omega]
  by_cases hc:zq s n (deed.length:Int)=true
  .
   right
   have e:∀r',iI (s::r') n out deed used pos=iI r' (n+1) (out++[deed]) [] (pos+1) (pos+1):=fun r'=>by rw [iI,if_pos hc]
   rcases Ba r (n+1) (out++[deed]) [] (pos+1) (pos+1) with h|h
   .
    rw [e r,h]
    refine ⟨by omega,by rw [List.length_cons];omega,fun l' hl'=>?_⟩
    dsimp only at hl' ⊢
    rw [show pos+1-pos=1 by omega] at hl' ⊢
    cases l' with
    | nil=>simp at hl'
    | cons s' r' =>
     rw [List.take_succ_cons,List.take_succ_cons] at hl'
     injection hl' with q1 q2
     subst q1
     rw [e];rfl
   .exact key _ _ _ (e r) e h
  .
   by_cases ho:Et s n=true
   .
    have e:∀r',iI (s::r') n out deed used pos=iI r' (n+1) out (deed++[(rO (rh s)).1]) used (pos+1):=fun r'=>by rw [iI,if_neg hc,if_pos ho]
    rcases Ba r (n+1) out (deed++[(rO (rh s)).1]) used (pos+1) with h|h
    .left;rw [e r,h]
    .right;exact key _ _ _ (e r) e h
   .left;rw [iI,if_neg hc,if_neg ho]
theorem Gh (l:List ByteArray)(first:Int):(scan l first).2<=l.length:=by
 rcases Ba l first [] [] 0 0 with h|⟨_,h,_⟩
 .unfold scan;rw [h];exact Nat.zero_le _
 .unfold scan;omega
theorem wS {l l':List ByteArray}{first:Int}(h:l'.take (scan l first).2=l.take (scan l first).2) :
 scan l' first=iI (l'.drop (scan l first).2) (first+((scan l first).2:Int)) (scan l first).1 [] (scan l first).2 (scan l first).2:=by
 rcases Ba l first [] [] 0 0 with h1|⟨_,_,h1⟩
 .
  have e:scan l first=([],0):=h1
  rw [e];simp [scan]
 .
  unfold scan at h ⊢
  exact h1 l' (by simpa using h)
end
theorem PK (n:Nat):bl (tK n)=List.replicate n 0:=by simp [bl,tK]
theorem Bb (s:ByteArray):bl (full s)=bl s++List.replicate (48-s.size) 0:=by unfold full;rw [iM,PK]
section
variable {k n:Int} {s:ByteArray}
theorem pW (hs:s.size<=41):bl (full (dD k n s))=u8 k::u8 (n % 256)::u8 (n / 256 % 256)::u8 (n / 65536 % 256)::u8 (n / 16777216 % 256)::UInt8.ofNat s.size::UInt8.ofNat (s.size / 256)::(bl s++List.replicate (41-s.size) 0):=by
 rw [Bb,Gg,nM,show 48-(7+s.size)=41-s.size by omega];rfl
theorem pX (hs:s.size<=41):bj (full (dD k n s)) 0=(u8 k).toNat:=by rw [g9,pW hs];rfl
theorem nO (hs:s.size<=41):(full (dD k n s)).extract 1 5=bY n:=gM (by
 have:=i7 (full (dD k n s)) 1 5
 rw [pW hs] at this
 refine this.trans ?_
 rfl)
theorem Bc (hs:s.size<=41):cE (full (dD k n s))=s.size:=by
 unfold cE
 have b5:bj (full (dD k n s)) 5=s.size:=by rw [g9,pW hs];exact nL (by omega)
 have b6:bj (full (dD k n s)) 6=0:=by rw [g9,pW hs];show (UInt8.ofNat (s.size / 256)).toNat=0;rw [nL (by omega)];omega
 rw [b5,b6];omega
theorem Bd (hs:s.size<=41):rh (full (dD k n s))=s:=by
 unfold rh
 rw [Bc hs]
 exact gM (by
  have:=i7 (full (dD k n s)) 7 (7+s.size)
  rw [pW hs] at this
  refine this.trans ?_
  rw [show 7+s.size=s.size+1+1+1+1+1+1+1 by omega]
  simp only [List.take_succ_cons,List.drop_succ_cons,List.drop_zero]
  rw [<- eE s,List.take_left])
theorem Mf {c:Int}(n:Int):zq (full (dD 99 n (bY c))) n c=true:=by
 have h:(bY c).size<=41:=by rw [aG];omega
 unfold zq
 rw [nO h,Bc h,pX h,Bd h,aG]
 simp;rfl
theorem Mg {c:Int}(hs:s.size<=41)(n m:Int):zq (full (dD 111 n s)) m c=false:=sQ (by rw [pX hs];decide)
theorem Mh {c:Change}(hc:iL c=0)(n:Int):Et (full (dD 111 n (kb c).1)) n=true:=by
 have h:(kb c).1.size<=41:=by
  obtain ⟨_,_,h3,h4⟩:=gZ hc
  rw [lC hc];omega
 unfold Et
 rw [nO h,Bc h,pX h,Bd h,Gc hc]
 simp [h];rfl
theorem Mi {c:Change}(hc:iL c=0)(n:Int):(rO (rh (full (dD 111 n (kb c).1)))).1=c:=by
 have h:(kb c).1.size<=41:=by
  obtain ⟨_,_,h3,h4⟩:=gZ hc
  rw [lC hc];omega
 rw [Bd h,Gc hc]
theorem oB:bj (full ⟨#[]⟩) 0=0:=by decide +kernel
theorem CV:bj (tK 48) 0=0:=by decide +kernel
theorem CW:full ⟨#[]⟩=tK 48:=by decide +kernel
end
def eY (n:Int):List Change->List ByteArray
  | []=>[]
  | c::l=>full (dD 111 n (kb c).1)::eY (n+1) l
theorem gp:∀ (l:List Change) (n:Int),(eY n l).length=l.length
 | [],_=>rfl
 | c::l,n=>by simp [eY,gp l]
theorem tT:∀ (l:List Change) (n:Int) (i:Nat) (c:Change),l[i]? = some c->(eY n l)[i]? = some (full (dD 111 (n+(i:Int)) (kb c).1))
 | [],_,i,c,h=>by simp at h
 | x::l,n,0,c,h=>by
  simp at h;subst h;simp [eY]
 | x::l,n,i+1,c,h=>by
  simp at h
  have:=tT l (n+1) i c h
  simp only [eY,List.getElem?_cons_succ]
  rw [this,show n+1+(i:Int)=n+((i+1:Nat):Int) by omega]
theorem CX:∀ (l:List Change) (n:Int) (r:List ByteArray) (out:List (List Change)) (deed:List Change) (used pos:Nat),(∀c∈l,iL c=0) ->
 iI (eY n l++r) n out deed used pos=iI r (n+(l.length:Int)) out (deed++l) used (pos+l.length)
 | [],n,r,out,deed,used,pos,_=>by simp [eY]
 | c::l,n,r,out,deed,used,pos,h=>by
  have hc:=h c (List.mem_cons_self ..)
  obtain ⟨_,_,h3,h4⟩:=gZ hc
  have hs:(kb c).1.size<=41:=by rw [lC hc];omega
  simp only [eY,List.cons_append]
  rw [iI,if_neg (by rw [Mg hs];decide),if_pos (Mh hc n),Mi hc,CX l _ r _ _ _ _ (fun c hc=>h c (List.mem_cons_of_mem _ hc))]
  rw [List.append_assoc,List.length_cons,show n+1+(l.length:Int)=n+((l.length+1:Nat):Int) by omega,show pos+1+l.length=pos+(l.length+1) by omega]
  rfl
theorem Gi {l:List Change}{n:Int}{r:List ByteArray}{out:List (List Change)}{used:Nat}(hl:∀c∈l,iL c=0)(hr:r=[] ∨ ∃s r',r=s::r'/\bj s 0=0) :
 iI (eY n l++full (dD 99 (n+(l.length:Int)) (bY (l.length:Int)))::r) n out [] used used=(out++[l],used+l.length+1):=by
 rw [CX l n _ _ _ _ _ hl]
 rw [iI,List.nil_append,if_pos (Mf _)]
 rcases hr with rfl|⟨s,r',rfl,hs⟩
 .rfl
 .rw [iI,if_neg (by rw [sQ (by omega)];decide),if_neg (by rw [A9 (by omega)];decide)]
end
def oC (c:Change):Bool:=decide (c.Key.size<=20)&&decide (c.Val.size<=40)
def rQ (l:List Change)(most:Int):Bool:=decide ((l.length:Int)<=most)&&l.all oC
def oD (a:ft):Bool:=decide (a.S.size<=100)&&rQ a.Changes 70
def pY (l:List ft)(most:Int):Bool:=decide ((l.length:Int)<=most)&&l.all oD
theorem vA {α:Type}{p:α->Bool}{l:List α}{k:Nat}{x:α}(hx:l[k]? = some x)(h:p x=false):l.all p=false:=by
 rw [Bool.eq_false_iff];intro h'
 have:=List.all_eq_true.1 h' x (List.mem_of_getElem? hx)
 rw [h] at this;simp at this
theorem JQ {α:Type}{p:α->Bool}{l:List α}{k:Nat}(hk:¬ k<l.length)(h:(l.take k).all p=true):l.all p=true:=by
 rwa [List.take_of_length_le (by omega)] at h
theorem CY {α:Type}{p:α->Bool}{l:List α}{k:Nat}{x:α}(hx:l[k]? = some x)(h:(l.take k).all p=true)(hp:p x=true):(l.take (k+1)).all p=true:=by
 rw [List.take_add_one,hx];simp [List.all_append,h,hp]
theorem ES {l:List ft}{most:Int}(h:pY l most=true):(l.length:Int)<=most:=by
 unfold pY at h;simp only [Bool.and_eq_true,decide_eq_true_eq] at h;exact h.1
section
open Go Go.RowKit
def yx (v:Value):Value:=match v with | .slice a n c => .slice a n c|_ => .slice none 0 0
theorem JR (v:Value):(yx v).oneCell'=true:=by unfold yx;split <;> rfl
theorem Sl.yx {α:Type}[Enc α]{w:World}{v:Value}{l:List α}(h:Sl w v l):YtkbhcbipadkcaaaGreatDoor.yx v=v:=by
 obtain ⟨A,c,rfl,_⟩:=h;rfl
structure kr where
  v0:Value
  L:List Change
abbrev kr.cv (x:kr):Value:=yx x.v0
instance:Enc kr:=⟨1,fun x=>[x.cv],fun _=>rfl,fun x u hu=>by rw [List.mem_singleton.1 hu];exact JR _,by decide⟩
abbrev kr.val (x:kr):Value:=x.cv
def ag.lL (l:List kr):ag:=⟨l.flatMap (fun x=>(ag.ls x.cv x.L).blk),fun w => ∀x∈l,Sl w x.cv x.L,fun w w' h hs x hx=>(ag.ls x.cv x.L).loc w w' (fun k hk=>h k (List.mem_flatMap.2 ⟨x,hx,hk⟩)) (hs x hx)⟩
def ag.pZ (l:List kr)(E:List (List Change)):ag:=⟨(ag.lL l).blk,fun w=>(ag.lL l).ok w/\l.map kr.L=E,fun w w' h hs=>⟨(ag.lL l).loc w w' h hs.1,hs.2⟩⟩
theorem Mj {l:List kr}{x:kr}(hx:x∈l):∀k∈(ag.ls x.cv x.L).blk,k∈(ag.lL l).blk:=fun k hk=>List.mem_flatMap.2 ⟨x,hx,hk⟩
section
variable {P:Program} {n:Nat} {we w:World} {X:List Nat} {B F:List ag} {l:List kr} {x:kr} {v:Value} {L:List Change} {Q:Exit->Act->World->Prop} {k:List It} {ops:List Oper} {rest:List (List Oper)}
theorem Wd.lL (i:Nat)(h:F[i]? = some (ag.lL l))(hw:Wd we X B F w):∀x∈l,Sl w x.cv x.L:=hw.f i h
theorem Wd.Ue (i:Nat)(h:F[i]? = some (ag.lL l))(hx:x∈l)(hw:Wd we X B F w):Sl w x.cv x.L:=hw.f i h x hx
theorem Wd.Sm (hw:Wd we X B F w):Wd we X B (ag.lL []::F) w:=hw.fact (r:=ag.lL []) (fun x hx=>by cases hx) (fun k hk=>by cases hk)
theorem Wd.Mk (i j:Nat)(hi:F[i]? = some (ag.lL l))(hj:F[j]? = some (ag.ls v L))(hw:Wd we X B F w):Wd we X B (ag.lL (l++[⟨v,L⟩])::F) w:=by
 have h1:∀x∈l,Sl w x.cv x.L:=hw.f i hi
 have h2:Sl w v L:=hw.bO j hj
 refine hw.fact (r:=ag.lL (l++[⟨v,L⟩])) (fun x hx=>?_) (fun k hk=>?_)
 .
  rcases List.mem_append.1 hx with hx|hx
  .exact h1 x hx
  .rw [List.mem_singleton.1 hx];show Sl w (yx v) L;rw [h2.yx];exact h2
 .
  obtain ⟨x,hx,hk⟩:=List.mem_flatMap.1 hk
  rcases List.mem_append.1 hx with hx|hx
  .exact hw.mb k (bB.2 ⟨_,List.mem_of_getElem? hi,List.mem_flatMap.2 ⟨x,hx,hk⟩⟩)
  .
   rw [List.mem_singleton.1 hx] at hk
   have hk':k∈(ag.ls v L).blk:=by
    have:(kr.mk v L).cv=v:=h2.yx
    rw [this] at hk;exact hk
   exact hw.mb k (bB.2 ⟨_,List.mem_of_getElem? hj,hk'⟩)
theorem Wd.Bf (i:Nat)(hi:F[i]? = some (ag.lL l))(hw:Wd we X B F w):Wd we X B (ag.pZ l (l.map kr.L)::F) w :=
 hw.fact (r:=ag.pZ l (l.map kr.L)) ⟨hw.f i hi,rfl⟩ (fun k hk=>hw.mb k (bB.2 ⟨_,List.mem_of_getElem? hi,hk⟩))
theorem Wd.PL (i:Nat)(hi:F[i]? = some (ag.lL l))(hx:x∈l)(hw:Wd we X B F w):Wd we X B (ag.ls x.cv x.L::F) w :=
 hw.Ry i _ _ hi (Mj hx) (hw.Ue i hi hx)
theorem Wd.Bg {E:List (List Change)}(i:Nat)(F':List ag)(hi:F[i]? = some (ag.pZ l E))(hF:ag.lL l::F.eraseIdx i=F')(hw:Wd we X B F w):Wd we X B F' w/\l.map kr.L=E:=by
 subst hF
 have h:=hw.f i hi
 refine ⟨?_,h.2⟩
 have h1:=hw.fact (r:=ag.lL l) h.1 (fun k hk=>hw.mb k (bB.2 ⟨_,List.mem_of_getElem? hi,hk⟩))
 refine ⟨h1.upd,h1.okB,fun r hr=>?_,h1.sep,h1.own,fun k hk=>?_⟩
 .
  rcases List.mem_cons.1 hr with rfl|hr
  .exact h.1
  .exact hw.okF r ((List.eraseIdx_sublist F i).subset hr)
 .
  obtain ⟨r,hr,hk⟩:=bB.1 hk
  rcases List.mem_cons.1 hr with rfl|hr
  .exact hw.mb k (bB.2 ⟨_,List.mem_of_getElem? hi,hk⟩)
  .exact hw.mb k (bB.2 ⟨r,(List.eraseIdx_sublist F i).subset hr,hk⟩)
theorem R.PN {L':Fm}{E:List (List Change)}(i:Nat)(F':List ag)(hi:F[i]? = some (ag.pZ l E))(hF:ag.lL l::F.eraseIdx i=F')(h:l.map kr.L=E->Run P n we X Q k L' B F'):Run P n we X Q k L' B F :=
 fun a w ha hw=>h (hw.Bg i F' hi hF).2 a w ha (hw.Bg i F' hi hF).1
theorem Rg.PN {L':Fm}{E:List (List Change)}{rs:List Oper}(i:Nat)(F':List ag)(hi:F[i]? = some (ag.pZ l E))(hF:ag.lL l::F.eraseIdx i=F')(h:l.map kr.L=E->Rg P n we X Q ops rs k L' B F'):Rg P n we X Q ops rs k L' B F :=
 fun a w ha hw=>h (hw.Bg i F' hi hF).2 a w ha (hw.Bg i F' hi hF).1
end
section
variable {P:Program} {n:Nat} {we:World} {X:List Nat} {L:Fm} {B F:List ag} {d:Nat} {ty:TypeId} {pos:String} {eh:Array Edge} {g:Option (Nat×Bool)}
theorem s.VK {α:Type}[Enc α]{m:Nat}{parts:Array (Nat×Operand)}{t e:TypeId}{l:List α}{vs:List Value}{z:Value}(ht:o9 P t=some (e,Enc.k α))(hz:gi P e=some z)(hzs:z.cells.size=Enc.k α)(hm:l.length=m)(hsmall:Nat.blt (m*Enc.k α) 16777216=true)
 (hp:evs L (parts.toList.map (·.2))=some vs) (hi:parts.toList.map (·.1)=List.range' 0 m) (hv:∀w,Wd we X B F w->vs.map (fun v=>v.cells.toList)=l.map Enc.cells) (hd:Nat.blt d n=true) :
 Stp P n we X L B F ⟨some d,.buildSlice t m parts,ty,pos,eh,g⟩ (fun b:Nat=>(d,.slice (some ⟨b,0,none⟩) m m)::L) (fun b=>ag.row e (.slice (some ⟨b,0,none⟩) m m) l::B) (fun _=>F) :=
 fun K Q' a w ha hw hK=>s.bs ht hz hzs hm hsmall hp hi (hv w hw) hd K Q' a w ha hw hK
theorem Hz {w:World}{v:Value}{L:List Change}(h:Sl w v L) : [v].map (fun v=>v.cells.toList)=[(⟨v,L⟩:kr)].map Enc.cells:=by
 show [v.cells.toList]=[[yx v]]
 rw [h.yx,h.EI]
theorem q.Sn {fn:FuncId}{fs cs:Array Operand}{bnd cap:List Value}(hb:evs L fs.toList=some bnd)(hc:evs L cs.toList=some cap):Qt P n we X L B F (.makeFunc (.func fn) fs cs) ty (.func (.func fn) bnd.toArray cap.toArray):=fun _ _ _ _ a w ha hw=>by
 have hm:cs.map a.eval=cap.toArray:=by rw [<- ha.evs hc,<- Array.toList_map]
 have hn:fs.map a.eval=bnd.toArray:=by rw [<- ha.evs hb,<- Array.toList_map]
 simp [execOp,Instr.makeFunc,hm,hn]
theorem q.min {kd:IntKind}{x y:Operand}{a b r:Int}{ts:Array TypeId}(hx:ev L x=some (.int kd a))(hy:ev L y=some (.int kd b))(hr:min a b=r):Qt P n we X L B F (.call { callee:= .builtin .min,args:= #[x,y],argTypes:=ts }) ty (.int kd r):=fun _ _ _ _ q w ha hw=>by
 have e:(if b<a then b else a)=r:=by rw [<- hr];split <;> omega
 simp [execOp,resolve,invoke,builtin,ha.ev hx,ha.ev hy,Builtin.min_,Builtin.min2,e]
theorem QU {k:IntKind}{a b:Int}(h:a=b):Value.int k a = .int k b:=by rw [h]
structure yy where
  f:Fn
  b:Array Value
  c:Array Value
abbrev yy.cv (x:yy):Value:= .func x.f x.b x.c
instance:Enc yy:=⟨1,fun x=>[x.cv],fun _=>rfl,fun x u hu=>by rw [List.mem_singleton.1 hu];rfl,by decide⟩
theorem q.Ml {u:Value}{x:yy}{xT:TypeId}{a:Operand}(hu:x.cv=u)(h:Qt P n we X L B F (.load xT a) ty x.cv):Qt P n we X L B F (.load xT a) ty u:=hu▸h
theorem HD {f:FuncId}{c:Operand}{xs:Array Operand}{ts:Array TypeId}{vs:List Value}{bnd cap:Array Value}{a:Act}{w:World}{dst:Option Nat}(ha:Fr n L a)(hargs:evs L xs.toList=some vs)(hc:ev L c=some (.func (.func f) bnd cap))
 (eg:∀args w,(callFunc f args).run P w = .ok (.enter f args) w):(execOp a.eval ⟨dst,.call { callee:= .value c,args:=xs,argTypes:=ts },ty,pos,eh,g⟩).run P w = .ok (.enter f (bnd.toList++vs++cap.toList).toArray) w:=by
 have hm:xs.map a.eval=vs.toArray:=by
  rw [<- ha.evs hargs,<- Array.toList_map]
 simp [execOp,resolve,ha.ev hc,Deferred.ofValue,invoke,hm,eg]
theorem s.JU {β:Type}{f:FuncId}{c:Operand}{xs:Array Operand}{ts:Array TypeId}{vs:List Value}{bnd cap:Array Value}{B0 Br F0:List ag}(is js:List Nat)(G:β->Value)(B1 F1:β->List ag)(hp:cZ B is=some (B0++Br))(ha':ic is=true)(hj:cZ F js=some F0)
 (eg:∀args w,(callFunc f args).run P w = .ok (.enter f args) w) (hargs:evs L xs.toList=some vs) (hc:ev L c=some (.func (.func f) bnd cap))
 (hcall:∀w own,Wd we X B F w->Wd w (blks B0++own) (B0++[ag.held w own]) F0 w->Calls P f (bnd.toList++vs++cap.toList).toArray w fun e w' => ∃z,e = .returned (G z)/\Wd w (blks B0++own) (B1 z++[ag.held w own]) (F1 z) w') (hd:Nat.blt d n=true) :
 Stp P n we X L B F ⟨some d,.call { callee:= .value c,args:=xs,argTypes:=ts },ty,pos,eh,g⟩ (fun z=>(d,G z)::L) (fun z=>B1 z++Br) (fun z=>F1 z++F):=by
 intro K Q' a w ha hw hK
 have hw2:=hw.LU is hp ha'
 unfold Oper.wp
 rw [HD ha hargs hc eg,Oper.upon_enter]
 refine (hcall w (blks Br) hw (hw2.Aj hj)).mono fun e w' he=>?_
 obtain ⟨z,rfl,ht⟩:=he
 exact hK z _ _ (ha.put d _ hd) (hw2.after ht)
end
end
section
open Go Go.RowKit
structure TK where
  C:List Change
structure Sp where
  E:Int
def jc (s:ByteArray)(n:Int):Bool:=decide (s.extract 1 5=bY n)&&(decide (bj s 0=111)||decide (bj s 0=99))&&decide (cE s<=41)
def o5 (s:ByteArray)(n:Int):Nat:=if jc s n=true then bj s 0 else 0
def ku (s:ByteArray)(n:Int):ByteArray:=if jc s n=true then rh s else ⟨#[]⟩
section
variable {s:ByteArray} {n k:Int}
theorem wT (h:¬ s.extract 1 5=bY n):jc s n=false:=by unfold jc;simp [h]
theorem wU (h:¬ bj s 0=111)(h':¬ bj s 0=99):jc s n=false:=by unfold jc;simp [h,h']
theorem nP (h:41<cE s):jc s n=false:=by unfold jc;simp;intros;omega
theorem lD (h:s.extract 1 5=bY n)(h':bj s 0=111∨bj s 0=99)(hl:cE s<=41):jc s n=true:=by
 unfold jc;rcases h' with h'|h' <;> simp [h,h',hl]
theorem j3 (h:jc s n=false):o5 s n=0/\ku s n=⟨#[]⟩:=by unfold o5 ku;simp [h]
theorem j4 (h:jc s n=true):o5 s n=bj s 0/\ku s n=rh s:=by unfold o5 ku;simp [h]
theorem wV (h:jc s n=true):s.extract 1 5=bY n/\(bj s 0=111∨bj s 0=99)/\cE s<=41:=by
 unfold jc at h;simpa [and_assoc] using h
theorem PO (h:jc s n=true)(hk:o5 s n=99)(hx:ku s n=bY k):zq s n k=true:=by
 obtain ⟨h1,h2,h3⟩:=wV h
 obtain ⟨e1,e2⟩:=j4 h
 unfold zq;simp [h1,h3,<- e1,hk,<- e2,hx]
theorem CZ (h:jc s n=false):zq s n k=false/\Et s n=false:=by
 constructor
 .
  rw [Bool.eq_false_iff];intro hc
  unfold zq at hc;simp only [Bool.and_eq_true,decide_eq_true_eq] at hc
  rw [lD hc.1.1.1 (.inr hc.1.2) hc.1.1.2] at h;cases h
 .
  rw [Bool.eq_false_iff];intro hc
  unfold Et at hc;simp only [Bool.and_eq_true,decide_eq_true_eq] at hc
  rw [lD hc.1.1.1 (.inl hc.1.2) hc.1.1.2] at h;cases h
theorem C0 (h:jc s n=true)(hk:o5 s n=99)(hx:¬ ku s n=bY k):zq s n k=false/\Et s n=false:=by
 obtain ⟨e1,e2⟩:=j4 h
 refine ⟨?_,A9 (by rw [<- e1,hk];decide)⟩
 unfold zq;simp [<- e2,hx]
theorem PQ (h:jc s n=true)(hk:¬ o5 s n=99)(hp:(rO (ku s n)).2=0):zq s n k=false/\Et s n=true/\ku s n=rh s:=by
 obtain ⟨h1,h2,h3⟩:=wV h
 obtain ⟨e1,e2⟩:=j4 h
 have h4:¬ bj s 0=99:=by rw [<- e1];exact hk
 have h5:bj s 0=111:=h2.resolve_right h4
 refine ⟨sQ h4,?_,e2⟩
 unfold Et;simp [h1,h3,h5,<- e2,hp]
theorem C2 (h:jc s n=true)(hk:¬ o5 s n=99)(hp:¬ (rO (ku s n)).2=0):zq s n k=false/\Et s n=false:=by
 obtain ⟨e1,e2⟩:=j4 h
 refine ⟨sQ (by rw [<- e1];exact hk),?_⟩
 unfold Et;simp [<- e2,hp]
theorem ET (hs:s.size=48):(ku s n).size<=48:=by
 unfold ku rh;split
 .rw [ByteArray.size_extract];omega
 .decide
end
def p6 (d:cw)(gq:Int)(many:Nat):List ByteArray:=(List.range many).map fun (i:Nat)=>(cj d (gq+(i:Int))).1
theorem p7 (d:cw)(gq:Int)(many:Nat):(p6 d gq many).length=many:=by simp [p6]
theorem qC {d:cw}{gq:Int}{many i:Nat}(h:i<many):(p6 d gq many)[i]? = some ((cj d (gq+(i:Int))).1):=by
 simp [p6,h]
def lE (d:cw)(gq:Int)(many:Nat)(first:Int):List (List Change):=(scan (p6 d gq many) first).1
def fE (d:cw)(gq:Int)(many:Nat)(first:Int):Nat:=(scan (p6 d gq many) first).2
def kV (lg:Lg):cw->List Change->Nat->cw×Int
  | d,[],i=>(d,0)
  | d,x::r,i =>
    if (au d (lg.From+lg.Next+(i:Int)) (dD 111 (lg.First+lg.Next+(i:Int)) (kb x).1)).2=0 then kV lg (au d (lg.From+lg.Next+(i:Int)) (dD 111 (lg.First+lg.Next+(i:Int)) (kb x).1)).1 r (i+1)
    else au d (lg.From+lg.Next+(i:Int)) (dD 111 (lg.First+lg.Next+(i:Int)) (kb x).1)
def dw (lg:Lg)(d:cw)(c:List Change):cw×Int :=
  if (kV lg d c 0).2=0 then (if lg.Next+(c.length:Int)+1<lg.Many then au (kV lg d c 0).1 (lg.From+(lg.Next+(c.length:Int)+1)) ⟨#[]⟩ else ((kV lg d c 0).1,0)) else kV lg d c 0
def rR (lg:Lg)(d:cw)(c:List Change):cw×Int:=ai (dw lg d c).1
def sR (lg:Lg)(d:cw)(c:List Change):cw×Int:=au (rR lg d c).1 (lg.From+(lg.Next+(c.length:Int))) (dD 99 (lg.First+(lg.Next+(c.length:Int))) (bY (c.length:Int)))
def vf (lg:Lg)(d:cw)(c:List Change):cw×Int:=ai (sR lg d c).1
def jF:List Change->Int
  | []=>0
  | x::r=>if iL x=0 then jF r else iL x
def jG (lg:Lg)(c:List Change):Int:=if 62<c.length then 2 else if lg.Many-lg.Next<(c.length:Int)+1 then 9 else jF c
def cy (lg:Lg)(d:cw)(c:List Change):Lg×cw×Int :=
  if ¬ jG lg c=0 then (lg,d,jG lg c)
  else if ¬ (dw lg d c).2=0 then (lg,dw lg d c)
  else if ¬ (rR lg d c).2=0 then (lg,rR lg d c)
  else if ¬ (sR lg d c).2=0 then (lg,sR lg d c)
  else if ¬ (vf lg d c).2=0 then (lg,vf lg d c)
  else (⟨lg.From,lg.Many,lg.First,lg.Next+(c.length:Int)+1⟩,(vf lg d c).1,0)
section
variable {lg:Lg} {d dm:cw} {c:List Change} {i n m:Nat} {x:Change} {Z:cw×Int}
theorem PS (h:kV lg dm (c.drop i) i=Z)(hx:c[i]? = some x)(hw:(au dm (lg.From+lg.Next+(i:Int)) (dD 111 (lg.First+lg.Next+(i:Int)) (kb x).1)).2=0) :
 kV lg (au dm (lg.From+lg.Next+(i:Int)) (dD 111 (lg.First+lg.Next+(i:Int)) (kb x).1)).1 (c.drop (i+1)) (i+1)=Z:=by
 rw [drop_at hx] at h;unfold kV at h;rw [if_pos hw] at h;exact h
theorem JV (h:kV lg dm (c.drop i) i=Z)(hx:c[i]? = some x)(hw:¬ (au dm (lg.From+lg.Next+(i:Int)) (dD 111 (lg.First+lg.Next+(i:Int)) (kb x).1)).2=0) :
 Z=au dm (lg.From+lg.Next+(i:Int)) (dD 111 (lg.First+lg.Next+(i:Int)) (kb x).1):=by
 rw [drop_at hx] at h;unfold kV at h;rw [if_neg hw] at h;exact h.symm
theorem Gj (h:kV lg dm (c.drop i) i=Z)(hi:c.length<=i):Z=(dm,0):=by
 rw [List.drop_of_length_le hi] at h;unfold kV at h;exact h.symm
theorem HE (h:Z=kV lg d c 0)(hz:¬ Z.2=0):dw lg d c=(Z.1,Z.2):=by
 unfold dw;rw [<- h,if_neg hz]
theorem JW (h:kV lg d c 0=(dm,0))(hl:lg.Next+(c.length:Int)+1<lg.Many):dw lg d c=((au dm (lg.From+(lg.Next+(c.length:Int)+1)) ⟨#[]⟩).1,(au dm (lg.From+(lg.Next+(c.length:Int)+1)) ⟨#[]⟩).2):=by
 unfold dw;rw [h,if_pos rfl,if_pos hl]
theorem HG (h:kV lg d c 0=(dm,0))(hl:¬ lg.Next+(c.length:Int)+1<lg.Many):dw lg d c=(dm,0):=by
 unfold dw;rw [h,if_pos rfl,if_neg hl]
theorem wW (h:fM n m d)(hd:d.Down=false){i:Int}(h0:0<=i)(h1:i<(n:Int)):(cj d i).2=0/\(cj d i).1.size=48:=by
 have hn:=h.nl
 obtain ⟨x,hx⟩:∃x,d.Now[i.toNat]? = some x:=⟨_,List.getElem?_eq_getElem (by omega)⟩
 rw [pP hd h0 hx]
 exact ⟨rfl,h.ns x (List.mem_of_getElem? hx)⟩
theorem Bh (h:iL x=0):(kb x).2=0/\(kb x).1.size<=41:=by
 obtain ⟨_,_,h3,h4⟩:=gZ h
 exact ⟨by unfold kb;rw [if_pos h],by rw [lC h];omega⟩
theorem Gk:∀ (c:List Change) (d:cw) (i m:Nat),fM n m d->fM n (m+c.length) (kV lg d c i).1
 | [],d,i,m,h=>by unfold kV;simpa using h
 | x::r,d,i,m,h=>by
  unfold kV
  have h1:=h.write (lg.From+lg.Next+(i:Int)) (dD 111 (lg.First+lg.Next+(i:Int)) (kb x).1)
  split
  .
   have:=Gk r _ (i+1) (m+1) h1
   rw [List.length_cons,show m+(r.length+1)=m+1+r.length by omega];exact this
  .exact h1.up (by rw [List.length_cons];omega)
theorem Bi (h:fM n m d):fM n (m+c.length+1) (dw lg d c).1:=by
 have h1:=Gk (lg:=lg) c d 0 m h
 unfold dw
 split
 .
  split
  .exact h1.write _ _
  .exact h1.up (by omega)
 .exact h1.up (by omega)
theorem Gl (h:fM n m d):fM n (m+c.length+1) (rR lg d c).1:=(Bi h).flush
theorem Gm (h:fM n m d):fM n (m+c.length+2) (sR lg d c).1:=(Gl h).write _ _
theorem Gn (h:fM n m d):fM n (m+c.length+2) (vf lg d c).1:=(Gm h).flush
theorem vB (h:fM n m d):fM n (m+c.length+2) (cy lg d c).2.1:=by
 unfold cy
 (repeat' split)
 .exact h.up (by omega)
 .exact (Bi h).up (by omega)
 .exact (Gl h).up (by omega)
 .exact Gm h
 .exact Gn h
 .exact Gn h
theorem qD:∀ {c:List Change},jF c=0 -> ∀x∈c,iL x=0
 | [],_,x,hx=>by cases hx
 | y::r,h,x,hx=>by
  unfold jF at h
  split at h
  .
   rename_i h0
   rcases List.mem_cons.1 hx with rfl|hx
   .exact h0
   .exact qD h x hx
  .exact absurd h (by assumption)
theorem JX {f:Int}(h:jF (c.drop i)=f)(hx:c[i]? = some x)(h0:iL x=0):jF (c.drop (i+1))=f:=by
 rw [drop_at hx] at h;unfold jF at h;rw [if_pos h0] at h;exact h
theorem Bj {f:Int}(h:jF (c.drop i)=f)(hx:c[i]? = some x)(h0:¬ iL x=0):f=iL x:=by
 rw [drop_at hx] at h;unfold jF at h;rw [if_neg h0] at h;exact h.symm
theorem JY {f:Int}(h:jF (c.drop i)=f)(hi:c.length<=i):f=0:=by
 rw [List.drop_of_length_le hi] at h;unfold jF at h;exact h.symm
theorem JZ (h:62<c.length):cy lg d c=(lg,d,2):=by
 have e:jG lg c=2:=by unfold jG;rw [if_pos h]
 unfold cy;rw [e,if_pos (by decide)]
theorem J0 (h:¬ 62<c.length)(h':lg.Many-lg.Next<(c.length:Int)+1):cy lg d c=(lg,d,9):=by
 have e:jG lg c=9:=by unfold jG;rw [if_neg h,if_pos h']
 unfold cy;rw [e,if_pos (by decide)]
theorem HI {f:Int}(h:¬ 62<c.length)(h':¬ lg.Many-lg.Next<(c.length:Int)+1)(hf:jF c=f)(h0:¬ f=0):cy lg d c=(lg,d,f):=by
 have e:jG lg c=f:=by unfold jG;rw [if_neg h,if_neg h',hf]
 unfold cy;rw [e,if_pos h0]
theorem Bm (h:¬ 62<c.length)(h':¬ lg.Many-lg.Next<(c.length:Int)+1)(hf:jF c=0):jG lg c=0:=by
 unfold jG;rw [if_neg h,if_neg h',hf]
theorem N1 (h:jG lg c=0)(ha:¬ (dw lg d c).2=0):cy lg d c=(lg,(dw lg d c).1,(dw lg d c).2):=by
 unfold cy;rw [if_neg (by omega),if_pos ha]
theorem N2 (h:jG lg c=0)(ha:(dw lg d c).2=0)(hb:¬ (rR lg d c).2=0):cy lg d c=(lg,(rR lg d c).1,(rR lg d c).2):=by
 unfold cy;rw [if_neg (by omega),if_neg (by omega),if_pos hb]
theorem N3 (h:jG lg c=0)(ha:(dw lg d c).2=0)(hb:(rR lg d c).2=0)(hc:¬ (sR lg d c).2=0):cy lg d c=(lg,(sR lg d c).1,(sR lg d c).2):=by
 unfold cy;rw [if_neg (by omega),if_neg (by omega),if_neg (by omega),if_pos hc]
theorem N4 (h:jG lg c=0)(ha:(dw lg d c).2=0)(hb:(rR lg d c).2=0)(hc:(sR lg d c).2=0)(hd:¬ (vf lg d c).2=0):cy lg d c=(lg,(vf lg d c).1,(vf lg d c).2):=by
 unfold cy;rw [if_neg (by omega),if_neg (by omega),if_neg (by omega),if_neg (by omega),if_pos hd]
theorem EU (h:jG lg c=0)(ha:(dw lg d c).2=0)(hb:(rR lg d c).2=0)(hc:(sR lg d c).2=0)(hd:(vf lg d c).2=0):cy lg d c=(⟨lg.From,lg.Many,lg.First,lg.Next+(c.length:Int)+1⟩,(vf lg d c).1,0):=by
 unfold cy;rw [if_neg (by omega),if_neg (by omega),if_neg (by omega),if_neg (by omega),if_neg (by omega)]
end
end
end Go.Proofs.YtkbhcbipadkcaaaGreatDoor
