import Derived.Test.YtkbhcbipadkcaaaGreatDoorTO15
namespace Go.Proofs.YtkbhcbipadkcaaaGreatDoor
set_option linter.unusedVariables false
set_option linter.unusedSimpArgs false
section
open Go Go.RowKit
structure Lg where
  From:Int
  Many:Int
  First:Int
  Next:Int
  deriving DecidableEq
def bV (n:Int):ByteArray:=⟨#[u8 (n % 256),u8 (n / 256 % 256),u8 (n / 65536 % 256),u8 (n / 16777216 % 256)]⟩
theorem aF (n:Int):(bV n).size=4:=rfl
theorem pZ (n:Int):bl (bV n)=[u8 (n % 256),u8 (n / 256 % 256),u8 (n / 65536 % 256),u8 (n / 16777216 % 256)]:=rfl
theorem AY {a b:Int}(ha:0<=a/\a<=255)(hb:0<=b/\b<=255)(h:u8 a=u8 b):a=b:=by
 rw [<- my ha,<- my hb,h]
theorem Hn {a b:Int}(ha:0<=a/\a<4294967296)(hb:0<=b/\b<4294967296)(h:bV a=bV b):a=b:=by
 have h1:bl (bV a)=bl (bV b):=by rw [h]
 rw [pZ,pZ] at h1
 simp only [List.cons.injEq,and_true] at h1
 obtain ⟨e0,e1,e2,e3⟩:=h1
 have i0:=AY (by omega) (by omega) e0
 have i1:=AY (by omega) (by omega) e1
 have i2:=AY (by omega) (by omega) e2
 have i3:=AY (by omega) (by omega) e3
 omega
def dF (k:Int)(n:Int)(s:ByteArray):ByteArray:=⟨#[u8 k]⟩++bV n++⟨#[UInt8.ofNat s.size,UInt8.ofNat (s.size / 256)]⟩++s
theorem Gc (k n:Int)(s:ByteArray):bl (dF k n s)=u8 k::u8 (n % 256)::u8 (n / 256 % 256)::u8 (n / 65536 % 256)::u8 (n / 16777216 % 256)::UInt8.ofNat s.size::UInt8.ofNat (s.size / 256)::bl s:=by
 unfold dF;simp only [iN,pZ];rfl
theorem nV (k n:Int)(s:ByteArray):(dF k n s).size=7+s.size:=by
 rw [<- ez,Gc];simp only [List.length_cons,ez];omega
def cL (s:ByteArray):Nat:=bf s 5+256*bf s 6
def ry (s:ByteArray):ByteArray:=s.extract 7 (7+cL s)
def zw (s:ByteArray)(n k:Int):Bool:=decide (s.extract 1 5=bV n)&&decide (cL s<=41)&&decide (bf s 0=99)&&decide (ry s=bV k)
def En (s:ByteArray)(n:Int):Bool:=decide (s.extract 1 5=bV n)&&decide (cL s<=41)&&decide (bf s 0=111)&&decide ((rU (ry s)).2=0)
def iJ:List ByteArray->Int->List (List Change)->List Change->Nat->Nat->List (List Change)×Nat
  | [],_,out,_,used,_=>(out,used)
  | s::r,n,out,deed,used,pos =>
    if zw s n (deed.length:Int)=true then iJ r (n+1) (out++[deed]) [] (pos+1) (pos+1)
    else if En s n=true then iJ r (n+1) out (deed++[(rU (ry s)).1]) used (pos+1)
    else (out,used)
def scan (l:List ByteArray)(first:Int):List (List Change)×Nat:=iJ l first [] [] 0 0
section
variable {l:List ByteArray} {first n:Int} {out:List (List Change)} {deed:List Change} {used pos i:Nat} {s:ByteArray} {Z:List (List Change)×Nat}
theorem drop_at {α:Type}{l:List α}{i:Nat}{s:α}(h:l[i]? = some s):l.drop i=s::l.drop (i+1):=by
 obtain ⟨h1,h2⟩:=List.getElem?_eq_some_iff.1 h
 rw [List.drop_eq_getElem_cons h1,h2]
theorem JO (h:iJ (l.drop i) (first+(i:Int)) out deed used i=Z)(hs:l[i]? = some s)(hc:zw s (first+(i:Int)) (deed.length:Int)=true) :
 iJ (l.drop (i+1)) (first+((i+1:Nat):Int)) (out++[deed]) [] (i+1) (i+1)=Z:=by
 rw [drop_at hs] at h
 unfold iJ at h
 rw [if_pos hc] at h
 rw [show first+((i+1:Nat):Int)=first+(i:Int)+1 by omega]
 exact h
theorem Mi (h:iJ (l.drop i) (first+(i:Int)) out deed used i=Z)(hs:l[i]? = some s)(hc:zw s (first+(i:Int)) (deed.length:Int)=false)(ho:En s (first+(i:Int))=true) :
 iJ (l.drop (i+1)) (first+((i+1:Nat):Int)) out (deed++[(rU (ry s)).1]) used (i+1)=Z:=by
 rw [drop_at hs] at h
 unfold iJ at h
 rw [if_neg (by rw [hc];decide),if_pos ho] at h
 rw [show first+((i+1:Nat):Int)=first+(i:Int)+1 by omega]
 exact h
theorem AZ (h:iJ (l.drop i) (first+(i:Int)) out deed used i=Z)(hs:l[i]? = some s)(hc:zw s (first+(i:Int)) (deed.length:Int)=false)(ho:En s (first+(i:Int))=false):Z=(out,used):=by
 rw [drop_at hs] at h
 unfold iJ at h
 rw [if_neg (by rw [hc];decide),if_neg (by rw [ho];decide)] at h
 exact h.symm
theorem PN (h:iJ (l.drop i) (first+(i:Int)) out deed used i=Z)(hl:l.length<=i):Z=(out,used):=by
 rw [List.drop_of_length_le hl] at h
 exact h.symm
theorem sU {k:Int}(h:¬ bf s 0=99):zw s n k=false:=by unfold zw;simp [h]
theorem A8 (h:¬ bf s 0=111):En s n=false:=by unfold En;simp [h]
theorem A9:∀ (l:List ByteArray) (n:Int) (out:List (List Change)) (deed:List Change) (used pos:Nat),
 iJ l n out deed used pos=(out,used)∨(pos<(iJ l n out deed used pos).2/\(iJ l n out deed used pos).2<=pos+l.length /\
  ∀l':List ByteArray,l'.take ((iJ l n out deed used pos).2-pos)=l.take ((iJ l n out deed used pos).2-pos) ->
   iJ l' n out deed used pos=iJ (l'.drop ((iJ l n out deed used pos).2-pos)) (n+(((iJ l n out deed used pos).2-pos:Nat):Int)) (iJ l n out deed used pos).1 [] (iJ l n out deed used pos).2 (iJ l n out deed used pos).2)
 | [],n,out,deed,used,pos => .inl rfl
 | s::r,n,out,deed,used,pos=>by
  have key:∀ (out':List (List Change)) (m5:List Change) (m6:Nat),iJ (s::r) n out deed used pos=iJ r (n+1) out' m5 m6 (pos+1) ->
   (∀r',iJ (s::r') n out deed used pos=iJ r' (n+1) out' m5 m6 (pos+1)) ->
   (pos+1<(iJ r (n+1) out' m5 m6 (pos+1)).2/\(iJ r (n+1) out' m5 m6 (pos+1)).2<=pos+1+r.length /\
    ∀l':List ByteArray,l'.take ((iJ r (n+1) out' m5 m6 (pos+1)).2-(pos+1))=r.take ((iJ r (n+1) out' m5 m6 (pos+1)).2-(pos+1)) ->
     iJ l' (n+1) out' m5 m6 (pos+1)=iJ (l'.drop ((iJ r (n+1) out' m5 m6 (pos+1)).2-(pos+1))) (n+1+(((iJ r (n+1) out' m5 m6 (pos+1)).2-(pos+1):Nat):Int)) (iJ r (n+1) out' m5 m6 (pos+1)).1 [] (iJ r (n+1) out' m5 m6 (pos+1)).2 (iJ r (n+1) out' m5 m6 (pos+1)).2) ->
   (pos<(iJ (s::r) n out deed used pos).2/\(iJ (s::r) n out deed used pos).2<=pos+(s::r).length /\
    ∀l':List ByteArray,l'.take ((iJ (s::r) n out deed used pos).2-pos)=(s::r).take ((iJ (s::r) n out deed used pos).2-pos) ->
     iJ l' n out deed used pos=iJ (l'.drop ((iJ (s::r) n out deed used pos).2-pos)) (n+(((iJ (s::r) n out deed used pos).2-pos:Nat):Int)) (iJ (s::r) n out deed used pos).1 [] (iJ (s::r) n out deed used pos).2 (iJ (s::r) n out deed used pos).2):=by
   intro out' m5 m6 e e' h
   rw [e]
   generalize iJ r (n+1) out' m5 m6 (pos+1)=R at h
   obtain ⟨h1,h2,h3⟩:=h
   refine ⟨by omega,by rw [List.length_cons];omega,fun l' hl'=>?_⟩
   obtain ⟨m,hm⟩:∃m,R.2-pos=m+1:=⟨R.2-pos-1,by omega⟩
   have hm':R.2-(pos+1)=m:=by omega
   rw [hm] at hl' ⊢
   rw [hm'] at h3
   cases l' with
   | nil=>simp at hl'
   | cons s' r' =>
    rw [List.take_succ_cons,List.take_succ_cons] at hl'
    injection hl' with q1 q2
    subst q1
    rw [e',h3 r' q2,List.drop_succ_cons]
    rw [show n+1+(m:Int)=n+((m+1:Nat):Int) by omega]
  by_cases hc:zw s n (deed.length:Int)=true
  .
   right
   have e:∀r',iJ (s::r') n out deed used pos=iJ r' (n+1) (out++[deed]) [] (pos+1) (pos+1):=fun r'=>by rw [iJ,if_pos hc]
   rcases A9 r (n+1) (out++[deed]) [] (pos+1) (pos+1) with h|h
   .
    rw [e r,h]
    refine ⟨by omega,by rw [List.length_cons];omega,fun l' hl'=>?_⟩
    dsimp only at hl' ⊢
    rw [show pos+1-pos=1 by omega] at hl' ⊢
    cases l' with
    | nil=>simp at hl'
    | cons s' r' =>
     rw [List.take_succ_cons,List.take_succ_cons] at hl'
     injection hl' with q1 q2
     subst q1
     rw [e];rfl
   .exact key _ _ _ (e r) e h
  .
   by_cases ho:En s n=true
   .
    have e:∀r',iJ (s::r') n out deed used pos=iJ r' (n+1) out (deed++[(rU (ry s)).1]) used (pos+1):=fun r'=>by rw [iJ,if_neg hc,if_pos ho]
    rcases A9 r (n+1) out (deed++[(rU (ry s)).1]) used (pos+1) with h|h
    .left;rw [e r,h]
    .right;exact key _ _ _ (e r) e h
   .left;rw [iJ,if_neg hc,if_neg ho]
theorem Gd (l:List ByteArray)(first:Int):(scan l first).2<=l.length:=by
 rcases A9 l first [] [] 0 0 with h|⟨_,h,_⟩
 .unfold scan;rw [h];exact Nat.zero_le _
 .unfold scan;omega
theorem wW {l l':List ByteArray}{first:Int}(h:l'.take (scan l first).2=l.take (scan l first).2) :
 scan l' first=iJ (l'.drop (scan l first).2) (first+((scan l first).2:Int)) (scan l first).1 [] (scan l first).2 (scan l first).2:=by
 rcases A9 l first [] [] 0 0 with h1|⟨_,_,h1⟩
 .
  have e:scan l first=([],0):=h1
  rw [e];simp [scan]
 .
  unfold scan at h ⊢
  exact h1 l' (by simpa using h)
end
theorem PO (n:Nat):bl (tN n)=List.replicate n 0:=by simp [bl,tN]
theorem Ba (s:ByteArray):bl (full s)=bl s++List.replicate (48-s.size) 0:=by unfold full;rw [iN,PO]
section
variable {k n:Int} {s:ByteArray}
theorem p6 (hs:s.size<=41):bl (full (dF k n s))=u8 k::u8 (n % 256)::u8 (n / 256 % 256)::u8 (n / 65536 % 256)::u8 (n / 16777216 % 256)::UInt8.ofNat s.size::UInt8.ofNat (s.size / 256)::(bl s++List.replicate (41-s.size) 0):=by
 rw [Ba,Gc,nV,show 48-(7+s.size)=41-s.size by omega];rfl
theorem p7 (hs:s.size<=41):bf (full (dF k n s)) 0=(u8 k).toNat:=by rw [hG,p6 hs];rfl
theorem nW (hs:s.size<=41):(full (dF k n s)).extract 1 5=bV n:=gP (by
 have:=jf (full (dF k n s)) 1 5
 rw [p6 hs] at this
 refine this.trans ?_
 rfl)
theorem Bb (hs:s.size<=41):cL (full (dF k n s))=s.size:=by
 unfold cL
 have b5:bf (full (dF k n s)) 5=s.size:=by rw [hG,p6 hs];exact nU (by omega)
 have b6:bf (full (dF k n s)) 6=0:=by rw [hG,p6 hs];show (UInt8.ofNat (s.size / 256)).toNat=0;rw [nU (by omega)];omega
 rw [b5,b6];omega
theorem Bc (hs:s.size<=41):ry (full (dF k n s))=s:=by
 unfold ry
 rw [Bb hs]
 exact gP (by
  have:=jf (full (dF k n s)) 7 (7+s.size)
  rw [p6 hs] at this
  refine this.trans ?_
  rw [show 7+s.size=s.size+1+1+1+1+1+1+1 by omega]
  simp only [List.take_succ_cons,List.drop_succ_cons,List.drop_zero]
  rw [<- ez s,List.take_left])
theorem Mj {c:Int}(n:Int):zw (full (dF 99 n (bV c))) n c=true:=by
 have h:(bV c).size<=41:=by rw [aF];omega
 unfold zw
 rw [nW h,Bb h,p7 h,Bc h,aF]
 simp;rfl
theorem Mk {c:Int}(hs:s.size<=41)(n m:Int):zw (full (dF 111 n s)) m c=false:=sU (by rw [p7 hs];decide)
theorem Ml {c:Change}(hc:iI c=0)(n:Int):En (full (dF 111 n (ke c).1)) n=true:=by
 have h:(ke c).1.size<=41:=by
  obtain ⟨_,_,h3,h4⟩:=g9 hc
  rw [lA hc];omega
 unfold En
 rw [nW h,Bb h,p7 h,Bc h,F8 hc]
 simp [h];rfl
theorem Mm {c:Change}(hc:iI c=0)(n:Int):(rU (ry (full (dF 111 n (ke c).1)))).1=c:=by
 have h:(ke c).1.size<=41:=by
  obtain ⟨_,_,h3,h4⟩:=g9 hc
  rw [lA hc];omega
 rw [Bc h,F8 hc]
theorem oJ:bf (full ⟨#[]⟩) 0=0:=by decide +kernel
theorem CL:bf (tN 48) 0=0:=by decide +kernel
theorem CM:full ⟨#[]⟩=tN 48:=by decide +kernel
end
def eZ (n:Int):List Change->List ByteArray
  | []=>[]
  | c::l=>full (dF 111 n (ke c).1)::eZ (n+1) l
theorem gk:∀ (l:List Change) (n:Int),(eZ n l).length=l.length
 | [],_=>rfl
 | c::l,n=>by simp [eZ,gk l]
theorem tW:∀ (l:List Change) (n:Int) (i:Nat) (c:Change),l[i]? = some c->(eZ n l)[i]? = some (full (dF 111 (n+(i:Int)) (ke c).1))
 | [],_,i,c,h=>by simp at h
 | x::l,n,0,c,h=>by
  simp at h;subst h;simp [eZ]
 | x::l,n,i+1,c,h=>by
  simp at h
  have:=tW l (n+1) i c h
  simp only [eZ,List.getElem?_cons_succ]
  rw [this,show n+1+(i:Int)=n+((i+1:Nat):Int) by omega]
theorem CN:∀ (l:List Change) (n:Int) (r:List ByteArray) (out:List (List Change)) (deed:List Change) (used pos:Nat),(∀c∈l,iI c=0) ->
 iJ (eZ n l++r) n out deed used pos=iJ r (n+(l.length:Int)) out (deed++l) used (pos+l.length)
 | [],n,r,out,deed,used,pos,_=>by simp [eZ]
 | c::l,n,r,out,deed,used,pos,h=>by
  have hc:=h c (List.mem_cons_self ..)
  obtain ⟨_,_,h3,h4⟩:=g9 hc
  have hs:(ke c).1.size<=41:=by rw [lA hc];omega
  simp only [eZ,List.cons_append]
  rw [iJ,if_neg (by rw [Mk hs];decide),if_pos (Ml hc n),Mm hc,CN l _ r _ _ _ _ (fun c hc=>h c (List.mem_cons_of_mem _ hc))]
  rw [List.append_assoc,List.length_cons,show n+1+(l.length:Int)=n+((l.length+1:Nat):Int) by omega,show pos+1+l.length=pos+(l.length+1) by omega]
  rfl
theorem Ge {l:List Change}{n:Int}{r:List ByteArray}{out:List (List Change)}{used:Nat}(hl:∀c∈l,iI c=0)(hr:r=[] ∨ ∃s r',r=s::r'/\bf s 0=0) :
 iJ (eZ n l++full (dF 99 (n+(l.length:Int)) (bV (l.length:Int)))::r) n out [] used used=(out++[l],used+l.length+1):=by
 rw [CN l n _ _ _ _ _ hl]
 rw [iJ,List.nil_append,if_pos (Mj _)]
 rcases hr with rfl|⟨s,r',rfl,hs⟩
 .rfl
 .rw [iJ,if_neg (by rw [sU (by omega)];decide),if_neg (by rw [A8 (by omega)];decide)]
end
def oK (c:Change):Bool:=decide (c.Key.size<=20)&&decide (c.Val.size<=40)
def rW (l:List Change)(most:Int):Bool:=decide ((l.length:Int)<=most)&&l.all oK
def oL (a:eh):Bool:=decide (a.S.size<=100)&&rW a.Changes 70
def lN (l:List eh)(most:Int):Bool:=decide ((l.length:Int)<=most)&&l.all oL
theorem vy {α:Type}{p:α->Bool}{l:List α}{k:Nat}{x:α}(hx:l[k]? = some x)(h:p x=false):l.all p=false:=by
 rw [Bool.eq_false_iff];intro h'
 have:=List.all_eq_true.1 h' x (List.mem_of_getElem? hx)
 rw [h] at this;simp at this
theorem JQ {α:Type}{p:α->Bool}{l:List α}{k:Nat}(hk:¬ k<l.length)(h:(l.take k).all p=true):l.all p=true:=by
 rwa [List.take_of_length_le (by omega)] at h
theorem CO {α:Type}{p:α->Bool}{l:List α}{k:Nat}{x:α}(hx:l[k]? = some x)(h:(l.take k).all p=true)(hp:p x=true):(l.take (k+1)).all p=true:=by
 rw [List.take_add_one,hx];simp [List.all_append,h,hp]
theorem wX {l:List eh}{most:Int}(h:lN l most=true):(l.length:Int)<=most:=by
 unfold lN at h;simp only [Bool.and_eq_true,decide_eq_true_eq] at h;exact h.1
section
open Go Go.RowKit
def yB (v:Value):Value:=match v with | .slice a n c => .slice a n c|_ => .slice none 0 0
theorem JR (v:Value):(yB v).oneCell'=true:=by unfold yB;split <;> rfl
theorem Sl.yB {α:Type}[Enc α]{w:World}{v:Value}{l:List α}(h:Sl w v l):YtkbhcbipadkcaaaGreatDoor.yB v=v:=by
 obtain ⟨A,c,rfl,_⟩:=h;rfl
structure ku where
  v0:Value
  L:List Change
abbrev ku.cv (x:ku):Value:=yB x.v0
instance:Enc ku:=⟨1,fun x=>[x.cv],fun _=>rfl,fun x u hu=>by rw [List.mem_singleton.1 hu];exact JR _,by decide⟩
abbrev ku.val (x:ku):Value:=x.cv
def ag.lO (l:List ku):ag:=⟨l.flatMap (fun x=>(ag.ls x.cv x.L).blk),fun w => ∀x∈l,Sl w x.cv x.L,fun w w' h hs x hx=>(ag.ls x.cv x.L).loc w w' (fun k hk=>h k (List.mem_flatMap.2 ⟨x,hx,hk⟩)) (hs x hx)⟩
def ag.p8 (l:List ku)(E:List (List Change)):ag:=⟨(ag.lO l).blk,fun w=>(ag.lO l).ok w/\l.map ku.L=E,fun w w' h hs=>⟨(ag.lO l).loc w w' h hs.1,hs.2⟩⟩
theorem Mn {l:List ku}{x:ku}(hx:x∈l):∀k∈(ag.ls x.cv x.L).blk,k∈(ag.lO l).blk:=fun k hk=>List.mem_flatMap.2 ⟨x,hx,hk⟩
section
variable {P:Program} {n:Nat} {we w:World} {X:List Nat} {B F:List ag} {l:List ku} {x:ku} {v:Value} {L:List Change} {Q:Exit->Act->World->Prop} {k:List It} {ops:List Oper} {rest:List (List Oper)}
theorem Wd.lO (i:Nat)(h:F[i]? = some (ag.lO l))(hw:Wd we X B F w):∀x∈l,Sl w x.cv x.L:=hw.f i h
theorem Wd.T2 (i:Nat)(h:F[i]? = some (ag.lO l))(hx:x∈l)(hw:Wd we X B F w):Sl w x.cv x.L:=hw.f i h x hx
theorem Wd.Si (hw:Wd we X B F w):Wd we X B (ag.lO []::F) w:=hw.fact (r:=ag.lO []) (fun x hx=>by cases hx) (fun k hk=>by cases hk)
theorem Wd.Mp (i j:Nat)(hi:F[i]? = some (ag.lO l))(hj:F[j]? = some (ag.ls v L))(hw:Wd we X B F w):Wd we X B (ag.lO (l++[⟨v,L⟩])::F) w:=by
 have h1:∀x∈l,Sl w x.cv x.L:=hw.f i hi
 have h2:Sl w v L:=hw.bP j hj
 refine hw.fact (r:=ag.lO (l++[⟨v,L⟩])) (fun x hx=>?_) (fun k hk=>?_)
 .
  rcases List.mem_append.1 hx with hx|hx
  .exact h1 x hx
  .rw [List.mem_singleton.1 hx];show Sl w (yB v) L;rw [h2.yB];exact h2
 .
  obtain ⟨x,hx,hk⟩:=List.mem_flatMap.1 hk
  rcases List.mem_append.1 hx with hx|hx
  .exact hw.mj k (bu.2 ⟨_,List.mem_of_getElem? hi,List.mem_flatMap.2 ⟨x,hx,hk⟩⟩)
  .
   rw [List.mem_singleton.1 hx] at hk
   have hk':k∈(ag.ls v L).blk:=by
    have:(ku.mk v L).cv=v:=h2.yB
    rw [this] at hk;exact hk
   exact hw.mj k (bu.2 ⟨_,List.mem_of_getElem? hj,hk'⟩)
theorem Wd.Bd (i:Nat)(hi:F[i]? = some (ag.lO l))(hw:Wd we X B F w):Wd we X B (ag.p8 l (l.map ku.L)::F) w :=
 hw.fact (r:=ag.p8 l (l.map ku.L)) ⟨hw.f i hi,rfl⟩ (fun k hk=>hw.mj k (bu.2 ⟨_,List.mem_of_getElem? hi,hk⟩))
theorem Wd.PQ (i:Nat)(hi:F[i]? = some (ag.lO l))(hx:x∈l)(hw:Wd we X B F w):Wd we X B (ag.ls x.cv x.L::F) w :=
 hw.Rx i _ _ hi (Mn hx) (hw.T2 i hi hx)
theorem Wd.Bf {E:List (List Change)}(i:Nat)(F':List ag)(hi:F[i]? = some (ag.p8 l E))(hF:ag.lO l::F.eraseIdx i=F')(hw:Wd we X B F w):Wd we X B F' w/\l.map ku.L=E:=by
 subst hF
 have h:=hw.f i hi
 refine ⟨?_,h.2⟩
 have h1:=hw.fact (r:=ag.lO l) h.1 (fun k hk=>hw.mj k (bu.2 ⟨_,List.mem_of_getElem? hi,hk⟩))
 refine ⟨h1.upd,h1.okB,fun r hr=>?_,h1.sep,h1.own,fun k hk=>?_⟩
 .
  rcases List.mem_cons.1 hr with rfl|hr
  .exact h.1
  .exact hw.okF r ((List.eraseIdx_sublist F i).subset hr)
 .
  obtain ⟨r,hr,hk⟩:=bu.1 hk
  rcases List.mem_cons.1 hr with rfl|hr
  .exact hw.mj k (bu.2 ⟨_,List.mem_of_getElem? hi,hk⟩)
  .exact hw.mj k (bu.2 ⟨r,(List.eraseIdx_sublist F i).subset hr,hk⟩)
theorem R.PS {L':Fm}{E:List (List Change)}(i:Nat)(F':List ag)(hi:F[i]? = some (ag.p8 l E))(hF:ag.lO l::F.eraseIdx i=F')(h:l.map ku.L=E->Run P n we X Q k L' B F'):Run P n we X Q k L' B F :=
 fun a w ha hw=>h (hw.Bf i F' hi hF).2 a w ha (hw.Bf i F' hi hF).1
theorem Rg.PS {L':Fm}{E:List (List Change)}{rs:List Oper}(i:Nat)(F':List ag)(hi:F[i]? = some (ag.p8 l E))(hF:ag.lO l::F.eraseIdx i=F')(h:l.map ku.L=E->Rg P n we X Q ops rs k L' B F'):Rg P n we X Q ops rs k L' B F :=
 fun a w ha hw=>h (hw.Bf i F' hi hF).2 a w ha (hw.Bf i F' hi hF).1
end
section
variable {P:Program} {n:Nat} {we:World} {X:List Nat} {L:Fm} {B F:List ag} {d:Nat} {ty:TypeId} {pos:String} {ea:Array Edge} {g:Option (Nat×Bool)}
theorem s.Vw {α:Type}[Enc α]{m:Nat}{parts:Array (Nat×Operand)}{t e:TypeId}{l:List α}{vs:List Value}{z:Value}(ht:pw P t=some (e,Enc.k α))(hz:fZ P e=some z)(hzs:z.cells.size=Enc.k α)(hm:l.length=m)(hsmall:Nat.blt (m*Enc.k α) 16777216=true)
 (hp:evs L (parts.toList.map (·.2))=some vs) (hi:parts.toList.map (·.1)=List.range' 0 m) (hv:∀w,Wd we X B F w->vs.map (fun v=>v.cells.toList)=l.map Enc.cells) (hd:Nat.blt d n=true) :
 Stp P n we X L B F ⟨some d,.buildSlice t m parts,ty,pos,ea,g⟩ (fun b:Nat=>(d,.slice (some ⟨b,0,none⟩) m m)::L) (fun b=>ag.row e (.slice (some ⟨b,0,none⟩) m m) l::B) (fun _=>F) :=
 fun K Q' a w ha hw hK=>s.bs ht hz hzs hm hsmall hp hi (hv w hw) hd K Q' a w ha hw hK
theorem Ho {w:World}{v:Value}{L:List Change}(h:Sl w v L) : [v].map (fun v=>v.cells.toList)=[(⟨v,L⟩:ku)].map Enc.cells:=by
 show [v.cells.toList]=[[yB v]]
 rw [h.yB,h.ED]
theorem q.Sj {fn:FuncId}{fs cs:Array Operand}{bnd cap:List Value}(hb:evs L fs.toList=some bnd)(hc:evs L cs.toList=some cap):Qt P n we X L B F (.makeFunc (.func fn) fs cs) ty (.func (.func fn) bnd.toArray cap.toArray):=fun _ _ _ _ a w ha hw=>by
 have hm:cs.map a.eval=cap.toArray:=by rw [<- ha.evs hc,<- Array.toList_map]
 have hn:fs.map a.eval=bnd.toArray:=by rw [<- ha.evs hb,<- Array.toList_map]
 simp [execOp,Instr.makeFunc,hm,hn]
theorem q.min {kd:IntKind}{x y:Operand}{a b r:Int}{ts:Array TypeId}(hx:ev L x=some (.int kd a))(hy:ev L y=some (.int kd b))(hr:min a b=r):Qt P n we X L B F (.call { callee:= .builtin .min,args:= #[x,y],argTypes:=ts }) ty (.int kd r):=fun _ _ _ _ q w ha hw=>by
 have e:(if b<a then b else a)=r:=by rw [<- hr];split <;> omega
 simp [execOp,resolve,invoke,builtin,ha.ev hx,ha.ev hy,Builtin.min_,Builtin.min2,e]
theorem QZ {k:IntKind}{a b:Int}(h:a=b):Value.int k a = .int k b:=by rw [h]
structure yC where
  f:Fn
  b:Array Value
  c:Array Value
abbrev yC.cv (x:yC):Value:= .func x.f x.b x.c
instance:Enc yC:=⟨1,fun x=>[x.cv],fun _=>rfl,fun x u hu=>by rw [List.mem_singleton.1 hu];rfl,by decide⟩
theorem q.Mq {u:Value}{x:yC}{xT:TypeId}{a:Operand}(hu:x.cv=u)(h:Qt P n we X L B F (.load xT a) ty x.cv):Qt P n we X L B F (.load xT a) ty u:=hu▸h
theorem Hq {f:FuncId}{c:Operand}{xs:Array Operand}{ts:Array TypeId}{vs:List Value}{bnd cap:Array Value}{a:Act}{w:World}{dst:Option Nat}(ha:Fr n L a)(hargs:evs L xs.toList=some vs)(hc:ev L c=some (.func (.func f) bnd cap))
 (eg:∀args w,(callFunc f args).run P w = .ok (.enter f args) w):(execOp a.eval ⟨dst,.call { callee:= .value c,args:=xs,argTypes:=ts },ty,pos,ea,g⟩).run P w = .ok (.enter f (bnd.toList++vs++cap.toList).toArray) w:=by
 have hm:xs.map a.eval=vs.toArray:=by
  rw [<- ha.evs hargs,<- Array.toList_map]
 simp [execOp,resolve,ha.ev hc,Deferred.ofValue,invoke,hm,eg]
theorem s.JU {β:Type}{f:FuncId}{c:Operand}{xs:Array Operand}{ts:Array TypeId}{vs:List Value}{bnd cap:Array Value}{B0 Br F0:List ag}(is js:List Nat)(G:β->Value)(B1 F1:β->List ag)(hp:cZ B is=some (B0++Br))(ha':iq is=true)(hj:cZ F js=some F0)
 (eg:∀args w,(callFunc f args).run P w = .ok (.enter f args) w) (hargs:evs L xs.toList=some vs) (hc:ev L c=some (.func (.func f) bnd cap))
 (hcall:∀w own,Wd we X B F w->Wd w (blks B0++own) (B0++[ag.held w own]) F0 w->Calls P f (bnd.toList++vs++cap.toList).toArray w fun e w' => ∃z,e = .returned (G z)/\Wd w (blks B0++own) (B1 z++[ag.held w own]) (F1 z) w') (hd:Nat.blt d n=true) :
 Stp P n we X L B F ⟨some d,.call { callee:= .value c,args:=xs,argTypes:=ts },ty,pos,ea,g⟩ (fun z=>(d,G z)::L) (fun z=>B1 z++Br) (fun z=>F1 z++F):=by
 intro K Q' a w ha hw hK
 have hw2:=hw.LY is hp ha'
 unfold Oper.wp
 rw [Hq ha hargs hc eg,Oper.upon_enter]
 refine (hcall w (blks Br) hw (hw2.Ao hj)).mono fun e w' he=>?_
 obtain ⟨z,rfl,ht⟩:=he
 exact hK z _ _ (ha.put d _ hd) (hw2.after ht)
end
end
section
open Go Go.RowKit
structure Tz where
  C:List Change
structure Sk where
  E:Int
def jg (s:ByteArray)(n:Int):Bool:=decide (s.extract 1 5=bV n)&&(decide (bf s 0=111)||decide (bf s 0=99))&&decide (cL s<=41)
def pj (s:ByteArray)(n:Int):Nat:=if jg s n=true then bf s 0 else 0
def kv (s:ByteArray)(n:Int):ByteArray:=if jg s n=true then ry s else ⟨#[]⟩
section
variable {s:ByteArray} {n k:Int}
theorem wY (h:¬ s.extract 1 5=bV n):jg s n=false:=by unfold jg;simp [h]
theorem wZ (h:¬ bf s 0=111)(h':¬ bf s 0=99):jg s n=false:=by unfold jg;simp [h,h']
theorem nX (h:41<cL s):jg s n=false:=by unfold jg;simp;intros;omega
theorem lB (h:s.extract 1 5=bV n)(h':bf s 0=111∨bf s 0=99)(hl:cL s<=41):jg s n=true:=by
 unfold jg;rcases h' with h'|h' <;> simp [h,h',hl]
theorem j3 (h:jg s n=false):pj s n=0/\kv s n=⟨#[]⟩:=by unfold pj kv;simp [h]
theorem j4 (h:jg s n=true):pj s n=bf s 0/\kv s n=ry s:=by unfold pj kv;simp [h]
theorem w9 (h:jg s n=true):s.extract 1 5=bV n/\(bf s 0=111∨bf s 0=99)/\cL s<=41:=by
 unfold jg at h;simpa [and_assoc] using h
theorem PT (h:jg s n=true)(hk:pj s n=99)(hx:kv s n=bV k):zw s n k=true:=by
 obtain ⟨h1,h2,h3⟩:=w9 h
 obtain ⟨e1,e2⟩:=j4 h
 unfold zw;simp [h1,h3,<- e1,hk,<- e2,hx]
theorem CP (h:jg s n=false):zw s n k=false/\En s n=false:=by
 constructor
 .
  rw [Bool.eq_false_iff];intro hc
  unfold zw at hc;simp only [Bool.and_eq_true,decide_eq_true_eq] at hc
  rw [lB hc.1.1.1 (.inr hc.1.2) hc.1.1.2] at h;cases h
 .
  rw [Bool.eq_false_iff];intro hc
  unfold En at hc;simp only [Bool.and_eq_true,decide_eq_true_eq] at hc
  rw [lB hc.1.1.1 (.inl hc.1.2) hc.1.1.2] at h;cases h
theorem CQ (h:jg s n=true)(hk:pj s n=99)(hx:¬ kv s n=bV k):zw s n k=false/\En s n=false:=by
 obtain ⟨e1,e2⟩:=j4 h
 refine ⟨?_,A8 (by rw [<- e1,hk];decide)⟩
 unfold zw;simp [<- e2,hx]
theorem PU (h:jg s n=true)(hk:¬ pj s n=99)(hp:(rU (kv s n)).2=0):zw s n k=false/\En s n=true/\kv s n=ry s:=by
 obtain ⟨h1,h2,h3⟩:=w9 h
 obtain ⟨e1,e2⟩:=j4 h
 have h4:¬ bf s 0=99:=by rw [<- e1];exact hk
 have h5:bf s 0=111:=h2.resolve_right h4
 refine ⟨sU h4,?_,e2⟩
 unfold En;simp [h1,h3,h5,<- e2,hp]
theorem CR (h:jg s n=true)(hk:¬ pj s n=99)(hp:¬ (rU (kv s n)).2=0):zw s n k=false/\En s n=false:=by
 obtain ⟨e1,e2⟩:=j4 h
 refine ⟨sU (by rw [<- e1];exact hk),?_⟩
 unfold En;simp [<- e2,hp]
theorem EL (hs:s.size=48):(kv s n).size<=48:=by
 unfold kv ry;split
 .rw [ByteArray.size_extract];omega
 .decide
end
def p9 (d:cw)(gp:Int)(many:Nat):List ByteArray:=(List.range many).map fun (i:Nat)=>(bY d (gp+(i:Int))).1
theorem qa (d:cw)(gp:Int)(many:Nat):(p9 d gp many).length=many:=by simp [p9]
theorem qJ {d:cw}{gp:Int}{many i:Nat}(h:i<many):(p9 d gp many)[i]? = some ((bY d (gp+(i:Int))).1):=by
 simp [p9,h]
def lC (d:cw)(gp:Int)(many:Nat)(first:Int):List (List Change):=(scan (p9 d gp many) first).1
def fE (d:cw)(gp:Int)(many:Nat)(first:Int):Nat:=(scan (p9 d gp many) first).2
def kV (lg:Lg):cw->List Change->Nat->cw×Int
  | d,[],i=>(d,0)
  | d,x::r,i =>
    if (ap d (lg.From+lg.Next+(i:Int)) (dF 111 (lg.First+lg.Next+(i:Int)) (ke x).1)).2=0 then kV lg (ap d (lg.From+lg.Next+(i:Int)) (dF 111 (lg.First+lg.Next+(i:Int)) (ke x).1)).1 r (i+1)
    else ap d (lg.From+lg.Next+(i:Int)) (dF 111 (lg.First+lg.Next+(i:Int)) (ke x).1)
def dv (lg:Lg)(d:cw)(c:List Change):cw×Int :=
  if (kV lg d c 0).2=0 then (if lg.Next+(c.length:Int)+1<lg.Many then ap (kV lg d c 0).1 (lg.From+(lg.Next+(c.length:Int)+1)) ⟨#[]⟩ else ((kV lg d c 0).1,0)) else kV lg d c 0
def rX (lg:Lg)(d:cw)(c:List Change):cw×Int:=ai (dv lg d c).1
def sV (lg:Lg)(d:cw)(c:List Change):cw×Int:=ap (rX lg d c).1 (lg.From+(lg.Next+(c.length:Int))) (dF 99 (lg.First+(lg.Next+(c.length:Int))) (bV (c.length:Int)))
def vf (lg:Lg)(d:cw)(c:List Change):cw×Int:=ai (sV lg d c).1
def jH:List Change->Int
  | []=>0
  | x::r=>if iI x=0 then jH r else iI x
def jI (lg:Lg)(c:List Change):Int:=if 62<c.length then 2 else if lg.Many-lg.Next<(c.length:Int)+1 then 9 else jH c
def cx (lg:Lg)(d:cw)(c:List Change):Lg×cw×Int :=
  if ¬ jI lg c=0 then (lg,d,jI lg c)
  else if ¬ (dv lg d c).2=0 then (lg,dv lg d c)
  else if ¬ (rX lg d c).2=0 then (lg,rX lg d c)
  else if ¬ (sV lg d c).2=0 then (lg,sV lg d c)
  else if ¬ (vf lg d c).2=0 then (lg,vf lg d c)
  else (⟨lg.From,lg.Many,lg.First,lg.Next+(c.length:Int)+1⟩,(vf lg d c).1,0)
section
variable {lg:Lg} {d dm:cw} {c:List Change} {i n m:Nat} {x:Change} {Z:cw×Int}
theorem PW (h:kV lg dm (c.drop i) i=Z)(hx:c[i]? = some x)(hw:(ap dm (lg.From+lg.Next+(i:Int)) (dF 111 (lg.First+lg.Next+(i:Int)) (ke x).1)).2=0) :
 kV lg (ap dm (lg.From+lg.Next+(i:Int)) (dF 111 (lg.First+lg.Next+(i:Int)) (ke x).1)).1 (c.drop (i+1)) (i+1)=Z:=by
 rw [drop_at hx] at h;unfold kV at h;rw [if_pos hw] at h;exact h
theorem JV (h:kV lg dm (c.drop i) i=Z)(hx:c[i]? = some x)(hw:¬ (ap dm (lg.From+lg.Next+(i:Int)) (dF 111 (lg.First+lg.Next+(i:Int)) (ke x).1)).2=0) :
 Z=ap dm (lg.From+lg.Next+(i:Int)) (dF 111 (lg.First+lg.Next+(i:Int)) (ke x).1):=by
 rw [drop_at hx] at h;unfold kV at h;rw [if_neg hw] at h;exact h.symm
theorem Gf (h:kV lg dm (c.drop i) i=Z)(hi:c.length<=i):Z=(dm,0):=by
 rw [List.drop_of_length_le hi] at h;unfold kV at h;exact h.symm
theorem Hr (h:Z=kV lg d c 0)(hz:¬ Z.2=0):dv lg d c=(Z.1,Z.2):=by
 unfold dv;rw [<- h,if_neg hz]
theorem JW (h:kV lg d c 0=(dm,0))(hl:lg.Next+(c.length:Int)+1<lg.Many):dv lg d c=((ap dm (lg.From+(lg.Next+(c.length:Int)+1)) ⟨#[]⟩).1,(ap dm (lg.From+(lg.Next+(c.length:Int)+1)) ⟨#[]⟩).2):=by
 unfold dv;rw [h,if_pos rfl,if_pos hl]
theorem Hs (h:kV lg d c 0=(dm,0))(hl:¬ lg.Next+(c.length:Int)+1<lg.Many):dv lg d c=(dm,0):=by
 unfold dv;rw [h,if_pos rfl,if_neg hl]
theorem xa (h:fL n m d)(hd:d.Down=false){i:Int}(h0:0<=i)(h1:i<(n:Int)):(bY d i).2=0/\(bY d i).1.size=48:=by
 have hn:=h.nl
 obtain ⟨x,hx⟩:∃x,d.Now[i.toNat]? = some x:=⟨_,List.getElem?_eq_getElem (by omega)⟩
 rw [pU hd h0 hx]
 exact ⟨rfl,h.ns x (List.mem_of_getElem? hx)⟩
theorem Bg (h:iI x=0):(ke x).2=0/\(ke x).1.size<=41:=by
 obtain ⟨_,_,h3,h4⟩:=g9 h
 exact ⟨by unfold ke;rw [if_pos h],by rw [lA h];omega⟩
theorem Gg:∀ (c:List Change) (d:cw) (i m:Nat),fL n m d->fL n (m+c.length) (kV lg d c i).1
 | [],d,i,m,h=>by unfold kV;simpa using h
 | x::r,d,i,m,h=>by
  unfold kV
  have h1:=h.write (lg.From+lg.Next+(i:Int)) (dF 111 (lg.First+lg.Next+(i:Int)) (ke x).1)
  split
  .
   have:=Gg r _ (i+1) (m+1) h1
   rw [List.length_cons,show m+(r.length+1)=m+1+r.length by omega];exact this
  .exact h1.up (by rw [List.length_cons];omega)
theorem Bh (h:fL n m d):fL n (m+c.length+1) (dv lg d c).1:=by
 have h1:=Gg (lg:=lg) c d 0 m h
 unfold dv
 split
 .
  split
  .exact h1.write _ _
  .exact h1.up (by omega)
 .exact h1.up (by omega)
theorem Gh (h:fL n m d):fL n (m+c.length+1) (rX lg d c).1:=(Bh h).flush
theorem Gi (h:fL n m d):fL n (m+c.length+2) (sV lg d c).1:=(Gh h).write _ _
theorem Gj (h:fL n m d):fL n (m+c.length+2) (vf lg d c).1:=(Gi h).flush
theorem vz (h:fL n m d):fL n (m+c.length+2) (cx lg d c).2.1:=by
 unfold cx
 (repeat' split)
 .exact h.up (by omega)
 .exact (Bh h).up (by omega)
 .exact (Gh h).up (by omega)
 .exact Gi h
 .exact Gj h
 .exact Gj h
theorem qK:∀ {c:List Change},jH c=0 -> ∀x∈c,iI x=0
 | [],_,x,hx=>by cases hx
 | y::r,h,x,hx=>by
  unfold jH at h
  split at h
  .
   rename_i h0
   rcases List.mem_cons.1 hx with rfl|hx
   .exact h0
   .exact qK h x hx
  .exact absurd h (by assumption)
theorem JX {f:Int}(h:jH (c.drop i)=f)(hx:c[i]? = some x)(h0:iI x=0):jH (c.drop (i+1))=f:=by
 rw [drop_at hx] at h;unfold jH at h;rw [if_pos h0] at h;exact h
theorem Bi {f:Int}(h:jH (c.drop i)=f)(hx:c[i]? = some x)(h0:¬ iI x=0):f=iI x:=by
 rw [drop_at hx] at h;unfold jH at h;rw [if_neg h0] at h;exact h.symm
theorem JY {f:Int}(h:jH (c.drop i)=f)(hi:c.length<=i):f=0:=by
 rw [List.drop_of_length_le hi] at h;unfold jH at h;exact h.symm
theorem JZ (h:62<c.length):cx lg d c=(lg,d,2):=by
 have e:jI lg c=2:=by unfold jI;rw [if_pos h]
 unfold cx;rw [e,if_pos (by decide)]
theorem J0 (h:¬ 62<c.length)(h':lg.Many-lg.Next<(c.length:Int)+1):cx lg d c=(lg,d,9):=by
 have e:jI lg c=9:=by unfold jI;rw [if_neg h,if_pos h']
 unfold cx;rw [e,if_pos (by decide)]
theorem Ht {f:Int}(h:¬ 62<c.length)(h':¬ lg.Many-lg.Next<(c.length:Int)+1)(hf:jH c=f)(h0:¬ f=0):cx lg d c=(lg,d,f):=by
 have e:jI lg c=f:=by unfold jI;rw [if_neg h,if_neg h',hf]
 unfold cx;rw [e,if_pos h0]
theorem Bj (h:¬ 62<c.length)(h':¬ lg.Many-lg.Next<(c.length:Int)+1)(hf:jH c=0):jI lg c=0:=by
 unfold jI;rw [if_neg h,if_neg h',hf]
theorem N5 (h:jI lg c=0)(ha:¬ (dv lg d c).2=0):cx lg d c=(lg,(dv lg d c).1,(dv lg d c).2):=by
 unfold cx;rw [if_neg (by omega),if_pos ha]
theorem N6 (h:jI lg c=0)(ha:(dv lg d c).2=0)(hb:¬ (rX lg d c).2=0):cx lg d c=(lg,(rX lg d c).1,(rX lg d c).2):=by
 unfold cx;rw [if_neg (by omega),if_neg (by omega),if_pos hb]
theorem N7 (h:jI lg c=0)(ha:(dv lg d c).2=0)(hb:(rX lg d c).2=0)(hc:¬ (sV lg d c).2=0):cx lg d c=(lg,(sV lg d c).1,(sV lg d c).2):=by
 unfold cx;rw [if_neg (by omega),if_neg (by omega),if_neg (by omega),if_pos hc]
theorem N8 (h:jI lg c=0)(ha:(dv lg d c).2=0)(hb:(rX lg d c).2=0)(hc:(sV lg d c).2=0)(hd:¬ (vf lg d c).2=0):cx lg d c=(lg,(vf lg d c).1,(vf lg d c).2):=by
 unfold cx;rw [if_neg (by omega),if_neg (by omega),if_neg (by omega),if_neg (by omega),if_pos hd]
theorem EM (h:jI lg c=0)(ha:(dv lg d c).2=0)(hb:(rX lg d c).2=0)(hc:(sV lg d c).2=0)(hd:(vf lg d c).2=0):cx lg d c=(⟨lg.From,lg.Many,lg.First,lg.Next+(c.length:Int)+1⟩,(vf lg d c).1,0):=by
 unfold cx;rw [if_neg (by omega),if_neg (by omega),if_neg (by omega),if_neg (by omega),if_neg (by omega)]
end
end
end Go.Proofs.YtkbhcbipadkcaaaGreatDoor
