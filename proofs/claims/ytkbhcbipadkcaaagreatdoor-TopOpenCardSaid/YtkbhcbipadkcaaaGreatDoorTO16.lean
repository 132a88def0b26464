import Derived.Test.YtkbhcbipadkcaaaGreatDoorTO15
namespace Go.Proofs.YtkbhcbipadkcaaaGreatDoor
set_option linter.unusedVariables false
set_option linter.unusedSimpArgs false
section
open Go Go.RowKit
structure Lg where
  From:Int
  Many:Int
  First:Int
  Next:Int
  deriving DecidableEq
def bY (n:Int):ByteArray:=⟨#[u8 (n % 256),u8 (n / 256 % 256),u8 (n / 65536 % 256),u8 (n / 16777216 % 256)]⟩
theorem aF (n:Int):(bY n).size=4:=rfl
theorem pY (n:Int):bl (bY n)=[u8 (n % 256),u8 (n / 256 % 256),u8 (n / 65536 % 256),u8 (n / 16777216 % 256)]:=rfl
theorem Bd {a b:Int}(ha:0<=a/\a<=255)(hb:0<=b/\b<=255)(h:u8 a=u8 b):a=b:=by
 rw [<- mD ha,<- mD hb,h]
theorem Hq {a b:Int}(ha:0<=a/\a<4294967296)(hb:0<=b/\b<4294967296)(h:bY a=bY b):a=b:=by
 have h1:bl (bY a)=bl (bY b):=by rw [h]
 rw [pY,pY] at h1
 simp only [List.cons.injEq,and_true] at h1
 obtain ⟨e0,e1,e2,e3⟩:=h1
 have i0:=Bd (by omega) (by omega) e0
 have i1:=Bd (by omega) (by omega) e1
 have i2:=Bd (by omega) (by omega) e2
 have i3:=Bd (by omega) (by omega) e3
 omega
def dG (k:Int)(n:Int)(s:ByteArray):ByteArray:=⟨#[u8 k]⟩++bY n++⟨#[UInt8.ofNat s.size,UInt8.ofNat (s.size / 256)]⟩++s
theorem Gg (k n:Int)(s:ByteArray):bl (dG k n s)=u8 k::u8 (n % 256)::u8 (n / 256 % 256)::u8 (n / 65536 % 256)::u8 (n / 16777216 % 256)::UInt8.ofNat s.size::UInt8.ofNat (s.size / 256)::bl s:=by
 unfold dG;simp only [iL,pY];rfl
theorem nU (k n:Int)(s:ByteArray):(dG k n s).size=7+s.size:=by
 rw [<- eA,Gg];simp only [List.length_cons,eA];omega
def cQ (s:ByteArray):Nat:=bf s 5+256*bf s 6
def ru (s:ByteArray):ByteArray:=s.extract 7 (7+cQ s)
def zB (s:ByteArray)(n k:Int):Bool:=decide (s.extract 1 5=bY n)&&decide (cQ s<=41)&&decide (bf s 0=99)&&decide (ru s=bY k)
def Es (s:ByteArray)(n:Int):Bool:=decide (s.extract 1 5=bY n)&&decide (cQ s<=41)&&decide (bf s 0=111)&&decide ((rW (ru s)).2=0)
def iH:List ByteArray->Int->List (List Change)->List Change->Nat->Nat->List (List Change)×Nat
  | [],_,out,_,used,_=>(out,used)
  | s::r,n,out,deed,used,pos =>
    if zB s n (deed.length:Int)=true then iH r (n+1) (out++[deed]) [] (pos+1) (pos+1)
    else if Es s n=true then iH r (n+1) out (deed++[(rW (ru s)).1]) used (pos+1)
    else (out,used)
def scan (l:List ByteArray)(first:Int):List (List Change)×Nat:=iH l first [] [] 0 0
section
variable {l:List ByteArray} {first n:Int} {out:List (List Change)} {deed:List Change} {used pos i:Nat} {s:ByteArray} {Z:List (List Change)×Nat}
theorem drop_at {α:Type}{l:List α}{i:Nat}{s:α}(h:l[i]? = some s):l.drop i=s::l.drop (i+1):=by
 obtain ⟨h1,h2⟩:=List.getElem?_eq_some_iff.1 h
 rw [List.drop_eq_getElem_cons h1,h2]
theorem JU (h:iH (l.drop i) (first+(i:Int)) out deed used i=Z)(hs:l[i]? = some s)(hc:zB s (first+(i:Int)) (deed.length:Int)=true) :
 iH (l.drop (i+1)) (first+((i+1:Nat):Int)) (out++[deed]) [] (i+1) (i+1)=Z:=by
 rw [drop_at hs] at h
 unfold iH at h
 rw [if_pos hc] at h
 rw [show first+((i+1:Nat):Int)=first+(i:Int)+1 by omega]
 exact h
theorem Mk (h:iH (l.drop i) (first+(i:Int)) out deed used i=Z)(hs:l[i]? = some s)(hc:zB s (first+(i:Int)) (deed.length:Int)=false)(ho:Es s (first+(i:Int))=true) :
 iH (l.drop (i+1)) (first+((i+1:Nat):Int)) out (deed++[(rW (ru s)).1]) used (i+1)=Z:=by
 rw [drop_at hs] at h
 unfold iH at h
 rw [if_neg (by rw [hc];decide),if_pos ho] at h
 rw [show first+((i+1:Nat):Int)=first+(i:Int)+1 by omega]
 exact h
theorem Bf (h:iH (l.drop i) (first+(i:Int)) out deed used i=Z)(hs:l[i]? = some s)(hc:zB s (first+(i:Int)) (deed.length:Int)=false)(ho:Es s (first+(i:Int))=false):Z=(out,used):=by
 rw [drop_at hs] at h
 unfold iH at h
 rw [if_neg (by rw [hc];decide),if_neg (by rw [ho];decide)] at h
 exact h.symm
theorem PO (h:iH (l.drop i) (first+(i:Int)) out deed used i=Z)(hl:l.length<=i):Z=(out,used):=by
 rw [List.drop_of_length_le hl] at h
 exact h.symm
theorem sW {k:Int}(h:¬ bf s 0=99):zB s n k=false:=by unfold zB;simp [h]
theorem Bg (h:¬ bf s 0=111):Es s n=false:=by unfold Es;simp [h]
theorem Bh:∀ (l:List ByteArray) (n:Int) (out:List (List Change)) (deed:List Change) (used pos:Nat),
 iH l n out deed used pos=(out,used)\/(pos<(iH l n out deed used pos).2/\(iH l n out deed used pos).2<=pos+l.length /\
  ∀l':List ByteArray,l'.take ((iH l n out deed used pos).2-pos)=l.take ((iH l n out deed used pos).2-pos) ->
   iH l' n out deed used pos=iH (l'.drop ((iH l n out deed used pos).2-pos)) (n+(((iH l n out deed used pos).2-pos:Nat):Int)) (iH l n out deed used pos).1 [] (iH l n out deed used pos).2 (iH l n out deed used pos).2)
 | [],n,out,deed,used,pos => .inl rfl
 | s::r,n,out,deed,used,pos=>by
  have key:∀ (out':List (List Change)) (m4:List Change) (m5:Nat),iH (s::r) n out deed used pos=iH r (n+1) out' m4 m5 (pos+1) ->
   (∀r',iH (s::r') n out deed used pos=iH r' (n+1) out' m4 m5 (pos+1)) ->
   (pos+1<(iH r (n+1) out' m4 m5 (pos+1)).2/\(iH r (n+1) out' m4 m5 (pos+1)).2<=pos+1+r.length /\
    ∀l':List ByteArray,l'.take ((iH r (n+1) out' m4 m5 (pos+1)).2-(pos+1))=r.take ((iH r (n+1) out' m4 m5 (pos+1)).2-(pos+1)) ->
     iH l' (n+1) out' m4 m5 (pos+1)=iH (l'.drop ((iH r (n+1) out' m4 m5 (pos+1)).2-(pos+1))) (n+1+(((iH r (n+1) out' m4 m5 (pos+1)).2-(pos+1):Nat):Int)) (iH r (n+1) out' m4 m5 (pos+1)).1 [] (iH r (n+1) out' m4 m5 (pos+1)).2 (iH r (n+1) out' m4 m5 (pos+1)).2) ->
   (pos<(iH (s::r) n out deed used pos).2/\(iH (s::r) n out deed used pos).2<=pos+(s::r).length /\
    ∀l':List ByteArray,l'.take ((iH (s::r) n out deed used pos).2-pos)=(s::r).take ((iH (s::r) n out deed used pos).2-pos) ->
     iH l' n out deed used pos=iH (l'.drop ((iH (s::r) n out deed used pos).2-pos)) (n+(((iH (s::r) n out deed used pos).2-pos:Nat):Int)) (iH (s::r) n out deed used pos).1 [] (iH (s::r) n out deed used pos).2 (iH (s::r) n out deed used pos).2):=by
   intro out' m4 m5 e e' h
   rw [e]
   generalize iH r (n+1) out' m4 m5 (pos+1)=R at h
   obtain ⟨h1,h2,h3⟩:=h
   refine ⟨by omega,by rw [List.length_cons];omega,fun l' hl'=>?_⟩
   obtain ⟨m,hm⟩:∃m,R.2-pos=m+1:=⟨R.2-pos-1,by omega⟩
   have hm':R.2-(pos+1)=m:=by omega
   rw [hm] at hl' ⊢
   rw [hm'] at h3
   cases l' with
   | nil=>simp at hl'
   | cons s' r' =>
    rw [List.take_succ_cons,List.take_succ_cons] at hl'
    injection hl' with q1 q2
    subst q1
    rw [e',h3 r' q2,List.drop_succ_cons]
    rw [show n+1+(m:Int)=n+((m+1:Nat):Int) by omega]
  by_cases hc:zB s n (deed.length:Int)=true
  .
   right
   have e:∀r',iH (s::r') n out deed used pos=iH r' (n+1) (out++[deed]) [] (pos+1) (pos+1):=fun r'=>by rw [iH,if_pos hc]
   rcases Bh r (n+1) (out++[deed]) [] (pos+1) (pos+1) with h|h
   .
    rw [e r,h]
    refine ⟨by omega,by rw [List.length_cons];omega,fun l' hl'=>?_⟩
    dsimp only at hl' ⊢
    rw [show pos+1-pos=1 by omega] at hl' ⊢
    cases l' with
    | nil=>simp at hl'
    | cons s' r' =>
     rw [List.take_succ_cons,List.take_succ_cons] at hl'
     injection hl' with q1 q2
     subst q1
     rw [e];rfl
   .exact key _ _ _ (e r) e h
  .
   by_cases ho:Es s n=true
   .
    have e:∀r',iH (s::r') n out deed used pos=iH r' (n+1) out (deed++[(rW (ru s)).1]) used (pos+1):=fun r'=>by rw [iH,if_neg hc,if_pos ho]
    rcases Bh r (n+1) out (deed++[(rW (ru s)).1]) used (pos+1) with h|h
    .left;rw [e r,h]
    .right;exact key _ _ _ (e r) e h
   .left;rw [iH,if_neg hc,if_neg ho]
theorem Gh (l:List ByteArray)(first:Int):(scan l first).2<=l.length:=by
 rcases Bh l first [] [] 0 0 with h|⟨_,h,_⟩
 .unfold scan;rw [h];exact Nat.zero_le _
 .unfold scan;omega
theorem wY {l l':List ByteArray}{first:Int}(h:l'.take (scan l first).2=l.take (scan l first).2) :
 scan l' first=iH (l'.drop (scan l first).2) (first+((scan l first).2:Int)) (scan l first).1 [] (scan l first).2 (scan l first).2:=by
 rcases Bh l first [] [] 0 0 with h1|⟨_,_,h1⟩
 .
  have e:scan l first=([],0):=h1
  rw [e];simp [scan]
 .
  unfold scan at h ⊢
  exact h1 l' (by simpa using h)
end
theorem PQ (n:Nat):bl (tP n)=List.replicate n 0:=by simp [bl,tP]
theorem Bi (s:ByteArray):bl (full s)=bl s++List.replicate (48-s.size) 0:=by unfold full;rw [iL,PQ]
section
variable {k n:Int} {s:ByteArray}
theorem pZ (hs:s.size<=41):bl (full (dG k n s))=u8 k::u8 (n % 256)::u8 (n / 256 % 256)::u8 (n / 65536 % 256)::u8 (n / 16777216 % 256)::UInt8.ofNat s.size::UInt8.ofNat (s.size / 256)::(bl s++List.replicate (41-s.size) 0):=by
 rw [Bi,Gg,nU,show 48-(7+s.size)=41-s.size by omega];rfl
theorem p6 (hs:s.size<=41):bf (full (dG k n s)) 0=(u8 k).toNat:=by rw [hX,pZ hs];rfl
theorem nV (hs:s.size<=41):(full (dG k n s)).extract 1 5=bY n:=gR (by
 have:=je (full (dG k n s)) 1 5
 rw [pZ hs] at this
 refine this.trans ?_
 rfl)
theorem Bj (hs:s.size<=41):cQ (full (dG k n s))=s.size:=by
 unfold cQ
 have b5:bf (full (dG k n s)) 5=s.size:=by rw [hX,pZ hs];exact nT (by omega)
 have b6:bf (full (dG k n s)) 6=0:=by rw [hX,pZ hs];show (UInt8.ofNat (s.size / 256)).toNat=0;rw [nT (by omega)];omega
 rw [b5,b6];omega
theorem Bm (hs:s.size<=41):ru (full (dG k n s))=s:=by
 unfold ru
 rw [Bj hs]
 exact gR (by
  have:=je (full (dG k n s)) 7 (7+s.size)
  rw [pZ hs] at this
  refine this.trans ?_
  rw [show 7+s.size=s.size+1+1+1+1+1+1+1 by omega]
  simp only [List.take_succ_cons,List.drop_succ_cons,List.drop_zero]
  rw [<- eA s,List.take_left])
theorem Ml {c:Int}(n:Int):zB (full (dG 99 n (bY c))) n c=true:=by
 have h:(bY c).size<=41:=by rw [aF];omega
 unfold zB
 rw [nV h,Bj h,p6 h,Bm h,aF]
 simp;rfl
theorem Mm {c:Int}(hs:s.size<=41)(n m:Int):zB (full (dG 111 n s)) m c=false:=sW (by rw [p6 hs];decide)
theorem Mn {c:Change}(hc:iG c=0)(n:Int):Es (full (dG 111 n (ka c).1)) n=true:=by
 have h:(ka c).1.size<=41:=by
  obtain ⟨_,_,h3,h4⟩:=hG hc
  rw [ly hc];omega
 unfold Es
 rw [nV h,Bj h,p6 h,Bm h,Gc hc]
 simp [h];rfl
theorem Mp {c:Change}(hc:iG c=0)(n:Int):(rW (ru (full (dG 111 n (ka c).1)))).1=c:=by
 have h:(ka c).1.size<=41:=by
  obtain ⟨_,_,h3,h4⟩:=hG hc
  rw [ly hc];omega
 rw [Bm h,Gc hc]
theorem oH:bf (full ⟨#[]⟩) 0=0:=by decide +kernel
theorem CP:bf (tP 48) 0=0:=by decide +kernel
theorem CQ:full ⟨#[]⟩=tP 48:=by decide +kernel
end
def e9 (n:Int):List Change->List ByteArray
  | []=>[]
  | c::l=>full (dG 111 n (ka c).1)::e9 (n+1) l
theorem gp:∀ (l:List Change) (n:Int),(e9 n l).length=l.length
 | [],_=>rfl
 | c::l,n=>by simp [e9,gp l]
theorem tY:∀ (l:List Change) (n:Int) (i:Nat) (c:Change),l[i]? = some c->(e9 n l)[i]? = some (full (dG 111 (n+(i:Int)) (ka c).1))
 | [],_,i,c,h=>by simp at h
 | x::l,n,0,c,h=>by
  simp at h;subst h;simp [e9]
 | x::l,n,i+1,c,h=>by
  simp at h
  have:=tY l (n+1) i c h
  simp only [e9,List.getElem?_cons_succ]
  rw [this,show n+1+(i:Int)=n+((i+1:Nat):Int) by omega]
theorem CR:∀ (l:List Change) (n:Int) (r:List ByteArray) (out:List (List Change)) (deed:List Change) (used pos:Nat),(∀c∈l,iG c=0) ->
 iH (e9 n l++r) n out deed used pos=iH r (n+(l.length:Int)) out (deed++l) used (pos+l.length)
 | [],n,r,out,deed,used,pos,_=>by simp [e9]
 | c::l,n,r,out,deed,used,pos,h=>by
  have hc:=h c (List.mem_cons_self ..)
  obtain ⟨_,_,h3,h4⟩:=hG hc
  have hs:(ka c).1.size<=41:=by rw [ly hc];omega
  simp only [e9,List.cons_append]
  rw [iH,if_neg (by rw [Mm hs];decide),if_pos (Mn hc n),Mp hc,CR l _ r _ _ _ _ (fun c hc=>h c (List.mem_cons_of_mem _ hc))]
  rw [List.append_assoc,List.length_cons,show n+1+(l.length:Int)=n+((l.length+1:Nat):Int) by omega,show pos+1+l.length=pos+(l.length+1) by omega]
  rfl
theorem Gi {l:List Change}{n:Int}{r:List ByteArray}{out:List (List Change)}{used:Nat}(hl:∀c∈l,iG c=0)(hr:r=[] \/ ∃s r',r=s::r'/\bf s 0=0) :
 iH (e9 n l++full (dG 99 (n+(l.length:Int)) (bY (l.length:Int)))::r) n out [] used used=(out++[l],used+l.length+1):=by
 rw [CR l n _ _ _ _ _ hl]
 rw [iH,List.nil_append,if_pos (Ml _)]
 rcases hr with rfl|⟨s,r',rfl,hs⟩
 .rfl
 .rw [iH,if_neg (by rw [sW (by omega)];decide),if_neg (by rw [Bg (by omega)];decide)]
end
def oI (c:Change):Bool:=decide (c.Key.size<=20)&&decide (c.Val.size<=40)
def rY (l:List Change)(most:Int):Bool:=decide ((l.length:Int)<=most)&&l.all oI
def oJ (a:ej):Bool:=decide (a.S.size<=100)&&rY a.Changes 70
def lK (l:List ej)(most:Int):Bool:=decide ((l.length:Int)<=most)&&l.all oJ
theorem vy {α:Type}{p:α->Bool}{l:List α}{k:Nat}{x:α}(hx:l[k]? = some x)(h:p x=false):l.all p=false:=by
 rw [Bool.eq_false_iff];intro h'
 have:=List.all_eq_true.1 h' x (List.mem_of_getElem? hx)
 rw [h] at this;simp at this
theorem JV {α:Type}{p:α->Bool}{l:List α}{k:Nat}(hk:¬ k<l.length)(h:(l.take k).all p=true):l.all p=true:=by
 rwa [List.take_of_length_le (by omega)] at h
theorem CS {α:Type}{p:α->Bool}{l:List α}{k:Nat}{x:α}(hx:l[k]? = some x)(h:(l.take k).all p=true)(hp:p x=true):(l.take (k+1)).all p=true:=by
 rw [List.take_add_one,hx];simp [List.all_append,h,hp]
theorem wZ {l:List ej}{most:Int}(h:lK l most=true):(l.length:Int)<=most:=by
 unfold lK at h;simp only [Bool.and_eq_true,decide_eq_true_eq] at h;exact h.1
section
open Go Go.RowKit
def yF (v:Value):Value:=match v with | .slice a n c => .slice a n c|_ => .slice none 0 0
theorem JW (v:Value):(yF v).oneCell'=true:=by unfold yF;split <;> rfl
theorem Sl.yF {α:Type}[Enc α]{w:World}{v:Value}{l:List α}(h:Sl w v l):YtkbhcbipadkcaaaGreatDoor.yF v=v:=by
 obtain ⟨A,c,rfl,_⟩:=h;rfl
structure kE where
  v0:Value
  L:List Change
abbrev kE.cv (x:kE):Value:=yF x.v0
instance:Enc kE:=⟨1,fun x=>[x.cv],fun _=>rfl,fun x u hu=>by rw [List.mem_singleton.1 hu];exact JW _,by decide⟩
abbrev kE.val (x:kE):Value:=x.cv
def af.lL (l:List kE):af:=⟨l.flatMap (fun x=>(af.ls x.cv x.L).blk),fun w => ∀x∈l,Sl w x.cv x.L,fun w w' h hs x hx=>(af.ls x.cv x.L).loc w w' (fun k hk=>h k (List.mem_flatMap.2 ⟨x,hx,hk⟩)) (hs x hx)⟩
def af.p7 (l:List kE)(E:List (List Change)):af:=⟨(af.lL l).blk,fun w=>(af.lL l).ok w/\l.map kE.L=E,fun w w' h hs=>⟨(af.lL l).loc w w' h hs.1,hs.2⟩⟩
theorem Mq {l:List kE}{x:kE}(hx:x∈l):∀k∈(af.ls x.cv x.L).blk,k∈(af.lL l).blk:=fun k hk=>List.mem_flatMap.2 ⟨x,hx,hk⟩
section
variable {P:Program} {n:Nat} {we w:World} {X:List Nat} {B F:List af} {l:List kE} {x:kE} {v:Value} {L:List Change} {Q:Exit->Act->World->Prop} {k:List It} {ops:List Oper} {rest:List (List Oper)}
theorem Wd.lL (i:Nat)(h:F[i]? = some (af.lL l))(hw:Wd we X B F w):∀x∈l,Sl w x.cv x.L:=hw.f i h
theorem Wd.T3 (i:Nat)(h:F[i]? = some (af.lL l))(hx:x∈l)(hw:Wd we X B F w):Sl w x.cv x.L:=hw.f i h x hx
theorem Wd.Sj (hw:Wd we X B F w):Wd we X B (af.lL []::F) w:=hw.fact (r:=af.lL []) (fun x hx=>by cases hx) (fun k hk=>by cases hk)
theorem Wd.Mr (i j:Nat)(hi:F[i]? = some (af.lL l))(hj:F[j]? = some (af.ls v L))(hw:Wd we X B F w):Wd we X B (af.lL (l++[⟨v,L⟩])::F) w:=by
 have h1:∀x∈l,Sl w x.cv x.L:=hw.f i hi
 have h2:Sl w v L:=hw.bT j hj
 refine hw.fact (r:=af.lL (l++[⟨v,L⟩])) (fun x hx=>?_) (fun k hk=>?_)
 .
  rcases List.mem_append.1 hx with hx|hx
  .exact h1 x hx
  .rw [List.mem_singleton.1 hx];show Sl w (yF v) L;rw [h2.yF];exact h2
 .
  obtain ⟨x,hx,hk⟩:=List.mem_flatMap.1 hk
  rcases List.mem_append.1 hx with hx|hx
  .exact hw.my k (bu.2 ⟨_,List.mem_of_getElem? hi,List.mem_flatMap.2 ⟨x,hx,hk⟩⟩)
  .
   rw [List.mem_singleton.1 hx] at hk
   have hk':k∈(af.ls v L).blk:=by
    have:(kE.mk v L).cv=v:=h2.yF
    rw [this] at hk;exact hk
   exact hw.my k (bu.2 ⟨_,List.mem_of_getElem? hj,hk'⟩)
theorem Wd.Bn (i:Nat)(hi:F[i]? = some (af.lL l))(hw:Wd we X B F w):Wd we X B (af.p7 l (l.map kE.L)::F) w :=
 hw.fact (r:=af.p7 l (l.map kE.L)) ⟨hw.f i hi,rfl⟩ (fun k hk=>hw.my k (bu.2 ⟨_,List.mem_of_getElem? hi,hk⟩))
theorem Wd.PS (i:Nat)(hi:F[i]? = some (af.lL l))(hx:x∈l)(hw:Wd we X B F w):Wd we X B (af.ls x.cv x.L::F) w :=
 hw.Ry i _ _ hi (Mq hx) (hw.T3 i hi hx)
theorem Wd.Bo {E:List (List Change)}(i:Nat)(F':List af)(hi:F[i]? = some (af.p7 l E))(hF:af.lL l::F.eraseIdx i=F')(hw:Wd we X B F w):Wd we X B F' w/\l.map kE.L=E:=by
 subst hF
 have h:=hw.f i hi
 refine ⟨?_,h.2⟩
 have h1:=hw.fact (r:=af.lL l) h.1 (fun k hk=>hw.my k (bu.2 ⟨_,List.mem_of_getElem? hi,hk⟩))
 refine ⟨h1.upd,h1.okB,fun r hr=>?_,h1.sep,h1.own,fun k hk=>?_⟩
 .
  rcases List.mem_cons.1 hr with rfl|hr
  .exact h.1
  .exact hw.okF r ((List.eraseIdx_sublist F i).subset hr)
 .
  obtain ⟨r,hr,hk⟩:=bu.1 hk
  rcases List.mem_cons.1 hr with rfl|hr
  .exact hw.my k (bu.2 ⟨_,List.mem_of_getElem? hi,hk⟩)
  .exact hw.my k (bu.2 ⟨r,(List.eraseIdx_sublist F i).subset hr,hk⟩)
theorem R.PT {L':Fm}{E:List (List Change)}(i:Nat)(F':List af)(hi:F[i]? = some (af.p7 l E))(hF:af.lL l::F.eraseIdx i=F')(h:l.map kE.L=E->Run P n we X Q k L' B F'):Run P n we X Q k L' B F :=
 fun a w ha hw=>h (hw.Bo i F' hi hF).2 a w ha (hw.Bo i F' hi hF).1
theorem Rg.PT {L':Fm}{E:List (List Change)}{rs:List Oper}(i:Nat)(F':List af)(hi:F[i]? = some (af.p7 l E))(hF:af.lL l::F.eraseIdx i=F')(h:l.map kE.L=E->Rg P n we X Q ops rs k L' B F'):Rg P n we X Q ops rs k L' B F :=
 fun a w ha hw=>h (hw.Bo i F' hi hF).2 a w ha (hw.Bo i F' hi hF).1
end
section
variable {P:Program} {n:Nat} {we:World} {X:List Nat} {L:Fm} {B F:List af} {d:Nat} {ty:TypeId} {pos:String} {ec:Array Edge} {g:Option (Nat×Bool)}
theorem s.Vw {α:Type}[Enc α]{m:Nat}{parts:Array (Nat×Operand)}{t e:TypeId}{l:List α}{vs:List Value}{z:Value}(ht:po P t=some (e,Enc.k α))(hz:gh P e=some z)(hzs:z.cells.size=Enc.k α)(hm:l.length=m)(hsmall:Nat.blt (m*Enc.k α) 16777216=true)
 (hp:evs L (parts.toList.map (·.2))=some vs) (hi:parts.toList.map (·.1)=List.range' 0 m) (hv:∀w,Wd we X B F w->vs.map (fun v=>v.cells.toList)=l.map Enc.cells) (hd:Nat.blt d n=true) :
 Stp P n we X L B F ⟨some d,.buildSlice t m parts,ty,pos,ec,g⟩ (fun b:Nat=>(d,.slice (some ⟨b,0,none⟩) m m)::L) (fun b=>af.row e (.slice (some ⟨b,0,none⟩) m m) l::B) (fun _=>F) :=
 fun K Q' a w ha hw hK=>s.bs ht hz hzs hm hsmall hp hi (hv w hw) hd K Q' a w ha hw hK
theorem Hr {w:World}{v:Value}{L:List Change}(h:Sl w v L) : [v].map (fun v=>v.cells.toList)=[(⟨v,L⟩:kE)].map Enc.cells:=by
 show [v.cells.toList]=[[yF v]]
 rw [h.yF,h.EF]
theorem q.Sk {fn:FuncId}{fs cs:Array Operand}{bnd cap:List Value}(hb:evs L fs.toList=some bnd)(hc:evs L cs.toList=some cap):Qt P n we X L B F (.makeFunc (.func fn) fs cs) ty (.func (.func fn) bnd.toArray cap.toArray):=fun _ _ _ _ a w ha hw=>by
 have hm:cs.map a.eval=cap.toArray:=by rw [<- ha.evs hc,<- Array.toList_map]
 have hn:fs.map a.eval=bnd.toArray:=by rw [<- ha.evs hb,<- Array.toList_map]
 simp [execOp,Instr.makeFunc,hm,hn]
theorem q.min {kd:IntKind}{x y:Operand}{a b r:Int}{ts:Array TypeId}(hx:ev L x=some (.int kd a))(hy:ev L y=some (.int kd b))(hr:min a b=r):Qt P n we X L B F (.call { callee:= .builtin .min,args:= #[x,y],argTypes:=ts }) ty (.int kd r):=fun _ _ _ _ q w ha hw=>by
 have e:(if b<a then b else a)=r:=by rw [<- hr];split <;> omega
 simp [execOp,resolve,invoke,builtin,ha.ev hx,ha.ev hy,Builtin.min_,Builtin.min2,e]
theorem Q0 {k:IntKind}{a b:Int}(h:a=b):Value.int k a = .int k b:=by rw [h]
structure yG where
  f:Fn
  b:Array Value
  c:Array Value
abbrev yG.cv (x:yG):Value:= .func x.f x.b x.c
instance:Enc yG:=⟨1,fun x=>[x.cv],fun _=>rfl,fun x u hu=>by rw [List.mem_singleton.1 hu];rfl,by decide⟩
theorem q.Ms {u:Value}{x:yG}{xT:TypeId}{a:Operand}(hu:x.cv=u)(h:Qt P n we X L B F (.load xT a) ty x.cv):Qt P n we X L B F (.load xT a) ty u:=hu▸h
theorem Hs {f:FuncId}{c:Operand}{xs:Array Operand}{ts:Array TypeId}{vs:List Value}{bnd cap:Array Value}{a:Act}{w:World}{dst:Option Nat}(ha:Fr n L a)(hargs:evs L xs.toList=some vs)(hc:ev L c=some (.func (.func f) bnd cap))
 (eg:∀args w,(callFunc f args).run P w = .ok (.enter f args) w):(execOp a.eval ⟨dst,.call { callee:= .value c,args:=xs,argTypes:=ts },ty,pos,ec,g⟩).run P w = .ok (.enter f (bnd.toList++vs++cap.toList).toArray) w:=by
 have hm:xs.map a.eval=vs.toArray:=by
  rw [<- ha.evs hargs,<- Array.toList_map]
 simp [execOp,resolve,ha.ev hc,Deferred.ofValue,invoke,hm,eg]
theorem s.JX {β:Type}{f:FuncId}{c:Operand}{xs:Array Operand}{ts:Array TypeId}{vs:List Value}{bnd cap:Array Value}{B0 Br F0:List af}(is js:List Nat)(G:β->Value)(B1 F1:β->List af)(hp:dN B is=some (B0++Br))(ha':iU is=true)(hj:dN F js=some F0)
 (eg:∀args w,(callFunc f args).run P w = .ok (.enter f args) w) (hargs:evs L xs.toList=some vs) (hc:ev L c=some (.func (.func f) bnd cap))
 (hcall:∀w own,Wd we X B F w->Wd w (blks B0++own) (B0++[af.held w own]) F0 w->Calls P f (bnd.toList++vs++cap.toList).toArray w fun e w' => ∃z,e = .returned (G z)/\Wd w (blks B0++own) (B1 z++[af.held w own]) (F1 z) w') (hd:Nat.blt d n=true) :
 Stp P n we X L B F ⟨some d,.call { callee:= .value c,args:=xs,argTypes:=ts },ty,pos,ec,g⟩ (fun z=>(d,G z)::L) (fun z=>B1 z++Br) (fun z=>F1 z++F):=by
 intro K Q' a w ha hw hK
 have hw2:=hw.L5 is hp ha'
 unfold Oper.wp
 rw [Hs ha hargs hc eg,Oper.upon_enter]
 refine (hcall w (blks Br) hw (hw2.Av hj)).mono fun e w' he=>?_
 obtain ⟨z,rfl,ht⟩:=he
 exact hK z _ _ (ha.put d _ hd) (hw2.after ht)
end
end
section
open Go Go.RowKit
structure TA where
  C:List Change
structure Sm where
  E:Int
def jf (s:ByteArray)(n:Int):Bool:=decide (s.extract 1 5=bY n)&&(decide (bf s 0=111)||decide (bf s 0=99))&&decide (cQ s<=41)
def pg (s:ByteArray)(n:Int):Nat:=if jf s n=true then bf s 0 else 0
def ko (s:ByteArray)(n:Int):ByteArray:=if jf s n=true then ru s else ⟨#[]⟩
section
variable {s:ByteArray} {n k:Int}
theorem w9 (h:¬ s.extract 1 5=bY n):jf s n=false:=by unfold jf;simp [h]
theorem xa (h:¬ bf s 0=111)(h':¬ bf s 0=99):jf s n=false:=by unfold jf;simp [h,h']
theorem nW (h:41<cQ s):jf s n=false:=by unfold jf;simp;intros;omega
theorem lz (h:s.extract 1 5=bY n)(h':bf s 0=111\/bf s 0=99)(hl:cQ s<=41):jf s n=true:=by
 unfold jf;rcases h' with h'|h' <;> simp [h,h',hl]
theorem j1 (h:jf s n=false):pg s n=0/\ko s n=⟨#[]⟩:=by unfold pg ko;simp [h]
theorem j2 (h:jf s n=true):pg s n=bf s 0/\ko s n=ru s:=by unfold pg ko;simp [h]
theorem xb (h:jf s n=true):s.extract 1 5=bY n/\(bf s 0=111\/bf s 0=99)/\cQ s<=41:=by
 unfold jf at h;simpa [and_assoc] using h
theorem PU (h:jf s n=true)(hk:pg s n=99)(hx:ko s n=bY k):zB s n k=true:=by
 obtain ⟨h1,h2,h3⟩:=xb h
 obtain ⟨e1,e2⟩:=j2 h
 unfold zB;simp [h1,h3,<- e1,hk,<- e2,hx]
theorem CU (h:jf s n=false):zB s n k=false/\Es s n=false:=by
 constructor
 .
  rw [Bool.eq_false_iff];intro hc
  unfold zB at hc;simp only [Bool.and_eq_true,decide_eq_true_eq] at hc
  rw [lz hc.1.1.1 (.inr hc.1.2) hc.1.1.2] at h;cases h
 .
  rw [Bool.eq_false_iff];intro hc
  unfold Es at hc;simp only [Bool.and_eq_true,decide_eq_true_eq] at hc
  rw [lz hc.1.1.1 (.inl hc.1.2) hc.1.1.2] at h;cases h
theorem CV (h:jf s n=true)(hk:pg s n=99)(hx:¬ ko s n=bY k):zB s n k=false/\Es s n=false:=by
 obtain ⟨e1,e2⟩:=j2 h
 refine ⟨?_,Bg (by rw [<- e1,hk];decide)⟩
 unfold zB;simp [<- e2,hx]
theorem PW (h:jf s n=true)(hk:¬ pg s n=99)(hp:(rW (ko s n)).2=0):zB s n k=false/\Es s n=true/\ko s n=ru s:=by
 obtain ⟨h1,h2,h3⟩:=xb h
 obtain ⟨e1,e2⟩:=j2 h
 have h4:¬ bf s 0=99:=by rw [<- e1];exact hk
 have h5:bf s 0=111:=h2.resolve_right h4
 refine ⟨sW h4,?_,e2⟩
 unfold Es;simp [h1,h3,h5,<- e2,hp]
theorem CW (h:jf s n=true)(hk:¬ pg s n=99)(hp:¬ (rW (ko s n)).2=0):zB s n k=false/\Es s n=false:=by
 obtain ⟨e1,e2⟩:=j2 h
 refine ⟨sW (by rw [<- e1];exact hk),?_⟩
 unfold Es;simp [<- e2,hp]
theorem EO (hs:s.size=48):(ko s n).size<=48:=by
 unfold ko ru;split
 .rw [ByteArray.size_extract];omega
 .decide
end
def p8 (d:cD)(gq:Int)(many:Nat):List ByteArray:=(List.range many).map fun (i:Nat)=>(cd d (gq+(i:Int))).1
theorem p9 (d:cD)(gq:Int)(many:Nat):(p8 d gq many).length=many:=by simp [p8]
theorem qJ {d:cD}{gq:Int}{many i:Nat}(h:i<many):(p8 d gq many)[i]? = some ((cd d (gq+(i:Int))).1):=by
 simp [p8,h]
def lA (d:cD)(gq:Int)(many:Nat)(first:Int):List (List Change):=(scan (p8 d gq many) first).1
def fG (d:cD)(gq:Int)(many:Nat)(first:Int):Nat:=(scan (p8 d gq many) first).2
def kS (lg:Lg):cD->List Change->Nat->cD×Int
  | d,[],i=>(d,0)
  | d,x::r,i =>
    if (au d (lg.From+lg.Next+(i:Int)) (dG 111 (lg.First+lg.Next+(i:Int)) (ka x).1)).2=0 then kS lg (au d (lg.From+lg.Next+(i:Int)) (dG 111 (lg.First+lg.Next+(i:Int)) (ka x).1)).1 r (i+1)
    else au d (lg.From+lg.Next+(i:Int)) (dG 111 (lg.First+lg.Next+(i:Int)) (ka x).1)
def dx (lg:Lg)(d:cD)(c:List Change):cD×Int :=
  if (kS lg d c 0).2=0 then (if lg.Next+(c.length:Int)+1<lg.Many then au (kS lg d c 0).1 (lg.From+(lg.Next+(c.length:Int)+1)) ⟨#[]⟩ else ((kS lg d c 0).1,0)) else kS lg d c 0
def rZ (lg:Lg)(d:cD)(c:List Change):cD×Int:=ai (dx lg d c).1
def sX (lg:Lg)(d:cD)(c:List Change):cD×Int:=au (rZ lg d c).1 (lg.From+(lg.Next+(c.length:Int))) (dG 99 (lg.First+(lg.Next+(c.length:Int))) (bY (c.length:Int)))
def vf (lg:Lg)(d:cD)(c:List Change):cD×Int:=ai (sX lg d c).1
def jG:List Change->Int
  | []=>0
  | x::r=>if iG x=0 then jG r else iG x
def jH (lg:Lg)(c:List Change):Int:=if 62<c.length then 2 else if lg.Many-lg.Next<(c.length:Int)+1 then 9 else jG c
def cE (lg:Lg)(d:cD)(c:List Change):Lg×cD×Int :=
  if ¬ jH lg c=0 then (lg,d,jH lg c)
  else if ¬ (dx lg d c).2=0 then (lg,dx lg d c)
  else if ¬ (rZ lg d c).2=0 then (lg,rZ lg d c)
  else if ¬ (sX lg d c).2=0 then (lg,sX lg d c)
  else if ¬ (vf lg d c).2=0 then (lg,vf lg d c)
  else (⟨lg.From,lg.Many,lg.First,lg.Next+(c.length:Int)+1⟩,(vf lg d c).1,0)
section
variable {lg:Lg} {d dm:cD} {c:List Change} {i n m:Nat} {x:Change} {Z:cD×Int}
theorem PX (h:kS lg dm (c.drop i) i=Z)(hx:c[i]? = some x)(hw:(au dm (lg.From+lg.Next+(i:Int)) (dG 111 (lg.First+lg.Next+(i:Int)) (ka x).1)).2=0) :
 kS lg (au dm (lg.From+lg.Next+(i:Int)) (dG 111 (lg.First+lg.Next+(i:Int)) (ka x).1)).1 (c.drop (i+1)) (i+1)=Z:=by
 rw [drop_at hx] at h;unfold kS at h;rw [if_pos hw] at h;exact h
theorem JY (h:kS lg dm (c.drop i) i=Z)(hx:c[i]? = some x)(hw:¬ (au dm (lg.From+lg.Next+(i:Int)) (dG 111 (lg.First+lg.Next+(i:Int)) (ka x).1)).2=0) :
 Z=au dm (lg.From+lg.Next+(i:Int)) (dG 111 (lg.First+lg.Next+(i:Int)) (ka x).1):=by
 rw [drop_at hx] at h;unfold kS at h;rw [if_neg hw] at h;exact h.symm
theorem Gj (h:kS lg dm (c.drop i) i=Z)(hi:c.length<=i):Z=(dm,0):=by
 rw [List.drop_of_length_le hi] at h;unfold kS at h;exact h.symm
theorem Ht (h:Z=kS lg d c 0)(hz:¬ Z.2=0):dx lg d c=(Z.1,Z.2):=by
 unfold dx;rw [<- h,if_neg hz]
theorem JZ (h:kS lg d c 0=(dm,0))(hl:lg.Next+(c.length:Int)+1<lg.Many):dx lg d c=((au dm (lg.From+(lg.Next+(c.length:Int)+1)) ⟨#[]⟩).1,(au dm (lg.From+(lg.Next+(c.length:Int)+1)) ⟨#[]⟩).2):=by
 unfold dx;rw [h,if_pos rfl,if_pos hl]
theorem Hu (h:kS lg d c 0=(dm,0))(hl:¬ lg.Next+(c.length:Int)+1<lg.Many):dx lg d c=(dm,0):=by
 unfold dx;rw [h,if_pos rfl,if_neg hl]
theorem xc (h:fO n m d)(hd:d.Down=false){i:Int}(h0:0<=i)(h1:i<(n:Int)):(cd d i).2=0/\(cd d i).1.size=48:=by
 have hn:=h.nl
 obtain ⟨x,hx⟩:∃x,d.Now[i.toNat]? = some x:=⟨_,List.getElem?_eq_getElem (by omega)⟩
 rw [pS hd h0 hx]
 exact ⟨rfl,h.ns x (List.mem_of_getElem? hx)⟩
theorem Bp (h:iG x=0):(ka x).2=0/\(ka x).1.size<=41:=by
 obtain ⟨_,_,h3,h4⟩:=hG h
 exact ⟨by unfold ka;rw [if_pos h],by rw [ly h];omega⟩
theorem Gk:∀ (c:List Change) (d:cD) (i m:Nat),fO n m d->fO n (m+c.length) (kS lg d c i).1
 | [],d,i,m,h=>by unfold kS;simpa using h
 | x::r,d,i,m,h=>by
  unfold kS
  have h1:=h.write (lg.From+lg.Next+(i:Int)) (dG 111 (lg.First+lg.Next+(i:Int)) (ka x).1)
  split
  .
   have:=Gk r _ (i+1) (m+1) h1
   rw [List.length_cons,show m+(r.length+1)=m+1+r.length by omega];exact this
  .exact h1.up (by rw [List.length_cons];omega)
theorem Bq (h:fO n m d):fO n (m+c.length+1) (dx lg d c).1:=by
 have h1:=Gk (lg:=lg) c d 0 m h
 unfold dx
 split
 .
  split
  .exact h1.write _ _
  .exact h1.up (by omega)
 .exact h1.up (by omega)
theorem Gl (h:fO n m d):fO n (m+c.length+1) (rZ lg d c).1:=(Bq h).flush
theorem Gm (h:fO n m d):fO n (m+c.length+2) (sX lg d c).1:=(Gl h).write _ _
theorem Gn (h:fO n m d):fO n (m+c.length+2) (vf lg d c).1:=(Gm h).flush
theorem vz (h:fO n m d):fO n (m+c.length+2) (cE lg d c).2.1:=by
 unfold cE
 (repeat' split)
 .exact h.up (by omega)
 .exact (Bq h).up (by omega)
 .exact (Gl h).up (by omega)
 .exact Gm h
 .exact Gn h
 .exact Gn h
theorem qK:∀ {c:List Change},jG c=0 -> ∀x∈c,iG x=0
 | [],_,x,hx=>by cases hx
 | y::r,h,x,hx=>by
  unfold jG at h
  split at h
  .
   rename_i h0
   rcases List.mem_cons.1 hx with rfl|hx
   .exact h0
   .exact qK h x hx
  .exact absurd h (by assumption)
theorem J0 {f:Int}(h:jG (c.drop i)=f)(hx:c[i]? = some x)(h0:iG x=0):jG (c.drop (i+1))=f:=by
 rw [drop_at hx] at h;unfold jG at h;rw [if_pos h0] at h;exact h
theorem Bs {f:Int}(h:jG (c.drop i)=f)(hx:c[i]? = some x)(h0:¬ iG x=0):f=iG x:=by
 rw [drop_at hx] at h;unfold jG at h;rw [if_neg h0] at h;exact h.symm
theorem J1 {f:Int}(h:jG (c.drop i)=f)(hi:c.length<=i):f=0:=by
 rw [List.drop_of_length_le hi] at h;unfold jG at h;exact h.symm
theorem J2 (h:62<c.length):cE lg d c=(lg,d,2):=by
 have e:jH lg c=2:=by unfold jH;rw [if_pos h]
 unfold cE;rw [e,if_pos (by decide)]
theorem J3 (h:¬ 62<c.length)(h':lg.Many-lg.Next<(c.length:Int)+1):cE lg d c=(lg,d,9):=by
 have e:jH lg c=9:=by unfold jH;rw [if_neg h,if_pos h']
 unfold cE;rw [e,if_pos (by decide)]
theorem Hw {f:Int}(h:¬ 62<c.length)(h':¬ lg.Many-lg.Next<(c.length:Int)+1)(hf:jG c=f)(h0:¬ f=0):cE lg d c=(lg,d,f):=by
 have e:jH lg c=f:=by unfold jH;rw [if_neg h,if_neg h',hf]
 unfold cE;rw [e,if_pos h0]
theorem Bt (h:¬ 62<c.length)(h':¬ lg.Many-lg.Next<(c.length:Int)+1)(hf:jG c=0):jH lg c=0:=by
 unfold jH;rw [if_neg h,if_neg h',hf]
theorem N7 (h:jH lg c=0)(ha:¬ (dx lg d c).2=0):cE lg d c=(lg,(dx lg d c).1,(dx lg d c).2):=by
 unfold cE;rw [if_neg (by omega),if_pos ha]
theorem N8 (h:jH lg c=0)(ha:(dx lg d c).2=0)(hb:¬ (rZ lg d c).2=0):cE lg d c=(lg,(rZ lg d c).1,(rZ lg d c).2):=by
 unfold cE;rw [if_neg (by omega),if_neg (by omega),if_pos hb]
theorem N9 (h:jH lg c=0)(ha:(dx lg d c).2=0)(hb:(rZ lg d c).2=0)(hc:¬ (sX lg d c).2=0):cE lg d c=(lg,(sX lg d c).1,(sX lg d c).2):=by
 unfold cE;rw [if_neg (by omega),if_neg (by omega),if_neg (by omega),if_pos hc]
theorem Oa (h:jH lg c=0)(ha:(dx lg d c).2=0)(hb:(rZ lg d c).2=0)(hc:(sX lg d c).2=0)(hd:¬ (vf lg d c).2=0):cE lg d c=(lg,(vf lg d c).1,(vf lg d c).2):=by
 unfold cE;rw [if_neg (by omega),if_neg (by omega),if_neg (by omega),if_neg (by omega),if_pos hd]
theorem EP (h:jH lg c=0)(ha:(dx lg d c).2=0)(hb:(rZ lg d c).2=0)(hc:(sX lg d c).2=0)(hd:(vf lg d c).2=0):cE lg d c=(⟨lg.From,lg.Many,lg.First,lg.Next+(c.length:Int)+1⟩,(vf lg d c).1,0):=by
 unfold cE;rw [if_neg (by omega),if_neg (by omega),if_neg (by omega),if_neg (by omega),if_neg (by omega)]
end
end
end Go.Proofs.YtkbhcbipadkcaaaGreatDoor
