import Derived.Test.YtkbhcbipadkcaaaGreatDoorTW8
namespace Go.Proofs.YtkbhcbipadkcaaaGreatDoor
set_option linter.unusedVariables false
set_option linter.unusedSimpArgs false
set_option maxRecDepth 100000
set_option maxHeartbeats 90000000
section
open Go Go.RowKit
structure Lg where
  From:Int
  Many:Int
  First:Int
  Next:Int
  deriving DecidableEq
def bW (n:Int):ByteArray:=⟨#[u8 (n % 256),u8 (n / 256 % 256),u8 (n / 65536 % 256),u8 (n / 16777216 % 256)]⟩
theorem aF (n:Int):(bW n).size=4:=rfl
theorem qc (n:Int):bl (bW n)=[u8 (n % 256),u8 (n / 256 % 256),u8 (n / 65536 % 256),u8 (n / 16777216 % 256)]:=rfl
theorem Bc {a b:Int}(ha:0<=a/\a<=255)(hb:0<=b/\b<=255)(h:u8 a=u8 b):a=b:=by
 rw [<- my ha,<- my hb,h]
theorem HD {a b:Int}(ha:0<=a/\a<4294967296)(hb:0<=b/\b<4294967296)(h:bW a=bW b):a=b:=by
 have h1:bl (bW a)=bl (bW b):=by rw [h]
 rw [qc,qc] at h1
 simp only [List.cons.injEq,and_true] at h1
 obtain ⟨e0,e1,e2,e3⟩:=h1
 have i0:=Bc (by omega) (by omega) e0
 have i1:=Bc (by omega) (by omega) e1
 have i2:=Bc (by omega) (by omega) e2
 have i3:=Bc (by omega) (by omega) e3
 omega
def dG (k:Int)(n:Int)(s:ByteArray):ByteArray:=⟨#[u8 k]⟩++bW n++⟨#[UInt8.ofNat s.size,UInt8.ofNat (s.size / 256)]⟩++s
theorem Gl (k n:Int)(s:ByteArray):bl (dG k n s)=u8 k::u8 (n % 256)::u8 (n / 256 % 256)::u8 (n / 65536 % 256)::u8 (n / 16777216 % 256)::UInt8.ofNat s.size::UInt8.ofNat (s.size / 256)::bl s:=by
 unfold dG;simp only [iN,qc];rfl
theorem nX (k n:Int)(s:ByteArray):(dG k n s).size=7+s.size:=by
 rw [<- ez,Gl];simp only [List.length_cons,ez];omega
def cO (s:ByteArray):Nat:=bf s 5+256*bf s 6
def rD (s:ByteArray):ByteArray:=s.extract 7 (7+cO s)
def zC (s:ByteArray)(n k:Int):Bool:=decide (s.extract 1 5=bW n)&&decide (cO s<=41)&&decide (bf s 0=99)&&decide (rD s=bW k)
def Et (s:ByteArray)(n:Int):Bool:=decide (s.extract 1 5=bW n)&&decide (cO s<=41)&&decide (bf s 0=111)&&decide ((rZ (rD s)).2=0)
def iJ:List ByteArray->Int->List (List Change)->List Change->Nat->Nat->List (List Change)×Nat
  | [],_,out,_,used,_=>(out,used)
  | s::r,n,out,deed,used,pos =>
    if zC s n (deed.length:Int)=true then iJ r (n+1) (out++[deed]) [] (pos+1) (pos+1)
    else if Et s n=true then iJ r (n+1) out (deed++[(rZ (rD s)).1]) used (pos+1)
    else (out,used)
def scan (l:List ByteArray)(first:Int):List (List Change)×Nat:=iJ l first [] [] 0 0
section
variable {l:List ByteArray} {first n:Int} {out:List (List Change)} {deed:List Change} {used pos i:Nat} {s:ByteArray} {Z:List (List Change)×Nat}
theorem drop_at {α:Type}{l:List α}{i:Nat}{s:α}(h:l[i]? = some s):l.drop i=s::l.drop (i+1):=by
 obtain ⟨h1,h2⟩:=List.getElem?_eq_some_iff.1 h
 rw [List.drop_eq_getElem_cons h1,h2]
theorem J0 (h:iJ (l.drop i) (first+(i:Int)) out deed used i=Z)(hs:l[i]? = some s)(hc:zC s (first+(i:Int)) (deed.length:Int)=true) :
 iJ (l.drop (i+1)) (first+((i+1:Nat):Int)) (out++[deed]) [] (i+1) (i+1)=Z:=by
 rw [drop_at hs] at h
 unfold iJ at h
 rw [if_pos hc] at h
 rw [show first+((i+1:Nat):Int)=first+(i:Int)+1 by omega]
 exact h
theorem Mv (h:iJ (l.drop i) (first+(i:Int)) out deed used i=Z)(hs:l[i]? = some s)(hc:zC s (first+(i:Int)) (deed.length:Int)=false)(ho:Et s (first+(i:Int))=true) :
 iJ (l.drop (i+1)) (first+((i+1:Nat):Int)) out (deed++[(rZ (rD s)).1]) used (i+1)=Z:=by
 rw [drop_at hs] at h
 unfold iJ at h
 rw [if_neg (by rw [hc];decide),if_pos ho] at h
 rw [show first+((i+1:Nat):Int)=first+(i:Int)+1 by omega]
 exact h
theorem Bd (h:iJ (l.drop i) (first+(i:Int)) out deed used i=Z)(hs:l[i]? = some s)(hc:zC s (first+(i:Int)) (deed.length:Int)=false)(ho:Et s (first+(i:Int))=false):Z=(out,used):=by
 rw [drop_at hs] at h
 unfold iJ at h
 rw [if_neg (by rw [hc];decide),if_neg (by rw [ho];decide)] at h
 exact h.symm
theorem P0 (h:iJ (l.drop i) (first+(i:Int)) out deed used i=Z)(hl:l.length<=i):Z=(out,used):=by
 rw [List.drop_of_length_le hl] at h
 exact h.symm
theorem s8 {k:Int}(h:¬ bf s 0=99):zC s n k=false:=by unfold zC;simp [h]
theorem Bf (h:¬ bf s 0=111):Et s n=false:=by unfold Et;simp [h]
theorem Bg:∀ (l:List ByteArray) (n:Int) (out:List (List Change)) (deed:List Change) (used pos:Nat),
 iJ l n out deed used pos=(out,used)∨(pos<(iJ l n out deed used pos).2/\(iJ l n out deed used pos).2<=pos+l.length /\
  ∀l':List ByteArray,l'.take ((iJ l n out deed used pos).2-pos)=l.take ((iJ l n out deed used pos).2-pos) ->
   iJ l' n out deed used pos=iJ (l'.drop ((iJ l n out deed used pos).2-pos)) (n+(((iJ l n out deed used pos).2-pos:Nat):Int)) (iJ l n out deed used pos).1 [] (iJ l n out deed used pos).2 (iJ l n out deed used pos).2)
 | [],n,out,deed,used,pos => .inl rfl
 | s::r,n,out,deed,used,pos=>by
  have key:∀ (out':List (List Change)) (m6:List Change) (m7:Nat),iJ (s::r) n out deed used pos=iJ r (n+1) out' m6 m7 (pos+1) ->
   (∀r',iJ (s::r') n out deed used pos=iJ r' (n+1) out' m6 m7 (pos+1)) ->
   (pos+1<(iJ r (n+1) out' m6 m7 (pos+1)).2/\(iJ r (n+1) out' m6 m7 (pos+1)).2<=pos+1+r.length /\
    ∀l':List ByteArray,l'.take ((iJ r (n+1) out' m6 m7 (pos+1)).2-(pos+1))=r.take ((iJ r (n+1) out' m6 m7 (pos+1)).2-(pos+1)) ->
     iJ l' (n+1) out' m6 m7 (pos+1)=iJ (l'.drop ((iJ r (n+1) out' m6 m7 (pos+1)).2-(pos+1))) (n+1+(((iJ r (n+1) out' m6 m7 (pos+1)).2-(pos+1):Nat):Int)) (iJ r (n+1) out' m6 m7 (pos+1)).1 [] (iJ r (n+1) out' m6 m7 (pos+1)).2 (iJ r (n+1) out' m6 m7 (pos+1)).2) ->
   (pos<(iJ (s::r) n out deed used pos).2/\(iJ (s::r) n out deed used pos).2<=pos+(s::r).length /\
    ∀l':List ByteArray,l'.take ((iJ (s::r) n out deed used pos).2-pos)=(s::r).take ((iJ (s::r) n out deed used pos).2-pos) ->
     iJ l' n out deed used pos=iJ (l'.drop ((iJ (s::r) n out deed used pos).2-pos)) (n+(((iJ (s::r) n out deed used pos).2-pos:Nat):Int)) (iJ (s::r) n out deed used pos).1 [] (iJ (s::r) n out deed used pos).2 (iJ (s::r) n out deed used pos).2):=by
   intro out' m6 m7 e e' h
   rw [e]
   generalize iJ r (n+1) out' m6 m7 (pos+1)=R at h
   obtain ⟨h1,h2,h3⟩:=h
   refine ⟨by omega,by rw [List.length_cons];omega,fun l' hl'=>?_⟩
   obtain ⟨m,hm⟩:∃m,R.2-pos=m+1:=⟨R.2-pos-1,by omega⟩
   have hm':R.2-(pos+1)=m:=by omega
   rw [hm] at hl' ⊢
   rw [hm'] at h3
   cases l' with
   | nil=>simp at hl'
   | cons s' r' =>
    rw [List.take_succ_cons,List.take_succ_cons] at hl'
    injection hl' with q1 q2
    subst q1
    rw [e',h3 r' q2,List.drop_succ_cons]
    rw [show n+1+(m:Int)=n+((m+1:Nat):Int) by omega]
  by_cases hc:zC s n (deed.length:Int)=true
  .
   right
   have e:∀r',iJ (s::r') n out deed used pos=iJ r' (n+1) (out++[deed]) [] (pos+1) (pos+1):=fun r'=>by rw [iJ,if_pos hc]
   rcases Bg r (n+1) (out++[deed]) [] (pos+1) (pos+1) with h|h
   .
    rw [e r,h]
    refine ⟨by omega,by rw [List.length_cons];omega,fun l' hl'=>?_⟩
    dsimp only at hl' ⊢
    rw [show pos+1-pos=1 by omega] at hl' ⊢
    cases l' with
    | nil=>simp at hl'
    | cons s' r' =>
     rw [List.take_succ_cons,List.take_succ_cons] at hl'
     injection hl' with q1 q2
     subst q1
     rw [e];rfl
   .exact key _ _ _ (e r) e h
  .
   by_cases ho:Et s n=true
   .
    have e:∀r',iJ (s::r') n out deed used pos=iJ r' (n+1) out (deed++[(rZ (rD s)).1]) used (pos+1):=fun r'=>by rw [iJ,if_neg hc,if_pos ho]
    rcases Bg r (n+1) out (deed++[(rZ (rD s)).1]) used (pos+1) with h|h
    .left;rw [e r,h]
    .right;exact key _ _ _ (e r) e h
   .left;rw [iJ,if_neg hc,if_neg ho]
theorem Gm (l:List ByteArray)(first:Int):(scan l first).2<=l.length:=by
 rcases Bg l first [] [] 0 0 with h|⟨_,h,_⟩
 .unfold scan;rw [h];exact Nat.zero_le _
 .unfold scan;omega
theorem xb {l l':List ByteArray}{first:Int}(h:l'.take (scan l first).2=l.take (scan l first).2) :
 scan l' first=iJ (l'.drop (scan l first).2) (first+((scan l first).2:Int)) (scan l first).1 [] (scan l first).2 (scan l first).2:=by
 rcases Bg l first [] [] 0 0 with h1|⟨_,_,h1⟩
 .
  have e:scan l first=([],0):=h1
  rw [e];simp [scan]
 .
  unfold scan at h ⊢
  exact h1 l' (by simpa using h)
end
theorem P1 (n:Nat):bl (tW n)=List.replicate n 0:=by simp [bl,tW]
theorem Bh (s:ByteArray):bl (full s)=bl s++List.replicate (48-s.size) 0:=by unfold full;rw [iN,P1]
section
variable {k n:Int} {s:ByteArray}
theorem qe (hs:s.size<=41):bl (full (dG k n s))=u8 k::u8 (n % 256)::u8 (n / 256 % 256)::u8 (n / 65536 % 256)::u8 (n / 16777216 % 256)::UInt8.ofNat s.size::UInt8.ofNat (s.size / 256)::(bl s++List.replicate (41-s.size) 0):=by
 rw [Bh,Gl,nX,show 48-(7+s.size)=41-s.size by omega];rfl
theorem qf (hs:s.size<=41):bf (full (dG k n s)) 0=(u8 k).toNat:=by rw [hG,qe hs];rfl
theorem nY (hs:s.size<=41):(full (dG k n s)).extract 1 5=bW n:=gP (by
 have:=jf (full (dG k n s)) 1 5
 rw [qe hs] at this
 refine this.trans ?_
 rfl)
theorem Bi (hs:s.size<=41):cO (full (dG k n s))=s.size:=by
 unfold cO
 have b5:bf (full (dG k n s)) 5=s.size:=by rw [hG,qe hs];exact nW (by omega)
 have b6:bf (full (dG k n s)) 6=0:=by rw [hG,qe hs];show (UInt8.ofNat (s.size / 256)).toNat=0;rw [nW (by omega)];omega
 rw [b5,b6];omega
theorem Bj (hs:s.size<=41):rD (full (dG k n s))=s:=by
 unfold rD
 rw [Bi hs]
 exact gP (by
  have:=jf (full (dG k n s)) 7 (7+s.size)
  rw [qe hs] at this
  refine this.trans ?_
  rw [show 7+s.size=s.size+1+1+1+1+1+1+1 by omega]
  simp only [List.take_succ_cons,List.drop_succ_cons,List.drop_zero]
  rw [<- ez s,List.take_left])
theorem Mw {c:Int}(n:Int):zC (full (dG 99 n (bW c))) n c=true:=by
 have h:(bW c).size<=41:=by rw [aF];omega
 unfold zC
 rw [nY h,Bi h,qf h,Bj h,aF]
 simp;rfl
theorem Mx {c:Int}(hs:s.size<=41)(n m:Int):zC (full (dG 111 n s)) m c=false:=s8 (by rw [qf hs];decide)
theorem My {c:Change}(hc:iI c=0)(n:Int):Et (full (dG 111 n (kb c).1)) n=true:=by
 have h:(kb c).1.size<=41:=by
  obtain ⟨_,_,h3,h4⟩:=g9 hc
  rw [lC hc];omega
 unfold Et
 rw [nY h,Bi h,qf h,Bj h,Gh hc]
 simp [h];rfl
theorem Mz {c:Change}(hc:iI c=0)(n:Int):(rZ (rD (full (dG 111 n (kb c).1)))).1=c:=by
 have h:(kb c).1.size<=41:=by
  obtain ⟨_,_,h3,h4⟩:=g9 hc
  rw [lC hc];omega
 rw [Bj h,Gh hc]
theorem oM:bf (full ⟨#[]⟩) 0=0:=by decide +kernel
theorem CS:bf (tW 48) 0=0:=by decide +kernel
theorem CU:full ⟨#[]⟩=tW 48:=by decide +kernel
end
def eZ (n:Int):List Change->List ByteArray
  | []=>[]
  | c::l=>full (dG 111 n (kb c).1)::eZ (n+1) l
theorem gk:∀ (l:List Change) (n:Int),(eZ n l).length=l.length
 | [],_=>rfl
 | c::l,n=>by simp [eZ,gk l]
theorem ua:∀ (l:List Change) (n:Int) (i:Nat) (c:Change),l[i]? = some c->(eZ n l)[i]? = some (full (dG 111 (n+(i:Int)) (kb c).1))
 | [],_,i,c,h=>by simp at h
 | x::l,n,0,c,h=>by
  simp at h;subst h;simp [eZ]
 | x::l,n,i+1,c,h=>by
  simp at h
  have:=ua l (n+1) i c h
  simp only [eZ,List.getElem?_cons_succ]
  rw [this,show n+1+(i:Int)=n+((i+1:Nat):Int) by omega]
theorem CV:∀ (l:List Change) (n:Int) (r:List ByteArray) (out:List (List Change)) (deed:List Change) (used pos:Nat),(∀c∈l,iI c=0) ->
 iJ (eZ n l++r) n out deed used pos=iJ r (n+(l.length:Int)) out (deed++l) used (pos+l.length)
 | [],n,r,out,deed,used,pos,_=>by simp [eZ]
 | c::l,n,r,out,deed,used,pos,h=>by
  have hc:=h c (List.mem_cons_self ..)
  obtain ⟨_,_,h3,h4⟩:=g9 hc
  have hs:(kb c).1.size<=41:=by rw [lC hc];omega
  simp only [eZ,List.cons_append]
  rw [iJ,if_neg (by rw [Mx hs];decide),if_pos (My hc n),Mz hc,CV l _ r _ _ _ _ (fun c hc=>h c (List.mem_cons_of_mem _ hc))]
  rw [List.append_assoc,List.length_cons,show n+1+(l.length:Int)=n+((l.length+1:Nat):Int) by omega,show pos+1+l.length=pos+(l.length+1) by omega]
  rfl
theorem Gn {l:List Change}{n:Int}{r:List ByteArray}{out:List (List Change)}{used:Nat}(hl:∀c∈l,iI c=0)(hr:r=[] ∨ ∃s r',r=s::r'/\bf s 0=0) :
 iJ (eZ n l++full (dG 99 (n+(l.length:Int)) (bW (l.length:Int)))::r) n out [] used used=(out++[l],used+l.length+1):=by
 rw [CV l n _ _ _ _ _ hl]
 rw [iJ,List.nil_append,if_pos (Mw _)]
 rcases hr with rfl|⟨s,r',rfl,hs⟩
 .rfl
 .rw [iJ,if_neg (by rw [s8 (by omega)];decide),if_neg (by rw [Bf (by omega)];decide)]
end
def oN (c:Change):Bool:=decide (c.Key.size<=20)&&decide (c.Val.size<=40)
def r6 (l:List Change)(most:Int):Bool:=decide ((l.length:Int)<=most)&&l.all oN
def oO (a:dQ):Bool:=decide (a.S.size<=100)&&r6 a.Changes 70
def lO (l:List dQ)(most:Int):Bool:=decide ((l.length:Int)<=most)&&l.all oO
theorem vF {α:Type}{p:α->Bool}{l:List α}{k:Nat}{x:α}(hx:l[k]? = some x)(h:p x=false):l.all p=false:=by
 rw [Bool.eq_false_iff];intro h'
 have:=List.all_eq_true.1 h' x (List.mem_of_getElem? hx)
 rw [h] at this;simp at this
theorem J1 {α:Type}{p:α->Bool}{l:List α}{k:Nat}(hk:¬ k<l.length)(h:(l.take k).all p=true):l.all p=true:=by
 rwa [List.take_of_length_le (by omega)] at h
theorem CW {α:Type}{p:α->Bool}{l:List α}{k:Nat}{x:α}(hx:l[k]? = some x)(h:(l.take k).all p=true)(hp:p x=true):(l.take (k+1)).all p=true:=by
 rw [List.take_add_one,hx];simp [List.all_append,h,hp]
theorem xc {l:List dQ}{most:Int}(h:lO l most=true):(l.length:Int)<=most:=by
 unfold lO at h;simp only [Bool.and_eq_true,decide_eq_true_eq] at h;exact h.1
section
open Go Go.RowKit
def yH (v:Value):Value:=match v with | .slice a n c => .slice a n c|_ => .slice none 0 0
theorem J2 (v:Value):(yH v).oneCell'=true:=by unfold yH;split <;> rfl
theorem Sl.yH {α:Type}[Enc α]{w:World}{v:Value}{l:List α}(h:Sl w v l):YtkbhcbipadkcaaaGreatDoor.yH v=v:=by
 obtain ⟨A,c,rfl,_⟩:=h;rfl
structure kr where
  v0:Value
  L:List Change
abbrev kr.cv (x:kr):Value:=yH x.v0
instance:Enc kr:=⟨1,fun x=>[x.cv],fun _=>rfl,fun x u hu=>by rw [List.mem_singleton.1 hu];exact J2 _,by decide⟩
abbrev kr.val (x:kr):Value:=x.cv
def ag.lP (l:List kr):ag:=⟨l.flatMap (fun x=>(ag.ls x.cv x.L).blk),fun w => ∀x∈l,Sl w x.cv x.L,fun w w' h hs x hx=>(ag.ls x.cv x.L).loc w w' (fun k hk=>h k (List.mem_flatMap.2 ⟨x,hx,hk⟩)) (hs x hx)⟩
def ag.qh (l:List kr)(E:List (List Change)):ag:=⟨(ag.lP l).blk,fun w=>(ag.lP l).ok w/\l.map kr.L=E,fun w w' h hs=>⟨(ag.lP l).loc w w' h hs.1,hs.2⟩⟩
theorem MA {l:List kr}{x:kr}(hx:x∈l):∀k∈(ag.ls x.cv x.L).blk,k∈(ag.lP l).blk:=fun k hk=>List.mem_flatMap.2 ⟨x,hx,hk⟩
section
variable {P:Program} {n:Nat} {we w:World} {X:List Nat} {B F:List ag} {l:List kr} {x:kr} {v:Value} {L:List Change} {Q:Exit->Act->World->Prop} {k:List It} {ops:List Oper} {rest:List (List Oper)}
theorem Wd.lP (i:Nat)(h:F[i]? = some (ag.lP l))(hw:Wd we X B F w):∀x∈l,Sl w x.cv x.L:=hw.f i h
theorem Wd.Uc (i:Nat)(h:F[i]? = some (ag.lP l))(hx:x∈l)(hw:Wd we X B F w):Sl w x.cv x.L:=hw.f i h x hx
theorem Wd.Sv (hw:Wd we X B F w):Wd we X B (ag.lP []::F) w:=hw.fact (r:=ag.lP []) (fun x hx=>by cases hx) (fun k hk=>by cases hk)
theorem Wd.MB (i j:Nat)(hi:F[i]? = some (ag.lP l))(hj:F[j]? = some (ag.ls v L))(hw:Wd we X B F w):Wd we X B (ag.lP (l++[⟨v,L⟩])::F) w:=by
 have h1:∀x∈l,Sl w x.cv x.L:=hw.f i hi
 have h2:Sl w v L:=hw.bG j hj
 refine hw.fact (r:=ag.lP (l++[⟨v,L⟩])) (fun x hx=>?_) (fun k hk=>?_)
 .
  rcases List.mem_append.1 hx with hx|hx
  .exact h1 x hx
  .rw [List.mem_singleton.1 hx];show Sl w (yH v) L;rw [h2.yH];exact h2
 .
  obtain ⟨x,hx,hk⟩:=List.mem_flatMap.1 hk
  rcases List.mem_append.1 hx with hx|hx
  .exact hw.ml k (bu.2 ⟨_,List.mem_of_getElem? hi,List.mem_flatMap.2 ⟨x,hx,hk⟩⟩)
  .
   rw [List.mem_singleton.1 hx] at hk
   have hk':k∈(ag.ls v L).blk:=by
    have:(kr.mk v L).cv=v:=h2.yH
    rw [this] at hk;exact hk
   exact hw.ml k (bu.2 ⟨_,List.mem_of_getElem? hj,hk'⟩)
theorem Wd.Bm (i:Nat)(hi:F[i]? = some (ag.lP l))(hw:Wd we X B F w):Wd we X B (ag.qh l (l.map kr.L)::F) w :=
 hw.fact (r:=ag.qh l (l.map kr.L)) ⟨hw.f i hi,rfl⟩ (fun k hk=>hw.ml k (bu.2 ⟨_,List.mem_of_getElem? hi,hk⟩))
theorem Wd.P2 (i:Nat)(hi:F[i]? = some (ag.lP l))(hx:x∈l)(hw:Wd we X B F w):Wd we X B (ag.ls x.cv x.L::F) w :=
 hw.RL i _ _ hi (MA hx) (hw.Uc i hi hx)
theorem Wd.Bn {E:List (List Change)}(i:Nat)(F':List ag)(hi:F[i]? = some (ag.qh l E))(hF:ag.lP l::F.eraseIdx i=F')(hw:Wd we X B F w):Wd we X B F' w/\l.map kr.L=E:=by
 subst hF
 have h:=hw.f i hi
 refine ⟨?_,h.2⟩
 have h1:=hw.fact (r:=ag.lP l) h.1 (fun k hk=>hw.ml k (bu.2 ⟨_,List.mem_of_getElem? hi,hk⟩))
 refine ⟨h1.upd,h1.okB,fun r hr=>?_,h1.sep,h1.own,fun k hk=>?_⟩
 .
  rcases List.mem_cons.1 hr with rfl|hr
  .exact h.1
  .exact hw.okF r ((List.eraseIdx_sublist F i).subset hr)
 .
  obtain ⟨r,hr,hk⟩:=bu.1 hk
  rcases List.mem_cons.1 hr with rfl|hr
  .exact hw.ml k (bu.2 ⟨_,List.mem_of_getElem? hi,hk⟩)
  .exact hw.ml k (bu.2 ⟨r,(List.eraseIdx_sublist F i).subset hr,hk⟩)
theorem R.P3 {L':Fm}{E:List (List Change)}(i:Nat)(F':List ag)(hi:F[i]? = some (ag.qh l E))(hF:ag.lP l::F.eraseIdx i=F')(h:l.map kr.L=E->Run P n we X Q k L' B F'):Run P n we X Q k L' B F :=
 fun a w ha hw=>h (hw.Bn i F' hi hF).2 a w ha (hw.Bn i F' hi hF).1
theorem Rg.P3 {L':Fm}{E:List (List Change)}{rs:List Oper}(i:Nat)(F':List ag)(hi:F[i]? = some (ag.qh l E))(hF:ag.lP l::F.eraseIdx i=F')(h:l.map kr.L=E->Rg P n we X Q ops rs k L' B F'):Rg P n we X Q ops rs k L' B F :=
 fun a w ha hw=>h (hw.Bn i F' hi hF).2 a w ha (hw.Bn i F' hi hF).1
end
section
variable {P:Program} {n:Nat} {we:World} {X:List Nat} {L:Fm} {B F:List ag} {d:Nat} {ty:TypeId} {pos:String} {ef:Array Edge} {g:Option (Nat×Bool)}
theorem s.VI {α:Type}[Enc α]{m:Nat}{parts:Array (Nat×Operand)}{t e:TypeId}{l:List α}{vs:List Value}{z:Value}(ht:pB P t=some (e,Enc.k α))(hz:fT P e=some z)(hzs:z.cells.size=Enc.k α)(hm:l.length=m)(hsmall:Nat.blt (m*Enc.k α) 16777216=true)
 (hp:evs L (parts.toList.map (·.2))=some vs) (hi:parts.toList.map (·.1)=List.range' 0 m) (hv:∀w,Wd we X B F w->vs.map (fun v=>v.cells.toList)=l.map Enc.cells) (hd:Nat.blt d n=true) :
 Stp P n we X L B F ⟨some d,.buildSlice t m parts,ty,pos,ef,g⟩ (fun b:Nat=>(d,.slice (some ⟨b,0,none⟩) m m)::L) (fun b=>ag.row e (.slice (some ⟨b,0,none⟩) m m) l::B) (fun _=>F) :=
 fun K Q' a w ha hw hK=>s.bs ht hz hzs hm hsmall hp hi (hv w hw) hd K Q' a w ha hw hK
theorem HE {w:World}{v:Value}{L:List Change}(h:Sl w v L) : [v].map (fun v=>v.cells.toList)=[(⟨v,L⟩:kr)].map Enc.cells:=by
 show [v.cells.toList]=[[yH v]]
 rw [h.yH,h.EI]
theorem q.Sw {fn:FuncId}{fs cs:Array Operand}{bnd cap:List Value}(hb:evs L fs.toList=some bnd)(hc:evs L cs.toList=some cap):Qt P n we X L B F (.makeFunc (.func fn) fs cs) ty (.func (.func fn) bnd.toArray cap.toArray):=fun _ _ _ _ a w ha hw=>by
 have hm:cs.map a.eval=cap.toArray:=by rw [<- ha.evs hc,<- Array.toList_map]
 have hn:fs.map a.eval=bnd.toArray:=by rw [<- ha.evs hb,<- Array.toList_map]
 simp [execOp,Instr.makeFunc,hm,hn]
theorem q.min {kd:IntKind}{x y:Operand}{a b r:Int}{ts:Array TypeId}(hx:ev L x=some (.int kd a))(hy:ev L y=some (.int kd b))(hr:min a b=r):Qt P n we X L B F (.call { callee:= .builtin .min,args:= #[x,y],argTypes:=ts }) ty (.int kd r):=fun _ _ _ _ q w ha hw=>by
 have e:(if b<a then b else a)=r:=by rw [<- hr];split <;> omega
 simp [execOp,resolve,invoke,builtin,ha.ev hx,ha.ev hy,Builtin.min_,Builtin.min2,e]
theorem Rf {k:IntKind}{a b:Int}(h:a=b):Value.int k a = .int k b:=by rw [h]
structure yI where
  f:Fn
  b:Array Value
  c:Array Value
abbrev yI.cv (x:yI):Value:= .func x.f x.b x.c
instance:Enc yI:=⟨1,fun x=>[x.cv],fun _=>rfl,fun x u hu=>by rw [List.mem_singleton.1 hu];rfl,by decide⟩
theorem q.MC {u:Value}{x:yI}{xT:TypeId}{a:Operand}(hu:x.cv=u)(h:Qt P n we X L B F (.load xT a) ty x.cv):Qt P n we X L B F (.load xT a) ty u:=hu▸h
theorem HG {f:FuncId}{c:Operand}{xs:Array Operand}{ts:Array TypeId}{vs:List Value}{bnd cap:Array Value}{a:Act}{w:World}{dst:Option Nat}(ha:Fr n L a)(hargs:evs L xs.toList=some vs)(hc:ev L c=some (.func (.func f) bnd cap))
 (eg:∀args w,(callFunc f args).run P w = .ok (.enter f args) w):(execOp a.eval ⟨dst,.call { callee:= .value c,args:=xs,argTypes:=ts },ty,pos,ef,g⟩).run P w = .ok (.enter f (bnd.toList++vs++cap.toList).toArray) w:=by
 have hm:xs.map a.eval=vs.toArray:=by
  rw [<- ha.evs hargs,<- Array.toList_map]
 simp [execOp,resolve,ha.ev hc,Deferred.ofValue,invoke,hm,eg]
theorem s.J3 {β:Type}{f:FuncId}{c:Operand}{xs:Array Operand}{ts:Array TypeId}{vs:List Value}{bnd cap:Array Value}{B0 Br F0:List ag}(is js:List Nat)(G:β->Value)(B1 F1:β->List ag)(hp:dc B is=some (B0++Br))(ha':iq is=true)(hj:dc F js=some F0)
 (eg:∀args w,(callFunc f args).run P w = .ok (.enter f args) w) (hargs:evs L xs.toList=some vs) (hc:ev L c=some (.func (.func f) bnd cap))
 (hcall:∀w own,Wd we X B F w->Wd w (blks B0++own) (B0++[ag.held w own]) F0 w->Calls P f (bnd.toList++vs++cap.toList).toArray w fun e w' => ∃z,e = .returned (G z)/\Wd w (blks B0++own) (B1 z++[ag.held w own]) (F1 z) w') (hd:Nat.blt d n=true) :
 Stp P n we X L B F ⟨some d,.call { callee:= .value c,args:=xs,argTypes:=ts },ty,pos,ef,g⟩ (fun z=>(d,G z)::L) (fun z=>B1 z++Br) (fun z=>F1 z++F):=by
 intro K Q' a w ha hw hK
 have hw2:=hw.Mf is hp ha'
 unfold Oper.wp
 rw [HG ha hargs hc eg,Oper.upon_enter]
 refine (hcall w (blks Br) hw (hw2.Ax hj)).mono fun e w' he=>?_
 obtain ⟨z,rfl,ht⟩:=he
 exact hK z _ _ (ha.put d _ hd) (hw2.after ht)
end
end
section
open Go Go.RowKit
structure TJ where
  C:List Change
structure Sx where
  E:Int
def jg (s:ByteArray)(n:Int):Bool:=decide (s.extract 1 5=bW n)&&(decide (bf s 0=111)||decide (bf s 0=99))&&decide (cO s<=41)
def px (s:ByteArray)(n:Int):Nat:=if jg s n=true then bf s 0 else 0
def ku (s:ByteArray)(n:Int):ByteArray:=if jg s n=true then rD s else ⟨#[]⟩
section
variable {s:ByteArray} {n k:Int}
theorem xd (h:¬ s.extract 1 5=bW n):jg s n=false:=by unfold jg;simp [h]
theorem xe (h:¬ bf s 0=111)(h':¬ bf s 0=99):jg s n=false:=by unfold jg;simp [h,h']
theorem nZ (h:41<cO s):jg s n=false:=by unfold jg;simp;intros;omega
theorem lD (h:s.extract 1 5=bW n)(h':bf s 0=111∨bf s 0=99)(hl:cO s<=41):jg s n=true:=by
 unfold jg;rcases h' with h'|h' <;> simp [h,h',hl]
theorem j3 (h:jg s n=false):px s n=0/\ku s n=⟨#[]⟩:=by unfold px ku;simp [h]
theorem j4 (h:jg s n=true):px s n=bf s 0/\ku s n=rD s:=by unfold px ku;simp [h]
theorem xg (h:jg s n=true):s.extract 1 5=bW n/\(bf s 0=111∨bf s 0=99)/\cO s<=41:=by
 unfold jg at h;simpa [and_assoc] using h
theorem P4 (h:jg s n=true)(hk:px s n=99)(hx:ku s n=bW k):zC s n k=true:=by
 obtain ⟨h1,h2,h3⟩:=xg h
 obtain ⟨e1,e2⟩:=j4 h
 unfold zC;simp [h1,h3,<- e1,hk,<- e2,hx]
theorem CX (h:jg s n=false):zC s n k=false/\Et s n=false:=by
 constructor
 .
  rw [Bool.eq_false_iff];intro hc
  unfold zC at hc;simp only [Bool.and_eq_true,decide_eq_true_eq] at hc
  rw [lD hc.1.1.1 (.inr hc.1.2) hc.1.1.2] at h;cases h
 .
  rw [Bool.eq_false_iff];intro hc
  unfold Et at hc;simp only [Bool.and_eq_true,decide_eq_true_eq] at hc
  rw [lD hc.1.1.1 (.inl hc.1.2) hc.1.1.2] at h;cases h
theorem CY (h:jg s n=true)(hk:px s n=99)(hx:¬ ku s n=bW k):zC s n k=false/\Et s n=false:=by
 obtain ⟨e1,e2⟩:=j4 h
 refine ⟨?_,Bf (by rw [<- e1,hk];decide)⟩
 unfold zC;simp [<- e2,hx]
theorem P5 (h:jg s n=true)(hk:¬ px s n=99)(hp:(rZ (ku s n)).2=0):zC s n k=false/\Et s n=true/\ku s n=rD s:=by
 obtain ⟨h1,h2,h3⟩:=xg h
 obtain ⟨e1,e2⟩:=j4 h
 have h4:¬ bf s 0=99:=by rw [<- e1];exact hk
 have h5:bf s 0=111:=h2.resolve_right h4
 refine ⟨s8 h4,?_,e2⟩
 unfold Et;simp [h1,h3,h5,<- e2,hp]
theorem CZ (h:jg s n=true)(hk:¬ px s n=99)(hp:¬ (rZ (ku s n)).2=0):zC s n k=false/\Et s n=false:=by
 obtain ⟨e1,e2⟩:=j4 h
 refine ⟨s8 (by rw [<- e1];exact hk),?_⟩
 unfold Et;simp [<- e2,hp]
theorem ER (hs:s.size=48):(ku s n).size<=48:=by
 unfold ku rD;split
 .rw [ByteArray.size_extract];omega
 .decide
end
def qi (d:cx)(gp:Int)(many:Nat):List ByteArray:=(List.range many).map fun (i:Nat)=>(bY d (gp+(i:Int))).1
theorem qj (d:cx)(gp:Int)(many:Nat):(qi d gp many).length=many:=by simp [qi]
theorem qO {d:cx}{gp:Int}{many i:Nat}(h:i<many):(qi d gp many)[i]? = some ((bY d (gp+(i:Int))).1):=by
 simp [qi,h]
def lE (d:cx)(gp:Int)(many:Nat)(first:Int):List (List Change):=(scan (qi d gp many) first).1
def fF (d:cx)(gp:Int)(many:Nat)(first:Int):Nat:=(scan (qi d gp many) first).2
def kV (lg:Lg):cx->List Change->Nat->cx×Int
  | d,[],i=>(d,0)
  | d,x::r,i =>
    if (ap d (lg.From+lg.Next+(i:Int)) (dG 111 (lg.First+lg.Next+(i:Int)) (kb x).1)).2=0 then kV lg (ap d (lg.From+lg.Next+(i:Int)) (dG 111 (lg.First+lg.Next+(i:Int)) (kb x).1)).1 r (i+1)
    else ap d (lg.From+lg.Next+(i:Int)) (dG 111 (lg.First+lg.Next+(i:Int)) (kb x).1)
def dw (lg:Lg)(d:cx)(c:List Change):cx×Int :=
  if (kV lg d c 0).2=0 then (if lg.Next+(c.length:Int)+1<lg.Many then ap (kV lg d c 0).1 (lg.From+(lg.Next+(c.length:Int)+1)) ⟨#[]⟩ else ((kV lg d c 0).1,0)) else kV lg d c 0
def r8 (lg:Lg)(d:cx)(c:List Change):cx×Int:=ai (dw lg d c).1
def s9 (lg:Lg)(d:cx)(c:List Change):cx×Int:=ap (r8 lg d c).1 (lg.From+(lg.Next+(c.length:Int))) (dG 99 (lg.First+(lg.Next+(c.length:Int))) (bW (c.length:Int)))
def vp (lg:Lg)(d:cx)(c:List Change):cx×Int:=ai (s9 lg d c).1
def jH:List Change->Int
  | []=>0
  | x::r=>if iI x=0 then jH r else iI x
def jI (lg:Lg)(c:List Change):Int:=if 62<c.length then 2 else if lg.Many-lg.Next<(c.length:Int)+1 then 9 else jH c
def cy (lg:Lg)(d:cx)(c:List Change):Lg×cx×Int :=
  if ¬ jI lg c=0 then (lg,d,jI lg c)
  else if ¬ (dw lg d c).2=0 then (lg,dw lg d c)
  else if ¬ (r8 lg d c).2=0 then (lg,r8 lg d c)
  else if ¬ (s9 lg d c).2=0 then (lg,s9 lg d c)
  else if ¬ (vp lg d c).2=0 then (lg,vp lg d c)
  else (⟨lg.From,lg.Many,lg.First,lg.Next+(c.length:Int)+1⟩,(vp lg d c).1,0)
section
variable {lg:Lg} {d dm:cx} {c:List Change} {i n m:Nat} {x:Change} {Z:cx×Int}
theorem P6 (h:kV lg dm (c.drop i) i=Z)(hx:c[i]? = some x)(hw:(ap dm (lg.From+lg.Next+(i:Int)) (dG 111 (lg.First+lg.Next+(i:Int)) (kb x).1)).2=0) :
 kV lg (ap dm (lg.From+lg.Next+(i:Int)) (dG 111 (lg.First+lg.Next+(i:Int)) (kb x).1)).1 (c.drop (i+1)) (i+1)=Z:=by
 rw [drop_at hx] at h;unfold kV at h;rw [if_pos hw] at h;exact h
theorem J4 (h:kV lg dm (c.drop i) i=Z)(hx:c[i]? = some x)(hw:¬ (ap dm (lg.From+lg.Next+(i:Int)) (dG 111 (lg.First+lg.Next+(i:Int)) (kb x).1)).2=0) :
 Z=ap dm (lg.From+lg.Next+(i:Int)) (dG 111 (lg.First+lg.Next+(i:Int)) (kb x).1):=by
 rw [drop_at hx] at h;unfold kV at h;rw [if_neg hw] at h;exact h.symm
theorem Gp (h:kV lg dm (c.drop i) i=Z)(hi:c.length<=i):Z=(dm,0):=by
 rw [List.drop_of_length_le hi] at h;unfold kV at h;exact h.symm
theorem HI (h:Z=kV lg d c 0)(hz:¬ Z.2=0):dw lg d c=(Z.1,Z.2):=by
 unfold dw;rw [<- h,if_neg hz]
theorem J5 (h:kV lg d c 0=(dm,0))(hl:lg.Next+(c.length:Int)+1<lg.Many):dw lg d c=((ap dm (lg.From+(lg.Next+(c.length:Int)+1)) ⟨#[]⟩).1,(ap dm (lg.From+(lg.Next+(c.length:Int)+1)) ⟨#[]⟩).2):=by
 unfold dw;rw [h,if_pos rfl,if_pos hl]
theorem HJ (h:kV lg d c 0=(dm,0))(hl:¬ lg.Next+(c.length:Int)+1<lg.Many):dw lg d c=(dm,0):=by
 unfold dw;rw [h,if_pos rfl,if_neg hl]
theorem xh (h:fN n m d)(hd:d.Down=false){i:Int}(h0:0<=i)(h1:i<(n:Int)):(bY d i).2=0/\(bY d i).1.size=48:=by
 have hn:=h.nl
 obtain ⟨x,hx⟩:∃x,d.Now[i.toNat]? = some x:=⟨_,List.getElem?_eq_getElem (by omega)⟩
 rw [p6 hd h0 hx]
 exact ⟨rfl,h.ns x (List.mem_of_getElem? hx)⟩
theorem Bo (h:iI x=0):(kb x).2=0/\(kb x).1.size<=41:=by
 obtain ⟨_,_,h3,h4⟩:=g9 h
 exact ⟨by unfold kb;rw [if_pos h],by rw [lC h];omega⟩
theorem Gq:∀ (c:List Change) (d:cx) (i m:Nat),fN n m d->fN n (m+c.length) (kV lg d c i).1
 | [],d,i,m,h=>by unfold kV;simpa using h
 | x::r,d,i,m,h=>by
  unfold kV
  have h1:=h.write (lg.From+lg.Next+(i:Int)) (dG 111 (lg.First+lg.Next+(i:Int)) (kb x).1)
  split
  .
   have:=Gq r _ (i+1) (m+1) h1
   rw [List.length_cons,show m+(r.length+1)=m+1+r.length by omega];exact this
  .exact h1.up (by rw [List.length_cons];omega)
theorem Bp (h:fN n m d):fN n (m+c.length+1) (dw lg d c).1:=by
 have h1:=Gq (lg:=lg) c d 0 m h
 unfold dw
 split
 .
  split
  .exact h1.write _ _
  .exact h1.up (by omega)
 .exact h1.up (by omega)
theorem Gr (h:fN n m d):fN n (m+c.length+1) (r8 lg d c).1:=(Bp h).flush
theorem Gs (h:fN n m d):fN n (m+c.length+2) (s9 lg d c).1:=(Gr h).write _ _
theorem Gt (h:fN n m d):fN n (m+c.length+2) (vp lg d c).1:=(Gs h).flush
theorem vG (h:fN n m d):fN n (m+c.length+2) (cy lg d c).2.1:=by
 unfold cy
 (repeat' split)
 .exact h.up (by omega)
 .exact (Bp h).up (by omega)
 .exact (Gr h).up (by omega)
 .exact Gs h
 .exact Gt h
 .exact Gt h
theorem qP:∀ {c:List Change},jH c=0 -> ∀x∈c,iI x=0
 | [],_,x,hx=>by cases hx
 | y::r,h,x,hx=>by
  unfold jH at h
  split at h
  .
   rename_i h0
   rcases List.mem_cons.1 hx with rfl|hx
   .exact h0
   .exact qP h x hx
  .exact absurd h (by assumption)
theorem J6 {f:Int}(h:jH (c.drop i)=f)(hx:c[i]? = some x)(h0:iI x=0):jH (c.drop (i+1))=f:=by
 rw [drop_at hx] at h;unfold jH at h;rw [if_pos h0] at h;exact h
theorem Bq {f:Int}(h:jH (c.drop i)=f)(hx:c[i]? = some x)(h0:¬ iI x=0):f=iI x:=by
 rw [drop_at hx] at h;unfold jH at h;rw [if_neg h0] at h;exact h.symm
theorem J7 {f:Int}(h:jH (c.drop i)=f)(hi:c.length<=i):f=0:=by
 rw [List.drop_of_length_le hi] at h;unfold jH at h;exact h.symm
theorem J8 (h:62<c.length):cy lg d c=(lg,d,2):=by
 have e:jI lg c=2:=by unfold jI;rw [if_pos h]
 unfold cy;rw [e,if_pos (by decide)]
theorem J9 (h:¬ 62<c.length)(h':lg.Many-lg.Next<(c.length:Int)+1):cy lg d c=(lg,d,9):=by
 have e:jI lg c=9:=by unfold jI;rw [if_neg h,if_pos h']
 unfold cy;rw [e,if_pos (by decide)]
theorem HM {f:Int}(h:¬ 62<c.length)(h':¬ lg.Many-lg.Next<(c.length:Int)+1)(hf:jH c=f)(h0:¬ f=0):cy lg d c=(lg,d,f):=by
 have e:jI lg c=f:=by unfold jI;rw [if_neg h,if_neg h',hf]
 unfold cy;rw [e,if_pos h0]
theorem Bs (h:¬ 62<c.length)(h':¬ lg.Many-lg.Next<(c.length:Int)+1)(hf:jH c=0):jI lg c=0:=by
 unfold jI;rw [if_neg h,if_neg h',hf]
theorem Oi (h:jI lg c=0)(ha:¬ (dw lg d c).2=0):cy lg d c=(lg,(dw lg d c).1,(dw lg d c).2):=by
 unfold cy;rw [if_neg (by omega),if_pos ha]
theorem Oj (h:jI lg c=0)(ha:(dw lg d c).2=0)(hb:¬ (r8 lg d c).2=0):cy lg d c=(lg,(r8 lg d c).1,(r8 lg d c).2):=by
 unfold cy;rw [if_neg (by omega),if_neg (by omega),if_pos hb]
theorem Ol (h:jI lg c=0)(ha:(dw lg d c).2=0)(hb:(r8 lg d c).2=0)(hc:¬ (s9 lg d c).2=0):cy lg d c=(lg,(s9 lg d c).1,(s9 lg d c).2):=by
 unfold cy;rw [if_neg (by omega),if_neg (by omega),if_neg (by omega),if_pos hc]
theorem Om (h:jI lg c=0)(ha:(dw lg d c).2=0)(hb:(r8 lg d c).2=0)(hc:(s9 lg d c).2=0)(hd:¬ (vp lg d c).2=0):cy lg d c=(lg,(vp lg d c).1,(vp lg d c).2):=by
 unfold cy;rw [if_neg (by omega),if_neg (by omega),if_neg (by omega),if_neg (by omega),if_pos hd]
theorem ES (h:jI lg c=0)(ha:(dw lg d c).2=0)(hb:(r8 lg d c).2=0)(hc:(s9 lg d c).2=0)(hd:(vp lg d c).2=0):cy lg d c=(⟨lg.From,lg.Many,lg.First,lg.Next+(c.length:Int)+1⟩,(vp lg d c).1,0):=by
 unfold cy;rw [if_neg (by omega),if_neg (by omega),if_neg (by omega),if_neg (by omega),if_neg (by omega)]
end
end
end Go.Proofs.YtkbhcbipadkcaaaGreatDoor
