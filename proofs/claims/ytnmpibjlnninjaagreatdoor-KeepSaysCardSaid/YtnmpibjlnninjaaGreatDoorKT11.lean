import Derived.Test.YtnmpibjlnninjaaGreatDoorKT10
import Derived.Shelf.Abstract
namespace Go.Proofs.YtnmpibjlnninjaaGreatDoor
set_option linter.unusedVariables false
set_option linter.unusedSimpArgs false
set_option maxRecDepth 100000
set_option maxHeartbeats 90000000
section
open Go Go.RowKit
structure Lg where
  From:Int
  Many:Int
  First:Int
  Next:Int
  deriving DecidableEq
def bW (n:Int):ByteArray:=⟨#[u8 (n % 256),u8 (n / 256 % 256),u8 (n / 65536 % 256),u8 (n / 16777216 % 256)]⟩
theorem jm (n:Int):(bW n).size=4:=rfl
theorem tL (n:Int):bl (bW n)=[u8 (n % 256),u8 (n / 256 % 256),u8 (n / 65536 % 256),u8 (n / 16777216 % 256)]:=rfl
theorem Rs {a b:Int}(ha:0<=a/\a<=255)(hb:0<=b/\b<=255)(h:u8 a=u8 b):a=b:=by
 grind [yd]
theorem Js {a b:Int}(ha:0<=a/\a<4294967296)(hb:0<=b/\b<4294967296)(h:bW a=bW b):a=b:=by
 have h1:bl (bW a)=bl (bW b):=by rw [h]
 rw [tL,tL] at h1
 simp only [List.cons.injEq,and_true] at h1
 grind [Rs]
def dN (k:Int)(n:Int)(s:ByteArray):ByteArray:=⟨#[u8 k]⟩++bW n++⟨#[UInt8.ofNat s.size,UInt8.ofNat (s.size / 256)]⟩++s
theorem H7 (k n:Int)(s:ByteArray):bl (dN k n s)=u8 k::u8 (n % 256)::u8 (n / 256 % 256)::u8 (n / 65536 % 256)::u8 (n / 16777216 % 256)::UInt8.ofNat s.size::UInt8.ofNat (s.size / 256)::bl s:=by
 rfl
theorem nP (k n:Int)(s:ByteArray):(dN k n s).size=7+s.size:=by
 grind [gC,H7,List.length_cons]
def cz (s:ByteArray):Nat:=bq s 5+256*bq s 6
def ry (s:ByteArray):ByteArray:=s.extract 7 (7+cz s)
def AB (s:ByteArray)(n k:Int):Bool:=decide (s.extract 1 5=bW n)&&decide (cz s<=41)&&decide (bq s 0=99)&&decide (ry s=bW k)
def FL (s:ByteArray)(n:Int):Bool:=decide (s.extract 1 5=bW n)&&decide (cz s<=41)&&decide (bq s 0=111)&&decide ((sh (ry s)).2=0)
def gS:List ByteArray->Int->List (List Change)->List Change->Nat->Nat->List (List Change)×Nat
  | [],_,out,_,used,_=>(out,used)
  | s::r,n,out,deed,used,pos =>
    if AB s n (deed.length:Int)=true then gS r (n+1) (out++[deed]) [] (pos+1) (pos+1)
    else if FL s n=true then gS r (n+1) out (deed++[(sh (ry s)).1]) used (pos+1)
    else (out,used)
def scan (l:List ByteArray)(first:Int):List (List Change)×Nat:=gS l first [] [] 0 0
section
variable {l:List ByteArray} {first n:Int} {out:List (List Change)} {deed:List Change} {used pos i:Nat} {s:ByteArray} {Z:List (List Change)×Nat}
theorem drop_at {α:Type}{l:List α}{i:Nat}{s:α}(h:l[i]? = some s):l.drop i=s::l.drop (i+1):=by
 grind [List.getElem?_eq_some_iff,List.drop_eq_getElem_cons]
theorem LG (h:gS (l.drop i) (first+(i:Int)) out deed used i=Z)(hs:l[i]? = some s)(hc:AB s (first+(i:Int)) (deed.length:Int)=true) :
 gS (l.drop (i+1)) (first+((i+1:Nat):Int)) (out++[deed]) [] (i+1) (i+1)=Z:=by
 rw [drop_at hs] at h
 unfold gS at h
 grind
theorem Oo (h:gS (l.drop i) (first+(i:Int)) out deed used i=Z)(hs:l[i]? = some s)(hc:AB s (first+(i:Int)) (deed.length:Int)=false)(ho:FL s (first+(i:Int))=true) :
 gS (l.drop (i+1)) (first+((i+1:Nat):Int)) out (deed++[(sh (ry s)).1]) used (i+1)=Z:=by
 rw [drop_at hs] at h
 unfold gS at h
 grind
theorem B3 (h:gS (l.drop i) (first+(i:Int)) out deed used i=Z)(hs:l[i]? = some s)(hc:AB s (first+(i:Int)) (deed.length:Int)=false)(ho:FL s (first+(i:Int))=false):Z=(out,used):=by
 simp_all [gS,drop_at,if_neg]
theorem Rt (h:gS (l.drop i) (first+(i:Int)) out deed used i=Z)(hl:l.length<=i):Z=(out,used):=by
 rw [List.drop_of_length_le hl] at h
 exact h.symm
theorem tM {k:Int}(h:¬ bq s 0=99):AB s n k=false:=by grind [AB]
theorem B5 (h:¬ bq s 0=111):FL s n=false:=by grind [FL]
theorem B6:∀ (l:List ByteArray) (n:Int) (out:List (List Change)) (deed:List Change) (used pos:Nat),
 gS l n out deed used pos=(out,used)∨(pos<(gS l n out deed used pos).2/\(gS l n out deed used pos).2<=pos+l.length /\
  ∀l':List ByteArray,l'.take ((gS l n out deed used pos).2-pos)=l.take ((gS l n out deed used pos).2-pos) ->
   gS l' n out deed used pos=gS (l'.drop ((gS l n out deed used pos).2-pos)) (n+(((gS l n out deed used pos).2-pos:Nat):Int)) (gS l n out deed used pos).1 [] (gS l n out deed used pos).2 (gS l n out deed used pos).2)
 | [],n,out,deed,used,pos => .inl rfl
 | s::r,n,out,deed,used,pos=>by
  have key:∀ (out':List (List Change)) (mZ:List Change) (m4:Nat),gS (s::r) n out deed used pos=gS r (n+1) out' mZ m4 (pos+1) ->
   (∀r',gS (s::r') n out deed used pos=gS r' (n+1) out' mZ m4 (pos+1)) ->
   (pos+1<(gS r (n+1) out' mZ m4 (pos+1)).2/\(gS r (n+1) out' mZ m4 (pos+1)).2<=pos+1+r.length /\
    ∀l':List ByteArray,l'.take ((gS r (n+1) out' mZ m4 (pos+1)).2-(pos+1))=r.take ((gS r (n+1) out' mZ m4 (pos+1)).2-(pos+1)) ->
     gS l' (n+1) out' mZ m4 (pos+1)=gS (l'.drop ((gS r (n+1) out' mZ m4 (pos+1)).2-(pos+1))) (n+1+(((gS r (n+1) out' mZ m4 (pos+1)).2-(pos+1):Nat):Int)) (gS r (n+1) out' mZ m4 (pos+1)).1 [] (gS r (n+1) out' mZ m4 (pos+1)).2 (gS r (n+1) out' mZ m4 (pos+1)).2) ->
   (pos<(gS (s::r) n out deed used pos).2/\(gS (s::r) n out deed used pos).2<=pos+(s::r).length /\
    ∀l':List ByteArray,l'.take ((gS (s::r) n out deed used pos).2-pos)=(s::r).take ((gS (s::r) n out deed used pos).2-pos) ->
     gS l' n out deed used pos=gS (l'.drop ((gS (s::r) n out deed used pos).2-pos)) (n+(((gS (s::r) n out deed used pos).2-pos:Nat):Int)) (gS (s::r) n out deed used pos).1 [] (gS (s::r) n out deed used pos).2 (gS (s::r) n out deed used pos).2):=by
   intro out' mZ m4 e e' h
   rw [e]
   generalize gS r (n+1) out' mZ m4 (pos+1)=R at h
   obtain ⟨h1,h2,h3⟩:=h
   refine ⟨ae,by rw [List.length_cons];omega,fun l' hl'=>?_⟩
   obtain ⟨m,hm⟩:∃m,R.2-pos=m+1:=⟨R.2-pos-1,ae⟩
   have hm':R.2-(pos+1)=m:=ae
   rw [hm] at hl' ⊢
   rw [hm'] at h3
   cases l' with
   | nil=>simp at hl'
   | cons s' r' =>
    rw [List.take_succ_cons,List.take_succ_cons] at hl'
    injection hl' with q1 q2
    subst q1
    rw [e',h3 r' q2,List.drop_succ_cons]
    rw [show n+1+(m:Int)=n+((m+1:Nat):Int) by omega]
  by_cases hc:AB s n (deed.length:Int)=true
  .
   right
   have e:∀r',gS (s::r') n out deed used pos=gS r' (n+1) (out++[deed]) [] (pos+1) (pos+1):=fun r'=>by rw [gS,if_pos hc]
   rcases B6 r (n+1) (out++[deed]) [] (pos+1) (pos+1) with h|h
   .
    rw [e r,h]
    refine ⟨ae,by rw [List.length_cons];omega,fun l' hl'=>?_⟩
    dsimp only at hl' ⊢
    rw [show pos+1-pos=1 by omega] at hl' ⊢
    cases l' with
    | nil=>simp at hl'
    | cons s' r' =>
     rw [List.take_succ_cons,List.take_succ_cons] at hl'
     injection hl' with q1 q2
     subst q1
     rw [e];rfl
   exact key _ _ _ (e r) e h
  by_cases ho:FL s n=true
  .
   have e:∀r',gS (s::r') n out deed used pos=gS r' (n+1) out (deed++[(sh (ry s)).1]) used (pos+1):=fun r'=>by rw [gS,if_neg hc,if_pos ho]
   rcases B6 r (n+1) out (deed++[(sh (ry s)).1]) used (pos+1) with h|h
   .left;rw [e r,h]
   right;exact key _ _ _ (e r) e h
  left;rw [gS,if_neg hc,if_neg ho]
theorem H8 (l:List ByteArray)(first:Int):(scan l first).2<=l.length:=by
 rcases B6 l first [] [] 0 0 with h|⟨_,h,_⟩
 .simp_all [scan,Nat.zero_le]
 grind [scan]
theorem ye {l l':List ByteArray}{first:Int}(h:l'.take (scan l first).2=l.take (scan l first).2) :
 scan l' first=gS (l'.drop (scan l first).2) (first+((scan l first).2:Int)) (scan l first).1 [] (scan l first).2 (scan l first).2:=by
 grind [scan,B6]
end
theorem H9 (s:ByteArray):bl (full s)=bl s++List.replicate (48-s.size) 0:=eF
section
variable {k n:Int} {s:ByteArray}
theorem Er (hs:s.size<=41):bl (full (dN k n s))=u8 k::u8 (n % 256)::u8 (n / 256 % 256)::u8 (n / 65536 % 256)::u8 (n / 16777216 % 256)::UInt8.ofNat s.size::UInt8.ofNat (s.size / 256)::(bl s++List.replicate (41-s.size) 0):=by
 grind [H9,H7,nP]
theorem qh (hs:s.size<=41):bq (full (dN k n s)) 0=(u8 k).toNat:=eF
theorem nQ (hs:s.size<=41):(full (dN k n s)).extract 1 5=bW n:=gX (by
 rfl)
theorem Ca (hs:s.size<=41):cz (full (dN k n s))=s.size:=by
 unfold cz
 grind [jA,Er,qc]
theorem Cb (hs:s.size<=41):ry (full (dN k n s))=s:=by
 unfold ry
 rw [Ca hs]
 exact gX (by
  have:=oI (full (dN k n s)) 7 (7+s.size)
  rw [Er hs] at this
  refine this.trans ?_
  rw [show 7+s.size=s.size+1+1+1+1+1+1+1 by omega]
  simp)
theorem Oq {c:Int}(n:Int):AB (full (dN 99 n (bW c))) n c=true:=by
 have h:(bW c).size<=41:=by grind [jm]
 unfold AB
 rw [nQ h,Ca h,qh h,Cb h,jm]
 simp;rfl
theorem Ot {c:Int}(hs:s.size<=41)(n m:Int):AB (full (dN 111 n s)) m c=false:=tM (by rw [qh hs];decide)
theorem Ou {c:Change}(hc:gu c=0)(n:Int):FL (full (dN 111 n (jZ c).1)) n=true:=by
 have h:(jZ c).1.size<=41:=by
  grind [gv,kS]
 unfold FL
 rw [nQ h,Ca h,qh h,Cb h,HV hc]
 simp [h];rfl
theorem Ov {c:Change}(hc:gu c=0)(n:Int):(sh (ry (full (dN 111 n (jZ c).1)))).1=c:=by
 grind [gv,kS,Cb,HV]
theorem oP:bq (full ⟨#[]⟩) 0=0:=eF
theorem Es:bq (wG 48) 0=0:=eF
theorem Et:full ⟨#[]⟩=wG 48:=eF
end
def eH (n:Int):List Change->List ByteArray
  | []=>[]
  | c::l=>full (dN 111 n (jZ c).1)::eH (n+1) l
theorem gw:∀ (l:List Change) (n:Int),(eH n l).length=l.length
 | [],_=>rfl
 | c::l,n=>by simp [eH,gw l]
theorem uJ:∀ (l:List Change) (n:Int) (i:Nat) (c:Change),l[i]? = some c->(eH n l)[i]? = some (full (dN 111 (n+(i:Int)) (jZ c).1))
 | [],_,i,c,h=>by simp at h
 | x::l,n,0,c,h=>by
  simp at h;subst h;simp [eH]
 | x::l,n,i+1,c,h=>by
  simp at h
  have:=uJ l (n+1) i c h
  simp only [eH,List.getElem?_cons_succ]
  rw [this,show n+1+(i:Int)=n+((i+1:Nat):Int) by omega]
theorem Eu:∀ (l:List Change) (n:Int) (r:List ByteArray) (out:List (List Change)) (deed:List Change) (used pos:Nat),(∀c∈l,gu c=0) ->
 gS (eH n l++r) n out deed used pos=gS r (n+(l.length:Int)) out (deed++l) used (pos+l.length)
 | [],n,r,out,deed,used,pos,_=>by simp [eH]
 | c::l,n,r,out,deed,used,pos,h=>by
  have hc:=h c (List.mem_cons_self ..)
  obtain ⟨_,_,h3,h4⟩:=gv hc
  have hs:(jZ c).1.size<=41:=by grind [kS]
  simp only [eH,List.cons_append]
  rw [gS,if_neg (by grind [Ot]),if_pos (Ou hc n),Ov hc,Eu l _ r _ _ _ _ (fun c hc=>h c (List.mem_cons_of_mem _ hc))]
  grind
theorem Ia {l:List Change}{n:Int}{r:List ByteArray}{out:List (List Change)}{used:Nat}(hl:∀c∈l,gu c=0)(hr:r=[] ∨ ∃s r',r=s::r'/\bq s 0=0) :
 gS (eH n l++full (dN 99 (n+(l.length:Int)) (bW (l.length:Int)))::r) n out [] used used=(out++[l],used+l.length+1):=by
 rw [Eu l n _ _ _ _ _ hl]
 rw [gS,List.nil_append,if_pos (Oq _)]
 rcases hr with rfl|⟨s,r',rfl,hs⟩
 .rfl
 simp_all [gS,if_neg,tM,B5]
end
section
open Go Go.RowKit
def Cc (v:Value):Value:=match v with | .slice a n c => .slice a n c|_ => .slice none 0 0
theorem LH (v:Value):(Cc v).oneCell'=true:=by unfold Cc;split <;> rfl
theorem Sl.Cc {α:Type}[Enc α]{w:World}{v:Value}{l:List α}(h:Sl w v l):YtnmpibjlnninjaaGreatDoor.Cc v=v:=by
 obtain ⟨A,c,rfl,_⟩:=h;rfl
structure jO where
  v0:Value
  L:List Change
abbrev jO.cv (x:jO):Value:=Cc x.v0
instance:Enc jO:=⟨1,fun x=>[x.cv],fun _=>rfl,fun x u hu=>by grind [List.mem_singleton,LH],by decide⟩
abbrev jO.val (x:jO):Value:=x.cv
def ah.mb (l:List jO):ah:=⟨l.flatMap (fun x=>(ah.ls x.cv x.L).blk),fun w => ∀x∈l,Sl w x.cv x.L,fun w w' h hs x hx=>(ah.ls x.cv x.L).loc w w' (fun k hk=>h k (List.mem_flatMap.2 ⟨x,hx,hk⟩)) (hs x hx)⟩
def ah.qi (l:List jO)(E:List (List Change)):ah:=⟨(ah.mb l).blk,fun w=>(ah.mb l).ok w/\l.map jO.L=E,fun w w' h hs=>⟨(ah.mb l).loc w w' h hs.1,hs.2⟩⟩
theorem Ow {l:List jO}{x:jO}(hx:x∈l):∀k∈(ah.ls x.cv x.L).blk,k∈(ah.mb l).blk:=fun k hk=>List.mem_flatMap.2 ⟨x,hx,hk⟩
section
variable {P:Program} {n:Nat} {we w:World} {X:List Nat} {B F:List ah} {l:List jO} {x:jO} {v:Value} {L:List Change} {Q:Exit->Act->World->Prop} {k:List It} {ops:List Oper} {rest:List (List Oper)}
theorem Wd.WY (i:Nat)(h:F[i]? = some (ah.mb l))(hx:x∈l)(hw:Wd we X B F w):Sl w x.cv x.L:=hw.f i h x hx
theorem Wd.Ut (hw:Wd we X B F w):Wd we X B (ah.mb []::F) w:=hw.fact (r:=ah.mb []) (fun x hx=>by grind) (fun k hk=>by cases hk)
theorem Wd.Ox (i j:Nat)(hi:F[i]? = some (ah.mb l))(hj:F[j]? = some (ah.ls v L))(hw:Wd we X B F w):Wd we X B (ah.mb (l++[⟨v,L⟩])::F) w:=by
 have h1:∀x∈l,Sl w x.cv x.L:=hw.f i hi
 have h2:Sl w v L:=hw.cq j hj
 refine hw.fact (r:=ah.mb (l++[⟨v,L⟩])) (fun x hx=>?_) (fun k hk=>?_)
 .grind [Sl,Cc,List.mem_singleton]
 obtain ⟨x,hx,hk⟩:=List.mem_flatMap.1 hk
 rcases List.mem_append.1 hx with hx|hx
 .exact hw.lU k (bD.2 ⟨_,List.mem_of_getElem? hi,List.mem_flatMap.2 ⟨x,hx,hk⟩⟩)
 rw [List.mem_singleton.1 hx] at hk
 have hk':k∈(ah.ls v L).blk:=by
  have:(jO.mk v L).cv=v:=h2.Cc
  grind
 exact hw.lU k (bD.2 ⟨_,List.mem_of_getElem? hj,hk'⟩)
theorem Wd.Cd (i:Nat)(hi:F[i]? = some (ah.mb l))(hw:Wd we X B F w):Wd we X B (ah.qi l (l.map jO.L)::F) w :=
 hw.fact (r:=ah.qi l (l.map jO.L)) ⟨hw.f i hi,rfl⟩ (fun k hk=>hw.lU k (bD.2 ⟨_,List.mem_of_getElem? hi,hk⟩))
theorem Wd.Ru (i:Nat)(hi:F[i]? = some (ah.mb l))(hx:x∈l)(hw:Wd we X B F w):Wd we X B (ah.ls x.cv x.L::F) w :=
 hw.T6 i _ _ hi (Ow hx) (hw.WY i hi hx)
theorem Wd.Ce {E:List (List Change)}(i:Nat)(F':List ah)(hi:F[i]? = some (ah.qi l E))(hF:ah.mb l::F.eraseIdx i=F')(hw:Wd we X B F w):Wd we X B F' w/\l.map jO.L=E:=by
 subst hF
 have h:=hw.f i hi
 refine ⟨?_,h.2⟩
 have h1:=hw.fact (r:=ah.mb l) h.1 (fun k hk=>hw.lU k (bD.2 ⟨_,List.mem_of_getElem? hi,hk⟩))
 refine ⟨h1.upd,h1.okB,fun r hr=>?_,h1.sep,h1.own,fun k hk=>?_⟩
 .
  rcases List.mem_cons.1 hr with rfl|hr
  .exact h.1
  exact hw.okF r ((List.eraseIdx_sublist F i).subset hr)
 obtain ⟨r,hr,hk⟩:=bD.1 hk
 rcases List.mem_cons.1 hr with rfl|hr
 .exact hw.lU k (bD.2 ⟨_,List.mem_of_getElem? hi,hk⟩)
 exact hw.lU k (bD.2 ⟨r,(List.eraseIdx_sublist F i).subset hr,hk⟩)
theorem R.Rv {L':Fm}{E:List (List Change)}(i:Nat)(F':List ah)(hi:F[i]? = some (ah.qi l E))(hF:ah.mb l::F.eraseIdx i=F')(h:l.map jO.L=E->Run P n we X Q k L' B F'):Run P n we X Q k L' B F :=
 fun a w ha hw=>h (hw.Ce i F' hi hF).2 a w ha (hw.Ce i F' hi hF).1
theorem Rg.Rv {L':Fm}{E:List (List Change)}{rs:List Oper}(i:Nat)(F':List ah)(hi:F[i]? = some (ah.qi l E))(hF:ah.mb l::F.eraseIdx i=F')(h:l.map jO.L=E->Rg P n we X Q ops rs k L' B F'):Rg P n we X Q ops rs k L' B F :=
 fun a w ha hw=>h (hw.Ce i F' hi hF).2 a w ha (hw.Ce i F' hi hF).1
end
section
variable {P:Program} {n:Nat} {we:World} {X:List Nat} {L:Fm} {B F:List ah} {d:Nat} {ty:TypeId} {pos:String} {dr:Array Edge} {g:Option (Nat×Bool)}
theorem s.YT {α:Type}[Enc α]{m:Nat}{parts:Array (Nat×Operand)}{t e:TypeId}{l:List α}{vs:List Value}{z:Value}(ht:lV P t=some (e,Enc.k α))(hz:dZ P e=some z)(hzs:z.cells.size=Enc.k α)(hm:l.length=m)(hsmall:Nat.blt (m*Enc.k α) 16777216=true)
 (hp:evs L (parts.toList.map (·.2))=some vs) (hi:parts.toList.map (·.1)=List.range' 0 m) (hv:∀w,Wd we X B F w->vs.map (fun v=>v.cells.toList)=l.map Enc.cells) (hd:Nat.blt d n=true) :
 Stp P n we X L B F ⟨some d,.buildSlice t m parts,ty,pos,dr,g⟩ (fun b:Nat=>(d,.slice (some ⟨b,0,none⟩) m m)::L) (fun b=>ah.row e (.slice (some ⟨b,0,none⟩) m m) l::B) (fun _=>F) :=
 fun K Q' a w ha hw hK=>s.bs ht hz hzs hm hsmall hp hi (hv w hw) hd K Q' a w ha hw hK
theorem Jt {w:World}{v:Value}{L:List Change}(h:Sl w v L) : [v].map (fun v=>v.cells.toList)=[(⟨v,L⟩:jO)].map Enc.cells:=by
 show [v.cells.toList]=[[Cc v]]
 rw [h.Cc,h.Bt]
theorem q.Uu {fn:FuncId}{fs cs:Array Operand}{bnd cap:List Value}(hb:evs L fs.toList=some bnd)(hc:evs L cs.toList=some cap):Qt P n we X L B F (.makeFunc (.func fn) fs cs) ty (.func (.func fn) bnd.toArray cap.toArray):=fun _ _ _ _ a w ha hw=>by
 have hm:cs.map a.eval=cap.toArray:=by rw [<- ha.evs hc,<- Array.toList_map]
 have hn:fs.map a.eval=bnd.toArray:=by rw [<- ha.evs hb,<- Array.toList_map]
 simp_all [execOp,Instr.makeFunc]
theorem q.min {kd:IntKind}{x y:Operand}{a b r:Int}{ts:Array TypeId}(hx:ev L x=some (.int kd a))(hy:ev L y=some (.int kd b))(hr:min a b=r):Qt P n we X L B F (.call { callee:= .builtin .min,args:= #[x,y],argTypes:=ts}) ty (.int kd r):=fun _ _ _ _ q w ha hw=>by
 have e:(if b<a then b else a)=r:=ae
 simp [execOp,resolve,invoke,builtin,ha.ev hx,ha.ev hy,Builtin.min_,Builtin.min2,e]
theorem Tq {k:IntKind}{a b:Int}(h:a=b):Value.int k a = .int k b:=by rw [h]
structure zF where
  f:Fn
  b:Array Value
  c:Array Value
abbrev zF.cv (x:zF):Value:= .func x.f x.b x.c
instance:Enc zF:=⟨1,fun x=>[x.cv],fun _=>rfl,fun x u hu=>by rw [List.mem_singleton.1 hu];rfl,by decide⟩
theorem q.Oy {u:Value}{x:zF}{xT:TypeId}{a:Operand}(hu:x.cv=u)(h:Qt P n we X L B F (.load xT a) ty x.cv):Qt P n we X L B F (.load xT a) ty u:=hu▸h
theorem Ju {f:FuncId}{c:Operand}{xs:Array Operand}{ts:Array TypeId}{vs:List Value}{bnd cap:Array Value}{a:Act}{w:World}{dst:Option Nat}(ha:Fr n L a)(hargs:evs L xs.toList=some vs)(hc:ev L c=some (.func (.func f) bnd cap))
 (eg:∀args w,(callFunc f args).run P w = .ok (.enter f args) w):(execOp a.eval ⟨dst,.call { callee:= .value c,args:=xs,argTypes:=ts},ty,pos,dr,g⟩).run P w = .ok (.enter f (bnd.toList++vs++cap.toList).toArray) w:=by
 have hm:xs.map a.eval=vs.toArray:=by
  rw [<- ha.evs hargs,<- Array.toList_map]
 simp [execOp,resolve,ha.ev hc,Deferred.ofValue,invoke,hm,eg]
theorem s.LJ {β:Type}{f:FuncId}{c:Operand}{xs:Array Operand}{ts:Array TypeId}{vs:List Value}{bnd cap:Array Value}{B0 Br F0:List ah}(is js:List Nat)(G:β->Value)(B1 F1:β->List ah)(hp:bP B is=some (B0++Br))(ha':d9 is=true)(hj:bP F js=some F0)
 (eg:∀args w,(callFunc f args).run P w = .ok (.enter f args) w) (hargs:evs L xs.toList=some vs) (hc:ev L c=some (.func (.func f) bnd cap))
 (hcall:∀w own,Wd we X B F w->Wd w (blks B0++own) (B0++[ah.held w own]) F0 w->Calls P f (bnd.toList++vs++cap.toList).toArray w fun e w' => ∃z,e = .returned (G z)/\Wd w (blks B0++own) (B1 z++[ah.held w own]) (F1 z) w') (hd:Nat.blt d n=true) :
 Stp P n we X L B F ⟨some d,.call { callee:= .value c,args:=xs,argTypes:=ts},ty,pos,dr,g⟩ (fun z=>(d,G z)::L) (fun z=>B1 z++Br) (fun z=>F1 z++F):=by
 intro K Q' a w ha hw hK
 have hw2:=hw.NN is hp ha'
 unfold Oper.wp
 rw [Ju ha hargs hc eg,Oper.upon_enter]
 refine (hcall w (blks Br) hw (hw2.Bm hj)).mono fun e w' he=>?_
 obtain ⟨z,rfl,ht⟩:=he
 exact hK z _ _ (ha.put d _ hd) (hw2.after ht)
end
end
section
open Go Go.RowKit
structure Wa where
  C:List Change
structure Uv where
  E:Int
def iw (s:ByteArray)(n:Int):Bool:=decide (s.extract 1 5=bW n)&&(decide (bq s 0=111)||decide (bq s 0=99))&&decide (cz s<=41)
def pB (s:ByteArray)(n:Int):Nat:=if iw s n=true then bq s 0 else 0
def jP (s:ByteArray)(n:Int):ByteArray:=if iw s n=true then ry s else ⟨#[]⟩
section
variable {s:ByteArray} {n k:Int}
theorem yg (h:¬ s.extract 1 5=bW n):iw s n=false:=by grind [iw]
theorem yh (h:¬ bq s 0=111)(h':¬ bq s 0=99):iw s n=false:=by grind [iw]
theorem nU (h:41<cz s):iw s n=false:=by grind [iw]
theorem kY (h:s.extract 1 5=bW n)(h':bq s 0=111∨bq s 0=99)(hl:cz s<=41):iw s n=true:=by
 grind [iw]
theorem jC (h:iw s n=false):pB s n=0/\jP s n=⟨#[]⟩:=by grind [pB,jP]
theorem jD (h:iw s n=true):pB s n=bq s 0/\jP s n=ry s:=by grind [pB,jP]
theorem yi (h:iw s n=true):s.extract 1 5=bW n/\(bq s 0=111∨bq s 0=99)/\cz s<=41:=by
 simp_all [iw,and_assoc]
theorem Rw (h:iw s n=true)(hk:pB s n=99)(hx:jP s n=bW k):AB s n k=true:=by
 grind [AB,yi,jD]
theorem Ev (h:iw s n=false):AB s n k=false/\FL s n=false:=by
 constructor
 .
  rw [Bool.eq_false_iff];intro hc
  simp_all [AB,Bool.and_eq_true,decide_eq_true_eq,kY]
 rw [Bool.eq_false_iff];intro hc
 simp_all [FL,Bool.and_eq_true,decide_eq_true_eq,kY]
theorem Ew (h:iw s n=true)(hk:pB s n=99)(hx:¬ jP s n=bW k):AB s n k=false/\FL s n=false:=by
 grind [AB,jD,B5]
theorem Rx (h:iw s n=true)(hk:¬ pB s n=99)(hp:(sh (jP s n)).2=0):AB s n k=false/\FL s n=true/\jP s n=ry s:=by
 grind [bq,FL,yi,jD,tM]
theorem Ex (h:iw s n=true)(hk:¬ pB s n=99)(hp:¬ (sh (jP s n)).2=0):AB s n k=false/\FL s n=false:=by
 grind [FL,jD,tM]
theorem Gh (hs:s.size=48):(jP s n).size<=48:=by
 unfold jP ry;split
 .grind [ByteArray.size_extract]
 decide
end
def qj (d:bZ)(fI:Int)(many:Nat):List ByteArray:=(List.range many).map fun (i:Nat)=>(cC d (fI+(i:Int))).1
theorem qk (d:bZ)(fI:Int)(many:Nat):(qj d fI many).length=many:=by simp [qj]
theorem qQ {d:bZ}{fI:Int}{many i:Nat}(h:i<many):(qj d fI many)[i]? = some ((cC d (fI+(i:Int))).1):=by
 simp [qj,h]
def kZ (d:bZ)(fI:Int)(many:Nat)(first:Int):List (List Change):=(scan (qj d fI many) first).1
def eZ (d:bZ)(fI:Int)(many:Nat)(first:Int):Nat:=(scan (qj d fI many) first).2
def ku (lg:Lg):bZ->List Change->Nat->bZ×Int
  | d,[],i=>(d,0)
  | d,x::r,i =>
    if (aP d (lg.From+lg.Next+(i:Int)) (dN 111 (lg.First+lg.Next+(i:Int)) (jZ x).1)).2=0 then ku lg (aP d (lg.From+lg.Next+(i:Int)) (dN 111 (lg.First+lg.Next+(i:Int)) (jZ x).1)).1 r (i+1)
    else aP d (lg.From+lg.Next+(i:Int)) (dN 111 (lg.First+lg.Next+(i:Int)) (jZ x).1)
def dG (lg:Lg)(d:bZ)(c:List Change):bZ×Int :=
  if (ku lg d c 0).2=0 then (if lg.Next+(c.length:Int)+1<lg.Many then aP (ku lg d c 0).1 (lg.From+(lg.Next+(c.length:Int)+1)) ⟨#[]⟩ else ((ku lg d c 0).1,0)) else ku lg d c 0
def sr (lg:Lg)(d:bZ)(c:List Change):bZ×Int:=aN (dG lg d c).1
def tN (lg:Lg)(d:bZ)(c:List Change):bZ×Int:=aP (sr lg d c).1 (lg.From+(lg.Next+(c.length:Int))) (dN 99 (lg.First+(lg.Next+(c.length:Int))) (bW (c.length:Int)))
def vW (lg:Lg)(d:bZ)(c:List Change):bZ×Int:=aN (tN lg d c).1
def gI:List Change->Int
  | []=>0
  | x::r=>if gu x=0 then gI r else gu x
def lf (lg:Lg)(c:List Change):Int:=if 62<c.length then 2 else if lg.Many-lg.Next<(c.length:Int)+1 then 9 else gI c
def cw (lg:Lg)(d:bZ)(c:List Change):Lg×bZ×Int :=
  if ¬ lf lg c=0 then (lg,d,lf lg c)
  else if ¬ (dG lg d c).2=0 then (lg,dG lg d c)
  else if ¬ (sr lg d c).2=0 then (lg,sr lg d c)
  else if ¬ (tN lg d c).2=0 then (lg,tN lg d c)
  else if ¬ (vW lg d c).2=0 then (lg,vW lg d c)
  else (⟨lg.From,lg.Many,lg.First,lg.Next+(c.length:Int)+1⟩,(vW lg d c).1,0)
section
variable {lg:Lg} {d dm:bZ} {c:List Change} {i n m:Nat} {x:Change} {Z:bZ×Int}
theorem Ry (h:ku lg dm (c.drop i) i=Z)(hx:c[i]? = some x)(hw:(aP dm (lg.From+lg.Next+(i:Int)) (dN 111 (lg.First+lg.Next+(i:Int)) (jZ x).1)).2=0) :
 ku lg (aP dm (lg.From+lg.Next+(i:Int)) (dN 111 (lg.First+lg.Next+(i:Int)) (jZ x).1)).1 (c.drop (i+1)) (i+1)=Z:=by
 simp_all [ku,drop_at,if_pos]
theorem LK (h:ku lg dm (c.drop i) i=Z)(hx:c[i]? = some x)(hw:¬ (aP dm (lg.From+lg.Next+(i:Int)) (dN 111 (lg.First+lg.Next+(i:Int)) (jZ x).1)).2=0) :
 Z=aP dm (lg.From+lg.Next+(i:Int)) (dN 111 (lg.First+lg.Next+(i:Int)) (jZ x).1):=by
 simp_all [ku,drop_at,if_neg]
theorem Ib (h:ku lg dm (c.drop i) i=Z)(hi:c.length<=i):Z=(dm,0):=by
 grind [ku,List.drop_of_length_le]
theorem Jv (h:Z=ku lg d c 0)(hz:¬ Z.2=0):dG lg d c=(Z.1,Z.2):=by
 simp_all [dG,if_neg]
theorem LL (h:ku lg d c 0=(dm,0))(hl:lg.Next+(c.length:Int)+1<lg.Many):dG lg d c=((aP dm (lg.From+(lg.Next+(c.length:Int)+1)) ⟨#[]⟩).1,(aP dm (lg.From+(lg.Next+(c.length:Int)+1)) ⟨#[]⟩).2):=by
 unfold dG;grind
theorem Jw (h:ku lg d c 0=(dm,0))(hl:¬ lg.Next+(c.length:Int)+1<lg.Many):dG lg d c=(dm,0):=by
 unfold dG;grind
theorem yj (h:fx n m d)(hd:d.Down=false){i:Int}(h0:0<=i)(h1:i<(n:Int)):(cC d i).2=0/\(cC d i).1.size=48:=by
 have hn:=h.nl
 obtain ⟨x,hx⟩:∃x,d.Now[i.toNat]? = some x:=⟨_,List.getElem?_eq_getElem ae⟩
 rw [qf hd h0 hx]
 exact ⟨rfl,h.ns x (List.mem_of_getElem? hx)⟩
theorem Cg (h:gu x=0):(jZ x).2=0/\(jZ x).1.size<=41:=by
 obtain ⟨_,_,h3,h4⟩:=gv h
 exact ⟨by simp_all [jZ,if_pos],by grind [kS]⟩
theorem Ic:∀ (c:List Change) (d:bZ) (i m:Nat),fx n m d->fx n (m+c.length) (ku lg d c i).1
 | [],d,i,m,h=>by unfold ku;simpa using h
 | x::r,d,i,m,h=>by
  unfold ku
  have h1:=h.write (lg.From+lg.Next+(i:Int)) (dN 111 (lg.First+lg.Next+(i:Int)) (jZ x).1)
  split
  .
   have:=Ic r _ (i+1) (m+1) h1
   rw [List.length_cons,show m+(r.length+1)=m+1+r.length by omega];exact this
  exact h1.up (by rw [List.length_cons];omega)
theorem Ch (h:fx n m d):fx n (m+c.length+1) (dG lg d c).1:=by
 have h1:=Ic (lg:=lg) c d 0 m h
 unfold dG
 split
 .
  split
  .exact h1.write _ _
  exact h1.up ae
 exact h1.up ae
theorem Ie (h:fx n m d):fx n (m+c.length+1) (sr lg d c).1:=(Ch h).flush
theorem Ig (h:fx n m d):fx n (m+c.length+2) (tN lg d c).1:=(Ie h).write _ _
theorem Ih (h:fx n m d):fx n (m+c.length+2) (vW lg d c).1:=(Ig h).flush
theorem wH (h:fx n m d):fx n (m+c.length+2) (cw lg d c).2.1:=by
 unfold cw
 (repeat' split)
 .exact h.up ae
 .exact (Ch h).up ae
 .exact (Ie h).up ae
 .exact Ig h
 .exact Ih h
 grind [Ih]
theorem qR:∀ {c:List Change},gI c=0 -> ∀x∈c,gu x=0
 | [],_,x,hx=>by cases hx
 | y::r,h,x,hx=>by
  unfold gI at h
  split at h
  .
   rename_i h0
   rcases List.mem_cons.1 hx with rfl|hx
   .exact h0
   exact qR h x hx
  exact absurd h af
theorem LM {f:Int}(h:gI (c.drop i)=f)(hx:c[i]? = some x)(h0:gu x=0):gI (c.drop (i+1))=f:=by
 simp_all [gI,drop_at,if_pos]
theorem Ci {f:Int}(h:gI (c.drop i)=f)(hx:c[i]? = some x)(h0:¬ gu x=0):f=gu x:=by
 simp_all [gI,drop_at,if_neg]
theorem Gi {f:Int}(h:gI (c.drop i)=f)(hi:c.length<=i):f=0:=by
 grind [gI,List.drop_of_length_le]
theorem LN (h:62<c.length):cw lg d c=(lg,d,2):=by
 simp_all [lf,cw,if_pos]
theorem LO (h:¬ 62<c.length)(h':lg.Many-lg.Next<(c.length:Int)+1):cw lg d c=(lg,d,9):=by
 simp_all [lf,cw,if_neg,if_pos]
theorem Jx {f:Int}(h:¬ 62<c.length)(h':¬ lg.Many-lg.Next<(c.length:Int)+1)(hf:gI c=f)(h0:¬ f=0):cw lg d c=(lg,d,f):=by
 simp_all [lf,cw,if_neg,if_pos]
theorem Ii (h:¬ 62<c.length)(h':¬ lg.Many-lg.Next<(c.length:Int)+1)(hf:gI c=0):lf lg c=0:=by
 simp_all [lf,if_neg]
theorem Qi (h:lf lg c=0)(ha:¬ (dG lg d c).2=0):cw lg d c=(lg,(dG lg d c).1,(dG lg d c).2):=by
 simp_all [cw,if_neg,if_pos]
theorem Qj (h:lf lg c=0)(ha:(dG lg d c).2=0)(hb:¬ (sr lg d c).2=0):cw lg d c=(lg,(sr lg d c).1,(sr lg d c).2):=by
 simp_all [cw,if_neg,if_pos]
theorem Qk (h:lf lg c=0)(ha:(dG lg d c).2=0)(hb:(sr lg d c).2=0)(hc:¬ (tN lg d c).2=0):cw lg d c=(lg,(tN lg d c).1,(tN lg d c).2):=by
 simp_all [cw,if_neg,if_pos]
theorem Ql (h:lf lg c=0)(ha:(dG lg d c).2=0)(hb:(sr lg d c).2=0)(hc:(tN lg d c).2=0)(hd:¬ (vW lg d c).2=0):cw lg d c=(lg,(vW lg d c).1,(vW lg d c).2):=by
 simp_all [cw,if_neg,if_pos]
theorem Gj (h:lf lg c=0)(ha:(dG lg d c).2=0)(hb:(sr lg d c).2=0)(hc:(tN lg d c).2=0)(hd:(vW lg d c).2=0):cw lg d c=(⟨lg.From,lg.Many,lg.First,lg.Next+(c.length:Int)+1⟩,(vW lg d c).1,0):=by
 simp_all [cw,if_neg]
end
end
section
theorem Gk {α:Type}[DecidableEq α]:∀ (a b:List α),a.Nodup->(∀x∈a,x∈b)->a.length<=b.length
 | [],b,_,_=>Nat.zero_le _
 | x::a,b,hn,h=>by
  obtain ⟨h1,h2⟩:=List.nodup_cons.1 hn
  have hx:=h x (List.mem_cons_self ..)
  have:=Gk a (b.erase x) h2 (fun y hy=>(List.mem_erase_of_ne (fun e=>h1 au)).2 (h y (List.mem_cons_of_mem _ hy)))
  grind
def YU (p:Place):ByteArray:=kH++dx p.aB++dx p.Slot
def Rz:List Place:=(List.range 24).map (fun i=>⟨((i / 6+1:Nat):Int),((i % 6:Nat):Int)⟩)
theorem LP {p:Place}(h:aY p=0):p∈Rz:=by
 have h1:=bG h
 refine List.mem_map.2 ⟨((p.aB.toNat-1)*6+p.Slot.toNat),List.mem_range.2 ae,?_⟩
 obtain ⟨a,b⟩:=p
 grind
def Ij (H T:List Int):List ByteArray:=Rz.map YU++T.map (fun i=>kT++bm i)++H.map (fun i=>kW++bm i)++[kX]
theorem LQ {H T:List Int}(h1:H.length<=24)(h2:T.length<=10):(Ij H T).length<=59:=by
 grind [Ij,Rz,List.length_append,List.length_map,List.length_range,List.length_cons,List.length_nil]
section
variable {r a b:aA}
theorem AE (h:Inv r){H T:List Int}(hH:∀x∈r.Held,x.ak∈H)(hT:∀t∈r.Things,t.ID∈T):∀c∈aQ r,c.Key∈Ij H T:=fun c hc=>by
 obtain ⟨q1,q2,q3,q4,q5⟩:=gq h
 unfold aQ rowsOf at hc
 rcases List.mem_append.1 hc with hc|hc
 .
  rcases List.mem_append.1 hc with hc|hc
  .
   rcases List.mem_append.1 hc with hc|hc
   .
    obtain ⟨x,hx,rfl⟩:=List.mem_map.1 hc
    exact List.mem_append_left _ (List.mem_append_left _ (List.mem_append_left _ (List.mem_map.2 ⟨x.Place,LP (q1.H5 hx).1,rfl⟩)))
   obtain ⟨x,hx,rfl⟩:=List.mem_map.1 hc
   have hx2:=(Am _).2.2.1 x hx
   exact List.mem_append_left _ (List.mem_append_left _ (List.mem_append_right _ (List.mem_map.2 ⟨x.ID,hT x hx2,rfl⟩)))
  obtain ⟨x,hx,rfl⟩:=List.mem_map.1 hc
  have h1:=q1.once x hx
  have h2:cN (aK r).Notes x.ID=0:=eF
  obtain ⟨y,hy,e⟩:=List.countP_pos_iff.1 (show 0<cH (aK r).Held x.ID by omega)
  have e:y.ak=x.ID:=au
  rw [q3] at hy
  exact List.mem_append_left _ (List.mem_append_right _ (List.mem_map.2 ⟨x.ID,e▸hH y hy,rfl⟩))
 rw [List.mem_singleton.1 hc]
 exact List.mem_append_right _ (List.mem_singleton.2 rfl)
theorem Ik (ha:Inv a)(hb:Inv b){H T:List Int}(hH:H.length<=24)(hT:T.length<=10)(a1:∀x∈a.Held,x.ak∈H)(a2:∀t∈a.Things,t.ID∈T)(b1:∀x∈b.Held,x.ak∈H)(b2:∀t∈b.Things,t.ID∈T) :
 (bj (aQ a) (aQ b)).length<=59:=by
 have hr:=oL (ec ha) (ec hb)
 have hn:((bj (aQ a) (aQ b)).map Change.Key).Nodup:=by
  grind [oM]
 have:=Gk _ (Ij H T) hn (fun k hk=>by
  obtain ⟨x,hx,rfl⟩:=List.mem_map.1 hk
  rcases (mem_merge (ec ha) (ec hb)).1 hx with ⟨c,hc,_,rfl⟩ | ⟨h,_⟩
  .exact AE ha a1 a2 c hc
  grind [AE])
 grind [List.length_map,Nat.le_trans,LQ]
def Ey (a b:aA):Prop:=(∀x∈a.Held,∃y∈b.Held,y.ak=x.ak)/\(∀t∈a.Things,∃s∈b.Things,s.ID=t.ID)
theorem Ey.refl (a:aA):Ey a a:=⟨fun x hx=>⟨x,hx,rfl⟩,fun t ht=>⟨t,ht,rfl⟩⟩
theorem Oz (ha:Inv a)(hb:Inv b)(h:Ey a b∨Ey b a):(bj (aQ a) (aQ b)).length<=59:=by
 rcases h with h|h
 .exact Ik ha hb (H:=b.Held.map Held.ak) (T:=b.Things.map av.ID) (by grind [List.length_map,p9]) (by rw [List.length_map];exact hb.ia)
   (fun x hx=>by obtain ⟨y,hy,e⟩:=h.1 x hx;grind) (fun x hx=>by obtain ⟨y,hy,e⟩:=h.2 x hx;grind)
   (fun x hx=>List.mem_map.2 ⟨x,hx,rfl⟩) (fun x hx=>List.mem_map.2 ⟨x,hx,rfl⟩)
 exact Ik ha hb (H:=a.Held.map Held.ak) (T:=a.Things.map av.ID) (by grind [List.length_map,p9]) (by rw [List.length_map];exact ha.ia)
  (fun x hx=>List.mem_map.2 ⟨x,hx,rfl⟩) (fun x hx=>List.mem_map.2 ⟨x,hx,rfl⟩)
  (fun x hx=>by obtain ⟨y,hy,e⟩:=h.1 x hx;grind) (fun x hx=>by obtain ⟨y,hy,e⟩:=h.2 x hx;grind)
theorem AF {ws:List ak}{nw nt:Int}:Ey (dF ⟨ws,r.Things,r.Held,r.Notes,nw,nt⟩) r:=by
 have h:=Am (⟨ws,r.Things,r.Held,r.Notes,nw,nt⟩:aA)
 exact ⟨fun x hx=>⟨x,h.1 x hx,rfl⟩,fun t ht=>⟨t,h.2.2.1 t ht,rfl⟩⟩
theorem RA (h:Inv r){a:eU}(hm:(cJ r a).2=0):Ey r (cJ r a).1∨Ey (cJ r a).1 r:=by
 have n1:=h.nM
 unfold cJ at hm ⊢
 by_cases h1:a.Kind=(⟨#[109,97,107,101]⟩:ByteArray)
 .
  rw [if_pos h1] at hm ⊢
  obtain ⟨hk,hf,hl,ht,hw,he⟩:=xG hm
  obtain ⟨hp,ha⟩:=gP hf
  have hpl:=bG hp
  rw [he ae]
  exact .inl ⟨fun x hx=>⟨x,(kR h.good ha ae).2 (.inr hx),rfl⟩,fun t ht=>⟨t,List.mem_append_left _ ht,rfl⟩⟩
 rw [if_neg h1] at hm ⊢
 by_cases h2:a.Kind=(⟨#[103,105,118,101]⟩:ByteArray)
 .
  rw [if_pos h2] at hm ⊢
  obtain ⟨hg,hf,hr,hw,hd,he⟩:=xH hm
  obtain ⟨hp,ha⟩:=gP hf
  have hpl:=bG hp
  obtain ⟨_,hgm,_⟩:=h.get hg
  obtain ⟨HD,hid,hth,_⟩:=h.derive hgm hw hd
  rw [he ae]
  exact .inl ⟨fun x hx=>⟨x,(kR h.good ha ae).2 (.inr hx),rfl⟩,fun t ht=>⟨t,ht,rfl⟩⟩
 rw [if_neg h2] at hm ⊢
 by_cases h3:a.Kind=(⟨#[109,111,118,101]⟩:ByteArray)
 .
  rw [if_pos h3] at hm ⊢
  obtain ⟨hg,hf,he⟩:=xI hm
  obtain ⟨hp,ha⟩:=gP hf
  obtain ⟨hpf,hgm,hat,h1,_⟩:=h.get hg
  rw [he]
  have hi:(aL r a.P).1.ID≠0:=ae
  have hg1:Good (eY r.Held a.P 0):=kQ h.good hpf
  have hne:¬ (⟨a.P.aB,a.A⟩:Place)=a.P:=fun e=>by grind
  have ha1:lY (eY r.Held a.P 0) ⟨a.P.aB,a.A⟩=0:=by rw [Ai h.good hpf hne];omega
  refine .inr ⟨fun x hx=>?_,fun t ht=>⟨t,ht,rfl⟩⟩
  rcases (kR hg1 ha1 hi).1 hx with e|hx
  .exact ⟨⟨a.P,(aL r a.P).1.ID⟩,at_mem h.good hat.symm hi,by rw [e]⟩
  exact ⟨x,D9 h.good hat.symm hi hx,rfl⟩
 rw [if_neg h3] at hm ⊢
 by_cases h4:a.Kind=(⟨#[100,114,111,112]⟩:ByteArray)
 .
  rw [if_pos h4] at hm ⊢
  rw [(xJ hm).2];grind [AF]
 rw [if_neg h4] at hm ⊢
 by_cases h5:a.Kind=(⟨#[114,101,118,111,107,101]⟩:ByteArray)
 .
  rw [if_pos h5] at hm ⊢
  rw [(tv hm).2];grind [AF]
 rw [if_neg h5] at hm ⊢
 by_cases h6:a.Kind=(⟨#[119,114,105,116,101]⟩:ByteArray)
 .
  rw [if_pos h6] at hm ⊢
  rw [(vD hm).2.2]
  refine .inr ⟨fun x hx=>⟨x,hx,rfl⟩,fun t ht=>?_⟩
  grind [mem_set,List.mem_of_getElem?]
 rw [if_neg h6] at hm ⊢
 by_cases h7:a.Kind=(⟨#[115,101,110,100]⟩:ByteArray)
 .
  rw [if_pos h7] at hm ⊢
  obtain ⟨_,_,_,hc⟩:=xK hm
  rcases hc with ⟨_,he⟩ | ⟨_,_,_,_,_,he⟩
  .rw [he];exact .inr ⟨fun x hx=>⟨x,hx,rfl⟩,fun t ht=>⟨t,ht,rfl⟩⟩
  rw [he];exact .inr ⟨fun x hx=>⟨x,hx,rfl⟩,fun t ht=>⟨t,ht,rfl⟩⟩
 rw [if_neg h7] at hm ⊢
 by_cases h8:a.Kind=(⟨#[116,97,107,101]⟩:ByteArray)
 .
  rw [if_pos h8] at hm ⊢
  obtain ⟨hy,i,n,hn,hp,hb,_,hc⟩:=xL hm
  rcases hc with ⟨h0,hf,_,he⟩ | ⟨h0,_,he⟩
  .
   obtain ⟨h5,ha⟩:=free_at hf
   dsimp only;rw [he]
   exact .inl ⟨fun x hx=>⟨x,(kR h.good ha ae).2 (.inr hx),rfl⟩,fun t ht=>⟨t,ht,rfl⟩⟩
  dsimp only;rw [he]
  exact .inl ⟨fun x hx=>⟨x,hx,rfl⟩,fun t ht=>⟨t,ht,rfl⟩⟩
 rw [if_neg h8];grind [Ey.refl]
theorem RD (h:Inv r){a:eU}(hm:(cJ r a).2=0):(bj (aQ r) (aQ (cJ r a).1)).length<=59:=Oz h (h.do hm) (RA h hm)
theorem tO:∀ (l:List Change),(∀c∈l,gu c=0)->gI l=0
 | [],_=>rfl
 | x::l,h=>by
  simp_all [gI,if_pos,List.mem_cons_self,tO,List.mem_cons_of_mem]
theorem Jp.ok {c:Change}(h:Jp c):gu c=0:=Ll (fun e=>by have:=h.k0;rw [e] at this;exact absurd this aD) (fun e=>by rw [h.g] at e;cases e) h.k8 h.v
theorem Jp.gone {c:Change}(h:Jp c):gu (rK c.Key)=0:=Ll (fun e=>by have:=h.k0;have e:c.Key=⟨#[]⟩:=e;rw [e] at this;exact absurd this aD) (fun _=>rfl) h.k8 (by show (0:Nat)<=24;decide)
theorem RE (ha:Inv a)(hb:Inv b):gI (bj (aQ a) (aQ b))=0:=tO _ fun x hx=>by
 rcases (mem_merge (ec ha) (ec hb)).1 hx with ⟨c,hc,_,rfl⟩ | ⟨h,_⟩
 .exact (mX ha c hc).gone
 exact (mX hb x h).ok
theorem Cj (ha:Inv a)(hb:Inv b):bI (aQ a) (bj (aQ a) (aQ b))=aQ b:=qe (ec ha) (ec hb) (fun c hc=>(mX hb c hc).g)
theorem yk (h:Inv r):aQ (aK r)=aQ r:=by
 grind [aQ,gq]
end
end
section
open Go Go.RowKit
theorem mixed:Tryz.prog.follows .mixedOrders=true:=ao
theorem dX:eX Tryz.prog 3=true:=ao
theorem jQ:dZ Tryz.prog 3=some (.int .i64 0):=ao
theorem LR:eX Tryz.prog 4=true:=ao
theorem dH:dZ Tryz.prog 5=some (.int .u8 0):=ao
theorem Ck:eX Tryz.prog 9=true:=ao
theorem Il:dZ Tryz.prog 9=some (.string ⟨#[]⟩):=ao
theorem oQ:eX Tryz.prog 25=true:=ao
theorem OA:iP Tryz.prog 32=some 2:=ao
theorem LS:dZ Tryz.prog 32=some (.agg #[.int .i64 0,.int .i64 0]):=ao
theorem bX:lV Tryz.prog 34=some (115,3):=ao
theorem Im:eX Tryz.prog 34=true:=ao
theorem LU:dZ Tryz.prog 34=some (.slice none 0 0):=ao
theorem kF:eX Tryz.prog 38=true:=ao
theorem LV:dZ Tryz.prog 38=some (.nilIface):=ao
theorem wI:eX Tryz.prog 39=true:=ao
theorem LW:dZ Tryz.prog 39=some (.nilFunc):=ao
theorem fF:lV Tryz.prog 43=some (126,5):=ao
theorem fZ:eX Tryz.prog 43=true:=ao
theorem kv:lV Tryz.prog 44=some (103,3):=ao
theorem kG:eX Tryz.prog 44=true:=ao
theorem cd:lV Tryz.prog 45=some (124,3):=ao
theorem hX:eX Tryz.prog 45=true:=ao
theorem eO:lV Tryz.prog 46=some (91,4):=ao
theorem dh:eX Tryz.prog 46=true:=ao
theorem jc:iP Tryz.prog 48=some 6:=ao
theorem Uw:tB Tryz.prog 48=some ([(0,1),(1,1),(2,1),(3,1),(4,1),(5,1)],[.slice none 0 0,.slice none 0 0,.slice none 0 0,.slice none 0 0,.int .i64 0,.int .i64 0]):=ao
theorem AG:dq Tryz.prog 48 0=some 0:=ao
theorem AH:dq Tryz.prog 48 1=some 1:=ao
theorem AJ:dq Tryz.prog 48 2=some 2:=ao
theorem AK:dq Tryz.prog 48 3=some 3:=ao
theorem yl:dZ Tryz.prog 48=some (.agg #[.slice none 0 0,.slice none 0 0,.slice none 0 0,.slice none 0 0,.int .i64 0,.int .i64 0]):=ao
theorem Ux:tB Tryz.prog 50=some ([(0,1),(1,6)],[.pointer none,.slice none 0 0,.slice none 0 0,.slice none 0 0,.slice none 0 0,.int .i64 0,.int .i64 0]):=ao
theorem iy:lV Tryz.prog 61=some (9,1):=ao
theorem iF:eX Tryz.prog 61=true:=ao
theorem jd:eX Tryz.prog 76=true:=ao
theorem Uy:tB Tryz.prog 78=some ([(0,1),(1,6)],[.pointer none,.slice none 0 0,.slice none 0 0,.slice none 0 0,.slice none 0 0,.int .i64 0,.int .i64 0]):=ao
theorem m5:iP Tryz.prog 91=some 4:=ao
theorem fy:dZ Tryz.prog 91=some (.agg #[.int .i64 0,.string ⟨#[]⟩,.int .i64 0,.int .i64 0]):=ao
theorem LX:iP Tryz.prog 103=some 3:=ao
theorem gT:dZ Tryz.prog 103=some (.agg #[.int .i64 0,.int .i64 0,.string ⟨#[]⟩]):=ao
theorem lF:lV Tryz.prog 110=some (3,1):=ao
theorem Ez:eX Tryz.prog 110=true:=ao
theorem iz:iP Tryz.prog 115=some 3:=ao
theorem bR:dZ Tryz.prog 115=some (.agg #[.string ⟨#[]⟩,.string ⟨#[]⟩,.bool false]):=ao
theorem qS:lV Tryz.prog 118=some (196,2):=ao
theorem gJ:eX Tryz.prog 118=true:=ao
theorem RG:tB Tryz.prog 120=some ([(0,1),(1,1),(2,1),(3,1),(4,1)],[.slice none 0 0,.slice none 0 0,.slice none 0 0,.int .i64 0,.bool false]):=ao
theorem LY:iP Tryz.prog 124=some 3:=ao
theorem cx:dZ Tryz.prog 124=some (.agg #[.int .i64 0,.int .i64 0,.int .i64 0]):=ao
theorem bM:iP Tryz.prog 126=some 5:=ao
theorem ym:dq Tryz.prog 126 4=some 4:=ao
theorem dK:dZ Tryz.prog 126=some (.agg #[.int .i64 0,.int .i64 0,.int .i64 0,.int .i64 0,.int .i64 0]):=ao
theorem iW:iP Tryz.prog 129=some 4:=ao
theorem LZ:tB Tryz.prog 129=some ([(0,1),(1,1),(2,1),(3,1)],[.int .i64 0,.int .i64 0,.int .i64 0,.int .i64 0]):=ao
theorem yn:dq Tryz.prog 129 0=some 0:=ao
theorem yo:dq Tryz.prog 129 1=some 1:=ao
theorem Gl:dq Tryz.prog 129 3=some 3:=ao
theorem kx:dZ Tryz.prog 129=some (.agg #[.int .i64 0,.int .i64 0,.int .i64 0,.int .i64 0]):=ao
theorem EA:eX Tryz.prog 130=true:=ao
theorem ky:dq Tryz.prog 132 0=some 0:=ao
theorem su:dq Tryz.prog 132 1=some 1:=ao
theorem yp:dq Tryz.prog 132 2=some 5:=ao
theorem Gm:dq Tryz.prog 132 3=some 6:=ao
theorem aM:lV Tryz.prog 137=some (5,1):=ao
theorem yq:eX Tryz.prog 137=true:=ao
theorem OB:lV Tryz.prog 140=some (34,1):=ao
theorem lR:dZ Tryz.prog 196=some (.agg #[.int .i64 0,.string ⟨#[]⟩]):=ao
theorem tP:lV Tryz.prog 242=some (39,1):=ao
theorem tQ:Dn Tryz.prog 262=true:=ao
theorem je:mI Tryz.prog 34 3=some (115,40):=ao
theorem Cl:((Tryz.prog.info? 115).map (·.size)).isSome=true:=ao
theorem m6:mI Tryz.prog 43 5=some (126,40):=ao
theorem Cm:((Tryz.prog.info? 126).map (·.size)).isSome=true:=ao
theorem oS:mI Tryz.prog 44 3=some (103,32):=ao
theorem OC:((Tryz.prog.info? 103).map (·.size)).isSome=true:=ao
theorem m7:mI Tryz.prog 45 3=some (124,24):=ao
theorem wJ:((Tryz.prog.info? 124).map (·.size)).isSome=true:=ao
theorem dO:mI Tryz.prog 46 4=some (91,40):=ao
theorem qT:((Tryz.prog.info? 91).map (·.size)).isSome=true:=ao
theorem Io:((Tryz.prog.info? 9).map (·.size)).isSome=true:=ao
theorem nV:mI Tryz.prog 118 2=some (196,24):=ao
class Fn (n:FuncId)(f:outParam Func):Prop where
  a:Tryz.prog.funcs[n]? = some f:=by kernel_rfl
  b:(f.name == "runtime.NumGoroutine")=false:=by kernel_rfl
  c:f.body.isSome=true:=by kernel_rfl
instance {n f}[h:Fn n f]:Y (Tryz.prog.funcs[n]?) (some f):=⟨h.a⟩
instance {n f}[h:Fn n f]:dI Tryz.prog n:=⟨enters_of h.a h.b (Option.some_get h.c).symm⟩
instance:Fn 5 Tryz.f5:={}
instance:Fn 6 Tryz.f6:={}
instance:Fn 7 Tryz.f7:={}
instance:Fn 8 Tryz.f8:={}
instance:Fn 9 Tryz.f9:={}
instance:Fn 10 Tryz.f10:={}
instance:Fn 11 Tryz.f11:={}
instance:Fn 12 Tryz.f12:={}
instance:Fn 13 Tryz.f13:={}
instance:Fn 14 Tryz.f14:={}
instance:Fn 15 Tryz.f15:={}
instance:Fn 16 Tryz.f16:={}
instance:Fn 17 Tryz.f17:={}
instance:Fn 22 Tryz.f22:={}
instance:Fn 23 Tryz.f23:={}
instance:Fn 24 Tryz.f24:={}
instance:Fn 25 Tryz.f25:={}
instance:Fn 26 Tryz.f26:={}
instance:Fn 27 Tryz.f27:={}
instance:Fn 28 Tryz.f28:={}
instance:Fn 29 Tryz.f29:={}
instance:Fn 30 Tryz.f30:={}
instance:Fn 31 Tryz.f31:={}
instance:Fn 32 Tryz.f32:={}
instance:Fn 33 Tryz.f33:={}
instance:Fn 34 Tryz.f34:={}
instance:Fn 35 Tryz.f35:={}
instance:Fn 36 Tryz.f36:={}
instance:Fn 37 Tryz.f37:={}
instance:Fn 38 Tryz.f38:={}
instance:Fn 39 Tryz.f39:={}
instance:Fn 40 Tryz.f40:={}
instance:Fn 41 Tryz.f41:={}
instance:Fn 42 Tryz.f42:={}
instance:Fn 43 Tryz.f43:={}
instance:Fn 44 Tryz.f44:={}
instance:Fn 45 Tryz.f45:={}
instance:Fn 46 Tryz.f46:={}
instance:Fn 47 Tryz.f47:={}
instance:Fn 55 Tryz.f55:={}
instance:Fn 58 Tryz.f58:={}
instance:Fn 59 Tryz.f59:={}
instance:Fn 60 Tryz.f60:={}
instance:Fn 61 Tryz.f61:={}
instance:Fn 62 Tryz.f62:={}
instance:Fn 63 Tryz.f63:={}
instance:Fn 64 Tryz.f64:={}
instance:Fn 65 Tryz.f65:={}
instance:Fn 66 Tryz.f66:={}
instance:Fn 67 Tryz.f67:={}
instance:Fn 68 Tryz.f68:={}
instance:Fn 69 Tryz.f69:={}
instance:Fn 70 Tryz.f70:={}
instance:Fn 71 Tryz.f71:={}
instance:Fn 72 Tryz.f72:={}
instance:Fn 73 Tryz.f73:={}
instance:Fn 74 Tryz.f74:={}
instance:Fn 75 Tryz.f75:={}
instance:Fn 76 Tryz.f76:={}
instance:Fn 77 Tryz.f77:={}
instance:Fn 78 Tryz.f78:={}
instance:Fn 79 Tryz.f79:={}
instance:Fn 80 Tryz.f80:={}
instance:Fn 81 Tryz.f81:={}
instance:Fn 82 Tryz.f82:={}
instance:Fn 83 Tryz.f83:={}
instance:Fn 84 Tryz.f84:={}
instance:Fn 85 Tryz.f85:={}
instance:Fn 86 Tryz.f86:={}
instance:Fn 87 Tryz.f87:={}
instance:Fn 88 Tryz.f88:={}
instance:Fn 89 Tryz.f89:={}
instance:Fn 90 Tryz.f90:={}
instance:Fn 91 Tryz.f91:={}
instance:Fn 92 Tryz.f92:={}
instance:Fn 93 Tryz.f93:={}
instance:Fn 94 Tryz.f94:={}
instance:Fn 95 Tryz.f95:={}
instance:Fn 96 Tryz.f96:={}
instance:Fn 97 Tryz.f97:={}
instance:Fn 98 Tryz.f98:={}
instance:Fn 99 Tryz.f99:={}
instance:Fn 100 Tryz.f100:={}
instance:Fn 101 Tryz.f101:={}
instance:Fn 102 Tryz.f102:={}
instance:Fn 103 Tryz.f103:={}
instance:Fn 104 Tryz.f104:={}
instance:Fn 105 Tryz.f105:={}
instance:Fn 106 Tryz.f106:={}
instance:Fn 107 Tryz.f107:={}
instance:Fn 108 Tryz.f108:={}
instance:Fn 119 Tryz.f119:={}
instance:Fn 120 Tryz.f120:={}
instance:Fn 121 Tryz.f121:={}
instance:Fn 122 Tryz.f122:={}
instance:Fn 123 Tryz.f123:={}
instance:Fn 124 Tryz.f124:={}
instance:Fn 125 Tryz.f125:={}
instance:Fn 126 Tryz.f126:={}
instance:Fn 127 Tryz.f127:={}
instance:Fn 128 Tryz.f128:={}
instance:Fn 129 Tryz.f129:={}
instance:Fn 130 Tryz.f130:={}
instance:Fn 131 Tryz.f131:={}
instance:Fn 132 Tryz.f132:={}
instance:Fn 133 Tryz.f133:={}
instance:Fn 134 Tryz.f134:={}
instance:Fn 135 Tryz.f135:={}
instance:Fn 136 Tryz.f136:={}
instance:Fn 137 Tryz.f137:={}
instance:Fn 138 Tryz.f138:={}
instance:Fn 139 Tryz.f139:={}
instance:Fn 140 Tryz.f140:={}
instance:Fn 141 Tryz.f141:={}
instance:Fn 142 Tryz.f142:={}
instance:Fn 143 Tryz.f143:={}
instance:Fn 144 Tryz.f144:={}
instance:Fn 145 Tryz.f145:={}
instance:Fn 146 Tryz.f146:={}
instance:Fn 147 Tryz.f147:={}
instance:Fn 148 Tryz.f148:={}
instance:Fn 149 Tryz.f149:={}
instance:Fn 150 Tryz.f150:={}
instance:Fn 151 Tryz.f151:={}
instance:Fn 152 Tryz.f152:={}
instance:Fn 153 Tryz.f153:={}
instance:Fn 155 Tryz.f155:={}
instance:Fn 156 Tryz.f156:={}
instance:Fn 157 Tryz.f157:={}
instance:Fn 158 Tryz.f158:={}
instance:Fn 159 Tryz.f159:={}
instance:Fn 160 Tryz.f160:={}
instance:Fn 161 Tryz.f161:={}
instance:Fn 162 Tryz.f162:={}
instance:Fn 163 Tryz.f163:={}
instance:Fn 164 Tryz.f164:={}
instance:Fn 165 Tryz.f165:={}
instance:Fn 166 Tryz.f166:={}
instance:Fn 167 Tryz.f167:={}
instance:Fn 168 Tryz.f168:={}
instance:Fn 169 Tryz.f169:={}
instance:Fn 170 Tryz.f170:={}
instance:Fn 187 Tryz.f187:={}
instance:Fn 188 Tryz.f188:={}
instance:Fn 189 Tryz.f189:={}
instance:Fn 190 Tryz.f190:={}
instance:Fn 192 Tryz.f192:={}
instance:Fn 193 Tryz.f193:={}
instance:Fn 197 Tryz.f197:={}
instance:Fn 198 Tryz.f198:={}
instance:Fn 199 Tryz.f199:={}
instance:Fn 200 Tryz.f200:={}
instance:Fn 201 Tryz.f201:={}
instance:Fn 202 Tryz.f202:={}
instance:Fn 203 Tryz.f203:={}
instance:Fn 206 Tryz.f206:={}
instance:Fn 207 Tryz.f207:={}
instance:Fn 208 Tryz.f208:={}
instance:Fn 209 Tryz.f209:={}
instance:Fn 210 Tryz.f210:={}
instance:Fn 211 Tryz.f211:={}
instance:Fn 212 Tryz.f212:={}
instance:Fn 213 Tryz.f213:={}
instance:Fn 214 Tryz.f214:={}
instance:Fn 215 Tryz.f215:={}
instance:Fn 216 Tryz.f216:={}
instance:Fn 229 Tryz.f229:={}
instance:Fn 250 Tryz.f250:={}
instance:Fn 251 Tryz.f251:={}
instance:Fn 252 Tryz.f252:={}
instance:Fn 255 Tryz.f255:={}
instance:Fn 287 Tryz.f287:={}
instance:Fn 288 Tryz.f288:={}
instance:Fn 306 Tryz.f306:={}
abbrev dB(f:FuncId):Prop:=∀args w,(callFunc f args).run Tryz.prog w = .ok (.enter f args) w
theorem UA:dB 7:=dI.h
theorem WZ:dB 8:=dI.h
theorem W2:dB 9:=dI.h
theorem L5:dB 10:=dI.h
theorem UB:dB 11:=dI.h
theorem Qm:dB 12:=dI.h
theorem UC:dB 13:=dI.h
theorem Qn:dB 15:=dI.h
theorem L6:dB 16:=dI.h
theorem Ip:dB 17:=dI.h
theorem UD:dB 23:=dI.h
theorem UE:dB 24:=dI.h
theorem UF:dB 25:=dI.h
theorem Qo:dB 26:=dI.h
theorem L8:dB 27:=dI.h
theorem Qp:dB 28:=dI.h
theorem Qq:dB 29:=dI.h
theorem UG:dB 30:=dI.h
theorem UH:dB 31:=dI.h
theorem Qr:dB 32:=dI.h
theorem UI:dB 33:=dI.h
theorem UJ:dB 34:=dI.h
theorem UK:dB 35:=dI.h
theorem UL:dB 36:=dI.h
theorem UM:dB 37:=dI.h
theorem UN:dB 38:=dI.h
theorem UO:dB 39:=dI.h
theorem UQ:dB 40:=dI.h
theorem UR:dB 41:=dI.h
theorem US:dB 42:=dI.h
theorem UT:dB 43:=dI.h
theorem UU:dB 44:=dI.h
theorem Qs:dB 47:=dI.h
theorem EB:dB 55:=dI.h
theorem UV:dB 58:=dI.h
theorem Qu:dB 59:=dI.h
theorem UW:dB 60:=dI.h
theorem UX:dB 61:=dI.h
theorem Qv:dB 62:=dI.h
theorem L9:dB 63:=dI.h
theorem UY:dB 64:=dI.h
theorem UZ:dB 66:=dI.h
theorem rL:dB 67:=dI.h
theorem U0:dB 68:=dI.h
theorem Qw:dB 69:=dI.h
theorem U1:dB 70:=dI.h
theorem vF:dB 71:=dI.h
theorem AL:dB 72:=dI.h
theorem U2:dB 73:=dI.h
theorem Qx:dB 74:=dI.h
theorem Qy:dB 75:=dI.h
theorem U3:dB 77:=dI.h
theorem U4:dB 78:=dI.h
theorem U5:dB 79:=dI.h
theorem Ma:dB 80:=dI.h
theorem Iq:dB 81:=dI.h
theorem U6:dB 82:=dI.h
theorem Qz:dB 83:=dI.h
theorem Ir:dB 84:=dI.h
theorem Mb:dB 85:=dI.h
theorem EC:dB 87:=dI.h
theorem yr:dB 88:=dI.h
theorem ED:dB 91:=dI.h
theorem U7:dB 92:=dI.h
theorem U8:dB 96:=dI.h
theorem U9:dB 97:=dI.h
theorem Va:dB 98:=dI.h
theorem Vb:dB 99:=dI.h
theorem RH:dB 100:=dI.h
theorem RI:dB 101:=dI.h
theorem RJ:dB 102:=dI.h
theorem RL:dB 103:=dI.h
theorem RN:dB 104:=dI.h
theorem yt:dB 105:=dI.h
theorem yu:dB 106:=dI.h
theorem Gn:dB 107:=dI.h
theorem oT:dB 108:=dI.h
theorem Mc:dB 121:=dI.h
theorem Md:dB 122:=dI.h
theorem RO:dB 123:=dI.h
theorem Me:dB 124:=dI.h
theorem lw:dB 125:=dI.h
theorem RP:dB 126:=dI.h
theorem RQ:dB 127:=dI.h
theorem RR:dB 128:=dI.h
theorem Mf:dB 129:=dI.h
theorem Cn:dB 130:=dI.h
theorem ff:dB 132:=dI.h
theorem jR:dB 134:=dI.h
theorem RU:dB 136:=dI.h
theorem RX:dB 138:=dI.h
theorem RY:dB 139:=dI.h
theorem yv:dB 140:=dI.h
theorem Co:dB 143:=dI.h
theorem Mg:dB 146:=dI.h
theorem Cp:dB 147:=dI.h
theorem RZ:dB 148:=dI.h
theorem Mh:dB 150:=dI.h
theorem Cq:dB 152:=dI.h
theorem R0:dB 153:=dI.h
theorem yw:dB 156:=dI.h
theorem Mi:dB 159:=dI.h
theorem uK:dB 160:=dI.h
theorem Gp:dB 161:=dI.h
theorem Gq:dB 162:=dI.h
theorem R1:dB 163:=dI.h
theorem R2:dB 164:=dI.h
theorem R3:dB 165:=dI.h
theorem Mj:dB 168:=dI.h
theorem Mk:dB 170:=dI.h
theorem R4:dB 187:=dI.h
theorem R5:dB 188:=dI.h
theorem R6:dB 189:=dI.h
theorem Ml:dB 190:=dI.h
theorem Mm:dB 193:=dI.h
theorem R7:dB 197:=dI.h
theorem R8:dB 200:=dI.h
theorem R9:dB 202:=dI.h
theorem Sb:dB 203:=dI.h
theorem Mn:dB 206:=dI.h
theorem Sc:dB 209:=dI.h
theorem Sd:dB 210:=dI.h
theorem Se:dB 211:=dI.h
theorem Sf:dB 212:=dI.h
theorem Sg:dB 213:=dI.h
theorem Si:dB 214:=dI.h
theorem Mp:dB 216:=dI.h
theorem Sj:dB 251:=dI.h
theorem Sk:dB 287:=dI.h
theorem Mq:dB 288:=dI.h
instance:Y (eX Tryz.prog 3) (true):={}
instance:Y (eX Tryz.prog 4) (true):={}
instance:Y (eX Tryz.prog 9) (true):={}
instance:Y (lV Tryz.prog 22) (some (36,11)):={}
instance:Y (eX Tryz.prog 25) (true):={}
instance:Y (iP Tryz.prog 32) (some 2):={}
instance:Y (tB Tryz.prog 32) (some ([(0,1),(1,1)],[.int .i64 0,.int .i64 0])):={}
instance:Y (dq Tryz.prog 32 0) (some 0):={}
instance:Y (dq Tryz.prog 32 1) (some 1):={}
instance:Y (dZ Tryz.prog 32) (some (.agg #[.int .i64 0,.int .i64 0])):={}
instance:Y (lV Tryz.prog 34) (some (115,3)):={}
instance:Y (eX Tryz.prog 34) (true):={}
instance:Y (iP Tryz.prog 36) (some 11):={}
instance:Y (tB Tryz.prog 36) (some ([(0,1),(1,1),(2,2),(4,2),(6,1),(7,1),(8,1),(9,1),(10,1)],[.string ⟨#[]⟩,.string ⟨#[]⟩,.int .i64 0,.int .i64 0,.int .i64 0,.int .i64 0,.int .i64 0,.int .i64 0,.int .i64 0,.int .u64 0,.slice none 0 0])):={}
instance:Y (dq Tryz.prog 36 0) (some 0):={}
instance:Y (dq Tryz.prog 36 1) (some 1):={}
instance:Y (dq Tryz.prog 36 2) (some 2):={}
instance:Y (dq Tryz.prog 36 3) (some 4):={}
instance:Y (dq Tryz.prog 36 4) (some 6):={}
instance:Y (dq Tryz.prog 36 5) (some 7):={}
instance:Y (dq Tryz.prog 36 8) (some 10):={}
instance:Y (dZ Tryz.prog 36) (some (.agg #[.string ⟨#[]⟩,.string ⟨#[]⟩,.int .i64 0,.int .i64 0,.int .i64 0,.int .i64 0,.int .i64 0,.int .i64 0,.int .i64 0,.int .u64 0,.slice none 0 0])):={}
instance:Y (tB Tryz.prog 41) (some ([(0,1),(1,1),(2,1)],[.slice none 0 0,.int .i64 0,.int .i64 0])):={}
instance:Y (dq Tryz.prog 41 0) (some 0):={}
instance:Y (dq Tryz.prog 41 1) (some 1):={}
instance:Y (dq Tryz.prog 41 2) (some 2):={}
instance:Y (eX Tryz.prog 42) (true):={}
instance:Y (lV Tryz.prog 43) (some (126,5)):={}
instance:Y (eX Tryz.prog 43) (true):={}
instance:Y (lV Tryz.prog 44) (some (103,3)):={}
instance:Y (eX Tryz.prog 44) (true):={}
instance:Y (lV Tryz.prog 45) (some (124,3)):={}
instance:Y (eX Tryz.prog 45) (true):={}
instance:Y (lV Tryz.prog 46) (some (91,4)):={}
instance:Y (eX Tryz.prog 46) (true):={}
instance:Y (iP Tryz.prog 48) (some 6):={}
instance:Y (tB Tryz.prog 48) (some ([(0,1),(1,1),(2,1),(3,1),(4,1),(5,1)],[.slice none 0 0,.slice none 0 0,.slice none 0 0,.slice none 0 0,.int .i64 0,.int .i64 0])):={}
instance:Y (dq Tryz.prog 48 0) (some 0):={}
instance:Y (TU Tryz.prog 48 1) (some (1,none)):={}
instance:Y (dq Tryz.prog 48 1) (some 1):={}
instance:Y (dq Tryz.prog 48 2) (some 2):={}
instance:Y (dq Tryz.prog 48 3) (some 3):={}
instance:Y (dq Tryz.prog 48 4) (some 4):={}
instance:Y (dq Tryz.prog 48 5) (some 5):={}
instance:Y (dZ Tryz.prog 48) (some (.agg #[.slice none 0 0,.slice none 0 0,.slice none 0 0,.slice none 0 0,.int .i64 0,.int .i64 0])):={}
instance:Y (dq Tryz.prog 50 0) (some 0):={}
instance:Y (dq Tryz.prog 50 1) (some 1):={}
instance:Y (lV Tryz.prog 61) (some (9,1)):={}
instance:Y (eX Tryz.prog 61) (true):={}
instance:Y (eX Tryz.prog 76) (true):={}
instance:Y (dq Tryz.prog 78 0) (some 0):={}
instance:Y (dq Tryz.prog 78 1) (some 1):={}
instance:Y (iP Tryz.prog 91) (some 4):={}
instance:Y (tB Tryz.prog 91) (some ([(0,1),(1,1),(2,1),(3,1)],[.int .i64 0,.string ⟨#[]⟩,.int .i64 0,.int .i64 0])):={}
instance:Y (dq Tryz.prog 91 0) (some 0):={}
instance:Y (dq Tryz.prog 91 3) (some 3):={}
instance:Y (dZ Tryz.prog 91) (some (.agg #[.int .i64 0,.string ⟨#[]⟩,.int .i64 0,.int .i64 0])):={}
instance:Y (Tryz.prog.concrete 95) (true):={}
instance:Y (iP Tryz.prog 103) (some 3):={}
instance:Y (tB Tryz.prog 103) (some ([(0,1),(1,1),(2,1)],[.int .i64 0,.int .i64 0,.string ⟨#[]⟩])):={}
instance:Y (dq Tryz.prog 103 0) (some 0):={}
instance:Y (dq Tryz.prog 103 1) (some 1):={}
instance:Y (dq Tryz.prog 103 2) (some 2):={}
instance:Y (dZ Tryz.prog 103) (some (.agg #[.int .i64 0,.int .i64 0,.string ⟨#[]⟩])):={}
instance:Y (lV Tryz.prog 110) (some (3,1)):={}
instance:Y (eX Tryz.prog 110) (true):={}
instance:Y (dZ Tryz.prog 110) (some (.slice none 0 0)):={}
instance:Y (iP Tryz.prog 115) (some 3):={}
instance:Y (tB Tryz.prog 115) (some ([(0,1),(1,1),(2,1)],[.string ⟨#[]⟩,.string ⟨#[]⟩,.bool false])):={}
instance:Y (dq Tryz.prog 115 0) (some 0):={}
instance:Y (dq Tryz.prog 115 1) (some 1):={}
instance:Y (dq Tryz.prog 115 2) (some 2):={}
instance:Y (dZ Tryz.prog 115) (some (.agg #[.string ⟨#[]⟩,.string ⟨#[]⟩,.bool false])):={}
instance:Y (eX Tryz.prog 118) (true):={}
instance:Y (dq Tryz.prog 120 0) (some 0):={}
instance:Y (dq Tryz.prog 120 1) (some 1):={}
instance:Y (dq Tryz.prog 120 2) (some 2):={}
instance:Y (dq Tryz.prog 120 3) (some 3):={}
instance:Y (dq Tryz.prog 120 4) (some 4):={}
instance:Y (iP Tryz.prog 124) (some 3):={}
instance:Y (tB Tryz.prog 124) (some ([(0,2),(2,1)],[.int .i64 0,.int .i64 0,.int .i64 0])):={}
instance:Y (dq Tryz.prog 124 0) (some 0):={}
instance:Y (dq Tryz.prog 124 1) (some 2):={}
instance:Y (dZ Tryz.prog 124) (some (.agg #[.int .i64 0,.int .i64 0,.int .i64 0])):={}
instance:Y (iP Tryz.prog 126) (some 5):={}
instance:Y (tB Tryz.prog 126) (some ([(0,1),(1,1),(2,1),(3,1),(4,1)],[.int .i64 0,.int .i64 0,.int .i64 0,.int .i64 0,.int .i64 0])):={}
instance:Y (dq Tryz.prog 126 0) (some 0):={}
instance:Y (dq Tryz.prog 126 1) (some 1):={}
instance:Y (dq Tryz.prog 126 2) (some 2):={}
instance:Y (dq Tryz.prog 126 3) (some 3):={}
instance:Y (dq Tryz.prog 126 4) (some 4):={}
instance:Y (dZ Tryz.prog 126) (some (.agg #[.int .i64 0,.int .i64 0,.int .i64 0,.int .i64 0,.int .i64 0])):={}
instance:Y (iP Tryz.prog 129) (some 4):={}
instance:Y (tB Tryz.prog 129) (some ([(0,1),(1,1),(2,1),(3,1)],[.int .i64 0,.int .i64 0,.int .i64 0,.int .i64 0])):={}
instance:Y (dq Tryz.prog 129 0) (some 0):={}
instance:Y (dq Tryz.prog 129 1) (some 1):={}
instance:Y (dq Tryz.prog 129 2) (some 2):={}
instance:Y (dq Tryz.prog 129 3) (some 3):={}
instance:Y (dZ Tryz.prog 129) (some (.agg #[.int .i64 0,.int .i64 0,.int .i64 0,.int .i64 0])):={}
instance:Y (eX Tryz.prog 130) (true):={}
instance:Y (tB Tryz.prog 132) (some ([(0,1),(1,4),(5,1),(6,1)],[.pointer none,.int .i64 0,.int .i64 0,.int .i64 0,.int .i64 0,.pointer none,.slice none 0 0])):={}
instance:Y (dq Tryz.prog 132 0) (some 0):={}
instance:Y (dq Tryz.prog 132 1) (some 1):={}
instance:Y (dq Tryz.prog 132 2) (some 5):={}
instance:Y (dq Tryz.prog 132 3) (some 6):={}
instance:Y (eX Tryz.prog 137) (true):={}
instance:Y (lV Tryz.prog 140) (some (34,1)):={}
instance:Y (eX Tryz.prog 187) (true):={}
instance:Y (dq Tryz.prog 189 0) (some 0):={}
instance:Y (dq Tryz.prog 189 1) (some 1):={}
instance:Y (dZ Tryz.prog 189) (some (.agg #[.pointer none,.slice none 0 0])):={}
instance:Y (tB Tryz.prog 193) (some ([(0,1),(1,1),(2,1),(3,1),(4,1)],[.pointer none,.int .i64 0,.int .i64 0,.int .i64 0,.int .i64 0])):={}
instance:Y (dq Tryz.prog 193 0) (some 0):={}
instance:Y (dq Tryz.prog 193 1) (some 1):={}
instance:Y (dq Tryz.prog 193 2) (some 2):={}
instance:Y (dq Tryz.prog 193 3) (some 3):={}
instance:Y (dq Tryz.prog 193 4) (some 4):={}
instance:Y (tB Tryz.prog 196) (some ([(0,1),(1,1)],[.int .i64 0,.string ⟨#[]⟩])):={}
instance:Y (mI Tryz.prog 34 3) (some (115,40)):={}
instance:Y (mI Tryz.prog 43 5) (some (126,40)):={}
instance:Y (mI Tryz.prog 44 3) (some (103,32)):={}
instance:Y (mI Tryz.prog 45 3) (some (124,24)):={}
instance:Y (mI Tryz.prog 46 4) (some (91,40)):={}
instance:Y (mI Tryz.prog 61 1) (some (9,16)):={}
instance:Y (mI Tryz.prog 110 1) (some (3,8)):={}
instance:Y (mI Tryz.prog 140 1) (some (34,24)):={}
instance:Y (Tryz.prog.underlying 9) (some (.string)):={}
instance:Y (Tryz.prog.underlying 22) (some (.slice 36)):={}
instance:Y (Tryz.prog.underlying 25) (some (.pointer 120)):={}
instance:Y (Tryz.prog.underlying 26) (some (.pointer 78)):={}
instance:Y (Tryz.prog.underlying 34) (some (.slice 115)):={}
instance:Y (Tryz.prog.underlying 38) (some (Go.TypeDesc.interface #[("Error",139)])):={}
instance:Y (Tryz.prog.underlying 43) (some (.slice 126)):={}
instance:Y (Tryz.prog.underlying 44) (some (.slice 103)):={}
instance:Y (Tryz.prog.underlying 45) (some (.slice 124)):={}
instance:Y (Tryz.prog.underlying 46) (some (.slice 91)):={}
instance:Y (Tryz.prog.underlying 61) (some (.slice 9)):={}
instance:Y (Tryz.prog.underlying 110) (some (.slice 3)):={}
instance:Y (Tryz.prog.underlying 140) (some (.slice 34)):={}
instance:Y (Tryz.prog.underlying 187) (some (.pointer 189)):={}
end
end Go.Proofs.YtnmpibjlnninjaaGreatDoor
