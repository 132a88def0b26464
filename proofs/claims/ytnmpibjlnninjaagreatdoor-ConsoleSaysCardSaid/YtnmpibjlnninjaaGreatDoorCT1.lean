import Derived.WalkKit
import Derived.WalkSpells
import Derived.WalkLawsBesides
import Derived.Lib.Hide
import Derived.Deep.Draws
import Derived.Deep.AppendLies
import Derived.Deep.Slices
import Derived.Deep.Fields
import Derived.ChangeSame
import Derived.ProofKit
import Derived.OpenShut
import Derived.ShutString
import Derived.ChangeOld
import Derived.Carry
import Derived.Lib.SmallJoins
import Derived.Test.YtnmpibjlnninjaaGreatDoorProg
import Derived.Orders
namespace Go.Proofs.YtnmpibjlnninjaaGreatDoor
set_option linter.unusedVariables false
set_option linter.unusedSimpArgs false
set_option maxRecDepth 100000
set_option maxHeartbeats 90000000
section
open Go.RowKit
def Ext (w w':World):Prop:=Below w.heap.size w w'
theorem ae{p:Prop}(h:p:=by omega):p:=h
theorem ay{p:Prop}(h:p:=by kernel_rfl):p:=h
theorem aC{p:Prop}(h:p:=by decide):p:=h
theorem aG{p:Prop}(h:p:=by (simp;omega)):p:=h
theorem aJ{p:Prop}(h:p:=by dsimp only;omega):p:=h
theorem bA{p:Prop}(h:p:=by simp):p:=h
theorem eH{p:Prop}(h:p:=by rfl):p:=h
theorem af{p:Prop}(h:p:=by assumption):p:=h
theorem Fw{p:Prop}(h:p:=by exact Int.le_refl 0):p:=h
theorem uY{p:Prop}(h:p:=by simp_all):p:=h
theorem az{p:Prop}(h:p:=by grind):p:=h
theorem kP{p:Prop}(h:p:=by trivial):p:=h
theorem gy{p:Prop}(h:p:=by repeat (first|exact List.Mem.head _|refine List.Mem.tail _ ?_)):p:=h
theorem O{α:Sort _}{a:α}:a=a:=rfl
def a8:List Nat:=[0,1,2,3,4,5,6,7]
def bm:List Nat:=[0,1,2,3]
def bV:List Nat:=[0,1,2,3,4]
def bZ:List Nat:=[0,1,2,3,4,5,6,7,8]
def du:List Nat:=[0,1,2,3,4,5,6]
def eO:List Nat:=[2,3,4,5]
def fw:List Nat:=[0,1,2,3,4,5]
def fD:List Nat:=[0,1,2,5]
def gB:List Nat:=[2,3,4,5,6,7,8,9,10,11]
def iU:List Nat:=[4,5,6,7,8,9,10]
def fj:List Nat:=[1,2,3,4,5,6,7]
def gj:List Nat:=[2,3,4,5,6,7,8,9,10]
def gL:List Nat:=[0,1,2,3,4,5,6,9,10,11]
def iw:List Nat:=[1,2,3,4,5,6,7,8,9,11]
def iF:List Nat:=[1,2,3,4,5,6,7,8,9]
def jA:List Nat:=[9,10,11,12,13,14,15]
def jH:List Nat:=[0,1,2,3,4,5,6,7,8,9]
def j5:List Nat:=[4,5,6,7,8]
def j6:List Nat:=[1,2,3,4]
def kQ:List Nat:=[0,1,2,3,4,5,6,7,8,10]
def lK:List Nat:=[5,15,17,18]
def m4:List Nat:=[0,1,2,3,4,5,6,7,8,9,10,11,12,13,14]
def m5:List Nat:=[1,2,3,4,5,6]
def nK:List Nat:=[0,1,2,3,4,5,6,7,8,9,10,11,12]
def oL:List Nat:=[1,2,3,4,5]
def oM:List Nat:=[3,4,5,6,7,8]
def oN:List Nat:=[1,2,3,4,5,6,7,8,9,10]
def qW:List Nat:=[0,1,2,3,4,5,6,7,8,13,14]
def qX:List Nat:=[2,3,4,6]
def qY:List Nat:=[2,3,4,5,7]
def qZ:List Nat:=[2,3,4,5,6,7,9]
def ra:List Nat:=[9,10,11,12,13]
def rL:List Nat:=[0,1,2,3,5]
def rM:List Nat:=[3,4,0,1,2,5]
def rN:List Nat:=[4,0,1,5]
def tY:List Nat:=[5,6,7,8,9,10,11]
def tZ:List Nat:=[0,1,2,3,4,5,6,7,8,10,11]
def t6:List Nat:=[1,2,3,4,6]
def t7:List Nat:=[4,5,6,7,8,9]
def uZ:List Nat:=[0,1,2,3,4,5,6,7,8,9,10]
def u6:List Nat:=[1,2,3,4,6,7,9,10]
def u7:List Nat:=[1,2,3,5,7,8,9]
def vd:List Nat:=[1,2,3,6,7,8,9]
def ve:List Nat:=[2,4,5,6]
def vf:List Nat:=[2,3,5,6,7]
def xE:List Nat:=[1,2,3,4,5,6,7,8]
def xF:List Nat:=[0,1,2,3,4,5,6,7,8,9,10,11]
def xG:List Nat:=[6,7,8,9,0,1,2,3,10]
def ze:List Nat:=[4,5,6,7,0,1,2,3,8]
def zf:List Nat:=[1,0,2,3,4,5,6,7,8,9,10,11]
def Cp:List Nat:=[2,3,4,5,6,7,8,9]
def Cq:List Nat:=[3,4,5,6,7,8,9,10,11]
def Cr:List Nat:=[9,0,1,2,3,4,5,6,10]
def Fx:List Nat:=[0,1,2,3,4,5,6,7,8,9,10,11,12,13,14,15,16,17,18]
def Fy:List Nat:=[0,1,2,3,6,7,8]
def FA:List Nat:=[0,1,2,5,6,7]
def FB:List Nat:=[0,1,2,4,5,6,7,8]
def FC:List Nat:=[2,0,3,4,5,6,7,8,1,9]
def FD:List Nat:=[3,0,4,5,6,7,8,9,1,2,10]
def JN:List Nat:=[5,4,3,2,1,0,6,7]
def JO:List Nat:=[1,2,3,4,5,6,7,9]
def JQ:List Nat:=[8,0,1,2,3,4,5,6,9]
def JR:List Nat:=[1,0,2,3,4,5,6,7,8,9,10]
def JU:List Nat:=[0,1,2,3,4,5,6,7,8,9,11,12]
theorem Ext.below {w w':World}(h:Ext w w'):Below w.heap.size w w':=h
theorem Ext.mk {w w':World}(h:Below w.heap.size w w'):Ext w w':=h
attribute [irreducible] Ext
theorem Ext.refl (w:World):Ext w w:=Ext.mk (Below.refl _ _)
theorem Ext.size {w w':World}(h:Ext w w'):w.heap.size<=w'.heap.size:=h.below.size
theorem Ext.alloc {a w:World}(h:Ext a w)(o:Obj):Ext a (w.alloc o):=Ext.mk (h.below.alloc h.size o)
theorem Ext.XQ {w w':World}(h:Ext w w'){a:Addr}(hb:a.block<w.heap.size):w'.cell? a=w.cell? a:=h.below.cell hb
theorem Ext.Nf {w w':World}(h:Ext w w'){a:Addr}{v:Value}(hv:w.cell? a=some v):w'.cell? a=some v:=(h.XQ (World.block_lt_of_cell? w a hv)).trans hv
theorem Ext.heap {w w':World}(h:Ext w w'){k:Nat}(hk:k<w.heap.size):w'.heap[k]? = w.heap[k]?:=h.below.block k hk
class Enc (α:Type) where
  k:Nat
  cells:α->List Value
  len:∀x,(cells x).length=k
  one:∀x,∀u∈cells x,u.oneCell'=true
  pos:0<k
instance:Enc Int:=⟨1,fun n=>[.int .i64 n],fun _=>rfl,fun _ u hu=>by simp at hu;subst hu;rfl,by decide⟩
instance:Enc ByteArray:=⟨1,fun s=>[.string s],fun _=>rfl,fun _ u hu=>by simp at hu;subst hu;rfl,by decide⟩
theorem flat_get {α:Type}[Enc α]:∀ (l:List α) (i:Nat) (x:α) (j:Nat) (u:Value),l[i]? = some x->(Enc.cells x)[j]? = some u->(l.flatMap Enc.cells)[i*Enc.k α+j]? = some u
 | [],i,x,j,u,h,_=>by simp at h
 | y::l,0,x,j,u,h,hj=>by
  simp at h;subst h
  have hl:j<(Enc.cells y).length:=(List.getElem?_eq_some_iff.1 hj).1
  simp only [List.flatMap_cons,Nat.zero_mul,Nat.zero_add]
  rw [List.getElem?_append_left hl];exact hj
 | y::l,i+1,x,j,u,h,hj=>by
  have h':l[i]? = some x:=by simpa using h
  have ih:=flat_get l i x j u h' hj
  simp only [List.flatMap_cons]
  rw [List.getElem?_append_right (by rw [Enc.len,Nat.add_mul];omega),Enc.len,<- ih]
  congr 1
  rw [Nat.add_mul];omega
theorem eI {α:Type}[Enc α](l:List α):(l.flatMap Enc.cells).length=l.length*Enc.k α:=by
 induction l with
 | nil=>simp
 | cons y l ih=>grind [List.length_append,Enc.len,List.length_cons,Nat.add_mul]
theorem ml {α:Type}[Enc α](l:List α):∀u∈l.flatMap Enc.cells,u.oneCell'=true:=by
 grind [Enc.one]
def Sl {α:Type}[Enc α](w:World)(v:Value)(l:List α):Prop :=
  ∃A c,v = .slice A l.length c/\l.length<=c/\c<=maxLen /\
    ∀i x,l[i]? = some x -> ∃b off,A=some ⟨b,off,none⟩/\b<w.heap.size /\ ∀j u,(Enc.cells x)[j]? = some u->w.cell? ⟨b,off+i*Enc.k α+j,none⟩=some u
section
variable {α:Type} [Enc α] {w w':World} {v:Value} {l:List α}
theorem Sl.ext (h:Sl w v l)(e:Ext w w'):Sl w' v l:=by
 obtain ⟨A,c,hv,h1,h2,h3⟩:=h
 refine ⟨A,c,hv,h1,h2,fun i x hx=>?_⟩
 obtain ⟨b,off,hA,hb,hc⟩:=h3 i x hx
 exact ⟨b,off,hA,Nat.lt_of_lt_of_le hb e.size,fun j u hu=>e.Nf (hc j u hu)⟩
theorem Sl.nil (w:World):Sl w (.slice none 0 0) ([]:List α):=⟨none,0,rfl,bA,bA,fun i x h=>by grind⟩
theorem Sl.take {A:Option Addr}{n c:Nat}(h:Sl w (.slice A n c) l){k:Nat}(hk:k<=l.length):Sl w (.slice A k c) (l.take k):=by
 obtain ⟨A',c',hv,h1,h2,h3⟩:=h
 simp only [Value.slice.injEq] at hv
 obtain ⟨rfl,rfl,rfl⟩:=hv
 have hl:(l.take k).length=k:=az
 refine ⟨A,c,by rw [hl],ae,h2,fun i x hx=>h3 i x ?_⟩
 grind
end
def Own {α:Type}[Enc α](base:Nat)(e:TypeId)(w:World)(v:Value)(l:List α):Prop:=w.ownsRow base e (Enc.k α) v l.length (l.flatMap Enc.cells)
section
variable {α:Type} [Enc α] {base:Nat} {e:TypeId} {w w':World} {v:Value} {l:List α}
theorem Own.nil (base:Nat)(e:TypeId)(w:World):Own base e w (.slice none 0 0) ([]:List α):=World.ownsRow_nil w base e _
theorem Own.sl (h:Own base e w v l):Sl w v l:=by
 have hl:=h.lt
 have hcl:=fun g hg=>h.cells (g:=g) hg
 unfold Own at h
 rcases h.2 with ⟨rfl,h0⟩ | ⟨g,cap,cur,rfl,hb,hg,hnc,hcm,hcs,htake⟩
 .grind [List.eq_nil_of_length_eq_zero,Sl.nil]
 refine ⟨_,cap,rfl,hnc,hcm,fun i x hx=>⟨g,0,rfl,(hl g rfl).2,fun j u hu=>?_⟩⟩
 have:=hcl g rfl (i*Enc.k α+j) u (flat_get l i x j u hx hu)
 grind [Enc.k,Addr.add]
theorem Own.lower {b2:Nat}(h:Own base e w v l)(hb:b2<=base):Own b2 e w v l:=by
 refine ⟨h.1,?_⟩
 rcases h.2 with h|⟨g,cap,cur,hv,hg,r⟩
 .grind
 exact .inr ⟨g,cap,cur,hv,Nat.le_trans hb hg,r⟩
theorem Own.lt (h:Own base e w v l):∀k,v.ownBlock=some k->base<=k/\k<w.heap.size:=World.ownsRow.lt h
end
section
variable {α:Type} [Enc α] {P:Program} {ops:Array Oper} {rest:List Oper} {o:Oper} {a:Act} {Q:Exit->Act->World->Prop}
end
end
section
open Go.RowKit
structure ak where
  ID:Int
  aA:Int
  Rights:Int
  aM:Int
  From:Int
  deriving DecidableEq
abbrev uo (x:ak):List Value:=[.int .i64 x.ID,.int .i64 x.aA,.int .i64 x.Rights,.int .i64 x.aM,.int .i64 x.From]
structure Place where
  aD:Int
  Slot:Int
  deriving DecidableEq
abbrev iD (x:Place):List Value:=[.int .i64 x.aD,.int .i64 x.Slot]
structure Held where
  Place:Place
  ak:Int
  deriving DecidableEq
abbrev aaq (x:Held):List Value:=[.int .i64 x.Place.aD,.int .i64 x.Place.Slot,.int .i64 x.ak]
structure aA where
  ID:Int
  Kind:Int
  Data:ByteArray
  deriving DecidableEq
abbrev aap (x:aA):List Value:=[.int .i64 x.ID,.int .i64 x.Kind,.string x.Data]
structure Note where
  Port:Int
  Data:ByteArray
  aM:Int
  ak:Int
  deriving DecidableEq
abbrev UT (x:Note):List Value:=[.int .i64 x.Port,.string x.Data,.int .i64 x.aM,.int .i64 x.ak]
structure Change where
  Key:ByteArray
  Val:ByteArray
  Gone:Bool
  deriving DecidableEq
abbrev Ng (x:Change):List Value:=[.string x.Key,.string x.Val,.bool x.Gone]
structure aB where
  aj:List ak
  Things:List aA
  Held:List Held
  Notes:List Note
  ah:Int
  ai:Int
  deriving DecidableEq
abbrev ak.cs (x:ak):List Value:=[.int .i64 x.ID,.int .i64 x.aA,.int .i64 x.Rights,.int .i64 x.aM,.int .i64 x.From]
abbrev ak.val (x:ak):Value:= .agg #[.int .i64 x.ID,.int .i64 x.aA,.int .i64 x.Rights,.int .i64 x.aM,.int .i64 x.From]
abbrev Place.val (x:Place):Value:= .agg #[.int .i64 x.aD,.int .i64 x.Slot]
abbrev Held.cs (x:Held):List Value:=[.int .i64 x.Place.aD,.int .i64 x.Place.Slot,.int .i64 x.ak]
abbrev Held.val (x:Held):Value:= .agg #[.int .i64 x.Place.aD,.int .i64 x.Place.Slot,.int .i64 x.ak]
abbrev aA.cs (x:aA):List Value:=[.int .i64 x.ID,.int .i64 x.Kind,.string x.Data]
abbrev aA.val (x:aA):Value:= .agg #[.int .i64 x.ID,.int .i64 x.Kind,.string x.Data]
abbrev Note.cs (x:Note):List Value:=[.int .i64 x.Port,.string x.Data,.int .i64 x.aM,.int .i64 x.ak]
abbrev Note.val (x:Note):Value:= .agg #[.int .i64 x.Port,.string x.Data,.int .i64 x.aM,.int .i64 x.ak]
abbrev Change.cs (x:Change):List Value:=[.string x.Key,.string x.Val,.bool x.Gone]
abbrev Change.val (x:Change):Value:= .agg #[.string x.Key,.string x.Val,.bool x.Gone]
instance:Enc ak:=⟨5,ak.cs,fun _=>rfl,fun x u hu=>by simp [ak.cs] at hu;rcases hu with rfl|rfl|rfl|rfl|rfl <;> rfl,by decide⟩
instance:Enc Held:=⟨3,Held.cs,fun _=>rfl,fun x u hu=>by simp [Held.cs] at hu;rcases hu with rfl|rfl|rfl <;> rfl,by decide⟩
instance:Enc aA:=⟨3,aA.cs,fun _=>rfl,fun x u hu=>by simp [aA.cs] at hu;rcases hu with rfl|rfl|rfl <;> rfl,by decide⟩
instance:Enc Note:=⟨4,Note.cs,fun _=>rfl,fun x u hu=>by simp [Note.cs] at hu;rcases hu with rfl|rfl|rfl|rfl <;> rfl,by decide⟩
instance:Enc Change:=⟨3,Change.cs,fun _=>rfl,fun x u hu=>by simp [Change.cs] at hu;rcases hu with rfl|rfl|rfl <;> rfl,by decide⟩
def bQ (n:Int):Value:=if n=0 then .nilIface else .iface 95 (.int .i64 n)
abbrev iV (n:Int):Value:= .int .i64 n
abbrev nS:Value:= .slice none 0 0
abbrev pV (b:Nat):Value:= .pointer (some ⟨b,0,none⟩)
abbrev vg:List Value:=[.slice none 0 0,.slice none 0 0,.slice none 0 0,.slice none 0 0,.int .i64 0,.int .i64 0]
abbrev aar:List Value:=[.int .i64 0,.int .i64 0,.int .i64 0,.int .i64 0,.int .i64 0]
abbrev abS:List Value:=[.int .i64 0,.int .i64 0,.int .i64 0]
theorem gV {n:Int}(h:n≠0):bQ n = .iface 95 (.int .i64 n):=by simp_all [bQ,if_neg]
end
section
open Go.ChangeShapes Go.WideShapes Go.ChangeAt Go.RowKit Go.Deep
theorem xH {α:Type}(p:Nat->α->Prop):∀ (n:Nat),(∀i,i<n -> ∃x,p i x) -> ∃l:List α,l.length=n /\ ∀i x,l[i]? = some x->p i x
 | 0,_=>⟨[],rfl,fun i x h=>by simp at h⟩
 | n+1,h=>by
  obtain ⟨l,hl,hp⟩:=xH p n (fun i hi=>h i ae)
  obtain ⟨y,hy⟩:=h n ae
  refine ⟨l++[y],by simp [hl],fun i x hx=>?_⟩
  rcases Nat.lt_or_ge i l.length with hi|hi
  .rw [List.getElem?_append_left hi] at hx;exact hp i x hx
  rw [List.getElem?_append_right hi] at hx
  have:i=n:=by
   have h1:i-l.length<1:=by have:=(List.getElem?_eq_some_iff.1 hx).1;simpa using this
   omega
  subst this
  rw [hl] at hx
  simp at hx;subst hx;exact hy
section
variable {H:Type} {enc:TypeId×Value->H} {P:Program} {w:World} {base:Nat} {spare:Nat->Bool} {held:Bool}
theorem open_list {α:Type}[Enc α]{t e:TypeId}{fuel:Nat}{v:Value}{x:DataW H×List MemPlace}(ht:P.underlying t=some (.slice e))(hC:P.cellsOf e=Enc.k α)(good:α->Prop)
 (hel:∀ (m:Nat) (cs:List Value) (y:DataW H×List MemPlace),cs.length=Enc.k α->DataW.trod enc P w base spare held m e cs=some y -> ∃z:α,cs=Enc.cells z/\good z)
 (h:DataW.trod enc P w base spare held fuel t [v]=some x):∃l:List α,Sl w v l /\ ∀z∈l,good z:=by
 rcases open_slice ht h with ⟨hcs,_⟩ | ⟨a,len,cap,m,n,D,Pl,hcs,hb,hl,hm,hmm,hx,hi⟩
 .
  injection hcs with h1 _
  subst h1
  exact ⟨[],Sl.nil w,fun z hz=>by simp at hz⟩
 injection hcs with h1 _
 subst h1
 have hlm:len<=m:=by rw [hmm];split <;> omega
 obtain ⟨l,hlen,hp⟩:=xH (fun i (z:α)=>good z /\ ∀j u,(Enc.cells z)[j]? = some u->w.cell? (a.add (i*Enc.k α+j))=some u) len (fun i hil=>by
  obtain ⟨cs',hc,htr⟩:=hi i ae
  rw [hC] at hc
  obtain ⟨_,hcl,hat⟩:=World.cells?_some hc
  obtain ⟨z,hz,hg⟩:=hel n cs' _ hcl htr
  refine ⟨z,hg,fun j u hu=>?_⟩
  subst hz
  have hj:j<Enc.k α:=by rw [<- hcl];exact (List.getElem?_eq_some_iff.1 hu).1
  have:=hat j hj
  rw [add_add] at this
  rw [this];exact hu)
 have hpos:0<Enc.k α:=Enc.pos
 refine ⟨l,⟨some a,cap,by rw [hlen],ae,hm,fun i z hz=>?_⟩,fun z hz=>?_⟩
 .
  obtain ⟨hg,hc⟩:=hp i z hz
  have hnil:0<(Enc.cells z).length:=by rw [Enc.len];exact hpos
  have h0:∃u,(l[0]?.map Enc.cells).bind (·[0]?)=some u:=by
   have h0l:0<l.length:=Nat.lt_of_le_of_lt (Nat.zero_le i) (List.getElem?_eq_some_iff.1 hz).1
   have:0<(Enc.cells l[0]).length:=by rw [Enc.len];exact hpos
   exact ⟨(Enc.cells l[0])[0],by simp [List.getElem?_eq_getElem h0l,List.getElem?_eq_getElem this]⟩
  have hspot:a.spot=none:=by
   have h0l:0<l.length:=Nat.lt_of_le_of_lt (Nat.zero_le i) (List.getElem?_eq_some_iff.1 hz).1
   have h0c:0<(Enc.cells l[0]).length:=by rw [Enc.len];exact hpos
   have hc0:=(hp 0 l[0] (List.getElem?_eq_getElem h0l)).2 0 (Enc.cells l[0])[0] (List.getElem?_eq_getElem h0c)
   simp only [Nat.zero_mul,Nat.zero_add,Addr.add,if_true] at hc0
   unfold World.cell? at hc0
   split at hc0
   .
    split at hc0
    .cases hc0
    rename_i hs;simpa using hs
   cases hc0
  obtain ⟨b,off,sp⟩:=a
  simp only [] at hspot
  subst hspot
  have hadd:∀n,(⟨b,off,none⟩:Addr).add n=⟨b,off+n,none⟩:=fun n=>by unfold Addr.add;split <;> simp_all
  refine ⟨b,off,rfl,?_,fun j u hu=>?_⟩
  .
   have hh:=hc 0 (Enc.cells z)[0] (List.getElem?_eq_getElem hnil)
   rw [hadd] at hh
   exact World.block_lt_of_cell? w _ hh
  have hh:=hc j u hu
  rw [hadd,<- Nat.add_assoc] at hh
  exact hh
 obtain ⟨i,hi⟩:=List.mem_iff_getElem?.1 hz
 exact (hp i z hi).1
theorem trodAll_back (hl:laidOutB P=true){W W':World}(hb:Below W.heap.size W W'):∀ {ts:List TypeId} {vs:List Value} {ds:List (DataW H)} {ps:List MemPlace},
 (∀t∈ts,P.readableRec t=true/\t<P.types.size)->DataW.TrodAll enc P W 0 (fun _=>true) true ts vs ds ps ->
 DataW.TrodAll enc P W' 0 (fun b=>decide (b<W.heap.size)) true ts vs ds ps
 | [],vs,ds,ps,_,h=>by
  obtain ⟨rfl,rfl,rfl⟩:=trodAll_nil h
  exact trodAll_mk0
 | t::ts,vs,ds,ps,hr,h=>by
  obtain ⟨v,vs',d,ds',p,q,rfl,rfl,rfl,h0,h1⟩:=trodAll_cons h
  have hlt:∀x∈p,x.block<W.heap.size:=by obtain ⟨m,hm⟩:=h0;exact DataW.trod_lt m _ _ _ hm
  exact trodAll_cons_mk (Below.trod hl (hr t bA).1 (hr t bA).2 h0 hb hlt) (trodAll_back hl hb (fun t' ht'=>hr t' (by simp [ht'])) h1)
end
end
section
open Go.ChangeShapes Go.WideShapes Go.ChangeAt Go.RowKit Go.Deep
section
variable {H:Type} {enc:TypeId×Value->H} {w:World} {base:Nat} {spare:Nat->Bool} {held:Bool}
end
end
section
open Go.ChangeShapes Go.WideShapes Go.ChangeAt Go.RowKit Go.Deep
section
variable {H:Type} {enc:TypeId×Value->H} {w:World} {base:Nat} {spare:Nat->Bool} {held:Bool}
end
end
section
open Go Go.RowKit
abbrev Fm:=List (Nat×Value)
def lk:Fm->Nat->Option Value
  | [],_=>none
  | (j,v)::L,i=>bif Nat.beq j i then some v else lk L i
def ev (L:Fm):Operand->Option Value
  | .tmp t=>lk L t
  | .const v=>some v
  | .global g=>some (.pointer (some ⟨g,0,none⟩))
  | .func f=>some (.func (.func f) #[] #[])
def evs (L:Fm):List Operand->Option (List Value)
  | []=>some []
  | x::xs=>match ev L x,evs L xs with
    | some v,some vs=>some (v::vs)
    | _,_=>none
def D2:Fm->Fm->Prop
  | [],_=>True
  | p::L',L=>lk L p.1=some p.2/\D2 L' L
theorem gE {α:Type}(l:List α)(i:Nat)(h:i<l.length:=by omega):∃z,l[i]? = some z:=⟨_,List.getElem?_eq_getElem h⟩
def lks (L:Fm):Fm->List (Option Value)
  | []=>[]
  | p::r=>lk L p.1::lks L r
def sms:Fm->List (Option Value)
  | []=>[]
  | p::r=>some p.2::sms r
theorem sF:∀ {L' L:Fm},lks L L'=sms L'->D2 L' L
 | [],_,_=>trivial
 | p::r,L,h=>by
  injection h with h1 h2
  exact ⟨h1,sF h2⟩
structure Fr (n:Nat)(L:Fm)(a:Act):Prop where
  size:a.tmps.size=n
  defers:a.defers=[]
  get:∀i v,lk L i=some v->a.tmps[i]? = some v
theorem Fr.ev {n:Nat}{L:Fm}{a:Act}(h:Fr n L a){x:Operand}{v:Value}(hx:ev L x=some v):a.eval x=v:=by
 cases x with
 | tmp t=>have:=h.get t v hx;simp [Act.eval,this]
 | const u=>simpa [YtnmpibjlnninjaaGreatDoor.ev,Act.eval] using hx
 | global g=>simpa [YtnmpibjlnninjaaGreatDoor.ev,Act.eval] using hx
 | func f=>simpa [YtnmpibjlnninjaaGreatDoor.ev,Act.eval] using hx
theorem Fr.evs {n:Nat}{L:Fm}{a:Act}(h:Fr n L a):∀ {xs:List Operand} {vs:List Value},evs L xs=some vs->xs.map a.eval=vs
 | [],vs,hx=>by simp [YtnmpibjlnninjaaGreatDoor.evs] at hx;subst hx;rfl
 | x::xs,vs,hx=>by
  simp only [YtnmpibjlnninjaaGreatDoor.evs] at hx
  split at hx
  .
   rename_i v vs' h1 h2
   injection hx with hx;subst hx
   simp [h.ev h1,h.evs h2]
  grind
theorem Fr.put {n:Nat}{L:Fm}{a:Act}(h:Fr n L a)(d:Nat)(v:Value)(hd:Nat.blt d n=true):Fr n ((d,v)::L) (a.put (some d) v):=by
 have hd':d<a.tmps.size:=by rw [h.size];simp_all
 refine ⟨by simp [Act.put,h.size],by simp [Act.put,h.defers],fun i u hu=>?_⟩
 simp only [lk] at hu
 by_cases e:d=i
 .simp_all [Act.put]
 have e':Nat.beq d i=false:=Bool.eq_false_iff.2 (fun h=>e (Nat.eq_of_beq_eq_true h))
 rw [e'] at hu
 simp only [cond_false] at hu
 have:=h.get i u hu
 grind [Act.put]
theorem Fr.sub {n:Nat}{L:Fm}{a:Act}(h:Fr n L a):∀ {L':Fm},D2 L' L->Fr n L' a
 | [],_=>⟨h.size,h.defers,fun i v hv=>by cases hv⟩
 | (j,u)::L',hs=>by
  have ih:=h.sub (L':=L') hs.2
  refine ⟨h.size,h.defers,fun i v hv=>?_⟩
  simp only [lk] at hv
  by_cases e:j=i
  .
   subst e
   simp at hv;subst hv
   exact h.get _ _ hs.1
  have e':Nat.beq j i=false:=Bool.eq_false_iff.2 (fun h=>e (Nat.eq_of_beq_eq_true h))
  rw [e'] at hv
  exact ih.get i v hv
structure np (X:List Nat)(w w':World):Prop where
  os:w'.os=w.os
  tape:w'.tape=w.tape
  output:w'.output=w.output
  size:w.heap.size<=w'.heap.size
  block:∀k,k<w.heap.size->k∉X->w'.heap[k]? = w.heap[k]?
theorem np.refl (X:List Nat)(w:World):np X w w:=⟨rfl,rfl,rfl,Nat.le_refl _,fun _ _ _=>rfl⟩
theorem np.trans {X:List Nat}{a b c:World}(h:np X a b)(k:np X b c):np X a c :=
 ⟨k.os.trans h.os,k.tape.trans h.tape,k.output.trans h.output,Nat.le_trans h.size k.size,fun i hi hx=>(k.block i (Nat.lt_of_lt_of_le hi h.size) hx).trans (h.block i hi hx)⟩
theorem np.ext {w w':World}(h:np [] w w'):Ext w w':=Ext.mk ⟨h.os,h.tape,h.output,h.size,fun k hk=>h.block k hk bA⟩
theorem Ext.upd {w w':World}(h:Ext w w'):np [] w w':=⟨h.below.os,h.below.tape,h.below.output,h.size,fun k hk _=>h.heap hk⟩
theorem np.mono {X Y:List Nat}{w w':World}(h:np X w w')(hs:∀k∈X,k<w.heap.size->k∈Y):np Y w w' :=
 ⟨h.os,h.tape,h.output,h.size,fun k hk hy=>h.block k hk (fun hx=>hy (hs k hx hk))⟩
structure ag where
  blk:List Nat
  ok:World->Prop
  loc:∀w w':World,(∀k∈blk,w'.heap[k]? = w.heap[k]?)->ok w->ok w'
def blks:List ag->List Nat
  | []=>[]
  | r::B=>r.blk++blks B
theorem bK {k:Nat}:∀ {B:List ag},k∈blks B ↔ ∃r∈B,k∈r.blk
 | []=>by simp [blks]
 | r::B=>by simp [blks,bK]
structure Wd (we:World)(X:List Nat)(B F:List ag)(w:World):Prop where
  upd:np X we w
  okB:∀r∈B,r.ok w
  okF:∀r∈F,r.ok w
  sep:(blks B).Nodup
  own:∀k∈blks B,k<w.heap.size/\(k<we.heap.size->k∈X)
  nq:∀k∈blks F,k<w.heap.size/\k∉blks B
section
variable {we w w':World} {X:List Nat} {B F:List ag}
theorem Wd.start (we:World)(X:List Nat):Wd we X [] [] we:=⟨np.refl _ _,bA,bA,by simp [blks],by simp [blks],by simp [blks]⟩
theorem Wd.grow (h:Wd we X B F w)(e:np [] w w'):Wd we X B F w' :=
 ⟨h.upd.trans (e.mono bA),
  fun r hr=>r.loc w w' (fun k hk=>e.block k (h.own k (bK.2 ⟨r,hr,hk⟩)).1 bA) (h.okB r hr),
  fun r hr=>r.loc w w' (fun k hk=>e.block k (h.nq k (bK.2 ⟨r,hr,hk⟩)).1 bA) (h.okF r hr),
  h.sep,fun k hk=>⟨Nat.lt_of_lt_of_le (h.own k hk).1 e.size,(h.own k hk).2⟩,fun k hk=>⟨Nat.lt_of_lt_of_le (h.nq k hk).1 e.size,(h.nq k hk).2⟩⟩
theorem Wd.fact (h:Wd we X B F w){r:ag}(hr:r.ok w)(hd:∀k∈r.blk,k<w.heap.size/\k∉blks B):Wd we X B (r::F) w :=
 ⟨h.upd,h.okB,fun q hq=>(List.mem_cons.1 hq).elim (fun e=>e▸hr) (h.okF q),h.sep,h.own,
  fun k hk=>(List.mem_append.1 hk).elim (hd k) (h.nq k)⟩
theorem Wd.new (h:Wd we X B F w){r:ag}(hr:r.ok w)(hn:r.blk.Nodup)(hd:∀k∈r.blk,k<w.heap.size/\we.heap.size<=k/\k∉blks B/\k∉blks F):Wd we X (r::B) F w :=
 ⟨h.upd,fun q hq=>(List.mem_cons.1 hq).elim (fun e=>e▸hr) (h.okB q),h.okF,
  List.nodup_append.2 ⟨hn,h.sep,fun a ha b hb e=>(hd a ha).2.2.1 (e▸hb)⟩,
  fun k hk=>(List.mem_append.1 hk).elim (fun hk=>⟨(hd k hk).1,fun hlt=>absurd (hd k hk).2.1 ae⟩) (h.own k),
  fun k hk=>⟨(h.nq k hk).1,fun hb=>(List.mem_append.1 hb).elim (fun hb=>(hd k hb).2.2.2 hk) (h.nq k hk).2⟩⟩
theorem vj:∀ {B:List ag} {i:Nat} {r r':ag},B[i]? = some r -> ∀k,k∈blks (B.set i r')->k∈r'.blk∨k∈blks B
 | [],i,r,r',h,k,hk=>by simp at h
 | q::B,0,r,r',h,k,hk=>by
  simp only [List.set_cons_zero,blks,List.mem_append] at hk ⊢
  rcases hk with hk|hk
  .exact .inl hk
  exact .inr (.inr hk)
 | q::B,i+1,r,r',h,k,hk=>by
  simp only [List.set_cons_succ,blks,List.mem_append] at hk ⊢
  rcases hk with hk|hk
  .exact .inr (.inl hk)
  rcases vj (by simpa using h) k hk with h1|h1
  .exact .inl h1
  exact .inr (.inr h1)
theorem Ct:∀ {B:List ag} {i:Nat} {r r':ag},B[i]? = some r->(blks B).Nodup->r'.blk.Nodup->(∀k∈r'.blk,k∈r.blk∨k∉blks B)->(blks (B.set i r')).Nodup
 | [],i,r,r',h,hn,hn',hd=>by simp at h
 | q::B,0,r,r',h,hn,hn',hd=>by
  simp at h;subst h
  simp only [List.set_cons_zero,blks] at hn hd ⊢
  obtain ⟨h1,h2,h3⟩:=List.nodup_append.1 hn
  refine List.nodup_append.2 ⟨hn',h2,fun a ha b hb e=>?_⟩
  subst e
  rcases hd a ha with h4|h4
  .exact h3 a h4 a hb rfl
  exact h4 (List.mem_append.2 (.inr hb))
 | q::B,i+1,r,r',h,hn,hn',hd=>by
  simp only [List.set_cons_succ,blks] at hn hd ⊢
  obtain ⟨h1,h2,h3⟩:=List.nodup_append.1 hn
  have h':B[i]? = some r:=by simpa using h
  have XC:∀k∈r.blk,k∈blks B:=fun k hk=>bK.2 ⟨r,List.mem_of_getElem? h',hk⟩
  refine List.nodup_append.2 ⟨h1,Ct h' h2 hn' (fun k hk=>?_),fun a ha b hb e=>?_⟩
  .
   rcases hd k hk with h4|h4
   .exact .inl h4
   exact .inr (fun hb=>h4 (List.mem_append.2 (.inr hb)))
  subst e
  rcases vj h' a hb with h4|h4
  .
   rcases hd a h4 with h5|h5
   .exact h3 a ha a (XC a h5) rfl
   exact h5 (List.mem_append.2 (.inl ha))
  exact h3 a ha a h4 rfl
theorem jI:∀ {B:List ag} {i j:Nat} {r q:ag},B[i]? = some r->B[j]? = some q->i≠j->(blks B).Nodup -> ∀k∈r.blk,k∉q.blk
 | [],i,j,r,q,hi,hj,hne,hn,k,hk,hk'=>by grind
 | p::B,0,0,r,q,hi,hj,hne,hn,k,hk,hk'=>hne rfl
 | p::B,0,j+1,r,q,hi,hj,hne,hn,k,hk,hk'=>by
  simp at hi;subst hi
  exact (List.nodup_append.1 hn).2.2 k hk k (bK.2 ⟨q,List.mem_of_getElem? (by simpa using hj),hk'⟩) rfl
 | p::B,i+1,0,r,q,hi,hj,hne,hn,k,hk,hk'=>by
  simp at hj;subst hj
  exact (List.nodup_append.1 hn).2.2 k hk' k (bK.2 ⟨r,List.mem_of_getElem? (by simpa using hi),hk⟩) rfl
 | p::B,i+1,j+1,r,q,hi,hj,hne,hn,k,hk,hk' =>
  jI (B:=B) (by simpa using hi) (by simpa using hj) ae (List.nodup_append.1 hn).2.1 k hk hk'
theorem Wd.turn (h:Wd we X B F w){i:Nat}{r r':ag}(hi:B[i]? = some r)(e:np r.blk w w')(hr:r'.ok w')(hn:r'.blk.Nodup)
 (hb:∀k∈r'.blk,k<w'.heap.size/\(k∈r.blk∨w.heap.size<=k)):Wd we X (B.set i r') F w':=by
 have hrm:r∈B:=List.mem_of_getElem? hi
 have XC:∀k∈r.blk,k∈blks B:=fun k hk=>bK.2 ⟨r,hrm,hk⟩
 have hsz:we.heap.size<=w.heap.size:=h.upd.size
 have hnew:∀k∈r'.blk,k∈r.blk∨(k∉blks B/\k∉blks F/\¬ k<we.heap.size):=fun k hk=>(hb k hk).2.elim .inl fun hge =>
  .inr ⟨fun hB=>by have:=(h.own k hB).1;omega,fun hF=>by have:=(h.nq k hF).1;omega,ae⟩
 refine ⟨⟨e.os.trans h.upd.os,e.tape.trans h.upd.tape,e.output.trans h.upd.output,Nat.le_trans h.upd.size e.size,fun k hk hx=>?_⟩,?_,?_,Ct hi h.sep hn (fun k hk=>(hnew k hk).imp id (·.1)),fun k hk=>?_,fun k hk=>⟨Nat.lt_of_lt_of_le (h.nq k hk).1 e.size,fun hb'=>?_⟩⟩
 .rw [e.block k ae (fun hr=>hx ((h.own k (XC k hr)).2 hk)),h.upd.block k hk hx]
 .
  intro q hq
  obtain ⟨j,hj⟩:=List.mem_iff_getElem?.1 hq
  rw [List.getElem?_set] at hj
  split at hj
  .grind
  rename_i hne
  exact q.loc w w' (fun k hk=>e.block k (h.own k (bK.2 ⟨q,List.mem_of_getElem? hj,hk⟩)).1 (fun hkr=>jI hi hj hne h.sep k hkr hk)) (h.okB q (List.mem_of_getElem? hj))
 .
  intro q hq
  exact q.loc w w' (fun k hk=>e.block k (h.nq k (bK.2 ⟨q,hq,hk⟩)).1 (fun hkr=>(h.nq k (bK.2 ⟨q,hq,hk⟩)).2 (XC k hkr))) (h.okF q hq)
 .
  rcases vj hi k hk with h1|h1
  .
   rcases hnew k h1 with h2|h2
   .exact ⟨(hb k h1).1,(h.own k (XC k h2)).2⟩
   grind
  exact ⟨Nat.lt_of_lt_of_le (h.own k h1).1 e.size,(h.own k h1).2⟩
 rcases vj hi k hb' with h1|h1
 .
  rcases hnew k h1 with h2|h2
  .exact (h.nq k hk).2 (XC k h2)
  grind
 exact (h.nq k hk).2 h1
end
inductive It where
  | c (c:Code)
  | b (id:Nat)
  | back (I:Act->World->Prop)
def rJ (P:Program)(Q:Exit->Act->World->Prop):List It->Exit->Act->World->Prop
  | [],e,a,w=>Q e a w
  | .c x::k,.normal,a,w=>x.wp P (rJ P Q k) a w
  | .c _::k,e,a,w=>rJ P Q k e a w
  | .b id::k,.exit id',a,w=>bif Nat.beq id' id then rJ P Q k .normal a w else rJ P Q k (.exit id') a w
  | .b _::k,e,a,w=>rJ P Q k e a w
  | .back I::k,.normal,a,w=>I a w
  | .back _::k,e,a,w=>rJ P Q k e a w
def lN (id:Nat):List It->Option (List It)
  | .b id'::k=>bif Nat.beq id id' then some k else lN id k
  | _::k=>lN id k
  | []=>none
def norm:Nat->List It->List It
  | 0,k=>k
  | f+1,k=>match k with
    | .c (.seq x y)::k=>norm f (.c x :: .c y::k)
    | .c .skip::k=>norm f k
    | .c (.label _)::k=>norm f k
    | .c (.block id x)::k=>norm f (.c x :: .b id::k)
    | .b _::k=>norm f k
    | .c (.exit id)::k=>match lN id k with
      | some k'=>norm f k'
      | none => .c (.exit id)::k
    | k=>k
section
variable {P:Program} {Q:Exit->Act->World->Prop}
theorem Ra {x y:Code}{k:List It}{a:Act}{w:World}(h:rJ P Q (.c x :: .c y::k) .normal a w):rJ P Q (.c (.seq x y)::k) .normal a w :=
 wp_seq (wp_mono h (fun e a w q=>by cases e <;> exact q))
theorem Li {id:Nat}{x:Code}{k:List It}{a:Act}{w:World}(h:rJ P Q (.c x :: .b id::k) .normal a w):rJ P Q (.c (.block id x)::k) .normal a w :=
 wp_block (wp_mono h (fun e a w q=>by
  cases e with
  | exit id' =>
   simp only [rJ] at q
   by_cases hid:id'=id
   .simp_all [Exit.inBlock]
   have e':Nat.beq id' id=false:=Bool.eq_false_iff.2 (fun h=>hid (Nat.eq_of_beq_eq_true h))
   grind [Exit.inBlock]
  | _=>exact q))
theorem vk {id:Nat}:∀ {k k':List It} {a:Act} {w:World},lN id k=some k'->rJ P Q k' .normal a w->rJ P Q k (.exit id) a w
 | [],k',a,w,h,hq=>by simp [lN] at h
 | .c _::k,k',a,w,h,hq=>vk (k:=k) (by simpa [lN] using h) hq
 | .back _::k,k',a,w,h,hq=>vk (k:=k) (by simpa [lN] using h) hq
 | .b id'::k,k',a,w,h,hq=>by
  simp only [lN] at h
  simp only [rJ]
  cases hb:Nat.beq id id' with
  | true=>rw [hb] at h;simp at h;subst h;exact hq
  | false=>rw [hb] at h;simp at h;exact vk h hq
theorem dr:∀ (f:Nat) {k:List It} {a:Act} {w:World},rJ P Q (norm f k) .normal a w->rJ P Q k .normal a w
 | 0,k,a,w,h=>h
 | f+1,k,a,w,h=>by
  unfold norm at h
  split at h
  .exact Ra (dr f h)
  .exact wp_skip (dr f h)
  .exact wp_label (dr f h)
  .exact Li (dr f h)
  .
   have:=dr f h
   exact this
  .
   split at h
   .rename_i hx;exact wp_exit (vk hx (dr f h))
   exact h
  exact h
end
def Run (P:Program)(n:Nat)(we:World)(X:List Nat)(Q:Exit->Act->World->Prop)(k:List It)(L:Fm)(B F:List ag):Prop :=
  ∀a w,Fr n L a->Wd we X B F w->rJ P Q k .normal a w
def Rg (P:Program)(n:Nat)(we:World)(X:List Nat)(Q:Exit->Act->World->Prop)(ops rest:List Oper)(k:List It)(L:Fm)(B F:List ag):Prop :=
  ∀a w,Fr n L a->Wd we X B F w->wpList P ops.toArray (rJ P Q k) rest a w
section
variable {P:Program} {n:Nat} {we:World} {X:List Nat} {Q:Exit->Act->World->Prop} {k k':List It} {L:Fm} {B F:List ag} {ops rest:List Oper}
def UU (i:Nat):List Value->Fm
  | []=>[]
  | v::vs=>(i,v)::UU (i+1) vs
theorem zg:∀ (vs:List Value) (i j:Nat) (v:Value),lk (UU i vs) j=some v->i<=j/\vs[j-i]? = some v
 | [],i,j,v,h=>by cases h
 | u::vs,i,j,v,h=>by
  simp only [UU,lk] at h
  by_cases e:i=j
  .simp_all
  have e':Nat.beq i j=false:=Bool.eq_false_iff.2 (fun h=>e (Nat.eq_of_beq_eq_true h))
  rw [e'] at h
  obtain ⟨h1,h2⟩:=zg vs (i+1) j v h
  grind
theorem R.enter {f:FuncId}{fn:Func}{c:Code}{vs:List Value}{w:World}{R:Ending->World->Prop}(X:List Nat)(L:Fm)(hf:P.funcs[f]? = some fn)(hb:fn.body=some c)(hn:fn.ntmps=n)
 (hle:Nat.ble vs.length n=true) (hL:UU 0 vs=L) (h:Run P n w X (bodyPost P fn R) [.c c] L [] []):Calls P f vs.toArray w R:=by
 have hle':vs.length<=n:=Nat.le_of_ble_eq_true hle
 refine calls_of_wp hf hb<|wp_mono (h _ w ⟨?_,rfl,fun i v hv=>?_⟩ (Wd.start w X)) (fun e a w q=>by cases e <;> exact q)
 .simp [hn];omega
 rw [<- hL] at hv
 obtain ⟨h1,h2⟩:=zg vs 0 i v hv
 simp only [Nat.sub_zero] at h2
 have hi:i<vs.length:=(List.getElem?_eq_some_iff.1 h2).1
 show (vs.toArray++Array.replicate (fn.ntmps-vs.toArray.size) undef)[i]? = some v
 rw [Array.getElem?_append_left (by simpa using hi)]
 simpa using h2
theorem lp:∀ {k:List It} {a:Act} {w:World},Q .ret a w->rJ P Q k .ret a w
 | [],a,w,h=>h
 | .c _::k,a,w,h=>lp (k:=k) h
 | .b _::k,a,w,h=>lp (k:=k) h
 | .back _::k,a,w,h=>lp (k:=k) h
theorem R.reg {id:Nat}(h:norm 200 k = .c (.region id ops.toArray false)::k')(hr:Rg P n we X Q ops ops k' L B F):Run P n we X Q k L B F :=
 fun a w ha hw=>dr 200 (h▸wp_region_lit (hr a w ha hw))
theorem R.nil (h:Run P n we X Q k L B F):Rg P n we X Q ops [] k L B F:=fun a w ha hw=>wpList_nil (h a w ha hw)
theorem R.pE {c:Operand}{x y:Code}(h:norm 200 k = .c (.cond c x y)::k')(hc:ev L c=some (.bool true))(hr:Run P n we X Q (.c x::k') L B F):Run P n we X Q k L B F :=
 fun a w ha hw=>dr 200 (h▸wp_cond_true (ha.ev hc) (hr a w ha hw))
theorem R.rO {c:Operand}{x y:Code}(h:norm 200 k = .c (.cond c x y)::k')(hc:ev L c=some (.bool false))(hr:Run P n we X Q (.c y::k') L B F):Run P n we X Q k L B F :=
 fun a w ha hw=>dr 200 (h▸wp_cond_false (ha.ev hc) (hr a w ha hw))
theorem R.cond {c:Operand}{x y:Code}{b:Bool}(h:norm 200 k = .c (.cond c x y)::k')(hc:ev L c=some (.bool b))(ht:b=true->Run P n we X Q (.c x::k') L B F)(hf:b=false->Run P n we X Q (.c y::k') L B F):Run P n we X Q k L B F:=by
 cases b
 .grind [R.rO]
 grind [R.pE]
section
variable {fn:Func} {R:Ending->World->Prop}
theorem R.XR {t:Nat}{v:Value}(h:norm 200 k = .c .ret::k')(hr:fn.results = #[.tmp t])(hv:lk L t=some v)(hR:∀w,Wd we X B F w->R (.returned v) w):Run P n we X (bodyPost P fn R) k L B F :=
 fun a w ha hw=>dr 200 (h▸wp_ret (lp (bodyPost_ret (by rw [results_tmp hr,Array.getD_eq_getD_getElem?,ha.get _ _ hv];rfl) ha.defers (hR w hw))))
theorem R.aas {t u:Nat}{v v':Value}(h:norm 200 k = .c .ret::k')(hr:fn.results = #[.tmp t,.tmp u])(hv:lk L t=some v)(hv':lk L u=some v')(hR:∀w,Wd we X B F w->R (.returned (.tuple #[v,v'])) w):Run P n we X (bodyPost P fn R) k L B F :=
 fun a w ha hw=>dr 200 (h▸wp_ret (lp (bodyPost_ret (by rw [results_tmp2 hr,Array.getD_eq_getD_getElem?,Array.getD_eq_getD_getElem?,ha.get _ _ hv,ha.get _ _ hv'];rfl) ha.defers (hR w hw))))
theorem results_tmp3 {fn:Func}{t u x:Nat}(h:fn.results = #[.tmp t,.tmp u,.tmp x])(tmps:Array Value)(P:Program)(w:World) :
 (results fn tmps).run P w = .ok (.tuple #[tmps.getD t undef,tmps.getD u undef,tmps.getD x undef]) w:=by
 simp [results,h]
theorem R.aat {t u x:Nat}{v v' v'':Value}(h:norm 200 k = .c .ret::k')(hr:fn.results = #[.tmp t,.tmp u,.tmp x])(hv:lk L t=some v)(hv':lk L u=some v')(UV:lk L x=some v'')(hR:∀w,Wd we X B F w->R (.returned (.tuple #[v,v',v''])) w):Run P n we X (bodyPost P fn R) k L B F :=
 fun a w ha hw=>dr 200 (h▸wp_ret (lp (bodyPost_ret (by rw [results_tmp3 hr,Array.getD_eq_getD_getElem?,Array.getD_eq_getD_getElem?,Array.getD_eq_getD_getElem?,ha.get _ _ hv,ha.get _ _ hv',ha.get _ _ UV];rfl) ha.defers (hR w hw))))
theorem R.aau (h:norm 200 k=[])(hr:fn.results = #[])(hR:∀w,Wd we X B F w->R (.returned (.tuple #[])) w):Run P n we X (bodyPost P fn R) k L B F :=
 fun a w ha hw=>dr 200 (h▸bodyPost_end (results_none hr _ _ _) ha.defers (hR w hw))
theorem R.aav (h:norm 200 k = .c .ret::k')(hr:fn.results = #[])(hR:∀w,Wd we X B F w->R (.returned (.tuple #[])) w):Run P n we X (bodyPost P fn R) k L B F :=
 fun a w ha hw=>dr 200 (h▸wp_ret (lp (bodyPost_ret (results_none hr _ _ _) ha.defers (hR w hw))))
end
def Hd {ι:Type}(n:Nat)(we:World)(X:List Nat)(LI:ι->Fm)(BI FI:ι->List ag)(PI:ι->Prop)(μ:ι->Nat)(m:Nat)(a:Act)(w:World):Prop :=
  ∃i,PI i/\μ i<m/\Fr n (LI i) a/\Wd we X (BI i) (FI i) w
theorem R.back {ι:Type}{LI:ι->Fm}{BI FI:ι->List ag}{PI:ι->Prop}{μ:ι->Nat}{m:Nat}(i:ι)(h:norm 200 k = .back (Hd n we X LI BI FI PI μ m)::k')(hP:PI i)(hm:μ i<m)(hL:D2 (LI i) L)(hB:∀w,Wd we X B F w->Wd we X (BI i) (FI i) w):Run P n we X Q k L B F :=
 fun a w ha hw=>dr 200 (by rw [h];exact ⟨i,hP,hm,ha.sub hL,hB w hw⟩)
theorem FE {c:Code}{Q:Exit->Act->World->Prop}{a:Act}{w:World}(I:Nat->Act->World->Prop)(m:Nat)(h₀:I m a w)
 (round:∀m a w,I m a w->c.wp P (Exit.then (fun a' w' => ∃m',m'<m/\I m' a' w') Q) a w):(Code.loop c).wp P Q a w:=by
 intro b k cs
 have key:∀m a w,I m a w ->
  ∃e a' w',Q e a' w'/\Arrives P (lone (b.at a (.code c :: .inLoop c::k)) cs w) b k cs e a' w':=by
  intro m
  induction m using Nat.strongRecOn with
  | _ m ih =>
   intro a w hI
   obtain ⟨e,a₁,w₁,hq,harr⟩:=round m a w hI b (.inLoop c::k) cs
   cases e with
   | normal =>
    obtain ⟨m',hlt,hI₁⟩:=hq
    obtain ⟨e₂,a₂,w₂,hq₂,harr₂⟩:=ih m' hlt a₁ w₁ hI₁
    exact ⟨e₂,a₂,w₂,hq₂,.of_steps (Steps.trans harr (.one step_inLoop)) harr₂⟩
   | exit id=>exact ⟨_,a₁,w₁,hq,.pass (x:= .inLoop c) rfl (fun _ _ => .inl bA) harr⟩
   | goto l=>exact ⟨_,a₁,w₁,hq,.pass (x:= .inLoop c) rfl (fun _ _ => .inl bA) harr⟩
   | ret=>exact ⟨_,a₁,w₁,hq,.pass (x:= .inLoop c) rfl (fun _ _ => .inl bA) harr⟩
   | panic ch=>exact ⟨_,a₁,w₁,hq,.pass (x:= .inLoop c) rfl (fun _ _ => .inl bA) harr⟩
   | outgrown=>exact ⟨_,a₁,w₁,hq,.pass (x:= .inLoop c) rfl (fun _ _ => .inl bA) harr⟩
 obtain ⟨e,a',w',hq,harr⟩:=key m a w h₀
 exact ⟨e,a',w',hq,.of_steps (.one step_loop) harr⟩
theorem R.loop {ι:Type}(LI:ι->Fm)(BI FI:ι->List ag)(PI:ι->Prop)(μ:ι->Nat)(i:ι){c:Code}(h:norm 200 k = .c (.loop c)::k')(hP:PI i)(hL:D2 (LI i) L)(hB:∀w,Wd we X B F w->Wd we X (BI i) (FI i) w)
 (round:∀i,PI i->Run P n we X Q (.c c :: .back (Hd n we X LI BI FI PI μ (μ i))::k') (LI i) (BI i) (FI i)):Run P n we X Q k L B F:=by
 intro a w ha hw
 refine dr 200 (h ▸ ?_)
 refine FE (fun m a w => ∃i,PI i/\μ i=m/\Fr n (LI i) a/\Wd we X (BI i) (FI i) w) (μ i) ⟨i,hP,rfl,ha.sub hL,hB w hw⟩ ?_
 rintro m a w ⟨i,hP,rfl,ha,hw⟩
 refine wp_mono (round i hP a w ha hw) (fun e a w q=>?_)
 cases e with
 | normal =>
  obtain ⟨j,h1,h2,h3,h4⟩:=q
  exact ⟨μ j,h2,j,h1,rfl,h3,h4⟩
 | _=>exact q
def Qt (P:Program)(n:Nat)(we:World)(X:List Nat)(L:Fm)(B F:List ag)(op:Op)(ty:TypeId)(v:Value):Prop :=
  ∀dst pos dV g a w,Fr n L a->Wd we X B F w->(execOp a.eval ⟨dst,op,ty,pos,dV,g⟩).run P w = .ok (.value v) w
def gd (ops:List Oper)(L:Fm):Option (Nat×Bool)->Option Bool
  | none=>some true
  | some (j,want)=>match ops[j]? with
    | some o=>match o.dst with
      | some d=>match lk L d with
        | some (.bool b)=>some (b==want)
        | some _=>some false
        | none=>none
      | none=>some false
    | none=>some false
theorem eR {o:Oper}{a:Act}{b:Bool}(ha:Fr n L a)(h:gd ops L o.guard=some b):Region.wanted o (yielded ops.toArray a.tmps)=b:=by
 unfold Region.wanted
 cases hg:o.guard with
 | none=>grind [gd]
 | some p =>
  obtain ⟨j,want⟩:=p
  rw [hg] at h
  simp only [gd] at h
  simp only [yielded,List.getElem?_toArray]
  cases ho:ops[j]? with
  | none=>grind
  | some o =>
   rw [ho] at h
   cases hd:o.dst with
   | none=>grind
   | some d =>
    simp only [hd] at h
    cases hl:lk L d with
    | none=>grind
    | some v =>
     rw [hl] at h
     have:=ha.get d v hl
     simp only [Option.bind_some,hd,this]
     cases v <;> simp_all
variable {dst:Option Nat} {d:Nat} {op:Op} {ty:TypeId} {pos:String} {dV:Array Edge} {g:Option (Nat×Bool)} {g':Nat×Bool} {v:Value}
theorem R.q (hq:Qt P n we X L B F op ty v)(hd:Nat.blt d n=true)(h:Rg P n we X Q ops rest k ((d,v)::L) B F):Rg P n we X Q ops (⟨some d,op,ty,pos,dV,none⟩::rest) k L B F:=by
 intro a w ha hw
 refine wpList_plain rfl fun K hK=>?_
 unfold Oper.wp
 rw [hq _ _ _ _ a w ha hw,Oper.upon_value]
 exact hK _ _ (h _ w (ha.put d v hd) hw)
theorem R.qg (hg:gd ops L (some g')=some true)(hq:Qt P n we X L B F op ty v)(hd:Nat.blt d n=true)(h:Rg P n we X Q ops rest k ((d,v)::L) B F):Rg P n we X Q ops (⟨some d,op,ty,pos,dV,some g'⟩::rest) k L B F:=by
 intro a w ha hw
 refine wpList_step fun K hK=>?_
 rw [if_pos (eR (o:=⟨some d,op,ty,pos,dV,some g'⟩) ha hg)]
 unfold Oper.wp
 rw [hq _ _ _ _ a w ha hw,Oper.upon_value]
 exact hK _ _ (h _ w (ha.put d v hd) hw)
theorem addr_add (b o m:Nat):(⟨b,o,none⟩:Addr).add m=⟨b,o+m,none⟩:=Addr.add_lit b o m
section
variable {x y:Operand} {xT yT:TypeId} {m l:Int} {kd:IntKind}
theorem q.mv (hx:ev L x=some v):Qt P n we X L B F (.move x) ty v:=fun _ _ _ _ a w ha hw=>by simp [execOp,ha.ev hx]
theorem q.as (hx:ev L x=some v):Qt P n we X L B F (.assign x) ty v:=fun _ _ _ _ a w ha hw=>by simp [execOp,ha.ev hx]
theorem q.Nh {c:Operand}(hc:ev L c=some (.bool true))(hx:ev L x=some v):Qt P n we X L B F (.pick c x y) ty v:=fun _ _ _ _ a w ha hw=>by simp [execOp,ha.ev hx,ha.ev hc,asBool]
theorem q.Ni {c:Operand}(hc:ev L c=some (.bool false))(hy:ev L y=some v):Qt P n we X L B F (.pick c x y) ty v:=fun _ _ _ _ a w ha hw=>by simp [execOp,ha.ev hy,ha.ev hc,asBool]
theorem q.add {r:Int}(hx:ev L x=some (.int kd m))(hy:ev L y=some (.int kd l))(hr:kd.wrap (m+l)=r):Qt P n we X L B F (.binOp .add xT x y yT) ty (.int kd r):=fun _ _ _ _ a w ha hw=>by
 simp [execOp,ha.ev hx,ha.ev hy,binOp,Op.intArith,eqGuard,hr]
theorem q.sub {r:Int}(hx:ev L x=some (.int kd m))(hy:ev L y=some (.int kd l))(hr:kd.wrap (m-l)=r):Qt P n we X L B F (.binOp .sub xT x y yT) ty (.int kd r):=fun _ _ _ _ a w ha hw=>by
 simp [execOp,ha.ev hx,ha.ev hy,binOp,Op.intArith,eqGuard,hr]
theorem q.mul {r:Int}(hx:ev L x=some (.int kd m))(hy:ev L y=some (.int kd l))(hr:kd.wrap (m*l)=r):Qt P n we X L B F (.binOp .mul xT x y yT) ty (.int kd r):=fun _ _ _ _ a w ha hw=>by
 simp [execOp,ha.ev hx,ha.ev hy,binOp,Op.intArith,eqGuard,hr]
theorem q.eql {b:Bool}(hx:ev L x=some (.int kd m))(hy:ev L y=some (.int kd l))(hb:(m==l)=b):Qt P n we X L B F (.binOp .eql xT x y yT) ty (.bool b):=fun _ _ _ _ a w ha hw=>by
 simp only [execOp,ha.ev hx,ha.ev hy,eqGuard_at_int,binOp_eql,hb];rfl
theorem q.neq {b:Bool}(hx:ev L x=some (.int kd m))(hy:ev L y=some (.int kd l))(hb:(m != l)=b):Qt P n we X L B F (.binOp .neq xT x y yT) ty (.bool b):=fun _ _ _ _ a w ha hw=>by
 simp only [execOp,ha.ev hx,ha.ev hy,eqGuard_at_int,binOp_neq,hb];rfl
theorem q.lss {b:Bool}(hx:ev L x=some (.int kd m))(hy:ev L y=some (.int kd l))(hb:decide (m<l)=b):Qt P n we X L B F (.binOp .lss xT x y yT) ty (.bool b):=fun _ _ _ _ a w ha hw=>by
 simp only [execOp,ha.ev hx,ha.ev hy,eqGuard_at_int,binOp_lss,hb];rfl
theorem q.leq {b:Bool}(hx:ev L x=some (.int kd m))(hy:ev L y=some (.int kd l))(hb:decide (m<=l)=b):Qt P n we X L B F (.binOp .leq xT x y yT) ty (.bool b):=fun _ _ _ _ a w ha hw=>by
 simp only [execOp,ha.ev hx,ha.ev hy,eqGuard_at_int,binOp_leq,hb];rfl
theorem q.gtr {b:Bool}(hx:ev L x=some (.int kd m))(hy:ev L y=some (.int kd l))(hb:decide (m>l)=b):Qt P n we X L B F (.binOp .gtr xT x y yT) ty (.bool b):=fun _ _ _ _ a w ha hw=>by
 simp only [execOp,ha.ev hx,ha.ev hy,eqGuard_at_int,binOp_gtr,hb];rfl
theorem q.geq {b:Bool}(hx:ev L x=some (.int kd m))(hy:ev L y=some (.int kd l))(hb:decide (m>=l)=b):Qt P n we X L B F (.binOp .geq xT x y yT) ty (.bool b):=fun _ _ _ _ a w ha hw=>by
 simp only [execOp,ha.ev hx,ha.ev hy,eqGuard_at_int,binOp_geq,hb];rfl
theorem q.UW (hx:ev L x=some (.int kd m))(hy:ev L y=some (.int kd l))(h:m<l:=by omega):Qt P n we X L B F (.binOp .lss xT x y yT) ty (.bool true):=q.lss hx hy (decide_eq_true h)
theorem q.Rb (hx:ev L x=some (.int kd m))(hy:ev L y=some (.int kd l))(h:¬ m<l:=by omega):Qt P n we X L B F (.binOp .lss xT x y yT) ty (.bool false):=q.lss hx hy (decide_eq_false h)
theorem q.XS (hx:ev L x=some (.int kd m))(hy:ev L y=some (.int kd l))(h:m<=l:=by omega):Qt P n we X L B F (.binOp .leq xT x y yT) ty (.bool true):=q.leq hx hy (decide_eq_true h)
theorem q.XT (hx:ev L x=some (.int kd m))(hy:ev L y=some (.int kd l))(h:¬ m<=l:=by omega):Qt P n we X L B F (.binOp .leq xT x y yT) ty (.bool false):=q.leq hx hy (decide_eq_false h)
theorem q.XU (hx:ev L x=some (.int kd m))(hy:ev L y=some (.int kd l))(h:m>l:=by omega):Qt P n we X L B F (.binOp .gtr xT x y yT) ty (.bool true):=q.gtr hx hy (decide_eq_true h)
theorem q.XV (hx:ev L x=some (.int kd m))(hy:ev L y=some (.int kd l))(h:¬ m>l:=by omega):Qt P n we X L B F (.binOp .gtr xT x y yT) ty (.bool false):=q.gtr hx hy (decide_eq_false h)
theorem q.XW (hx:ev L x=some (.int kd m))(hy:ev L y=some (.int kd l))(h:m>=l:=by omega):Qt P n we X L B F (.binOp .geq xT x y yT) ty (.bool true):=q.geq hx hy (decide_eq_true h)
theorem q.XX (hx:ev L x=some (.int kd m))(hy:ev L y=some (.int kd l))(h:¬ m>=l:=by omega):Qt P n we X L B F (.binOp .geq xT x y yT) ty (.bool false):=q.geq hx hy (decide_eq_false h)
theorem q.XY (hx:ev L x=some (.int kd m))(hy:ev L y=some (.int kd l))(h:m=l:=by omega):Qt P n we X L B F (.binOp .eql xT x y yT) ty (.bool true):=q.eql hx hy (beq_iff_eq.2 h)
theorem q.XZ (hx:ev L x=some (.int kd m))(hy:ev L y=some (.int kd l))(h:¬ m=l:=by omega):Qt P n we X L B F (.binOp .eql xT x y yT) ty (.bool false):=q.eql hx hy (beq_eq_false_iff_ne.2 h)
theorem q.X0 (hx:ev L x=some (.int kd m))(hy:ev L y=some (.int kd l))(h:¬ m=l:=by omega):Qt P n we X L B F (.binOp .neq xT x y yT) ty (.bool true):=q.neq hx hy (bne_iff_ne.2 h)
theorem q.X1 (hx:ev L x=some (.int kd m))(hy:ev L y=some (.int kd l))(h:m=l:=by omega):Qt P n we X L B F (.binOp .neq xT x y yT) ty (.bool false):=q.neq hx hy (bne_eq_false_iff_eq.2 h)
theorem q.not {b:Bool}(hx:ev L x=some (.bool b)):Qt P n we X L B F (.unOp .not xT x) ty (.bool !b):=fun _ _ _ _ a w ha hw=>by
 simp [execOp,ha.ev hx,Op.unary]
theorem q.len {A:Option Addr}{s c:Nat}{e:TypeId}(hx:ev L x=some (.slice A s c))(ht:P.underlying xT=some (.slice e)):Qt P n we X L B F (.call { callee:= .builtin .len,args:= #[x],argTypes:= #[xT]}) ty (.int .i64 s):=fun _ _ _ _ a w ha hw=>by
 simp [execOp,resolve,invoke,builtin,ha.ev hx,Builtin.len_,run_underlying ht,goInt]
theorem q.X2 {s:ByteArray}(hx:ev L x=some (.string s))(ht:P.underlying xT=some .string):Qt P n we X L B F (.call { callee:= .builtin .len,args:= #[x],argTypes:= #[xT]}) ty (.int .i64 s.size):=fun _ _ _ _ a w ha hw=>by
 simp [execOp,resolve,invoke,builtin,ha.ev hx,Builtin.len_,run_underlying ht,goInt]
theorem q.iface (hx:ev L x=some v)(ht:P.concrete xT=true):Qt P n we X L B F (.makeInterface xT x) ty (.iface xT v):=fun _ _ _ _ a w ha hw=>by
 simp [execOp,ha.ev hx,run_makeInterface (P:=P) (w:=w) xT v ht]
theorem q.ext {vs:Array Value}{i:Nat}(hx:ev L x=some (.tuple vs))(hv:vs[i]? = some v):Qt P n we X L B F (.extract x i) ty v:=fun _ _ _ _ a w ha hw=>by
 simp [execOp,ha.ev hx,Instr.extract,hv]
end
end
end
end Go.Proofs.YtnmpibjlnninjaaGreatDoor
