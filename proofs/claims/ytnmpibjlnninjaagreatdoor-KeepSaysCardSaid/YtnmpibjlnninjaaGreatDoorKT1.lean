import Derived.WalkKit
import Derived.WalkSpells
import Derived.WalkLawsBesides
import Derived.Lib.Hide
import Derived.Deep.Draws
import Derived.Deep.AppendLies
import Derived.Deep.Slices
import Derived.Deep.Fields
import Derived.ChangeSame
import Derived.ProofKit
import Derived.OpenShut
import Derived.ShutString
import Derived.ChangeOld
import Derived.Carry
import Derived.Lib.SmallJoins
import Derived.Test.YtnmpibjlnninjaaGreatDoorProg
import Derived.Orders
namespace Go.Proofs.YtnmpibjlnninjaaGreatDoor
set_option linter.unusedVariables false
set_option linter.unusedSimpArgs false
set_option maxRecDepth 100000
set_option maxHeartbeats 90000000
section
open Go.RowKit
def Ext (w w':World):Prop:=Below w.heap.size w w'
theorem ae{p:Prop}(h:p:=by omega):p:=h
theorem ao{p:Prop}(h:p:=by kernel_rfl):p:=h
theorem aD{p:Prop}(h:p:=by decide):p:=h
theorem aE{p:Prop}(h:p:=by (simp;omega)):p:=h
theorem aG{p:Prop}(h:p:=by dsimp only;omega):p:=h
theorem bC{p:Prop}(h:p:=by simp):p:=h
theorem eF{p:Prop}(h:p:=by rfl):p:=h
theorem af{p:Prop}(h:p:=by assumption):p:=h
theorem Da{p:Prop}(h:p:=by exact Int.le_refl 0):p:=h
theorem sH{p:Prop}(h:p:=by simp_all):p:=h
theorem au{p:Prop}(h:p:=by grind):p:=h
theorem G6{p:Prop}(h:p:=by trivial):p:=h
theorem uc{p:Prop}(h:p:=by repeat (first|exact List.Mem.head _|refine List.Mem.tail _ ?_)):p:=h
theorem O{α:Sort _}{a:α}:a=a:=rfl
def aX:List Nat:=[0,1,2,3]
def bL:List Nat:=[0,1,2,3,4,5,6,7]
def ct:List Nat:=[0,1,2,3,4]
def cy:List Nat:=[0,1,2,3,4,5,6,7,8]
def jF:List Nat:=[0,1,2,3,4,5,6]
def jG:List Nat:=[0,1,2,3,4,5,6,9,10,11]
def jX:List Nat:=[1,2,3,4,5,6,7,8,9,11]
def lT:List Nat:=[4,5,6,7,8,9,10]
def mH:List Nat:=[0,1,2,3,4,5]
def nz:List Nat:=[0,1,2,3,4,5,6,7,8,10]
def j1:List Nat:=[0,1,2,3,4,5,6,7,8,9]
def j2:List Nat:=[5,15,17,18]
def ly:List Nat:=[1,2,3,4,5,6,7,8,9]
def mL:List Nat:=[3,4,5,6,7,8]
def mM:List Nat:=[1,2,3,4,5,6,7,8,9,10]
def pj:List Nat:=[0,1,2,3,4,5,6,7,8,13,14]
def pn:List Nat:=[2,3,4,6]
def po:List Nat:=[2,3,4,5,7]
def pq:List Nat:=[2,3,4,5,6,7,9]
def vj:List Nat:=[0,1,2,3,4,5,6,7,8,9,10,11,12,13,14]
def rC:List Nat:=[0,1,2,3,4,5,6,7,8,10,11]
def rD:List Nat:=[0,1,2,3,5]
def rF:List Nat:=[4,5,6,7,8,9]
def sI:List Nat:=[1,2,3,4,5,6,7,8]
def sJ:List Nat:=[0,1,2,3,4,5,6,7,8,9,10]
def sK:List Nat:=[1,2,3,4,6]
def sL:List Nat:=[1,2,3,4,6,7,9,10]
def sM:List Nat:=[1,2,3,5,7,8,9]
def sN:List Nat:=[1,2,3,6,7,8,9]
def sO:List Nat:=[2,4,5,6]
def sP:List Nat:=[2,3,5,6,7]
def sQ:List Nat:=[4,5,6,7,8,9,10,11,12,13,14,15,16,17,18,19,20,21,22,23,24,25,26]
def vk:List Nat:=[1,2,3,4,5]
def vm:List Nat:=[5,6,7,8,9,10,11]
def wV:List Nat:=[1,2,3,4,5,6,7]
def zW:List Nat:=[2,3,4,5,6,7,8,9]
def zX:List Nat:=[0,2,3,4,5]
def Db:List Nat:=[0,1,2,3,4,5,6,7,8,9,10,11,12,13,14,15,16,17,18]
def Dc:List Nat:=[1,2,3,4,5,6]
def Dd:List Nat:=[0,1,2,3,6,7,8]
def De:List Nat:=[0,1,2,5,6,7]
def Df:List Nat:=[0,1,2,4,5,6,7,8]
def Dh:List Nat:=[0,1,2,3,4,5,6,7,8,9,10,11,12,13]
def G7:List Nat:=[5,4,3,2,1,0,6,7]
def G8:List Nat:=[1,2,3,4,5,6,7,9]
def Kr:List Nat:=[8,9,10,11,12,13,14,15,16,17,18,19,20,21,22,23,24,25,26,27,28,29,30,31,32,33,34,35]
def Ks:List Nat:=[8,9,10,11,12,13,14,15,16,17,18,19,20,21,22,23,24,25,26,27,28,29,30,31,32,33,34,35,36,37,38,39]
def Kt:List Nat:=[8,9,10,11,12,13,14,15,16,17,18,19,20,21,22,23,24,25,26,27,28,29,30,31,32,33,34,35,36,37,38,39,40,41,42,43,44]
theorem Ext.below {w w':World}(h:Ext w w'):Below w.heap.size w w':=h
theorem Ext.mk {w w':World}(h:Below w.heap.size w w'):Ext w w':=h
attribute [irreducible] Ext
theorem Ext.refl (w:World):Ext w w:=Ext.mk (Below.refl _ _)
theorem Ext.size {w w':World}(h:Ext w w'):w.heap.size<=w'.heap.size:=h.below.size
theorem Ext.Tz {w w':World}(h:Ext w w'){a:Addr}(hb:a.block<w.heap.size):w'.cell? a=w.cell? a:=h.below.cell hb
theorem Ext.Ku {w w':World}(h:Ext w w'){a:Addr}{v:Value}(hv:w.cell? a=some v):w'.cell? a=some v:=(h.Tz (World.block_lt_of_cell? w a hv)).trans hv
theorem Ext.heap {w w':World}(h:Ext w w'){k:Nat}(hk:k<w.heap.size):w'.heap[k]? = w.heap[k]?:=h.below.block k hk
class Enc (α:Type) where
  k:Nat
  cells:α->List Value
  len:∀x,(cells x).length=k
  one:∀x,∀u∈cells x,u.oneCell'=true
  pos:0<k
instance:Enc Int:=⟨1,fun n=>[.int .i64 n],fun _=>rfl,fun _ u hu=>by simp at hu;subst hu;rfl,by decide⟩
instance:Enc ByteArray:=⟨1,fun s=>[.string s],fun _=>rfl,fun _ u hu=>by simp at hu;subst hu;rfl,by decide⟩
theorem flat_get {α:Type}[Enc α]:∀ (l:List α) (i:Nat) (x:α) (j:Nat) (u:Value),l[i]? = some x->(Enc.cells x)[j]? = some u->(l.flatMap Enc.cells)[i*Enc.k α+j]? = some u
 | [],i,x,j,u,h,_=>by simp at h
 | y::l,0,x,j,u,h,hj=>by
  simp at h;subst h
  have hl:j<(Enc.cells y).length:=(List.getElem?_eq_some_iff.1 hj).1
  simp only [List.flatMap_cons,Nat.zero_mul,Nat.zero_add]
  rw [List.getElem?_append_left hl];exact hj
 | y::l,i+1,x,j,u,h,hj=>by
  have h':l[i]? = some x:=by simpa using h
  have ih:=flat_get l i x j u h' hj
  simp only [List.flatMap_cons]
  rw [List.getElem?_append_right (by rw [Enc.len,Nat.add_mul];omega),Enc.len,<- ih]
  congr 1
  rw [Nat.add_mul];omega
theorem dL {α:Type}[Enc α](l:List α):(l.flatMap Enc.cells).length=l.length*Enc.k α:=by
 induction l with
 | nil=>simp
 | cons y l ih=>grind [List.length_append,Enc.len,List.length_cons,Nat.add_mul]
theorem kK {α:Type}[Enc α](l:List α):∀u∈l.flatMap Enc.cells,u.oneCell'=true:=by
 grind [Enc.one]
def Sl {α:Type}[Enc α](w:World)(v:Value)(l:List α):Prop :=
  ∃A c,v = .slice A l.length c/\l.length<=c/\c<=maxLen /\
    ∀i x,l[i]? = some x -> ∃b off,A=some ⟨b,off,none⟩/\b<w.heap.size /\ ∀j u,(Enc.cells x)[j]? = some u->w.cell? ⟨b,off+i*Enc.k α+j,none⟩=some u
section
variable {α:Type} [Enc α] {w w':World} {v:Value} {l:List α}
theorem Sl.ext (h:Sl w v l)(e:Ext w w'):Sl w' v l:=by
 obtain ⟨A,c,hv,h1,h2,h3⟩:=h
 refine ⟨A,c,hv,h1,h2,fun i x hx=>?_⟩
 obtain ⟨b,off,hA,hb,hc⟩:=h3 i x hx
 exact ⟨b,off,hA,Nat.lt_of_lt_of_le hb e.size,fun j u hu=>e.Ku (hc j u hu)⟩
theorem Sl.nil (w:World):Sl w (.slice none 0 0) ([]:List α):=⟨none,0,rfl,bC,bC,fun i x h=>by grind⟩
theorem Sl.take {A:Option Addr}{n c:Nat}(h:Sl w (.slice A n c) l){k:Nat}(hk:k<=l.length):Sl w (.slice A k c) (l.take k):=by
 obtain ⟨A',c',hv,h1,h2,h3⟩:=h
 simp only [Value.slice.injEq] at hv
 obtain ⟨rfl,rfl,rfl⟩:=hv
 have hl:(l.take k).length=k:=au
 refine ⟨A,c,by rw [hl],ae,h2,fun i x hx=>h3 i x ?_⟩
 grind
end
def Own {α:Type}[Enc α](base:Nat)(e:TypeId)(w:World)(v:Value)(l:List α):Prop:=w.ownsRow base e (Enc.k α) v l.length (l.flatMap Enc.cells)
section
variable {α:Type} [Enc α] {base:Nat} {e:TypeId} {w w':World} {v:Value} {l:List α}
theorem Own.nil (base:Nat)(e:TypeId)(w:World):Own base e w (.slice none 0 0) ([]:List α):=World.ownsRow_nil w base e _
theorem Own.sl (h:Own base e w v l):Sl w v l:=by
 have hl:=h.lt
 have hcl:=fun g hg=>h.cells (g:=g) hg
 unfold Own at h
 rcases h.2 with ⟨rfl,h0⟩ | ⟨g,cap,cur,rfl,hb,hg,hnc,hcm,hcs,htake⟩
 .grind [List.eq_nil_of_length_eq_zero,Sl.nil]
 refine ⟨_,cap,rfl,hnc,hcm,fun i x hx=>⟨g,0,rfl,(hl g rfl).2,fun j u hu=>?_⟩⟩
 have:=hcl g rfl (i*Enc.k α+j) u (flat_get l i x j u hx hu)
 grind [Enc.k,Addr.add]
theorem Own.lower {b2:Nat}(h:Own base e w v l)(hb:b2<=base):Own b2 e w v l:=by
 refine ⟨h.1,?_⟩
 rcases h.2 with h|⟨g,cap,cur,hv,hg,r⟩
 .grind
 exact .inr ⟨g,cap,cur,hv,Nat.le_trans hb hg,r⟩
theorem Own.lt (h:Own base e w v l):∀k,v.ownBlock=some k->base<=k/\k<w.heap.size:=World.ownsRow.lt h
end
section
variable {α:Type} [Enc α] {P:Program} {ops:Array Oper} {rest:List Oper} {o:Oper} {a:Act} {Q:Exit->Act->World->Prop}
end
end
section
open Go.RowKit
structure ak where
  ID:Int
  av:Int
  Rights:Int
  aO:Int
  From:Int
  deriving DecidableEq
abbrev rQ (x:ak):List Value:=[.int .i64 x.ID,.int .i64 x.av,.int .i64 x.Rights,.int .i64 x.aO,.int .i64 x.From]
structure Place where
  aB:Int
  Slot:Int
  deriving DecidableEq
abbrev mN (x:Place):List Value:=[.int .i64 x.aB,.int .i64 x.Slot]
structure Held where
  Place:Place
  ak:Int
  deriving DecidableEq
abbrev Wo (x:Held):List Value:=[.int .i64 x.Place.aB,.int .i64 x.Place.Slot,.int .i64 x.ak]
structure av where
  ID:Int
  Kind:Int
  Data:ByteArray
  deriving DecidableEq
abbrev V6 (x:av):List Value:=[.int .i64 x.ID,.int .i64 x.Kind,.string x.Data]
structure Note where
  Port:Int
  Data:ByteArray
  aO:Int
  ak:Int
  deriving DecidableEq
abbrev Wp (x:Note):List Value:=[.int .i64 x.Port,.string x.Data,.int .i64 x.aO,.int .i64 x.ak]
structure Change where
  Key:ByteArray
  Val:ByteArray
  Gone:Bool
  deriving DecidableEq
abbrev Kv (x:Change):List Value:=[.string x.Key,.string x.Val,.bool x.Gone]
structure aA where
  aj:List ak
  Things:List av
  Held:List Held
  Notes:List Note
  ag:Int
  ai:Int
  deriving DecidableEq
abbrev ak.cs (x:ak):List Value:=[.int .i64 x.ID,.int .i64 x.av,.int .i64 x.Rights,.int .i64 x.aO,.int .i64 x.From]
abbrev ak.val (x:ak):Value:= .agg #[.int .i64 x.ID,.int .i64 x.av,.int .i64 x.Rights,.int .i64 x.aO,.int .i64 x.From]
abbrev Place.val (x:Place):Value:= .agg #[.int .i64 x.aB,.int .i64 x.Slot]
abbrev Held.cs (x:Held):List Value:=[.int .i64 x.Place.aB,.int .i64 x.Place.Slot,.int .i64 x.ak]
abbrev Held.val (x:Held):Value:= .agg #[.int .i64 x.Place.aB,.int .i64 x.Place.Slot,.int .i64 x.ak]
abbrev av.cs (x:av):List Value:=[.int .i64 x.ID,.int .i64 x.Kind,.string x.Data]
abbrev av.val (x:av):Value:= .agg #[.int .i64 x.ID,.int .i64 x.Kind,.string x.Data]
abbrev Note.cs (x:Note):List Value:=[.int .i64 x.Port,.string x.Data,.int .i64 x.aO,.int .i64 x.ak]
abbrev Note.val (x:Note):Value:= .agg #[.int .i64 x.Port,.string x.Data,.int .i64 x.aO,.int .i64 x.ak]
abbrev Change.cs (x:Change):List Value:=[.string x.Key,.string x.Val,.bool x.Gone]
abbrev Change.val (x:Change):Value:= .agg #[.string x.Key,.string x.Val,.bool x.Gone]
instance:Enc ak:=⟨5,ak.cs,fun _=>rfl,fun x u hu=>by simp [ak.cs] at hu;rcases hu with rfl|rfl|rfl|rfl|rfl <;> rfl,by decide⟩
instance:Enc Held:=⟨3,Held.cs,fun _=>rfl,fun x u hu=>by simp [Held.cs] at hu;rcases hu with rfl|rfl|rfl <;> rfl,by decide⟩
instance:Enc av:=⟨3,av.cs,fun _=>rfl,fun x u hu=>by simp [av.cs] at hu;rcases hu with rfl|rfl|rfl <;> rfl,by decide⟩
instance:Enc Note:=⟨4,Note.cs,fun _=>rfl,fun x u hu=>by simp [Note.cs] at hu;rcases hu with rfl|rfl|rfl|rfl <;> rfl,by decide⟩
instance:Enc Change:=⟨3,Change.cs,fun _=>rfl,fun x u hu=>by simp [Change.cs] at hu;rcases hu with rfl|rfl|rfl <;> rfl,by decide⟩
def bN (n:Int):Value:=if n=0 then .nilIface else .iface 95 (.int .i64 n)
abbrev iV (n:Int):Value:= .int .i64 n
abbrev nS:Value:= .slice none 0 0
abbrev pV (b:Nat):Value:= .pointer (some ⟨b,0,none⟩)
abbrev sR:List Value:=[.slice none 0 0,.slice none 0 0,.slice none 0 0,.slice none 0 0,.int .i64 0,.int .i64 0]
abbrev Wq:List Value:=[.int .i64 0,.int .i64 0,.int .i64 0,.int .i64 0,.int .i64 0]
abbrev Yo:List Value:=[.int .i64 0,.int .i64 0,.int .i64 0]
theorem sS {n:Int}(h:n≠0):bN n = .iface 95 (.int .i64 n):=by simp_all [bN,if_neg]
end
section
open Go.ChangeShapes Go.WideShapes Go.ChangeAt Go.RowKit Go.Deep
def G9 (n:Int):Prop:= -9223372036854775808<=n/\n<=9223372036854775807
theorem IL {n:Int}(h:(Lit.int .i64 n).wf=true):G9 n:=by
 have:=bounds_i64 h;unfold G9;omega
theorem vo {α:Type}(p:Nat->α->Prop):∀ (n:Nat),(∀i,i<n -> ∃x,p i x) -> ∃l:List α,l.length=n /\ ∀i x,l[i]? = some x->p i x
 | 0,_=>⟨[],rfl,fun i x h=>by simp at h⟩
 | n+1,h=>by
  obtain ⟨l,hl,hp⟩:=vo p n (fun i hi=>h i ae)
  obtain ⟨y,hy⟩:=h n ae
  refine ⟨l++[y],by simp [hl],fun i x hx=>?_⟩
  rcases Nat.lt_or_ge i l.length with hi|hi
  .rw [List.getElem?_append_left hi] at hx;exact hp i x hx
  rw [List.getElem?_append_right hi] at hx
  have:i=n:=by
   have h1:i-l.length<1:=by have:=(List.getElem?_eq_some_iff.1 hx).1;simpa using this
   omega
  subst this
  rw [hl] at hx
  simp at hx;subst hx;exact hy
section
variable {H:Type} {enc:TypeId×Value->H} {P:Program} {w:World} {base:Nat} {spare:Nat->Bool} {held:Bool}
theorem open_list {α:Type}[Enc α]{t e:TypeId}{fuel:Nat}{v:Value}{x:DataW H×List MemPlace}(ht:P.underlying t=some (.slice e))(hC:P.cellsOf e=Enc.k α)(good:α->Prop)
 (hel:∀ (m:Nat) (cs:List Value) (y:DataW H×List MemPlace),cs.length=Enc.k α->DataW.trod enc P w base spare held m e cs=some y -> ∃z:α,cs=Enc.cells z/\good z)
 (h:DataW.trod enc P w base spare held fuel t [v]=some x):∃l:List α,Sl w v l /\ ∀z∈l,good z:=by
 rcases open_slice ht h with ⟨hcs,_⟩ | ⟨a,len,cap,m,n,D,Pl,hcs,hb,hl,hm,hmm,hx,hi⟩
 .
  injection hcs with h1 _
  subst h1
  exact ⟨[],Sl.nil w,fun z hz=>by simp at hz⟩
 injection hcs with h1 _
 subst h1
 have hlm:len<=m:=by rw [hmm];split <;> omega
 obtain ⟨l,hlen,hp⟩:=vo (fun i (z:α)=>good z /\ ∀j u,(Enc.cells z)[j]? = some u->w.cell? (a.add (i*Enc.k α+j))=some u) len (fun i hil=>by
  obtain ⟨cs',hc,htr⟩:=hi i ae
  rw [hC] at hc
  obtain ⟨_,hcl,hat⟩:=World.cells?_some hc
  obtain ⟨z,hz,hg⟩:=hel n cs' _ hcl htr
  refine ⟨z,hg,fun j u hu=>?_⟩
  subst hz
  have hj:j<Enc.k α:=by rw [<- hcl];exact (List.getElem?_eq_some_iff.1 hu).1
  have:=hat j hj
  rw [add_add] at this
  rw [this];exact hu)
 have hpos:0<Enc.k α:=Enc.pos
 refine ⟨l,⟨some a,cap,by rw [hlen],ae,hm,fun i z hz=>?_⟩,fun z hz=>?_⟩
 .
  obtain ⟨hg,hc⟩:=hp i z hz
  have hnil:0<(Enc.cells z).length:=by rw [Enc.len];exact hpos
  have h0:∃u,(l[0]?.map Enc.cells).bind (·[0]?)=some u:=by
   have h0l:0<l.length:=Nat.lt_of_le_of_lt (Nat.zero_le i) (List.getElem?_eq_some_iff.1 hz).1
   have:0<(Enc.cells l[0]).length:=by rw [Enc.len];exact hpos
   exact ⟨(Enc.cells l[0])[0],by simp [List.getElem?_eq_getElem h0l,List.getElem?_eq_getElem this]⟩
  have hspot:a.spot=none:=by
   have h0l:0<l.length:=Nat.lt_of_le_of_lt (Nat.zero_le i) (List.getElem?_eq_some_iff.1 hz).1
   have Yp:0<(Enc.cells l[0]).length:=by rw [Enc.len];exact hpos
   have hc0:=(hp 0 l[0] (List.getElem?_eq_getElem h0l)).2 0 (Enc.cells l[0])[0] (List.getElem?_eq_getElem Yp)
   simp only [Nat.zero_mul,Nat.zero_add,Addr.add,if_true] at hc0
   unfold World.cell? at hc0
   split at hc0
   .
    split at hc0
    .cases hc0
    rename_i hs;simpa using hs
   cases hc0
  obtain ⟨b,off,sp⟩:=a
  simp only [] at hspot
  subst hspot
  have hadd:∀n,(⟨b,off,none⟩:Addr).add n=⟨b,off+n,none⟩:=fun n=>by unfold Addr.add;split <;> simp_all
  refine ⟨b,off,rfl,?_,fun j u hu=>?_⟩
  .
   have hh:=hc 0 (Enc.cells z)[0] (List.getElem?_eq_getElem hnil)
   rw [hadd] at hh
   exact World.block_lt_of_cell? w _ hh
  have hh:=hc j u hu
  rw [hadd,<- Nat.add_assoc] at hh
  exact hh
 obtain ⟨i,hi⟩:=List.mem_iff_getElem?.1 hz
 exact (hp i z hi).1
theorem trodAll_back (hl:laidOutB P=true){W W':World}(hb:Below W.heap.size W W'):∀ {ts:List TypeId} {vs:List Value} {ds:List (DataW H)} {ps:List MemPlace},
 (∀t∈ts,P.readableRec t=true/\t<P.types.size)->DataW.TrodAll enc P W 0 (fun _=>true) true ts vs ds ps ->
 DataW.TrodAll enc P W' 0 (fun b=>decide (b<W.heap.size)) true ts vs ds ps
 | [],vs,ds,ps,_,h=>by
  obtain ⟨rfl,rfl,rfl⟩:=trodAll_nil h
  exact trodAll_mk0
 | t::ts,vs,ds,ps,hr,h=>by
  obtain ⟨v,vs',d,ds',p,q,rfl,rfl,rfl,h0,h1⟩:=trodAll_cons h
  have hlt:∀x∈p,x.block<W.heap.size:=by obtain ⟨m,hm⟩:=h0;exact DataW.trod_lt m _ _ _ hm
  exact trodAll_cons_mk (Below.trod hl (hr t bC).1 (hr t bC).2 h0 hb hlt) (trodAll_back hl hb (fun t' ht'=>hr t' (by simp [ht'])) h1)
end
end
section
open Go.ChangeShapes Go.WideShapes Go.ChangeAt Go.RowKit Go.Deep
def ak.Fit (x:ak):Prop:=G9 x.ID/\G9 x.av/\G9 x.Rights/\G9 x.aO/\G9 x.From
section
variable {H:Type} {enc:TypeId×Value->H} {w:World} {base:Nat} {spare:Nat->Bool} {held:Bool}
theorem wW {m:Nat}{c:Value}{y:DataW H×List MemPlace}(h:DataW.trod enc Tryz.prog w base spare held m 3 [c]=some y):∃n,c = .int .i64 n/\G9 n:=by
 obtain ⟨n,hn,_,hw⟩:=DataW.trod_int Tryz.underlying3 h
 injection hn with hn _
 exact ⟨n,hn,IL hw⟩
theorem fL {P:Program}{fs:Array Field}{n:Nat}{cs:List Value}{xs:List (DataW H×List MemPlace)}
 (hf:∀ (i:Nat) (f:Field),fs[i]? = some f->DataW.trod enc P w base spare held n f.type ((cs.drop f.offset).take (P.cellsOf f.type))=xs[i]?)
 (i:Nat) (f:Field) (hi:fs[i]? = some f) (t o k:Nat) (ht:f.type=t) (ho:f.offset=o) (hk:P.cellsOf t=k):DataW.trod enc P w base spare held n t ((cs.drop o).take k)=xs[i]?:=by
 subst ht ho hk;exact hf i f hi
theorem pJ:Tryz.prog.cellsOf 3=1:=ao
end
end
section
open Go.ChangeShapes Go.WideShapes Go.ChangeAt Go.RowKit Go.Deep
def Place.Fit (x:Place):Prop:=G9 x.aB/\G9 x.Slot
def Held.Fit (x:Held):Prop:=x.Place.Fit/\G9 x.ak
section
variable {H:Type} {enc:TypeId×Value->H} {w:World} {base:Nat} {spare:Nat->Bool} {held:Bool}
theorem wX:Tryz.prog.cellsOf 32=2:=ao
theorem Di {m:Nat}{cs:List Value}{y:DataW H×List MemPlace}(hl:cs.length=2)(h:DataW.trod enc Tryz.prog w base spare held m 32 cs=some y):∃z:Place,cs=[.int .i64 z.aB,.int .i64 z.Slot]/\z.Fit:=by
 match cs,hl with
 | [c0,c1],_ =>
  obtain ⟨xs,n,_,_,_,hlen,hf⟩:=DataW.trod_struct Tryz.underlying32 h
  match xs,hlen with
  | [y0,y1],_ =>
   have g0:=fL hf 0 _ rfl 3 0 1 rfl rfl pJ;have g1:=fL hf 1 _ rfl 3 1 1 rfl rfl pJ
   obtain ⟨n0,rfl,w0⟩:=wW (c:=c0) (by simpa using g0)
   obtain ⟨n1,rfl,w1⟩:=wW (c:=c1) (by simpa using g1)
   exact ⟨⟨n0,n1⟩,rfl,w0,w1⟩
end
end
section
open Go Go.RowKit
abbrev Fm:=List (Nat×Value)
def lk:Fm->Nat->Option Value
  | [],_=>none
  | (j,v)::L,i=>bif Nat.beq j i then some v else lk L i
def ev (L:Fm):Operand->Option Value
  | .tmp t=>lk L t
  | .const v=>some v
  | .global g=>some (.pointer (some ⟨g,0,none⟩))
  | .func f=>some (.func (.func f) #[] #[])
def evs (L:Fm):List Operand->Option (List Value)
  | []=>some []
  | x::xs=>match ev L x,evs L xs with
    | some v,some vs=>some (v::vs)
    | _,_=>none
def Bi:Fm->Fm->Prop
  | [],_=>True
  | p::L',L=>lk L p.1=some p.2/\Bi L' L
theorem gE {α:Type}(l:List α)(i:Nat)(h:i<l.length:=by omega):∃z,l[i]? = some z:=⟨_,List.getElem?_eq_getElem h⟩
def XS (L:Fm):Fm->List (Option Value)
  | []=>[]
  | p::r=>lk L p.1::XS L r
def XT:Fm->List (Option Value)
  | []=>[]
  | p::r=>some p.2::XT r
theorem sF:∀ {L' L:Fm},XS L L'=XT L'->Bi L' L
 | [],_,_=>trivial
 | p::r,L,h=>by
  injection h with h1 h2
  exact ⟨h1,sF h2⟩
structure Fr (n:Nat)(L:Fm)(a:Act):Prop where
  size:a.tmps.size=n
  defers:a.defers=[]
  get:∀i v,lk L i=some v->a.tmps[i]? = some v
theorem Fr.ev {n:Nat}{L:Fm}{a:Act}(h:Fr n L a){x:Operand}{v:Value}(hx:ev L x=some v):a.eval x=v:=by
 cases x with
 | tmp t=>have:=h.get t v hx;simp [Act.eval,this]
 | const u=>simpa [YtnmpibjlnninjaaGreatDoor.ev,Act.eval] using hx
 | global g=>simpa [YtnmpibjlnninjaaGreatDoor.ev,Act.eval] using hx
 | func f=>simpa [YtnmpibjlnninjaaGreatDoor.ev,Act.eval] using hx
theorem Fr.evs {n:Nat}{L:Fm}{a:Act}(h:Fr n L a):∀ {xs:List Operand} {vs:List Value},evs L xs=some vs->xs.map a.eval=vs
 | [],vs,hx=>by simp [YtnmpibjlnninjaaGreatDoor.evs] at hx;subst hx;rfl
 | x::xs,vs,hx=>by
  simp only [YtnmpibjlnninjaaGreatDoor.evs] at hx
  split at hx
  .
   rename_i v vs' h1 h2
   injection hx with hx;subst hx
   simp [h.ev h1,h.evs h2]
  grind
theorem Fr.put {n:Nat}{L:Fm}{a:Act}(h:Fr n L a)(d:Nat)(v:Value)(hd:Nat.blt d n=true):Fr n ((d,v)::L) (a.put (some d) v):=by
 have hd':d<a.tmps.size:=by rw [h.size];simp_all
 refine ⟨by simp [Act.put,h.size],by simp [Act.put,h.defers],fun i u hu=>?_⟩
 simp only [lk] at hu
 by_cases e:d=i
 .simp_all [Act.put]
 have e':Nat.beq d i=false:=Bool.eq_false_iff.2 (fun h=>e (Nat.eq_of_beq_eq_true h))
 rw [e'] at hu
 simp only [cond_false] at hu
 have:=h.get i u hu
 grind [Act.put]
theorem Fr.sub {n:Nat}{L:Fm}{a:Act}(h:Fr n L a):∀ {L':Fm},Bi L' L->Fr n L' a
 | [],_=>⟨h.size,h.defers,fun i v hv=>by cases hv⟩
 | (j,u)::L',hs=>by
  have ih:=h.sub (L':=L') hs.2
  refine ⟨h.size,h.defers,fun i v hv=>?_⟩
  simp only [lk] at hv
  by_cases e:j=i
  .
   subst e
   simp at hv;subst hv
   exact h.get _ _ hs.1
  have e':Nat.beq j i=false:=Bool.eq_false_iff.2 (fun h=>e (Nat.eq_of_beq_eq_true h))
  rw [e'] at hv
  exact ih.get i v hv
structure lL (X:List Nat)(w w':World):Prop where
  os:w'.os=w.os
  tape:w'.tape=w.tape
  output:w'.output=w.output
  size:w.heap.size<=w'.heap.size
  block:∀k,k<w.heap.size->k∉X->w'.heap[k]? = w.heap[k]?
theorem lL.refl (X:List Nat)(w:World):lL X w w:=⟨rfl,rfl,rfl,Nat.le_refl _,fun _ _ _=>rfl⟩
theorem lL.trans {X:List Nat}{a b c:World}(h:lL X a b)(k:lL X b c):lL X a c :=
 ⟨k.os.trans h.os,k.tape.trans h.tape,k.output.trans h.output,Nat.le_trans h.size k.size,fun i hi hx=>(k.block i (Nat.lt_of_lt_of_le hi h.size) hx).trans (h.block i hi hx)⟩
theorem lL.ext {w w':World}(h:lL [] w w'):Ext w w':=Ext.mk ⟨h.os,h.tape,h.output,h.size,fun k hk=>h.block k hk bC⟩
theorem Ext.upd {w w':World}(h:Ext w w'):lL [] w w':=⟨h.below.os,h.below.tape,h.below.output,h.size,fun k hk _=>h.heap hk⟩
theorem lL.mono {X Y:List Nat}{w w':World}(h:lL X w w')(hs:∀k∈X,k<w.heap.size->k∈Y):lL Y w w' :=
 ⟨h.os,h.tape,h.output,h.size,fun k hk hy=>h.block k hk (fun hx=>hy (hs k hx hk))⟩
structure ah where
  blk:List Nat
  ok:World->Prop
  loc:∀w w':World,(∀k∈blk,w'.heap[k]? = w.heap[k]?)->ok w->ok w'
def blks:List ah->List Nat
  | []=>[]
  | r::B=>r.blk++blks B
theorem bD {k:Nat}:∀ {B:List ah},k∈blks B ↔ ∃r∈B,k∈r.blk
 | []=>by simp [blks]
 | r::B=>by simp [blks,bD]
structure Wd (we:World)(X:List Nat)(B F:List ah)(w:World):Prop where
  upd:lL X we w
  okB:∀r∈B,r.ok w
  okF:∀r∈F,r.ok w
  sep:(blks B).Nodup
  own:∀k∈blks B,k<w.heap.size/\(k<we.heap.size->k∈X)
  lU:∀k∈blks F,k<w.heap.size/\k∉blks B
section
variable {we w w':World} {X:List Nat} {B F:List ah}
theorem Wd.start (we:World)(X:List Nat):Wd we X [] [] we:=⟨lL.refl _ _,bC,bC,by simp [blks],by simp [blks],by simp [blks]⟩
theorem Wd.grow (h:Wd we X B F w)(e:lL [] w w'):Wd we X B F w' :=
 ⟨h.upd.trans (e.mono bC),
  fun r hr=>r.loc w w' (fun k hk=>e.block k (h.own k (bD.2 ⟨r,hr,hk⟩)).1 bC) (h.okB r hr),
  fun r hr=>r.loc w w' (fun k hk=>e.block k (h.lU k (bD.2 ⟨r,hr,hk⟩)).1 bC) (h.okF r hr),
  h.sep,fun k hk=>⟨Nat.lt_of_lt_of_le (h.own k hk).1 e.size,(h.own k hk).2⟩,fun k hk=>⟨Nat.lt_of_lt_of_le (h.lU k hk).1 e.size,(h.lU k hk).2⟩⟩
theorem Wd.fact (h:Wd we X B F w){r:ah}(hr:r.ok w)(hd:∀k∈r.blk,k<w.heap.size/\k∉blks B):Wd we X B (r::F) w :=
 ⟨h.upd,h.okB,fun q hq=>(List.mem_cons.1 hq).elim (fun e=>e▸hr) (h.okF q),h.sep,h.own,
  fun k hk=>(List.mem_append.1 hk).elim (hd k) (h.lU k)⟩
theorem Wd.new (h:Wd we X B F w){r:ah}(hr:r.ok w)(hn:r.blk.Nodup)(hd:∀k∈r.blk,k<w.heap.size/\we.heap.size<=k/\k∉blks B/\k∉blks F):Wd we X (r::B) F w :=
 ⟨h.upd,fun q hq=>(List.mem_cons.1 hq).elim (fun e=>e▸hr) (h.okB q),h.okF,
  List.nodup_append.2 ⟨hn,h.sep,fun a ha b hb e=>(hd a ha).2.2.1 (e▸hb)⟩,
  fun k hk=>(List.mem_append.1 hk).elim (fun hk=>⟨(hd k hk).1,fun hlt=>absurd (hd k hk).2.1 ae⟩) (h.own k),
  fun k hk=>⟨(h.lU k hk).1,fun hb=>(List.mem_append.1 hb).elim (fun hb=>(hd k hb).2.2.2 hk) (h.lU k hk).2⟩⟩
theorem sT:∀ {B:List ah} {i:Nat} {r r':ah},B[i]? = some r -> ∀k,k∈blks (B.set i r')->k∈r'.blk∨k∈blks B
 | [],i,r,r',h,k,hk=>by simp at h
 | q::B,0,r,r',h,k,hk=>by
  simp only [List.set_cons_zero,blks,List.mem_append] at hk ⊢
  rcases hk with hk|hk
  .exact .inl hk
  exact .inr (.inr hk)
 | q::B,i+1,r,r',h,k,hk=>by
  simp only [List.set_cons_succ,blks,List.mem_append] at hk ⊢
  rcases hk with hk|hk
  .exact .inr (.inl hk)
  rcases sT (by simpa using h) k hk with h1|h1
  .exact .inl h1
  exact .inr (.inr h1)
theorem zY:∀ {B:List ah} {i:Nat} {r r':ah},B[i]? = some r->(blks B).Nodup->r'.blk.Nodup->(∀k∈r'.blk,k∈r.blk∨k∉blks B)->(blks (B.set i r')).Nodup
 | [],i,r,r',h,hn,hn',hd=>by simp at h
 | q::B,0,r,r',h,hn,hn',hd=>by
  simp at h;subst h
  simp only [List.set_cons_zero,blks] at hn hd ⊢
  obtain ⟨h1,h2,h3⟩:=List.nodup_append.1 hn
  refine List.nodup_append.2 ⟨hn',h2,fun a ha b hb e=>?_⟩
  subst e
  rcases hd a ha with h4|h4
  .exact h3 a h4 a hb rfl
  exact h4 (List.mem_append.2 (.inr hb))
 | q::B,i+1,r,r',h,hn,hn',hd=>by
  simp only [List.set_cons_succ,blks] at hn hd ⊢
  obtain ⟨h1,h2,h3⟩:=List.nodup_append.1 hn
  have h':B[i]? = some r:=by simpa using h
  have Td:∀k∈r.blk,k∈blks B:=fun k hk=>bD.2 ⟨r,List.mem_of_getElem? h',hk⟩
  refine List.nodup_append.2 ⟨h1,zY h' h2 hn' (fun k hk=>?_),fun a ha b hb e=>?_⟩
  .
   rcases hd k hk with h4|h4
   .exact .inl h4
   exact .inr (fun hb=>h4 (List.mem_append.2 (.inr hb)))
  subst e
  rcases sT h' a hb with h4|h4
  .
   rcases hd a h4 with h5|h5
   .exact h3 a ha a (Td a h5) rfl
   exact h5 (List.mem_append.2 (.inl ha))
  exact h3 a ha a h4 rfl
theorem ic:∀ {B:List ah} {i j:Nat} {r q:ah},B[i]? = some r->B[j]? = some q->i≠j->(blks B).Nodup -> ∀k∈r.blk,k∉q.blk
 | [],i,j,r,q,hi,hj,hne,hn,k,hk,hk'=>by grind
 | p::B,0,0,r,q,hi,hj,hne,hn,k,hk,hk'=>hne rfl
 | p::B,0,j+1,r,q,hi,hj,hne,hn,k,hk,hk'=>by
  simp at hi;subst hi
  exact (List.nodup_append.1 hn).2.2 k hk k (bD.2 ⟨q,List.mem_of_getElem? (by simpa using hj),hk'⟩) rfl
 | p::B,i+1,0,r,q,hi,hj,hne,hn,k,hk,hk'=>by
  simp at hj;subst hj
  exact (List.nodup_append.1 hn).2.2 k hk' k (bD.2 ⟨r,List.mem_of_getElem? (by simpa using hi),hk⟩) rfl
 | p::B,i+1,j+1,r,q,hi,hj,hne,hn,k,hk,hk' =>
  ic (B:=B) (by simpa using hi) (by simpa using hj) ae (List.nodup_append.1 hn).2.1 k hk hk'
theorem Wd.turn (h:Wd we X B F w){i:Nat}{r r':ah}(hi:B[i]? = some r)(e:lL r.blk w w')(hr:r'.ok w')(hn:r'.blk.Nodup)
 (hb:∀k∈r'.blk,k<w'.heap.size/\(k∈r.blk∨w.heap.size<=k)):Wd we X (B.set i r') F w':=by
 have hrm:r∈B:=List.mem_of_getElem? hi
 have Td:∀k∈r.blk,k∈blks B:=fun k hk=>bD.2 ⟨r,hrm,hk⟩
 have hsz:we.heap.size<=w.heap.size:=h.upd.size
 have hnew:∀k∈r'.blk,k∈r.blk∨(k∉blks B/\k∉blks F/\¬ k<we.heap.size):=fun k hk=>(hb k hk).2.elim .inl fun hge =>
  .inr ⟨fun hB=>by have:=(h.own k hB).1;omega,fun hF=>by have:=(h.lU k hF).1;omega,ae⟩
 refine ⟨⟨e.os.trans h.upd.os,e.tape.trans h.upd.tape,e.output.trans h.upd.output,Nat.le_trans h.upd.size e.size,fun k hk hx=>?_⟩,?_,?_,zY hi h.sep hn (fun k hk=>(hnew k hk).imp id (·.1)),fun k hk=>?_,fun k hk=>⟨Nat.lt_of_lt_of_le (h.lU k hk).1 e.size,fun hb'=>?_⟩⟩
 .rw [e.block k ae (fun hr=>hx ((h.own k (Td k hr)).2 hk)),h.upd.block k hk hx]
 .
  intro q hq
  obtain ⟨j,hj⟩:=List.mem_iff_getElem?.1 hq
  rw [List.getElem?_set] at hj
  split at hj
  .grind
  rename_i hne
  exact q.loc w w' (fun k hk=>e.block k (h.own k (bD.2 ⟨q,List.mem_of_getElem? hj,hk⟩)).1 (fun hkr=>ic hi hj hne h.sep k hkr hk)) (h.okB q (List.mem_of_getElem? hj))
 .
  intro q hq
  exact q.loc w w' (fun k hk=>e.block k (h.lU k (bD.2 ⟨q,hq,hk⟩)).1 (fun hkr=>(h.lU k (bD.2 ⟨q,hq,hk⟩)).2 (Td k hkr))) (h.okF q hq)
 .
  rcases sT hi k hk with h1|h1
  .
   rcases hnew k h1 with h2|h2
   .exact ⟨(hb k h1).1,(h.own k (Td k h2)).2⟩
   grind
  exact ⟨Nat.lt_of_lt_of_le (h.own k h1).1 e.size,(h.own k h1).2⟩
 rcases sT hi k hb' with h1|h1
 .
  rcases hnew k h1 with h2|h2
  .exact (h.lU k hk).2 (Td k h2)
  grind
 exact (h.lU k hk).2 h1
end
inductive It where
  | c (c:Code)
  | b (id:Nat)
  | back (I:Act->World->Prop)
def pH (P:Program)(Q:Exit->Act->World->Prop):List It->Exit->Act->World->Prop
  | [],e,a,w=>Q e a w
  | .c x::k,.normal,a,w=>x.wp P (pH P Q k) a w
  | .c _::k,e,a,w=>pH P Q k e a w
  | .b id::k,.exit id',a,w=>bif Nat.beq id' id then pH P Q k .normal a w else pH P Q k (.exit id') a w
  | .b _::k,e,a,w=>pH P Q k e a w
  | .back I::k,.normal,a,w=>I a w
  | .back _::k,e,a,w=>pH P Q k e a w
def j7 (id:Nat):List It->Option (List It)
  | .b id'::k=>bif Nat.beq id id' then some k else j7 id k
  | _::k=>j7 id k
  | []=>none
def norm:Nat->List It->List It
  | 0,k=>k
  | f+1,k=>match k with
    | .c (.seq x y)::k=>norm f (.c x :: .c y::k)
    | .c .skip::k=>norm f k
    | .c (.label _)::k=>norm f k
    | .c (.block id x)::k=>norm f (.c x :: .b id::k)
    | .b _::k=>norm f k
    | .c (.exit id)::k=>match j7 id k with
      | some k'=>norm f k'
      | none => .c (.exit id)::k
    | k=>k
section
variable {P:Program} {Q:Exit->Act->World->Prop}
theorem NH {x y:Code}{k:List It}{a:Act}{w:World}(h:pH P Q (.c x :: .c y::k) .normal a w):pH P Q (.c (.seq x y)::k) .normal a w :=
 wp_seq (wp_mono h (fun e a w q=>by cases e <;> exact q))
theorem IP {id:Nat}{x:Code}{k:List It}{a:Act}{w:World}(h:pH P Q (.c x :: .b id::k) .normal a w):pH P Q (.c (.block id x)::k) .normal a w :=
 wp_block (wp_mono h (fun e a w q=>by
  cases e with
  | exit id' =>
   simp only [pH] at q
   by_cases hid:id'=id
   .simp_all [Exit.inBlock]
   have e':Nat.beq id' id=false:=Bool.eq_false_iff.2 (fun h=>hid (Nat.eq_of_beq_eq_true h))
   grind [Exit.inBlock]
  | _=>exact q))
theorem sU {id:Nat}:∀ {k k':List It} {a:Act} {w:World},j7 id k=some k'->pH P Q k' .normal a w->pH P Q k (.exit id) a w
 | [],k',a,w,h,hq=>by simp [j7] at h
 | .c _::k,k',a,w,h,hq=>sU (k:=k) (by simpa [j7] using h) hq
 | .back _::k,k',a,w,h,hq=>sU (k:=k) (by simpa [j7] using h) hq
 | .b id'::k,k',a,w,h,hq=>by
  simp only [j7] at h
  simp only [pH]
  cases hb:Nat.beq id id' with
  | true=>rw [hb] at h;simp at h;subst h;exact hq
  | false=>rw [hb] at h;simp at h;exact sU h hq
theorem cO:∀ (f:Nat) {k:List It} {a:Act} {w:World},pH P Q (norm f k) .normal a w->pH P Q k .normal a w
 | 0,k,a,w,h=>h
 | f+1,k,a,w,h=>by
  unfold norm at h
  split at h
  .exact NH (cO f h)
  .exact wp_skip (cO f h)
  .exact wp_label (cO f h)
  .exact IP (cO f h)
  .
   have:=cO f h
   exact this
  .
   split at h
   .rename_i hx;exact wp_exit (sU hx (cO f h))
   exact h
  exact h
end
def Run (P:Program)(n:Nat)(we:World)(X:List Nat)(Q:Exit->Act->World->Prop)(k:List It)(L:Fm)(B F:List ah):Prop :=
  ∀a w,Fr n L a->Wd we X B F w->pH P Q k .normal a w
def Rg (P:Program)(n:Nat)(we:World)(X:List Nat)(Q:Exit->Act->World->Prop)(ops rest:List Oper)(k:List It)(L:Fm)(B F:List ah):Prop :=
  ∀a w,Fr n L a->Wd we X B F w->wpList P ops.toArray (pH P Q k) rest a w
section
variable {P:Program} {n:Nat} {we:World} {X:List Nat} {Q:Exit->Act->World->Prop} {k k':List It} {L:Fm} {B F:List ah} {ops rest:List Oper}
def Q0 (i:Nat):List Value->Fm
  | []=>[]
  | v::vs=>(i,v)::Q0 (i+1) vs
theorem wY:∀ (vs:List Value) (i j:Nat) (v:Value),lk (Q0 i vs) j=some v->i<=j/\vs[j-i]? = some v
 | [],i,j,v,h=>by cases h
 | u::vs,i,j,v,h=>by
  simp only [Q0,lk] at h
  by_cases e:i=j
  .simp_all
  have e':Nat.beq i j=false:=Bool.eq_false_iff.2 (fun h=>e (Nat.eq_of_beq_eq_true h))
  rw [e'] at h
  obtain ⟨h1,h2⟩:=wY vs (i+1) j v h
  grind
theorem R.enter {f:FuncId}{fn:Func}{c:Code}{vs:List Value}{w:World}{R:Ending->World->Prop}(X:List Nat)(L:Fm)(hf:P.funcs[f]? = some fn)(hb:fn.body=some c)(hn:fn.ntmps=n)
 (hle:Nat.ble vs.length n=true) (hL:Q0 0 vs=L) (h:Run P n w X (bodyPost P fn R) [.c c] L [] []):Calls P f vs.toArray w R:=by
 have hle':vs.length<=n:=Nat.le_of_ble_eq_true hle
 refine calls_of_wp hf hb<|wp_mono (h _ w ⟨?_,rfl,fun i v hv=>?_⟩ (Wd.start w X)) (fun e a w q=>by cases e <;> exact q)
 .simp [hn];omega
 rw [<- hL] at hv
 obtain ⟨h1,h2⟩:=wY vs 0 i v hv
 simp only [Nat.sub_zero] at h2
 have hi:i<vs.length:=(List.getElem?_eq_some_iff.1 h2).1
 show (vs.toArray++Array.replicate (fn.ntmps-vs.toArray.size) undef)[i]? = some v
 rw [Array.getElem?_append_left (by simpa using hi)]
 simpa using h2
theorem jK:∀ {k:List It} {a:Act} {w:World},Q .ret a w->pH P Q k .ret a w
 | [],a,w,h=>h
 | .c _::k,a,w,h=>jK (k:=k) h
 | .b _::k,a,w,h=>jK (k:=k) h
 | .back _::k,a,w,h=>jK (k:=k) h
theorem R.reg {id:Nat}(h:norm 200 k = .c (.region id ops.toArray false)::k')(hr:Rg P n we X Q ops ops k' L B F):Run P n we X Q k L B F :=
 fun a w ha hw=>cO 200 (h▸wp_region_lit (hr a w ha hw))
theorem R.nil (h:Run P n we X Q k L B F):Rg P n we X Q ops [] k L B F:=fun a w ha hw=>wpList_nil (h a w ha hw)
theorem R.nC {c:Operand}{x y:Code}(h:norm 200 k = .c (.cond c x y)::k')(hc:ev L c=some (.bool true))(hr:Run P n we X Q (.c x::k') L B F):Run P n we X Q k L B F :=
 fun a w ha hw=>cO 200 (h▸wp_cond_true (ha.ev hc) (hr a w ha hw))
theorem R.pK {c:Operand}{x y:Code}(h:norm 200 k = .c (.cond c x y)::k')(hc:ev L c=some (.bool false))(hr:Run P n we X Q (.c y::k') L B F):Run P n we X Q k L B F :=
 fun a w ha hw=>cO 200 (h▸wp_cond_false (ha.ev hc) (hr a w ha hw))
theorem R.cond {c:Operand}{x y:Code}{b:Bool}(h:norm 200 k = .c (.cond c x y)::k')(hc:ev L c=some (.bool b))(ht:b=true->Run P n we X Q (.c x::k') L B F)(hf:b=false->Run P n we X Q (.c y::k') L B F):Run P n we X Q k L B F:=by
 cases b
 .grind [R.pK]
 grind [R.nC]
section
variable {fn:Func} {R:Ending->World->Prop}
theorem R.TA {t:Nat}{v:Value}(h:norm 200 k = .c .ret::k')(hr:fn.results = #[.tmp t])(hv:lk L t=some v)(hR:∀w,Wd we X B F w->R (.returned v) w):Run P n we X (bodyPost P fn R) k L B F :=
 fun a w ha hw=>cO 200 (h▸wp_ret (jK (bodyPost_ret (by rw [results_tmp hr,Array.getD_eq_getD_getElem?,ha.get _ _ hv];rfl) ha.defers (hR w hw))))
theorem R.Wr {t u:Nat}{v v':Value}(h:norm 200 k = .c .ret::k')(hr:fn.results = #[.tmp t,.tmp u])(hv:lk L t=some v)(hv':lk L u=some v')(hR:∀w,Wd we X B F w->R (.returned (.tuple #[v,v'])) w):Run P n we X (bodyPost P fn R) k L B F :=
 fun a w ha hw=>cO 200 (h▸wp_ret (jK (bodyPost_ret (by rw [results_tmp2 hr,Array.getD_eq_getD_getElem?,Array.getD_eq_getD_getElem?,ha.get _ _ hv,ha.get _ _ hv'];rfl) ha.defers (hR w hw))))
theorem results_tmp3 {fn:Func}{t u x:Nat}(h:fn.results = #[.tmp t,.tmp u,.tmp x])(tmps:Array Value)(P:Program)(w:World) :
 (results fn tmps).run P w = .ok (.tuple #[tmps.getD t undef,tmps.getD u undef,tmps.getD x undef]) w:=by
 simp [results,h]
theorem R.Ws {t u x:Nat}{v v' v'':Value}(h:norm 200 k = .c .ret::k')(hr:fn.results = #[.tmp t,.tmp u,.tmp x])(hv:lk L t=some v)(hv':lk L u=some v')(Q5:lk L x=some v'')(hR:∀w,Wd we X B F w->R (.returned (.tuple #[v,v',v''])) w):Run P n we X (bodyPost P fn R) k L B F :=
 fun a w ha hw=>cO 200 (h▸wp_ret (jK (bodyPost_ret (by rw [results_tmp3 hr,Array.getD_eq_getD_getElem?,Array.getD_eq_getD_getElem?,Array.getD_eq_getD_getElem?,ha.get _ _ hv,ha.get _ _ hv',ha.get _ _ Q5];rfl) ha.defers (hR w hw))))
theorem R.Wt (h:norm 200 k=[])(hr:fn.results = #[])(hR:∀w,Wd we X B F w->R (.returned (.tuple #[])) w):Run P n we X (bodyPost P fn R) k L B F :=
 fun a w ha hw=>cO 200 (h▸bodyPost_end (results_none hr _ _ _) ha.defers (hR w hw))
theorem R.Wu (h:norm 200 k = .c .ret::k')(hr:fn.results = #[])(hR:∀w,Wd we X B F w->R (.returned (.tuple #[])) w):Run P n we X (bodyPost P fn R) k L B F :=
 fun a w ha hw=>cO 200 (h▸wp_ret (jK (bodyPost_ret (results_none hr _ _ _) ha.defers (hR w hw))))
end
def Hd {ι:Type}(n:Nat)(we:World)(X:List Nat)(LI:ι->Fm)(BI FI:ι->List ah)(PI:ι->Prop)(μ:ι->Nat)(m:Nat)(a:Act)(w:World):Prop :=
  ∃i,PI i/\μ i<m/\Fr n (LI i) a/\Wd we X (BI i) (FI i) w
theorem R.back {ι:Type}{LI:ι->Fm}{BI FI:ι->List ah}{PI:ι->Prop}{μ:ι->Nat}{m:Nat}(i:ι)(h:norm 200 k = .back (Hd n we X LI BI FI PI μ m)::k')(hP:PI i)(hm:μ i<m)(hL:Bi (LI i) L)(hB:∀w,Wd we X B F w->Wd we X (BI i) (FI i) w):Run P n we X Q k L B F :=
 fun a w ha hw=>cO 200 (by rw [h];exact ⟨i,hP,hm,ha.sub hL,hB w hw⟩)
theorem Dj {c:Code}{Q:Exit->Act->World->Prop}{a:Act}{w:World}(I:Nat->Act->World->Prop)(m:Nat)(h₀:I m a w)
 (round:∀m a w,I m a w->c.wp P (Exit.then (fun a' w' => ∃m',m'<m/\I m' a' w') Q) a w):(Code.loop c).wp P Q a w:=by
 intro b k cs
 have key:∀m a w,I m a w ->
  ∃e a' w',Q e a' w'/\Arrives P (lone (b.at a (.code c :: .inLoop c::k)) cs w) b k cs e a' w':=by
  intro m
  induction m using Nat.strongRecOn with
  | _ m ih =>
   intro a w hI
   obtain ⟨e,a₁,w₁,hq,harr⟩:=round m a w hI b (.inLoop c::k) cs
   cases e with
   | normal =>
    obtain ⟨m',hlt,hI₁⟩:=hq
    obtain ⟨e₂,a₂,w₂,hq₂,harr₂⟩:=ih m' hlt a₁ w₁ hI₁
    exact ⟨e₂,a₂,w₂,hq₂,.of_steps (Steps.trans harr (.one step_inLoop)) harr₂⟩
   | exit id=>exact ⟨_,a₁,w₁,hq,.pass (x:= .inLoop c) rfl (fun _ _ => .inl bC) harr⟩
   | goto l=>exact ⟨_,a₁,w₁,hq,.pass (x:= .inLoop c) rfl (fun _ _ => .inl bC) harr⟩
   | ret=>exact ⟨_,a₁,w₁,hq,.pass (x:= .inLoop c) rfl (fun _ _ => .inl bC) harr⟩
   | panic ch=>exact ⟨_,a₁,w₁,hq,.pass (x:= .inLoop c) rfl (fun _ _ => .inl bC) harr⟩
   | outgrown=>exact ⟨_,a₁,w₁,hq,.pass (x:= .inLoop c) rfl (fun _ _ => .inl bC) harr⟩
 obtain ⟨e,a',w',hq,harr⟩:=key m a w h₀
 exact ⟨e,a',w',hq,.of_steps (.one step_loop) harr⟩
theorem R.loop {ι:Type}(LI:ι->Fm)(BI FI:ι->List ah)(PI:ι->Prop)(μ:ι->Nat)(i:ι){c:Code}(h:norm 200 k = .c (.loop c)::k')(hP:PI i)(hL:Bi (LI i) L)(hB:∀w,Wd we X B F w->Wd we X (BI i) (FI i) w)
 (round:∀i,PI i->Run P n we X Q (.c c :: .back (Hd n we X LI BI FI PI μ (μ i))::k') (LI i) (BI i) (FI i)):Run P n we X Q k L B F:=by
 intro a w ha hw
 refine cO 200 (h ▸ ?_)
 refine Dj (fun m a w => ∃i,PI i/\μ i=m/\Fr n (LI i) a/\Wd we X (BI i) (FI i) w) (μ i) ⟨i,hP,rfl,ha.sub hL,hB w hw⟩ ?_
 rintro m a w ⟨i,hP,rfl,ha,hw⟩
 refine wp_mono (round i hP a w ha hw) (fun e a w q=>?_)
 cases e with
 | normal =>
  obtain ⟨j,h1,h2,h3,h4⟩:=q
  exact ⟨μ j,h2,j,h1,rfl,h3,h4⟩
 | _=>exact q
def Qt (P:Program)(n:Nat)(we:World)(X:List Nat)(L:Fm)(B F:List ah)(op:Op)(ty:TypeId)(v:Value):Prop :=
  ∀dst pos dr g a w,Fr n L a->Wd we X B F w->(execOp a.eval ⟨dst,op,ty,pos,dr,g⟩).run P w = .ok (.value v) w
def gd (ops:List Oper)(L:Fm):Option (Nat×Bool)->Option Bool
  | none=>some true
  | some (j,want)=>match ops[j]? with
    | some o=>match o.dst with
      | some d=>match lk L d with
        | some (.bool b)=>some (b==want)
        | some _=>some false
        | none=>none
      | none=>some false
    | none=>some false
theorem dR {o:Oper}{a:Act}{b:Bool}(ha:Fr n L a)(h:gd ops L o.guard=some b):Region.wanted o (yielded ops.toArray a.tmps)=b:=by
 unfold Region.wanted
 cases hg:o.guard with
 | none=>grind [gd]
 | some p =>
  obtain ⟨j,want⟩:=p
  rw [hg] at h
  simp only [gd] at h
  simp only [yielded,List.getElem?_toArray]
  cases ho:ops[j]? with
  | none=>grind
  | some o =>
   rw [ho] at h
   cases hd:o.dst with
   | none=>grind
   | some d =>
    simp only [hd] at h
    cases hl:lk L d with
    | none=>grind
    | some v =>
     rw [hl] at h
     have:=ha.get d v hl
     simp only [Option.bind_some,hd,this]
     cases v <;> simp_all
variable {dst:Option Nat} {d:Nat} {op:Op} {ty:TypeId} {pos:String} {dr:Array Edge} {g:Option (Nat×Bool)} {g':Nat×Bool} {v:Value}
theorem R.q (hq:Qt P n we X L B F op ty v)(hd:Nat.blt d n=true)(h:Rg P n we X Q ops rest k ((d,v)::L) B F):Rg P n we X Q ops (⟨some d,op,ty,pos,dr,none⟩::rest) k L B F:=by
 intro a w ha hw
 refine wpList_plain rfl fun K hK=>?_
 unfold Oper.wp
 rw [hq _ _ _ _ a w ha hw,Oper.upon_value]
 exact hK _ _ (h _ w (ha.put d v hd) hw)
theorem R.qg (hg:gd ops L (some g')=some true)(hq:Qt P n we X L B F op ty v)(hd:Nat.blt d n=true)(h:Rg P n we X Q ops rest k ((d,v)::L) B F):Rg P n we X Q ops (⟨some d,op,ty,pos,dr,some g'⟩::rest) k L B F:=by
 intro a w ha hw
 refine wpList_step fun K hK=>?_
 rw [if_pos (dR (o:=⟨some d,op,ty,pos,dr,some g'⟩) ha hg)]
 unfold Oper.wp
 rw [hq _ _ _ _ a w ha hw,Oper.upon_value]
 exact hK _ _ (h _ w (ha.put d v hd) hw)
theorem addr_add (b o m:Nat):(⟨b,o,none⟩:Addr).add m=⟨b,o+m,none⟩:=Addr.add_lit b o m
section
variable {x y:Operand} {xT yT:TypeId} {m l:Int} {kd:IntKind}
theorem q.mv (hx:ev L x=some v):Qt P n we X L B F (.move x) ty v:=fun _ _ _ _ a w ha hw=>by simp [execOp,ha.ev hx]
theorem q.as (hx:ev L x=some v):Qt P n we X L B F (.assign x) ty v:=fun _ _ _ _ a w ha hw=>by simp [execOp,ha.ev hx]
theorem q.Kw {c:Operand}(hc:ev L c=some (.bool true))(hx:ev L x=some v):Qt P n we X L B F (.pick c x y) ty v:=fun _ _ _ _ a w ha hw=>by simp [execOp,ha.ev hx,ha.ev hc,asBool]
theorem q.Kx {c:Operand}(hc:ev L c=some (.bool false))(hy:ev L y=some v):Qt P n we X L B F (.pick c x y) ty v:=fun _ _ _ _ a w ha hw=>by simp [execOp,ha.ev hy,ha.ev hc,asBool]
theorem q.add {r:Int}(hx:ev L x=some (.int kd m))(hy:ev L y=some (.int kd l))(hr:kd.wrap (m+l)=r):Qt P n we X L B F (.binOp .add xT x y yT) ty (.int kd r):=fun _ _ _ _ a w ha hw=>by
 simp [execOp,ha.ev hx,ha.ev hy,binOp,Op.intArith,eqGuard,hr]
theorem q.sub {r:Int}(hx:ev L x=some (.int kd m))(hy:ev L y=some (.int kd l))(hr:kd.wrap (m-l)=r):Qt P n we X L B F (.binOp .sub xT x y yT) ty (.int kd r):=fun _ _ _ _ a w ha hw=>by
 simp [execOp,ha.ev hx,ha.ev hy,binOp,Op.intArith,eqGuard,hr]
theorem q.mul {r:Int}(hx:ev L x=some (.int kd m))(hy:ev L y=some (.int kd l))(hr:kd.wrap (m*l)=r):Qt P n we X L B F (.binOp .mul xT x y yT) ty (.int kd r):=fun _ _ _ _ a w ha hw=>by
 simp [execOp,ha.ev hx,ha.ev hy,binOp,Op.intArith,eqGuard,hr]
theorem q.eql {b:Bool}(hx:ev L x=some (.int kd m))(hy:ev L y=some (.int kd l))(hb:(m==l)=b):Qt P n we X L B F (.binOp .eql xT x y yT) ty (.bool b):=fun _ _ _ _ a w ha hw=>by
 simp only [execOp,ha.ev hx,ha.ev hy,eqGuard_at_int,binOp_eql,hb];rfl
theorem q.neq {b:Bool}(hx:ev L x=some (.int kd m))(hy:ev L y=some (.int kd l))(hb:(m != l)=b):Qt P n we X L B F (.binOp .neq xT x y yT) ty (.bool b):=fun _ _ _ _ a w ha hw=>by
 simp only [execOp,ha.ev hx,ha.ev hy,eqGuard_at_int,binOp_neq,hb];rfl
theorem q.lss {b:Bool}(hx:ev L x=some (.int kd m))(hy:ev L y=some (.int kd l))(hb:decide (m<l)=b):Qt P n we X L B F (.binOp .lss xT x y yT) ty (.bool b):=fun _ _ _ _ a w ha hw=>by
 simp only [execOp,ha.ev hx,ha.ev hy,eqGuard_at_int,binOp_lss,hb];rfl
theorem q.leq {b:Bool}(hx:ev L x=some (.int kd m))(hy:ev L y=some (.int kd l))(hb:decide (m<=l)=b):Qt P n we X L B F (.binOp .leq xT x y yT) ty (.bool b):=fun _ _ _ _ a w ha hw=>by
 simp only [execOp,ha.ev hx,ha.ev hy,eqGuard_at_int,binOp_leq,hb];rfl
theorem q.gtr {b:Bool}(hx:ev L x=some (.int kd m))(hy:ev L y=some (.int kd l))(hb:decide (m>l)=b):Qt P n we X L B F (.binOp .gtr xT x y yT) ty (.bool b):=fun _ _ _ _ a w ha hw=>by
 simp only [execOp,ha.ev hx,ha.ev hy,eqGuard_at_int,binOp_gtr,hb];rfl
theorem q.geq {b:Bool}(hx:ev L x=some (.int kd m))(hy:ev L y=some (.int kd l))(hb:decide (m>=l)=b):Qt P n we X L B F (.binOp .geq xT x y yT) ty (.bool b):=fun _ _ _ _ a w ha hw=>by
 simp only [execOp,ha.ev hx,ha.ev hy,eqGuard_at_int,binOp_geq,hb];rfl
theorem q.Q6 (hx:ev L x=some (.int kd m))(hy:ev L y=some (.int kd l))(h:m<l:=by omega):Qt P n we X L B F (.binOp .lss xT x y yT) ty (.bool true):=q.lss hx hy (decide_eq_true h)
theorem q.NI (hx:ev L x=some (.int kd m))(hy:ev L y=some (.int kd l))(h:¬ m<l:=by omega):Qt P n we X L B F (.binOp .lss xT x y yT) ty (.bool false):=q.lss hx hy (decide_eq_false h)
theorem q.TB (hx:ev L x=some (.int kd m))(hy:ev L y=some (.int kd l))(h:m<=l:=by omega):Qt P n we X L B F (.binOp .leq xT x y yT) ty (.bool true):=q.leq hx hy (decide_eq_true h)
theorem q.TD (hx:ev L x=some (.int kd m))(hy:ev L y=some (.int kd l))(h:¬ m<=l:=by omega):Qt P n we X L B F (.binOp .leq xT x y yT) ty (.bool false):=q.leq hx hy (decide_eq_false h)
theorem q.TE (hx:ev L x=some (.int kd m))(hy:ev L y=some (.int kd l))(h:m>l:=by omega):Qt P n we X L B F (.binOp .gtr xT x y yT) ty (.bool true):=q.gtr hx hy (decide_eq_true h)
theorem q.TF (hx:ev L x=some (.int kd m))(hy:ev L y=some (.int kd l))(h:¬ m>l:=by omega):Qt P n we X L B F (.binOp .gtr xT x y yT) ty (.bool false):=q.gtr hx hy (decide_eq_false h)
theorem q.TG (hx:ev L x=some (.int kd m))(hy:ev L y=some (.int kd l))(h:m>=l:=by omega):Qt P n we X L B F (.binOp .geq xT x y yT) ty (.bool true):=q.geq hx hy (decide_eq_true h)
theorem q.TH (hx:ev L x=some (.int kd m))(hy:ev L y=some (.int kd l))(h:¬ m>=l:=by omega):Qt P n we X L B F (.binOp .geq xT x y yT) ty (.bool false):=q.geq hx hy (decide_eq_false h)
theorem q.TI (hx:ev L x=some (.int kd m))(hy:ev L y=some (.int kd l))(h:m=l:=by omega):Qt P n we X L B F (.binOp .eql xT x y yT) ty (.bool true):=q.eql hx hy (beq_iff_eq.2 h)
theorem q.TJ (hx:ev L x=some (.int kd m))(hy:ev L y=some (.int kd l))(h:¬ m=l:=by omega):Qt P n we X L B F (.binOp .eql xT x y yT) ty (.bool false):=q.eql hx hy (beq_eq_false_iff_ne.2 h)
theorem q.TK (hx:ev L x=some (.int kd m))(hy:ev L y=some (.int kd l))(h:¬ m=l:=by omega):Qt P n we X L B F (.binOp .neq xT x y yT) ty (.bool true):=q.neq hx hy (bne_iff_ne.2 h)
theorem q.TM (hx:ev L x=some (.int kd m))(hy:ev L y=some (.int kd l))(h:m=l:=by omega):Qt P n we X L B F (.binOp .neq xT x y yT) ty (.bool false):=q.neq hx hy (bne_eq_false_iff_eq.2 h)
theorem q.not {b:Bool}(hx:ev L x=some (.bool b)):Qt P n we X L B F (.unOp .not xT x) ty (.bool !b):=fun _ _ _ _ a w ha hw=>by
 simp [execOp,ha.ev hx,Op.unary]
theorem q.len {A:Option Addr}{s c:Nat}{e:TypeId}(hx:ev L x=some (.slice A s c))(ht:P.underlying xT=some (.slice e)):Qt P n we X L B F (.call { callee:= .builtin .len,args:= #[x],argTypes:= #[xT]}) ty (.int .i64 s):=fun _ _ _ _ a w ha hw=>by
 simp [execOp,resolve,invoke,builtin,ha.ev hx,Builtin.len_,run_underlying ht,goInt]
theorem q.TN {s:ByteArray}(hx:ev L x=some (.string s))(ht:P.underlying xT=some .string):Qt P n we X L B F (.call { callee:= .builtin .len,args:= #[x],argTypes:= #[xT]}) ty (.int .i64 s.size):=fun _ _ _ _ a w ha hw=>by
 simp [execOp,resolve,invoke,builtin,ha.ev hx,Builtin.len_,run_underlying ht,goInt]
theorem q.iface (hx:ev L x=some v)(ht:P.concrete xT=true):Qt P n we X L B F (.makeInterface xT x) ty (.iface xT v):=fun _ _ _ _ a w ha hw=>by
 simp [execOp,ha.ev hx,run_makeInterface (P:=P) (w:=w) xT v ht]
theorem q.ext {vs:Array Value}{i:Nat}(hx:ev L x=some (.tuple vs))(hv:vs[i]? = some v):Qt P n we X L B F (.extract x i) ty v:=fun _ _ _ _ a w ha hw=>by
 simp [execOp,ha.ev hx,Instr.extract,hv]
end
end
end
end Go.Proofs.YtnmpibjlnninjaaGreatDoor
