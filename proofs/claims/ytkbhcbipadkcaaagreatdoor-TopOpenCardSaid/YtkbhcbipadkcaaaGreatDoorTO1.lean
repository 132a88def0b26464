import Derived.WalkKit
import Derived.WalkSpells
import Derived.WalkLawsBesides
import Derived.Lib.Hide
import Derived.Deep.Draws
import Derived.Deep.AppendLies
import Derived.Deep.Slices
import Derived.Deep.Fields
import Derived.ChangeSame
import Derived.ProofKit
import Derived.OpenShut
import Derived.ShutString
import Derived.ChangeOld
import Derived.Carry
import Derived.Lib.SmallJoins
import Derived.Test.YtkbhcbipadkcaaaGreatDoorProg
namespace Go.Proofs.YtkbhcbipadkcaaaGreatDoor
set_option linter.unusedVariables false
set_option linter.unusedSimpArgs false
section
open Go.RowKit
def Ext (w w':World):Prop:=Below w.heap.size w w'
theorem O{α:Sort _}{a:α}:a=a:=rfl
def bL:List Nat:=[0,1,2,3]
def bZ:List Nat:=[0,1,2,3,4,5,6,7,8]
def ff:List Nat:=[0,1,2,3,4,5,6,7]
def gj:List Nat:=[3,2,1,0]
def gX:List Nat:=[0,1,2,3,4]
def mg:List Nat:=[0,1,2,3,4,5,6]
def mK:List Nat:=[0,1,2,5,6,7,8]
def nn:List Nat:=[0,1,2,3,8]
def rm:List Nat:=[0,1,2,3,4,5]
def rq:List Nat:=[0,1,2,4,6,7,8]
def mh:List Nat:=[0,1,2,4,5,6,7,8]
def mS:List Nat:=[3,4,5,6,7,8]
def nC:List Nat:=[0,1,2,3,5]
def o8:List Nat:=[2,3,4,6]
def o9:List Nat:=[2,3,4,5,7]
def pb:List Nat:=[2,3,4,5,6,7,9]
def pC:List Nat:=[0,1,2,3,5,6,8,9]
def pD:List Nat:=[1,2,3,4,6,7,9,10]
def pE:List Nat:=[1,2,3,5,7,8,9]
def pF:List Nat:=[1,2,3,6,7,8,9]
def rC:List Nat:=[4,5,6,7,8,9]
def sD:List Nat:=[1,2,3,4,6]
def sE:List Nat:=[0,1,2,3,4,5,6,7,8,9,10,11,12,13]
def uw:List Nat:=[1,2,3,4,5]
def ux:List Nat:=[0,1,2,3,6,7,8]
def uy:List Nat:=[0,1,2,5,6,7]
def vL:List Nat:=[1,2,3,0]
def yX:List Nat:=[1,2,3,4,5,6,7,8]
def Cc:List Nat:=[1,2,3,4,5,6,7,8,9]
def Cd:List Nat:=[0,1,2,3,4,5,7]
def FG:List Nat:=[2,3,4,5,6,7,8,9]
def FH:List Nat:=[5,4,3,2,1,0,6,7]
theorem Ext.below {w w':World}(h:Ext w w'):Below w.heap.size w w':=h
theorem Ext.mk {w w':World}(h:Below w.heap.size w w'):Ext w w':=h
attribute [irreducible] Ext
theorem Ext.refl (w:World):Ext w w:=Ext.mk (Below.refl _ _)
theorem Ext.size {w w':World}(h:Ext w w'):w.heap.size<=w'.heap.size:=h.below.size
theorem Ext.trans {a b c:World}(h:Ext a b)(k:Ext b c):Ext a c:=Ext.mk (h.below.trans (k.below.mono h.size))
theorem Ext.alloc {a w:World}(h:Ext a w)(o:Obj):Ext a (w.alloc o):=Ext.mk (h.below.alloc h.size o)
theorem Ext.drew {a w:World}(h:Ext a w):Ext a w.drew:=Ext.mk (h.below.drew)
theorem Ext.drewN {a w:World}(h:Ext a w)(n:Nat):Ext a (w.drewN n):=Ext.mk ⟨h.below.os,h.below.tape,h.below.output,h.below.size,h.below.block⟩
theorem Ext.Rc {w w':World}(h:Ext w w'){a:Addr}(hb:a.block<w.heap.size):w'.cell? a=w.cell? a:=h.below.cell hb
theorem Ext.cell {w w':World}(h:Ext w w'):∀b o,b<w.heap.size->w'.cell? ⟨b,o,none⟩=w.cell? ⟨b,o,none⟩:=fun b o hb=>h.below.cell (p:=⟨b,o,none⟩) hb
theorem Ext.nD {w w':World}(h:Ext w w'){a:Addr}{v:Value}(hv:w.cell? a=some v):w'.cell? a=some v:=(h.Rc (World.block_lt_of_cell? w a hv)).trans hv
theorem Ext.heap {w w':World}(h:Ext w w'){k:Nat}(hk:k<w.heap.size):w'.heap[k]? = w.heap[k]?:=h.below.block k hk
class Enc (α:Type) where
  k:Nat
  cells:α->List Value
  len:∀x,(cells x).length=k
  one:∀x,∀u∈cells x,u.oneCell'=true
  pos:0<k
instance:Enc Int:=⟨1,fun n=>[.int .i64 n],fun _=>rfl,fun _ u hu=>by simp at hu;subst hu;rfl,by decide⟩
instance:Enc ByteArray:=⟨1,fun s=>[.string s],fun _=>rfl,fun _ u hu=>by simp at hu;subst hu;rfl,by decide⟩
theorem flat_get {α:Type}[Enc α]:∀ (l:List α) (i:Nat) (x:α) (j:Nat) (u:Value),l[i]? = some x->(Enc.cells x)[j]? = some u->(l.flatMap Enc.cells)[i*Enc.k α+j]? = some u
 | [],i,x,j,u,h,_=>by simp at h
 | y::l,0,x,j,u,h,hj=>by
  simp at h;subst h
  have hl:j<(Enc.cells y).length:=(List.getElem?_eq_some_iff.1 hj).1
  simp only [List.flatMap_cons,Nat.zero_mul,Nat.zero_add]
  rw [List.getElem?_append_left hl];exact hj
 | y::l,i+1,x,j,u,h,hj=>by
  have h':l[i]? = some x:=by simpa using h
  have ih:=flat_get l i x j u h' hj
  simp only [List.flatMap_cons]
  rw [List.getElem?_append_right (by rw [Enc.len,Nat.add_mul];omega),Enc.len,<- ih]
  congr 1
  rw [Nat.add_mul];omega
theorem di {α:Type}[Enc α](l:List α):(l.flatMap Enc.cells).length=l.length*Enc.k α:=by
 induction l with
 | nil=>simp
 | cons y l ih=>simp only [List.flatMap_cons,List.length_append,ih,Enc.len,List.length_cons,Nat.add_mul];omega
theorem lu {α:Type}[Enc α](l:List α):∀u∈l.flatMap Enc.cells,u.oneCell'=true:=by
 intro u hu
 obtain ⟨x,_,hx⟩:=List.mem_flatMap.1 hu
 exact Enc.one x u hx
def Sl {α:Type}[Enc α](w:World)(v:Value)(l:List α):Prop :=
  ∃A c,v = .slice A l.length c/\l.length<=c/\c<=maxLen /\
    ∀i x,l[i]? = some x -> ∃b off,A=some ⟨b,off,none⟩/\b<w.heap.size /\ ∀j u,(Enc.cells x)[j]? = some u->w.cell? ⟨b,off+i*Enc.k α+j,none⟩=some u
section
variable {α:Type} [Enc α] {w w':World} {v:Value} {l:List α}
theorem Sl.ext (h:Sl w v l)(e:Ext w w'):Sl w' v l:=by
 obtain ⟨A,c,hv,h1,h2,h3⟩:=h
 refine ⟨A,c,hv,h1,h2,fun i x hx=>?_⟩
 obtain ⟨b,off,hA,hb,hc⟩:=h3 i x hx
 exact ⟨b,off,hA,Nat.lt_of_lt_of_le hb e.size,fun j u hu=>e.nD (hc j u hu)⟩
theorem Sl.nil (w:World):Sl w (.slice none 0 0) ([]:List α):=⟨none,0,rfl,by simp,by simp,fun i x h=>by simp at h⟩
theorem Sl.take {A:Option Addr}{n c:Nat}(h:Sl w (.slice A n c) l){k:Nat}(hk:k<=l.length):Sl w (.slice A k c) (l.take k):=by
 obtain ⟨A',c',hv,h1,h2,h3⟩:=h
 simp only [Value.slice.injEq] at hv
 obtain ⟨rfl,rfl,rfl⟩:=hv
 have hl:(l.take k).length=k:=by rw [List.length_take];omega
 refine ⟨A,c,by rw [hl],by omega,h2,fun i x hx=>h3 i x ?_⟩
 rw [List.getElem?_take] at hx
 split at hx
 .exact hx
 .cases hx
theorem Sl.at (h:Sl w v l){i:Nat}(hi:i<l.length):∃b off c,v = .slice (some ⟨b,off,none⟩) l.length c/\b<w.heap.size /\ ∀j u,(Enc.cells l[i])[j]? = some u->w.cell? ⟨b,off+i*Enc.k α+j,none⟩=some u:=by
 obtain ⟨A,c,rfl,h1,h2,h3⟩:=h
 obtain ⟨b,off,rfl,hb,hc⟩:=h3 i l[i] (List.getElem?_eq_getElem hi)
 exact ⟨b,off,c,rfl,hb,hc⟩
end
def Own {α:Type}[Enc α](base:Nat)(e:TypeId)(w:World)(v:Value)(l:List α):Prop:=w.ownsRow base e (Enc.k α) v l.length (l.flatMap Enc.cells)
section
variable {α:Type} [Enc α] {base:Nat} {e:TypeId} {w w':World} {v:Value} {l:List α}
theorem Own.nil (base:Nat)(e:TypeId)(w:World):Own base e w (.slice none 0 0) ([]:List α):=World.ownsRow_nil w base e _
theorem Own.sl (h:Own base e w v l):Sl w v l:=by
 have hl:=h.lt
 have hcl:=fun g hg=>h.cells (g:=g) hg
 unfold Own at h
 rcases h.2 with ⟨rfl,h0⟩ | ⟨g,cap,cur,rfl,hb,hg,hnc,hcm,hcs,htake⟩
 .
  have:l=[]:=List.eq_nil_of_length_eq_zero h0
  subst this;exact Sl.nil w
 .
  refine ⟨_,cap,rfl,hnc,hcm,fun i x hx=>⟨g,0,rfl,(hl g rfl).2,fun j u hu=>?_⟩⟩
  have:=hcl g rfl (i*Enc.k α+j) u (flat_get l i x j u hx hu)
  have hadd:(⟨g,0,none⟩:Addr).add (i*Enc.k α+j)=⟨g,0+i*Enc.k α+j,none⟩:=by unfold Addr.add;split <;> simp_all
  rw [hadd] at this;exact this
theorem Own.ext (h:Own base e w v l)(x:Ext w w'):Own base e w' v l:=World.ownsRow.kept h (row:=none) ⟨x.below.os,x.below.tape,x.below.output,x.size,fun k hk _=>x.heap hk⟩ (by cases v.ownBlock <;> simp)
theorem Own.alloc (h:Own base e w v l)(o:Obj):Own base e (w.alloc o) v l:=World.ownsRow.alloc h o
theorem Own.lower {b2:Nat}(h:Own base e w v l)(hb:b2<=base):Own b2 e w v l:=by
 refine ⟨h.1,?_⟩
 rcases h.2 with h|⟨g,cap,cur,hv,hg,r⟩
 .exact .inl h
 .exact .inr ⟨g,cap,cur,hv,Nat.le_trans hb hg,r⟩
theorem Own.lt (h:Own base e w v l):∀k,v.ownBlock=some k->base<=k/\k<w.heap.size:=World.ownsRow.lt h
end
section
variable {α:Type} [Enc α] {P:Program} {ops:Array Oper} {rest:List Oper} {o:Oper} {a:Act} {Q:Exit->Act->World->Prop}
end
end
section
open Go.RowKit
structure aj where
  ID:Int
  aE:Int
  Rights:Int
  aQ:Int
  From:Int
  deriving DecidableEq
abbrev im (x:aj):List Value:=[.int .i64 x.ID,.int .i64 x.aE,.int .i64 x.Rights,.int .i64 x.aQ,.int .i64 x.From]
structure Place where
  aB:Int
  Slot:Int
  deriving DecidableEq
abbrev jO (x:Place):List Value:=[.int .i64 x.aB,.int .i64 x.Slot]
structure Held where
  Place:Place
  aj:Int
  deriving DecidableEq
abbrev lI (x:Held):List Value:=[.int .i64 x.Place.aB,.int .i64 x.Place.Slot,.int .i64 x.aj]
structure aE where
  ID:Int
  Kind:Int
  Data:ByteArray
  deriving DecidableEq
abbrev mT (x:aE):List Value:=[.int .i64 x.ID,.int .i64 x.Kind,.string x.Data]
structure Note where
  Port:Int
  Data:ByteArray
  aQ:Int
  aj:Int
  deriving DecidableEq
abbrev ou (x:Note):List Value:=[.int .i64 x.Port,.string x.Data,.int .i64 x.aQ,.int .i64 x.aj]
structure Change where
  Key:ByteArray
  Val:ByteArray
  Gone:Bool
  deriving DecidableEq
abbrev iz (x:Change):List Value:=[.string x.Key,.string x.Val,.bool x.Gone]
structure aC where
  ak:List aj
  Things:List aE
  Held:List Held
  Notes:List Note
  ae:Int
  ah:Int
  deriving DecidableEq
abbrev aj.cs (x:aj):List Value:=[.int .i64 x.ID,.int .i64 x.aE,.int .i64 x.Rights,.int .i64 x.aQ,.int .i64 x.From]
abbrev aj.val (x:aj):Value:= .agg #[.int .i64 x.ID,.int .i64 x.aE,.int .i64 x.Rights,.int .i64 x.aQ,.int .i64 x.From]
abbrev Place.val (x:Place):Value:= .agg #[.int .i64 x.aB,.int .i64 x.Slot]
abbrev Held.cs (x:Held):List Value:=[.int .i64 x.Place.aB,.int .i64 x.Place.Slot,.int .i64 x.aj]
abbrev Held.val (x:Held):Value:= .agg #[.int .i64 x.Place.aB,.int .i64 x.Place.Slot,.int .i64 x.aj]
abbrev aE.cs (x:aE):List Value:=[.int .i64 x.ID,.int .i64 x.Kind,.string x.Data]
abbrev aE.val (x:aE):Value:= .agg #[.int .i64 x.ID,.int .i64 x.Kind,.string x.Data]
abbrev Note.cs (x:Note):List Value:=[.int .i64 x.Port,.string x.Data,.int .i64 x.aQ,.int .i64 x.aj]
abbrev Note.val (x:Note):Value:= .agg #[.int .i64 x.Port,.string x.Data,.int .i64 x.aQ,.int .i64 x.aj]
abbrev Change.cs (x:Change):List Value:=[.string x.Key,.string x.Val,.bool x.Gone]
abbrev Change.val (x:Change):Value:= .agg #[.string x.Key,.string x.Val,.bool x.Gone]
instance:Enc aj:=⟨5,aj.cs,fun _=>rfl,fun x u hu=>by simp [aj.cs] at hu;rcases hu with rfl|rfl|rfl|rfl|rfl <;> rfl,by decide⟩
instance:Enc Held:=⟨3,Held.cs,fun _=>rfl,fun x u hu=>by simp [Held.cs] at hu;rcases hu with rfl|rfl|rfl <;> rfl,by decide⟩
instance:Enc aE:=⟨3,aE.cs,fun _=>rfl,fun x u hu=>by simp [aE.cs] at hu;rcases hu with rfl|rfl|rfl <;> rfl,by decide⟩
instance:Enc Note:=⟨4,Note.cs,fun _=>rfl,fun x u hu=>by simp [Note.cs] at hu;rcases hu with rfl|rfl|rfl|rfl <;> rfl,by decide⟩
instance:Enc Change:=⟨3,Change.cs,fun _=>rfl,fun x u hu=>by simp [Change.cs] at hu;rcases hu with rfl|rfl|rfl <;> rfl,by decide⟩
theorem Sl.mU {w:World}{v:Value}{l:List Held}(h:Sl w v l){i:Nat}(hi:i<l.length):∃b off c,v = .slice (some ⟨b,off,none⟩) l.length c/\b<w.heap.size /\
 w.cell? ⟨b,off+i*3,none⟩=some (.int .i64 l[i].Place.aB)/\w.cell? ⟨b,off+i*3+1,none⟩=some (.int .i64 l[i].Place.Slot)/\w.cell? ⟨b,off+i*3+2,none⟩=some (.int .i64 l[i].aj):=by
 obtain ⟨b,off,c,hv,hb,hc⟩:=h.at hi
 exact ⟨b,off,c,hv,hb,hc 0 _ rfl,hc 1 _ rfl,hc 2 _ rfl⟩
def GV (w:World)(b:Nat)(x:aj):Prop:=w.cell? ⟨b,0,none⟩=some (.int .i64 x.ID)/\w.cell? ⟨b,1,none⟩=some (.int .i64 x.aE)/\w.cell? ⟨b,2,none⟩=some (.int .i64 x.Rights)/\w.cell? ⟨b,3,none⟩=some (.int .i64 x.aQ)/\w.cell? ⟨b,4,none⟩=some (.int .i64 x.From)
theorem GV.new (w:World)(x:aj)(t:TypeId):GV (w.alloc (.cells #[.int .i64 x.ID,.int .i64 x.aE,.int .i64 x.Rights,.int .i64 x.aQ,.int .i64 x.From] t)) w.heap.size x:=by
 unfold GV;simp [go_sem]
theorem GV.ext {w w':World}{b:Nat}{x:aj}(h:GV w b x)(e:Ext w w'):GV w' b x:=⟨e.nD h.1,e.nD h.2.1,e.nD h.2.2.1,e.nD h.2.2.2.1,e.nD h.2.2.2.2⟩
def df (n:Int):Value:=if n=0 then .nilIface else .iface 93 (.int .i64 n)
abbrev iV (n:Int):Value:= .int .i64 n
abbrev nS:Value:= .slice none 0 0
abbrev GX:List Value:=[.slice none 0 0,.slice none 0 0,.slice none 0 0,.slice none 0 0,.int .i64 0,.int .i64 0]
abbrev Va:List Value:=[.int .i64 0,.int .i64 0,.int .i64 0,.int .i64 0,.int .i64 0]
abbrev Vb:List Value:=[.int .i64 0,.int .i64 0,.int .i64 0]
theorem vM {n:Int}(h:n≠0):df n = .iface 93 (.int .i64 n):=by unfold df;rw [if_neg h]
end
section
open Go.ChangeShapes Go.WideShapes Go.ChangeAt Go.RowKit Go.Deep
def FJ (n:Int):Prop:= -9223372036854775808<=n/\n<=9223372036854775807
theorem GY {n:Int}(h:(Lit.int .i64 n).wf=true):FJ n:=by
 have:=bounds_i64 h;unfold FJ;omega
theorem uz {α:Type}(p:Nat->α->Prop):∀ (n:Nat),(∀i,i<n -> ∃x,p i x) -> ∃l:List α,l.length=n /\ ∀i x,l[i]? = some x->p i x
 | 0,_=>⟨[],rfl,fun i x h=>by simp at h⟩
 | n+1,h=>by
  obtain ⟨l,hl,hp⟩:=uz p n (fun i hi=>h i (by omega))
  obtain ⟨y,hy⟩:=h n (by omega)
  refine ⟨l++[y],by simp [hl],fun i x hx=>?_⟩
  rcases Nat.lt_or_ge i l.length with hi|hi
  .rw [List.getElem?_append_left hi] at hx;exact hp i x hx
  .
   rw [List.getElem?_append_right hi] at hx
   have:i=n:=by
    have h1:i-l.length<1:=by have:=(List.getElem?_eq_some_iff.1 hx).1;simpa using this
    omega
   subst this
   rw [hl] at hx
   simp at hx;subst hx;exact hy
section
variable {H:Type} {enc:TypeId×Value->H} {P:Program} {w:World} {base:Nat} {spare:Nat->Bool} {held:Bool}
theorem open_list {α:Type}[Enc α]{t e:TypeId}{fuel:Nat}{v:Value}{x:DataW H×List MemPlace}(ht:P.underlying t=some (.slice e))(hC:P.cellsOf e=Enc.k α)(good:α->Prop)
 (hel:∀ (m:Nat) (cs:List Value) (y:DataW H×List MemPlace),cs.length=Enc.k α->DataW.trod enc P w base spare held m e cs=some y -> ∃z:α,cs=Enc.cells z/\good z)
 (h:DataW.trod enc P w base spare held fuel t [v]=some x):∃l:List α,Sl w v l /\ ∀z∈l,good z:=by
 rcases open_slice ht h with ⟨hcs,_⟩ | ⟨a,len,cap,m,n,D,Pl,hcs,hb,hl,hm,hmm,hx,hi⟩
 .
  injection hcs with h1 _
  subst h1
  exact ⟨[],Sl.nil w,fun z hz=>by simp at hz⟩
 .
  injection hcs with h1 _
  subst h1
  have hlm:len<=m:=by rw [hmm];split <;> omega
  obtain ⟨l,hlen,hp⟩:=uz (fun i (z:α)=>good z /\ ∀j u,(Enc.cells z)[j]? = some u->w.cell? (a.add (i*Enc.k α+j))=some u) len (fun i hil=>by
   obtain ⟨cs',hc,htr⟩:=hi i (by omega)
   rw [hC] at hc
   obtain ⟨_,hcl,hat⟩:=World.cells?_some hc
   obtain ⟨z,hz,hg⟩:=hel n cs' _ hcl htr
   refine ⟨z,hg,fun j u hu=>?_⟩
   subst hz
   have hj:j<Enc.k α:=by rw [<- hcl];exact (List.getElem?_eq_some_iff.1 hu).1
   have:=hat j hj
   rw [add_add] at this
   rw [this];exact hu)
  have hpos:0<Enc.k α:=Enc.pos
  refine ⟨l,⟨some a,cap,by rw [hlen],by omega,hm,fun i z hz=>?_⟩,fun z hz=>?_⟩
  .
   obtain ⟨hg,hc⟩:=hp i z hz
   have hnil:0<(Enc.cells z).length:=by rw [Enc.len];exact hpos
   have h0:∃u,(l[0]?.map Enc.cells).bind (·[0]?)=some u:=by
    have h0l:0<l.length:=Nat.lt_of_le_of_lt (Nat.zero_le i) (List.getElem?_eq_some_iff.1 hz).1
    have:0<(Enc.cells l[0]).length:=by rw [Enc.len];exact hpos
    exact ⟨(Enc.cells l[0])[0],by simp [List.getElem?_eq_getElem h0l,List.getElem?_eq_getElem this]⟩
   have hspot:a.spot=none:=by
    have h0l:0<l.length:=Nat.lt_of_le_of_lt (Nat.zero_le i) (List.getElem?_eq_some_iff.1 hz).1
    have Vd:0<(Enc.cells l[0]).length:=by rw [Enc.len];exact hpos
    have hc0:=(hp 0 l[0] (List.getElem?_eq_getElem h0l)).2 0 (Enc.cells l[0])[0] (List.getElem?_eq_getElem Vd)
    simp only [Nat.zero_mul,Nat.zero_add,Addr.add,if_true] at hc0
    unfold World.cell? at hc0
    split at hc0
    .
     split at hc0
     .cases hc0
     .rename_i hs;simpa using hs
    .cases hc0
   obtain ⟨b,off,sp⟩:=a
   simp only [] at hspot
   subst hspot
   have hadd:∀n,(⟨b,off,none⟩:Addr).add n=⟨b,off+n,none⟩:=fun n=>by unfold Addr.add;split <;> simp_all
   refine ⟨b,off,rfl,?_,fun j u hu=>?_⟩
   .
    have hh:=hc 0 (Enc.cells z)[0] (List.getElem?_eq_getElem hnil)
    rw [hadd] at hh
    exact World.block_lt_of_cell? w _ hh
   .
    have hh:=hc j u hu
    rw [hadd,<- Nat.add_assoc] at hh
    exact hh
  .
   obtain ⟨i,hi⟩:=List.mem_iff_getElem?.1 hz
   exact (hp i z hi).1
theorem trodAll_back (hl:laidOutB P=true){W W':World}(hb:Below W.heap.size W W'):∀ {ts:List TypeId} {vs:List Value} {ds:List (DataW H)} {ps:List MemPlace},
 (∀t∈ts,P.readableRec t=true/\t<P.types.size)->DataW.TrodAll enc P W 0 (fun _=>true) true ts vs ds ps ->
 DataW.TrodAll enc P W' 0 (fun b=>decide (b<W.heap.size)) true ts vs ds ps
 | [],vs,ds,ps,_,h=>by
  obtain ⟨rfl,rfl,rfl⟩:=trodAll_nil h
  exact trodAll_mk0
 | t::ts,vs,ds,ps,hr,h=>by
  obtain ⟨v,vs',d,ds',p,q,rfl,rfl,rfl,h0,h1⟩:=trodAll_cons h
  have hlt:∀x∈p,x.block<W.heap.size:=by obtain ⟨m,hm⟩:=h0;exact DataW.trod_lt m _ _ _ hm
  exact trodAll_cons_mk (Below.trod hl (hr t (by simp)).1 (hr t (by simp)).2 h0 hb hlt) (trodAll_back hl hb (fun t' ht'=>hr t' (by simp [ht'])) h1)
end
end
section
open Go.ChangeShapes Go.WideShapes Go.ChangeAt Go.RowKit Go.Deep
set_option maxRecDepth 100000
def aj.Fit (x:aj):Prop:=FJ x.ID/\FJ x.aE/\FJ x.Rights/\FJ x.aQ/\FJ x.From
section
variable {H:Type} {enc:TypeId×Value->H} {w:World} {base:Nat} {spare:Nat->Bool} {held:Bool}
theorem vN {m:Nat}{c:Value}{y:DataW H×List MemPlace}(h:DataW.trod enc Tryz.prog w base spare held m 3 [c]=some y):∃n,c = .int .i64 n/\FJ n:=by
 obtain ⟨n,hn,_,hw⟩:=DataW.trod_int Tryz.underlying3 h
 injection hn with hn _
 exact ⟨n,hn,GY hw⟩
theorem gv {P:Program}{fs:Array Field}{n:Nat}{cs:List Value}{xs:List (DataW H×List MemPlace)}
 (hf:∀ (i:Nat) (f:Field),fs[i]? = some f->DataW.trod enc P w base spare held n f.type ((cs.drop f.offset).take (P.cellsOf f.type))=xs[i]?)
 (i:Nat) (f:Field) (hi:fs[i]? = some f) (t o k:Nat) (ht:f.type=t) (ho:f.offset=o) (hk:P.cellsOf t=k):DataW.trod enc P w base spare held n t ((cs.drop o).take k)=xs[i]?:=by
 subst ht ho hk;exact hf i f hi
theorem pG:Tryz.prog.cellsOf 3=1:=by kernel_rfl
end
end
section
open Go.ChangeShapes Go.WideShapes Go.ChangeAt Go.RowKit Go.Deep
set_option maxRecDepth 100000
def Place.Fit (x:Place):Prop:=FJ x.aB/\FJ x.Slot
def Held.Fit (x:Held):Prop:=x.Place.Fit/\FJ x.aj
section
variable {H:Type} {enc:TypeId×Value->H} {w:World} {base:Nat} {spare:Nat->Bool} {held:Bool}
theorem vO:Tryz.prog.cellsOf 32=2:=by kernel_rfl
theorem Ce {m:Nat}{cs:List Value}{y:DataW H×List MemPlace}(hl:cs.length=2)(h:DataW.trod enc Tryz.prog w base spare held m 32 cs=some y):∃z:Place,cs=[.int .i64 z.aB,.int .i64 z.Slot]/\z.Fit:=by
 match cs,hl with
 | [c0,c1],_ =>
  obtain ⟨xs,n,_,_,_,hlen,hf⟩:=DataW.trod_struct Tryz.underlying32 h
  match xs,hlen with
  | [y0,y1],_ =>
   have g0:=gv hf 0 _ rfl 3 0 1 rfl rfl pG;have g1:=gv hf 1 _ rfl 3 1 1 rfl rfl pG
   obtain ⟨n0,rfl,w0⟩:=vN (c:=c0) (by simpa using g0)
   obtain ⟨n1,rfl,w1⟩:=vN (c:=c1) (by simpa using g1)
   exact ⟨⟨n0,n1⟩,rfl,w0,w1⟩
end
end
end Go.Proofs.YtkbhcbipadkcaaaGreatDoor
