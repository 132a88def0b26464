import Derived.WalkKit
import Derived.WalkSpells
import Derived.WalkLawsBesides
import Derived.Lib.Hide
import Derived.Deep.Draws
import Derived.Deep.AppendLies
section
namespace Go.Proofs.YtbkfhjaibhnkmaaGreatDoor
open Go.RowKit
set_option linter.unusedVariables false
def Ext (w w':World):Prop:=Below w.heap.size w w'
theorem Ext.below {w w':World}(h:Ext w w'):Below w.heap.size w w':=h
theorem Ext.mk {w w':World}(h:Below w.heap.size w w'):Ext w w':=h
attribute [irreducible] Ext
theorem Ext.refl (w:World):Ext w w:=Ext.mk (Below.refl _ _)
theorem Ext.size {w w':World}(h:Ext w w'):w.heap.size≤w'.heap.size:=h.below.size
theorem Ext.trans {a b c:World}(h:Ext a b)(k:Ext b c):Ext a c:=Ext.mk (h.below.trans (k.below.mono h.size))
theorem Ext.alloc {a w:World}(h:Ext a w)(o:Obj):Ext a (w.alloc o):=Ext.mk (h.below.alloc h.size o)
theorem Ext.drew {a w:World}(h:Ext a w):Ext a w.drew:=Ext.mk (h.below.drew)
theorem Ext.drewN {a w:World}(h:Ext a w)(n:Nat):Ext a (w.drewN n):=Ext.mk ⟨h.below.os,h.below.tape,h.below.output,h.below.size,h.below.block⟩
theorem Ext.zA {w w':World}(h:Ext w w'){a:Addr}(hb:a.block<w.heap.size):w'.cell? a=w.cell? a:=h.below.cell hb
theorem Ext.cell {w w':World}(h:Ext w w'):∀b o,b<w.heap.size→w'.cell? ⟨b,o,none⟩=w.cell? ⟨b,o,none⟩:=fun b o hb=>h.below.cell (p:=⟨b,o,none⟩) hb
theorem Ext.ia {w w':World}(h:Ext w w'){a:Addr}{v:Value}(hv:w.cell? a=some v):w'.cell? a=some v:=(h.zA (World.block_lt_of_cell? w a hv)).trans hv
theorem Ext.heap {w w':World}(h:Ext w w'){k:Nat}(hk:k<w.heap.size):w'.heap[k]? = w.heap[k]?:=h.below.block k hk
class Enc (α:Type) where
  k:Nat
  cells:α→List Value
  len:∀x,(cells x).length=k
  one:∀x,∀u∈cells x,u.oneCell'=true
  pos:0<k
instance:Enc Int:=⟨1,fun n=>[.int .i64 n],fun _=>rfl,fun _ u hu=>by simp at hu;subst hu;rfl,by decide⟩
instance:Enc ByteArray:=⟨1,fun s=>[.string s],fun _=>rfl,fun _ u hu=>by simp at hu;subst hu;rfl,by decide⟩
theorem flat_get {α:Type}[Enc α]:∀ (l:List α) (i:Nat) (x:α) (j:Nat) (u:Value),l[i]? = some x→(Enc.cells x)[j]? = some u→(l.flatMap Enc.cells)[i*Enc.k α+j]? = some u
  | [],i,x,j,u,h,_=>by simp at h
  | y::l,0,x,j,u,h,hj=>by
    simp at h;subst h
    have hl:j<(Enc.cells y).length:=(List.getElem?_eq_some_iff.1 hj).1
    simp only [List.flatMap_cons,Nat.zero_mul,Nat.zero_add]
    rw [List.getElem?_append_left hl];exact hj
  | y::l,i+1,x,j,u,h,hj=>by
    have h':l[i]? = some x:=by simpa using h
    have ih:=flat_get l i x j u h' hj
    simp only [List.flatMap_cons]
    rw [List.getElem?_append_right (by rw [Enc.len,Nat.add_mul];omega),Enc.len,← ih]
    congr 1
    rw [Nat.add_mul];omega
theorem cU {α:Type}[Enc α](l:List α):(l.flatMap Enc.cells).length=l.length*Enc.k α:=by
  induction l with
  | nil=>simp
  | cons y l ih=>simp only [List.flatMap_cons,List.length_append,ih,Enc.len,List.length_cons,Nat.add_mul];omega
theorem gI {α:Type}[Enc α](l:List α):∀u∈l.flatMap Enc.cells,u.oneCell'=true:=by
  intro u hu
  obtain ⟨x,_,hx⟩:=List.mem_flatMap.1 hu
  exact Enc.one x u hx
def Sl {α:Type}[Enc α](w:World)(v:Value)(l:List α):Prop :=
  ∃A c,v = .slice A l.length c∧l.length≤c∧c≤maxLen ∧
    ∀i x,l[i]? = some x → ∃b off,A=some ⟨b,off,none⟩∧b<w.heap.size ∧ ∀j u,(Enc.cells x)[j]? = some u→w.cell? ⟨b,off+i*Enc.k α+j,none⟩=some u
section
variable {α:Type} [Enc α] {w w':World} {v:Value} {l:List α}
theorem Sl.ext (h:Sl w v l)(e:Ext w w'):Sl w' v l:=by
  obtain ⟨A,c,hv,h1,h2,h3⟩:=h
  refine ⟨A,c,hv,h1,h2,fun i x hx=>?_⟩
  obtain ⟨b,off,hA,hb,hc⟩:=h3 i x hx
  exact ⟨b,off,hA,Nat.lt_of_lt_of_le hb e.size,fun j u hu=>e.ia (hc j u hu)⟩
theorem Sl.nil (w:World):Sl w (.slice none 0 0) ([]:List α):=⟨none,0,rfl,by simp,by simp,fun i x h=>by simp at h⟩
theorem Sl.take {A:Option Addr}{n c:Nat}(h:Sl w (.slice A n c) l){k:Nat}(hk:k≤l.length):Sl w (.slice A k c) (l.take k):=by
  obtain ⟨A',c',hv,h1,h2,h3⟩:=h
  simp only [Value.slice.injEq] at hv
  obtain ⟨rfl,rfl,rfl⟩:=hv
  have hl:(l.take k).length=k:=by rw [List.length_take];omega
  refine ⟨A,c,by rw [hl],by omega,h2,fun i x hx=>h3 i x ?_⟩
  rw [List.getElem?_take] at hx
  split at hx
  · exact hx
  · cases hx
theorem Sl.at (h:Sl w v l){i:Nat}(hi:i<l.length):∃b off c,v = .slice (some ⟨b,off,none⟩) l.length c∧b<w.heap.size ∧ ∀j u,(Enc.cells l[i])[j]? = some u→w.cell? ⟨b,off+i*Enc.k α+j,none⟩=some u:=by
  obtain ⟨A,c,rfl,h1,h2,h3⟩:=h
  obtain ⟨b,off,rfl,hb,hc⟩:=h3 i l[i] (List.getElem?_eq_getElem hi)
  exact ⟨b,off,c,rfl,hb,hc⟩
end
def Own {α:Type}[Enc α](base:Nat)(e:TypeId)(w:World)(v:Value)(l:List α):Prop:=w.ownsRow base e (Enc.k α) v l.length (l.flatMap Enc.cells)
section
variable {α:Type} [Enc α] {base:Nat} {e:TypeId} {w w':World} {v:Value} {l:List α}
theorem Own.nil (base:Nat)(e:TypeId)(w:World):Own base e w (.slice none 0 0) ([]:List α):=World.ownsRow_nil w base e _
theorem Own.sl (h:Own base e w v l):Sl w v l:=by
  have hl:=h.lt
  have hcl:=fun g hg=>h.cells (g:=g) hg
  unfold Own at h
  rcases h.2 with ⟨rfl,h0⟩ | ⟨g,cap,cur,rfl,hb,hg,hnc,hcm,hcs,htake⟩
  ·
    have:l=[]:=List.eq_nil_of_length_eq_zero h0
    subst this;exact Sl.nil w
  ·
    refine ⟨_,cap,rfl,hnc,hcm,fun i x hx=>⟨g,0,rfl,(hl g rfl).2,fun j u hu=>?_⟩⟩
    have:=hcl g rfl (i*Enc.k α+j) u (flat_get l i x j u hx hu)
    have hadd:(⟨g,0,none⟩:Addr).add (i*Enc.k α+j)=⟨g,0+i*Enc.k α+j,none⟩:=by unfold Addr.add;split <;> simp_all
    rw [hadd] at this;exact this
theorem Own.ext (h:Own base e w v l)(x:Ext w w'):Own base e w' v l:=World.ownsRow.kept h (row:=none) ⟨x.below.os,x.below.tape,x.below.output,x.size,fun k hk _=>x.heap hk⟩ (by cases v.ownBlock <;> simp)
theorem Own.alloc (h:Own base e w v l)(o:Obj):Own base e (w.alloc o) v l:=World.ownsRow.alloc h o
theorem Own.lower {b2:Nat}(h:Own base e w v l)(hb:b2≤base):Own b2 e w v l:=by
  refine ⟨h.1,?_⟩
  rcases h.2 with h|⟨g,cap,cur,hv,hg,r⟩
  · exact .inl h
  · exact .inr ⟨g,cap,cur,hv,Nat.le_trans hb hg,r⟩
theorem Own.lt (h:Own base e w v l):∀k,v.ownBlock=some k→base≤k∧k<w.heap.size:=World.ownsRow.lt h
end
section
variable {α:Type} [Enc α] {P:Program} {ops:Array Oper} {rest:List Oper} {o:Oper} {a:Act} {Q:Exit→Act→World→Prop}
end
end Go.Proofs.YtbkfhjaibhnkmaaGreatDoor
end
section
namespace Go.Proofs.YtbkfhjaibhnkmaaGreatDoor
open Go.RowKit
set_option linter.unusedVariables false
structure ak where
  ID:Int
  ai:Int
  Rights:Int
  ar:Int
  From:Int
  deriving DecidableEq
structure Place where
  ag:Int
  Slot:Int
  deriving DecidableEq
structure Held where
  Place:Place
  ak:Int
  deriving DecidableEq
structure ai where
  ID:Int
  Kind:Int
  Data:ByteArray
  deriving DecidableEq
structure Note where
  Port:Int
  Data:ByteArray
  ar:Int
  ak:Int
  deriving DecidableEq
structure Change where
  Key:ByteArray
  Val:ByteArray
  Gone:Bool
  deriving DecidableEq
structure au where
  aj:List ak
  Things:List ai
  Held:List Held
  Notes:List Note
  ae:Int
  af:Int
  deriving DecidableEq
abbrev ak.cs (x:ak):List Value:=[.int .i64 x.ID,.int .i64 x.ai,.int .i64 x.Rights,.int .i64 x.ar,.int .i64 x.From]
abbrev ak.val (x:ak):Value:= .agg #[.int .i64 x.ID,.int .i64 x.ai,.int .i64 x.Rights,.int .i64 x.ar,.int .i64 x.From]
abbrev Place.val (x:Place):Value:= .agg #[.int .i64 x.ag,.int .i64 x.Slot]
abbrev Held.cs (x:Held):List Value:=[.int .i64 x.Place.ag,.int .i64 x.Place.Slot,.int .i64 x.ak]
abbrev Held.val (x:Held):Value:= .agg #[.int .i64 x.Place.ag,.int .i64 x.Place.Slot,.int .i64 x.ak]
abbrev ai.cs (x:ai):List Value:=[.int .i64 x.ID,.int .i64 x.Kind,.string x.Data]
abbrev ai.val (x:ai):Value:= .agg #[.int .i64 x.ID,.int .i64 x.Kind,.string x.Data]
abbrev Note.cs (x:Note):List Value:=[.int .i64 x.Port,.string x.Data,.int .i64 x.ar,.int .i64 x.ak]
abbrev Note.val (x:Note):Value:= .agg #[.int .i64 x.Port,.string x.Data,.int .i64 x.ar,.int .i64 x.ak]
abbrev Change.cs (x:Change):List Value:=[.string x.Key,.string x.Val,.bool x.Gone]
abbrev Change.val (x:Change):Value:= .agg #[.string x.Key,.string x.Val,.bool x.Gone]
instance:Enc ak:=⟨5,ak.cs,fun _=>rfl,fun x u hu=>by simp [ak.cs] at hu;rcases hu with rfl|rfl|rfl|rfl|rfl <;> rfl,by decide⟩
instance:Enc Held:=⟨3,Held.cs,fun _=>rfl,fun x u hu=>by simp [Held.cs] at hu;rcases hu with rfl|rfl|rfl <;> rfl,by decide⟩
instance:Enc ai:=⟨3,ai.cs,fun _=>rfl,fun x u hu=>by simp [ai.cs] at hu;rcases hu with rfl|rfl|rfl <;> rfl,by decide⟩
instance:Enc Note:=⟨4,Note.cs,fun _=>rfl,fun x u hu=>by simp [Note.cs] at hu;rcases hu with rfl|rfl|rfl|rfl <;> rfl,by decide⟩
instance:Enc Change:=⟨3,Change.cs,fun _=>rfl,fun x u hu=>by simp [Change.cs] at hu;rcases hu with rfl|rfl|rfl <;> rfl,by decide⟩
theorem Sl.hY {w:World}{v:Value}{l:List Held}(h:Sl w v l){i:Nat}(hi:i<l.length):∃b off c,v = .slice (some ⟨b,off,none⟩) l.length c∧b<w.heap.size ∧
    w.cell? ⟨b,off+i*3,none⟩=some (.int .i64 l[i].Place.ag)∧w.cell? ⟨b,off+i*3+1,none⟩=some (.int .i64 l[i].Place.Slot)∧w.cell? ⟨b,off+i*3+2,none⟩=some (.int .i64 l[i].ak):=by
  obtain ⟨b,off,c,hv,hb,hc⟩:=h.at hi
  exact ⟨b,off,c,hv,hb,hc 0 _ rfl,hc 1 _ rfl,hc 2 _ rfl⟩
def sZ (w:World)(b:Nat)(x:ak):Prop:=w.cell? ⟨b,0,none⟩=some (.int .i64 x.ID)∧w.cell? ⟨b,1,none⟩=some (.int .i64 x.ai)∧w.cell? ⟨b,2,none⟩=some (.int .i64 x.Rights)∧w.cell? ⟨b,3,none⟩=some (.int .i64 x.ar)∧w.cell? ⟨b,4,none⟩=some (.int .i64 x.From)
theorem sZ.new (w:World)(x:ak)(t:TypeId):sZ (w.alloc (.cells #[.int .i64 x.ID,.int .i64 x.ai,.int .i64 x.Rights,.int .i64 x.ar,.int .i64 x.From] t)) w.heap.size x:=by
  unfold sZ;simp [go_sem]
theorem sZ.ext {w w':World}{b:Nat}{x:ak}(h:sZ w b x)(e:Ext w w'):sZ w' b x:=⟨e.ia h.1,e.ia h.2.1,e.ia h.2.2.1,e.ia h.2.2.2.1,e.ia h.2.2.2.2⟩
def eG (n:Int):Value:=if n=0 then .nilIface else .iface 82 (.int .i64 n)
theorem mT {n:Int}(h:n≠0):eG n = .iface 82 (.int .i64 n):=by unfold eG;rw [if_neg h]
end Go.Proofs.YtbkfhjaibhnkmaaGreatDoor
end
