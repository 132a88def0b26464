import Derived.WalkKit
import Derived.WalkSpells
import Derived.WalkLawsBesides
import Derived.Lib.Hide
import Derived.Deep.Draws
import Derived.Deep.AppendLies
import Derived.Deep.Slices
import Derived.Deep.Fields
import Derived.ChangeSame
import Derived.ProofKit
import Derived.OpenShut
import Derived.ShutString
import Derived.ChangeOld
import Derived.Carry
import Derived.Lib.SmallJoins
import Derived.Test.YtnmpibjlnninjaaGreatDoorProg
import Derived.Orders
namespace Go.Proofs.YtnmpibjlnninjaaGreatDoor
set_option linter.unusedVariables false
set_option linter.unusedSimpArgs false
set_option maxRecDepth 100000
set_option maxHeartbeats 90000000
section
open Go.RowKit
def Ext (w w':World):Prop:=Below w.heap.size w w'
theorem ae{p:Prop}(h:p:=by omega):p:=h
theorem ai{p:Prop}(h:p:=by kernel_rfl):p:=h
theorem aD{p:Prop}(h:p:=by decide):p:=h
theorem az{p:Prop}(h:p:=by (simp;omega)):p:=h
theorem aO{p:Prop}(h:p:=by dsimp only;omega):p:=h
theorem bW{p:Prop}(h:p:=by simp):p:=h
theorem ck{p:Prop}(h:p:=by rfl):p:=h
theorem af{p:Prop}(h:p:=by assumption):p:=h
theorem Ex{p:Prop}(h:p:=by exact Int.le_refl 0):p:=h
theorem me{p:Prop}(h:p:=by (rw [ByteArray.size_extract];omega)):p:=h
theorem tT{p:Prop}(h:p:=by simp_all):p:=h
theorem aB{p:Prop}(h:p:=by grind):p:=h
theorem Ja{p:Prop}(h:p:=by trivial):p:=h
theorem O{α:Sort _}{a:α}:a=a:=rfl
def bm:List Nat:=[0,1,2,3]
def cu:List Nat:=[0,1,2,3,4,5,6,7]
def da:List Nat:=[0,1,2,3,4]
def dh:List Nat:=[3,2,1,0]
def dQ:List Nat:=[0,1,2,3,4,5,6,7,8]
def kj:List Nat:=[0,1,2,3,4,5,6]
def km:List Nat:=[0,1,2,3,4,5,6,9,10,11]
def kK:List Nat:=[1,2,3,4,5,6,7,8,9,11]
def nD:List Nat:=[0,1,2,3,4,5,6,7,8,9]
def nE:List Nat:=[0,1,2,3,4,5]
def j4:List Nat:=[0,1,2,3,4,5,6,7,8,10]
def j5:List Nat:=[1,2,3,4,5,6,7,8,9,10]
def kP:List Nat:=[5,15,17,18]
def nQ:List Nat:=[3,4,5,6,7,8]
def nU:List Nat:=[1,2,3,4,5,6,7,8,9]
def oI:List Nat:=[4,5,6,7,8,9,10,11,12,13,14,15,16,17,18,19,20,21,22,23,24,25,26]
def qi:List Nat:=[2,3,4,6]
def qj:List Nat:=[2,3,4,5,7]
def qk:List Nat:=[2,3,4,5,6,7,9]
def sK:List Nat:=[4,5,6,7,8,9]
def tU:List Nat:=[1,2,3,4,5,6,7,8]
def tV:List Nat:=[1,2,3,4,6]
def tW:List Nat:=[1,2,3,4,6,7,9,10]
def tX:List Nat:=[1,2,3,5,7,8,9]
def tY:List Nat:=[1,2,3,6,7,8,9]
def tZ:List Nat:=[0,1,2,3,4,5,6,7,8,9,10,11,12,13]
def t6:List Nat:=[2,4,5,6]
def t7:List Nat:=[2,3,5,6,7]
def wN:List Nat:=[1,2,3,4,5]
def wO:List Nat:=[0,1,2,3,5]
def yj:List Nat:=[1,2,3,4,5,6,7]
def yk:List Nat:=[0,2,3,4]
def yl:List Nat:=[1,2,3,0]
def Bo:List Nat:=[2,3,4,5,6,7,8,9]
def Bp:List Nat:=[0,1,2,3,4,6,7,8,9,10,11,12]
def Bq:List Nat:=[0,1,2,3,4,5,6,7,8,9,10,11,12,13,14,15,16,17,18,19,20,21,22]
def Ey:List Nat:=[0,1,2,3,4,5,6,7,8,9,10,11,12,13,14,15,16,17,18]
def Ez:List Nat:=[1,2,3,4,5,6]
def EA:List Nat:=[0,1,2,3,6,7,8]
def EB:List Nat:=[0,1,2,5,6,7]
def EC:List Nat:=[0,1,2,3,4,5,6,7,8,9,10]
def ED:List Nat:=[0,1,2,4,5,6,7,8]
def EE:List Nat:=[0,1,2,3,4,5,6,7,8,9,10,11,12,13,14,15,16,17,18,19,20,21,22,23,24,25,26,27]
def EF:List Nat:=[0,1,2,3,4,5,6,7,8,9,10,11,12,13,14,15,16,17,18,19,20,21,22,23,24,25,26,27,28,29,30,31]
def EG:List Nat:=[0,1,2,3,4,5,6,7,8,9,10,11,12,13,14,15,16,17,18,19,20,21,22,23,24,25,26,27,28,29,30,31,32,33,34,35,36]
def Jb:List Nat:=[5,4,3,2,1,0,6,7]
def Jc:List Nat:=[1,2,3,4,5,6,7,9]
def Md:List Nat:=[8,9,10,11,12,13,14,15,16,17,18,19,20,21,22,23,24,25,26,27,28,29,30,31,32,33,34,35]
def Me:List Nat:=[8,9,10,11,12,13,14,15,16,17,18,19,20,21,22,23,24,25,26,27,28,29,30,31,32,33,34,35,36,37,38,39]
def Mf:List Nat:=[8,9,10,11,12,13,14,15,16,17,18,19,20,21,22,23,24,25,26,27,28,29,30,31,32,33,34,35,36,37,38,39,40,41,42,43,44]
theorem Ext.below {w w':World}(h:Ext w w'):Below w.heap.size w w':=h
theorem Ext.mk {w w':World}(h:Below w.heap.size w w'):Ext w w':=h
attribute [irreducible] Ext
theorem Ext.refl (w:World):Ext w w:=Ext.mk (Below.refl _ _)
theorem Ext.size {w w':World}(h:Ext w w'):w.heap.size<=w'.heap.size:=h.below.size
theorem Ext.trans {a b c:World}(h:Ext a b)(k:Ext b c):Ext a c:=Ext.mk (h.below.trans (k.below.mono h.size))
theorem Ext.alloc {a w:World}(h:Ext a w)(o:Obj):Ext a (w.alloc o):=Ext.mk (h.below.alloc h.size o)
theorem Ext.drew {a w:World}(h:Ext a w):Ext a w.drew:=Ext.mk (h.below.drew)
theorem Ext.drewN {a w:World}(h:Ext a w)(n:Nat):Ext a (w.drewN n):=Ext.mk ⟨h.below.os,h.below.tape,h.below.output,h.below.size,h.below.block⟩
theorem Ext.setCell {a w:World}(h:Ext a w){p:Addr}(hp:a.heap.size<=p.block)(u:Value):Ext a (w.setCell p u):=Ext.mk (h.below.setCell hp u)
theorem Ext.VM {w w':World}(h:Ext w w'){a:Addr}(hb:a.block<w.heap.size):w'.cell? a=w.cell? a:=h.below.cell hb
theorem Ext.cell {w w':World}(h:Ext w w'):∀b o,b<w.heap.size->w'.cell? ⟨b,o,none⟩=w.cell? ⟨b,o,none⟩:=fun b o hb=>h.below.cell (p:=⟨b,o,none⟩) hb
theorem Ext.frozen {w w':World}(h:Ext w w'):∀b o,b<w.heap.size->w'.frozen? ⟨b,o,none⟩=w.frozen? ⟨b,o,none⟩:=fun b o hb=>h.below.frozen (p:=⟨b,o,none⟩) hb
theorem Ext.oJ {w w':World}(h:Ext w w'){a:Addr}{v:Value}(hv:w.cell? a=some v):w'.cell? a=some v:=(h.VM (World.block_lt_of_cell? w a hv)).trans hv
theorem Ext.heap {w w':World}(h:Ext w w'){k:Nat}(hk:k<w.heap.size):w'.heap[k]? = w.heap[k]?:=h.below.block k hk
theorem Ext.grown {a w w':World}{row:Option Nat}(h:Ext a w)(hg:w.grownBy w' row)(hr:∀k,row=some k->a.heap.size<=k):Ext a w':=Ext.mk (h.below.grown hg h.size hr)
theorem Vo {w:World}{o1 o2:Obj}{b o:Nat}{v:Value}(hb:b<w.heap.size)(h:(w.alloc o1).cell? ⟨b,o,none⟩=some v):(w.alloc o2).cell? ⟨b,o,none⟩=some v:=by
 grind [World.cell?_alloc_lt]
theorem cell_far {w:World}{g i:Nat}{u:Value}{b o:Nat}{v:Value}(hb:b≠g)(h:w.cell? ⟨b,o,none⟩=some v):(w.setCell ⟨g,i,none⟩ u).cell? ⟨b,o,none⟩=some v:=by
 grind [World.cell?_setCell_other]
theorem Yj {w:World}{b o:Nat}{v:Value}(hv:w.cell? ⟨b,o,none⟩=some v):b≠w.heap.size:=fun e=>by have:=World.block_lt_of_cell? w _ hv;grind
theorem Yk {w:World}{b o:Nat}{v:Value}(hv:w.cell? ⟨b,o,none⟩=some v):b<w.heap.size:=World.block_lt_of_cell? w _ hv
class Enc (α:Type) where
  k:Nat
  cells:α->List Value
  len:∀x,(cells x).length=k
  one:∀x,∀u∈cells x,u.oneCell'=true
  pos:0<k
instance:Enc Int:=⟨1,fun n=>[.int .i64 n],fun _=>rfl,fun _ u hu=>by simp at hu;subst hu;rfl,by decide⟩
instance:Enc ByteArray:=⟨1,fun s=>[.string s],fun _=>rfl,fun _ u hu=>by simp at hu;subst hu;rfl,by decide⟩
theorem flat_get {α:Type}[Enc α]:∀ (l:List α) (i:Nat) (x:α) (j:Nat) (u:Value),l[i]? = some x->(Enc.cells x)[j]? = some u->(l.flatMap Enc.cells)[i*Enc.k α+j]? = some u
 | [],i,x,j,u,h,_=>by simp at h
 | y::l,0,x,j,u,h,hj=>by
  simp at h;subst h
  have hl:j<(Enc.cells y).length:=(List.getElem?_eq_some_iff.1 hj).1
  simp only [List.flatMap_cons,Nat.zero_mul,Nat.zero_add]
  rw [List.getElem?_append_left hl];exact hj
 | y::l,i+1,x,j,u,h,hj=>by
  have h':l[i]? = some x:=by simpa using h
  have ih:=flat_get l i x j u h' hj
  simp only [List.flatMap_cons]
  rw [List.getElem?_append_right (by rw [Enc.len,Nat.add_mul];omega),Enc.len,<- ih]
  congr 1
  rw [Nat.add_mul];omega
theorem eK {α:Type}[Enc α](l:List α):(l.flatMap Enc.cells).length=l.length*Enc.k α:=by
 induction l with
 | nil=>simp
 | cons y l ih=>grind [List.length_append,Enc.len,List.length_cons,Nat.add_mul]
theorem lL {α:Type}[Enc α](l:List α):∀u∈l.flatMap Enc.cells,u.oneCell'=true:=by
 grind [Enc.one]
def Sl {α:Type}[Enc α](w:World)(v:Value)(l:List α):Prop :=
  ∃A c,v = .slice A l.length c/\l.length<=c/\c<=maxLen /\
    ∀i x,l[i]? = some x -> ∃b off,A=some ⟨b,off,none⟩/\b<w.heap.size /\ ∀j u,(Enc.cells x)[j]? = some u->w.cell? ⟨b,off+i*Enc.k α+j,none⟩=some u
section
variable {α:Type} [Enc α] {w w':World} {v:Value} {l:List α}
theorem Sl.ext (h:Sl w v l)(e:Ext w w'):Sl w' v l:=by
 obtain ⟨A,c,hv,h1,h2,h3⟩:=h
 refine ⟨A,c,hv,h1,h2,fun i x hx=>?_⟩
 obtain ⟨b,off,hA,hb,hc⟩:=h3 i x hx
 exact ⟨b,off,hA,Nat.lt_of_lt_of_le hb e.size,fun j u hu=>e.oJ (hc j u hu)⟩
theorem Sl.nil (w:World):Sl w (.slice none 0 0) ([]:List α):=⟨none,0,rfl,bW,bW,fun i x h=>by grind⟩
theorem Sl.form (h:Sl w v l):∃A c,v = .slice A l.length c/\l.length<=c/\c<=9223372036854775807:=by
 obtain ⟨A,c,hv,h1,h2,_⟩:=h
 grind [maxLen]
theorem Sl.take {A:Option Addr}{n c:Nat}(h:Sl w (.slice A n c) l){k:Nat}(hk:k<=l.length):Sl w (.slice A k c) (l.take k):=by
 obtain ⟨A',c',hv,h1,h2,h3⟩:=h
 simp only [Value.slice.injEq] at hv
 obtain ⟨rfl,rfl,rfl⟩:=hv
 have hl:(l.take k).length=k:=aB
 refine ⟨A,c,by rw [hl],ae,h2,fun i x hx=>h3 i x ?_⟩
 grind
theorem Sl.at (h:Sl w v l){i:Nat}(hi:i<l.length):∃b off c,v = .slice (some ⟨b,off,none⟩) l.length c/\b<w.heap.size /\ ∀j u,(Enc.cells l[i])[j]? = some u->w.cell? ⟨b,off+i*Enc.k α+j,none⟩=some u:=by
 obtain ⟨A,c,rfl,h1,h2,h3⟩:=h
 simp_all
end
def Own {α:Type}[Enc α](base:Nat)(e:TypeId)(w:World)(v:Value)(l:List α):Prop:=w.ownsRow base e (Enc.k α) v l.length (l.flatMap Enc.cells)
section
variable {α:Type} [Enc α] {base:Nat} {e:TypeId} {w w':World} {v:Value} {l:List α}
theorem Own.nil (base:Nat)(e:TypeId)(w:World):Own base e w (.slice none 0 0) ([]:List α):=World.ownsRow_nil w base e _
theorem Own.sl (h:Own base e w v l):Sl w v l:=by
 have hl:=h.lt
 have hcl:=fun g hg=>h.cells (g:=g) hg
 unfold Own at h
 rcases h.2 with ⟨rfl,h0⟩ | ⟨g,cap,cur,rfl,hb,hg,hnc,hcm,hcs,htake⟩
 .grind [List.eq_nil_of_length_eq_zero,Sl.nil]
 refine ⟨_,cap,rfl,hnc,hcm,fun i x hx=>⟨g,0,rfl,(hl g rfl).2,fun j u hu=>?_⟩⟩
 have:=hcl g rfl (i*Enc.k α+j) u (flat_get l i x j u hx hu)
 grind [Enc.k,Addr.add]
theorem Own.ext (h:Own base e w v l)(x:Ext w w'):Own base e w' v l:=World.ownsRow.kept h (row:=none) ⟨x.below.os,x.below.tape,x.below.output,x.size,fun k hk _=>x.heap hk⟩ aB
theorem Own.alloc (h:Own base e w v l)(o:Obj):Own base e (w.alloc o) v l:=World.ownsRow.alloc h o
theorem Own.lower {b2:Nat}(h:Own base e w v l)(hb:b2<=base):Own b2 e w v l:=by
 refine ⟨h.1,?_⟩
 rcases h.2 with h|⟨g,cap,cur,hv,hg,r⟩
 .grind
 exact .inr ⟨g,cap,cur,hv,Nat.le_trans hb hg,r⟩
theorem Own.lt (h:Own base e w v l):∀k,v.ownBlock=some k->base<=k/\k<w.heap.size:=World.ownsRow.lt h
end
section
variable {α:Type} [Enc α] {P:Program} {ops:Array Oper} {rest:List Oper} {o:Oper} {a:Act} {Q:Exit->Act->World->Prop}
theorem EH (hgd:o.guard=none)(s y:Operand)(t:TypeId)(ho:o.op = .call { callee:= .builtin .append,args:= #[s,y],argTypes:= #[t,t] })
 (e:TypeId) (i:TypeInfo) (z:Value) (bytes:Nat) (ht:P.underlying t=some (.slice e)) (hi:P.info? e=some i) (hz:i.zero=some z)
 (hsize:i.size=Enc.k α) (hby:i.bytes=bytes) (hzs:z.cells.size=Enc.k α) (w0 w:World)
 (v:Value) (l:List α) (hs:a.eval s=v) (hown:Own w0.heap.size e w v l) (x:α)
 (b c:Nat) (hx:a.eval y = .slice (some ⟨b,0,none⟩) 1 c) (hc:∀j u,(Enc.cells x)[j]? = some u->w.cell? ⟨b,j,none⟩=some u)
 (hlen:l.length<16777216) (hbb:bytes<=1024) (hext:Ext w0 w)
 (h:∀v' w',Own w0.heap.size e w' v' (l++[x])->Ext w0 w'->w.grownBy w' v.ownBlock->wpList P ops Q rest (a.put o.dst v') w'):wpList P ops Q (o::rest) a w:=by
 have hml:(l.length+1)*bytes<=16777216*1024:=Nat.mul_le_mul ae hbb
 refine wpList_append_own w hgd s y t ho w0.heap.size e i z (Enc.k α) bytes ht hi hz hsize hby hzs Enc.pos v l.length (l.flatMap Enc.cells) hs hown ⟨b,0,none⟩ 1 c (Enc.cells x) hx (by rw [Enc.len,Nat.one_mul]) (fun j u hu=>?_) (Enc.one x) (by grind [maxLen]) ae hext.size (fun v' w' h1 h2 _=>?_)
 .grind [Addr.add]
 refine h v' w' ?_ (hext.grown h2 fun k hk=>(hown.lt k hk).1) h2
 grind [Own]
theorem Mb (hgd:o.guard=none)(s y:Operand)(t:TypeId)(ho:o.op = .call { callee:= .builtin .append,args:= #[s,y],argTypes:= #[t,t] })
 (e:TypeId) (i:TypeInfo) (z:Value) (bytes:Nat) (ht:P.underlying t=some (.slice e)) (hi:P.info? e=some i) (hz:i.zero=some z)
 (hsize:i.size=Enc.k α) (hby:i.bytes=bytes) (hzs:z.cells.size=Enc.k α) (hbb:bytes<=1024) (w0 w:World)
 (v:Value) (l:List α) (x:α) (hs:a.eval s=v) (hown:Own w0.heap.size e w v l)
 {nb:Nat} (hx:a.eval y = .slice (some ⟨nb,0,none⟩) 1 1) (hnb:nb=w.heap.size) (hlen:l.length<16777216) (hext:Ext w0 w)
 (h:∀v' w',Own w0.heap.size e w' v' (l++[x])->Ext w0 w'->w.grownBy w' v.ownBlock->wpList P ops Q rest (a.put o.dst v') w') :
 wpList P ops Q (o::rest) a (w.alloc (.cells (Enc.cells x).toArray e)):=by
 subst hnb
 refine EH hgd s y t ho e i z bytes ht hi hz hsize hby hzs w0 _ v l hs (hown.alloc _) x w.heap.size 1 hx (fun j u hj=>?_) hlen hbb (hext.alloc _) (fun v' w' h1 h2 h3=>h v' w' h1 h2 ?_)
 .simp_all
 exact ⟨h3.os,h3.tape,h3.output,Nat.le_trans bW h3.size,fun k hk hne=>(h3.block k az hne).trans (Below.heap_alloc w _ k hk)⟩
end
theorem Yl {k:IntKind}{a b:Int}(h:a=b):Ending.returned (.int k a) = .returned (.int k b):=by rw [h]
theorem VN {a b:Bool}(h:a=b):Ending.returned (.bool a) = .returned (.bool b):=by rw [h]
end
section
open Go.RowKit
structure ap where
  ID:Int
  aA:Int
  Rights:Int
  aU:Int
  From:Int
  deriving DecidableEq
abbrev fY (x:ap):List Value:=[.int .i64 x.ID,.int .i64 x.aA,.int .i64 x.Rights,.int .i64 x.aU,.int .i64 x.From]
structure Place where
  ay:Int
  Slot:Int
  deriving DecidableEq
abbrev jO (x:Place):List Value:=[.int .i64 x.ay,.int .i64 x.Slot]
structure Held where
  Place:Place
  ap:Int
  deriving DecidableEq
abbrev fZ (x:Held):List Value:=[.int .i64 x.Place.ay,.int .i64 x.Place.Slot,.int .i64 x.ap]
structure aA where
  ID:Int
  Kind:Int
  Data:ByteArray
  deriving DecidableEq
abbrev lB (x:aA):List Value:=[.int .i64 x.ID,.int .i64 x.Kind,.string x.Data]
structure Note where
  Port:Int
  Data:ByteArray
  aU:Int
  ap:Int
  deriving DecidableEq
abbrev mP (x:Note):List Value:=[.int .i64 x.Port,.string x.Data,.int .i64 x.aU,.int .i64 x.ap]
structure Change where
  Key:ByteArray
  Val:ByteArray
  Gone:Bool
  deriving DecidableEq
abbrev dS (x:Change):List Value:=[.string x.Key,.string x.Val,.bool x.Gone]
structure av where
  ao:List ap
  Things:List aA
  Held:List Held
  Notes:List Note
  ag:Int
  ah:Int
  deriving DecidableEq
abbrev ap.cs (x:ap):List Value:=[.int .i64 x.ID,.int .i64 x.aA,.int .i64 x.Rights,.int .i64 x.aU,.int .i64 x.From]
abbrev ap.val (x:ap):Value:= .agg #[.int .i64 x.ID,.int .i64 x.aA,.int .i64 x.Rights,.int .i64 x.aU,.int .i64 x.From]
abbrev Place.val (x:Place):Value:= .agg #[.int .i64 x.ay,.int .i64 x.Slot]
abbrev Held.cs (x:Held):List Value:=[.int .i64 x.Place.ay,.int .i64 x.Place.Slot,.int .i64 x.ap]
abbrev Held.val (x:Held):Value:= .agg #[.int .i64 x.Place.ay,.int .i64 x.Place.Slot,.int .i64 x.ap]
abbrev aA.cs (x:aA):List Value:=[.int .i64 x.ID,.int .i64 x.Kind,.string x.Data]
abbrev aA.val (x:aA):Value:= .agg #[.int .i64 x.ID,.int .i64 x.Kind,.string x.Data]
abbrev Note.cs (x:Note):List Value:=[.int .i64 x.Port,.string x.Data,.int .i64 x.aU,.int .i64 x.ap]
abbrev Note.val (x:Note):Value:= .agg #[.int .i64 x.Port,.string x.Data,.int .i64 x.aU,.int .i64 x.ap]
abbrev Change.cs (x:Change):List Value:=[.string x.Key,.string x.Val,.bool x.Gone]
abbrev Change.val (x:Change):Value:= .agg #[.string x.Key,.string x.Val,.bool x.Gone]
instance:Enc ap:=⟨5,ap.cs,fun _=>rfl,fun x u hu=>by simp [ap.cs] at hu;rcases hu with rfl|rfl|rfl|rfl|rfl <;> rfl,by decide⟩
instance:Enc Held:=⟨3,Held.cs,fun _=>rfl,fun x u hu=>by simp [Held.cs] at hu;rcases hu with rfl|rfl|rfl <;> rfl,by decide⟩
instance:Enc aA:=⟨3,aA.cs,fun _=>rfl,fun x u hu=>by simp [aA.cs] at hu;rcases hu with rfl|rfl|rfl <;> rfl,by decide⟩
instance:Enc Note:=⟨4,Note.cs,fun _=>rfl,fun x u hu=>by simp [Note.cs] at hu;rcases hu with rfl|rfl|rfl|rfl <;> rfl,by decide⟩
instance:Enc Change:=⟨3,Change.cs,fun _=>rfl,fun x u hu=>by simp [Change.cs] at hu;rcases hu with rfl|rfl|rfl <;> rfl,by decide⟩
theorem Sl.atW {w:World}{v:Value}{l:List ap}(h:Sl w v l){i:Nat}(hi:i<l.length):∃b off c,v = .slice (some ⟨b,off,none⟩) l.length c/\b<w.heap.size /\
 w.cell? ⟨b,off+i*5,none⟩=some (.int .i64 l[i].ID)/\w.cell? ⟨b,off+i*5+1,none⟩=some (.int .i64 l[i].aA)/\w.cell? ⟨b,off+i*5+2,none⟩=some (.int .i64 l[i].Rights) /\
 w.cell? ⟨b,off+i*5+3,none⟩=some (.int .i64 l[i].aU)/\w.cell? ⟨b,off+i*5+4,none⟩=some (.int .i64 l[i].From):=by
 obtain ⟨b,off,c,hv,hb,hc⟩:=h.at hi
 exact ⟨b,off,c,hv,hb,hc 0 _ rfl,hc 1 _ rfl,hc 2 _ rfl,hc 3 _ rfl,hc 4 _ rfl⟩
theorem Sl.mG {w:World}{v:Value}{l:List Held}(h:Sl w v l){i:Nat}(hi:i<l.length):∃b off c,v = .slice (some ⟨b,off,none⟩) l.length c/\b<w.heap.size /\
 w.cell? ⟨b,off+i*3,none⟩=some (.int .i64 l[i].Place.ay)/\w.cell? ⟨b,off+i*3+1,none⟩=some (.int .i64 l[i].Place.Slot)/\w.cell? ⟨b,off+i*3+2,none⟩=some (.int .i64 l[i].ap):=by
 obtain ⟨b,off,c,hv,hb,hc⟩:=h.at hi
 exact ⟨b,off,c,hv,hb,hc 0 _ rfl,hc 1 _ rfl,hc 2 _ rfl⟩
theorem Sl.atT {w:World}{v:Value}{l:List aA}(h:Sl w v l){i:Nat}(hi:i<l.length):∃b off c,v = .slice (some ⟨b,off,none⟩) l.length c/\b<w.heap.size /\
 w.cell? ⟨b,off+i*3,none⟩=some (.int .i64 l[i].ID)/\w.cell? ⟨b,off+i*3+1,none⟩=some (.int .i64 l[i].Kind)/\w.cell? ⟨b,off+i*3+2,none⟩=some (.string l[i].Data):=by
 obtain ⟨b,off,c,hv,hb,hc⟩:=h.at hi
 exact ⟨b,off,c,hv,hb,hc 0 _ rfl,hc 1 _ rfl,hc 2 _ rfl⟩
theorem Sl.atN {w:World}{v:Value}{l:List Note}(h:Sl w v l){i:Nat}(hi:i<l.length):∃b off c,v = .slice (some ⟨b,off,none⟩) l.length c/\b<w.heap.size /\
 w.cell? ⟨b,off+i*4,none⟩=some (.int .i64 l[i].Port)/\w.cell? ⟨b,off+i*4+1,none⟩=some (.string l[i].Data)/\w.cell? ⟨b,off+i*4+2,none⟩=some (.int .i64 l[i].aU)/\w.cell? ⟨b,off+i*4+3,none⟩=some (.int .i64 l[i].ap):=by
 obtain ⟨b,off,c,hv,hb,hc⟩:=h.at hi
 exact ⟨b,off,c,hv,hb,hc 0 _ rfl,hc 1 _ rfl,hc 2 _ rfl,hc 3 _ rfl⟩
theorem Sl.atC {w:World}{v:Value}{l:List Change}(h:Sl w v l){i:Nat}(hi:i<l.length):∃b off c,v = .slice (some ⟨b,off,none⟩) l.length c/\b<w.heap.size /\
 w.cell? ⟨b,off+i*3,none⟩=some (.string l[i].Key)/\w.cell? ⟨b,off+i*3+1,none⟩=some (.string l[i].Val)/\w.cell? ⟨b,off+i*3+2,none⟩=some (.bool l[i].Gone):=by
 obtain ⟨b,off,c,hv,hb,hc⟩:=h.at hi
 exact ⟨b,off,c,hv,hb,hc 0 _ rfl,hc 1 _ rfl,hc 2 _ rfl⟩
theorem Sl.atI {w:World}{v:Value}{l:List Int}(h:Sl w v l){i:Nat}(hi:i<l.length):∃b off c,v = .slice (some ⟨b,off,none⟩) l.length c/\b<w.heap.size/\w.cell? ⟨b,off+i,none⟩=some (.int .i64 l[i]):=by
 obtain ⟨b,off,c,hv,hb,hc⟩:=h.at hi
 refine ⟨b,off,c,hv,hb,?_⟩
 have:=hc 0 _ rfl
 simp_all [Enc.k]
theorem Sl.atS {w:World}{v:Value}{l:List ByteArray}(h:Sl w v l){i:Nat}(hi:i<l.length):∃b off c,v = .slice (some ⟨b,off,none⟩) l.length c/\b<w.heap.size/\w.cell? ⟨b,off+i,none⟩=some (.string l[i]):=by
 obtain ⟨b,off,c,hv,hb,hc⟩:=h.at hi
 refine ⟨b,off,c,hv,hb,?_⟩
 have:=hc 0 _ rfl
 simp_all [Enc.k]
theorem Sl.YB {w:World}{b off n c:Nat}{l:List ap}(h:Sl w (.slice (some ⟨b,off,none⟩) n c) l){i:Nat}(hi:i<l.length) :
 w.cell? ⟨b,off+i*5,none⟩=some (.int .i64 l[i].ID)/\w.cell? ⟨b,off+i*5+1,none⟩=some (.int .i64 l[i].aA)/\w.cell? ⟨b,off+i*5+2,none⟩=some (.int .i64 l[i].Rights) /\
 w.cell? ⟨b,off+i*5+3,none⟩=some (.int .i64 l[i].aU)/\w.cell? ⟨b,off+i*5+4,none⟩=some (.int .i64 l[i].From):=by
 obtain ⟨b',off',c',hv,hb,r⟩:=h.atW hi
 grind
def Kp (w:World)(b:Nat)(x:ap):Prop:=w.cell? ⟨b,0,none⟩=some (.int .i64 x.ID)/\w.cell? ⟨b,1,none⟩=some (.int .i64 x.aA)/\w.cell? ⟨b,2,none⟩=some (.int .i64 x.Rights)/\w.cell? ⟨b,3,none⟩=some (.int .i64 x.aU)/\w.cell? ⟨b,4,none⟩=some (.int .i64 x.From)
theorem Kp.new (w:World)(x:ap)(t:TypeId):Kp (w.alloc (.cells #[.int .i64 x.ID,.int .i64 x.aA,.int .i64 x.Rights,.int .i64 x.aU,.int .i64 x.From] t)) w.heap.size x:=by
 simp_all [Kp]
theorem Kp.ext {w w':World}{b:Nat}{x:ap}(h:Kp w b x)(e:Ext w w'):Kp w' b x:=⟨e.oJ h.1,e.oJ h.2.1,e.oJ h.2.2.1,e.oJ h.2.2.2.1,e.oJ h.2.2.2.2⟩
def VO (w2:World)(b:Nat)(z0 z1 z2 z3 z4:Value):Prop :=
  (w2.cell? ⟨b,0,none⟩=some z0/\w2.cell? ⟨b,1,none⟩=some z1/\w2.cell? ⟨b,2,none⟩=some z2/\w2.cell? ⟨b,3,none⟩=some z3/\w2.cell? ⟨b,4,none⟩=some z4) /\ ∀i,w2.frozen? ⟨b,i,none⟩=false
theorem Vp {W w2:World}{t:TypeId}{m:Nat}{z0 z1 z2 z3 z4:Value}(h:Ext ((W.drewN m).alloc (.cells #[z0,z1,z2,z3,z4] t)) w2):VO w2 W.heap.size z0 z1 z2 z3 z4:=by
 have h:Ext (W.alloc (.cells #[z0,z1,z2,z3,z4] t)) w2:=(show Ext (W.alloc (.cells #[z0,z1,z2,z3,z4] t)) ((W.drewN m).alloc (.cells #[z0,z1,z2,z3,z4] t)) from ((Ext.refl (W.alloc (.cells #[z0,z1,z2,z3,z4] t))).drewN m)).trans h
 have hb:W.heap.size<(W.alloc (.cells #[z0,z1,z2,z3,z4] t)).heap.size:=bW
 refine ⟨⟨?_,?_,?_,?_,?_⟩,fun i=>?_⟩
 .rw [h.cell _ _ hb];simp
 .rw [h.cell _ _ hb];simp
 .rw [h.cell _ _ hb];simp
 .rw [h.cell _ _ hb];simp
 .rw [h.cell _ _ hb];simp
 rw [h.frozen _ _ hb]
 simp
def cD (n:Int):Value:=if n=0 then .nilIface else .iface 95 (.int .i64 n)
abbrev iV (n:Int):Value:= .int .i64 n
abbrev nS:Value:= .slice none 0 0
abbrev t8:List Value:=[.slice none 0 0,.slice none 0 0,.slice none 0 0,.slice none 0 0,.int .i64 0,.int .i64 0]
abbrev YC:List Value:=[.int .i64 0,.int .i64 0,.int .i64 0,.int .i64 0,.int .i64 0]
abbrev aac:List Value:=[.int .i64 0,.int .i64 0,.int .i64 0]
theorem Vq:cD 0 = .nilIface:=rfl
theorem ua {n:Int}(h:n≠0):cD n = .iface 95 (.int .i64 n):=by simp_all [cD,if_neg]
end
section
open Go.ChangeShapes Go.WideShapes Go.ChangeAt Go.RowKit Go.Deep
def Hf (n:Int):Prop:= -9223372036854775808<=n/\n<=9223372036854775807
theorem Bs {n:Int}(h:(Lit.int .i64 n).wf=true):Hf n:=by
 have:=bounds_i64 h;unfold Hf;omega
theorem wP {α:Type}(p:Nat->α->Prop):∀ (n:Nat),(∀i,i<n -> ∃x,p i x) -> ∃l:List α,l.length=n /\ ∀i x,l[i]? = some x->p i x
 | 0,_=>⟨[],rfl,fun i x h=>by simp at h⟩
 | n+1,h=>by
  obtain ⟨l,hl,hp⟩:=wP p n (fun i hi=>h i ae)
  obtain ⟨y,hy⟩:=h n ae
  refine ⟨l++[y],by simp [hl],fun i x hx=>?_⟩
  rcases Nat.lt_or_ge i l.length with hi|hi
  .rw [List.getElem?_append_left hi] at hx;exact hp i x hx
  rw [List.getElem?_append_right hi] at hx
  have:i=n:=by
   have h1:i-l.length<1:=by have:=(List.getElem?_eq_some_iff.1 hx).1;simpa using this
   omega
  subst this
  rw [hl] at hx
  simp at hx;subst hx;exact hy
section
variable {H:Type} {enc:TypeId×Value->H} {P:Program} {w:World} {base:Nat} {spare:Nat->Bool} {held:Bool}
theorem open_list {α:Type}[Enc α]{t e:TypeId}{fuel:Nat}{v:Value}{x:DataW H×List MemPlace}(ht:P.underlying t=some (.slice e))(hC:P.cellsOf e=Enc.k α)(good:α->Prop)
 (hel:∀ (m:Nat) (cs:List Value) (y:DataW H×List MemPlace),cs.length=Enc.k α->DataW.trod enc P w base spare held m e cs=some y -> ∃z:α,cs=Enc.cells z/\good z)
 (h:DataW.trod enc P w base spare held fuel t [v]=some x):∃l:List α,Sl w v l /\ ∀z∈l,good z:=by
 rcases open_slice ht h with ⟨hcs,_⟩ | ⟨a,len,cap,m,n,D,Pl,hcs,hb,hl,hm,hmm,hx,hi⟩
 .
  injection hcs with h1 _
  subst h1
  exact ⟨[],Sl.nil w,fun z hz=>by simp at hz⟩
 injection hcs with h1 _
 subst h1
 have hlm:len<=m:=by rw [hmm];split <;> omega
 obtain ⟨l,hlen,hp⟩:=wP (fun i (z:α)=>good z /\ ∀j u,(Enc.cells z)[j]? = some u->w.cell? (a.add (i*Enc.k α+j))=some u) len (fun i hil=>by
  obtain ⟨cs',hc,htr⟩:=hi i ae
  rw [hC] at hc
  obtain ⟨_,hcl,hat⟩:=World.cells?_some hc
  obtain ⟨z,hz,hg⟩:=hel n cs' _ hcl htr
  refine ⟨z,hg,fun j u hu=>?_⟩
  subst hz
  have hj:j<Enc.k α:=by rw [<- hcl];exact (List.getElem?_eq_some_iff.1 hu).1
  have:=hat j hj
  rw [add_add] at this
  rw [this];exact hu)
 have hpos:0<Enc.k α:=Enc.pos
 refine ⟨l,⟨some a,cap,by rw [hlen],ae,hm,fun i z hz=>?_⟩,fun z hz=>?_⟩
 .
  obtain ⟨hg,hc⟩:=hp i z hz
  have hnil:0<(Enc.cells z).length:=by rw [Enc.len];exact hpos
  have h0:∃u,(l[0]?.map Enc.cells).bind (·[0]?)=some u:=by
   have h0l:0<l.length:=Nat.lt_of_le_of_lt (Nat.zero_le i) (List.getElem?_eq_some_iff.1 hz).1
   have:0<(Enc.cells l[0]).length:=by rw [Enc.len];exact hpos
   exact ⟨(Enc.cells l[0])[0],by simp [List.getElem?_eq_getElem h0l,List.getElem?_eq_getElem this]⟩
  have hspot:a.spot=none:=by
   have h0l:0<l.length:=Nat.lt_of_le_of_lt (Nat.zero_le i) (List.getElem?_eq_some_iff.1 hz).1
   have h0c:0<(Enc.cells l[0]).length:=by rw [Enc.len];exact hpos
   have hc0:=(hp 0 l[0] (List.getElem?_eq_getElem h0l)).2 0 (Enc.cells l[0])[0] (List.getElem?_eq_getElem h0c)
   simp only [Nat.zero_mul,Nat.zero_add,Addr.add,if_true] at hc0
   unfold World.cell? at hc0
   split at hc0
   .
    split at hc0
    .cases hc0
    rename_i hs;simpa using hs
   cases hc0
  obtain ⟨b,off,sp⟩:=a
  simp only [] at hspot
  subst hspot
  have hadd:∀n,(⟨b,off,none⟩:Addr).add n=⟨b,off+n,none⟩:=fun n=>by unfold Addr.add;split <;> simp_all
  refine ⟨b,off,rfl,?_,fun j u hu=>?_⟩
  .
   have hh:=hc 0 (Enc.cells z)[0] (List.getElem?_eq_getElem hnil)
   rw [hadd] at hh
   exact World.block_lt_of_cell? w _ hh
  have hh:=hc j u hu
  rw [hadd,<- Nat.add_assoc] at hh
  exact hh
 obtain ⟨i,hi⟩:=List.mem_iff_getElem?.1 hz
 exact (hp i z hi).1
theorem trodAll_back (hl:laidOutB P=true){W W':World}(hb:Below W.heap.size W W'):∀ {ts:List TypeId} {vs:List Value} {ds:List (DataW H)} {ps:List MemPlace},
 (∀t∈ts,P.readableRec t=true/\t<P.types.size)->DataW.TrodAll enc P W 0 (fun _=>true) true ts vs ds ps ->
 DataW.TrodAll enc P W' 0 (fun b=>decide (b<W.heap.size)) true ts vs ds ps
 | [],vs,ds,ps,_,h=>by
  obtain ⟨rfl,rfl,rfl⟩:=trodAll_nil h
  exact trodAll_mk0
 | t::ts,vs,ds,ps,hr,h=>by
  obtain ⟨v,vs',d,ds',p,q,rfl,rfl,rfl,h0,h1⟩:=trodAll_cons h
  have hlt:∀x∈p,x.block<W.heap.size:=by obtain ⟨m,hm⟩:=h0;exact DataW.trod_lt m _ _ _ hm
  exact trodAll_cons_mk (Below.trod hl (hr t bW).1 (hr t bW).2 h0 hb hlt) (trodAll_back hl hb (fun t' ht'=>hr t' (by simp [ht'])) h1)
end
end
section
open Go.ChangeShapes Go.WideShapes Go.ChangeAt Go.RowKit Go.Deep
theorem aae {cs:List Value}{i:Nat}(h:i<cs.length):(cs.drop i).take 1=[cs[i]]:=by
 rw [List.drop_eq_getElem_cons h];rfl
def ap.Fit (x:ap):Prop:=Hf x.ID/\Hf x.aA/\Hf x.Rights/\Hf x.aU/\Hf x.From
section
variable {H:Type} {enc:TypeId×Value->H} {w:World} {base:Nat} {spare:Nat->Bool} {held:Bool}
theorem mQ {m:Nat}{c:Value}{y:DataW H×List MemPlace}(h:DataW.trod enc Tryz.prog w base spare held m 3 [c]=some y):∃n,c = .int .i64 n/\Hf n:=by
 obtain ⟨n,hn,_,hw⟩:=DataW.trod_int Tryz.underlying3 h
 injection hn with hn _
 exact ⟨n,hn,Bs hw⟩
theorem eL {P:Program}{fs:Array Field}{n:Nat}{cs:List Value}{xs:List (DataW H×List MemPlace)}
 (hf:∀ (i:Nat) (f:Field),fs[i]? = some f->DataW.trod enc P w base spare held n f.type ((cs.drop f.offset).take (P.cellsOf f.type))=xs[i]?)
 (i:Nat) (f:Field) (hi:fs[i]? = some f) (t o k:Nat) (ht:f.type=t) (ho:f.offset=o) (hk:P.cellsOf t=k):DataW.trod enc P w base spare held n t ((cs.drop o).take k)=xs[i]?:=by
 subst ht ho hk;exact hf i f hi
theorem jf:Tryz.prog.cellsOf 3=1:=ai
theorem Bt:Tryz.prog.cellsOf 126=5:=ai
theorem Jd {m:Nat}{cs:List Value}{y:DataW H×List MemPlace}(hl:cs.length=5)(h:DataW.trod enc Tryz.prog w base spare held m 126 cs=some y):∃z:ap,cs=Enc.cells z/\z.Fit:=by
 match cs,hl with
 | [c0,c1,c2,c3,c4],_ =>
  obtain ⟨xs,n,_,_,_,hlen,hf⟩:=DataW.trod_struct Tryz.underlying126 h
  match xs,hlen with
  | [y0,y1,y2,y3,y4],_ =>
   have g0:=eL hf 0 _ rfl 3 0 1 rfl rfl jf;have g1:=eL hf 1 _ rfl 3 1 1 rfl rfl jf;have g2:=eL hf 2 _ rfl 3 2 1 rfl rfl jf;have g3:=eL hf 3 _ rfl 3 3 1 rfl rfl jf;have g4:=eL hf 4 _ rfl 3 4 1 rfl rfl jf
   obtain ⟨n0,rfl,w0⟩:=mQ (c:=c0) (by simpa using g0)
   obtain ⟨n1,rfl,w1⟩:=mQ (c:=c1) (by simpa using g1)
   obtain ⟨n2,rfl,w2⟩:=mQ (c:=c2) (by simpa using g2)
   obtain ⟨n3,rfl,w3⟩:=mQ (c:=c3) (by simpa using g3)
   obtain ⟨n4,rfl,w4⟩:=mQ (c:=c4) (by simpa using g4)
   exact ⟨⟨n0,n1,n2,n3,n4⟩,rfl,w0,w1,w2,w3,w4⟩
theorem Ym {r:Reach}{b0:Nat}{v:Value}{d:DataW H}{p:List MemPlace}(hv:Value.okWide Tryz.prog w r b0 3 v)(h:DataW.Trod enc Tryz.prog w base spare held 3 v d p):∃n,v = .int .i64 n/\Hf n:=by
 obtain ⟨n,hn,_,_,hw⟩:=open_int Tryz.underlying3 hv h
 exact ⟨n,hn,Bs hw⟩
theorem Tb {r:Reach}{b0:Nat}{v:Value}{d:DataW H}{p:List MemPlace}(hv:Value.okWide Tryz.prog w r b0 9 v)(h:DataW.Trod enc Tryz.prog w base spare held 9 v d p):∃s:ByteArray,v = .string s/\s.size<=maxLen:=by
 obtain ⟨s,hs,_,_,hw⟩:=Go.ChangeMaps.open_string Tryz.underlying9 hv h
 exact ⟨s,hs,hw⟩
theorem VP {r:Reach}{b0:Nat}{v:Value}{d:DataW H}{p:List MemPlace}(hv:Value.okWide Tryz.prog w r b0 126 v)(h:DataW.Trod enc Tryz.prog w base spare held 126 v d p):∃x:ap,v=x.val/\x.Fit:=by
 obtain ⟨cs,rfl,hsz⟩:=okWide_struct Tryz.underlying126 hv
 obtain ⟨m,hm⟩:=h
 obtain ⟨z,hz,hg⟩:=Jd (cs:=cs.toList) (by simpa using hsz.trans Bt) (by simpa [Value.cells] using hm)
 refine ⟨z,?_,hg⟩
 have:cs=(Enc.cells z).toArray:=by rw [<- hz]
 rw [this];rfl
theorem Vr {r:Reach}{b0:Nat}{v:Value}{d:DataW H}{p:List MemPlace}(hv:Value.okWide Tryz.prog w r b0 43 v)(h:DataW.Trod enc Tryz.prog w base spare held 43 v d p):∃l:List ap,Sl w v l /\ ∀z∈l,z.Fit:=by
 obtain ⟨a,len,cap,rfl⟩:=okWide_slice Tryz.underlying43 hv
 obtain ⟨m,hm⟩:=h
 exact open_list Tryz.underlying43 Bt ap.Fit (fun _ _ _ hl hy=>Jd hl hy) hm
end
end
section
open Go.ChangeShapes Go.WideShapes Go.ChangeAt Go.RowKit Go.Deep
def Place.Fit (x:Place):Prop:=Hf x.ay/\Hf x.Slot
def Held.Fit (x:Held):Prop:=x.Place.Fit/\Hf x.ap
section
variable {H:Type} {enc:TypeId×Value->H} {w:World} {base:Nat} {spare:Nat->Bool} {held:Bool}
theorem po:Tryz.prog.cellsOf 32=2:=ai
theorem Kq:Tryz.prog.cellsOf 124=3:=ai
theorem ub {m:Nat}{cs:List Value}{y:DataW H×List MemPlace}(hl:cs.length=2)(h:DataW.trod enc Tryz.prog w base spare held m 32 cs=some y):∃z:Place,cs=[.int .i64 z.ay,.int .i64 z.Slot]/\z.Fit:=by
 match cs,hl with
 | [c0,c1],_ =>
  obtain ⟨xs,n,_,_,_,hlen,hf⟩:=DataW.trod_struct Tryz.underlying32 h
  match xs,hlen with
  | [y0,y1],_ =>
   have g0:=eL hf 0 _ rfl 3 0 1 rfl rfl jf;have g1:=eL hf 1 _ rfl 3 1 1 rfl rfl jf
   obtain ⟨n0,rfl,w0⟩:=mQ (c:=c0) (by simpa using g0)
   obtain ⟨n1,rfl,w1⟩:=mQ (c:=c1) (by simpa using g1)
   exact ⟨⟨n0,n1⟩,rfl,w0,w1⟩
theorem PS {m:Nat}{cs:List Value}{y:DataW H×List MemPlace}(hl:cs.length=3)(h:DataW.trod enc Tryz.prog w base spare held m 124 cs=some y):∃z:Held,cs=Enc.cells z/\z.Fit:=by
 match cs,hl with
 | [c0,c1,c2],_ =>
  obtain ⟨xs,n,_,_,_,hlen,hf⟩:=DataW.trod_struct Tryz.underlying124 h
  match xs,hlen with
  | [y0,y1],_ =>
   have g0:=eL hf 0 _ rfl 32 0 2 rfl rfl po;have g1:=eL hf 1 _ rfl 3 2 1 rfl rfl jf
   obtain ⟨z0,e0,w0⟩:=ub (cs:=[c0,c1]) rfl (by simpa using g0)
   simp only [List.cons.injEq,and_true] at e0
   obtain ⟨rfl,rfl⟩:=e0
   obtain ⟨n1,rfl,w1⟩:=mQ (c:=c2) (by simpa using g1)
   exact ⟨⟨z0,n1⟩,rfl,w0,w1⟩
theorem Vs {r:Reach}{b0:Nat}{v:Value}{d:DataW H}{p:List MemPlace}(hv:Value.okWide Tryz.prog w r b0 32 v)(h:DataW.Trod enc Tryz.prog w base spare held 32 v d p):∃x:Place,v=x.val/\x.Fit:=by
 obtain ⟨cs,rfl,hsz⟩:=okWide_struct Tryz.underlying32 hv
 obtain ⟨m,hm⟩:=h
 obtain ⟨z,hz,hg⟩:=ub (cs:=cs.toList) (by simpa using hsz.trans po) (by simpa [Value.cells] using hm)
 refine ⟨z,?_,hg⟩
 have:cs = #[.int .i64 z.ay,.int .i64 z.Slot]:=by rw [<- Array.toArray_toList (xs:=cs),hz]
 rw [this]
theorem Vt {r:Reach}{b0:Nat}{v:Value}{d:DataW H}{p:List MemPlace}(hv:Value.okWide Tryz.prog w r b0 45 v)(h:DataW.Trod enc Tryz.prog w base spare held 45 v d p):∃l:List Held,Sl w v l /\ ∀z∈l,z.Fit:=by
 obtain ⟨a,len,cap,rfl⟩:=okWide_slice Tryz.underlying45 hv
 obtain ⟨m,hm⟩:=h
 exact open_list Tryz.underlying45 Kq Held.Fit (fun _ _ _ hl hy=>PS hl hy) hm
end
end
section
open Go Go.RowKit
abbrev Fm:=List (Nat×Value)
def lk:Fm->Nat->Option Value
  | [],_=>none
  | (j,v)::L,i=>bif Nat.beq j i then some v else lk L i
def ev (L:Fm):Operand->Option Value
  | .tmp t=>lk L t
  | .const v=>some v
  | .global g=>some (.pointer (some ⟨g,0,none⟩))
  | .func f=>some (.func (.func f) #[] #[])
def evs (L:Fm):List Operand->Option (List Value)
  | []=>some []
  | x::xs=>match ev L x,evs L xs with
    | some v,some vs=>some (v::vs)
    | _,_=>none
def CP:Fm->Fm->Prop
  | [],_=>True
  | p::L',L=>lk L p.1=some p.2/\CP L' L
theorem gE {α:Type}(l:List α)(i:Nat)(h:i<l.length:=by omega):∃z,l[i]? = some z:=⟨_,List.getElem?_eq_getElem h⟩
def ZN (L:Fm):Fm->List (Option Value)
  | []=>[]
  | p::r=>lk L p.1::ZN L r
def ZO:Fm->List (Option Value)
  | []=>[]
  | p::r=>some p.2::ZO r
theorem sF:∀ {L' L:Fm},ZN L L'=ZO L'->CP L' L
 | [],_,_=>trivial
 | p::r,L,h=>by
  injection h with h1 h2
  exact ⟨h1,sF h2⟩
structure Fr (n:Nat)(L:Fm)(a:Act):Prop where
  size:a.tmps.size=n
  defers:a.defers=[]
  get:∀i v,lk L i=some v->a.tmps[i]? = some v
theorem Fr.ev {n:Nat}{L:Fm}{a:Act}(h:Fr n L a){x:Operand}{v:Value}(hx:ev L x=some v):a.eval x=v:=by
 cases x with
 | tmp t=>have:=h.get t v hx;simp [Act.eval,this]
 | const u=>simpa [YtnmpibjlnninjaaGreatDoor.ev,Act.eval] using hx
 | global g=>simpa [YtnmpibjlnninjaaGreatDoor.ev,Act.eval] using hx
 | func f=>simpa [YtnmpibjlnninjaaGreatDoor.ev,Act.eval] using hx
theorem Fr.evs {n:Nat}{L:Fm}{a:Act}(h:Fr n L a):∀ {xs:List Operand} {vs:List Value},evs L xs=some vs->xs.map a.eval=vs
 | [],vs,hx=>by simp [YtnmpibjlnninjaaGreatDoor.evs] at hx;subst hx;rfl
 | x::xs,vs,hx=>by
  simp only [YtnmpibjlnninjaaGreatDoor.evs] at hx
  split at hx
  .
   rename_i v vs' h1 h2
   injection hx with hx;subst hx
   simp [h.ev h1,h.evs h2]
  grind
theorem Fr.put {n:Nat}{L:Fm}{a:Act}(h:Fr n L a)(d:Nat)(v:Value)(hd:Nat.blt d n=true):Fr n ((d,v)::L) (a.put (some d) v):=by
 have hd':d<a.tmps.size:=by rw [h.size];simp_all
 refine ⟨by simp [Act.put,h.size],by simp [Act.put,h.defers],fun i u hu=>?_⟩
 simp only [lk] at hu
 by_cases e:d=i
 .simp_all [Act.put]
 have e':Nat.beq d i=false:=Bool.eq_false_iff.2 (fun h=>e (Nat.eq_of_beq_eq_true h))
 rw [e'] at hu
 simp only [cond_false] at hu
 have:=h.get i u hu
 grind [Act.put]
theorem Fr.sub {n:Nat}{L:Fm}{a:Act}(h:Fr n L a):∀ {L':Fm},CP L' L->Fr n L' a
 | [],_=>⟨h.size,h.defers,fun i v hv=>by cases hv⟩
 | (j,u)::L',hs=>by
  have ih:=h.sub (L':=L') hs.2
  refine ⟨h.size,h.defers,fun i v hv=>?_⟩
  simp only [lk] at hv
  by_cases e:j=i
  .
   subst e
   simp at hv;subst hv
   exact h.get _ _ hs.1
  have e':Nat.beq j i=false:=Bool.eq_false_iff.2 (fun h=>e (Nat.eq_of_beq_eq_true h))
  rw [e'] at hv
  exact ih.get i v hv
structure mH (X:List Nat)(w w':World):Prop where
  os:w'.os=w.os
  tape:w'.tape=w.tape
  output:w'.output=w.output
  size:w.heap.size<=w'.heap.size
  block:∀k,k<w.heap.size->k∉X->w'.heap[k]? = w.heap[k]?
theorem mH.refl (X:List Nat)(w:World):mH X w w:=⟨rfl,rfl,rfl,Nat.le_refl _,fun _ _ _=>rfl⟩
theorem mH.trans {X:List Nat}{a b c:World}(h:mH X a b)(k:mH X b c):mH X a c :=
 ⟨k.os.trans h.os,k.tape.trans h.tape,k.output.trans h.output,Nat.le_trans h.size k.size,fun i hi hx=>(k.block i (Nat.lt_of_lt_of_le hi h.size) hx).trans (h.block i hi hx)⟩
theorem mH.ext {w w':World}(h:mH [] w w'):Ext w w':=Ext.mk ⟨h.os,h.tape,h.output,h.size,fun k hk=>h.block k hk bW⟩
theorem Ext.upd {w w':World}(h:Ext w w'):mH [] w w':=⟨h.below.os,h.below.tape,h.below.output,h.size,fun k hk _=>h.heap hk⟩
theorem mH.mono {X Y:List Nat}{w w':World}(h:mH X w w')(hs:∀k∈X,k<w.heap.size->k∈Y):mH Y w w' :=
 ⟨h.os,h.tape,h.output,h.size,fun k hk hy=>h.block k hk (fun hx=>hy (hs k hx hk))⟩
structure aj where
  blk:List Nat
  ok:World->Prop
  loc:∀w w':World,(∀k∈blk,w'.heap[k]? = w.heap[k]?)->ok w->ok w'
def blks:List aj->List Nat
  | []=>[]
  | r::B=>r.blk++blks B
theorem bX {k:Nat}:∀ {B:List aj},k∈blks B ↔ ∃r∈B,k∈r.blk
 | []=>by simp [blks]
 | r::B=>by simp [blks,bX]
structure Wd (we:World)(X:List Nat)(B F:List aj)(w:World):Prop where
  upd:mH X we w
  okB:∀r∈B,r.ok w
  okF:∀r∈F,r.ok w
  sep:(blks B).Nodup
  own:∀k∈blks B,k<w.heap.size/\(k<we.heap.size->k∈X)
  mR:∀k∈blks F,k<w.heap.size/\k∉blks B
section
variable {we w w':World} {X:List Nat} {B F:List aj}
theorem Wd.start (we:World)(X:List Nat):Wd we X [] [] we:=⟨mH.refl _ _,bW,bW,by simp [blks],by simp [blks],by simp [blks]⟩
theorem Wd.grow (h:Wd we X B F w)(e:mH [] w w'):Wd we X B F w' :=
 ⟨h.upd.trans (e.mono bW),
  fun r hr=>r.loc w w' (fun k hk=>e.block k (h.own k (bX.2 ⟨r,hr,hk⟩)).1 bW) (h.okB r hr),
  fun r hr=>r.loc w w' (fun k hk=>e.block k (h.mR k (bX.2 ⟨r,hr,hk⟩)).1 bW) (h.okF r hr),
  h.sep,fun k hk=>⟨Nat.lt_of_lt_of_le (h.own k hk).1 e.size,(h.own k hk).2⟩,fun k hk=>⟨Nat.lt_of_lt_of_le (h.mR k hk).1 e.size,(h.mR k hk).2⟩⟩
theorem Wd.fact (h:Wd we X B F w){r:aj}(hr:r.ok w)(hd:∀k∈r.blk,k<w.heap.size/\k∉blks B):Wd we X B (r::F) w :=
 ⟨h.upd,h.okB,fun q hq=>(List.mem_cons.1 hq).elim (fun e=>e▸hr) (h.okF q),h.sep,h.own,
  fun k hk=>(List.mem_append.1 hk).elim (hd k) (h.mR k)⟩
theorem Wd.new (h:Wd we X B F w){r:aj}(hr:r.ok w)(hn:r.blk.Nodup)(hd:∀k∈r.blk,k<w.heap.size/\we.heap.size<=k/\k∉blks B/\k∉blks F):Wd we X (r::B) F w :=
 ⟨h.upd,fun q hq=>(List.mem_cons.1 hq).elim (fun e=>e▸hr) (h.okB q),h.okF,
  List.nodup_append.2 ⟨hn,h.sep,fun a ha b hb e=>(hd a ha).2.2.1 (e▸hb)⟩,
  fun k hk=>(List.mem_append.1 hk).elim (fun hk=>⟨(hd k hk).1,fun hlt=>absurd (hd k hk).2.1 ae⟩) (h.own k),
  fun k hk=>⟨(h.mR k hk).1,fun hb=>(List.mem_append.1 hb).elim (fun hb=>(hd k hb).2.2.2 hk) (h.mR k hk).2⟩⟩
theorem uc:∀ {B:List aj} {i:Nat} {r r':aj},B[i]? = some r -> ∀k,k∈blks (B.set i r')->k∈r'.blk∨k∈blks B
 | [],i,r,r',h,k,hk=>by simp at h
 | q::B,0,r,r',h,k,hk=>by
  simp only [List.set_cons_zero,blks,List.mem_append] at hk ⊢
  rcases hk with hk|hk
  .exact .inl hk
  exact .inr (.inr hk)
 | q::B,i+1,r,r',h,k,hk=>by
  simp only [List.set_cons_succ,blks,List.mem_append] at hk ⊢
  rcases hk with hk|hk
  .exact .inr (.inl hk)
  rcases uc (by simpa using h) k hk with h1|h1
  .exact .inl h1
  exact .inr (.inr h1)
theorem Bu:∀ {B:List aj} {i:Nat} {r r':aj},B[i]? = some r->(blks B).Nodup->r'.blk.Nodup->(∀k∈r'.blk,k∈r.blk∨k∉blks B)->(blks (B.set i r')).Nodup
 | [],i,r,r',h,hn,hn',hd=>by simp at h
 | q::B,0,r,r',h,hn,hn',hd=>by
  simp at h;subst h
  simp only [List.set_cons_zero,blks] at hn hd ⊢
  obtain ⟨h1,h2,h3⟩:=List.nodup_append.1 hn
  refine List.nodup_append.2 ⟨hn',h2,fun a ha b hb e=>?_⟩
  subst e
  rcases hd a ha with h4|h4
  .exact h3 a h4 a hb rfl
  exact h4 (List.mem_append.2 (.inr hb))
 | q::B,i+1,r,r',h,hn,hn',hd=>by
  simp only [List.set_cons_succ,blks] at hn hd ⊢
  obtain ⟨h1,h2,h3⟩:=List.nodup_append.1 hn
  have h':B[i]? = some r:=by simpa using h
  have Vu:∀k∈r.blk,k∈blks B:=fun k hk=>bX.2 ⟨r,List.mem_of_getElem? h',hk⟩
  refine List.nodup_append.2 ⟨h1,Bu h' h2 hn' (fun k hk=>?_),fun a ha b hb e=>?_⟩
  .
   rcases hd k hk with h4|h4
   .exact .inl h4
   exact .inr (fun hb=>h4 (List.mem_append.2 (.inr hb)))
  subst e
  rcases uc h' a hb with h4|h4
  .
   rcases hd a h4 with h5|h5
   .exact h3 a ha a (Vu a h5) rfl
   exact h5 (List.mem_append.2 (.inl ha))
  exact h3 a ha a h4 rfl
theorem jg:∀ {B:List aj} {i j:Nat} {r q:aj},B[i]? = some r->B[j]? = some q->i≠j->(blks B).Nodup -> ∀k∈r.blk,k∉q.blk
 | [],i,j,r,q,hi,hj,hne,hn,k,hk,hk'=>by grind
 | p::B,0,0,r,q,hi,hj,hne,hn,k,hk,hk'=>hne rfl
 | p::B,0,j+1,r,q,hi,hj,hne,hn,k,hk,hk'=>by
  simp at hi;subst hi
  exact (List.nodup_append.1 hn).2.2 k hk k (bX.2 ⟨q,List.mem_of_getElem? (by simpa using hj),hk'⟩) rfl
 | p::B,i+1,0,r,q,hi,hj,hne,hn,k,hk,hk'=>by
  simp at hj;subst hj
  exact (List.nodup_append.1 hn).2.2 k hk' k (bX.2 ⟨r,List.mem_of_getElem? (by simpa using hi),hk⟩) rfl
 | p::B,i+1,j+1,r,q,hi,hj,hne,hn,k,hk,hk' =>
  jg (B:=B) (by simpa using hi) (by simpa using hj) ae (List.nodup_append.1 hn).2.1 k hk hk'
theorem Wd.turn (h:Wd we X B F w){i:Nat}{r r':aj}(hi:B[i]? = some r)(e:mH r.blk w w')(hr:r'.ok w')(hn:r'.blk.Nodup)
 (hb:∀k∈r'.blk,k<w'.heap.size/\(k∈r.blk∨w.heap.size<=k)):Wd we X (B.set i r') F w':=by
 have hrm:r∈B:=List.mem_of_getElem? hi
 have Vu:∀k∈r.blk,k∈blks B:=fun k hk=>bX.2 ⟨r,hrm,hk⟩
 have hsz:we.heap.size<=w.heap.size:=h.upd.size
 have hnew:∀k∈r'.blk,k∈r.blk∨(k∉blks B/\k∉blks F/\¬ k<we.heap.size):=fun k hk=>(hb k hk).2.elim .inl fun hge =>
  .inr ⟨fun hB=>by have:=(h.own k hB).1;omega,fun hF=>by have:=(h.mR k hF).1;omega,ae⟩
 refine ⟨⟨e.os.trans h.upd.os,e.tape.trans h.upd.tape,e.output.trans h.upd.output,Nat.le_trans h.upd.size e.size,fun k hk hx=>?_⟩,?_,?_,Bu hi h.sep hn (fun k hk=>(hnew k hk).imp id (·.1)),fun k hk=>?_,fun k hk=>⟨Nat.lt_of_lt_of_le (h.mR k hk).1 e.size,fun hb'=>?_⟩⟩
 .rw [e.block k ae (fun hr=>hx ((h.own k (Vu k hr)).2 hk)),h.upd.block k hk hx]
 .
  intro q hq
  obtain ⟨j,hj⟩:=List.mem_iff_getElem?.1 hq
  rw [List.getElem?_set] at hj
  split at hj
  .grind
  rename_i hne
  exact q.loc w w' (fun k hk=>e.block k (h.own k (bX.2 ⟨q,List.mem_of_getElem? hj,hk⟩)).1 (fun hkr=>jg hi hj hne h.sep k hkr hk)) (h.okB q (List.mem_of_getElem? hj))
 .
  intro q hq
  exact q.loc w w' (fun k hk=>e.block k (h.mR k (bX.2 ⟨q,hq,hk⟩)).1 (fun hkr=>(h.mR k (bX.2 ⟨q,hq,hk⟩)).2 (Vu k hkr))) (h.okF q hq)
 .
  rcases uc hi k hk with h1|h1
  .
   rcases hnew k h1 with h2|h2
   .exact ⟨(hb k h1).1,(h.own k (Vu k h2)).2⟩
   grind
  exact ⟨Nat.lt_of_lt_of_le (h.own k h1).1 e.size,(h.own k h1).2⟩
 rcases uc hi k hb' with h1|h1
 .
  rcases hnew k h1 with h2|h2
  .exact (h.mR k hk).2 (Vu k h2)
  grind
 exact (h.mR k hk).2 h1
end
inductive It where
  | c (c:Code)
  | b (id:Nat)
  | back (I:Act->World->Prop)
def qz (P:Program)(Q:Exit->Act->World->Prop):List It->Exit->Act->World->Prop
  | [],e,a,w=>Q e a w
  | .c x::k,.normal,a,w=>x.wp P (qz P Q k) a w
  | .c _::k,e,a,w=>qz P Q k e a w
  | .b id::k,.exit id',a,w=>bif Nat.beq id' id then qz P Q k .normal a w else qz P Q k (.exit id') a w
  | .b _::k,e,a,w=>qz P Q k e a w
  | .back I::k,.normal,a,w=>I a w
  | .back _::k,e,a,w=>qz P Q k e a w
def kS (id:Nat):List It->Option (List It)
  | .b id'::k=>bif Nat.beq id id' then some k else kS id k
  | _::k=>kS id k
  | []=>none
def norm:Nat->List It->List It
  | 0,k=>k
  | f+1,k=>match k with
    | .c (.seq x y)::k=>norm f (.c x :: .c y::k)
    | .c .skip::k=>norm f k
    | .c (.label _)::k=>norm f k
    | .c (.block id x)::k=>norm f (.c x :: .b id::k)
    | .b _::k=>norm f k
    | .c (.exit id)::k=>match kS id k with
      | some k'=>norm f k'
      | none => .c (.exit id)::k
    | k=>k
section
variable {P:Program} {Q:Exit->Act->World->Prop}
theorem PT {x y:Code}{k:List It}{a:Act}{w:World}(h:qz P Q (.c x :: .c y::k) .normal a w):qz P Q (.c (.seq x y)::k) .normal a w :=
 wp_seq (wp_mono h (fun e a w q=>by cases e <;> exact q))
theorem Kr {id:Nat}{x:Code}{k:List It}{a:Act}{w:World}(h:qz P Q (.c x :: .b id::k) .normal a w):qz P Q (.c (.block id x)::k) .normal a w :=
 wp_block (wp_mono h (fun e a w q=>by
  cases e with
  | exit id' =>
   simp only [qz] at q
   by_cases hid:id'=id
   .simp_all [Exit.inBlock]
   have e':Nat.beq id' id=false:=Bool.eq_false_iff.2 (fun h=>hid (Nat.eq_of_beq_eq_true h))
   grind [Exit.inBlock]
  | _=>exact q))
theorem ud {id:Nat}:∀ {k k':List It} {a:Act} {w:World},kS id k=some k'->qz P Q k' .normal a w->qz P Q k (.exit id) a w
 | [],k',a,w,h,hq=>by simp [kS] at h
 | .c _::k,k',a,w,h,hq=>ud (k:=k) (by simpa [kS] using h) hq
 | .back _::k,k',a,w,h,hq=>ud (k:=k) (by simpa [kS] using h) hq
 | .b id'::k,k',a,w,h,hq=>by
  simp only [kS] at h
  simp only [qz]
  cases hb:Nat.beq id id' with
  | true=>rw [hb] at h;simp at h;subst h;exact hq
  | false=>rw [hb] at h;simp at h;exact ud h hq
theorem dH:∀ (f:Nat) {k:List It} {a:Act} {w:World},qz P Q (norm f k) .normal a w->qz P Q k .normal a w
 | 0,k,a,w,h=>h
 | f+1,k,a,w,h=>by
  unfold norm at h
  split at h
  .exact PT (dH f h)
  .exact wp_skip (dH f h)
  .exact wp_label (dH f h)
  .exact Kr (dH f h)
  .
   have:=dH f h
   exact this
  .
   split at h
   .rename_i hx;exact wp_exit (ud hx (dH f h))
   exact h
  exact h
end
def Run (P:Program)(n:Nat)(we:World)(X:List Nat)(Q:Exit->Act->World->Prop)(k:List It)(L:Fm)(B F:List aj):Prop :=
  ∀a w,Fr n L a->Wd we X B F w->qz P Q k .normal a w
def Rg (P:Program)(n:Nat)(we:World)(X:List Nat)(Q:Exit->Act->World->Prop)(ops rest:List Oper)(k:List It)(L:Fm)(B F:List aj):Prop :=
  ∀a w,Fr n L a->Wd we X B F w->wpList P ops.toArray (qz P Q k) rest a w
section
variable {P:Program} {n:Nat} {we:World} {X:List Nat} {Q:Exit->Act->World->Prop} {k k':List It} {L:Fm} {B F:List aj} {ops rest:List Oper}
def Tc (i:Nat):List Value->Fm
  | []=>[]
  | v::vs=>(i,v)::Tc (i+1) vs
theorem ym:∀ (vs:List Value) (i j:Nat) (v:Value),lk (Tc i vs) j=some v->i<=j/\vs[j-i]? = some v
 | [],i,j,v,h=>by cases h
 | u::vs,i,j,v,h=>by
  simp only [Tc,lk] at h
  by_cases e:i=j
  .simp_all
  have e':Nat.beq i j=false:=Bool.eq_false_iff.2 (fun h=>e (Nat.eq_of_beq_eq_true h))
  rw [e'] at h
  obtain ⟨h1,h2⟩:=ym vs (i+1) j v h
  grind
theorem R.enter {f:FuncId}{fn:Func}{c:Code}{vs:List Value}{w:World}{R:Ending->World->Prop}(X:List Nat)(L:Fm)(hf:P.funcs[f]? = some fn)(hb:fn.body=some c)(hn:fn.ntmps=n)
 (hle:Nat.ble vs.length n=true) (hL:Tc 0 vs=L) (h:Run P n w X (bodyPost P fn R) [.c c] L [] []):Calls P f vs.toArray w R:=by
 have hle':vs.length<=n:=Nat.le_of_ble_eq_true hle
 refine calls_of_wp hf hb<|wp_mono (h _ w ⟨?_,rfl,fun i v hv=>?_⟩ (Wd.start w X)) (fun e a w q=>by cases e <;> exact q)
 .simp [hn];omega
 rw [<- hL] at hv
 obtain ⟨h1,h2⟩:=ym vs 0 i v hv
 simp only [Nat.sub_zero] at h2
 have hi:i<vs.length:=(List.getElem?_eq_some_iff.1 h2).1
 show (vs.toArray++Array.replicate (fn.ntmps-vs.toArray.size) undef)[i]? = some v
 rw [Array.getElem?_append_left (by simpa using hi)]
 simpa using h2
theorem kx:∀ {k:List It} {a:Act} {w:World},Q .ret a w->qz P Q k .ret a w
 | [],a,w,h=>h
 | .c _::k,a,w,h=>kx (k:=k) h
 | .b _::k,a,w,h=>kx (k:=k) h
 | .back _::k,a,w,h=>kx (k:=k) h
theorem R.reg {id:Nat}(h:norm 200 k = .c (.region id ops.toArray false)::k')(hr:Rg P n we X Q ops ops k' L B F):Run P n we X Q k L B F :=
 fun a w ha hw=>dH 200 (h▸wp_region_lit (hr a w ha hw))
theorem R.nil (h:Run P n we X Q k L B F):Rg P n we X Q ops [] k L B F:=fun a w ha hw=>wpList_nil (h a w ha hw)
theorem R.nV {c:Operand}{x y:Code}(h:norm 200 k = .c (.cond c x y)::k')(hc:ev L c=some (.bool true))(hr:Run P n we X Q (.c x::k') L B F):Run P n we X Q k L B F :=
 fun a w ha hw=>dH 200 (h▸wp_cond_true (ha.ev hc) (hr a w ha hw))
theorem R.mg {c:Operand}{x y:Code}(h:norm 200 k = .c (.cond c x y)::k')(hc:ev L c=some (.bool false))(hr:Run P n we X Q (.c y::k') L B F):Run P n we X Q k L B F :=
 fun a w ha hw=>dH 200 (h▸wp_cond_false (ha.ev hc) (hr a w ha hw))
theorem R.cond {c:Operand}{x y:Code}{b:Bool}(h:norm 200 k = .c (.cond c x y)::k')(hc:ev L c=some (.bool b))(ht:b=true->Run P n we X Q (.c x::k') L B F)(hf:b=false->Run P n we X Q (.c y::k') L B F):Run P n we X Q k L B F:=by
 cases b
 .grind [R.mg]
 grind [R.nV]
section
variable {fn:Func} {R:Ending->World->Prop}
theorem R.VQ {t:Nat}{v:Value}(h:norm 200 k = .c .ret::k')(hr:fn.results = #[.tmp t])(hv:lk L t=some v)(hR:∀w,Wd we X B F w->R (.returned v) w):Run P n we X (bodyPost P fn R) k L B F :=
 fun a w ha hw=>dH 200 (h▸wp_ret (kx (bodyPost_ret (by rw [results_tmp hr,Array.getD_eq_getD_getElem?,ha.get _ _ hv];rfl) ha.defers (hR w hw))))
theorem R.YD {t u:Nat}{v v':Value}(h:norm 200 k = .c .ret::k')(hr:fn.results = #[.tmp t,.tmp u])(hv:lk L t=some v)(hv':lk L u=some v')(hR:∀w,Wd we X B F w->R (.returned (.tuple #[v,v'])) w):Run P n we X (bodyPost P fn R) k L B F :=
 fun a w ha hw=>dH 200 (h▸wp_ret (kx (bodyPost_ret (by rw [results_tmp2 hr,Array.getD_eq_getD_getElem?,Array.getD_eq_getD_getElem?,ha.get _ _ hv,ha.get _ _ hv'];rfl) ha.defers (hR w hw))))
theorem results_tmp3 {fn:Func}{t u x:Nat}(h:fn.results = #[.tmp t,.tmp u,.tmp x])(tmps:Array Value)(P:Program)(w:World) :
 (results fn tmps).run P w = .ok (.tuple #[tmps.getD t undef,tmps.getD u undef,tmps.getD x undef]) w:=by
 simp [results,h]
theorem R.YE {t u x:Nat}{v v' v'':Value}(h:norm 200 k = .c .ret::k')(hr:fn.results = #[.tmp t,.tmp u,.tmp x])(hv:lk L t=some v)(hv':lk L u=some v')(Td:lk L x=some v'')(hR:∀w,Wd we X B F w->R (.returned (.tuple #[v,v',v''])) w):Run P n we X (bodyPost P fn R) k L B F :=
 fun a w ha hw=>dH 200 (h▸wp_ret (kx (bodyPost_ret (by rw [results_tmp3 hr,Array.getD_eq_getD_getElem?,Array.getD_eq_getD_getElem?,Array.getD_eq_getD_getElem?,ha.get _ _ hv,ha.get _ _ hv',ha.get _ _ Td];rfl) ha.defers (hR w hw))))
theorem R.YF (h:norm 200 k=[])(hr:fn.results = #[])(hR:∀w,Wd we X B F w->R (.returned (.tuple #[])) w):Run P n we X (bodyPost P fn R) k L B F :=
 fun a w ha hw=>dH 200 (h▸bodyPost_end (results_none hr _ _ _) ha.defers (hR w hw))
theorem R.YG (h:norm 200 k = .c .ret::k')(hr:fn.results = #[])(hR:∀w,Wd we X B F w->R (.returned (.tuple #[])) w):Run P n we X (bodyPost P fn R) k L B F :=
 fun a w ha hw=>dH 200 (h▸wp_ret (kx (bodyPost_ret (results_none hr _ _ _) ha.defers (hR w hw))))
end
def Hd {ι:Type}(n:Nat)(we:World)(X:List Nat)(LI:ι->Fm)(BI FI:ι->List aj)(PI:ι->Prop)(μ:ι->Nat)(m:Nat)(a:Act)(w:World):Prop :=
  ∃i,PI i/\μ i<m/\Fr n (LI i) a/\Wd we X (BI i) (FI i) w
theorem R.back {ι:Type}{LI:ι->Fm}{BI FI:ι->List aj}{PI:ι->Prop}{μ:ι->Nat}{m:Nat}(i:ι)(h:norm 200 k = .back (Hd n we X LI BI FI PI μ m)::k')(hP:PI i)(hm:μ i<m)(hL:CP (LI i) L)(hB:∀w,Wd we X B F w->Wd we X (BI i) (FI i) w):Run P n we X Q k L B F :=
 fun a w ha hw=>dH 200 (by rw [h];exact ⟨i,hP,hm,ha.sub hL,hB w hw⟩)
theorem EI {c:Code}{Q:Exit->Act->World->Prop}{a:Act}{w:World}(I:Nat->Act->World->Prop)(m:Nat)(h₀:I m a w)
 (round:∀m a w,I m a w->c.wp P (Exit.then (fun a' w' => ∃m',m'<m/\I m' a' w') Q) a w):(Code.loop c).wp P Q a w:=by
 intro b k cs
 have key:∀m a w,I m a w ->
  ∃e a' w',Q e a' w'/\Arrives P (lone (b.at a (.code c :: .inLoop c::k)) cs w) b k cs e a' w':=by
  intro m
  induction m using Nat.strongRecOn with
  | _ m ih =>
   intro a w hI
   obtain ⟨e,a₁,w₁,hq,harr⟩:=round m a w hI b (.inLoop c::k) cs
   cases e with
   | normal =>
    obtain ⟨m',hlt,hI₁⟩:=hq
    obtain ⟨e₂,a₂,w₂,hq₂,harr₂⟩:=ih m' hlt a₁ w₁ hI₁
    exact ⟨e₂,a₂,w₂,hq₂,.of_steps (Steps.trans harr (.one step_inLoop)) harr₂⟩
   | exit id=>exact ⟨_,a₁,w₁,hq,.pass (x:= .inLoop c) rfl (fun _ _ => .inl bW) harr⟩
   | goto l=>exact ⟨_,a₁,w₁,hq,.pass (x:= .inLoop c) rfl (fun _ _ => .inl bW) harr⟩
   | ret=>exact ⟨_,a₁,w₁,hq,.pass (x:= .inLoop c) rfl (fun _ _ => .inl bW) harr⟩
   | panic ch=>exact ⟨_,a₁,w₁,hq,.pass (x:= .inLoop c) rfl (fun _ _ => .inl bW) harr⟩
   | outgrown=>exact ⟨_,a₁,w₁,hq,.pass (x:= .inLoop c) rfl (fun _ _ => .inl bW) harr⟩
 obtain ⟨e,a',w',hq,harr⟩:=key m a w h₀
 exact ⟨e,a',w',hq,.of_steps (.one step_loop) harr⟩
theorem R.loop {ι:Type}(LI:ι->Fm)(BI FI:ι->List aj)(PI:ι->Prop)(μ:ι->Nat)(i:ι){c:Code}(h:norm 200 k = .c (.loop c)::k')(hP:PI i)(hL:CP (LI i) L)(hB:∀w,Wd we X B F w->Wd we X (BI i) (FI i) w)
 (round:∀i,PI i->Run P n we X Q (.c c :: .back (Hd n we X LI BI FI PI μ (μ i))::k') (LI i) (BI i) (FI i)):Run P n we X Q k L B F:=by
 intro a w ha hw
 refine dH 200 (h ▸ ?_)
 refine EI (fun m a w => ∃i,PI i/\μ i=m/\Fr n (LI i) a/\Wd we X (BI i) (FI i) w) (μ i) ⟨i,hP,rfl,ha.sub hL,hB w hw⟩ ?_
 rintro m a w ⟨i,hP,rfl,ha,hw⟩
 refine wp_mono (round i hP a w ha hw) (fun e a w q=>?_)
 cases e with
 | normal =>
  obtain ⟨j,h1,h2,h3,h4⟩:=q
  exact ⟨μ j,h2,j,h1,rfl,h3,h4⟩
 | _=>exact q
def Qt (P:Program)(n:Nat)(we:World)(X:List Nat)(L:Fm)(B F:List aj)(op:Op)(ty:TypeId)(v:Value):Prop :=
  ∀dst pos eC g a w,Fr n L a->Wd we X B F w->(execOp a.eval ⟨dst,op,ty,pos,eC,g⟩).run P w = .ok (.value v) w
def gd (ops:List Oper)(L:Fm):Option (Nat×Bool)->Option Bool
  | none=>some true
  | some (j,want)=>match ops[j]? with
    | some o=>match o.dst with
      | some d=>match lk L d with
        | some (.bool b)=>some (b==want)
        | some _=>some false
        | none=>none
      | none=>some false
    | none=>some false
theorem ez {o:Oper}{a:Act}{b:Bool}(ha:Fr n L a)(h:gd ops L o.guard=some b):Region.wanted o (yielded ops.toArray a.tmps)=b:=by
 unfold Region.wanted
 cases hg:o.guard with
 | none=>grind [gd]
 | some p =>
  obtain ⟨j,want⟩:=p
  rw [hg] at h
  simp only [gd] at h
  simp only [yielded,List.getElem?_toArray]
  cases ho:ops[j]? with
  | none=>grind
  | some o =>
   rw [ho] at h
   cases hd:o.dst with
   | none=>grind
   | some d =>
    simp only [hd] at h
    cases hl:lk L d with
    | none=>grind
    | some v =>
     rw [hl] at h
     have:=ha.get d v hl
     simp only [Option.bind_some,hd,this]
     cases v <;> simp_all
variable {dst:Option Nat} {d:Nat} {op:Op} {ty:TypeId} {pos:String} {eC:Array Edge} {g:Option (Nat×Bool)} {g':Nat×Bool} {v:Value}
theorem R.q (hq:Qt P n we X L B F op ty v)(hd:Nat.blt d n=true)(h:Rg P n we X Q ops rest k ((d,v)::L) B F):Rg P n we X Q ops (⟨some d,op,ty,pos,eC,none⟩::rest) k L B F:=by
 intro a w ha hw
 refine wpList_plain rfl fun K hK=>?_
 unfold Oper.wp
 rw [hq _ _ _ _ a w ha hw,Oper.upon_value]
 exact hK _ _ (h _ w (ha.put d v hd) hw)
theorem R.qg (hg:gd ops L (some g')=some true)(hq:Qt P n we X L B F op ty v)(hd:Nat.blt d n=true)(h:Rg P n we X Q ops rest k ((d,v)::L) B F):Rg P n we X Q ops (⟨some d,op,ty,pos,eC,some g'⟩::rest) k L B F:=by
 intro a w ha hw
 refine wpList_step fun K hK=>?_
 rw [if_pos (ez (o:=⟨some d,op,ty,pos,eC,some g'⟩) ha hg)]
 unfold Oper.wp
 rw [hq _ _ _ _ a w ha hw,Oper.upon_value]
 exact hK _ _ (h _ w (ha.put d v hd) hw)
theorem addr_add (b o m:Nat):(⟨b,o,none⟩:Addr).add m=⟨b,o+m,none⟩:=Addr.add_lit b o m
section
variable {x y:Operand} {xT yT:TypeId} {m l:Int} {kd:IntKind}
theorem q.mv (hx:ev L x=some v):Qt P n we X L B F (.move x) ty v:=fun _ _ _ _ a w ha hw=>by simp [execOp,ha.ev hx]
theorem q.as (hx:ev L x=some v):Qt P n we X L B F (.assign x) ty v:=fun _ _ _ _ a w ha hw=>by simp [execOp,ha.ev hx]
theorem q.Mg {c:Operand}(hc:ev L c=some (.bool true))(hx:ev L x=some v):Qt P n we X L B F (.pick c x y) ty v:=fun _ _ _ _ a w ha hw=>by simp [execOp,ha.ev hx,ha.ev hc,asBool]
theorem q.Mh {c:Operand}(hc:ev L c=some (.bool false))(hy:ev L y=some v):Qt P n we X L B F (.pick c x y) ty v:=fun _ _ _ _ a w ha hw=>by simp [execOp,ha.ev hy,ha.ev hc,asBool]
theorem q.add {r:Int}(hx:ev L x=some (.int kd m))(hy:ev L y=some (.int kd l))(hr:kd.wrap (m+l)=r):Qt P n we X L B F (.binOp .add xT x y yT) ty (.int kd r):=fun _ _ _ _ a w ha hw=>by
 simp [execOp,ha.ev hx,ha.ev hy,binOp,Op.intArith,eqGuard,hr]
theorem q.sub {r:Int}(hx:ev L x=some (.int kd m))(hy:ev L y=some (.int kd l))(hr:kd.wrap (m-l)=r):Qt P n we X L B F (.binOp .sub xT x y yT) ty (.int kd r):=fun _ _ _ _ a w ha hw=>by
 simp [execOp,ha.ev hx,ha.ev hy,binOp,Op.intArith,eqGuard,hr]
theorem q.mul {r:Int}(hx:ev L x=some (.int kd m))(hy:ev L y=some (.int kd l))(hr:kd.wrap (m*l)=r):Qt P n we X L B F (.binOp .mul xT x y yT) ty (.int kd r):=fun _ _ _ _ a w ha hw=>by
 simp [execOp,ha.ev hx,ha.ev hy,binOp,Op.intArith,eqGuard,hr]
theorem q.eql {b:Bool}(hx:ev L x=some (.int kd m))(hy:ev L y=some (.int kd l))(hb:(m==l)=b):Qt P n we X L B F (.binOp .eql xT x y yT) ty (.bool b):=fun _ _ _ _ a w ha hw=>by
 simp only [execOp,ha.ev hx,ha.ev hy,eqGuard_at_int,binOp_eql,hb];rfl
theorem q.neq {b:Bool}(hx:ev L x=some (.int kd m))(hy:ev L y=some (.int kd l))(hb:(m != l)=b):Qt P n we X L B F (.binOp .neq xT x y yT) ty (.bool b):=fun _ _ _ _ a w ha hw=>by
 simp only [execOp,ha.ev hx,ha.ev hy,eqGuard_at_int,binOp_neq,hb];rfl
theorem q.lss {b:Bool}(hx:ev L x=some (.int kd m))(hy:ev L y=some (.int kd l))(hb:decide (m<l)=b):Qt P n we X L B F (.binOp .lss xT x y yT) ty (.bool b):=fun _ _ _ _ a w ha hw=>by
 simp only [execOp,ha.ev hx,ha.ev hy,eqGuard_at_int,binOp_lss,hb];rfl
theorem q.leq {b:Bool}(hx:ev L x=some (.int kd m))(hy:ev L y=some (.int kd l))(hb:decide (m<=l)=b):Qt P n we X L B F (.binOp .leq xT x y yT) ty (.bool b):=fun _ _ _ _ a w ha hw=>by
 simp only [execOp,ha.ev hx,ha.ev hy,eqGuard_at_int,binOp_leq,hb];rfl
theorem q.gtr {b:Bool}(hx:ev L x=some (.int kd m))(hy:ev L y=some (.int kd l))(hb:decide (m>l)=b):Qt P n we X L B F (.binOp .gtr xT x y yT) ty (.bool b):=fun _ _ _ _ a w ha hw=>by
 simp only [execOp,ha.ev hx,ha.ev hy,eqGuard_at_int,binOp_gtr,hb];rfl
theorem q.geq {b:Bool}(hx:ev L x=some (.int kd m))(hy:ev L y=some (.int kd l))(hb:decide (m>=l)=b):Qt P n we X L B F (.binOp .geq xT x y yT) ty (.bool b):=fun _ _ _ _ a w ha hw=>by
 simp only [execOp,ha.ev hx,ha.ev hy,eqGuard_at_int,binOp_geq,hb];rfl
theorem q.Ks (hx:ev L x=some (.int kd m))(hy:ev L y=some (.int kd l))(h:m<l:=by omega):Qt P n we X L B F (.binOp .lss xT x y yT) ty (.bool true):=q.lss hx hy (decide_eq_true h)
theorem q.Hg (hx:ev L x=some (.int kd m))(hy:ev L y=some (.int kd l))(h:¬ m<l:=by omega):Qt P n we X L B F (.binOp .lss xT x y yT) ty (.bool false):=q.lss hx hy (decide_eq_false h)
theorem q.VR (hx:ev L x=some (.int kd m))(hy:ev L y=some (.int kd l))(h:m<=l:=by omega):Qt P n we X L B F (.binOp .leq xT x y yT) ty (.bool true):=q.leq hx hy (decide_eq_true h)
theorem q.VT (hx:ev L x=some (.int kd m))(hy:ev L y=some (.int kd l))(h:¬ m<=l:=by omega):Qt P n we X L B F (.binOp .leq xT x y yT) ty (.bool false):=q.leq hx hy (decide_eq_false h)
theorem q.sV (hx:ev L x=some (.int kd m))(hy:ev L y=some (.int kd l))(h:m>l:=by omega):Qt P n we X L B F (.binOp .gtr xT x y yT) ty (.bool true):=q.gtr hx hy (decide_eq_true h)
theorem q.sW (hx:ev L x=some (.int kd m))(hy:ev L y=some (.int kd l))(h:¬ m>l:=by omega):Qt P n we X L B F (.binOp .gtr xT x y yT) ty (.bool false):=q.gtr hx hy (decide_eq_false h)
theorem q.VU (hx:ev L x=some (.int kd m))(hy:ev L y=some (.int kd l))(h:m>=l:=by omega):Qt P n we X L B F (.binOp .geq xT x y yT) ty (.bool true):=q.geq hx hy (decide_eq_true h)
theorem q.VW (hx:ev L x=some (.int kd m))(hy:ev L y=some (.int kd l))(h:¬ m>=l:=by omega):Qt P n we X L B F (.binOp .geq xT x y yT) ty (.bool false):=q.geq hx hy (decide_eq_false h)
theorem q.Te (hx:ev L x=some (.int kd m))(hy:ev L y=some (.int kd l))(h:m=l:=by omega):Qt P n we X L B F (.binOp .eql xT x y yT) ty (.bool true):=q.eql hx hy (beq_iff_eq.2 h)
theorem q.VX (hx:ev L x=some (.int kd m))(hy:ev L y=some (.int kd l))(h:¬ m=l:=by omega):Qt P n we X L B F (.binOp .eql xT x y yT) ty (.bool false):=q.eql hx hy (beq_eq_false_iff_ne.2 h)
theorem q.VY (hx:ev L x=some (.int kd m))(hy:ev L y=some (.int kd l))(h:¬ m=l:=by omega):Qt P n we X L B F (.binOp .neq xT x y yT) ty (.bool true):=q.neq hx hy (bne_iff_ne.2 h)
theorem q.VZ (hx:ev L x=some (.int kd m))(hy:ev L y=some (.int kd l))(h:m=l:=by omega):Qt P n we X L B F (.binOp .neq xT x y yT) ty (.bool false):=q.neq hx hy (bne_eq_false_iff_eq.2 h)
theorem q.not {b:Bool}(hx:ev L x=some (.bool b)):Qt P n we X L B F (.unOp .not xT x) ty (.bool !b):=fun _ _ _ _ a w ha hw=>by
 simp [execOp,ha.ev hx,Op.unary]
theorem q.len {A:Option Addr}{s c:Nat}{e:TypeId}(hx:ev L x=some (.slice A s c))(ht:P.underlying xT=some (.slice e)):Qt P n we X L B F (.call { callee:= .builtin .len,args:= #[x],argTypes:= #[xT] }) ty (.int .i64 s):=fun _ _ _ _ a w ha hw=>by
 simp [execOp,resolve,invoke,builtin,ha.ev hx,Builtin.len_,run_underlying ht,goInt]
theorem q.V0 {s:ByteArray}(hx:ev L x=some (.string s))(ht:P.underlying xT=some .string):Qt P n we X L B F (.call { callee:= .builtin .len,args:= #[x],argTypes:= #[xT] }) ty (.int .i64 s.size):=fun _ _ _ _ a w ha hw=>by
 simp [execOp,resolve,invoke,builtin,ha.ev hx,Builtin.len_,run_underlying ht,goInt]
theorem q.iface (hx:ev L x=some v)(ht:P.concrete xT=true):Qt P n we X L B F (.makeInterface xT x) ty (.iface xT v):=fun _ _ _ _ a w ha hw=>by
 simp [execOp,ha.ev hx,run_makeInterface (P:=P) (w:=w) xT v ht]
theorem q.ext {vs:Array Value}{i:Nat}(hx:ev L x=some (.tuple vs))(hv:vs[i]? = some v):Qt P n we X L B F (.extract x i) ty v:=fun _ _ _ _ a w ha hw=>by
 simp [execOp,ha.ev hx,Instr.extract,hv]
end
end
end
end Go.Proofs.YtnmpibjlnninjaaGreatDoor
