import Derived.WalkKit
import Derived.WalkSpells
import Derived.WalkLawsBesides
import Derived.Lib.Hide
import Derived.Deep.Draws
import Derived.Deep.AppendLies
section
namespace Go.Proofs.Ytpipachmngdegaa
open Go.RowKit
set_option linter.unusedVariables false
def Ext (w w':World):Prop:=Below w.heap.size w w'
theorem Ext.below {w w':World}(h:Ext w w'):Below w.heap.size w w':=h
theorem Ext.mk {w w':World}(h:Below w.heap.size w w'):Ext w w':=h
attribute [irreducible] Ext
theorem Ext.refl (w:World):Ext w w:=Ext.mk (Below.refl _ _)
theorem Ext.size {w w':World}(h:Ext w w'):w.heap.size≤w'.heap.size:=h.below.size
theorem Ext.trans {a b c:World}(h:Ext a b)(k:Ext b c):Ext a c:=Ext.mk (h.below.trans (k.below.mono h.size))
theorem Ext.alloc {a w:World}(h:Ext a w)(o:Obj):Ext a (w.alloc o):=Ext.mk (h.below.alloc h.size o)
theorem Ext.drew {a w:World}(h:Ext a w):Ext a w.drew:=Ext.mk (h.below.drew)
theorem Ext.wO {w w':World}(h:Ext w w'){a:Addr}(hb:a.block<w.heap.size):w'.cell? a=w.cell? a:=h.below.cell hb
theorem Ext.cell {w w':World}(h:Ext w w'):∀b o,b<w.heap.size→w'.cell? ⟨b,o,none⟩=w.cell? ⟨b,o,none⟩:=fun b o hb=>h.below.cell (p:=⟨b,o,none⟩) hb
theorem Ext.gX {w w':World}(h:Ext w w'){a:Addr}{v:Value}(hv:w.cell? a=some v):w'.cell? a=some v:=(h.wO (World.block_lt_of_cell? w a hv)).trans hv
theorem Ext.heap {w w':World}(h:Ext w w'){k:Nat}(hk:k<w.heap.size):w'.heap[k]? = w.heap[k]?:=h.below.block k hk
class Enc (α:Type) where
  k:Nat
  cells:α→List Value
  len:∀x,(cells x).length=k
  one:∀x,∀u∈cells x,u.oneCell'=true
  pos:0<k
instance:Enc Int:=⟨1,fun n=>[.int .i64 n],fun _=>rfl,fun _ u hu=>by simp at hu;subst hu;rfl,by decide⟩
instance:Enc ByteArray:=⟨1,fun s=>[.string s],fun _=>rfl,fun _ u hu=>by simp at hu;subst hu;rfl,by decide⟩
theorem flat_get {α:Type}[Enc α]:∀ (l:List α) (i:Nat) (x:α) (j:Nat) (u:Value),l[i]? = some x→(Enc.cells x)[j]? = some u→(l.flatMap Enc.cells)[i*Enc.k α+j]? = some u
  | [],i,x,j,u,h,_=>by simp at h
  | y::l,0,x,j,u,h,hj=>by
    simp at h;subst h
    have hl:j<(Enc.cells y).length:=(List.getElem?_eq_some_iff.1 hj).1
    simp only [List.flatMap_cons,Nat.zero_mul,Nat.zero_add]
    rw [List.getElem?_append_left hl];exact hj
  | y::l,i+1,x,j,u,h,hj=>by
    have h':l[i]? = some x:=by simpa using h
    have ih:=flat_get l i x j u h' hj
    simp only [List.flatMap_cons]
    rw [List.getElem?_append_right (by rw [Enc.len,Nat.add_mul];omega),Enc.len,← ih]
    congr 1
    rw [Nat.add_mul];omega
theorem cq {α:Type}[Enc α](l:List α):(l.flatMap Enc.cells).length=l.length*Enc.k α:=by
  induction l with
  | nil=>simp
  | cons y l ih=>simp only [List.flatMap_cons,List.length_append,ih,Enc.len,List.length_cons,Nat.add_mul];omega
theorem gp {α:Type}[Enc α](l:List α):∀u∈l.flatMap Enc.cells,u.oneCell'=true:=by
  intro u hu
  obtain ⟨x,_,hx⟩:=List.mem_flatMap.1 hu
  exact Enc.one x u hx
def Sl {α:Type}[Enc α](w:World)(v:Value)(l:List α):Prop :=
  ∃A c,v = .slice A l.length c∧l.length≤c∧c≤maxLen ∧
    ∀i x,l[i]? = some x → ∃b off,A=some ⟨b,off,none⟩∧b<w.heap.size ∧ ∀j u,(Enc.cells x)[j]? = some u→w.cell? ⟨b,off+i*Enc.k α+j,none⟩=some u
section
variable {α:Type} [Enc α] {w w':World} {v:Value} {l:List α}
theorem Sl.ext (h:Sl w v l)(e:Ext w w'):Sl w' v l:=by
  obtain ⟨A,c,hv,h1,h2,h3⟩:=h
  refine ⟨A,c,hv,h1,h2,fun i x hx=>?_⟩
  obtain ⟨b,off,hA,hb,hc⟩:=h3 i x hx
  exact ⟨b,off,hA,Nat.lt_of_lt_of_le hb e.size,fun j u hu=>e.gX (hc j u hu)⟩
theorem Sl.nil (w:World):Sl w (.slice none 0 0) ([]:List α):=⟨none,0,rfl,by simp,by simp,fun i x h=>by simp at h⟩
theorem Sl.take {A:Option Addr}{n c:Nat}(h:Sl w (.slice A n c) l){k:Nat}(hk:k≤l.length):Sl w (.slice A k c) (l.take k):=by
  obtain ⟨A',c',hv,h1,h2,h3⟩:=h
  simp only [Value.slice.injEq] at hv
  obtain ⟨rfl,rfl,rfl⟩:=hv
  have hl:(l.take k).length=k:=by rw [List.length_take];omega
  refine ⟨A,c,by rw [hl],by omega,h2,fun i x hx=>h3 i x ?_⟩
  rw [List.getElem?_take] at hx
  split at hx
  · exact hx
  · cases hx
theorem Sl.at (h:Sl w v l){i:Nat}(hi:i<l.length):∃b off c,v = .slice (some ⟨b,off,none⟩) l.length c∧b<w.heap.size ∧ ∀j u,(Enc.cells l[i])[j]? = some u→w.cell? ⟨b,off+i*Enc.k α+j,none⟩=some u:=by
  obtain ⟨A,c,rfl,h1,h2,h3⟩:=h
  obtain ⟨b,off,rfl,hb,hc⟩:=h3 i l[i] (List.getElem?_eq_getElem hi)
  exact ⟨b,off,c,rfl,hb,hc⟩
end
def Own {α:Type}[Enc α](base:Nat)(e:TypeId)(w:World)(v:Value)(l:List α):Prop:=w.ownsRow base e (Enc.k α) v l.length (l.flatMap Enc.cells)
section
variable {α:Type} [Enc α] {base:Nat} {e:TypeId} {w w':World} {v:Value} {l:List α}
theorem Own.nil (base:Nat)(e:TypeId)(w:World):Own base e w (.slice none 0 0) ([]:List α):=World.ownsRow_nil w base e _
theorem Own.sl (h:Own base e w v l):Sl w v l:=by
  have hl:=h.lt
  have hcl:=fun g hg=>h.cells (g:=g) hg
  unfold Own at h
  rcases h.2 with ⟨rfl,h0⟩ | ⟨g,cap,cur,rfl,hb,hg,hnc,hcm,hcs,htake⟩
  ·
    have:l=[]:=List.eq_nil_of_length_eq_zero h0
    subst this;exact Sl.nil w
  ·
    refine ⟨_,cap,rfl,hnc,hcm,fun i x hx=>⟨g,0,rfl,(hl g rfl).2,fun j u hu=>?_⟩⟩
    have:=hcl g rfl (i*Enc.k α+j) u (flat_get l i x j u hx hu)
    have hadd:(⟨g,0,none⟩:Addr).add (i*Enc.k α+j)=⟨g,0+i*Enc.k α+j,none⟩:=by unfold Addr.add;split <;> simp_all
    rw [hadd] at this;exact this
theorem Own.ext (h:Own base e w v l)(x:Ext w w'):Own base e w' v l:=World.ownsRow.kept h (row:=none) ⟨x.below.os,x.below.tape,x.below.output,x.size,fun k hk _=>x.heap hk⟩ (by cases v.ownBlock <;> simp)
theorem Own.alloc (h:Own base e w v l)(o:Obj):Own base e (w.alloc o) v l:=World.ownsRow.alloc h o
theorem Own.lower {b2:Nat}(h:Own base e w v l)(hb:b2≤base):Own b2 e w v l:=by
  refine ⟨h.1,?_⟩
  rcases h.2 with h|⟨g,cap,cur,hv,hg,r⟩
  · exact .inl h
  · exact .inr ⟨g,cap,cur,hv,Nat.le_trans hb hg,r⟩
theorem Own.lt (h:Own base e w v l):∀k,v.ownBlock=some k→base≤k∧k<w.heap.size:=World.ownsRow.lt h
end
section
variable {α:Type} [Enc α] {P:Program} {ops:Array Oper} {rest:List Oper} {o:Oper} {a:Act} {Q:Exit→Act→World→Prop}
end
end Go.Proofs.Ytpipachmngdegaa
end
