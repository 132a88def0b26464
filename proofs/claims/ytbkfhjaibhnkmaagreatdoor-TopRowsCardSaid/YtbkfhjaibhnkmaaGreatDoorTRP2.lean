import Derived.Test.YtbkfhjaibhnkmaaGreatDoorTRP1
import Derived.Deep.Slices
import Derived.Deep.Fields
import Derived.ChangeSame
import Derived.ProofKit
import Derived.OpenShut
import Derived.ShutString
import Derived.ChangeOld
import Derived.Carry
import Derived.Lib.SmallJoins
import Derived.Test.YtbkfhjaibhnkmaaGreatDoorProg
section
namespace Go.Proofs.YtbkfhjaibhnkmaaGreatDoor
open Go.ChangeShapes Go.WideShapes Go.ChangeAt Go.RowKit Go.Deep
set_option linter.unusedVariables false
def rY (n:Int):Prop:= -9223372036854775808≤n∧n≤9223372036854775807
theorem s5 {n:Int}(h:(Lit.int .i64 n).wf=true):rY n:=by
  have:=bounds_i64 h;unfold rY;omega
theorem lT {α:Type}(p:Nat→α→Prop):∀ (n:Nat),(∀i,i<n → ∃x,p i x) → ∃l:List α,l.length=n ∧ ∀i x,l[i]? = some x→p i x
  | 0,_=>⟨[],rfl,fun i x h=>by simp at h⟩
  | n+1,h=>by
    obtain ⟨l,hl,hp⟩:=lT p n (fun i hi=>h i (by omega))
    obtain ⟨y,hy⟩:=h n (by omega)
    refine ⟨l++[y],by simp [hl],fun i x hx=>?_⟩
    rcases Nat.lt_or_ge i l.length with hi|hi
    · rw [List.getElem?_append_left hi] at hx;exact hp i x hx
    ·
      rw [List.getElem?_append_right hi] at hx
      have:i=n:=by
        have h1:i-l.length<1:=by have:=(List.getElem?_eq_some_iff.1 hx).1;simpa using this
        omega
      subst this
      rw [hl] at hx
      simp at hx;subst hx;exact hy
section
variable {H:Type} {enc:TypeId×Value→H} {P:Program} {w:World} {base:Nat} {spare:Nat→Bool} {held:Bool}
theorem open_list {α:Type}[Enc α]{t e:TypeId}{fuel:Nat}{v:Value}{x:DataW H×List MemPlace}(ht:P.underlying t=some (.slice e))(hC:P.cellsOf e=Enc.k α)(good:α→Prop)
    (hel:∀ (m:Nat) (cs:List Value) (y:DataW H×List MemPlace),cs.length=Enc.k α→DataW.trod enc P w base spare held m e cs=some y → ∃z:α,cs=Enc.cells z∧good z)
    (h:DataW.trod enc P w base spare held fuel t [v]=some x):∃l:List α,Sl w v l ∧ ∀z∈l,good z:=by
  rcases open_slice ht h with ⟨hcs,_⟩ | ⟨a,len,cap,m,n,D,Pl,hcs,hb,hl,hm,hmm,hx,hi⟩
  ·
    injection hcs with h1 _
    subst h1
    exact ⟨[],Sl.nil w,fun z hz=>by simp at hz⟩
  ·
    injection hcs with h1 _
    subst h1
    have hlm:len≤m:=by rw [hmm];split <;> omega
    obtain ⟨l,hlen,hp⟩:=lT (fun i (z:α)=>good z ∧ ∀j u,(Enc.cells z)[j]? = some u→w.cell? (a.add (i*Enc.k α+j))=some u) len (fun i hil=>by
      obtain ⟨cs',hc,htr⟩:=hi i (by omega)
      rw [hC] at hc
      obtain ⟨_,hcl,hat⟩:=World.cells?_some hc
      obtain ⟨z,hz,hg⟩:=hel n cs' _ hcl htr
      refine ⟨z,hg,fun j u hu=>?_⟩
      subst hz
      have hj:j<Enc.k α:=by rw [← hcl];exact (List.getElem?_eq_some_iff.1 hu).1
      have:=hat j hj
      rw [add_add] at this
      rw [this];exact hu)
    have hpos:0<Enc.k α:=Enc.pos
    refine ⟨l,⟨some a,cap,by rw [hlen],by omega,hm,fun i z hz=>?_⟩,fun z hz=>?_⟩
    ·
      obtain ⟨hg,hc⟩:=hp i z hz
      have hnil:0<(Enc.cells z).length:=by rw [Enc.len];exact hpos
      have h0:∃u,(l[0]?.map Enc.cells).bind (·[0]?)=some u:=by
        have h0l:0<l.length:=Nat.lt_of_le_of_lt (Nat.zero_le i) (List.getElem?_eq_some_iff.1 hz).1
        have:0<(Enc.cells l[0]).length:=by rw [Enc.len];exact hpos
        exact ⟨(Enc.cells l[0])[0],by simp [List.getElem?_eq_getElem h0l,List.getElem?_eq_getElem this]⟩
      have hspot:a.spot=none:=by
        have h0l:0<l.length:=Nat.lt_of_le_of_lt (Nat.zero_le i) (List.getElem?_eq_some_iff.1 hz).1
        have Ck:0<(Enc.cells l[0]).length:=by rw [Enc.len];exact hpos
        have hc0:=(hp 0 l[0] (List.getElem?_eq_getElem h0l)).2 0 (Enc.cells l[0])[0] (List.getElem?_eq_getElem Ck)
        simp only [Nat.zero_mul,Nat.zero_add,Addr.add,if_true] at hc0
        unfold World.cell? at hc0
        split at hc0
        ·
          split at hc0
          · cases hc0
          · rename_i hs;simpa using hs
        · cases hc0
      obtain ⟨b,off,sp⟩:=a
      simp only [] at hspot
      subst hspot
      have hadd:∀n,(⟨b,off,none⟩:Addr).add n=⟨b,off+n,none⟩:=fun n=>by unfold Addr.add;split <;> simp_all
      refine ⟨b,off,rfl,?_,fun j u hu=>?_⟩
      ·
        have hh:=hc 0 (Enc.cells z)[0] (List.getElem?_eq_getElem hnil)
        rw [hadd] at hh
        exact World.block_lt_of_cell? w _ hh
      ·
        have hh:=hc j u hu
        rw [hadd,← Nat.add_assoc] at hh
        exact hh
    ·
      obtain ⟨i,hi⟩:=List.mem_iff_getElem?.1 hz
      exact (hp i z hi).1
theorem trodAll_back (hl:laidOutB P=true){W W':World}(hb:Below W.heap.size W W'):∀ {ts:List TypeId} {vs:List Value} {ds:List (DataW H)} {ps:List MemPlace},
    (∀t∈ts,P.readableRec t=true∧t<P.types.size)→DataW.TrodAll enc P W 0 (fun _=>true) true ts vs ds ps →
    DataW.TrodAll enc P W' 0 (fun b=>decide (b<W.heap.size)) true ts vs ds ps
  | [],vs,ds,ps,_,h=>by
    obtain ⟨rfl,rfl,rfl⟩:=trodAll_nil h
    exact trodAll_mk0
  | t::ts,vs,ds,ps,hr,h=>by
    obtain ⟨v,vs',d,ds',p,q,rfl,rfl,rfl,h0,h1⟩:=trodAll_cons h
    have hlt:∀x∈p,x.block<W.heap.size:=by obtain ⟨m,hm⟩:=h0;exact DataW.trod_lt m _ _ _ hm
    exact trodAll_cons_mk (Below.trod hl (hr t (by simp)).1 (hr t (by simp)).2 h0 hb hlt) (trodAll_back hl hb (fun t' ht'=>hr t' (by simp [ht'])) h1)
end
end Go.Proofs.YtbkfhjaibhnkmaaGreatDoor
end
section
namespace Go.Proofs.YtbkfhjaibhnkmaaGreatDoor
open Go.ChangeShapes Go.WideShapes Go.ChangeAt Go.RowKit Go.Deep
set_option linter.unusedVariables false
set_option maxRecDepth 100000
def ak.Fit (x:ak):Prop:=rY x.ID∧rY x.ai∧rY x.Rights∧rY x.ar∧rY x.From
section
variable {H:Type} {enc:TypeId×Value→H} {w:World} {base:Nat} {spare:Nat→Bool} {held:Bool}
theorem mU {m:Nat}{c:Value}{y:DataW H×List MemPlace}(h:DataW.trod enc Tryz.prog w base spare held m 3 [c]=some y):∃n,c = .int .i64 n∧rY n:=by
  obtain ⟨n,hn,_,hw⟩:=DataW.trod_int Tryz.underlying3 h
  injection hn with hn _
  exact ⟨n,hn,s5 hw⟩
theorem ec {P:Program}{fs:Array Field}{n:Nat}{cs:List Value}{xs:List (DataW H×List MemPlace)}
    (hf:∀ (i:Nat) (f:Field),fs[i]? = some f→DataW.trod enc P w base spare held n f.type ((cs.drop f.offset).take (P.cellsOf f.type))=xs[i]?)
    (i:Nat) (f:Field) (hi:fs[i]? = some f) (t o k:Nat) (ht:f.type=t) (ho:f.offset=o) (hk:P.cellsOf t=k):DataW.trod enc P w base spare held n t ((cs.drop o).take k)=xs[i]?:=by
  subst ht ho hk;exact hf i f hi
theorem jr:Tryz.prog.cellsOf 3=1:=by kernel_rfl
end
end Go.Proofs.YtbkfhjaibhnkmaaGreatDoor
end
section
namespace Go.Proofs.YtbkfhjaibhnkmaaGreatDoor
open Go.ChangeShapes Go.WideShapes Go.ChangeAt Go.RowKit Go.Deep
set_option linter.unusedVariables false
set_option maxRecDepth 100000
def Place.Fit (x:Place):Prop:=rY x.ag∧rY x.Slot
def Held.Fit (x:Held):Prop:=x.Place.Fit∧rY x.ak
section
variable {H:Type} {enc:TypeId×Value→H} {w:World} {base:Nat} {spare:Nat→Bool} {held:Bool}
theorem mV:Tryz.prog.cellsOf 39=2:=by kernel_rfl
theorem pD {m:Nat}{cs:List Value}{y:DataW H×List MemPlace}(hl:cs.length=2)(h:DataW.trod enc Tryz.prog w base spare held m 39 cs=some y):∃z:Place,cs=[.int .i64 z.ag,.int .i64 z.Slot]∧z.Fit:=by
  match cs,hl with
  | [c0,c1],_ =>
    obtain ⟨xs,n,_,_,_,hlen,hf⟩:=DataW.trod_struct Tryz.underlying39 h
    match xs,hlen with
    | [y0,y1],_ =>
      have g0:=ec hf 0 _ rfl 3 0 1 rfl rfl jr;have g1:=ec hf 1 _ rfl 3 1 1 rfl rfl jr
      obtain ⟨n0,rfl,w0⟩:=mU (c:=c0) (by simpa using g0)
      obtain ⟨n1,rfl,w1⟩:=mU (c:=c1) (by simpa using g1)
      exact ⟨⟨n0,n1⟩,rfl,w0,w1⟩
end
end Go.Proofs.YtbkfhjaibhnkmaaGreatDoor
end
