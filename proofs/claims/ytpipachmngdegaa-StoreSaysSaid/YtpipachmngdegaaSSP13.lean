import Derived.Test.YtpipachmngdegaaSSP12
import Derived.Test.YtpipachmngdegaaSSP3
section
namespace Go.Proofs.Ytpipachmngdegaa
open Go Go.RowKit
set_option linter.unusedVariables false
structure dj where
  Kind:ByteArray
  S:ByteArray
  P:Place
  Q:Place
  A:Int
  B:Int
  N:Int
  K:Int
  ca:Option Addr
  cn:Nat
  cc:Nat
  Changes:List Change
abbrev dj.cv (x:dj):Value:= .slice x.ca x.cn x.cc
abbrev dj.cs (x:dj):List Value:=[.string x.Kind,.string x.S,.int .i64 x.P.bH,.int .i64 x.P.Slot,.int .i64 x.Q.bH,.int .i64 x.Q.Slot,.int .i64 x.A,.int .i64 x.B,.int .i64 x.N,.int .u64 x.K,x.cv]
abbrev dj.val (x:dj):Value:= .agg #[.string x.Kind,.string x.S,.int .i64 x.P.bH,.int .i64 x.P.Slot,.int .i64 x.Q.bH,.int .i64 x.Q.Slot,.int .i64 x.A,.int .i64 x.B,.int .i64 x.N,.int .u64 x.K,x.cv]
instance:Enc dj:=⟨11,dj.cs,fun _=>rfl,fun x u hu=>by simp [dj.cs] at hu;rcases hu with rfl|rfl|rfl|rfl|rfl|rfl|rfl|rfl|rfl|rfl|rfl <;> rfl,by decide⟩
def af.acts (l:List dj):af:=⟨l.flatMap (fun x=>(af.ls x.cv x.Changes).blk),fun w => ∀x∈l,Sl w x.cv x.Changes,fun w w' h hs x hx=>(af.ls x.cv x.Changes).loc w w' (fun k hk=>h k (List.mem_flatMap.2 ⟨x,hx,hk⟩)) (hs x hx)⟩
theorem qE {w:World}{l:List dj}(h:∀x∈l,Sl w x.cv x.Changes):∀k∈(af.acts l).blk,k<w.heap.size:=fun k hk=>by
  obtain ⟨x,hx,hk⟩:=List.mem_flatMap.1 hk
  exact vA (h x hx) k hk
theorem Wd.acts {we w:World}{X:List Nat}{B F:List af}{l:List dj}(i:Nat)(h:F[i]? = some (af.acts l))(hw:Wd we X B F w):∀x∈l,Sl w x.cv x.Changes:=hw.f i h
theorem Wd.uE {we w:World}{X:List Nat}{B F:List af}{l:List dj}{x:dj}(i:Nat)(h:F[i]? = some (af.acts l))(hx:x∈l)(hw:Wd we X B F w):Sl w x.cv x.Changes:=hw.f i h x hx
theorem uF {l:List dj}{x:dj}(hx:x∈l):∀k∈(af.ls x.cv x.Changes).blk,k∈(af.acts l).blk:=fun k hk=>List.mem_flatMap.2 ⟨x,hx,hk⟩
end Go.Proofs.Ytpipachmngdegaa
end
section
namespace Go.Proofs.Ytpipachmngdegaa
open Go.ChangeShapes Go.WideShapes Go.ChangeAt Go.RowKit Go.Deep
set_option linter.unusedVariables false
set_option maxRecDepth 100000
def Change.Fit (x:Change):Prop:=x.Key.size≤maxLen∧x.Val.size≤maxLen
def zK (n:Int):Prop:=0≤n∧n≤18446744073709551615
def dj.Fit (x:dj):Prop:=x.Kind.size≤maxLen∧x.S.size≤maxLen∧x.P.Fit∧x.Q.Fit∧pK x.A∧pK x.B∧pK x.N∧zK x.K ∧ ∀z∈x.Changes,z.Fit
section
variable {H:Type} {enc:TypeId×Value→H} {w:World} {base:Nat} {spare:Nat→Bool} {held:Bool}
theorem gU:Try.prog.cellsOf 9=1:=by kernel_rfl
theorem rH:Try.prog.cellsOf 4=1:=by kernel_rfl
theorem sS:Try.prog.cellsOf 45=1:=by kernel_rfl
theorem oM:Try.prog.cellsOf 51=3:=by kernel_rfl
theorem nX:Try.prog.cellsOf 46=1:=by kernel_rfl
theorem rJ:Try.prog.cellsOf 48=11:=by kernel_rfl
theorem nY {m:Nat}{c:Value}{y:DataW H×List MemPlace}(h:DataW.trod enc Try.prog w base spare held m 9 [c]=some y):∃s,c = .string s∧s.size≤maxLen:=by
  obtain ⟨s,hs,_,hw⟩:=DataW.trod_string Try.underlying9 h
  injection hs with hs _
  exact ⟨s,hs,hw⟩
theorem uG {m:Nat}{c:Value}{y:DataW H×List MemPlace}(h:DataW.trod enc Try.prog w base spare held m 4 [c]=some y):∃b,c = .bool b:=by
  obtain ⟨b,hs,_⟩:=DataW.trod_bool Try.underlying4 h
  injection hs with hs _
  exact ⟨b,hs⟩
theorem wk {m:Nat}{c:Value}{y:DataW H×List MemPlace}(h:DataW.trod enc Try.prog w base spare held m 45 [c]=some y):∃n,c = .int .u64 n∧zK n:=by
  obtain ⟨n,hn,_,hw⟩:=DataW.trod_int Try.underlying45 h
  injection hn with hn _
  exact ⟨n,hn,bounds_u64 hw⟩
theorem rK {m:Nat}{cs:List Value}{y:DataW H×List MemPlace}(hl:cs.length=3)(h:DataW.trod enc Try.prog w base spare held m 51 cs=some y):∃z:Change,cs=Enc.cells z∧z.Fit:=by
  match cs,hl with
  | [c0,c1,c2],_ =>
    obtain ⟨xs,n,_,_,_,hlen,hf⟩:=DataW.trod_struct Try.underlying51 h
    match xs,hlen with
    | [y0,y1,y2],_ =>
      have g0:=di hf 0 _ rfl 9 0 1 rfl rfl gU;have g1:=di hf 1 _ rfl 9 1 1 rfl rfl gU;have g2:=di hf 2 _ rfl 4 2 1 rfl rfl rH
      obtain ⟨n0,rfl,w0⟩:=nY (c:=c0) (by simpa using g0)
      obtain ⟨n1,rfl,w1⟩:=nY (c:=c1) (by simpa using g1)
      obtain ⟨n2,rfl⟩:=uG (c:=c2) (by simpa using g2)
      exact ⟨⟨n0,n1,n2⟩,rfl,w0,w1⟩
theorem wm {m:Nat}{cs:List Value}{y:DataW H×List MemPlace}(hl:cs.length=11)(h:DataW.trod enc Try.prog w base spare held m 48 cs=some y):∃z:dj,cs=Enc.cells z∧(Sl w z.cv z.Changes∧z.Fit):=by
  match cs,hl with
  | [c0,c1,c2,c3,c4,c5,c6,c7,c8,c9,c10],_ =>
    obtain ⟨xs,n,_,_,_,hlen,hf⟩:=DataW.trod_struct Try.underlying48 h
    match xs,hlen with
    | [y0,y1,y2,y3,y4,y5,y6,y7,y8],_ =>
      have g0:=di hf 0 _ rfl 9 0 1 rfl rfl gU;have g1:=di hf 1 _ rfl 9 1 1 rfl rfl gU
      have g2:=di hf 2 _ rfl 44 2 2 rfl rfl lD;have g3:=di hf 3 _ rfl 44 4 2 rfl rfl lD
      have g4:=di hf 4 _ rfl 3 6 1 rfl rfl i4;have g5:=di hf 5 _ rfl 3 7 1 rfl rfl i4;have g6:=di hf 6 _ rfl 3 8 1 rfl rfl i4
      have g7:=di hf 7 _ rfl 45 9 1 rfl rfl sS;have g8:=di hf 8 _ rfl 46 10 1 rfl rfl nX
      obtain ⟨n0,rfl,w0⟩:=nY (c:=c0) (by simpa using g0)
      obtain ⟨n1,rfl,w1⟩:=nY (c:=c1) (by simpa using g1)
      obtain ⟨z0,e0,w2⟩:=oG (cs:=[c2,c3]) rfl (by simpa using g2)
      simp only [List.cons.injEq,and_true] at e0
      obtain ⟨rfl,rfl⟩:=e0
      obtain ⟨z1,e1,w3⟩:=oG (cs:=[c4,c5]) rfl (by simpa using g3)
      simp only [List.cons.injEq,and_true] at e1
      obtain ⟨rfl,rfl⟩:=e1
      obtain ⟨n4,rfl,w4⟩:=lC (c:=c6) (by simpa using g4)
      obtain ⟨n5,rfl,w5⟩:=lC (c:=c7) (by simpa using g5)
      obtain ⟨n6,rfl,w6⟩:=lC (c:=c8) (by simpa using g6)
      obtain ⟨n7,rfl,w7⟩:=wk (c:=c9) (by simpa using g7)
      obtain ⟨l,hs,hg⟩:=open_list (v:=c10) Try.underlying46 oM Change.Fit (fun _ _ _ hl hy=>rK hl hy) (by simpa using g8)
      have hs':=hs
      obtain ⟨A,c,rfl,_⟩:=hs
      exact ⟨⟨n0,n1,z0,z1,n4,n5,n6,n7,A,l.length,c,l⟩,rfl,hs',w0,w1,w2,w3,w4,w5,w6,w7,hg⟩
theorem sT {r:Reach}{b0:Nat}{v:Value}{d:DataW H}{p:List MemPlace}(hv:Value.okWide Try.prog w r b0 23 v)(h:DataW.Trod enc Try.prog w base spare held 23 v d p):∃l:List dj,Sl w v l∧(∀z∈l,Sl w z.cv z.Changes) ∧ ∀z∈l,z.Fit:=by
  obtain ⟨a,len,cap,rfl⟩:=okWide_slice Try.underlying23 hv
  obtain ⟨m,hm⟩:=h
  obtain ⟨l,h1,h2⟩:=open_list Try.underlying23 rJ (fun z:dj=>Sl w z.cv z.Changes∧z.Fit) (fun _ _ _ hl hy=>wm hl hy) hm
  exact ⟨l,h1,fun z hz=>(h2 z hz).1,fun z hz=>(h2 z hz).2⟩
end
end Go.Proofs.Ytpipachmngdegaa
end
