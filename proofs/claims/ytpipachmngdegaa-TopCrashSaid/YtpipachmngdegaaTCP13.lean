import Derived.Test.YtpipachmngdegaaTCP12
import Derived.Test.YtpipachmngdegaaTCP3
section
namespace Go.Proofs.Ytpipachmngdegaa
open Go Go.RowKit
set_option linter.unusedVariables false
structure lD where
  Kind:ByteArray
  S:ByteArray
  P:Place
  Q:Place
  A:Int
  B:Int
  N:Int
  K:Int
  ca:Option Addr
  cn:Nat
  cc:Nat
  Changes:List Change
abbrev lD.cv (x:lD):Value:= .slice x.ca x.cn x.cc
abbrev lD.cs (x:lD):List Value:=[.string x.Kind,.string x.S,.int .i64 x.P.iR,.int .i64 x.P.Slot,.int .i64 x.Q.iR,.int .i64 x.Q.Slot,.int .i64 x.A,.int .i64 x.B,.int .i64 x.N,.int .u64 x.K,x.cv]
abbrev lD.val (x:lD):Value:= .agg #[.string x.Kind,.string x.S,.int .i64 x.P.iR,.int .i64 x.P.Slot,.int .i64 x.Q.iR,.int .i64 x.Q.Slot,.int .i64 x.A,.int .i64 x.B,.int .i64 x.N,.int .u64 x.K,x.cv]
instance:Enc lD:=⟨11,lD.cs,fun _=>rfl,fun x u hu=>by simp [lD.cs] at hu;rcases hu with rfl|rfl|rfl|rfl|rfl|rfl|rfl|rfl|rfl|rfl|rfl <;> rfl,by decide⟩
end Go.Proofs.Ytpipachmngdegaa
end
section
namespace Go.Proofs.Ytpipachmngdegaa
open Go.ChangeShapes Go.WideShapes Go.ChangeAt Go.RowKit Go.Deep
set_option linter.unusedVariables false
set_option maxRecDepth 100000
def Change.Fit (x:Change):Prop:=x.Key.size≤maxLen∧x.Val.size≤maxLen
def zc (n:Int):Prop:=0≤n∧n≤18446744073709551615
def lD.Fit (x:lD):Prop:=x.Kind.size≤maxLen∧x.S.size≤maxLen∧x.P.Fit∧x.Q.Fit∧qh x.A∧qh x.B∧qh x.N∧zc x.K ∧ ∀z∈x.Changes,z.Fit
section
variable {H:Type} {enc:TypeId×Value→H} {w:World} {base:Nat} {spare:Nat→Bool} {held:Bool}
theorem kG:Try.prog.cellsOf 9=1:=by kernel_rfl
theorem ry:Try.prog.cellsOf 4=1:=by kernel_rfl
theorem oF:Try.prog.cellsOf 51=3:=by kernel_rfl
theorem nK:Try.prog.cellsOf 46=1:=by kernel_rfl
theorem sF {m:Nat}{c:Value}{y:DataW H×List MemPlace}(h:DataW.trod enc Try.prog w base spare held m 9 [c]=some y):∃s,c = .string s∧s.size≤maxLen:=by
  obtain ⟨s,hs,_,hw⟩:=DataW.trod_string Try.underlying9 h
  injection hs with hs _
  exact ⟨s,hs,hw⟩
theorem uu {m:Nat}{c:Value}{y:DataW H×List MemPlace}(h:DataW.trod enc Try.prog w base spare held m 4 [c]=some y):∃b,c = .bool b:=by
  obtain ⟨b,hs,_⟩:=DataW.trod_bool Try.underlying4 h
  injection hs with hs _
  exact ⟨b,hs⟩
theorem rz {m:Nat}{cs:List Value}{y:DataW H×List MemPlace}(hl:cs.length=3)(h:DataW.trod enc Try.prog w base spare held m 51 cs=some y):∃z:Change,cs=Enc.cells z∧z.Fit:=by
  match cs,hl with
  | [c0,c1,c2],_ =>
    obtain ⟨xs,n,_,_,_,hlen,hf⟩:=DataW.trod_struct Try.underlying51 h
    match xs,hlen with
    | [y0,y1,y2],_ =>
      have g0:=lh hf 0 _ rfl 9 0 1 rfl rfl kG;have g1:=lh hf 1 _ rfl 9 1 1 rfl rfl kG;have g2:=lh hf 2 _ rfl 4 2 1 rfl rfl ry
      obtain ⟨n0,rfl,w0⟩:=sF (c:=c0) (by simpa using g0)
      obtain ⟨n1,rfl,w1⟩:=sF (c:=c1) (by simpa using g1)
      obtain ⟨n2,rfl⟩:=uu (c:=c2) (by simpa using g2)
      exact ⟨⟨n0,n1,n2⟩,rfl,w0,w1⟩
theorem uv {r:Reach}{b0:Nat}{v:Value}{d:DataW H}{p:List MemPlace}(hv:Value.okWide Try.prog w r b0 45 v)(h:DataW.Trod enc Try.prog w base spare held 45 v d p):∃n,v = .int .u64 n∧zc n:=by
  obtain ⟨n,hn,_,_,hw⟩:=open_int Try.underlying45 hv h
  exact ⟨n,hn,bounds_u64 hw⟩
end
end Go.Proofs.Ytpipachmngdegaa
end
