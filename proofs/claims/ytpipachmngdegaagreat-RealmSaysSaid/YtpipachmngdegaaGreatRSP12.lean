import Derived.Test.YtpipachmngdegaaGreatRSP11
import Derived.Test.YtpipachmngdegaaGreatRSP3
section
namespace Go.Proofs.YtpipachmngdegaaGreat
open Go Go.RowKit
set_option linter.unusedVariables false
set_option linter.unusedSimpArgs false
theorem ve {n r:Int}(h:n=r∧0≤r∧r≤18446744073709551615):IntKind.u64.wrap n=r:=by
  obtain ⟨rfl,h1,h2⟩:=h
  have:IntKind.u64.wrap n=n % 18446744073709551616:=rfl
  rw [this];omega
theorem yr {m D:Nat}{e:Int}(h:e=((D:Nat):Int)):((m:Nat):Int).fdiv e=((m / D:Nat):Int):=by
  subst h;rw [Int.fdiv_eq_ediv_of_nonneg _ (by omega)];rfl
section
variable {P:Program} {n:Nat} {we:World} {X:List Nat} {Q:Exit→Act→World→Prop} {k k':List It} {L:Fm} {B F:List ah} {ops rest:List Oper}
variable {dst:Option Nat} {d:Nat} {op:Op} {ty:TypeId} {pos:String} {dQ:Array Edge} {g:Option (Nat×Bool)} {v:Value}
variable {x y z:Operand} {xT yT t e:TypeId} {kd yj:IntKind} {α:Type} [Enc α] {l:List α}
theorem q.uH {op:Op}{v v':Value}(h:v=v')(hq:Qt P n we X L B F op ty v):Qt P n we X L B F op ty v':=h▸hq
def jr (v:Value):Bool:=match v with | .slice A _ _=>A.isNone|_=>true
theorem Sl.jr {w:World}{v:Value}{l:List α}(h:Sl w v l)(hn:YtpipachmngdegaaGreat.jr v=true):l=[]:=by
  obtain ⟨A,c,rfl,h1,h2,h3⟩:=h
  cases l with
  | nil=>rfl
  | cons x l =>
    obtain ⟨b,off,hA,_⟩:=h3 0 x rfl
    simp [YtpipachmngdegaaGreat.jr,hA] at hn
theorem q.lj {c:Value}(hs:∀w,Wd we X B F w→Sl w v l)(hx:ev L x=some v)(hy:ev L (.const c)=some (.slice none 0 0))(ht:P.underlying xT=some (.slice e)):Qt P n we X L B F (.binOp .eql xT x (.const c) yT) ty (.bool (jr v)):=fun _ _ _ _ q w ha hw=>by
  obtain ⟨A,cc,rfl,h1,h2,h3⟩:=hs w hw
  have hc:c = .slice none 0 0:=by simpa [YtpipachmngdegaaGreat.ev] using hy
  subst hc
  have he:(Op.equal xT (.slice A l.length cc) (.slice none 0 0)).run P w = .ok A.isNone w:=by
    show (Op.equalIn (9999+1) xT _ _).run P w=_
    unfold Op.equalIn
    cases A <;> simp [run_underlying ht]
  have hev:q.eval (.const (.slice none 0 0)) = .slice none 0 0:=rfl
  simp only [execOp,ha.ev hx,hev,eqGuard_at_slice,binOp,Sem.run_bind,Sem.run_pure,Result.andThen_ok,he,YtpipachmngdegaaGreat.jr]
end
end Go.Proofs.YtpipachmngdegaaGreat
end
section
namespace Go.Proofs.YtpipachmngdegaaGreat
open Go Go.RowKit
set_option linter.unusedVariables false
structure ef where
  Kind:ByteArray
  S:ByteArray
  P:Place
  Q:Place
  A:Int
  B:Int
  N:Int
  K:Int
  ca:Option Addr
  cn:Nat
  cc:Nat
  Changes:List Change
abbrev ef.cv (x:ef):Value:= .slice x.ca x.cn x.cc
abbrev ef.cs (x:ef):List Value:=[.string x.Kind,.string x.S,.int .i64 x.P.ag,.int .i64 x.P.Slot,.int .i64 x.Q.ag,.int .i64 x.Q.Slot,.int .i64 x.A,.int .i64 x.B,.int .i64 x.N,.int .u64 x.K,x.cv]
abbrev ef.val (x:ef):Value:= .agg #[.string x.Kind,.string x.S,.int .i64 x.P.ag,.int .i64 x.P.Slot,.int .i64 x.Q.ag,.int .i64 x.Q.Slot,.int .i64 x.A,.int .i64 x.B,.int .i64 x.N,.int .u64 x.K,x.cv]
instance:Enc ef:=⟨11,ef.cs,fun _=>rfl,fun x u hu=>by simp [ef.cs] at hu;rcases hu with rfl|rfl|rfl|rfl|rfl|rfl|rfl|rfl|rfl|rfl|rfl <;> rfl,by decide⟩
def ah.acts (l:List ef):ah:=⟨l.flatMap (fun x=>(ah.ls x.cv x.Changes).blk),fun w => ∀x∈l,Sl w x.cv x.Changes,fun w w' h hs x hx=>(ah.ls x.cv x.Changes).loc w w' (fun k hk=>h k (List.mem_flatMap.2 ⟨x,hx,hk⟩)) (hs x hx)⟩
theorem qH {w:World}{l:List ef}(h:∀x∈l,Sl w x.cv x.Changes):∀k∈(ah.acts l).blk,k<w.heap.size:=fun k hk=>by
  obtain ⟨x,hx,hk⟩:=List.mem_flatMap.1 hk
  exact uE (h x hx) k hk
theorem Wd.acts {we w:World}{X:List Nat}{B F:List ah}{l:List ef}(i:Nat)(h:F[i]? = some (ah.acts l))(hw:Wd we X B F w):∀x∈l,Sl w x.cv x.Changes:=hw.f i h
theorem Wd.vf {we w:World}{X:List Nat}{B F:List ah}{l:List ef}{x:ef}(i:Nat)(h:F[i]? = some (ah.acts l))(hx:x∈l)(hw:Wd we X B F w):Sl w x.cv x.Changes:=hw.f i h x hx
end Go.Proofs.YtpipachmngdegaaGreat
end
section
namespace Go.Proofs.YtpipachmngdegaaGreat
open Go.ChangeShapes Go.WideShapes Go.ChangeAt Go.RowKit Go.Deep
set_option linter.unusedVariables false
set_option maxRecDepth 100000
def Change.Fit (x:Change):Prop:=x.Key.size≤maxLen∧x.Val.size≤maxLen
def yL (n:Int):Prop:=0≤n∧n≤18446744073709551615
def ef.Fit (x:ef):Prop:=x.Kind.size≤maxLen∧x.S.size≤maxLen∧x.P.Fit∧x.Q.Fit∧qA x.A∧qA x.B∧qA x.N∧yL x.K ∧ ∀z∈x.Changes,z.Fit
section
variable {H:Type} {enc:TypeId×Value→H} {w:World} {base:Nat} {spare:Nat→Bool} {held:Bool}
theorem hD:Tryz.prog.cellsOf 9=1:=by kernel_rfl
theorem rC:Tryz.prog.cellsOf 4=1:=by kernel_rfl
theorem sA:Tryz.prog.cellsOf 34=1:=by kernel_rfl
theorem oI:Tryz.prog.cellsOf 106=3:=by kernel_rfl
theorem nV:Tryz.prog.cellsOf 35=1:=by kernel_rfl
theorem rD:Tryz.prog.cellsOf 37=11:=by kernel_rfl
theorem nW {m:Nat}{c:Value}{y:DataW H×List MemPlace}(h:DataW.trod enc Tryz.prog w base spare held m 9 [c]=some y):∃s,c = .string s∧s.size≤maxLen:=by
  obtain ⟨s,hs,_,hw⟩:=DataW.trod_string Tryz.underlying9 h
  injection hs with hs _
  exact ⟨s,hs,hw⟩
theorem tV {m:Nat}{c:Value}{y:DataW H×List MemPlace}(h:DataW.trod enc Tryz.prog w base spare held m 4 [c]=some y):∃b,c = .bool b:=by
  obtain ⟨b,hs,_⟩:=DataW.trod_bool Tryz.underlying4 h
  injection hs with hs _
  exact ⟨b,hs⟩
theorem vg {m:Nat}{c:Value}{y:DataW H×List MemPlace}(h:DataW.trod enc Tryz.prog w base spare held m 34 [c]=some y):∃n,c = .int .u64 n∧yL n:=by
  obtain ⟨n,hn,_,hw⟩:=DataW.trod_int Tryz.underlying34 h
  injection hn with hn _
  exact ⟨n,hn,bounds_u64 hw⟩
theorem rF {m:Nat}{cs:List Value}{y:DataW H×List MemPlace}(hl:cs.length=3)(h:DataW.trod enc Tryz.prog w base spare held m 106 cs=some y):∃z:Change,cs=Enc.cells z∧z.Fit:=by
  match cs,hl with
  | [c0,c1,c2],_ =>
    obtain ⟨xs,n,_,_,_,hlen,hf⟩:=DataW.trod_struct Tryz.underlying106 h
    match xs,hlen with
    | [y0,y1,y2],_ =>
      have g0:=eb hf 0 _ rfl 9 0 1 rfl rfl hD;have g1:=eb hf 1 _ rfl 9 1 1 rfl rfl hD;have g2:=eb hf 2 _ rfl 4 2 1 rfl rfl rC
      obtain ⟨n0,rfl,w0⟩:=nW (c:=c0) (by simpa using g0)
      obtain ⟨n1,rfl,w1⟩:=nW (c:=c1) (by simpa using g1)
      obtain ⟨n2,rfl⟩:=tV (c:=c2) (by simpa using g2)
      exact ⟨⟨n0,n1,n2⟩,rfl,w0,w1⟩
theorem vj {m:Nat}{cs:List Value}{y:DataW H×List MemPlace}(hl:cs.length=11)(h:DataW.trod enc Tryz.prog w base spare held m 37 cs=some y):∃z:ef,cs=Enc.cells z∧(Sl w z.cv z.Changes∧z.Fit):=by
  match cs,hl with
  | [c0,c1,c2,c3,c4,c5,c6,c7,c8,c9,c10],_ =>
    obtain ⟨xs,n,_,_,_,hlen,hf⟩:=DataW.trod_struct Tryz.underlying37 h
    match xs,hlen with
    | [y0,y1,y2,y3,y4,y5,y6,y7,y8],_ =>
      have g0:=eb hf 0 _ rfl 9 0 1 rfl rfl hD;have g1:=eb hf 1 _ rfl 9 1 1 rfl rfl hD
      have g2:=eb hf 2 _ rfl 33 2 2 rfl rfl lX;have g3:=eb hf 3 _ rfl 33 4 2 rfl rfl lX
      have g4:=eb hf 4 _ rfl 3 6 1 rfl rfl jh;have g5:=eb hf 5 _ rfl 3 7 1 rfl rfl jh;have g6:=eb hf 6 _ rfl 3 8 1 rfl rfl jh
      have g7:=eb hf 7 _ rfl 34 9 1 rfl rfl sA;have g8:=eb hf 8 _ rfl 35 10 1 rfl rfl nV
      obtain ⟨n0,rfl,w0⟩:=nW (c:=c0) (by simpa using g0)
      obtain ⟨n1,rfl,w1⟩:=nW (c:=c1) (by simpa using g1)
      obtain ⟨z0,e0,w2⟩:=oE (cs:=[c2,c3]) rfl (by simpa using g2)
      simp only [List.cons.injEq,and_true] at e0
      obtain ⟨rfl,rfl⟩:=e0
      obtain ⟨z1,e1,w3⟩:=oE (cs:=[c4,c5]) rfl (by simpa using g3)
      simp only [List.cons.injEq,and_true] at e1
      obtain ⟨rfl,rfl⟩:=e1
      obtain ⟨n4,rfl,w4⟩:=lW (c:=c6) (by simpa using g4)
      obtain ⟨n5,rfl,w5⟩:=lW (c:=c7) (by simpa using g5)
      obtain ⟨n6,rfl,w6⟩:=lW (c:=c8) (by simpa using g6)
      obtain ⟨n7,rfl,w7⟩:=vg (c:=c9) (by simpa using g7)
      obtain ⟨l,hs,hg⟩:=open_list (v:=c10) Tryz.underlying35 oI Change.Fit (fun _ _ _ hl hy=>rF hl hy) (by simpa using g8)
      have hs':=hs
      obtain ⟨A,c,rfl,_⟩:=hs
      exact ⟨⟨n0,n1,z0,z1,n4,n5,n6,n7,A,l.length,c,l⟩,rfl,hs',w0,w1,w2,w3,w4,w5,w6,w7,hg⟩
theorem sB {r:Reach}{b0:Nat}{v:Value}{d:DataW H}{p:List MemPlace}(hv:Value.okWide Tryz.prog w r b0 22 v)(h:DataW.Trod enc Tryz.prog w base spare held 22 v d p):∃l:List ef,Sl w v l∧(∀z∈l,Sl w z.cv z.Changes) ∧ ∀z∈l,z.Fit:=by
  obtain ⟨a,len,cap,rfl⟩:=okWide_slice Tryz.underlying22 hv
  obtain ⟨m,hm⟩:=h
  obtain ⟨l,h1,h2⟩:=open_list Tryz.underlying22 rD (fun z:ef=>Sl w z.cv z.Changes∧z.Fit) (fun _ _ _ hl hy=>vj hl hy) hm
  exact ⟨l,h1,fun z hz=>(h2 z hz).1,fun z hz=>(h2 z hz).2⟩
end
end Go.Proofs.YtpipachmngdegaaGreat
end
