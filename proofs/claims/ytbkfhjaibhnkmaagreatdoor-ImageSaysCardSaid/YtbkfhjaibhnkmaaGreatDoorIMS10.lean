import Derived.Test.YtbkfhjaibhnkmaaGreatDoorIMS9
import Derived.Test.YtbkfhjaibhnkmaaGreatDoorIMS1
section
namespace Go.Proofs.YtbkfhjaibhnkmaaGreatDoor
open Go Go.RowKit
set_option linter.unusedVariables false
set_option linter.unusedSimpArgs false
theorem Aw {n r:Int}(h:n=r∧0≤r∧r≤18446744073709551615):IntKind.u64.wrap n=r:=by
 obtain ⟨rfl,h1,h2⟩:=h
 have:IntKind.u64.wrap n=n % 18446744073709551616:=rfl
 rw [this];omega
theorem Et {n r:Int}(h:n=r∧0≤r∧r≤255):IntKind.u8.wrap n=r:=by
 obtain ⟨rfl,h1,h2⟩:=h
 have:IntKind.u8.wrap n=n % 256:=rfl
 rw [this];omega
theorem GM {m D:Nat}{e:Int}(h:e=((D:Nat):Int)):((m:Nat):Int).fdiv e=((m / D:Nat):Int):=by
 subst h;rw [Int.fdiv_eq_ediv_of_nonneg _ (by omega)];rfl
section
variable {P:Program} {n:Nat} {we:World} {X:List Nat} {Q:Exit→Act→World→Prop} {k k':List It} {L:Fm} {B F:List ag} {ops rest:List Oper}
variable {dst:Option Nat} {d:Nat} {op:Op} {ty:TypeId} {pos:String} {eV:Array Edge} {g:Option (Nat×Bool)} {v:Value}
variable {x y z:Operand} {xT yT t e:TypeId} {kd GH:IntKind} {α:Type} [Enc α] {l:List α}
theorem q.Eu {op:Op}{v v':Value}(h:v=v')(hq:Qt P n we X L B F op ty v):Qt P n we X L B F op ty v':=h▸hq
theorem q.E5 {s:ByteArray}{m:Int}{i:Nat}{c:UInt8}(hx:ev L x=some (.string s))(hy:ev L y=some (.int kd m))(ht:P.underlying xT=some .string)(hm:m=(i:Int))(hi:s.data[i]? = some c) :
 Qt P n we X L B F (.index xT x y) ty (.int .u8 ((c.toNat:Nat):Int)):=fun _ _ _ _ a w ha hw=>by
 subst hm
 have hlt:i<s.size:=(Array.getElem?_eq_some_iff.1 hi).1
 have h2:s[i]=c:=(Array.getElem?_eq_some_iff.1 hi).2
 have:=run_index_string (P:=P) w xT s kd (i:Int) ht
 simp only [execOp,ha.ev hx,ha.ev hy]
 simp [Instr.index,run_underlying ht,asIntOf,hlt,h2]
theorem q.IG {s:ByteArray}{m r:Int}{i j:Nat}(hx:ev L x=some (.string s))(hy:ev L y=some (.int kd m))(hz:ev L z=some (.int GH r))(ht:P.underlying xT=some .string)(hm:m=(i:Int))(hr:r=(j:Int))(hij:i≤j)(hj:j≤s.size) :
 Qt P n we X L B F (.slice xT x (some y) (some z) none) ty (.string (s.extract i j)):=fun _ _ _ _ a w ha hw=>by
 subst hm;subst hr
 have e:(Instr.slice xT (.string s) (some (.int kd (i:Int))) (some (.int GH (j:Int))) none).run P w = .ok (.string (s.extract i j)) w:=by
  have h1:(i:Int)≤(j:Int):=by omega
  have h2:(j:Int)≤(s.size:Int):=by omega
  simp [Instr.slice,run_underlying ht,Instr.sliceBounds,run_sliceBound,sliced, *]
 simp only [execOp,ha.ev hx,Option.map_some,Option.map_none,ha.ev hy,ha.ev hz,Sem.run_bind,run_sliceAt_string w xT _ _ _ _ ht,e,Result.andThen_ok,Sem.run_pure]
theorem q.Ev {s:ByteArray}{m:Int}{i:Nat}(hx:ev L x=some (.string s))(hy:ev L y=some (.int kd m))(ht:P.underlying xT=some .string)(hm:m=(i:Int))(hi:i≤s.size) :
 Qt P n we X L B F (.slice xT x (some y) none none) ty (.string (s.extract i s.size)):=fun _ _ _ _ a w ha hw=>by
 subst hm
 have e:=run_slice_string_l (P:=P) w xT s ht kd (i:Int) (by omega) (by omega)
 simp only [Int.toNat_natCast] at e
 simp only [execOp,ha.ev hx,Option.map_some,Option.map_none,ha.ev hy,Sem.run_bind,run_sliceAt_string w xT _ _ _ _ ht,e,Result.andThen_ok,Sem.run_pure]
def fS (a b:ByteArray):Bool:=Op.bytesLess a.toList b.toList
theorem q.zf {a b:ByteArray}{r:Bool}(hx:ev L x=some (.string a))(hy:ev L y=some (.string b))(h:fS a b=r):Qt P n we X L B F (.binOp .lss xT x y yT) ty (.bool r):=fun _ _ _ _ q w ha hw=>by
 subst h;simp only [execOp,ha.ev hx,ha.ev hy,binOp,Op.stringOp,eqGuard,fS];simp
theorem q.qh {a b:ByteArray}{r:Bool}(hx:ev L x=some (.string a))(hy:ev L y=some (.string b))(h:(fS a b||decide (a=b))=r):Qt P n we X L B F (.binOp .leq xT x y yT) ty (.bool r):=fun _ _ _ _ q w ha hw=>by
 subst h;simp only [execOp,ha.ev hx,ha.ev hy,binOp,Op.stringOp,eqGuard,fS,i7];simp
def oY (v:Value):Bool:=match v with | .slice A _ _=>A.isNone|_=>true
theorem Sl.oY {w:World}{v:Value}{l:List α}(h:Sl w v l)(hn:YtbkfhjaibhnkmaaGreatDoor.oY v=true):l=[]:=by
 obtain ⟨A,c,rfl,h1,h2,h3⟩:=h
 cases l with
 | nil=>rfl
 | cons x l =>
  obtain ⟨b,off,hA,_⟩:=h3 0 x rfl
  simp [YtbkfhjaibhnkmaaGreatDoor.oY,hA] at hn
theorem q.pJ {c:Value}(hs:∀w,Wd we X B F w→Sl w v l)(hx:ev L x=some v)(hy:ev L (.const c)=some (.slice none 0 0))(ht:P.underlying xT=some (.slice e)):Qt P n we X L B F (.binOp .eql xT x (.const c) yT) ty (.bool (oY v)):=fun _ _ _ _ q w ha hw=>by
 obtain ⟨A,cc,rfl,h1,h2,h3⟩:=hs w hw
 have hc:c = .slice none 0 0:=by simpa [YtbkfhjaibhnkmaaGreatDoor.ev] using hy
 subst hc
 have he:(Op.equal xT (.slice A l.length cc) (.slice none 0 0)).run P w = .ok A.isNone w:=by
  show (Op.equalIn (9999+1) xT _ _).run P w=_
  unfold Op.equalIn
  cases A <;> simp [run_underlying ht]
 have hev:q.eval (.const (.slice none 0 0)) = .slice none 0 0:=rfl
 simp only [execOp,ha.ev hx,hev,eqGuard_at_slice,binOp,Sem.run_bind,Sem.run_pure,Result.andThen_ok,he,YtbkfhjaibhnkmaaGreatDoor.oY]
end
end Go.Proofs.YtbkfhjaibhnkmaaGreatDoor
end
section
namespace Go.Proofs.YtbkfhjaibhnkmaaGreatDoor
open Go Go.RowKit
set_option linter.unusedVariables false
structure gL where
  Kind:ByteArray
  S:ByteArray
  P:Place
  Q:Place
  A:Int
  B:Int
  N:Int
  K:Int
  ca:Option Addr
  cn:Nat
  cc:Nat
  Changes:List Change
abbrev gL.cv (x:gL):Value:= .slice x.ca x.cn x.cc
abbrev dG (x:gL):List Value:=[.string x.Kind,.string x.S,.int .i64 x.P.aj,.int .i64 x.P.Slot,.int .i64 x.Q.aj,.int .i64 x.Q.Slot,.int .i64 x.A,.int .i64 x.B,.int .i64 x.N,.int .u64 x.K,x.cv]
abbrev gL.cs (x:gL):List Value:=[.string x.Kind,.string x.S,.int .i64 x.P.aj,.int .i64 x.P.Slot,.int .i64 x.Q.aj,.int .i64 x.Q.Slot,.int .i64 x.A,.int .i64 x.B,.int .i64 x.N,.int .u64 x.K,x.cv]
abbrev gL.val (x:gL):Value:= .agg #[.string x.Kind,.string x.S,.int .i64 x.P.aj,.int .i64 x.P.Slot,.int .i64 x.Q.aj,.int .i64 x.Q.Slot,.int .i64 x.A,.int .i64 x.B,.int .i64 x.N,.int .u64 x.K,x.cv]
instance:Enc gL:=⟨11,gL.cs,fun _=>rfl,fun x u hu=>by simp [gL.cs] at hu;rcases hu with rfl|rfl|rfl|rfl|rfl|rfl|rfl|rfl|rfl|rfl|rfl <;> rfl,by decide⟩
def ag.acts (l:List gL):ag:=⟨l.flatMap (fun x=>(ag.ls x.cv x.Changes).blk),fun w => ∀x∈l,Sl w x.cv x.Changes,fun w w' h hs x hx=>(ag.ls x.cv x.Changes).loc w w' (fun k hk=>h k (List.mem_flatMap.2 ⟨x,hx,hk⟩)) (hs x hx)⟩
theorem yk {w:World}{l:List gL}(h:∀x∈l,Sl w x.cv x.Changes):∀k∈(ag.acts l).blk,k<w.heap.size:=fun k hk=>by
 obtain ⟨x,hx,hk⟩:=List.mem_flatMap.1 hk
 exact Er (h x hx) k hk
theorem Wd.acts {we w:World}{X:List Nat}{B F:List ag}{l:List gL}(i:Nat)(h:F[i]? = some (ag.acts l))(hw:Wd we X B F w):∀x∈l,Sl w x.cv x.Changes:=hw.f i h
theorem Wd.GN {we w:World}{X:List Nat}{B F:List ag}{l:List gL}{x:gL}(i:Nat)(h:F[i]? = some (ag.acts l))(hx:x∈l)(hw:Wd we X B F w):Sl w x.cv x.Changes:=hw.f i h x hx
end Go.Proofs.YtbkfhjaibhnkmaaGreatDoor
end
section
namespace Go.Proofs.YtbkfhjaibhnkmaaGreatDoor
open Go.ChangeShapes Go.WideShapes Go.ChangeAt Go.RowKit Go.Deep
set_option linter.unusedVariables false
set_option maxRecDepth 100000
def Change.Fit (x:Change):Prop:=x.Key.size≤maxLen∧x.Val.size≤maxLen
def Jh (n:Int):Prop:=0≤n∧n≤18446744073709551615
def gL.Fit (x:gL):Prop:=x.Kind.size≤maxLen∧x.S.size≤maxLen∧x.P.Fit∧x.Q.Fit∧yd x.A∧yd x.B∧yd x.N∧Jh x.K ∧ ∀z∈x.Changes,z.Fit
section
variable {H:Type} {enc:TypeId×Value→H} {w:World} {base:Nat} {spare:Nat→Bool} {held:Bool}
theorem j3:Tryz.prog.cellsOf 9=1:=by kernel_rfl
theorem zg:Tryz.prog.cellsOf 4=1:=by kernel_rfl
theorem Ax:Tryz.prog.cellsOf 40=1:=by kernel_rfl
theorem pK:Tryz.prog.cellsOf 52=3:=by kernel_rfl
theorem tN:Tryz.prog.cellsOf 23=1:=by kernel_rfl
theorem zh:Tryz.prog.cellsOf 42=11:=by kernel_rfl
theorem tO {m:Nat}{c:Value}{y:DataW H×List MemPlace}(h:DataW.trod enc Tryz.prog w base spare held m 9 [c]=some y):∃s,c = .string s∧s.size≤maxLen:=by
 obtain ⟨s,hs,_,hw⟩:=DataW.trod_string Tryz.underlying9 h
 injection hs with hs _
 exact ⟨s,hs,hw⟩
theorem Dc {m:Nat}{c:Value}{y:DataW H×List MemPlace}(h:DataW.trod enc Tryz.prog w base spare held m 4 [c]=some y):∃b,c = .bool b:=by
 obtain ⟨b,hs,_⟩:=DataW.trod_bool Tryz.underlying4 h
 injection hs with hs _
 exact ⟨b,hs⟩
theorem E6 {m:Nat}{c:Value}{y:DataW H×List MemPlace}(h:DataW.trod enc Tryz.prog w base spare held m 40 [c]=some y):∃n,c = .int .u64 n∧Jh n:=by
 obtain ⟨n,hn,_,hw⟩:=DataW.trod_int Tryz.underlying40 h
 injection hn with hn _
 exact ⟨n,hn,bounds_u64 hw⟩
theorem sO {m:Nat}{cs:List Value}{y:DataW H×List MemPlace}(hl:cs.length=3)(h:DataW.trod enc Tryz.prog w base spare held m 52 cs=some y):∃z:Change,cs=Enc.cells z∧z.Fit:=by
 match cs,hl with
 | [c0,c1,c2],_ =>
  obtain ⟨xs,n,_,_,_,hlen,hf⟩:=DataW.trod_struct Tryz.underlying52 h
  match xs,hlen with
  | [y0,y1,y2],_ =>
   have g0:=ft hf 0 _ rfl 9 0 1 rfl rfl j3;have g1:=ft hf 1 _ rfl 9 1 1 rfl rfl j3;have g2:=ft hf 2 _ rfl 4 2 1 rfl rfl zg
   obtain ⟨n0,rfl,w0⟩:=tO (c:=c0) (by simpa using g0)
   obtain ⟨n1,rfl,w1⟩:=tO (c:=c1) (by simpa using g1)
   obtain ⟨n2,rfl⟩:=Dc (c:=c2) (by simpa using g2)
   exact ⟨⟨n0,n1,n2⟩,rfl,w0,w1⟩
theorem E7 {m:Nat}{cs:List Value}{y:DataW H×List MemPlace}(hl:cs.length=11)(h:DataW.trod enc Tryz.prog w base spare held m 42 cs=some y):∃z:gL,cs=Enc.cells z∧(Sl w z.cv z.Changes∧z.Fit):=by
 match cs,hl with
 | [c0,c1,c2,c3,c4,c5,c6,c7,c8,c9,c10],_ =>
  obtain ⟨xs,n,_,_,_,hlen,hf⟩:=DataW.trod_struct Tryz.underlying42 h
  match xs,hlen with
  | [y0,y1,y2,y3,y4,y5,y6,y7,y8],_ =>
   have g0:=ft hf 0 _ rfl 9 0 1 rfl rfl j3;have g1:=ft hf 1 _ rfl 9 1 1 rfl rfl j3
   have g2:=ft hf 2 _ rfl 39 2 2 rfl rfl qP;have g3:=ft hf 3 _ rfl 39 4 2 rfl rfl qP
   have g4:=ft hf 4 _ rfl 3 6 1 rfl rfl l5;have g5:=ft hf 5 _ rfl 3 7 1 rfl rfl l5;have g6:=ft hf 6 _ rfl 3 8 1 rfl rfl l5
   have g7:=ft hf 7 _ rfl 40 9 1 rfl rfl Ax;have g8:=ft hf 8 _ rfl 23 10 1 rfl rfl tN
   obtain ⟨n0,rfl,w0⟩:=tO (c:=c0) (by simpa using g0)
   obtain ⟨n1,rfl,w1⟩:=tO (c:=c1) (by simpa using g1)
   obtain ⟨z0,e0,w2⟩:=uT (cs:=[c2,c3]) rfl (by simpa using g2)
   simp only [List.cons.injEq,and_true] at e0
   obtain ⟨rfl,rfl⟩:=e0
   obtain ⟨z1,e1,w3⟩:=uT (cs:=[c4,c5]) rfl (by simpa using g3)
   simp only [List.cons.injEq,and_true] at e1
   obtain ⟨rfl,rfl⟩:=e1
   obtain ⟨n4,rfl,w4⟩:=qO (c:=c6) (by simpa using g4)
   obtain ⟨n5,rfl,w5⟩:=qO (c:=c7) (by simpa using g5)
   obtain ⟨n6,rfl,w6⟩:=qO (c:=c8) (by simpa using g6)
   obtain ⟨n7,rfl,w7⟩:=E6 (c:=c9) (by simpa using g7)
   obtain ⟨l,hs,hg⟩:=open_list (v:=c10) Tryz.underlying23 pK Change.Fit (fun _ _ _ hl hy=>sO hl hy) (by simpa using g8)
   have hs':=hs
   obtain ⟨A,c,rfl,_⟩:=hs
   exact ⟨⟨n0,n1,z0,z1,n4,n5,n6,n7,A,l.length,c,l⟩,rfl,hs',w0,w1,w2,w3,w4,w5,w6,w7,hg⟩
theorem Ay {r:Reach}{b0:Nat}{v:Value}{d:DataW H}{p:List MemPlace}(hv:Value.okWide Tryz.prog w r b0 22 v)(h:DataW.Trod enc Tryz.prog w base spare held 22 v d p):∃l:List gL,Sl w v l∧(∀z∈l,Sl w z.cv z.Changes) ∧ ∀z∈l,z.Fit:=by
 obtain ⟨a,len,cap,rfl⟩:=okWide_slice Tryz.underlying22 hv
 obtain ⟨m,hm⟩:=h
 obtain ⟨l,h1,h2⟩:=open_list Tryz.underlying22 zh (fun z:gL=>Sl w z.cv z.Changes∧z.Fit) (fun _ _ _ hl hy=>E7 hl hy) hm
 exact ⟨l,h1,fun z hz=>(h2 z hz).1,fun z hz=>(h2 z hz).2⟩
theorem pL {r:Reach}{b0:Nat}{v:Value}{d:DataW H}{p:List MemPlace}(hv:Value.okWide Tryz.prog w r b0 23 v)(h:DataW.Trod enc Tryz.prog w base spare held 23 v d p):∃l:List Change,Sl w v l ∧ ∀z∈l,z.Fit:=by
 obtain ⟨a,len,cap,rfl⟩:=okWide_slice Tryz.underlying23 hv
 obtain ⟨m,hm⟩:=h
 exact open_list Tryz.underlying23 pK Change.Fit (fun _ _ _ hl hy=>sO hl hy) hm
end
end Go.Proofs.YtbkfhjaibhnkmaaGreatDoor
end
