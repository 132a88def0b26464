import Derived.Test.YtnmpibjlnninjaaGreatDoorKT4
import Derived.Laws.OwnMore
namespace Go.Proofs.YtnmpibjlnninjaaGreatDoor
set_option linter.unusedVariables false
set_option linter.unusedSimpArgs false
set_option maxRecDepth 100000
set_option maxHeartbeats 90000000
section
open Go Go.RowKit
theorem Bo {n r:Int}(h:n=r/\0<=r/\r<=18446744073709551615):IntKind.u64.wrap n=r:=by
 obtain ⟨rfl,h1,h2⟩:=h
 have:IntKind.u64.wrap n=n % 18446744073709551616:=rfl
 omega
theorem sZ {n r:Int}(h:n=r/\0<=r/\r<=255):IntKind.u8.wrap n=r:=by
 obtain ⟨rfl,h1,h2⟩:=h
 have:IntKind.u8.wrap n=n % 256:=rfl
 omega
theorem pR {n:Int}:IntKind.u8.wrap n=n % 256:=rfl
theorem IW {m e D:Int}(h:e=D)(h0:0<=D):m.fdiv e=m / D:=au
theorem NR {m D:Nat}{e:Int}(h:e=((D:Nat):Int)):((m:Nat):Int).fdiv e=((m / D:Nat):Int):=by
 grind
section
variable {P:Program} {n:Nat} {we:World} {X:List Nat} {Q:Exit->Act->World->Prop} {k k':List It} {L:Fm} {B F:List ah} {ops rest:List Oper}
variable {dst:Option Nat} {d:Nat} {op:Op} {ty:TypeId} {pos:String} {dr:Array Edge} {g:Option (Nat×Bool)} {v:Value}
variable {x y z:Operand} {xT yT t e:TypeId} {kd T0:IntKind} {α:Type} [Enc α] {l:List α}
theorem q.IX {op:Op}{v v':Value}(h:v=v')(hq:Qt P n we X L B F op ty v):Qt P n we X L B F op ty v':=h▸hq
theorem q.gW {s:ByteArray}{m:Int}{i:Nat}{c:UInt8}(hx:ev L x=some (.string s))(hy:ev L y=some (.int kd m))(ht:P.underlying xT=some .string)(hm:m=(i:Int))(hi:s.data[i]? = some c) :
 Qt P n we X L B F (.index xT x y) ty (.int .u8 ((c.toNat:Nat):Int)):=fun _ _ _ _ a w ha hw=>by
 subst hm
 have hlt:i<s.size:=(Array.getElem?_eq_some_iff.1 hi).1
 have h2:s[i]=c:=(Array.getElem?_eq_some_iff.1 hi).2
 have:=run_index_string (P:=P) w xT s kd (i:Int) ht
 simp only [execOp,ha.ev hx,ha.ev hy]
 simp_all
theorem q.Dq {s:ByteArray}{m r:Int}{i j:Nat}(hx:ev L x=some (.string s))(hy:ev L y=some (.int kd m))(hz:ev L z=some (.int T0 r))(ht:P.underlying xT=some .string)(hm:m=(i:Int))(hr:r=(j:Int))(hij:i<=j)(hj:j<=s.size) :
 Qt P n we X L B F (.slice xT x (some y) (some z) none) ty (.string (s.extract i j)):=fun _ _ _ _ a w ha hw=>by
 subst hm;subst hr
 have e:(Instr.slice xT (.string s) (some (.int kd (i:Int))) (some (.int T0 (j:Int))) none).run P w = .ok (.string (s.extract i j)) w:=by
  simp_all [Instr.slice,Instr.sliceBounds,sliced,run_underlying,run_sliceBound]
 simp only [execOp,ha.ev hx,Option.map_some,Option.map_none,ha.ev hy,ha.ev hz,Sem.run_bind,run_sliceAt_string w xT _ _ _ _ ht,e,Result.andThen_ok,Sem.run_pure]
theorem q.Dr {s:ByteArray}{m:Int}{i:Nat}(hx:ev L x=some (.string s))(hy:ev L y=some (.int kd m))(ht:P.underlying xT=some .string)(hm:m=(i:Int))(hi:i<=s.size) :
 Qt P n we X L B F (.slice xT x (some y) none none) ty (.string (s.extract i s.size)):=fun _ _ _ _ a w ha hw=>by
 subst hm
 have e:=run_slice_string_l (P:=P) w xT s ht kd (i:Int) ae ae
 simp only [Int.toNat_natCast] at e
 simp only [execOp,ha.ev hx,Option.map_some,Option.map_none,ha.ev hy,Sem.run_bind,run_sliceAt_string w xT _ _ _ _ ht,e,Result.andThen_ok,Sem.run_pure]
theorem q.YB {s:ByteArray}{m:Int}{i:Nat}(hx:ev L x=some (.string s))(hy:ev L y=some (.int kd m))(ht:P.underlying xT=some .string)(hm:m=(i:Int))(hi:i<=s.size) :
 Qt P n we X L B F (.slice xT x none (some y) none) ty (.string (s.extract 0 i)):=fun _ _ _ _ a w ha hw=>by
 subst hm
 have e:=run_slice_string_h (P:=P) w xT s ht kd (i:Int) ae ae
 simp only [Int.toNat_natCast] at e
 simp only [execOp,ha.ev hx,Option.map_some,Option.map_none,ha.ev hy,Sem.run_bind,run_sliceAt_string w xT _ _ _ _ ht,e,Result.andThen_ok,Sem.run_pure]
def fR (a b:ByteArray):Bool:=Op.bytesLess a.toList b.toList
theorem q.NS {a b:ByteArray}{r:Bool}(hx:ev L x=some (.string a))(hy:ev L y=some (.string b))(h:fR a b=r):Qt P n we X L B F (.binOp .lss xT x y yT) ty (.bool r):=fun _ _ _ _ q w ha hw=>by
 subst h;simp only [execOp,ha.ev hx,ha.ev hy,binOp,Op.stringOp,eqGuard,fR];simp
theorem q.IY {a b:ByteArray}{r:Bool}(hx:ev L x=some (.string a))(hy:ev L y=some (.string b))(h:(fR a b||decide (a=b))=r):Qt P n we X L B F (.binOp .leq xT x y yT) ty (.bool r):=fun _ _ _ _ q w ha hw=>by
 subst h;simp only [execOp,ha.ev hx,ha.ev hy,binOp,Op.stringOp,eqGuard,fR,kN];simp
theorem xh {P:Program}{t pT:TypeId}(h:P.underlying t=some (.pointer pT)):P.underlying t=some (.pointer (P.pointee t)):=by
 simp [Program.pointee,h]
theorem q.T8 {a:Option Addr}{pT:TypeId}(hx:ev L x=some (.pointer a))(hy:ev L y=some (.pointer none))(ht:P.underlying xT=some (.pointer pT)):Qt P n we X L B F (.binOp .eql xT x y yT) ty (.bool a.isNone):=fun _ _ _ _ q w ha hw=>by
 simp only [execOp,ha.ev hx,ha.ev hy,eqGuard_at_pointer,Sem.run_bind,Sem.run_pure,Result.andThen_ok,run_eql_pointer_nil w xT a (xh ht)]
theorem q.T9 {a:Option Addr}{pT:TypeId}(hx:ev L x=some (.pointer a))(hy:ev L y=some (.pointer none))(ht:P.underlying xT=some (.pointer pT)):Qt P n we X L B F (.binOp .neq xT x y yT) ty (.bool (!a.isNone)):=fun _ _ _ _ q w ha hw=>by
 simp only [execOp,ha.ev hx,ha.ev hy,eqGuard_at_pointer,Sem.run_bind,Sem.run_pure,Result.andThen_ok,run_neq_pointer_nil w xT a (xh ht)]
def pS (v:Value):Bool:=match v with | .slice A _ _=>A.isNone|_=>true
theorem Sl.pS {w:World}{v:Value}{l:List α}(h:Sl w v l)(hn:YtnmpibjlnninjaaGreatDoor.pS v=true):l=[]:=by
 obtain ⟨A,c,rfl,h1,h2,h3⟩:=h
 cases l with
 | nil=>rfl
 | cons x l =>
  obtain ⟨b,off,hA,_⟩:=h3 0 x rfl
  simp [YtnmpibjlnninjaaGreatDoor.pS,hA] at hn
theorem q.px {c:Value}(hs:∀w,Wd we X B F w->Sl w v l)(hx:ev L x=some v)(hy:ev L (.const c)=some (.slice none 0 0))(ht:P.underlying xT=some (.slice e)):Qt P n we X L B F (.binOp .eql xT x (.const c) yT) ty (.bool (pS v)):=fun _ _ _ _ q w ha hw=>by
 obtain ⟨A,cc,rfl,h1,h2,h3⟩:=hs w hw
 have hc:c = .slice none 0 0:=by simpa [YtnmpibjlnninjaaGreatDoor.ev] using hy
 subst hc
 have he:(Op.equal xT (.slice A l.length cc) (.slice none 0 0)).run P w = .ok A.isNone w:=by
  show (Op.equalIn (9999+1) xT _ _).run P w=_
  unfold Op.equalIn
  cases A <;> simp [run_underlying ht]
 have hev:q.eval (.const (.slice none 0 0)) = .slice none 0 0:=rfl
 simp only [execOp,ha.ev hx,hev,eqGuard_at_slice,binOp,Sem.run_bind,Sem.run_pure,Result.andThen_ok,he,YtnmpibjlnninjaaGreatDoor.pS]
end
end
section
open Go Go.RowKit
structure eU where
  Kind:ByteArray
  S:ByteArray
  P:Place
  Q:Place
  A:Int
  B:Int
  N:Int
  K:Int
  ca:Option Addr
  cn:Nat
  cc:Nat
  Changes:List Change
abbrev eU.cv (x:eU):Value:= .slice x.ca x.cn x.cc
abbrev FT (x:eU):List Value:=[.string x.Kind,.string x.S,.int .i64 x.P.aB,.int .i64 x.P.Slot,.int .i64 x.Q.aB,.int .i64 x.Q.Slot,.int .i64 x.A,.int .i64 x.B,.int .i64 x.N,.int .u64 x.K,x.cv]
abbrev eU.cs (x:eU):List Value:=[.string x.Kind,.string x.S,.int .i64 x.P.aB,.int .i64 x.P.Slot,.int .i64 x.Q.aB,.int .i64 x.Q.Slot,.int .i64 x.A,.int .i64 x.B,.int .i64 x.N,.int .u64 x.K,x.cv]
abbrev eU.val (x:eU):Value:= .agg #[.string x.Kind,.string x.S,.int .i64 x.P.aB,.int .i64 x.P.Slot,.int .i64 x.Q.aB,.int .i64 x.Q.Slot,.int .i64 x.A,.int .i64 x.B,.int .i64 x.N,.int .u64 x.K,x.cv]
instance:Enc eU:=⟨11,eU.cs,fun _=>rfl,fun x u hu=>by simp [eU.cs] at hu;rcases hu with rfl|rfl|rfl|rfl|rfl|rfl|rfl|rfl|rfl|rfl|rfl <;> rfl,by decide⟩
def ah.acts (l:List eU):ah:=⟨l.flatMap (fun x=>(ah.ls x.cv x.Changes).blk),fun w => ∀x∈l,Sl w x.cv x.Changes,fun w w' h hs x hx=>(ah.ls x.cv x.Changes).loc w w' (fun k hk=>h k (List.mem_flatMap.2 ⟨x,hx,hk⟩)) (hs x hx)⟩
theorem Hl {w:World}{l:List eU}(h:∀x∈l,Sl w x.cv x.Changes):∀k∈(ah.acts l).blk,k<w.heap.size:=fun k hk=>by
 obtain ⟨x,hx,hk⟩:=List.mem_flatMap.1 hk
 exact P2 (h x hx) k hk
theorem Wd.acts {we w:World}{X:List Nat}{B F:List ah}{l:List eU}(i:Nat)(h:F[i]? = some (ah.acts l))(hw:Wd we X B F w):∀x∈l,Sl w x.cv x.Changes:=hw.f i h
theorem Wd.Ua {we w:World}{X:List Nat}{B F:List ah}{l:List eU}{x:eU}(i:Nat)(h:F[i]? = some (ah.acts l))(hx:x∈l)(hw:Wd we X B F w):Sl w x.cv x.Changes:=hw.f i h x hx
end
section
open Go.ChangeShapes Go.WideShapes Go.ChangeAt Go.RowKit Go.Deep
def Change.Fit (x:Change):Prop:=x.Key.size<=maxLen/\x.Val.size<=maxLen
def XW (n:Int):Prop:=0<=n/\n<=18446744073709551615
def eU.Fit (x:eU):Prop:=x.Kind.size<=maxLen/\x.S.size<=maxLen/\x.P.Fit/\x.Q.Fit/\G9 x.A/\G9 x.B/\G9 x.N/\XW x.K /\ ∀z∈x.Changes,z.Fit
section
variable {H:Type} {enc:TypeId×Value->H} {w:World} {base:Nat} {spare:Nat->Bool} {held:Bool}
theorem mO:Tryz.prog.cellsOf 9=1:=ao
theorem IZ:Tryz.prog.cellsOf 4=1:=ao
theorem KP:Tryz.prog.cellsOf 33=1:=ao
theorem Ds:Tryz.prog.cellsOf 115=3:=ao
theorem Bp:Tryz.prog.cellsOf 34=1:=ao
theorem I0:Tryz.prog.cellsOf 36=11:=ao
theorem Bq {m:Nat}{c:Value}{y:DataW H×List MemPlace}(h:DataW.trod enc Tryz.prog w base spare held m 9 [c]=some y):∃s,c = .string s/\s.size<=maxLen:=by
 obtain ⟨s,hs,_,hw⟩:=DataW.trod_string Tryz.underlying9 h
 injection hs with hs _
 exact ⟨s,hs,hw⟩
theorem NT {m:Nat}{c:Value}{y:DataW H×List MemPlace}(h:DataW.trod enc Tryz.prog w base spare held m 4 [c]=some y):∃b,c = .bool b:=by
 obtain ⟨b,hs,_⟩:=DataW.trod_bool Tryz.underlying4 h
 injection hs with hs _
 exact ⟨b,hs⟩
theorem Ra {m:Nat}{c:Value}{y:DataW H×List MemPlace}(h:DataW.trod enc Tryz.prog w base spare held m 33 [c]=some y):∃n,c = .int .u64 n/\XW n:=by
 obtain ⟨n,hn,_,hw⟩:=DataW.trod_int Tryz.underlying33 h
 injection hn with hn _
 exact ⟨n,hn,bounds_u64 hw⟩
theorem I1 {m:Nat}{cs:List Value}{y:DataW H×List MemPlace}(hl:cs.length=3)(h:DataW.trod enc Tryz.prog w base spare held m 115 cs=some y):∃z:Change,cs=Enc.cells z/\z.Fit:=by
 match cs,hl with
 | [c0,c1,c2],_ =>
  obtain ⟨xs,n,_,_,_,hlen,hf⟩:=DataW.trod_struct Tryz.underlying115 h
  match xs,hlen with
  | [y0,y1,y2],_ =>
   have g0:=fL hf 0 _ rfl 9 0 1 rfl rfl mO;have g1:=fL hf 1 _ rfl 9 1 1 rfl rfl mO;have g2:=fL hf 2 _ rfl 4 2 1 rfl rfl IZ
   obtain ⟨n0,rfl,w0⟩:=Bq (c:=c0) (by simpa using g0)
   obtain ⟨n1,rfl,w1⟩:=Bq (c:=c1) (by simpa using g1)
   obtain ⟨n2,rfl⟩:=NT (c:=c2) (by simpa using g2)
   exact ⟨⟨n0,n1,n2⟩,rfl,w0,w1⟩
theorem Rb {m:Nat}{cs:List Value}{y:DataW H×List MemPlace}(hl:cs.length=11)(h:DataW.trod enc Tryz.prog w base spare held m 36 cs=some y):∃z:eU,cs=Enc.cells z/\(Sl w z.cv z.Changes/\z.Fit):=by
 match cs,hl with
 | [c0,c1,c2,c3,c4,c5,c6,c7,c8,c9,c10],_ =>
  obtain ⟨xs,n,_,_,_,hlen,hf⟩:=DataW.trod_struct Tryz.underlying36 h
  match xs,hlen with
  | [y0,y1,y2,y3,y4,y5,y6,y7,y8],_ =>
   have g0:=fL hf 0 _ rfl 9 0 1 rfl rfl mO;have g1:=fL hf 1 _ rfl 9 1 1 rfl rfl mO
   have g2:=fL hf 2 _ rfl 32 2 2 rfl rfl wX;have g3:=fL hf 3 _ rfl 32 4 2 rfl rfl wX
   have g4:=fL hf 4 _ rfl 3 6 1 rfl rfl pJ;have g5:=fL hf 5 _ rfl 3 7 1 rfl rfl pJ;have g6:=fL hf 6 _ rfl 3 8 1 rfl rfl pJ
   have g7:=fL hf 7 _ rfl 33 9 1 rfl rfl KP;have g8:=fL hf 8 _ rfl 34 10 1 rfl rfl Bp
   obtain ⟨n0,rfl,w0⟩:=Bq (c:=c0) (by simpa using g0)
   obtain ⟨n1,rfl,w1⟩:=Bq (c:=c1) (by simpa using g1)
   obtain ⟨z0,e0,w2⟩:=Di (cs:=[c2,c3]) rfl (by simpa using g2)
   simp only [List.cons.injEq,and_true] at e0
   obtain ⟨rfl,rfl⟩:=e0
   obtain ⟨z1,e1,w3⟩:=Di (cs:=[c4,c5]) rfl (by simpa using g3)
   simp only [List.cons.injEq,and_true] at e1
   obtain ⟨rfl,rfl⟩:=e1
   obtain ⟨n4,rfl,w4⟩:=wW (c:=c6) (by simpa using g4)
   obtain ⟨n5,rfl,w5⟩:=wW (c:=c7) (by simpa using g5)
   obtain ⟨n6,rfl,w6⟩:=wW (c:=c8) (by simpa using g6)
   obtain ⟨n7,rfl,w7⟩:=Ra (c:=c9) (by simpa using g7)
   obtain ⟨l,hs,hg⟩:=open_list (v:=c10) Tryz.underlying34 Ds Change.Fit (fun _ _ _ hl hy=>I1 hl hy) (by simpa using g8)
   have hs':=hs
   obtain ⟨A,c,rfl,_⟩:=hs
   exact ⟨⟨n0,n1,z0,z1,n4,n5,n6,n7,A,l.length,c,l⟩,rfl,hs',w0,w1,w2,w3,w4,w5,w6,w7,hg⟩
theorem KQ {r:Reach}{b0:Nat}{v:Value}{d:DataW H}{p:List MemPlace}(hv:Value.okWide Tryz.prog w r b0 22 v)(h:DataW.Trod enc Tryz.prog w base spare held 22 v d p):∃l:List eU,Sl w v l/\(∀z∈l,Sl w z.cv z.Changes) /\ ∀z∈l,z.Fit:=by
 obtain ⟨a,len,cap,rfl⟩:=okWide_slice Tryz.underlying22 hv
 obtain ⟨m,hm⟩:=h
 obtain ⟨l,h1,h2⟩:=open_list Tryz.underlying22 I0 (fun z:eU=>Sl w z.cv z.Changes/\z.Fit) (fun _ _ _ hl hy=>Rb hl hy) hm
 exact ⟨l,h1,fun z hz=>(h2 z hz).1,fun z hz=>(h2 z hz).2⟩
end
end
section
open Go Go.RowKit
class Y {α:Type}(a:α)(b:outParam α):Prop where
  h:a=b:=by kernel_rfl
class dI (P:Program)(f:FuncId):Prop where
  h:∀args w,(callFunc f args).run P w = .ok (.enter f args) w
end
section
open Go Go.RowKit
section
variable {P:Program} {n:Nat} {we:World} {X:List Nat} {L:Fm} {B F:List ah} {x y z':Operand} {v:Value} {d:Nat} {ty:TypeId} {pos:String} {dr:Array Edge} {g:Option (Nat×Bool)} {t e:TypeId} {α:Type} [Enc α] {l:List α}
theorem s.Ub {m:Nat}{i0:TypeInfo}{kd:IntKind}{z0:α}{zv:Value}(ht:lV P t=some (e,Enc.k α))(hi:P.info? e=some i0)(hz:i0.zero=some zv)(hzs:zv.cells=(Enc.cells z0).toArray)(hb:i0.bytes<=1000)(hx:ev L x=some (.int kd (m:Int)))(hy:ev L y=some (.int kd (m:Int)))(hm:m*Enc.k α<=1000000)(hd:Nat.blt d n=true) :
 Stp P n we X L B F ⟨some d,.makeSlice t x y,ty,pos,dr,g⟩ (fun b:Nat=>(d,.slice (some ⟨b,0,none⟩) m m)::L) (fun b=>ah.row e (.slice (some ⟨b,0,none⟩) m m) (List.replicate m z0)::B) (fun _=>F):=by
 intro K Q' a w ha hw hK
 obtain ⟨hu,hsz⟩:=eE (P:=P) w ht
 have hsize:i0.size=Enc.k α:=by
  grind [lV]
 have hkp:=Enc.pos (α:=α)
 have hm1:m<=m*Enc.k α:=Nat.le_mul_of_pos_right m hkp
 have hml:m<=maxLen:=by grind [maxLen]
 have hbb:i0.bytes*m<=1000*1000000:=Nat.mul_le_mul hb ae
 obtain ⟨w',hr,how,hg⟩:=run_makeSlice_full (P:=P) w 0 t e i0 zv (Enc.k α) hu hi hz hsize kd kd m ae ae hml (Nat.zero_le _)
 have hrun:(execOp a.eval ⟨some d,.makeSlice t x y,ty,pos,dr,g⟩).run P w = .ok (.value (.slice (some ⟨w.heap.size,0,none⟩) m m)) w':=by
  simp [execOp,ha.ev hx,ha.ev hy,hr]
 unfold Oper.wp
 rw [hrun,Oper.upon_value]
 have hcells:(madeCells zv.cells (m*Enc.k α)).toList=(List.replicate m z0).flatMap Enc.cells:=by
  have h1:=nk hzs m
  grind [Enc.k,madeCells,Builtin.zeroCells,List.size_toArray,Enc.len]
 rw [hcells] at how
 have hup:lL [] w w':=⟨hg.os,hg.tape,hg.output,hg.size,fun k hk _=>hg.block k hk bC⟩
 have hlt:w.heap.size<w'.heap.size:=by
  rcases how.2 with ⟨h,_⟩ | ⟨gb,cap,cur,h,_,hgg,_⟩
  .grind
  grind
 refine hK _ _ _ (ha.put d _ hd) ((hw.grow hup).new (r:=ah.row e (.slice (some ⟨w.heap.size,0,none⟩) m m) (List.replicate m z0)) ?_ (by simp [ah.row,eA]) (fun k hk=>?_))
 .
  show Own 0 e w' _ _
  grind [Own,List.length_replicate]
 simp [ah.row,eA] at hk;subst hk
 exact ⟨hlt,hw.upd.size,fun h=>by have:=(hw.own _ h).1;omega,fun h=>by have:=(hw.lU _ h).1;omega⟩
theorem s.FU {o m:Nat}{u dst:Value}{l2:List α}{A:TypeId}(i:Nat)(B':List ah)(hB:B[i]? = some (ah.row e v l))(hs:∀w,Wd we X B F w->Sl w u l2)(hx:ev L x=some dst)(hdst:dst=cR v o (Enc.k α)∨(dst=v/\o=0))(hy:ev L y=some u)(ht:lV P t=some (e,Enc.k α))
 (hm0:0<m) (hm1:m<=l2.length) (hm2:o+m<=l.length) (hm:m=l2.length∨o+m=l.length) (hB':B.set i (ah.row e v (l.take o++l2.take m++l.drop (o+m)))=B') (hd:Nat.blt d n=true) :
 Stp P n we X L B F ⟨some d,.call { callee:= .builtin .copy,args:= #[x,y],argTypes:= #[t,A]},ty,pos,dr,g⟩ (fun _:Unit=>(d,.int .i64 m)::L) (fun _=>B') (fun _=>F):=by
 intro K Q' ac w hac hw hK
 obtain ⟨hu,hsz⟩:=eE (P:=P) w ht
 have how:Own 0 e w v l:=hw.b i hB
 obtain ⟨A2,c2,rfl,h21,h22,h23⟩:=hs w hw
 have hk:=Enc.pos (α:=α)
 unfold Oper.wp
 obtain ⟨gb,cap,cur,rfl,_,hgg,hnc,hcm,hcs,htk⟩:=how.parts ae
 obtain ⟨x0,hx0⟩:∃y0,l2[0]? = some y0:=⟨_,List.getElem?_eq_getElem ae⟩
 obtain ⟨b2,off,rfl,hb2,_⟩:=h23 0 x0 hx0
 have hl3:(l2.take m).length=m:=au
 have hsrc:∀j u,((l2.take m).flatMap Enc.cells)[j]? = some u->w.cell? ((⟨b2,off,none⟩:Addr).add j)=some u:=fun j u hj=>by
  grind [lW,addr_add,Nat.add_assoc]
 have hfl:((l2.take m).flatMap Enc.cells).length=m*Enc.k α:=by rw [dL,hl3]
 have hld:=run_loadCells_list (P:=P) w ⟨b2,off,none⟩ ((l2.take m).flatMap Enc.cells) hsrc
 rw [hfl] at hld
 have hx':∃c3,ev L x=some (.slice (some ⟨gb,o*Enc.k α,none⟩) (l.length-o) c3):=by
  rcases hdst with rfl|⟨rfl,rfl⟩
  .
   have hne:cap≠o:=ae
   simp_all [cR,if_neg,addr_add]
  grind
 obtain ⟨c3,hx'⟩:=hx'
 have hle:l.length*Enc.k α<=cap*Enc.k α:=Nat.mul_le_mul_right _ hnc
 have hol:o*Enc.k α+m*Enc.k α<=l.length*Enc.k α:=by rw [<- Nat.add_mul];exact Nat.mul_le_mul_right _ hm2
 have hst:=run_storeCells_at P gb (o*Enc.k α) e ((l2.take m).flatMap Enc.cells) 0 cur w hgg ae (kK (l2.take m))
 have hrun:(execOp ac.eval ⟨some d,.call { callee:= .builtin .copy,args:= #[x,y],argTypes:= #[t,A]},ty,pos,dr,g⟩).run P w = .ok (.value (.int .i64 m)) (w.setRow gb (cur.toList.take (o*Enc.k α)++(l2.take m).flatMap Enc.cells++cur.toList.drop (o*Enc.k α+((l2.take m).flatMap Enc.cells).length)).toArray):=by
  have hmin:Nat.min l2.length (l.length-o)=m:=au
  simp only [Nat.add_zero] at hst
  simp [execOp,resolve,invoke,builtin,hac.ev hx',hac.ev hy,Builtin.copy_,run_underlying hu,Builtin.lenOf,Builtin.firstCells,hsz,hmin,goInt,hld,hst]
 rw [hrun,Oper.upon_value]
 have hll:(l.take o++l2.take m++l.drop (o+m)).length=l.length:=au
 have h3:(cur.toList.take (o*Enc.k α)).length=o*Enc.k α:=au
 have:=hw.rV (l':=l.take o++l2.take m++l.drop (o+m)) (cs':=cur.toList.take (o*Enc.k α)++(l2.take m).flatMap Enc.cells++cur.toList.drop (o*Enc.k α+((l2.take m).flatMap Enc.cells).length)) hB hgg hcm hcs au (by
  have e2:(o+m)*Enc.k α=o*Enc.k α+((l2.take m).flatMap Enc.cells).length:=au
  rw [hll,List.flatMap_append,List.flatMap_append,j8 l o,lM,<- htk,e2]
  exact sY _ _ _ _ ae au) ae
 rw [hll] at this
 exact hK () _ _ (hac.put d _ hd) (hB'▸this)
end
section
variable {P:Program} {n:Nat} {we:World} {X:List Nat} {L:Fm} {B F:List ah} {ty xT e:TypeId} {x y:Operand}
end
def Hm (places:List (Nat×Nat)):List Value->List (Nat×List Value)->Option (List Value)
  | cells,[]=>some cells
  | cells,(i,v)::rest=>match places[i]? with
    | none=>none
    | some (off,size)=>bif Nat.beq v.length size&&Nat.ble (off+size) cells.length then Hm places (cells.take off++v++cells.drop (off+size)) rest else none
theorem Dt (places:List (Nat×Nat)):∀ (parts:List (Nat×Value)) (cells:List Value),xa places cells parts=Hm places cells (parts.map fun p=>(p.1,p.2.cells.toList))
 | [],cells=>rfl
 | (i,v)::rest,cells=>by
  simp only [xa,List.map_cons,Hm]
  cases places[i]? with
  | none=>rfl
  | some q =>
   obtain ⟨off,size⟩:=q
   simp only [Dt places rest]
theorem Ac:∀ (is:List Nat) (vs:List Value),(is.zip vs).map (fun p=>(p.1,p.2.cells.toList))=is.zip (vs.map fun v=>v.cells.toList)
 | [],vs=>by simp
 | i::is,[]=>by simp
 | i::is,v::vs=>by simp [Ac is vs]
theorem Bs:([]:List Value).map (fun v=>v.cells.toList)=[]:=rfl
theorem kB {v:Value}{vs:List Value}{u:List Value}{us:List (List Value)}(h:v.cells.toList=u)(hs:vs.map (fun v=>v.cells.toList)=us):(v::vs).map (fun v=>v.cells.toList)=u::us:=by
 grind
theorem Sl.Bt {α:Type}[Enc α]{w:World}{v:Value}{l:List α}(h:Sl w v l):v.cells.toList=[v]:=by rw [h.cL]
section
variable {P:Program} {n:Nat} {we:World} {X:List Nat} {L:Fm} {B F:List ah} {ty:TypeId}
theorem q.Bu {t:TypeId}{parts:Array (Nat×Operand)}{places:List (Nat×Nat)}{zs vs cs:List Value}{us:List (List Value)}(ht:tB P t=some (places,zs))(hp:evs L (parts.toList.map (·.2))=some vs)
 (hv:∀w,Wd we X B F w->vs.map (fun v=>v.cells.toList)=us) (hf:Hm places zs ((parts.toList.map (·.1)).zip us)=some cs) :
 Qt P n we X L B F (.build t parts) ty (.agg cs.toArray):=fun q1 q2 q3 q4 a w ha hw =>
 q.build ht hp (by grind [Dt,Ac]) q1 q2 q3 q4 a w ha hw
end
def KR (Bl Fl:List ah):Prop:= ∀f∈Fl,∃r∈Bl,(∀w,r.ok w->f.ok w) /\ ∀k∈f.blk,k∈r.blk
theorem s7:KR [] []:=fun f hf=>by grind
theorem lN {α:Type}[Enc α]{Bl Fl:List ah}{e:TypeId}{v:Value}{l:List α}(h:KR Bl Fl):KR (ah.row e v l::Bl) (ah.ls v l::Fl):=fun f hf=>by
 rcases List.mem_cons.1 hf with rfl|hf
 .exact ⟨_,List.mem_cons_self ..,fun w hw=>Own.sl hw,fun k hk=>KO k hk⟩
 obtain ⟨r,hr,h1,h2⟩:=h f hf
 grind
section
variable {we w w':World} {X:List Nat} {B0 Bl Br B1 F Fl:List ah}
theorem Wd.Uc (hw:Wd we X (B0++(Bl++Br)) F w)(hl:KR Bl Fl):Wd we X (B0++Br) (Fl++F) w:=by
 have hs:=hw.sep
 rw [bf,bf] at hs
 obtain ⟨s1,s2,s3⟩:=List.nodup_append.1 hs
 obtain ⟨s4,s5,s6⟩:=List.nodup_append.1 s2
 have hsub:∀k∈blks (B0++Br),k∈blks (B0++(Bl++Br)):=fun k hk=>by
  grind [bf]
 refine ⟨hw.upd,fun r hr=>?_,fun r hr=>?_,?_,fun k hk=>hw.own k (hsub k hk),fun k hk=>?_⟩
 .
  rcases List.mem_append.1 hr with hr|hr
  .exact hw.okB r (List.mem_append.2 (.inl hr))
  exact hw.okB r (List.mem_append.2 (.inr (List.mem_append.2 (.inr hr))))
 .
  rcases List.mem_append.1 hr with hr|hr
  .
   obtain ⟨q,hq,h1,_⟩:=hl r hr
   exact h1 w (hw.okB q (List.mem_append.2 (.inr (List.mem_append.2 (.inl hq)))))
  exact hw.okF r hr
 .grind [bf,List.nodup_append,b]
 rw [bf] at hk
 rcases List.mem_append.1 hk with hk|hk
 .
  obtain ⟨f,hf,hk⟩:=bD.1 hk
  obtain ⟨q,hq,_,h2⟩:=hl f hf
  have hb:k∈blks Bl:=bD.2 ⟨q,hq,h2 k hk⟩
  refine ⟨(hw.own k (by grind [bf])).1,fun hc=>?_⟩
  grind [bf]
 exact ⟨(hw.lU k hk).1,fun hc=>(hw.lU k hk).2 (hsub k hc)⟩
theorem Wd.wider (hw:Wd we X (B0++(Bl++Br)) F w)(hp:Wd w (blks B0++blks Br) (B1++[ah.held w (blks Br)]) [] w'):Wd w (blks B0++blks (Bl++Br)) (B1++[ah.held w (blks (Bl++Br))]) [] w':=by
 have hs:=hw.sep
 rw [bf,bf] at hs
 obtain ⟨s1,s2,s3⟩:=List.nodup_append.1 hs
 obtain ⟨s4,s5,s6⟩:=List.nodup_append.1 s2
 have hbl:∀k∈blks Bl,k<w.heap.size/\k∉blks B0++blks Br:=fun k hk=>by
  refine ⟨(hw.own k (by grind [bf])).1,fun hc=>?_⟩
  grind
 have hps:=hp.sep
 rw [fw] at hps
 obtain ⟨p1,p2,p3⟩:=List.nodup_append.1 hps
 have hb1:∀k∈blks B1,k∉blks Bl:=fun k hk hc =>
  (hbl k hc).2 ((hp.own k (by grind [fw])).2 (hbl k hc).1)
 refine ⟨hp.upd.mono fun k hk _=>?_,fun r hr=>?_,fun r hr=>au,?_,fun k hk=>?_,fun k hk=>(by cases hk)⟩
 .grind [bf]
 .
  rcases List.mem_append.1 hr with hr|hr
  .exact hp.okB r (List.mem_append.2 (.inl hr))
  rw [List.mem_singleton.1 hr]
  intro k hk
  have hk:k∈blks (Bl++Br):=hk
  rw [bf] at hk
  rcases List.mem_append.1 hk with hk|hk
  .exact hp.upd.block k (hbl k hk).1 (hbl k hk).2
  exact hp.okB (ah.held w (blks Br)) (List.mem_append.2 (.inr (List.mem_singleton.2 rfl))) k hk
 .grind [fw,bf,List.nodup_append,b]
 rw [fw,bf] at hk
 rcases List.mem_append.1 hk with hk|hk
 .
  have h1:=hp.own k (by grind [fw])
  grind
 rcases List.mem_append.1 hk with hk2|hk2
 .exact ⟨Nat.lt_of_lt_of_le (hbl k hk2).1 hp.upd.size,fun _=>List.mem_append.2 (.inr (by grind [bf]))⟩
 exact ⟨(hp.own k (by grind [fw])).1,fun _=>List.mem_append.2 (.inr (by grind [bf]))⟩
end
section
variable {P:Program} {n:Nat} {we:World} {X:List Nat} {L:Fm} {B F:List ah} {d:Nat} {ty:TypeId} {pos:String} {dr:Array Edge} {g:Option (Nat×Bool)}
theorem s.Bv {β:Type}{f:FuncId}{c:Operand}{xs:Array Operand}{ts:Array TypeId}{vs:List Value}{cap:Array Value}{B0 Bl Br F0 Fl:List ah}(is js:List Nat)(G:β->Value)(B1:β->List ah)(hp:bP B is=some (B0++(Bl++Br)))(ha':d9 is=true)(hl:KR Bl Fl)(hj:bP (Fl++F) js=some F0)
 (eg:∀args w,(callFunc f args).run P w = .ok (.enter f args) w) (hargs:evs L xs.toList=some vs) (hc:ev L c=some (.func (.func f) #[] cap))
 (hcall:∀w own,Wd we X B F w->Wd w (blks B0++own) (B0++[ah.held w own]) F0 w->Calls P f (vs++cap.toList).toArray w fun e w' => ∃z,e = .returned (G z)/\Wd w (blks B0++own) (B1 z++[ah.held w own]) [] w') (hd:Nat.blt d n=true) :
 Stp P n we X L B F ⟨some d,.call { callee:= .value c,args:=xs,argTypes:=ts},ty,pos,dr,g⟩ (fun z=>(d,G z)::L) (fun z=>B1 z++(Bl++Br)) (fun _=>F):=by
 intro K Q' a w ha hw hK
 have hw2:=hw.NN is hp ha'
 have hw3:=hw2.Uc hl
 unfold Oper.wp
 rw [pL ha hargs hc eg,Oper.upon_enter]
 refine (hcall w (blks Br) hw (hw3.Bm hj)).mono fun e w' he=>?_
 obtain ⟨z,rfl,ht⟩:=he
 exact hK z _ _ (ha.put d _ hd) (hw2.after (hw2.wider ht))
end
end
section
open Go Go.RowKit
def Rc (md:Region.Mode)(o:Oper)(ls:Array Bool):Bool:=o.after.all fun e => !Region.binds md e||ls.getD e.on false
def ou (md:Region.Mode)(ops:Array Oper)(ls:Array Bool):Bool:=(List.range ops.size).all fun j => !(ls.getD j false)||((ops[j]?).map (Rc md · ls)).getD true
def Du (md:Region.Mode)(ops:Array Oper):Nat->Nat->Nat->Bool
  | 0,_,_=>false
  | f+1,j,i=>((ops[j]?).map fun o=>o.after.any fun e=>Region.binds md e&&(e.on==i||Du md ops f e.on i)).getD false
section
variable {P:Program} {ops:Array Oper} {Q:Exit->Act->World->Prop} {md:Region.Mode} {S:World->Prop} {T:Nat->Bool}
theorem um {ls:Array Bool}(h:ou md ops ls=true){j:Nat}{o:Oper}(ho:ops[j]? = some o)(hj:ls.getD j false=true):Rc md o ls=true:=by
 have hlt:j<ops.size:=(Array.getElem?_eq_some_iff.1 ho).1
 have:=List.all_eq_true.1 h j (List.mem_range.2 hlt)
 grind
theorem ov {ls:Array Bool}(hc:ou md ops ls=true):∀ (f j i:Nat) (o:Oper),ops[j]? = some o->Rc md o ls=true->Du md ops f j i=true->ls.getD i false=true
 | 0,j,i,o,_,_,h=>by cases h
 | f+1,j,i,o,ho,hu,h=>by
  unfold Du at h
  rw [ho] at h
  simp only [Option.map_some,Option.getD_some,Array.any_eq_true'] at h
  obtain ⟨e,he,h⟩:=h
  simp only [Bool.and_eq_true,Bool.or_eq_true,beq_iff_eq] at h
  have hl:ls.getD e.on false=true:=by
   have:=Array.all_eq_true'.1 hu e he
   simpa [h.1] using this
  rcases h.2 with h2|h2
  .rw [<- h2];exact hl
  cases ho2:ops[e.on]? with
  | none=>cases f with
   | zero=>cases h2
   | succ f=>unfold Du at h2;rw [ho2] at h2;cases h2
  | some o2=>exact ov hc f e.on i o2 ho2 (um hc ho2 hl) h2
theorem Hn {o:Oper}{ls:Array Bool}{j:Nat}(h:Rc md o ls=true):Rc md o (ls.setIfInBounds j true)=true:=by
 refine Array.all_eq_true'.2 fun e he=>?_
 have:=Array.all_eq_true'.1 h e he
 simp only [Bool.or_eq_true,Bool.not_eq_true'] at this ⊢
 grind [getD_set_true]
theorem FV {ls:Array Bool}(h:ou md ops ls=true){j:Nat}{o:Oper}(ho:ops[j]? = some o)(hu:Rc md o ls=true):ou md ops (ls.setIfInBounds j true)=true:=by
 refine List.all_eq_true.2 fun k hk=>?_
 have hlt:=List.mem_range.1 hk
 cases hl:(ls.setIfInBounds j true).getD k false with
 | false=>rfl
 | true =>
  have hok:ops[k]? = some ops[k]:=Array.getElem?_eq_getElem hlt
  rw [hok]
  simp only [Bool.not_true,Bool.false_or,Option.map_some,Option.getD_some]
  by_cases hj:j=k
  .grind [Hn]
  have:ls.getD k false=true:=by
   simp_all
  grind [Hn,um]
def noT (T:Nat->Bool)(ls:Array Bool):Prop:= ∀j,T j=true->ls.getD j false=false
def np (P:Program)(md:Region.Mode)(ops:Array Oper)(Q:Exit->Act->World->Prop)(S:World->Prop)(T:Nat->Bool):Nat->Array Bool->Act->World->Prop
  | 0,ls,a,w=>Region.ready md ops ls=[]/\Q .normal a w
  | fuel+1,ls,a,w =>
    (Region.ready md ops ls=[]->Q .normal a w) /\
    ∀i∈Region.ready md ops ls,wpOp P ops Q i (fun a' w'=>(noT T (ls.setIfInBounds i true)->S w')/\np P md ops Q S T fuel (ls.setIfInBounds i true) a' w') a w
theorem xj:∀ (fuel:Nat) (ls:Array Bool) (a:Act) (w:World),np P md ops Q S T fuel ls a w->wpAny P md ops Q fuel ls a w
 | 0,_,_,_,h=>h
 | fuel+1,_,_,_,h=>⟨h.1,fun i hi=>wpOp_mono (fun a' w' h'=>xj fuel _ a' w' h'.2) (h.2 i hi)⟩
theorem Dv {ls:Array Bool}{j:Nat}(h:j∈Region.ready md ops ls):∃o,ops[j]? = some o/\Rc md o ls=true:=by
 unfold Region.ready at h
 obtain ⟨h1,h2⟩:=List.mem_filter.1 h
 simp only [Bool.and_eq_true] at h2
 cases ho:ops[j]? with
 | none=>grind
 | some o =>
  rw [ho] at h2
  have h3:=h2.2
  rw [Option.map_some,Option.getD_some] at h3
  exact ⟨o,rfl,h3⟩
theorem Bw {N i:Nat}{oi:Oper}{v:Value}(hi:ops[i]? = some oi)(hsel:∀ (j:Nat) (o:Oper) cs b,ops[j]? = some o->o.op ≠ .select cs b)
 (hQ:∀c a w,Q (.panic c) (a.put oi.dst v) w->Q (.panic c) a w) (hT:∀j,T j=true->Du md ops N j i=true) :
 ∀ (fuel:Nat) (listed:Array Bool) (a:Act) (w:World),ou md ops listed=true ->
  (∀j oj,ops[j]? = some oj->j≠i->listed.getD j true=false->(∀e∈oj.after,Region.binds md e=true->e.on≠i)->oi.apart ops oj=true) ->
  i∈Region.ready md ops listed->YieldsIf P ops S oi v a->S w ->
  np P md ops Q S T fuel (listed.setIfInBounds i true) (a.put oi.dst v) w->np P md ops Q S T (fuel+1) listed a w:=by
 intro fuel
 induction fuel with
 | zero =>
  intro listed a w _ _ hr hy hS H
  refine ⟨fun h=>au,fun j hj=>?_⟩
  by_cases hji:j=i
  .subst hji;exact hy.wpOp hi hS ⟨fun _=>hS,H⟩
  have:=ready_mono hj hji
  rw [H.1] at this
  grind
 | succ fuel ih =>
  intro listed a w hcl hfree hr hy hS H
  refine ⟨fun h=>au,fun j hj=>?_⟩
  by_cases hji:j=i
  .subst hji;exact hy.wpOp hi hS ⟨fun _=>hS,H⟩
  have h1:=H.2 j (ready_mono hj hji)
  obtain ⟨hjun,oj,hoj,hall⟩:=mem_ready.1 hj
  have hun:=(mem_ready.1 hr).1
  have hnl:listed.getD i false=false:=by
   grind
  obtain ⟨ZK,WH,YC⟩:=Dv hj
  have YD:¬ T j=true:=fun h=>by
   grind [ov]
  obtain ⟨ZL,YE,YF⟩:=Dv hr
  have V9:¬ T i=true:=fun h=>by
   grind [ov]
  have hno:noT T ((listed.setIfInBounds i true).setIfInBounds j true):=fun k hk=>by
   have hki:i≠k:=fun e=>V9 (e▸hk)
   have hkj:j≠k:=fun e=>YD (e▸hk)
   rw [Array.getD_eq_getD_getElem?,Array.getElem?_setIfInBounds_ne hkj,Array.getElem?_setIfInBounds_ne hki,<- Array.getD_eq_getD_getElem?]
   cases hl:listed.getD k false with
   | false=>rfl
   | true =>
    exfalso
    cases hok:ops[k]? with
    | none=>have:=hT k hk;cases N with
     | zero=>cases this
     | succ N=>grind [Du]
    | some ok =>
     grind [ov,um]
  have hnot:∀e∈oj.after,Region.binds md e=true->e.on≠i:=fun e he hb heq=>by
   grind
  have h2:=wpOp_putIf hoj (hfree j oj hoj hji hjun hnot) (fun cs b=>hsel i oi cs b hi) (fun cs b=>hsel j oj cs b hoj) hQ hy h1
  have hfree':∀k ok,ops[k]? = some ok->k≠i->(listed.setIfInBounds j true).getD k true=false ->
   (∀e∈ok.after,Region.binds md e=true->e.on≠i)->oi.apart ops ok=true:=fun k ok hk hki hun hno=>by
   refine hfree k ok hk hki ?_ hno
   by_cases hjk:j=k
   .grind
   simp_all
  have WI:=FV hcl WH YC
  refine wpOp_mono (fun a' w' h3=>⟨fun _=>h3.2.1 hno,ih (listed.setIfInBounds j true) a' w' WI hfree' (ready_mono hr (Ne.symm hji)) h3.1 (h3.2.1 hno) ?_⟩) h2
  grind [Array.setIfInBounds_comm]
theorem BA {ls:Array Bool}{i:Nat}(hi:¬ T i=true):noT T (ls.setIfInBounds i true)↔noT T ls:=by
 have e:∀k,T k=true->(ls.setIfInBounds i true).getD k false=ls.getD k false:=fun k hk=>getD_set_ne false (fun e=>hi (e▸hk))
 exact ⟨fun h k hk=>(e k hk).symm.trans (h k hk),fun h k hk=>(e k hk).trans (h k hk)⟩
theorem zC {i:Nat}{oi:Oper}{v:Value}(hi:ops[i]? = some oi)(hsel:∀ (j:Nat) (o:Oper) cs b,ops[j]? = some o->o.op ≠ .select cs b)
 (hQ:∀c a w,Q (.panic c) (a.put oi.dst v) w->Q (.panic c) a w) (V9:¬ T i=true) :
 ∀ (fuel:Nat) (listed:Array Bool) (a:Act) (w:World),
  (∀j oj,ops[j]? = some oj->j≠i->listed.getD j true=false->(∀e∈oj.after,Region.binds md e=true->e.on≠i)->oi.apart ops oj=true) ->
  i∈Region.ready md ops listed->YieldsIf P ops (fun _=>True) oi v a->(noT T listed->S w) ->
  np P md ops Q S T fuel (listed.setIfInBounds i true) (a.put oi.dst v) w->np P md ops Q S T (fuel+1) listed a w:=by
 intro fuel
 induction fuel with
 | zero =>
  intro listed a w _ hr hy hS H
  refine ⟨fun h=>au,fun j hj=>?_⟩
  by_cases hji:j=i
  .subst hji;exact hy.wpOp hi trivial ⟨fun h=>hS ((BA V9).1 h),H⟩
  have:=ready_mono hj hji
  rw [H.1] at this
  grind
 | succ fuel ih =>
  intro listed a w hfree hr hy hS H
  refine ⟨fun h=>au,fun j hj=>?_⟩
  by_cases hji:j=i
  .subst hji;exact hy.wpOp hi trivial ⟨fun h=>hS ((BA V9).1 h),H⟩
  have h1:=H.2 j (ready_mono hj hji)
  obtain ⟨hjun,oj,hoj,hall⟩:=mem_ready.1 hj
  have hun:=(mem_ready.1 hr).1
  have hnot:∀e∈oj.after,Region.binds md e=true->e.on≠i:=fun e he hb heq=>by
   grind
  have h2:=wpOp_putIf hoj (hfree j oj hoj hji hjun hnot) (fun cs b=>hsel i oi cs b hi) (fun cs b=>hsel j oj cs b hoj) hQ hy h1
  have hfree':∀k ok,ops[k]? = some ok->k≠i->(listed.setIfInBounds j true).getD k true=false ->
   (∀e∈ok.after,Region.binds md e=true->e.on≠i)->oi.apart ops ok=true:=fun k ok hk hki hun hno=>by
   refine hfree k ok hk hki ?_ hno
   by_cases hjk:j=k
   .grind
   simp_all
  refine wpOp_mono (fun a' w' h3=>?_) h2
  have hS':noT T (listed.setIfInBounds j true)->S w':=fun h=>h3.2.1 (by rw [Array.setIfInBounds_comm _ _ (Ne.symm hji)];grind [BA])
  refine ⟨hS',ih (listed.setIfInBounds j true) a' w' hfree' (ready_mono hr (Ne.symm hji)) h3.1 hS' ?_⟩
  grind [Array.setIfInBounds_comm]
theorem Dw {N i:Nat}{oi:Oper}{v:Value}{fuel:Nat}{listed:Array Bool}{a:Act}{w:World}(hi:ops[i]? = some oi)
 (hs:Region.noSelect ops=true) (hf:Region.free md ops listed i=true) (hr:(Region.ready md ops listed).contains i=true) (hcl:ou md ops listed=true) (hT:∀j,T j=true->Du md ops N j i=true)
 (hQ:∀c a w,Q (.panic c) (a.put oi.dst v) w->Q (.panic c) a w) (hy:YieldsIf P ops S oi v a) (hS:S w)
 (h:np P md ops Q S T fuel (listed.setIfInBounds i true) (a.put oi.dst v) w):np P md ops Q S T (fuel+1) listed a w :=
 Bw hi (Region.noSelect_spec hs) hQ hT fuel listed a w hcl (Region.free_spec hi hf) au hy hS h
end
section
variable {P:Program} {n:Nat} {we:World} {X:List Nat} {Q:Exit->Act->World->Prop} {k k':List It} {L:Fm} {B F:List ah} {ops rest:List Oper}
variable {dst:Option Nat} {d:Nat} {op:Op} {ty:TypeId} {pos:String} {dr:Array Edge} {g:Option (Nat×Bool)} {v:Value}
def BD (l:List Nat)(j:Nat):Bool:=l.any (Nat.beq j)
def Kg (S:World->Prop)(T:List Nat)(P:Program)(n:Nat)(we:World)(X:List Nat)(Q:Exit->Act->World->Prop)(ops:List Oper)(fuel:Nat)(ls:Array Bool)(k:List It)(L:Fm)(B F:List ah):Prop :=
  ∀a w,Fr n L a->Wd we X B F w->np P .any ops.toArray (NoPanic (pH P Q k)) S (BD T) fuel ls a w
def Ko (S:World->Prop)(T:List Nat)(P:Program)(n:Nat)(we:World)(X:List Nat)(Q:Exit->Act->World->Prop)(ops:List Oper)(i:Nat)(o:Oper)(fuel:Nat)(ls:Array Bool)(k:List It)(L:Fm)(B F:List ah):Prop :=
  ops[i]? = some o -> ∀a w,Fr n L a->Wd we X B F w->wpOp P ops.toArray (NoPanic (pH P Q k)) i (fun a' w'=>(noT (BD T) (ls.setIfInBounds i true)->S w')/\np P .any ops.toArray (NoPanic (pH P Q k)) S (BD T) fuel (ls.setIfInBounds i true) a' w') a w
variable {S:World->Prop} {T:List Nat} {i j fuel:Nat} {ls ls':Array Bool} {o:Oper}
theorem R.WJ {id:Nat}(S:World->Prop)(T:List Nat)(h:norm 200 k = .c (.region id ops.toArray true)::k')(hm:P.follows .mixedOrders=true)(hl:ops.length=fuel)(hr:Kg S T P n we X Q ops fuel (Array.replicate fuel false) k' L B F):Run P n we X Q k L B F:=by
 intro a w ha hw
 refine cO 200 (h ▸ ?_)
 refine wp_region_noPanic (wp_region_any hm (xj (S:=S) (T:=BD T) _ _ _ _ ?_))
 have:=hr a _ ha (hw.grow (lL.draw w))
 grind
theorem R.WK {id:Nat}{B1:List ah}(is:List Nat)(T:List Nat)(hB:bP B is=some B1)(h:norm 200 k = .c (.region id ops.toArray true)::k')(hm:P.follows .mixedOrders=true)(hl:ops.length=fuel)(hr:Kg (Wd we X B1 F) T P n we X Q ops fuel (Array.replicate fuel false) k' L B F):Run P n we X Q k L B F :=
 R.WJ (Wd we X B1 F) T h hm hl hr
theorem K.done (h:Run P n we X Q k L B F)(h0:Region.ready .any ops.toArray ls=[]:=by kernel_rfl):Kg S T P n we X Q ops fuel ls k L B F :=
 fun a w ha hw=>by
  cases fuel with
  | zero=>exact ⟨h0,NoPanic.normal (h a w ha hw)⟩
  | succ f=>exact ⟨fun _=>NoPanic.normal (h a w ha hw),au⟩
theorem KS {T:List Nat}{p:Nat->Bool}(h:T.all p=true):∀j,BD T j=true->p j=true:=fun j hj=>by
 grind [BD,List.any_eq_true,Nat.eq_of_beq_eq_true,List.all_eq_true]
theorem K.q (hi:ops[i]? = some ⟨some d,op,ty,pos,dr,g⟩)(hS:∀w,Wd we X B F w->S w)(hg:gd ops L g=some true)
 (hq:∀dst pos dr g a w,Fr n L a->S w->(execOp a.eval ⟨dst,op,ty,pos,dr,g⟩).run P w = .ok (.value v) w) (hd:Nat.blt d n=true) (h:Kg S T P n we X Q ops fuel (ls.setIfInBounds i true) k ((d,v)::L) B F) (hfr:(Region.noSelect ops.toArray&&Region.free .any ops.toArray ls i&&(Region.ready .any ops.toArray ls).contains i&&ou .any ops.toArray ls&&T.all (fun j=>Du .any ops.toArray 40 j i))=true:=by kernel_rfl):Kg S T P n we X Q ops (fuel+1) ls k L B F:=by
 intro a w ha hw
 simp only [Bool.and_eq_true] at hfr
 obtain ⟨⟨⟨⟨h1,h2⟩,h3⟩,h4⟩,h5⟩:=hfr
 exact Dw (N:=40) au h1 h2 h3 h4 (KS h5) (fun _ _ _ h=>h) (.inl ⟨dR (o:=⟨some d,op,ty,pos,dr,g⟩) ha hg,fun w hw=>hq _ _ _ _ a w ha hw⟩) (hS w hw) (h _ w (ha.put d v hd) hw)
theorem K.p (hi:ops[i]? = some ⟨some d,op,ty,pos,dr,g⟩)(hS:T.any (fun t=>ls.getD t false)=true ∨ ∀w,Wd we X B F w->S w)(hg:gd ops L g=some true)
 (hq:∀w,Qt P n w [] L [] [] op ty v) (hd:Nat.blt d n=true) (h:Kg S T P n we X Q ops fuel (ls.setIfInBounds i true) k ((d,v)::L) B F) (hfr:(Region.noSelect ops.toArray&&Region.free .any ops.toArray ls i&&(Region.ready .any ops.toArray ls).contains i && !BD T i)=true:=by kernel_rfl):Kg S T P n we X Q ops (fuel+1) ls k L B F:=by
 intro a w ha hw
 simp only [Bool.and_eq_true,Bool.not_eq_true'] at hfr
 obtain ⟨⟨⟨h1,h2⟩,h3⟩,h4⟩:=hfr
 have hi':ops.toArray[i]? = some ⟨some d,op,ty,pos,dr,g⟩:=au
 exact zC hi' (Region.noSelect_spec h1) (fun _ _ _ h=>h) au fuel ls a w (Region.free_spec hi' h2) au
  (.inl ⟨dR (o:=⟨some d,op,ty,pos,dr,g⟩) ha hg,fun w _=>hq w _ _ _ _ a w ha (Wd.start w [])⟩) (fun hno=>hS.elim (fun hT=>by
   obtain ⟨t,ht,e⟩:=List.any_eq_true.1 hT
   have:=hno t (List.any_eq_true.2 ⟨t,ht,Nat.beq_refl t⟩)
   grind) fun h=>h w hw) (h _ w (ha.put d v hd) hw)
theorem K.one (hi:ops[i]? = some o)(h:Ko S T P n we X Q ops i o fuel ls k L B F)(h0:Region.ready .any ops.toArray ls=[i]:=by kernel_rfl):Kg S T P n we X Q ops (fuel+1) ls k L B F :=
 fun a w ha hw=>⟨fun h1=>au,fun j hj=>by
  rw [h0] at hj;rw [List.mem_singleton.1 hj];exact h hi a w ha hw⟩
theorem Ko.s {β:Type}{L':β->Fm}{B' F':β->List ah}(hs:Stp P n we X L B F o L' B' F')(hS:BD T i=true∨(∀z w,Wd we X (B' z) (F' z) w->S w))(hT:BD T i=true->Nat.blt i ls.size=true)(hg:gd ops L o.guard=some true)
 (h:∀z,Kg S T P n we X Q ops fuel (ls.setIfInBounds i true) k (L' z) (B' z) (F' z)):Ko S T P n we X Q ops i o fuel ls k L B F:=by
 intro hi a w ha hw
 unfold wpOp
 have:ops.toArray[i]? = some o:=au
 rw [this]
 simp only []
 rw [if_pos (dR (o:=o) ha hg)]
 refine .inl (hs _ _ a w ha hw fun z a w ha hw=>⟨fun hno=>?_,h z a w ha hw⟩)
 rcases hS with hS|hS
 .
  have h1:=hno i hS
  simp_all
 grind
end
end
end Go.Proofs.YtnmpibjlnninjaaGreatDoor
