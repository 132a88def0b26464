import Derived.Test.YtkbhcbipadkcaaaGreatDoorTW5
import Derived.Laws.StructEq
import Derived.Laws.OwnMore
import Derived.Shelf.Strings.Builder1
import Derived.Shelf.Strings.Builder2
import Derived.Shelf.Small.Bits
import Derived.Shelf.Small.Strs
import Derived.Shelf.Small.Wraps
import Derived.Shelf.Strings.BuilderF
import Derived.Shelf.Strconv.Atoi
import Derived.Shelf.Strconv.Itoa0
import Derived.Shelf.Strconv.Itoa1
import Derived.Shelf.LaysM
import Derived.Shelf.Strconv.Itoa2
import Derived.Shelf.Strconv.Itoa3
import Derived.Shelf.Strconv.AtoiErrFast
import Derived.Shelf.Strconv.ParseIntEmpty
import Derived.Shelf.Strconv.AtoiFail
import Derived.Shelf.Strconv.Clone
import Derived.Shelf.Strconv.SyntaxError
import Derived.Shelf.LaysC
import Derived.Shelf.Strconv.ToError
import Derived.Shelf.Strconv.AtoiErr
import Derived.Shelf.Strconv.ErrVar
import Derived.Shelf.Sort.Plain
import Derived.Shelf.Strings.Prefix
import Derived.Shelf.Bits.Mul64
import Derived.Shelf.Strings.Repeat
import Derived.Shelf.Slices.Turned
import Derived.Shelf.Slices.Equal
import Derived.Ground.Names2Prog
import Derived.Shelf.Slices.CompactI
import Derived.Shelf.Slices.SearchI
import Derived.Shelf.Slices.Cells
import Derived.Shelf.Slices.In.SortNone
import Derived.Shelf.Slices.Empties2
namespace Go.Proofs.YtkbhcbipadkcaaaGreatDoor
set_option linter.unusedVariables false
set_option linter.unusedSimpArgs false
set_option maxRecDepth 100000
set_option maxHeartbeats 90000000
section
open Go Go.RowKit
set_option linter.unusedSectionVars false
theorem zp {P:Program}{op:BinOp}{t:TypeId}(h:P.eqGuardType P.depth t=false)(a b:Operand)(xs ys:Array Value)(w:World):(eqGuard op t a b (.agg xs) (.agg ys)).run P w = .ok () w:=by
 have hp:(program:Sem Program).run P w = .ok P w:=rfl
 cases op <;> simp [eqGuard,hp,h]
theorem wJ {P:Program}{t:TypeId}{β:Type}[DecidableEq β]{cs:β->List Value}(hg:P.eqGuardType P.depth t=false)(he:∀x y w,(Op.equal t (.agg (cs x).toArray) (.agg (cs y).toArray)).run P w = .ok (decide (x=y)) w):NR P t (fun x => .agg (cs x).toArray):=by
 refine ⟨fun x y w a b=>⟨zp hg a b _ _ w,zp hg a b _ _ w⟩,fun x y w=>⟨?_,?_⟩⟩
 .simp only [binOp,Sem.run_bind,he x y w,Result.andThen_ok,Sem.run_pure]
 .simp only [binOp,Sem.run_bind,he x y w,Result.andThen_ok,Sem.run_pure]
theorem tV:NR Tryz.prog 127 ak.val:=by
 have hS:Tryz.prog.underlying 127=some (.struct (Tryz.prog.fieldsOf 127)):=by kernel_rfl
 have hp:Tryz.prog.stoodInHeld 127=false:=by kernel_rfl
 refine wJ (cs:=ak.cs) (by kernel_rfl) fun x y w=>?_
 have u3:=Tryz.underlying3;have a3:=Tryz.isAgg3;have z3:=Tryz.sizeOf3
 obtain ⟨x1,x2,x3,x4,x5⟩:=x;obtain ⟨y1,y2,y3,y4,y5⟩:=y
 rw [Op.equal,Op.maxDepth,show (10000:Nat)=9999+1 from rfl,run_equalIn_agg w 9999 127 _ _ hS hp]
 simp only [Program.fieldsOf,Tryz.underlying127]
 go_simp
 by_cases h1:x1=y1 <;> by_cases h2:x2=y2 <;> by_cases h3:x3=y3 <;> by_cases h4:x4=y4 <;> by_cases h5:x5=y5 <;> simp [h1,h2,h3,h4,h5]
theorem JG (d:Nat)(x y:Place)(w:World):(Op.equalIn (d+1+1) 32 (.agg #[.int .i64 x.aA,.int .i64 x.Slot]) (.agg #[.int .i64 y.aA,.int .i64 y.Slot])).run Tryz.prog w = .ok (decide (x=y)) w:=by
 have hS:Tryz.prog.underlying 32=some (.struct (Tryz.prog.fieldsOf 32)):=by kernel_rfl
 have hp:Tryz.prog.stoodInHeld 32=false:=by kernel_rfl
 have u3:=Tryz.underlying3;have a3:=Tryz.isAgg3;have z3:=Tryz.sizeOf3
 obtain ⟨x1,x2⟩:=x;obtain ⟨y1,y2⟩:=y
 rw [run_equalIn_agg w (d+1) 32 _ _ hS hp]
 simp only [Program.fieldsOf,Tryz.underlying32]
 go_simp
 by_cases h1:x1=y1 <;> by_cases h2:x2=y2 <;> simp [h1,h2]
theorem JH:NR Tryz.prog 124 Held.val:=by
 have hS:Tryz.prog.underlying 124=some (.struct (Tryz.prog.fieldsOf 124)):=by kernel_rfl
 have hp:Tryz.prog.stoodInHeld 124=false:=by kernel_rfl
 refine wJ (cs:=Held.cs) (by kernel_rfl) fun x y w=>?_
 have u3:=Tryz.underlying3;have a3:=Tryz.isAgg3;have z3:=Tryz.sizeOf3;have a4:=Tryz.isAgg32;have z4:=Tryz.sizeOf32
 obtain ⟨⟨x1,x2⟩,x3⟩:=x;obtain ⟨⟨y1,y2⟩,y3⟩:=y
 rw [Op.equal,Op.maxDepth,show (10000:Nat)=9999+1 from rfl,run_equalIn_agg w 9999 124 _ _ hS hp]
 have hpl:=fun w=>JG 9997 ⟨x1,x2⟩ ⟨y1,y2⟩ w
 simp only [Nat.reduceAdd] at hpl
 simp only [Program.fieldsOf,Tryz.underlying124]
 go_simp
 by_cases h1:x1=y1 <;> by_cases h2:x2=y2 <;> by_cases h3:x3=y3 <;> simp [h1,h2,h3]
theorem JI:NR Tryz.prog 117 Change.val:=by
 have hS:Tryz.prog.underlying 117=some (.struct (Tryz.prog.fieldsOf 117)):=by kernel_rfl
 have hp:Tryz.prog.stoodInHeld 117=false:=by kernel_rfl
 refine wJ (cs:=Change.cs) (by kernel_rfl) fun x y w=>?_
 have u3:=Tryz.underlying9;have a3:=Tryz.isAgg9;have z3:=Tryz.sizeOf9;have u4:=Tryz.underlying4;have a4:=Tryz.isAgg4;have z4:=Tryz.sizeOf4
 obtain ⟨x1,x2,x3⟩:=x;obtain ⟨y1,y2,y3⟩:=y
 rw [Op.equal,Op.maxDepth,show (10000:Nat)=9999+1 from rfl,run_equalIn_agg w 9999 117 _ _ hS hp]
 simp only [Program.fieldsOf,Tryz.underlying117]
 go_simp
 have tl:∀a b:ByteArray,a.toList=b.toList↔a=b:=fun a b=>by have:=ly a b;rw [Bool.eq_iff_iff] at this;simpa using this
 by_cases h1:x1=y1 <;> by_cases h2:x2=y2 <;> by_cases h3:x3=y3 <;> simp [h1,h2,h3,tl]
section
variable {α:Type} [DecidableEq α] {a b:List α}
theorem wK (h:¬ a.length=b.length):false=decide (a=b):=(decide_eq_false (fun e=>h (by rw [e]))).symm
theorem wL {k:Nat}{x y:α}(hx:a[k]? = some x)(hy:b[k]? = some y)(h:¬ x=y):false=decide (a=b):=(decide_eq_false (fun e=>h (by rw [e,hy] at hx;injection hx with hx;exact hx.symm))).symm
theorem pZ {k:Nat}(hl:a.length=b.length)(hk:¬ k<a.length)(h:∀j,j<k->a[j]? = b[j]?):true=decide (a=b):=by
 refine (decide_eq_true (List.ext_getElem? fun j=>?_)).symm
 rcases Nat.lt_or_ge j k with h1|h1
 .exact h j h1
 .rw [List.getElem?_eq_none (by omega),List.getElem?_eq_none (by omega)]
theorem nT {k:Nat}{x y:α}(h:∀j,j<k->a[j]? = b[j]?)(hx:a[k]? = some x)(hy:b[k]? = some y)(e:x=y):∀j,j<k+1->a[j]? = b[j]?:=by
 intro j hj
 rcases Nat.lt_or_ge j k with h1|h1
 .exact h j h1
 .
  have:j=k:=by omega
  subst this;rw [hx,hy,e]
end
end
section
open Go Go.RowKit
theorem rK (wM:Value)(a:List ak)(yD:Value)(b:List ak)(w:World)(vj:Sl w wM a)(zq:Sl w yD b):Calls Tryz.prog 51 #[wM,yD] w fun e w'=>e = .returned (.bool (decide (a=b)))/\Ext w w':=by
 have JJ:=vj.fB
 have UQ:=zq.fB
 refine R.enter [] [(0,wM),(1,yD)] Tryz.func51 O O O O<|R.reg O<|R.u 1 O<|R.nil<|R.reg O<|R.u 1 O<|R.q (q.len' (fun _=>Wd.old vj) O Tryz.underlying43) O<|R.u 1 O<|R.q (q.len' (fun _=>Wd.old zq) O Tryz.underlying43) O<|?_
 by_cases h1:a.length=b.length
 .
  refine R.q (q.lL O O) O<|R.nil<|R.aB O O<|R.reg O<|R.u 1 O<|R.nil<|R.loop (fun k:Nat=>[(0,wM),(1,yD),(5,iV (k:Int))]) (fun k:Nat=>[]) (fun k:Nat=>[]) (fun k:Nat=>k<=a.length /\ ∀j,j<k->a[j]? = b[j]?) (fun k:Nat=>a.length-k) 0 O (by exact ⟨by omega,fun j hj=>absurd hj (Nat.not_lt_zero _)⟩) (sF O) (ic [] [] O) ?_
  rintro k ⟨hk,HA⟩
  refine R.reg O<|R.u 2 O<|R.q (q.len' (fun _=>Wd.old vj) O Tryz.underlying43) O<|?_
  by_cases h2:k<a.length
  .
   refine R.q (q.dz O O) O<|R.nil<|R.av O O ?_
   obtain ⟨x1,hx1⟩:∃z,a[k]? = some z:=⟨_,List.getElem?_eq_getElem (by omega)⟩
   obtain ⟨x2,hx2⟩:∃z,b[k]? = some z:=⟨_,List.getElem?_eq_getElem (by omega)⟩
   by_cases h3:x1=x2
   .
    refine R.eu O mixed (by kernel_rfl)<|Q.u 2 O<|Q.q (q.idx (i:=k) (fun _=>Wd.old vj) O O dK O hx1) O<|Q.q (q.eS (ds:=im x1) (fun _=>Wd.old vj) hx1 O aM O) O<|Q.u 2 O<|Q.q (q.idx (i:=k) (fun _=>Wd.old zq) O O dK O hx2) O<|Q.q (q.eS (ds:=im x2) (fun _=>Wd.old zq) hx2 O aM O) O<|Q.q (q.vZ (x:=x1) (y:=x2) tV O O h3) O<|Q.nil<|R.aB O O<|R.reg O<|R.u 1 O<|R.q (q.bB (r:=((k+1:Nat):Int)) O O) O<|R.u 1 O<|R.nil<|R.back (k+1) O (by (exact ⟨by omega,nT HA hx1 hx2 ‹_›⟩)) (by omega) (sF O) (ic [] [] O)
   exact R.eu O mixed (by kernel_rfl)<|Q.u 2 O<|Q.q (q.idx (i:=k) (fun _=>Wd.old vj) O O dK O hx1) O<|Q.q (q.eS (ds:=im x1) (fun _=>Wd.old vj) hx1 O aM O) O<|Q.u 2 O<|Q.q (q.idx (i:=k) (fun _=>Wd.old zq) O O dK O hx2) O<|Q.q (q.eS (ds:=im x2) (fun _=>Wd.old zq) hx2 O aM O) O<|Q.q (q.wh (x:=x1) (y:=x2) tV O O h3) O<|Q.nil<|R.av O O<|R.reg O<|R.u 1 O<|R.nil<|R.rv O Tryz.results51 O (rB (by (exact wL hx1 hx2 ‹_›)))
  exact R.q (q.cW O O) O<|R.nil<|R.aB O O<|R.reg O<|R.u 1 O<|R.nil<|R.rv O Tryz.results51 O (rB (by (exact pZ ‹_› ‹_› HA)))
 exact R.q (q.lK O O) O<|R.nil<|R.av O O<|R.reg O<|R.u 1 O<|R.nil<|R.rv O Tryz.results51 O (rB (by (exact wK ‹_›)))
theorem lX (wM:Value)(a:List Held)(yD:Value)(b:List Held)(w:World)(vj:Sl w wM a)(zq:Sl w yD b):Calls Tryz.prog 52 #[wM,yD] w fun e w'=>e = .returned (.bool (decide (a=b)))/\Ext w w':=by
 have JJ:=vj.fB
 have UQ:=zq.fB
 refine R.enter [] [(0,wM),(1,yD)] Tryz.func52 O O O O<|R.reg O<|R.u 1 O<|R.nil<|R.reg O<|R.u 1 O<|R.q (q.len' (fun _=>Wd.old vj) O Tryz.underlying45) O<|R.u 1 O<|R.q (q.len' (fun _=>Wd.old zq) O Tryz.underlying45) O<|?_
 by_cases h1:a.length=b.length
 .
  refine R.q (q.lL O O) O<|R.nil<|R.aB O O<|R.reg O<|R.u 1 O<|R.nil<|R.loop (fun k:Nat=>[(0,wM),(1,yD),(5,iV (k:Int))]) (fun k:Nat=>[]) (fun k:Nat=>[]) (fun k:Nat=>k<=a.length /\ ∀j,j<k->a[j]? = b[j]?) (fun k:Nat=>a.length-k) 0 O (by exact ⟨by omega,fun j hj=>absurd hj (Nat.not_lt_zero _)⟩) (sF O) (ic [] [] O) ?_
  rintro k ⟨hk,HA⟩
  refine R.reg O<|R.u 2 O<|R.q (q.len' (fun _=>Wd.old vj) O Tryz.underlying45) O<|?_
  by_cases h2:k<a.length
  .
   refine R.q (q.dz O O) O<|R.nil<|R.av O O ?_
   obtain ⟨x1,hx1⟩:∃z,a[k]? = some z:=⟨_,List.getElem?_eq_getElem (by omega)⟩
   obtain ⟨x2,hx2⟩:∃z,b[k]? = some z:=⟨_,List.getElem?_eq_getElem (by omega)⟩
   by_cases h3:x1=x2
   .
    refine R.eu O mixed (by kernel_rfl)<|Q.u 2 O<|Q.q (q.idx (i:=k) (fun _=>Wd.old vj) O O cK O hx1) O<|Q.q (q.eS (ds:=lJ x1) (fun _=>Wd.old vj) hx1 O eV O) O<|Q.u 2 O<|Q.q (q.idx (i:=k) (fun _=>Wd.old zq) O O cK O hx2) O<|Q.q (q.eS (ds:=lJ x2) (fun _=>Wd.old zq) hx2 O eV O) O<|Q.q (q.vZ (x:=x1) (y:=x2) JH O O h3) O<|Q.nil<|R.aB O O<|R.reg O<|R.u 1 O<|R.q (q.bB (r:=((k+1:Nat):Int)) O O) O<|R.u 1 O<|R.nil<|R.back (k+1) O (by (exact ⟨by omega,nT HA hx1 hx2 ‹_›⟩)) (by omega) (sF O) (ic [] [] O)
   exact R.eu O mixed (by kernel_rfl)<|Q.u 2 O<|Q.q (q.idx (i:=k) (fun _=>Wd.old vj) O O cK O hx1) O<|Q.q (q.eS (ds:=lJ x1) (fun _=>Wd.old vj) hx1 O eV O) O<|Q.u 2 O<|Q.q (q.idx (i:=k) (fun _=>Wd.old zq) O O cK O hx2) O<|Q.q (q.eS (ds:=lJ x2) (fun _=>Wd.old zq) hx2 O eV O) O<|Q.q (q.wh (x:=x1) (y:=x2) JH O O h3) O<|Q.nil<|R.av O O<|R.reg O<|R.u 1 O<|R.nil<|R.rv O Tryz.results52 O (rB (by (exact wL hx1 hx2 ‹_›)))
  exact R.q (q.cW O O) O<|R.nil<|R.aB O O<|R.reg O<|R.u 1 O<|R.nil<|R.rv O Tryz.results52 O (rB (by (exact pZ ‹_› ‹_› HA)))
 exact R.q (q.lK O O) O<|R.nil<|R.av O O<|R.reg O<|R.u 1 O<|R.nil<|R.rv O Tryz.results52 O (rB (by (exact wK ‹_›)))
end
section
open Go Go.RowKit
section
variable {P:Program} {n:Nat} {we:World} {X:List Nat} {L:Fm} {B F:List ag} {x y z':Operand} {v:Value} {d:Nat} {ty:TypeId} {pos:String} {ef:Array Edge} {g:Option (Nat×Bool)} {t e:TypeId} {α:Type} [Enc α] {l:List α}
theorem s.Sp {m:Nat}{i0:TypeInfo}{kd:IntKind}{z0:α}{zv:Value}(ht:pB P t=some (e,Enc.k α))(hi:P.info? e=some i0)(hz:i0.zero=some zv)(hzs:zv.cells=(Enc.cells z0).toArray)(hb:i0.bytes<=1000)(hx:ev L x=some (.int kd (m:Int)))(hy:ev L y=some (.int kd (m:Int)))(hm:m*Enc.k α<=1000000)(hd:Nat.blt d n=true) :
 Stp P n we X L B F ⟨some d,.makeSlice t x y,ty,pos,ef,g⟩ (fun b:Nat=>(d,.slice (some ⟨b,0,none⟩) m m)::L) (fun b=>ag.row e (.slice (some ⟨b,0,none⟩) m m) (List.replicate m z0)::B) (fun _=>F):=by
 intro K Q' a w ha hw hK
 obtain ⟨hu,hsz⟩:=eR (P:=P) w ht
 have hsize:i0.size=Enc.k α:=by
  unfold pB at ht;rw [hu] at ht;simp [hi] at ht;exact ht
 have hkp:=Enc.pos (α:=α)
 have hm1:m<=m*Enc.k α:=Nat.le_mul_of_pos_right m hkp
 have hml:m<=maxLen:=by simp [maxLen];omega
 have hbb:i0.bytes*m<=1000*1000000:=Nat.mul_le_mul hb (by omega)
 obtain ⟨w',hr,how,hg⟩:=run_makeSlice_full (P:=P) w 0 t e i0 zv (Enc.k α) hu hi hz hsize kd kd m (by omega) (by omega) hml (Nat.zero_le _)
 have hrun:(execOp a.eval ⟨some d,.makeSlice t x y,ty,pos,ef,g⟩).run P w = .ok (.value (.slice (some ⟨w.heap.size,0,none⟩) m m)) w':=by
  simp [execOp,ha.ev hx,ha.ev hy,hr]
 unfold Oper.wp
 rw [hrun,Oper.upon_value]
 have hcells:(madeCells zv.cells (m*Enc.k α)).toList=(List.replicate m z0).flatMap Enc.cells:=by
  have h1:=nr hzs m
  rw [<- h1]
  have hs:zv.cells.size=Enc.k α:=by rw [hzs,List.size_toArray,Enc.len]
  simp [madeCells,Builtin.zeroCells,hs]
 rw [hcells] at how
 have hup:lU [] w w':=⟨hg.os,hg.tape,hg.output,hg.size,fun k hk _=>hg.block k hk (by simp)⟩
 have hlt:w.heap.size<w'.heap.size:=by
  rcases how.2 with ⟨h,_⟩ | ⟨gb,cap,cur,h,_,hgg,_⟩
  .simp at h
  .injection h with h _ _;injection h with h;injection h with h1;rw [h1];exact (Array.getElem?_eq_some_iff.1 hgg).1
 refine hK _ _ _ (ha.put d _ hd) ((hw.grow hup).new (r:=ag.row e (.slice (some ⟨w.heap.size,0,none⟩) m m) (List.replicate m z0)) ?_ (by simp [ag.row,dZ]) (fun k hk=>?_))
 .
  show Own 0 e w' _ _
  unfold Own;rw [List.length_replicate];exact how
 .
  simp [ag.row,dZ] at hk;subst hk
  exact ⟨hlt,hw.upd.size,fun h=>by have:=(hw.own _ h).1;omega,fun h=>by have:=(hw.ml _ h).1;omega⟩
theorem s.EH {o m:Nat}{u dst:Value}{l2:List α}{A:TypeId}(i:Nat)(B':List ag)(hB:B[i]? = some (ag.row e v l))(hs:∀w,Wd we X B F w->Sl w u l2)(hx:ev L x=some dst)(hdst:dst=dC v o (Enc.k α)∨(dst=v/\o=0))(hy:ev L y=some u)(ht:pB P t=some (e,Enc.k α))
 (hm0:0<m) (hm1:m<=l2.length) (hm2:o+m<=l.length) (hm:m=l2.length∨o+m=l.length) (hB':B.set i (ag.row e v (l.take o++l2.take m++l.drop (o+m)))=B') (hd:Nat.blt d n=true) :
 Stp P n we X L B F ⟨some d,.call { callee:= .builtin .copy,args:= #[x,y],argTypes:= #[t,A] },ty,pos,ef,g⟩ (fun _:Unit=>(d,.int .i64 m)::L) (fun _=>B') (fun _=>F):=by
 intro K Q' ac w hac hw hK
 obtain ⟨hu,hsz⟩:=eR (P:=P) w ht
 have how:Own 0 e w v l:=hw.b i hB
 obtain ⟨A2,c2,rfl,h21,h22,h23⟩:=hs w hw
 have hk:=Enc.pos (α:=α)
 unfold Oper.wp
 obtain ⟨gb,cap,cur,rfl,_,hgg,hnc,hcm,hcs,htk⟩:=how.parts (by omega)
 obtain ⟨x0,hx0⟩:∃y0,l2[0]? = some y0:=⟨_,List.getElem?_eq_getElem (by omega)⟩
 obtain ⟨b2,off,rfl,hb2,_⟩:=h23 0 x0 hx0
 have hl3:(l2.take m).length=m:=by rw [List.length_take];omega
 have hsrc:∀j u,((l2.take m).flatMap Enc.cells)[j]? = some u->w.cell? ((⟨b2,off,none⟩:Addr).add j)=some u:=fun j u hj=>by
  obtain ⟨i',z,q,hi',hq,rfl⟩:=mo (l2.take m) j u hj
  obtain ⟨b3,RE,h3,_,hc3⟩:=h23 i' z (by
   rw [List.getElem?_take] at hi'
   split at hi'
   .exact hi'
   .cases hi')
  injection h3 with h3;injection h3 with e1 e2;subst e1;subst e2
  rw [addr_add,<- Nat.add_assoc];exact hc3 q u hq
 have hfl:((l2.take m).flatMap Enc.cells).length=m*Enc.k α:=by rw [dq,hl3]
 have hld:=run_loadCells_list (P:=P) w ⟨b2,off,none⟩ ((l2.take m).flatMap Enc.cells) hsrc
 rw [hfl] at hld
 have hx':∃c3,ev L x=some (.slice (some ⟨gb,o*Enc.k α,none⟩) (l.length-o) c3):=by
  rcases hdst with rfl|⟨rfl,rfl⟩
  .
   have hne:cap≠o:=by omega
   exact ⟨_,by rw [hx];simp only [dC,if_neg hne];simp [addr_add];rfl⟩
  .exact ⟨_,by rw [hx];simp;rfl⟩
 obtain ⟨c3,hx'⟩:=hx'
 have hle:l.length*Enc.k α<=cap*Enc.k α:=Nat.mul_le_mul_right _ hnc
 have hol:o*Enc.k α+m*Enc.k α<=l.length*Enc.k α:=by rw [<- Nat.add_mul];exact Nat.mul_le_mul_right _ hm2
 have hst:=run_storeCells_at P gb (o*Enc.k α) e ((l2.take m).flatMap Enc.cells) 0 cur w hgg (by rw [hfl,hcs];omega) (lv (l2.take m))
 have hrun:(execOp ac.eval ⟨some d,.call { callee:= .builtin .copy,args:= #[x,y],argTypes:= #[t,A] },ty,pos,ef,g⟩).run P w = .ok (.value (.int .i64 m)) (w.setRow gb (cur.toList.take (o*Enc.k α)++(l2.take m).flatMap Enc.cells++cur.toList.drop (o*Enc.k α+((l2.take m).flatMap Enc.cells).length)).toArray):=by
  have hmin:Nat.min l2.length (l.length-o)=m:=by rcases hm with h|h <;> (simp only [Nat.min_def];split <;> omega)
  simp only [Nat.add_zero] at hst
  simp [execOp,resolve,invoke,builtin,hac.ev hx',hac.ev hy,Builtin.copy_,run_underlying hu,Builtin.lenOf,Builtin.firstCells,hsz,hmin,goInt,hld,hst]
 rw [hrun,Oper.upon_value]
 have hll:(l.take o++l2.take m++l.drop (o+m)).length=l.length:=by simp;omega
 have h3:(cur.toList.take (o*Enc.k α)).length=o*Enc.k α:=by rw [List.length_take];first|omega|(simp;omega)
 have:=hw.rU (l':=l.take o++l2.take m++l.drop (o+m)) (cs':=cur.toList.take (o*Enc.k α)++(l2.take m).flatMap Enc.cells++cur.toList.drop (o*Enc.k α+((l2.take m).flatMap Enc.cells).length)) hB hgg hcm hcs (by simp only [List.length_append,h3,List.length_drop,hfl];first|omega|(simp;omega)) (by
  have e2:(o+m)*Enc.k α=o*Enc.k α+((l2.take m).flatMap Enc.cells).length:=by rw [Nat.add_mul,hfl]
  rw [hll,List.flatMap_append,List.flatMap_append,kL l o,l9,<- htk,e2]
  exact sS _ _ _ _ (by rw [hfl];omega) (by simp;omega)) (by omega)
 rw [hll] at this
 exact hK () _ _ (hac.put d _ hd) (hB'▸this)
end
section
variable {P:Program} {n:Nat} {we:World} {X:List Nat} {L:Fm} {B F:List ag} {ty xT e:TypeId} {x y:Operand}
end
def Gc (places:List (Nat×Nat)):List Value->List (Nat×List Value)->Option (List Value)
  | cells,[]=>some cells
  | cells,(i,v)::rest=>match places[i]? with
    | none=>none
    | some (off,size)=>bif Nat.beq v.length size&&Nat.ble (off+size) cells.length then Gc places (cells.take off++v++cells.drop (off+size)) rest else none
theorem Cz (places:List (Nat×Nat)):∀ (parts:List (Nat×Value)) (cells:List Value),wj places cells parts=Gc places cells (parts.map fun p=>(p.1,p.2.cells.toList))
 | [],cells=>rfl
 | (i,v)::rest,cells=>by
  simp only [wj,List.map_cons,Gc]
  cases places[i]? with
  | none=>rfl
  | some q =>
   obtain ⟨off,size⟩:=q
   simp only [Cz places rest]
theorem zr:∀ (is:List Nat) (vs:List Value),(is.zip vs).map (fun p=>(p.1,p.2.cells.toList))=is.zip (vs.map fun v=>v.cells.toList)
 | [],vs=>by simp
 | i::is,[]=>by simp
 | i::is,v::vs=>by simp [zr is vs]
theorem JK:([]:List Value).map (fun v=>v.cells.toList)=[]:=rfl
theorem sY {v:Value}{vs:List Value}{u:List Value}{us:List (List Value)}(h:v.cells.toList=u)(hs:vs.map (fun v=>v.cells.toList)=us):(v::vs).map (fun v=>v.cells.toList)=u::us:=by
 rw [List.map_cons,h,hs]
theorem Sl.EI {α:Type}[Enc α]{w:World}{v:Value}{l:List α}(h:Sl w v l):v.cells.toList=[v]:=by rw [h.cm]
section
variable {P:Program} {n:Nat} {we:World} {X:List Nat} {L:Fm} {B F:List ag} {ty:TypeId}
theorem q.JL {t:TypeId}{parts:Array (Nat×Operand)}{places:List (Nat×Nat)}{zs vs cs:List Value}{us:List (List Value)}(ht:tB P t=some (places,zs))(hp:evs L (parts.toList.map (·.2))=some vs)
 (hv:∀w,Wd we X B F w->vs.map (fun v=>v.cells.toList)=us) (hf:Gc places zs ((parts.toList.map (·.1)).zip us)=some cs) :
 Qt P n we X L B F (.build t parts) ty (.agg cs.toArray):=fun q1 q2 q3 q4 a w ha hw =>
 q.build ht hp (by rw [Cz,zr,hv w hw];exact hf) q1 q2 q3 q4 a w ha hw
end
def JM (Bl Fl:List ag):Prop:= ∀f∈Fl,∃r∈Bl,(∀w,r.ok w->f.ok w) /\ ∀k∈f.blk,k∈r.blk
theorem wN:JM [] []:=fun f hf=>by cases hf
theorem qJ {α:Type}[Enc α]{Bl Fl:List ag}{e:TypeId}{v:Value}{l:List α}(h:JM Bl Fl):JM (ag.row e v l::Bl) (ag.ls v l::Fl):=fun f hf=>by
 rcases List.mem_cons.1 hf with rfl|hf
 .exact ⟨_,List.mem_cons_self ..,fun w hw=>Own.sl hw,fun k hk=>I7 k hk⟩
 .
  obtain ⟨r,hr,h1,h2⟩:=h f hf
  exact ⟨r,List.mem_cons_of_mem _ hr,h1,h2⟩
section
variable {we w w':World} {X:List Nat} {B0 Bl Br B1 F Fl:List ag}
theorem Wd.Sq (hw:Wd we X (B0++(Bl++Br)) F w)(hl:JM Bl Fl):Wd we X (B0++Br) (Fl++F) w:=by
 have hs:=hw.sep
 rw [aU,aU] at hs
 obtain ⟨s1,s2,s3⟩:=List.nodup_append.1 hs
 obtain ⟨s4,s5,s6⟩:=List.nodup_append.1 s2
 have hsub:∀k∈blks (B0++Br),k∈blks (B0++(Bl++Br)):=fun k hk=>by
  rw [aU] at hk;rw [aU,aU]
  rcases List.mem_append.1 hk with hk|hk
  .exact List.mem_append.2 (.inl hk)
  .exact List.mem_append.2 (.inr (List.mem_append.2 (.inr hk)))
 refine ⟨hw.upd,fun r hr=>?_,fun r hr=>?_,?_,fun k hk=>hw.own k (hsub k hk),fun k hk=>?_⟩
 .
  rcases List.mem_append.1 hr with hr|hr
  .exact hw.okB r (List.mem_append.2 (.inl hr))
  .exact hw.okB r (List.mem_append.2 (.inr (List.mem_append.2 (.inr hr))))
 .
  rcases List.mem_append.1 hr with hr|hr
  .
   obtain ⟨q,hq,h1,_⟩:=hl r hr
   exact h1 w (hw.okB q (List.mem_append.2 (.inr (List.mem_append.2 (.inl hq)))))
  .exact hw.okF r hr
 .
  rw [aU]
  exact List.nodup_append.2 ⟨s1,s5,fun a ha b hb e=>s3 a ha b (List.mem_append.2 (.inr hb)) e⟩
 .
  rw [aU] at hk
  rcases List.mem_append.1 hk with hk|hk
  .
   obtain ⟨f,hf,hk⟩:=bu.1 hk
   obtain ⟨q,hq,_,h2⟩:=hl f hf
   have hb:k∈blks Bl:=bu.2 ⟨q,hq,h2 k hk⟩
   refine ⟨(hw.own k (by rw [aU,aU];exact List.mem_append.2 (.inr (List.mem_append.2 (.inl hb))))).1,fun hc=>?_⟩
   rw [aU] at hc
   rcases List.mem_append.1 hc with hc|hc
   .exact s3 k hc k (List.mem_append.2 (.inl hb)) rfl
   .exact s6 k hb k hc rfl
  .exact ⟨(hw.ml k hk).1,fun hc=>(hw.ml k hk).2 (hsub k hc)⟩
theorem Wd.wider (hw:Wd we X (B0++(Bl++Br)) F w)(hp:Wd w (blks B0++blks Br) (B1++[ag.held w (blks Br)]) [] w'):Wd w (blks B0++blks (Bl++Br)) (B1++[ag.held w (blks (Bl++Br))]) [] w':=by
 have hs:=hw.sep
 rw [aU,aU] at hs
 obtain ⟨s1,s2,s3⟩:=List.nodup_append.1 hs
 obtain ⟨s4,s5,s6⟩:=List.nodup_append.1 s2
 have hbl:∀k∈blks Bl,k<w.heap.size/\k∉blks B0++blks Br:=fun k hk=>by
  refine ⟨(hw.own k (by rw [aU,aU];exact List.mem_append.2 (.inr (List.mem_append.2 (.inl hk))))).1,fun hc=>?_⟩
  rcases List.mem_append.1 hc with hc|hc
  .exact s3 k hc k (List.mem_append.2 (.inl hk)) rfl
  .exact s6 k hk k hc rfl
 have hps:=hp.sep
 rw [fQ] at hps
 obtain ⟨p1,p2,p3⟩:=List.nodup_append.1 hps
 have hb1:∀k∈blks B1,k∉blks Bl:=fun k hk hc =>
  (hbl k hc).2 ((hp.own k (by rw [fQ];exact List.mem_append.2 (.inl hk))).2 (hbl k hc).1)
 refine ⟨hp.upd.mono fun k hk _=>?_,fun r hr=>?_,fun r hr=>(by cases hr),?_,fun k hk=>?_,fun k hk=>(by cases hk)⟩
 .
  rcases List.mem_append.1 hk with hk|hk
  .exact List.mem_append.2 (.inl hk)
  .exact List.mem_append.2 (.inr (by rw [aU];exact List.mem_append.2 (.inr hk)))
 .
  rcases List.mem_append.1 hr with hr|hr
  .exact hp.okB r (List.mem_append.2 (.inl hr))
  .
   rw [List.mem_singleton.1 hr]
   intro k hk
   have hk:k∈blks (Bl++Br):=hk
   rw [aU] at hk
   rcases List.mem_append.1 hk with hk|hk
   .exact hp.upd.block k (hbl k hk).1 (hbl k hk).2
   .exact hp.okB (ag.held w (blks Br)) (List.mem_append.2 (.inr (List.mem_singleton.2 rfl))) k hk
 .
  rw [fQ,aU]
  refine List.nodup_append.2 ⟨p1,s2,fun a ha b hb e=>?_⟩
  subst e
  rcases List.mem_append.1 hb with hb|hb
  .exact hb1 a ha hb
  .exact p3 a ha a hb rfl
 .
  rw [fQ,aU] at hk
  rcases List.mem_append.1 hk with hk|hk
  .
   have h1:=hp.own k (by rw [fQ];exact List.mem_append.2 (.inl hk))
   refine ⟨h1.1,fun hlt=>?_⟩
   rcases List.mem_append.1 (h1.2 hlt) with h2|h2
   .exact List.mem_append.2 (.inl h2)
   .exact List.mem_append.2 (.inr (by rw [aU];exact List.mem_append.2 (.inr h2)))
  .
   rcases List.mem_append.1 hk with hk2|hk2
   .exact ⟨Nat.lt_of_lt_of_le (hbl k hk2).1 hp.upd.size,fun _=>List.mem_append.2 (.inr (by rw [aU];exact hk))⟩
   .exact ⟨(hp.own k (by rw [fQ];exact List.mem_append.2 (.inr hk2))).1,fun _=>List.mem_append.2 (.inr (by rw [aU];exact hk))⟩
end
section
variable {P:Program} {n:Nat} {we:World} {X:List Nat} {L:Fm} {B F:List ag} {d:Nat} {ty:TypeId} {pos:String} {ef:Array Edge} {g:Option (Nat×Bool)}
theorem s.EJ {β:Type}{f:FuncId}{c:Operand}{xs:Array Operand}{ts:Array TypeId}{vs:List Value}{cap:Array Value}{B0 Bl Br F0 Fl:List ag}(is js:List Nat)(G:β->Value)(B1:β->List ag)(hp:dc B is=some (B0++(Bl++Br)))(ha':iq is=true)(hl:JM Bl Fl)(hj:dc (Fl++F) js=some F0)
 (eg:∀args w,(callFunc f args).run P w = .ok (.enter f args) w) (hargs:evs L xs.toList=some vs) (hc:ev L c=some (.func (.func f) #[] cap))
 (hcall:∀w own,Wd we X B F w->Wd w (blks B0++own) (B0++[ag.held w own]) F0 w->Calls P f (vs++cap.toList).toArray w fun e w' => ∃z,e = .returned (G z)/\Wd w (blks B0++own) (B1 z++[ag.held w own]) [] w') (hd:Nat.blt d n=true) :
 Stp P n we X L B F ⟨some d,.call { callee:= .value c,args:=xs,argTypes:=ts },ty,pos,ef,g⟩ (fun z=>(d,G z)::L) (fun z=>B1 z++(Bl++Br)) (fun _=>F):=by
 intro K Q' a w ha hw hK
 have hw2:=hw.Mf is hp ha'
 have hw3:=hw2.Sq hl
 unfold Oper.wp
 rw [pP ha hargs hc eg,Oper.upon_enter]
 refine (hcall w (blks Br) hw (hw3.Ax hj)).mono fun e w' he=>?_
 obtain ⟨z,rfl,ht⟩:=he
 exact hK z _ _ (ha.put d _ hd) (hw2.after (hw2.wider ht))
end
end
section
open Go Go.RowKit
def u8 (n:Int):UInt8:=UInt8.ofNat n.toNat
theorem my {n:Int}(h:0<=n/\n<=255):(((u8 n).toNat:Nat):Int)=n:=by
 unfold u8;rw [UInt8.toNat_ofNat'];omega
theorem Ho {n:Nat}(h:n<=255):(UInt8.ofNat n).toNat=n:=by
 rw [UInt8.toNat_ofNat'];omega
theorem gC {n:Int}(h:0<=n/\n<=255):(Value.int .u8 n).cells.toList=Enc.cells (u8 n):=by
 show [Value.int .u8 n]=[Value.int .u8 (((u8 n).toNat:Nat):Int)]
 rw [my h]
theorem dJ {n:Nat}(h:n<=255):(Value.int .u8 ((n:Nat):Int)).cells.toList=Enc.cells (UInt8.ofNat n):=by
 show [Value.int .u8 (n:Int)]=[Value.int .u8 (((UInt8.ofNat n).toNat:Nat):Int)]
 rw [Ho h]
theorem aI (l:List UInt8):(⟨l.toArray⟩:ByteArray).size=l.length:=by simp [ByteArray.size]
section
variable {α:Type} [Enc α]
theorem fV:([]:List Value).map (fun v=>v.cells.toList)=([]:List α).map Enc.cells:=rfl
theorem cp {v:Value}{x:α}{vs:List Value}{l:List α}(h:v.cells.toList=Enc.cells x)(hs:vs.map (fun v=>v.cells.toList)=l.map Enc.cells) :
 (v::vs).map (fun v=>v.cells.toList)=(x::l).map Enc.cells:=by
 rw [List.map_cons,List.map_cons,h,hs]
end
end
end Go.Proofs.YtkbhcbipadkcaaaGreatDoor
section
namespace Go.Proofs
open Go.Shelf
def Tryz.lays106_ren:Go.Shelf.Ren:=⟨fun|106=>147|213=>184|265=>203|n=>n,fun|9=>9|3=>3|n=>n,fun|n=>n⟩
theorem Tryz.lays106:Go.Proofs.Lays.n106 Tryz.prog Tryz.lays106_ren:={
 mixed:=by kernel_rfl
 f106:=Tryz.func147.trans (congrArg some (by kernel_rfl))
 f213:=Tryz.func184.trans (congrArg some (by kernel_rfl))
 f265:=Tryz.func203.trans (congrArg some (by kernel_rfl))
 t3:=Tryz.underlying3
 a3:=Tryz.isAgg3
 z3:=Tryz.sizeOf3
 v3:=Tryz.zeroValue3
 t9:=Tryz.underlying9
 a9:=Tryz.isAgg9
 z9:=Tryz.sizeOf9
 v9:=Tryz.zeroValue9 }
def Tryz.lays212_ren:Go.Shelf.Ren:=⟨fun|212=>132|263=>177|264=>178|n=>n,fun|46=>188|51=>232|146=>233|53=>33|148=>235|n=>n,fun|n=>n⟩
theorem Tryz.lays212:Go.Proofs.Lays.n212 Tryz.prog Tryz.lays212_ren:={
 mixed:=by kernel_rfl
 f212:=Tryz.func132.trans (congrArg some (by kernel_rfl))
 f263:=Tryz.func177.trans (congrArg some (by kernel_rfl))
 f264:=Tryz.func178.trans (congrArg some (by kernel_rfl))
 t46:=Tryz.underlying188
 a46:=Tryz.isAgg188
 z46:=Tryz.sizeOf188
 v46:=Tryz.zeroValue188
 t51:=Tryz.underlying232
 a51:=Tryz.isAgg232
 z51:=Tryz.sizeOf232
 v51:=Tryz.zeroValue232
 t53:=Tryz.underlying33
 a53:=Tryz.isAgg33
 z53:=Tryz.sizeOf33
 v53:=Tryz.zeroValue33
 t146:=Tryz.underlying233
 a146:=Tryz.isAgg233
 z146:=Tryz.sizeOf233
 v146:=Tryz.zeroValue233
 t148:=Tryz.underlying235
 a148:=Tryz.isAgg235
 z148:=Tryz.sizeOf235
 v148:=Tryz.zeroValue235 }
open Go.RowKit in
theorem Tryz.strings_Compare (a b:ByteArray)(w:World) :
    Calls Tryz.prog 147 #[.string a,.string b] w fun e w'=>e = .returned (.int .i64 (Lib.compareBytes a.data.toList b.data.toList))/\w'=w:=Any.strings_Compare Tryz.lays106 a b w
open Go.RowKit Go.Lib in
theorem Tryz.bits_Mul (x y:Nat)(hx:x<18446744073709551616)(hy:y<18446744073709551616)(w:World) :
    Calls Tryz.prog 132 #[.int .u64 x,.int .u64 y] w fun e w'=>e = .returned (.tuple #[.int .u64 ((x*y / 18446744073709551616:Nat):Int),.int .u64 ((x*y % 18446744073709551616:Nat):Int)])/\w'=w:=Any.bits_Mul Tryz.lays212 x y hx hy w
end Go.Proofs
end
namespace Go.Proofs.YtkbhcbipadkcaaaGreatDoor
set_option linter.unusedVariables false
set_option linter.unusedSimpArgs false
set_option maxRecDepth 100000
set_option maxHeartbeats 90000000
section
open Go.RowKit
structure Turn where
  At:Int
  Data:ByteArray
  deriving DecidableEq
abbrev Turn.cs (x:Turn):List Value:=[.int .i64 x.At,.string x.Data]
abbrev Turn.val (x:Turn):Value:= .agg #[.int .i64 x.At,.string x.Data]
instance:Enc Turn:=⟨2,Turn.cs,fun _=>rfl,fun x u hu=>by simp [Turn.cs] at hu;rcases hu with rfl|rfl <;> rfl,by decide⟩
structure cx where
  Kept:List ByteArray
  Now:List ByteArray
  Wait:List Turn
  Fuse:Int
  Down:Bool
  deriving DecidableEq
def tW (n:Nat):ByteArray:=⟨(List.replicate n (0:UInt8)).toArray⟩
theorem wO (n:Nat):(tW n).size=n:=by unfold tW;simp [ByteArray.size]
def full (s:ByteArray):ByteArray:=s++tW (48-s.size)
theorem Hq {s:ByteArray}(h:s.size<=48):(full s).size=48:=by unfold full;rw [ByteArray.size_append,wO];omega
def dNew (n:Nat):cx:=⟨List.replicate n (tW 48),List.replicate n (tW 48),[],-1,false⟩
def bq (d:cx):cx×Int :=
  if d.Down=true then (d,10) else if d.Fuse=0 then (⟨d.Kept,d.Now,d.Wait,-1,true⟩,10) else (⟨d.Kept,d.Now,d.Wait,max (d.Fuse-1) (-1),d.Down⟩,0)
def bY (d:cx)(i:Int):ByteArray×Int :=
  if d.Down=true then (⟨#[]⟩,10) else if i<0∨(d.Now.length:Int)<=i then (⟨#[]⟩,1) else ((d.Now[i.toNat]?).getD ⟨#[]⟩,0)
def ap (d:cx)(i:Int)(s:ByteArray):cx×Int :=
  if i<0∨(d.Now.length:Int)<=i∨48<s.size then (d,1)
  else if (bq d).2=0 then (⟨(bq d).1.Kept,(bq d).1.Now.set i.toNat (full s),(bq d).1.Wait++[⟨i,full s⟩],(bq d).1.Fuse,(bq d).1.Down⟩,0) else bq d
def ai (d:cx):cx×Int :=
  if (bq d).2=0 then (⟨(bq d).1.Now,(bq d).1.Now,[],(bq d).1.Fuse,(bq d).1.Down⟩,0) else bq d
def Og (k:Int)(i:Nat):Bool:=decide (k / ((2 ^ (i % 64):Nat):Int) % 2=1)
def oI (k:Int)(l:List ByteArray)(p:Turn×Nat):List ByteArray:=if Og k p.2=true then l.set p.1.At.toNat p.1.Data else l
def mM (k:Int)(w:List Turn)(l:List ByteArray):List ByteArray:=w.zipIdx.foldl (oI k) l
def gD (d:cx)(k:Int):cx:=⟨mM k d.Wait d.Kept,mM k d.Wait d.Kept,[],-1,false⟩
structure fN (n m:Nat)(d:cx):Prop where
  kl:d.Kept.length=n
  nl:d.Now.length=n
  ks:∀s∈d.Kept,s.size=48
  ns:∀s∈d.Now,s.size=48
  wl:d.Wait.length<=m
  Gd:∀t∈d.Wait,0<=t.At/\t.At<(n:Int)/\t.Data.size=48
  f0 : -1<=d.Fuse
  f1:d.Fuse<=9223372036854775807
section
variable {n m:Nat} {d:cx}
theorem AR (n:Nat):fN n 0 (dNew n):=⟨by simp [dNew],by simp [dNew],fun s hs=>by
 rw [(List.mem_replicate.1 hs).2,wO],fun s hs=>by rw [(List.mem_replicate.1 hs).2,wO],Nat.le_refl _,fun t ht=>(by cases ht),(by show (-1:Int) <= -1;decide),(by show (-1:Int)<=9223372036854775807;decide)⟩
theorem fN.up (h:fN n m d){k:Nat}(hk:m<=k):fN n k d:=⟨h.kl,h.nl,h.ks,h.ns,Nat.le_trans h.wl hk,h.Gd,h.f0,h.f1⟩
theorem wP (h:d.Down=true):bq d=(⟨d.Kept,d.Now,d.Wait,d.Fuse,true⟩,10):=by unfold bq;rw [if_pos h];cases d;simp_all
theorem rX (h:d.Down=false)(f:d.Fuse=0):bq d=(⟨d.Kept,d.Now,d.Wait,-1,true⟩,10):=by unfold bq;rw [if_neg (by rw [h];decide),if_pos f]
theorem sZ (h:d.Down=false)(f:¬ d.Fuse=0):bq d=(⟨d.Kept,d.Now,d.Wait,max (d.Fuse-1) (-1),false⟩,0):=by unfold bq;rw [if_neg (by rw [h];decide),if_neg f,h]
theorem wQ {i:Int}(h:d.Down=true):bY d i=(⟨#[]⟩,10):=by unfold bY;rw [if_pos h]
theorem qK {i:Int}(h:d.Down=false)(hi:i<0∨(d.Now.length:Int)<=i):bY d i=(⟨#[]⟩,1):=by unfold bY;rw [if_neg (by rw [h];decide),if_pos hi]
theorem p6 {i:Int}{x:ByteArray}(h:d.Down=false)(hi:0<=i)(hx:d.Now[i.toNat]? = some x):bY d i=(x,0):=by
 have:=(List.getElem?_eq_some_iff.1 hx).1
 unfold bY;rw [if_neg (by rw [h];decide),if_neg (by omega),hx];rfl
theorem mA {i:Int}{x:ByteArray}(hi:i<0∨(d.Now.length:Int)<=i∨48<x.size):ap d i x=(d,1):=by unfold ap;rw [if_pos hi]
theorem wR {i:Int}{x:ByteArray}(h0:0<=i)(h1:i<(d.Now.length:Int))(h2:x.size<=48)(h:¬ (bq d).2=0):ap d i x=bq d:=by unfold ap;rw [if_neg (by omega),if_neg h]
theorem iH {i:Int}{x:ByteArray}(h0:0<=i)(h1:i<(d.Now.length:Int))(h2:x.size<=48)(h:(bq d).2=0) :
 ap d i x=(⟨(bq d).1.Kept,(bq d).1.Now.set i.toNat (full x),(bq d).1.Wait++[⟨i,full x⟩],(bq d).1.Fuse,(bq d).1.Down⟩,0):=by unfold ap;rw [if_neg (by omega),if_pos h]
theorem mZ (d:cx):(bq d).1.Kept=d.Kept/\(bq d).1.Now=d.Now/\(bq d).1.Wait=d.Wait:=by
 unfold bq;(repeat' split) <;> exact ⟨rfl,rfl,rfl⟩
theorem fN.step (h:fN n m d):fN n m (bq d).1:=by
 obtain ⟨e1,e2,e3⟩:=mZ d
 have f0:=h.f0;have f1:=h.f1
 refine ⟨by rw [e1];exact h.kl,by rw [e2];exact h.nl,by rw [e1];exact h.ks,by rw [e2];exact h.ns,by rw [e3];exact h.wl,by rw [e3];exact h.Gd,?_,?_⟩ <;>
  (unfold bq;(repeat' split) <;> (try dsimp only) <;> omega)
theorem Ge {l:List ByteArray}(h:∀s∈l,s.size=48){i:Nat}{x:ByteArray}(hx:x.size=48):∀s∈l.set i x,s.size=48:=fun s hs=>by
 rcases List.mem_or_eq_of_mem_set hs with h1|h1
 .exact h s h1
 .rw [h1];exact hx
theorem fN.write (h:fN n m d)(i:Int)(s:ByteArray):fN n (m+1) (ap d i s).1:=by
 unfold ap
 split
 .exact h.up (Nat.le_succ m)
 .
  rename_i hb
  split
  .
   have hs:=h.step
   have hf:=Hq (s:=s) (by omega)
   have e:=(mZ d).2.1
   have nl:=h.nl
   refine ⟨hs.kl,by dsimp only;rw [List.length_set];exact hs.nl,hs.ks,Ge hs.ns hf,by dsimp only;rw [List.length_append,List.length_singleton];have:=hs.wl;omega,fun t ht=>?_,hs.f0,hs.f1⟩
   rcases List.mem_append.1 ht with ht|ht
   .exact hs.Gd t ht
   .rw [List.mem_singleton.1 ht];exact ⟨by dsimp only;omega,by dsimp only;omega,hf⟩
  .exact h.step.up (Nat.le_succ m)
theorem fN.flush (h:fN n m d):fN n m (ai d).1:=by
 unfold ai
 have hs:=h.step
 split
 .exact ⟨hs.nl,hs.nl,hs.ns,hs.ns,Nat.zero_le _,fun t ht=>(by cases ht),hs.f0,hs.f1⟩
 .exact hs
theorem JN (k:Int):∀ (w:List Turn) (j:Nat) (l:List ByteArray),(∀s∈l,s.size=48)->(∀t∈w,t.Data.size=48)->(((w.zipIdx j).foldl (oI k) l).length=l.length /\ ∀s∈(w.zipIdx j).foldl (oI k) l,s.size=48)
 | [],j,l,h,hw=>⟨rfl,h⟩
 | t::w,j,l,h,hw=>by
  rw [List.zipIdx_cons,List.foldl_cons]
  have h1:(oI k l (t,j)).length=l.length:=by unfold oI;split <;> simp
  have h2:∀s∈oI k l (t,j),s.size=48:=by
   unfold oI;split
   .exact Ge h (hw t (List.mem_cons_self ..))
   .exact h
  obtain ⟨a,b⟩:=JN k w (j+1) _ h2 (fun t ht=>hw t (List.mem_cons_of_mem _ ht))
  exact ⟨a.trans h1,b⟩
theorem CB {k:Int}{w:List Turn}{l:List ByteArray}:(mM k w l).length=l.length:=by
 unfold mM
 generalize w.zipIdx=z
 induction z generalizing l with
 | nil=>rfl
 | cons p z ih=>rw [List.foldl_cons,ih];unfold oI;split <;> simp
theorem fN.restart (h:fN n m d)(k:Int):fN n 0 (gD d k):=by
 obtain ⟨a,b⟩:=JN k d.Wait 0 d.Kept h.ks (fun t ht=>(h.Gd t ht).2.2)
 exact ⟨a.trans h.kl,a.trans h.kl,b,b,Nat.le_refl _,fun t ht=>(by cases ht),(by show (-1:Int) <= -1;decide),(by show (-1:Int)<=9223372036854775807;decide)⟩
theorem fN.fine (h:fN n m d)(hn:n<=100000)(hm:m<=100000):d.Kept.length=d.Now.length/\d.Now.length<=100000/\d.Wait.length<=100000 /\ -1<=d.Fuse/\d.Fuse<=9223372036854775807:=by
 have h1:=h.kl;have h2:=h.nl;have h3:=h.wl;have h4:=h.f0;have h5:=h.f1
 refine ⟨?_,?_,?_,?_,?_⟩ <;> omega
theorem fN.rest (h:fN n m d)(hm:m<=100000):d.Kept.length=d.Now.length/\d.Wait.length<=100000/\(∀t∈d.Wait,0<=t.At/\t.At<(d.Kept.length:Int)):=by
 have h1:=h.kl;have h2:=h.nl;have h3:=h.wl
 refine ⟨by omega,by omega,fun t ht=>?_⟩
 have h4:=h.Gd t ht
 rw [h1];exact ⟨h4.1,h4.2.1⟩
theorem kP (hd:d.Down=false)(hf:d.Fuse = -1):bq d=(⟨d.Kept,d.Now,d.Wait,-1,false⟩,0):=by rw [sZ hd (by omega),hf];rfl
theorem CC {i:Int}{x:ByteArray}(hd:d.Down=false)(hf:d.Fuse = -1)(h:¬ (ap d i x).2=0):(ap d i x).1=d:=by
 by_cases hb:i<0∨(d.Now.length:Int)<=i∨48<x.size
 .rw [mA hb]
 .exfalso;apply h;rw [iH (by omega) (by omega) (by omega) (by rw [kP hd hf])]
theorem EK {i:Int}{x:ByteArray}(hd:d.Down=false)(hf:d.Fuse = -1)(h:(ap d i x).2=0):ap d i x=(⟨d.Kept,d.Now.set i.toNat (full x),d.Wait++[⟨i,full x⟩],-1,false⟩,0)/\0<=i/\i<(d.Now.length:Int)/\x.size<=48:=by
 by_cases hb:i<0∨(d.Now.length:Int)<=i∨48<x.size
 .rw [mA hb] at h;simp at h
 .
  refine ⟨?_,by omega,by omega,by omega⟩
  rw [iH (by omega) (by omega) (by omega) (by rw [kP hd hf]),kP hd hf]
theorem CF {i:Int}{x:ByteArray}(hd:d.Down=false)(hf:d.Fuse = -1):(ap d i x).1.Down=false/\(ap d i x).1.Fuse = -1:=by
 by_cases h:(ap d i x).2=0
 .rw [(EK hd hf h).1];exact ⟨rfl,rfl⟩
 .rw [CC hd hf h];exact ⟨hd,hf⟩
theorem lB (hd:d.Down=false)(hf:d.Fuse = -1):ai d=(⟨d.Now,d.Now,[],-1,false⟩,0):=by
 unfold ai;rw [kP hd hf,if_pos rfl]
theorem wS {i:Nat}{x:ByteArray}(hd:d.Down=false)(hx:d.Now[i]? = some x):bY d (i:Int)=(x,0):=p6 hd (by omega) (by rw [Int.toNat_natCast];exact hx)
end
end
section
open Go Go.RowKit
theorem vk (bP:Value)(l:List ByteArray)(w:World)(own:List Nat)(H:HN w own [] [ag.ls bP l])(hl:l.length<=1000000):RC Tryz.prog 68 #[bP] H (fun z:Value=>z) (fun z=>[ag.row 9 z l]) (fun _=>[]):=by
 have yF:=H.cq 0 rfl
 refine R.bD [(0,bP)] Tryz.func68 O O O O H<|R.reg O<|R.u 1 O<|R.nil<|R.reg O<|R.u 1 O<|?_
 rcases Bool.eq_false_or_eq_true (pD bP) with h1|h1
 .
  refine R.q (q.Hg (congrArg Value.bool h1) (q.po (dy 0 O) O O Tryz.underlying109)) O<|R.nil<|R.av O O<|R.reg O<|R.u 1 O<|R.nil<|R.row0 (α:=ByteArray) 9 ?_
  have hz:l=[]:=by (exact Sl.pD (H.bG 0 rfl) ‹_›)
  rw [hz]
  exact R.w1 (nS) [0,1] [] O Tryz.results68 (RV.tmp O) O O O O
 refine R.q (q.Hg (congrArg Value.bool h1) (q.po (dy 0 O) O O Tryz.underlying109)) O<|R.nil<|R.aB O O<|R.reg O<|R.s O (s.bs (l:=([]:List ByteArray)) gy F5 O O O O O O O) fun b1=>?_
 refine R.u 1 O<|R.s O (s.app 0 _ O O O (dy 0 O) Jh (by simp;omega) (by simp;omega) (fun _=>rfl) O) fun v1=>?_
 refine R.u 1 O<|R.nil ?_
 have hz:l=(([])++l):=by (rfl)
 rw [hz]
 exact R.w1 v1 [0,1] [] O Tryz.results68 (RV.tmp O) O O O O
theorem wT (sx:ByteArray)(w:World)(hs:sx.size<=48):Calls Tryz.prog 67 #[.string sx] w fun e w'=>e = .returned (.string (full sx))/\Ext w w':=by
 refine R.enter [] [(0,.string sx)] Tryz.func67 O O O O<|R.reg O<|R.u 1 O<|R.nil<|R.reg O<|R.u 2 O<|R.q (q.iA O Tryz.underlying9) O<|R.q (q.lV (r:=((48-sx.size:Nat):Int)) O O) O<|R.s O (s.T4 (m:=(48-sx.size)) aR O O O O O (by omega) O) fun b1=>?_
 exact R.q (q.kg (bC 0 O) O aR Tryz.underlying5 Tryz.underlying9) O<|R.q (q.cat O O (by rw [aI (List.replicate _ _),List.length_replicate];omega)) O<|R.u 1 O<|R.nil<|R.rv O Tryz.results67 O (rS (by rfl))
theorem CG (n:Nat)(w:World)(hn:n<=1000000):Calls Tryz.prog 132 #[.int .u64 ((1:Nat):Int),.int .u64 (n:Int)] w fun e w'=>e = .returned (.tuple #[.int .u64 0,.int .u64 (n:Int)])/\Ext w w' :=
 (Tryz.bits_Mul 1 n (by decide) (by omega) w).mono fun e w' ⟨h1,h2⟩=>⟨by
  rw [h1,Nat.one_mul,Nat.div_eq_of_lt (by omega),Nat.mod_eq_of_lt (by omega)];rfl,by rw [h2];exact Ext.refl _⟩
theorem CH (a n:Nat)(w:World)(hn:a=1/\n<=1000000):Calls Tryz.prog 132 #[.int .u64 (a:Int),.int .u64 (n:Int)] w fun e w'=>e = .returned (.tuple #[.int .u64 0,.int .u64 (n:Int)])/\Ext w w':=by
 obtain ⟨rfl,hn⟩:=hn;exact CG n w hn
theorem CJ {α:Type}{l x:List α}{a:α}{n k:Nat}(hx:x=List.replicate k a++l)(m:Nat)(hm:m<=k)(hl:k+m<=x.length):x.take k++(x.take k).take m++x.drop (k+m)=List.replicate (k+m) a++l.drop m:=by
 subst hx
 have h1:(List.replicate k a).length=k:=List.length_replicate
 rw [List.take_left' h1,List.take_replicate,Nat.min_eq_left hm,List.drop_append,h1,List.drop_of_length_le (by rw [h1];omega),List.nil_append,show k+m-k=m by omega,<- List.replicate_append_replicate]
theorem CK (bP:Value)(l:List ByteArray)(n:Nat)(w:World)(own:List Nat)(H:HN w own [] [ag.ls bP l])(hl:l.length=1)(hn:1<=n/\n<=1000):RC Tryz.prog 66 #[bP,iV (n:Int)] H (fun z:Value=>z) (fun z=>[ag.row 9 z ((List.replicate n (l.headD ⟨#[]⟩)):List ByteArray)]) (fun _=>[]):=by
 have yF:=H.cq 0 rfl
 refine R.bD [(0,bP),(1,iV (n:Int))] Tryz.func66 O O O O H<|R.reg O<|R.u 1 O<|R.nil<|R.reg O<|R.u 1 O<|R.q (q.cW O O) O<|R.nil<|R.aB O O<|R.reg O<|R.u 1 O<|R.q (q.len' (dy 0 O) O Tryz.underlying109) O<|R.q (q.nq (r:=((l.length:Nat):Int)) O (by rw [Tryz.underlying3];rfl) Tryz.underlying188 (Az (by omega))) O<|R.u 1 O<|R.q (q.nq (r:=((n:Nat):Int)) O (by rw [Tryz.underlying3];rfl) Tryz.underlying188 (Az (by omega))) O<|R.c (q.call Pm O O (fun w hw=>(CH l.length n w (by omega)))) O<|R.u 5 O<|R.nil ?_
 refine R.reg O<|R.u 1 O<|R.q (q.gtr (b:=false) O O (by decide)) O<|R.u 2 O<|R.qg O (q.eo O O) O<|R.u 1 O<|R.nil<|R.aB O O<|R.reg O<|R.u 1 O<|R.q (q.nq (r:=((n:Nat):Int)) O (by rw [Tryz.underlying188];rfl) Tryz.underlying3 (wr (by omega))) O<|R.s O (s.Sp (m:=n) (z0:=(⟨#[]⟩:ByteArray)) gy O O O (by decide) O O (by simp [Enc.k];omega) O) fun b1=>?_
 refine R.u 1 O<|R.nil<|R.reg O<|R.u 2 O<|R.s O (s.EH (o:=0) (m:=1) 0 _ O (dy 0 O) O (.inr ⟨rfl,rfl⟩) O gy (by omega) (by omega) (by (simp;omega)) (by omega) O O) fun _=>?_
 refine R.u 1 O<|R.nil<|R.loop (fun g_:Nat×Value×(List ByteArray)=>[(7,g_.2.1),(8,iV (g_.1:Int))]) (fun g_=>[ag.row 9 g_.2.1 g_.2.2,ag.held w own]) (fun g_=>[ag.ls bP l]) (fun g_=>1<=g_.1/\g_.1<=n/\g_.2.2=List.replicate g_.1 (l.headD ⟨#[]⟩)++List.replicate (n-g_.1) (⟨#[]⟩:ByteArray)) (fun g_=>n-g_.1) (1,(.slice (some ⟨b1,0,none⟩) n n),((List.replicate n (⟨#[]⟩:ByteArray)).take 0++l.take 1++(List.replicate n (⟨#[]⟩:ByteArray)).drop (0+1))) O (by refine ⟨by omega,by omega,?_⟩;match l,hl with | [a],_=>simp) (sF O) (ic [0,1] [0] O) ?_
 rintro ⟨k,u,rs⟩ ⟨hk0,hk,HR⟩
 dsimp only at *
 have hrl:rs.length=n:=by rw [HR];simp;omega
 refine R.reg O<|R.u 2 O<|R.q (q.len' (bC 0 O) O Tryz.underlying109) O<|?_
 by_cases h1:k<rs.length
 .
  refine R.q (q.dz O O) O<|R.nil<|R.av O O<|R.fP (fuel:=10) [1] O O mixed O<|D.q (i:=0) O (aD [1] [0] O) O (q.mv O) O<|D.q (i:=1) O (aD [1] [0] O) O (q.mv O) O<|D.q (i:=2) O (aD [1] [0] O) O (q.mv O) O<|D.q (i:=4) O (aD [1] [0] O) O (q.mv O) O<|D.q (i:=5) O (aD [1] [0] O) O (q.mv O) O<|D.two (i:=3) (j:=6) O O ?_ ?_
  .
   refine Do.s (s.c (Qt.a (q.dC (i:=k) (bC 0 O) O O gy O (by omega))) O) (fun _=>(aD [1] [0] O)) O fun _=>?_
   refine D.one (i:=6) O<|Do.s (s.c (Qt.a (q.kI (i:=k) (bC 0 O) O O Tryz.underlying109 Cy O (by omega))) O) (fun _=>(aD [1] [0] O)) O fun _=>?_
   refine D.one (i:=7) O<|Do.s (s.EH (o:=k) (m:=(min k (n-k))) 0 _ O (fun w hw=>Sl.to (hw.row 0 O) (by omega)) O (.inl O) O gy (by omega) (by (simp;omega)) (by omega) (by (simp;omega)) O O) (fun _=>(aD [1] [0] O)) O fun _=>?_
   refine D.q (i:=8) O (aD [1] [0] O) O (q.bB (r:=((k+(min k (n-k)):Nat):Int)) O O) O<|D.q (i:=9) O (aD [1] [0] O) O (q.as O) O<|D.done<|R.back (k+min k (n-k),u,(rs.take k++(rs.take k).take (min k (n-k))++rs.drop (k+(min k (n-k))))) O (by (refine ⟨by omega,by omega,?_⟩;rw [CJ (n:=n) HR (min k (n-k)) (by omega) (by omega),List.drop_replicate,show n-k-min k (n-k)=n-(k+min k (n-k)) by omega])) (by dsimp only;omega) (sF O) (aD [0,1] [0] O)
  refine Do.s (s.c (Qt.a (q.kI (i:=k) (bC 0 O) O O Tryz.underlying109 Cy O (by omega))) O) (fun _=>(aD [1] [0] O)) O fun _=>?_
  refine D.one (i:=3) O<|Do.s (s.c (Qt.a (q.dC (i:=k) (bC 0 O) O O gy O (by omega))) O) (fun _=>(aD [1] [0] O)) O fun _=>?_
  refine D.one (i:=7) O<|Do.s (s.EH (o:=k) (m:=(min k (n-k))) 0 _ O (fun w hw=>Sl.to (hw.row 0 O) (by omega)) O (.inl O) O gy (by omega) (by (simp;omega)) (by omega) (by (simp;omega)) O O) (fun _=>(aD [1] [0] O)) O fun _=>?_
  refine D.q (i:=8) O (aD [1] [0] O) O (q.bB (r:=((k+(min k (n-k)):Nat):Int)) O O) O<|D.q (i:=9) O (aD [1] [0] O) O (q.as O) O<|D.done<|R.back (k+min k (n-k),u,(rs.take k++(rs.take k).take (min k (n-k))++rs.drop (k+(min k (n-k))))) O (by (refine ⟨by omega,by omega,?_⟩;rw [CJ (n:=n) HR (min k (n-k)) (by omega) (by omega),List.drop_replicate,show n-k-min k (n-k)=n-(k+min k (n-k)) by omega])) (by dsimp only;omega) (sF O) (aD [0,1] [0] O)
 refine R.q (q.cW O O) O<|R.nil<|R.aB O O<|R.reg O<|R.u 2 O<|R.nil ?_
 have hz:List.replicate n (l.headD ⟨#[]⟩)=rs:=by (rw [HR,show k=n by omega];simp)
 rw [hz]
 exact R.w1 u [0,1] [] O Tryz.results66 (RV.tmp O) O O O O
theorem JO (n:Int)(w:World)(own:List Nat)(H:HN w own [] [])(hn:1<=n/\n<=200):RC Tryz.prog 30 #[iV n] H (fun z:Nat×Value×Value×Value => .tuple #[.pointer (some ⟨z.1,0,none⟩),.nilIface]) (fun z=>[ag.box z.1 [z.2.1,z.2.2.1,z.2.2.2,iV (dNew (Int.toNat n)).Fuse,.bool (dNew (Int.toNat n)).Down] 112,ag.row 9 z.2.1 (dNew (Int.toNat n)).Kept,ag.row 9 z.2.2.1 (dNew (Int.toNat n)).Now,ag.row 114 z.2.2.2 (dNew (Int.toNat n)).Wait]) (fun _=>[]):=by
 obtain ⟨nN,VA⟩:∃m:Nat,n=(m:Int):=⟨n.toNat,by omega⟩;subst VA
 refine R.bD [(0,iV (nN:Int))] Tryz.func30 O O O O H<|R.reg O<|R.u 2 O<|R.nil<|R.reg O<|R.u 1 O<|R.q (q.cW O O) O<|R.u 2 O<|R.qg O (q.eo O O) O<|R.u 1 O<|R.nil<|R.aB O O<|R.reg O<|R.c (q.call Jn O O (fun w hw=>(wT (⟨#[]⟩) w (by decide)))) O<|?_
 refine R.s O (s.bs (l:=([full (⟨#[]⟩)]:List ByteArray)) gy F5 O O O O O O O) fun b1=>?_
 refine R.u 1 O<|R.s O (s.EJ (Bl:=[ag.row 9 (.slice (some ⟨b1,0,none⟩) 1 1) ([full (⟨#[]⟩)]:List ByteArray)]) (Fl:=[ag.ls (.slice (some ⟨b1,0,none⟩) 1 1) ([full (⟨#[]⟩)]:List ByteArray)]) [0,1] [0] (fun kQ:Value=>kQ) (fun kQ:Value=>[ag.row 9 kQ ((List.replicate nN (([full (⟨#[]⟩)]).headD ⟨#[]⟩)):List ByteArray)]) O O (qJ wN) O Sd O O (fun w own hw H=>CK (.slice (some ⟨b1,0,none⟩) 1 1) ([full (⟨#[]⟩)]) nN w own H (by rfl) (by omega)) O) fun z1=>?_
 refine R.u 1 O<|R.nil<|R.reg O<|R.u 2 O<|R.s O (s.EJ (Bl:=[ag.row 9 z1 (List.replicate nN (([full (⟨#[]⟩)]).headD ⟨#[]⟩):List ByteArray)]) (Fl:=[ag.ls z1 (List.replicate nN (([full (⟨#[]⟩)]).headD ⟨#[]⟩):List ByteArray)]) [0,1,2] [0] (fun kQ:Value=>kQ) (fun kQ:Value=>[ag.row 9 kQ ((List.replicate nN (([full (⟨#[]⟩)]).headD ⟨#[]⟩)):List ByteArray)]) O O (qJ wN) O Se O O (fun w own hw H=>vk z1 (List.replicate nN (([full (⟨#[]⟩)]).headD ⟨#[]⟩)) w own H (by (simp;omega))) O) fun z2=>?_
 refine R.q (q.JL O6 O (fun w hw=>(sY (Sl.EI (hw.row 1 O)) (sY (Sl.EI (hw.row 0 O)) (sY O JK)))) O) O<|R.s O (s.box O O O) fun b2=>?_
 refine R.u 2 O<|R.nil<|R.row0 (α:=Turn) 114 ?_
 have hz:dNew (Int.toNat ((nN:Nat):Int))=(⟨List.replicate nN (([full (⟨#[]⟩)]).headD ⟨#[]⟩),(List.replicate nN (([full (⟨#[]⟩)]).headD ⟨#[]⟩)),[],-1,false⟩:cx):=by (rfl)
 rw [hz]
 exact R.w2 (b2,z1,z2,(nS)) [1,3,2,0,5] [] O Tryz.results30 (RV.tmp O) (RV.tmp O) O O O (dA O O)
theorem gE (aH:Nat)(ay aG az:Value)(dk:cx)(w:World)(wU:(ag.box aH [ay,aG,az,iV dk.Fuse,.bool dk.Down] 112).ok w)(jY:Sl w ay (dk.Kept:List ByteArray))(kR:Sl w aG (dk.Now:List ByteArray))(jZ:Sl w az (dk.Wait:List Turn)):Calls Tryz.prog 83 #[.pointer (some ⟨aH,0,none⟩)] w fun e w'=>e = .returned (iV (dk.Now.length:Int))/\Ext w w':=by
 exact R.enter [] [(0,.pointer (some ⟨aH,0,none⟩))] Tryz.func83 rfl rfl rfl rfl<|R.pC jY<|R.pC kR<|R.pC jZ<|R.nK (r:=ag.box aH [ay,aG,az,iV dk.Fuse,.bool dk.Down] 112) wU (jQ wU)<|R.reg rfl<|R.u 1 rfl<|R.nil<|R.reg rfl<|R.u 1 rfl<|R.q (q.cb rfl) rfl<|R.q (q.aO rfl iX rfl) rfl<|R.q (q.yC 0 rfl rfl gA rfl) rfl<|R.q (q.len' (fun _=>Wd.bG 2 rfl) rfl Tryz.underlying109) rfl<|R.u 1 rfl<|R.nil<|R.rv rfl Tryz.results83 rfl (rI (by rfl))
theorem zt (aH:Nat)(ay aG az:Value)(dk:cx)(w:World)(wU:(ag.box aH [ay,aG,az,iV dk.Fuse,.bool dk.Down] 112).ok w)(jY:Sl w ay (dk.Kept:List ByteArray))(kR:Sl w aG (dk.Now:List ByteArray))(jZ:Sl w az (dk.Wait:List Turn)):Calls Tryz.prog 84 #[.pointer (some ⟨aH,0,none⟩)] w fun e w'=>e = .returned (.bool dk.Down)/\Ext w w':=by
 exact R.enter [] [(0,.pointer (some ⟨aH,0,none⟩))] Tryz.func84 rfl rfl rfl rfl<|R.pC jY<|R.pC kR<|R.pC jZ<|R.nK (r:=ag.box aH [ay,aG,az,iV dk.Fuse,.bool dk.Down] 112) wU (jQ wU)<|R.reg rfl<|R.u 1 rfl<|R.nil<|R.reg rfl<|R.u 1 rfl<|R.q (q.cb rfl) rfl<|R.q (q.aO rfl jR rfl) rfl<|R.q (q.yC 0 rfl rfl iW rfl) rfl<|R.u 1 rfl<|R.nil<|R.rv rfl Tryz.results84 rfl (rB (by rfl))
theorem tX (aH:Nat)(ay aG az:Value)(dk:cx)(i:Int)(w:World)(wU:(ag.box aH [ay,aG,az,iV dk.Fuse,.bool dk.Down] 112).ok w)(jY:Sl w ay (dk.Kept:List ByteArray))(kR:Sl w aG (dk.Now:List ByteArray))(jZ:Sl w az (dk.Wait:List Turn)):Calls Tryz.prog 85 #[.pointer (some ⟨aH,0,none⟩),iV i] w fun e w'=>e = .returned (.tuple #[.string (bY dk i).1,da (bY dk i).2])/\Ext w w':=by
 refine R.enter [] [(0,.pointer (some ⟨aH,0,none⟩)),(1,iV i)] Tryz.func85 O O O O<|R.pC jY<|R.pC kR<|R.pC jZ<|R.nK (r:=ag.box aH [ay,aG,az,iV dk.Fuse,.bool dk.Down] 112) wU (jQ wU)<|R.reg O<|R.u 2 O<|R.nil<|R.reg O<|R.u 1 O<|R.q (q.cb O) O<|R.q (q.aO O jR O) O<|R.q (q.yC 0 O O iW O) O<|R.nil<|R.cond O O (fun h1=>?_) (fun h1=>?_)
 .
  exact R.reg O<|R.q (q.iface O bm) O<|R.u 2 O<|R.nil<|R.FX O Tryz.results85 O O (rS (by (rw [wQ ‹_›];done))) (dr (by decide) (by (rw [wQ ‹_›];done)))
 refine R.reg O<|R.u 1 O<|?_
 by_cases h2:i<0
 .
  exact R.q (q.dz O O) O<|R.u 9 O<|R.nil<|R.av O O<|R.reg O<|R.q (q.iface O bm) O<|R.u 2 O<|R.nil<|R.FX O Tryz.results85 O O (rS (by (rw [qK ‹_› (by omega)];done))) (dr (by decide) (by (rw [qK ‹_› (by omega)];done)))
 refine R.q (q.cW O O) O<|R.u 3 O<|R.qg O (q.cb O) O<|R.qg O (q.aO O iX O) O<|R.qg O (q.yC 0 O O gA O) O<|R.qg O (q.len' (dy 2 O) O Tryz.underlying109) O<|?_
 by_cases h3:i<(dk.Now.length:Int)
 .
  refine R.qg O (q.I0 O O) O<|R.u 1 O<|R.nil<|R.aB O O<|R.reg O<|R.u 1 O<|R.q (q.cb O) O<|R.q (q.aO O iX O) O<|R.q (q.yC 0 O O gA O) O<|R.u 1 O<|?_
  obtain ⟨x1,hx1⟩:∃z,dk.Now[i.toNat]? = some z:=⟨_,List.getElem?_eq_getElem (by omega)⟩
  exact R.q (q.idx (i:=i.toNat) (dy 2 O) O O gy (by omega) hx1) O<|R.q (q.lw (dy 2 O) hx1 O bF O) O<|R.u 2 O<|R.nil<|R.FX O Tryz.results85 O O (rS (by (rw [p6 ‹_› (by omega) hx1];done))) (iK (by (rw [p6 ‹_› (by omega) hx1];done)))
 exact R.qg O (q.Hb O O) O<|R.u 1 O<|R.nil<|R.av O O<|R.reg O<|R.q (q.iface O bm) O<|R.u 2 O<|R.nil<|R.FX O Tryz.results85 O O (rS (by (rw [qK ‹_› (by omega)];done))) (dr (by decide) (by (rw [qK ‹_› (by omega)];done)))
theorem zu (aH:Nat)(ay aG az:Value)(dk:cx)(w:World)(own:List Nat)(H:HN w own [ag.box aH [ay,aG,az,iV dk.Fuse,.bool dk.Down] 112,ag.row 9 ay dk.Kept,ag.row 9 aG dk.Now,ag.row 114 az dk.Wait] [])(hf : -1<=dk.Fuse/\dk.Fuse<=9223372036854775807):RC Tryz.prog 139 #[.pointer (some ⟨aH,0,none⟩)] H (fun _:Value×Value×Value=>da (bq dk).2) (fun z=>[ag.box aH [z.1,z.2.1,z.2.2,iV (bq dk).1.Fuse,.bool (bq dk).1.Down] 112,ag.row 9 z.1 (bq dk).1.Kept,ag.row 9 z.2.1 (bq dk).1.Now,ag.row 114 z.2.2 (bq dk).1.Wait]) (fun _=>[]):=by
 have eE:=H.cap 1 rfl;have eF:=H.cO 1 rfl
 have fD:=H.cap 2 rfl;have fE:=H.cO 2 rfl
 have eG:=H.cap 3 rfl;have eH:=H.cO 3 rfl
 refine R.bD [(0,.pointer (some ⟨aH,0,none⟩))] Tryz.func139 O O O O H<|R.reg O<|R.u 1 O<|R.nil<|R.reg O<|R.u 1 O<|R.q (q.cb O) O<|R.q (q.aO O jR O) O<|R.q (q.ld 0 O O iW O) O<|R.q (q.not O) O<|R.u 1 O<|?_
 rcases Bool.eq_false_or_eq_true dk.Down with h1|h1
 .
  rw [h1]
  refine R.u 6 O<|R.nil<|R.aB O O<|R.reg O<|R.u 1 O<|R.q (q.cb O) O<|R.q (q.aO O jR O) O<|R.q (q.ld 0 O O iW O) O<|R.nil<|R.av O O<|R.reg O<|R.q (q.iface O bm) O<|R.u 1 O<|R.nil ?_
  have hz:bq dk=((⟨dk.Kept,dk.Now,dk.Wait,dk.Fuse,true⟩:cx),10):=by (exact wP ‹_›)
  rw [hz]
  exact R.w1 (ay,aG,az) gX [] O Tryz.results139 (RV.tmp O) O O O (dr (by decide) O)
 rw [h1]
 refine R.u 1 O<|R.qg O (q.cb O) O<|R.qg O (q.aO O oC O) O<|R.qg O (q.ld 0 O O au O) O<|?_
 by_cases h2:dk.Fuse=0
 .
  refine R.qg O (q.fI O O) O<|R.u 1 O<|R.nil<|R.av O O<|R.reg O<|R.u 2 O<|R.q (q.cb O) O<|R.q (q.aO O jR O) O<|R.s O (s.st 0 _ O O O O (.inr ⟨iW,rfl⟩) O O O O) fun _=>?_
  refine R.q (q.cb O) O<|R.q (q.aO O oC O) O<|R.s O (s.st 0 _ O O O O (.inr ⟨au,rfl⟩) O O O O) fun _=>?_
  refine R.nil<|R.reg O<|R.u 1 O<|R.q (q.cb O) O<|R.q (q.aO O jR O) O<|R.q (q.ld 0 O O iW O) O<|R.nil<|R.av O O<|R.reg O<|R.q (q.iface O bm) O<|R.u 1 O<|R.nil ?_
  have hz:bq dk=((⟨dk.Kept,dk.Now,dk.Wait,-1,true⟩:cx),10):=by (exact rX ‹_› ‹_›)
  rw [hz]
  exact R.w1 (ay,aG,az) gX [] O Tryz.results139 (RV.tmp O) O O O (dr (by decide) O)
 refine R.qg O (q.e9 O O) O<|R.u 1 O<|R.nil<|R.aB O O<|R.reg O<|R.u 1 O<|R.q (q.cb O) O<|R.q (q.aO O jR O) O<|R.q (q.ld 0 O O iW O) O<|R.nil<|R.aB O O<|R.reg O<|R.u 2 O<|R.q (q.cb O) O<|R.q (q.aO O oC O) O<|R.q (q.ld 0 O O au O) O<|R.q (q.lV (r:=dk.Fuse-1) O O) O<|R.q (q.max (r:=max (dk.Fuse-1) (-1)) O O O) O<|R.q (q.cb O) O<|R.q (q.aO O oC O) O<|R.s O (s.st 0 _ O O O O (.inr ⟨au,rfl⟩) O O O O) fun _=>?_
 refine R.nil<|R.reg O<|R.u 1 O<|R.nil ?_
 have hz:bq dk=((⟨dk.Kept,dk.Now,dk.Wait,(max (dk.Fuse-1) (-1)),false⟩:cx),0):=by (exact sZ ‹_› ‹_›)
 rw [hz]
 exact R.w1 (ay,aG,az) gX [] O Tryz.results139 (RV.tmp O) O O O (iK O)
theorem jd (aH:Nat)(ay aG az:Value)(dk:cx)(i:Int)(sx:ByteArray)(w:World)(own:List Nat)(H:HN w own [ag.box aH [ay,aG,az,iV dk.Fuse,.bool dk.Down] 112,ag.row 9 ay dk.Kept,ag.row 9 aG dk.Now,ag.row 114 az dk.Wait] [])(hd:dk.Kept.length=dk.Now.length/\dk.Now.length<=100000/\dk.Wait.length<=100000 /\ -1<=dk.Fuse/\dk.Fuse<=9223372036854775807):RC Tryz.prog 79 #[.pointer (some ⟨aH,0,none⟩),iV i,.string sx] H (fun _:Value×Value×Value=>da (ap dk i sx).2) (fun z=>[ag.box aH [z.1,z.2.1,z.2.2,iV (ap dk i sx).1.Fuse,.bool (ap dk i sx).1.Down] 112,ag.row 9 z.1 (ap dk i sx).1.Kept,ag.row 9 z.2.1 (ap dk i sx).1.Now,ag.row 114 z.2.2 (ap dk i sx).1.Wait]) (fun _=>[]):=by
 have eE:=H.cap 1 rfl;have eF:=H.cO 1 rfl
 have fD:=H.cap 2 rfl;have fE:=H.cO 2 rfl
 have eG:=H.cap 3 rfl;have eH:=H.cO 3 rfl
 have hsl:=mZ dk;have hs1:=congrArg List.length hsl.1;have hs2:=congrArg List.length hsl.2.1;have hs3:=congrArg List.length hsl.2.2
 refine R.bD [(0,.pointer (some ⟨aH,0,none⟩)),(1,iV i),(2,.string sx)] Tryz.func79 O O O O H<|R.reg O<|R.u 1 O<|R.nil<|R.reg O<|R.u 1 O<|?_
 by_cases h1:i<0
 .
  refine R.q (q.dz O O) O<|R.u 14 O<|R.nil<|R.av O O<|R.reg O<|R.q (q.iface O bm) O<|R.u 1 O<|R.nil ?_
  have hz:ap dk i sx=(dk,1):=by (exact mA (by omega))
  rw [hz]
  exact R.w1 (ay,aG,az) gX [] O Tryz.results79 (RV.tmp O) O O O (dr (by decide) O)
 refine R.q (q.cW O O) O<|R.u 3 O<|R.qg O (q.cb O) O<|R.qg O (q.aO O iX O) O<|R.qg O (q.ld 0 O O gA O) O<|R.qg O (q.len' (bC 2 O) O Tryz.underlying109) O<|?_
 by_cases h2:i<(dk.Now.length:Int)
 .
  refine R.qg O (q.I0 O O) O<|R.u 3 O<|R.qg O (q.iA O Tryz.underlying9) O<|?_
  by_cases h3:48<sx.size
  .
   refine R.qg O (q.eL O O) O<|R.u 1 O<|R.nil<|R.av O O<|R.reg O<|R.q (q.iface O bm) O<|R.u 1 O<|R.nil ?_
   have hz:ap dk i sx=(dk,1):=by (exact mA (by omega))
   rw [hz]
   exact R.w1 (ay,aG,az) gX [] O Tryz.results79 (RV.tmp O) O O O (dr (by decide) O)
  refine R.qg O (q.eo O O) O<|R.u 1 O<|R.nil<|R.aB O O<|R.reg O<|R.u 1 O<|R.s O (s.aW gX [] _ _ _ O O O Jv O O (fun w own hw H=>zu aH ay aG az dk w own H (by omega)) O) ?_
  rintro ⟨z1,z2,z3⟩
  dsimp only
  refine R.u 1 O<|R.nil<|R.reg O<|R.u 1 O<|?_
  by_cases h4:(bq dk).2=0
  .
   refine R.q (q.lx O O Tryz.underlying38) O<|R.nil<|R.av O O ?_
   obtain ⟨x1,hx1⟩:∃z,((bq dk).1.Now)[i.toNat]? = some z:=⟨_,List.getElem?_eq_getElem (by omega)⟩
   refine R.fP (fuel:=9) [1,3,4] O O mixed O<|D.q (i:=0) O (aD [1,3,4] [] O) O (q.mv O) O<|D.q (i:=1) O (aD [1,3,4] [] O) O (q.cb O) O<|D.q (i:=2) O (aD [1,3,4] [] O) O (q.aO O iX O) O<|D.q (i:=4) O (aD [1,3,4] [] O) O (q.mv O) O<|D.q (i:=5) O (aD [1,3,4] [] O) O (q.mv O) O<|D.two (i:=3) (j:=6) O O ?_ ?_
   .
    refine Do.s (s.c (Qt.a (q.ld 0 O O gA O)) O) (fun _=>(aD [1,3,4] [] O)) O fun _=>?_
    refine D.one (i:=6) O<|Do.s (s.c (q.call Jn O O (fun w hw=>(wT sx w (by omega)))) O) (fun _=>(aD [1,3,4] [] O)) O fun _=>?_
    refine D.one (i:=7) O<|Do.s (s.c (Qt.a (q.idx (i:=i.toNat) (bC 2 O) O O gy (by omega) hx1)) O) (fun _=>(aD [1,3,4] [] O)) O fun _=>?_
    refine D.one (i:=8) O<|Do.s (s.Rc (z:=full sx) 2 _ O hx1 O O O O (.inr ⟨bF,rfl⟩) O) (fun _=>(aD [1,3,4] [] O)) O fun _=>?_
    refine D.done<|?_
    obtain ⟨x2,hx2⟩:∃z,((bq dk).1.Now.set i.toNat (full sx))[i.toNat]? = some z:=⟨_,List.getElem?_eq_getElem (by (simp;omega))⟩
    refine R.fP (fuel:=19) [1,2,4] O O mixed O<|D.q (i:=0) O (aD [1,2,4] [] O) O (q.mv O) O<|D.q (i:=1) O (aD [1,2,4] [] O) O (q.mv O) O<|D.q (i:=2) O (aD [1,2,4] [] O) O (q.cb O) O<|D.q (i:=3) O (aD [1,2,4] [] O) O (q.aO O gM O) O<|D.q (i:=5) O (aD [1,2,4] [] O) O (q.mv O) O<|D.q (i:=6) O (aD [1,2,4] [] O) O (q.mv O) O<|D.q (i:=7) O (aD [1,2,4] [] O) O (q.cb O) O<|D.q (i:=8) O (aD [1,2,4] [] O) O (q.aO O iX O) O<|D.q (i:=10) O (aD [1,2,4] [] O) O (q.mv O) O<|D.two (i:=4) (j:=9) O O ?_ ?_
    .
     refine Do.s (s.c (Qt.a (q.ld 0 O O gB O)) O) (fun _=>(aD [1,2,4] [] O)) O fun _=>?_
     refine D.one (i:=9) O<|Do.s (s.c (Qt.a (q.ld 0 O O gA O)) O) (fun _=>(aD [1,2,4] [] O)) O fun _=>?_
     refine D.q (i:=11) O (aD [1,2,4] [] O) O (q.idx (i:=i.toNat) (bC 1 O) O O gy (by omega) hx2) O<|D.q (i:=12) O (aD [1,2,4] [] O) O (q.lw (bC 1 O) hx2 O bF O) O<|D.q (i:=13) O (aD [1,2,4] [] O) O (q.build AE O O) O<|D.one (i:=14) O<|Do.s (s.bs (l:=([(⟨i,x2⟩:Turn)]:List Turn)) qH ma O O O O O O O) (fun _=>(aD [2,3,5] [] O)) O fun b1=>?_
     refine D.one (i:=15) O<|Do.s (s.app 4 _ O O O (bC 0 O) nP (by (simp;omega)) (by (simp;omega)) (fun _=>rfl) O) (fun _=>(aD [2,3,5] [] O)) O fun v1=>?_
     refine D.q (i:=16) O (aD [2,3,5] [] O) O (q.cb O) O<|D.q (i:=17) O (aD [2,3,5] [] O) O (q.aO O gM O) O<|D.one (i:=18) O<|Do.s (s.fS 1 _ O O O (fun w hw=>Sl.cm (hw.row 4 O)) (.inr ⟨gB,rfl⟩) (fun w hw=>(af (Sl.one (hw.row 4 O)) aP)) O O O) (fun _=>(aD [2,3,5] [] O)) O fun _=>?_
     refine D.done<|R.reg O<|R.u 2 O<|R.nil ?_
     have hz:ap dk i sx=((⟨((bq dk).1).Kept,((bq dk).1.Now.set i.toNat (full sx)),(((bq dk).1.Wait)++([(⟨i,x2⟩:Turn)])),(bq dk).1.Fuse,(bq dk).1.Down⟩:cx),(bq dk).2):=by (rw [iH (by omega) (by omega) (by omega) ‹_›];simp_all;done)
     rw [hz]
     exact R.w1 (z1,z2,v1) uC [] O Tryz.results79 (RV.tmp O) O O O O
    refine Do.s (s.c (Qt.a (q.ld 0 O O gA O)) O) (fun _=>(aD [1,2,4] [] O)) O fun _=>?_
    refine D.q (i:=11) O (aD [1,2,4] [] O) O (q.idx (i:=i.toNat) (bC 1 O) O O gy (by omega) hx2) O<|D.q (i:=12) O (aD [1,2,4] [] O) O (q.lw (bC 1 O) hx2 O bF O) O<|D.q (i:=13) O (aD [1,2,4] [] O) O (q.build AE O O) O<|D.two (i:=4) (j:=14) O O ?_ ?_
    .
     refine Do.s (s.c (Qt.a (q.ld 0 O O gB O)) O) (fun _=>(aD [1,2,4] [] O)) O fun _=>?_
     refine D.one (i:=14) O<|Do.s (s.bs (l:=([(⟨i,x2⟩:Turn)]:List Turn)) qH ma O O O O O O O) (fun _=>(aD [2,3,5] [] O)) O fun b2=>?_
     refine D.one (i:=15) O<|Do.s (s.app 4 _ O O O (bC 0 O) nP (by (simp;omega)) (by (simp;omega)) (fun _=>rfl) O) (fun _=>(aD [2,3,5] [] O)) O fun v2=>?_
     refine D.q (i:=16) O (aD [2,3,5] [] O) O (q.cb O) O<|D.q (i:=17) O (aD [2,3,5] [] O) O (q.aO O gM O) O<|D.one (i:=18) O<|Do.s (s.fS 1 _ O O O (fun w hw=>Sl.cm (hw.row 4 O)) (.inr ⟨gB,rfl⟩) (fun w hw=>(af (Sl.one (hw.row 4 O)) aP)) O O O) (fun _=>(aD [2,3,5] [] O)) O fun _=>?_
     refine D.done<|R.reg O<|R.u 2 O<|R.nil ?_
     have hz:ap dk i sx=((⟨((bq dk).1).Kept,((bq dk).1.Now.set i.toNat (full sx)),(((bq dk).1.Wait)++([(⟨i,x2⟩:Turn)])),(bq dk).1.Fuse,(bq dk).1.Down⟩:cx),(bq dk).2):=by (rw [iH (by omega) (by omega) (by omega) ‹_›];simp_all;done)
     rw [hz]
     exact R.w1 (z1,z2,v2) uC [] O Tryz.results79 (RV.tmp O) O O O O
    refine Do.s (s.bs (l:=([(⟨i,x2⟩:Turn)]:List Turn)) qH ma O O O O O O O) (fun _=>(aD [2,3,5] [] O)) O fun b3=>?_
    refine D.one (i:=4) O<|Do.s (s.c (Qt.a (q.ld 1 O O gB O)) O) (fun _=>(aD [2,3,5] [] O)) O fun _=>?_
    refine D.one (i:=15) O<|Do.s (s.app 4 _ O O O (bC 0 O) nP (by (simp;omega)) (by (simp;omega)) (fun _=>rfl) O) (fun _=>(aD [2,3,5] [] O)) O fun v3=>?_
    refine D.q (i:=16) O (aD [2,3,5] [] O) O (q.cb O) O<|D.q (i:=17) O (aD [2,3,5] [] O) O (q.aO O gM O) O<|D.one (i:=18) O<|Do.s (s.fS 1 _ O O O (fun w hw=>Sl.cm (hw.row 4 O)) (.inr ⟨gB,rfl⟩) (fun w hw=>(af (Sl.one (hw.row 4 O)) aP)) O O O) (fun _=>(aD [2,3,5] [] O)) O fun _=>?_
    refine D.done<|R.reg O<|R.u 2 O<|R.nil ?_
    have hz:ap dk i sx=((⟨((bq dk).1).Kept,((bq dk).1.Now.set i.toNat (full sx)),(((bq dk).1.Wait)++([(⟨i,x2⟩:Turn)])),(bq dk).1.Fuse,(bq dk).1.Down⟩:cx),(bq dk).2):=by (rw [iH (by omega) (by omega) (by omega) ‹_›];simp_all;done)
    rw [hz]
    exact R.w1 (z1,z2,v3) uC [] O Tryz.results79 (RV.tmp O) O O O O
   refine Do.s (s.c (q.call Jn O O (fun w hw=>(wT sx w (by omega)))) O) (fun _=>(aD [1,3,4] [] O)) O fun _=>?_
   refine D.one (i:=3) O<|Do.s (s.c (Qt.a (q.ld 0 O O gA O)) O) (fun _=>(aD [1,3,4] [] O)) O fun _=>?_
   refine D.one (i:=7) O<|Do.s (s.c (Qt.a (q.idx (i:=i.toNat) (bC 2 O) O O gy (by omega) hx1)) O) (fun _=>(aD [1,3,4] [] O)) O fun _=>?_
   refine D.one (i:=8) O<|Do.s (s.Rc (z:=full sx) 2 _ O hx1 O O O O (.inr ⟨bF,rfl⟩) O) (fun _=>(aD [1,3,4] [] O)) O fun _=>?_
   refine D.done<|?_
   obtain ⟨x3,hx3⟩:∃z,((bq dk).1.Now.set i.toNat (full sx))[i.toNat]? = some z:=⟨_,List.getElem?_eq_getElem (by (simp;omega))⟩
   refine R.fP (fuel:=19) [1,2,4] O O mixed O<|D.q (i:=0) O (aD [1,2,4] [] O) O (q.mv O) O<|D.q (i:=1) O (aD [1,2,4] [] O) O (q.mv O) O<|D.q (i:=2) O (aD [1,2,4] [] O) O (q.cb O) O<|D.q (i:=3) O (aD [1,2,4] [] O) O (q.aO O gM O) O<|D.q (i:=5) O (aD [1,2,4] [] O) O (q.mv O) O<|D.q (i:=6) O (aD [1,2,4] [] O) O (q.mv O) O<|D.q (i:=7) O (aD [1,2,4] [] O) O (q.cb O) O<|D.q (i:=8) O (aD [1,2,4] [] O) O (q.aO O iX O) O<|D.q (i:=10) O (aD [1,2,4] [] O) O (q.mv O) O<|D.two (i:=4) (j:=9) O O ?_ ?_
   .
    refine Do.s (s.c (Qt.a (q.ld 0 O O gB O)) O) (fun _=>(aD [1,2,4] [] O)) O fun _=>?_
    refine D.one (i:=9) O<|Do.s (s.c (Qt.a (q.ld 0 O O gA O)) O) (fun _=>(aD [1,2,4] [] O)) O fun _=>?_
    refine D.q (i:=11) O (aD [1,2,4] [] O) O (q.idx (i:=i.toNat) (bC 1 O) O O gy (by omega) hx3) O<|D.q (i:=12) O (aD [1,2,4] [] O) O (q.lw (bC 1 O) hx3 O bF O) O<|D.q (i:=13) O (aD [1,2,4] [] O) O (q.build AE O O) O<|D.one (i:=14) O<|Do.s (s.bs (l:=([(⟨i,x3⟩:Turn)]:List Turn)) qH ma O O O O O O O) (fun _=>(aD [2,3,5] [] O)) O fun b4=>?_
    refine D.one (i:=15) O<|Do.s (s.app 4 _ O O O (bC 0 O) nP (by (simp;omega)) (by (simp;omega)) (fun _=>rfl) O) (fun _=>(aD [2,3,5] [] O)) O fun v4=>?_
    refine D.q (i:=16) O (aD [2,3,5] [] O) O (q.cb O) O<|D.q (i:=17) O (aD [2,3,5] [] O) O (q.aO O gM O) O<|D.one (i:=18) O<|Do.s (s.fS 1 _ O O O (fun w hw=>Sl.cm (hw.row 4 O)) (.inr ⟨gB,rfl⟩) (fun w hw=>(af (Sl.one (hw.row 4 O)) aP)) O O O) (fun _=>(aD [2,3,5] [] O)) O fun _=>?_
    refine D.done<|R.reg O<|R.u 2 O<|R.nil ?_
    have hz:ap dk i sx=((⟨((bq dk).1).Kept,((bq dk).1.Now.set i.toNat (full sx)),(((bq dk).1.Wait)++([(⟨i,x3⟩:Turn)])),(bq dk).1.Fuse,(bq dk).1.Down⟩:cx),(bq dk).2):=by (rw [iH (by omega) (by omega) (by omega) ‹_›];simp_all;done)
    rw [hz]
    exact R.w1 (z1,z2,v4) uC [] O Tryz.results79 (RV.tmp O) O O O O
   refine Do.s (s.c (Qt.a (q.ld 0 O O gA O)) O) (fun _=>(aD [1,2,4] [] O)) O fun _=>?_
   refine D.q (i:=11) O (aD [1,2,4] [] O) O (q.idx (i:=i.toNat) (bC 1 O) O O gy (by omega) hx3) O<|D.q (i:=12) O (aD [1,2,4] [] O) O (q.lw (bC 1 O) hx3 O bF O) O<|D.q (i:=13) O (aD [1,2,4] [] O) O (q.build AE O O) O<|D.two (i:=4) (j:=14) O O ?_ ?_
   .
    refine Do.s (s.c (Qt.a (q.ld 0 O O gB O)) O) (fun _=>(aD [1,2,4] [] O)) O fun _=>?_
    refine D.one (i:=14) O<|Do.s (s.bs (l:=([(⟨i,x3⟩:Turn)]:List Turn)) qH ma O O O O O O O) (fun _=>(aD [2,3,5] [] O)) O fun b5=>?_
    refine D.one (i:=15) O<|Do.s (s.app 4 _ O O O (bC 0 O) nP (by (simp;omega)) (by (simp;omega)) (fun _=>rfl) O) (fun _=>(aD [2,3,5] [] O)) O fun v5=>?_
    refine D.q (i:=16) O (aD [2,3,5] [] O) O (q.cb O) O<|D.q (i:=17) O (aD [2,3,5] [] O) O (q.aO O gM O) O<|D.one (i:=18) O<|Do.s (s.fS 1 _ O O O (fun w hw=>Sl.cm (hw.row 4 O)) (.inr ⟨gB,rfl⟩) (fun w hw=>(af (Sl.one (hw.row 4 O)) aP)) O O O) (fun _=>(aD [2,3,5] [] O)) O fun _=>?_
    refine D.done<|R.reg O<|R.u 2 O<|R.nil ?_
    have hz:ap dk i sx=((⟨((bq dk).1).Kept,((bq dk).1.Now.set i.toNat (full sx)),(((bq dk).1.Wait)++([(⟨i,x3⟩:Turn)])),(bq dk).1.Fuse,(bq dk).1.Down⟩:cx),(bq dk).2):=by (rw [iH (by omega) (by omega) (by omega) ‹_›];simp_all;done)
    rw [hz]
    exact R.w1 (z1,z2,v5) uC [] O Tryz.results79 (RV.tmp O) O O O O
   refine Do.s (s.bs (l:=([(⟨i,x3⟩:Turn)]:List Turn)) qH ma O O O O O O O) (fun _=>(aD [2,3,5] [] O)) O fun b6=>?_
   refine D.one (i:=4) O<|Do.s (s.c (Qt.a (q.ld 1 O O gB O)) O) (fun _=>(aD [2,3,5] [] O)) O fun _=>?_
   refine D.one (i:=15) O<|Do.s (s.app 4 _ O O O (bC 0 O) nP (by (simp;omega)) (by (simp;omega)) (fun _=>rfl) O) (fun _=>(aD [2,3,5] [] O)) O fun v6=>?_
   refine D.q (i:=16) O (aD [2,3,5] [] O) O (q.cb O) O<|D.q (i:=17) O (aD [2,3,5] [] O) O (q.aO O gM O) O<|D.one (i:=18) O<|Do.s (s.fS 1 _ O O O (fun w hw=>Sl.cm (hw.row 4 O)) (.inr ⟨gB,rfl⟩) (fun w hw=>(af (Sl.one (hw.row 4 O)) aP)) O O O) (fun _=>(aD [2,3,5] [] O)) O fun _=>?_
   refine D.done<|R.reg O<|R.u 2 O<|R.nil ?_
   have hz:ap dk i sx=((⟨((bq dk).1).Kept,((bq dk).1.Now.set i.toNat (full sx)),(((bq dk).1.Wait)++([(⟨i,x3⟩:Turn)])),(bq dk).1.Fuse,(bq dk).1.Down⟩:cx),(bq dk).2):=by (rw [iH (by omega) (by omega) (by omega) ‹_›];simp_all;done)
   rw [hz]
   exact R.w1 (z1,z2,v6) uC [] O Tryz.results79 (RV.tmp O) O O O O
  refine R.q (q.jA O O Tryz.underlying38) O<|R.nil<|R.aB O O<|R.reg O<|R.u 2 O<|R.nil ?_
  have hz:ap dk i sx=(((bq dk).1),(bq dk).2):=by (exact wR (by omega) (by omega) (by omega) ‹_›)
  rw [hz]
  exact R.w1 (z1,z2,z3) gX [] O Tryz.results79 (RV.tmp O) O O O O
 refine R.qg O (q.Hb O O) O<|R.u 6 O<|R.nil<|R.av O O<|R.reg O<|R.q (q.iface O bm) O<|R.u 1 O<|R.nil ?_
 have hz:ap dk i sx=(dk,1):=by (exact mA (by omega))
 rw [hz]
 exact R.w1 (ay,aG,az) gX [] O Tryz.results79 (RV.tmp O) O O O (dr (by decide) O)
theorem kS (aH:Nat)(ay aG az:Value)(dk:cx)(w:World)(own:List Nat)(H:HN w own [ag.box aH [ay,aG,az,iV dk.Fuse,.bool dk.Down] 112,ag.row 9 ay dk.Kept,ag.row 9 aG dk.Now,ag.row 114 az dk.Wait] [])(hd:dk.Kept.length=dk.Now.length/\dk.Now.length<=100000/\dk.Wait.length<=100000 /\ -1<=dk.Fuse/\dk.Fuse<=9223372036854775807):RC Tryz.prog 80 #[.pointer (some ⟨aH,0,none⟩)] H (fun _:Value×Value×Value=>da (ai dk).2) (fun z=>[ag.box aH [z.1,z.2.1,z.2.2,iV (ai dk).1.Fuse,.bool (ai dk).1.Down] 112,ag.row 9 z.1 (ai dk).1.Kept,ag.row 9 z.2.1 (ai dk).1.Now,ag.row 114 z.2.2 (ai dk).1.Wait]) (fun _=>[]):=by
 have eE:=H.cap 1 rfl;have eF:=H.cO 1 rfl
 have fD:=H.cap 2 rfl;have fE:=H.cO 2 rfl
 have eG:=H.cap 3 rfl;have eH:=H.cO 3 rfl
 have hsl:=mZ dk;have hs1:=congrArg List.length hsl.1;have hs2:=congrArg List.length hsl.2.1;have hs3:=congrArg List.length hsl.2.2
 refine R.bD [(0,.pointer (some ⟨aH,0,none⟩))] Tryz.func80 O O O O H<|R.reg O<|R.u 1 O<|R.nil<|R.reg O<|R.u 1 O<|R.s O (s.aW gX [] _ _ _ O O O Jv O O (fun w own hw H=>zu aH ay aG az dk w own H (by omega)) O) ?_
 rintro ⟨z1,z2,z3⟩
 dsimp only
 refine R.u 1 O<|R.nil<|R.reg O<|R.u 1 O<|?_
 by_cases h1:(bq dk).2=0
 .
  refine R.q (q.lx O O Tryz.underlying38) O<|R.nil<|R.av O O<|R.fP (fuel:=9) [2,3,4] O O mixed O<|D.q (i:=0) O (aD [2,3,4] [] O) O (q.mv O) O<|D.q (i:=1) O (aD [2,3,4] [] O) O (q.cb O) O<|D.q (i:=2) O (aD [2,3,4] [] O) O (q.aO O EB O) O<|D.q (i:=4) O (aD [2,3,4] [] O) O (q.mv O) O<|D.q (i:=5) O (aD [2,3,4] [] O) O (q.cb O) O<|D.q (i:=6) O (aD [2,3,4] [] O) O (q.aO O iX O) O<|D.two (i:=3) (j:=7) O O ?_ ?_
  .
   refine Do.s (s.c (Qt.a (q.ld 0 O O gA O)) O) (fun _=>(aD [2,3,4] [] O)) O fun _=>?_
   refine D.one (i:=7) O<|Do.s (s.c (Qt.a (q.ld 0 O O gA O)) O) (fun _=>(aD [2,3,4] [] O)) O fun _=>?_
   refine D.one (i:=8) O<|Do.s (s.copy 1 _ O (bC 2 O) O O O gy (by omega) O O) (fun _=>(aD [2,3,4] [] O)) O fun _=>?_
   refine D.done<|R.reg O<|R.u 1 O<|R.q (q.cb O) O<|R.q (q.aO O gM O) O<|R.s O (s.st 0 _ O O O O (.inr ⟨gB,rfl⟩) O O O O) fun _=>?_
   refine R.nil<|R.reg O<|R.u 2 O<|R.nil<|R.row0 (α:=Turn) 114 ?_
   have hz:ai dk=((⟨((bq dk).1).Now,(bq dk).1.Now,[],(bq dk).1.Fuse,(bq dk).1.Down⟩:cx),(bq dk).2):=by (unfold ai;(rw [if_pos ‹_›];simp_all))
   rw [hz]
   exact R.w1 (z1,z2,(nS)) [1,2,3,0,5] [] O Tryz.results80 (RV.tmp O) O O O O
  refine Do.s (s.c (Qt.a (q.ld 0 O O gA O)) O) (fun _=>(aD [2,3,4] [] O)) O fun _=>?_
  refine D.one (i:=3) O<|Do.s (s.c (Qt.a (q.ld 0 O O gA O)) O) (fun _=>(aD [2,3,4] [] O)) O fun _=>?_
  refine D.one (i:=8) O<|Do.s (s.copy 1 _ O (bC 2 O) O O O gy (by omega) O O) (fun _=>(aD [2,3,4] [] O)) O fun _=>?_
  refine D.done<|R.reg O<|R.u 1 O<|R.q (q.cb O) O<|R.q (q.aO O gM O) O<|R.s O (s.st 0 _ O O O O (.inr ⟨gB,rfl⟩) O O O O) fun _=>?_
  refine R.nil<|R.reg O<|R.u 2 O<|R.nil<|R.row0 (α:=Turn) 114 ?_
  have hz:ai dk=((⟨((bq dk).1).Now,(bq dk).1.Now,[],(bq dk).1.Fuse,(bq dk).1.Down⟩:cx),(bq dk).2):=by (unfold ai;(rw [if_pos ‹_›];simp_all))
  rw [hz]
  exact R.w1 (z1,z2,(nS)) [1,2,3,0,5] [] O Tryz.results80 (RV.tmp O) O O O O
 refine R.q (q.jA O O Tryz.underlying38) O<|R.nil<|R.aB O O<|R.reg O<|R.u 2 O<|R.nil ?_
 have hz:ai dk=(((bq dk).1),(bq dk).2):=by (unfold ai;(rw [if_neg ‹_›];done))
 rw [hz]
 exact R.w1 (z1,z2,z3) gX [] O Tryz.results80 (RV.tmp O) O O O O
end
end Go.Proofs.YtkbhcbipadkcaaaGreatDoor
