import Derived.Test.YtkbhcbipadkcaaaGreatDoorTS5
import Derived.Laws.StructEq
import Derived.Laws.OwnMore
import Derived.Shelf.Strings.Builder1
import Derived.Shelf.Strings.Builder2
import Derived.Shelf.Small.Bits
import Derived.Shelf.Small.Strs
import Derived.Shelf.Small.Wraps
import Derived.Shelf.Strings.BuilderF
import Derived.Shelf.Strconv.Atoi
import Derived.Shelf.Strconv.Itoa0
import Derived.Shelf.Strconv.Itoa1
import Derived.Shelf.LaysM
import Derived.Shelf.Strconv.Itoa2
import Derived.Shelf.Strconv.Itoa3
import Derived.Shelf.Strconv.AtoiErrFast
import Derived.Shelf.Strconv.ParseIntEmpty
import Derived.Shelf.Strconv.AtoiFail
import Derived.Shelf.Strconv.Clone
import Derived.Shelf.Strconv.SyntaxError
import Derived.Shelf.LaysC
import Derived.Shelf.Strconv.ToError
import Derived.Shelf.Strconv.AtoiErr
import Derived.Shelf.Strconv.ErrVar
import Derived.Shelf.Sort.Plain
import Derived.Shelf.Strings.Prefix
import Derived.Shelf.Bits.Mul64
import Derived.Shelf.Strings.Repeat
import Derived.Shelf.Slices.Turned
import Derived.Shelf.Slices.Equal
import Derived.Ground.Names2Prog
import Derived.Shelf.Slices.CompactI
import Derived.Shelf.Slices.SearchI
import Derived.Shelf.Slices.Cells
import Derived.Shelf.Slices.In.SortNone
import Derived.Shelf.Slices.Empties2
namespace Go.Proofs.YtkbhcbipadkcaaaGreatDoor
set_option linter.unusedVariables false
set_option linter.unusedSimpArgs false
set_option maxRecDepth 100000
set_option maxHeartbeats 90000000
section
open Go Go.RowKit
set_option linter.unusedSectionVars false
theorem zc {P:Program}{op:BinOp}{t:TypeId}(h:P.eqGuardType P.depth t=false)(a b:Operand)(xs ys:Array Value)(w:World):(eqGuard op t a b (.agg xs) (.agg ys)).run P w = .ok () w:=by
 have hp:(program:Sem Program).run P w = .ok P w:=rfl
 cases op <;> simp [eqGuard,hp,h]
theorem Jz {P:Program}{t:TypeId}{β:Type}[DecidableEq β]{cs:β->List Value}(hg:P.eqGuardType P.depth t=false)(he:∀x y w,(Op.equal t (.agg (cs x).toArray) (.agg (cs y).toArray)).run P w = .ok (decide (x=y)) w):Rk P t (fun x => .agg (cs x).toArray):=by
 refine ⟨fun x y w a b=>⟨zc hg a b _ _ w,zc hg a b _ _ w⟩,fun x y w=>⟨?_,?_⟩⟩
 .simp only [binOp,Sem.run_bind,he x y w,Result.andThen_ok,Sem.run_pure]
 .simp only [binOp,Sem.run_bind,he x y w,Result.andThen_ok,Sem.run_pure]
theorem AF:Rk Tryz.prog 127 ak.val:=by
 have hS:Tryz.prog.underlying 127=some (.struct (Tryz.prog.fieldsOf 127)):=by kernel_rfl
 have hp:Tryz.prog.stoodInHeld 127=false:=by kernel_rfl
 refine Jz (cs:=ak.cs) (by kernel_rfl) fun x y w=>?_
 have u3:=Tryz.underlying3;have a3:=Tryz.isAgg3;have z3:=Tryz.sizeOf3
 obtain ⟨x1,x2,x3,x4,x5⟩:=x;obtain ⟨y1,y2,y3,y4,y5⟩:=y
 rw [Op.equal,Op.maxDepth,show (10000:Nat)=9999+1 from rfl,run_equalIn_agg w 9999 127 _ _ hS hp]
 simp only [Program.fieldsOf,Tryz.underlying127]
 go_simp
 by_cases h1:x1=y1 <;> by_cases h2:x2=y2 <;> by_cases h3:x3=y3 <;> by_cases h4:x4=y4 <;> by_cases h5:x5=y5 <;> simp [h1,h2,h3,h4,h5]
theorem AG:Rk Tryz.prog 117 Change.val:=by
 have hS:Tryz.prog.underlying 117=some (.struct (Tryz.prog.fieldsOf 117)):=by kernel_rfl
 have hp:Tryz.prog.stoodInHeld 117=false:=by kernel_rfl
 refine Jz (cs:=Change.cs) (by kernel_rfl) fun x y w=>?_
 have u3:=Tryz.underlying9;have a3:=Tryz.isAgg9;have z3:=Tryz.sizeOf9;have u4:=Tryz.underlying4;have a4:=Tryz.isAgg4;have z4:=Tryz.sizeOf4
 obtain ⟨x1,x2,x3⟩:=x;obtain ⟨y1,y2,y3⟩:=y
 rw [Op.equal,Op.maxDepth,show (10000:Nat)=9999+1 from rfl,run_equalIn_agg w 9999 117 _ _ hS hp]
 simp only [Program.fieldsOf,Tryz.underlying117]
 go_simp
 have tl:∀a b:ByteArray,a.toList=b.toList↔a=b:=fun a b=>by have:=nB a b;rw [Bool.eq_iff_iff] at this;simpa using this
 by_cases h1:x1=y1 <;> by_cases h2:x2=y2 <;> by_cases h3:x3=y3 <;> simp [h1,h2,h3,tl]
section
variable {α:Type} [DecidableEq α] {a b:List α}
theorem Cy (h:¬ a.length=b.length):false=decide (a=b):=(decide_eq_false (fun e=>h (by rw [e]))).symm
theorem Cz {k:Nat}{x y:α}(hx:a[k]? = some x)(hy:b[k]? = some y)(h:¬ x=y):false=decide (a=b):=(decide_eq_false (fun e=>h (by rw [e,hy] at hx;injection hx with hx;exact hx.symm))).symm
theorem CB {k:Nat}(hl:a.length=b.length)(hk:¬ k<a.length)(h:∀j,j<k->a[j]? = b[j]?):true=decide (a=b):=by
 refine (decide_eq_true (List.ext_getElem? fun j=>?_)).symm
 rcases Nat.lt_or_ge j k with h1|h1
 .exact h j h1
 .rw [List.getElem?_eq_none (by omega),List.getElem?_eq_none (by omega)]
theorem zd {k:Nat}{x y:α}(h:∀j,j<k->a[j]? = b[j]?)(hx:a[k]? = some x)(hy:b[k]? = some y)(e:x=y):∀j,j<k+1->a[j]? = b[j]?:=by
 intro j hj
 rcases Nat.lt_or_ge j k with h1|h1
 .exact h j h1
 .
  have:j=k:=by omega
  subst this;rw [hx,hy,e]
end
end
section
open Go Go.RowKit
theorem oZ (Cd:Value)(a:List Change)(CC:Value)(b:List Change)(w:World)(EG:Sl w Cd a)(Hl:Sl w CC b):Calls Tryz.prog 65 #[Cd,CC] w fun e w'=>e = .returned (.bool (decide (a=b)))/\Ext w w':=by
 have LN:=EG.gW
 have VB:=Hl.gW
 refine R.enter [] [(0,Cd),(1,CC)] Tryz.func65 O O O O<|R.reg O<|R.u 1 O<|R.nil<|R.reg O<|R.u 1 O<|R.q (q.len' (fun _=>Wd.old EG) O Tryz.underlying34) O<|R.u 1 O<|R.q (q.len' (fun _=>Wd.old Hl) O Tryz.underlying34) O<|?_
 by_cases h1:a.length=b.length
 .
  refine R.q (q.ny O O) O<|R.nil<|R.aD O O<|R.reg O<|R.u 1 O<|R.nil<|R.loop (fun k:Nat=>[(0,Cd),(1,CC),(5,iV (k:Int))]) (fun k:Nat=>[]) (fun k:Nat=>[]) (fun k:Nat=>k<=a.length /\ ∀j,j<k->a[j]? = b[j]?) (fun k:Nat=>a.length-k) 0 O (by exact ⟨by omega,fun j hj=>absurd hj (Nat.not_lt_zero _)⟩) (sF O) (iz [] [] O) ?_
  rintro k ⟨hk,HA⟩
  refine R.reg O<|R.u 2 O<|R.q (q.len' (fun _=>Wd.old EG) O Tryz.underlying34) O<|?_
  by_cases h2:k<a.length
  .
   refine R.q (q.dC O O) O<|R.nil<|R.az O O ?_
   obtain ⟨x1,hx1⟩:∃z,a[k]? = some z:=⟨_,List.getElem?_eq_getElem (by omega)⟩
   obtain ⟨x2,hx2⟩:∃z,b[k]? = some z:=⟨_,List.getElem?_eq_getElem (by omega)⟩
   by_cases h3:x1=x2
   .
    refine R.eZ O mixed (by kernel_rfl)<|Q.u 2 O<|Q.q (q.idx (i:=k) (fun _=>Wd.old EG) O O bW O hx1) O<|Q.q (q.gh (ds:=fC x1) (fun _=>Wd.old EG) hx1 O aX O) O<|Q.u 2 O<|Q.q (q.idx (i:=k) (fun _=>Wd.old Hl) O O bW O hx2) O<|Q.q (q.gh (ds:=fC x2) (fun _=>Wd.old Hl) hx2 O aX O) O<|Q.q (q.FT (x:=x1) (y:=x2) AG O O h3) O<|Q.nil<|R.aD O O<|R.reg O<|R.u 1 O<|R.q (q.bA (r:=((k+1:Nat):Int)) O O) O<|R.u 1 O<|R.nil<|R.back (k+1) O (by (exact ⟨by omega,zd HA hx1 hx2 ‹_›⟩)) (by omega) (sF O) (iz [] [] O)
   exact R.eZ O mixed (by kernel_rfl)<|Q.u 2 O<|Q.q (q.idx (i:=k) (fun _=>Wd.old EG) O O bW O hx1) O<|Q.q (q.gh (ds:=fC x1) (fun _=>Wd.old EG) hx1 O aX O) O<|Q.u 2 O<|Q.q (q.idx (i:=k) (fun _=>Wd.old Hl) O O bW O hx2) O<|Q.q (q.gh (ds:=fC x2) (fun _=>Wd.old Hl) hx2 O aX O) O<|Q.q (q.FU (x:=x1) (y:=x2) AG O O h3) O<|Q.nil<|R.az O O<|R.reg O<|R.u 1 O<|R.nil<|R.rv O Tryz.results65 O (rB (by (exact Cz hx1 hx2 ‹_›)))
  exact R.q (q.cS O O) O<|R.nil<|R.aD O O<|R.reg O<|R.u 1 O<|R.nil<|R.rv O Tryz.results65 O (rB (by (exact CB ‹_› ‹_› HA)))
 exact R.q (q.nu O O) O<|R.nil<|R.az O O<|R.reg O<|R.u 1 O<|R.nil<|R.rv O Tryz.results65 O (rB (by (exact Cy ‹_›)))
end
section
open Go Go.RowKit
section
variable {P:Program} {n:Nat} {we:World} {X:List Nat} {L:Fm} {B F:List ag} {x y z':Operand} {v:Value} {d:Nat} {ty:TypeId} {pos:String} {eh:Array Edge} {g:Option (Nat×Bool)} {t e:TypeId} {α:Type} [Enc α] {l:List α}
theorem s.Sg {m:Nat}{i0:TypeInfo}{kd:IntKind}{z0:α}{zv:Value}(ht:o9 P t=some (e,Enc.k α))(hi:P.info? e=some i0)(hz:i0.zero=some zv)(hzs:zv.cells=(Enc.cells z0).toArray)(hb:i0.bytes<=1000)(hx:ev L x=some (.int kd (m:Int)))(hy:ev L y=some (.int kd (m:Int)))(hm:m*Enc.k α<=1000000)(hd:Nat.blt d n=true) :
 Stp P n we X L B F ⟨some d,.makeSlice t x y,ty,pos,eh,g⟩ (fun b:Nat=>(d,.slice (some ⟨b,0,none⟩) m m)::L) (fun b=>ag.row e (.slice (some ⟨b,0,none⟩) m m) (List.replicate m z0)::B) (fun _=>F):=by
 intro K Q' a w ha hw hK
 obtain ⟨hu,hsz⟩:=eR (P:=P) w ht
 have hsize:i0.size=Enc.k α:=by
  unfold o9 at ht;rw [hu] at ht;simp [hi] at ht;exact ht
 have hkp:=Enc.pos (α:=α)
 have hm1:m<=m*Enc.k α:=Nat.le_mul_of_pos_right m hkp
 have hml:m<=maxLen:=by simp [maxLen];omega
 have hbb:i0.bytes*m<=1000*1000000:=Nat.mul_le_mul hb (by omega)
 obtain ⟨w',hr,how,hg⟩:=run_makeSlice_full (P:=P) w 0 t e i0 zv (Enc.k α) hu hi hz hsize kd kd m (by omega) (by omega) hml (Nat.zero_le _)
 have hrun:(execOp a.eval ⟨some d,.makeSlice t x y,ty,pos,eh,g⟩).run P w = .ok (.value (.slice (some ⟨w.heap.size,0,none⟩) m m)) w':=by
  simp [execOp,ha.ev hx,ha.ev hy,hr]
 unfold Oper.wp
 rw [hrun,Oper.upon_value]
 have hcells:(madeCells zv.cells (m*Enc.k α)).toList=(List.replicate m z0).flatMap Enc.cells:=by
  have h1:=ng hzs m
  rw [<- h1]
  have hs:zv.cells.size=Enc.k α:=by rw [hzs,List.size_toArray,Enc.len]
  simp [madeCells,Builtin.zeroCells,hs]
 rw [hcells] at how
 have hup:lR [] w w':=⟨hg.os,hg.tape,hg.output,hg.size,fun k hk _=>hg.block k hk (by simp)⟩
 have hlt:w.heap.size<w'.heap.size:=by
  rcases how.2 with ⟨h,_⟩ | ⟨gb,cap,cur,h,_,hgg,_⟩
  .simp at h
  .injection h with h _ _;injection h with h;injection h with h1;rw [h1];exact (Array.getElem?_eq_some_iff.1 hgg).1
 refine hK _ _ _ (ha.put d _ hd) ((hw.grow hup).new (r:=ag.row e (.slice (some ⟨w.heap.size,0,none⟩) m m) (List.replicate m z0)) ?_ (by simp [ag.row,dW]) (fun k hk=>?_))
 .
  show Own 0 e w' _ _
  unfold Own;rw [List.length_replicate];exact how
 .
  simp [ag.row,dW] at hk;subst hk
  exact ⟨hlt,hw.upd.size,fun h=>by have:=(hw.own _ h).1;omega,fun h=>by have:=(hw.mb _ h).1;omega⟩
theorem s.EH {o m:Nat}{u dst:Value}{l2:List α}{A:TypeId}(i:Nat)(B':List ag)(hB:B[i]? = some (ag.row e v l))(hs:∀w,Wd we X B F w->Sl w u l2)(hx:ev L x=some dst)(hdst:dst=dA v o (Enc.k α)∨(dst=v/\o=0))(hy:ev L y=some u)(ht:o9 P t=some (e,Enc.k α))
 (hm0:0<m) (hm1:m<=l2.length) (hm2:o+m<=l.length) (hm:m=l2.length∨o+m=l.length) (hB':B.set i (ag.row e v (l.take o++l2.take m++l.drop (o+m)))=B') (hd:Nat.blt d n=true) :
 Stp P n we X L B F ⟨some d,.call { callee:= .builtin .copy,args:= #[x,y],argTypes:= #[t,A] },ty,pos,eh,g⟩ (fun _:Unit=>(d,.int .i64 m)::L) (fun _=>B') (fun _=>F):=by
 intro K Q' ac w hac hw hK
 obtain ⟨hu,hsz⟩:=eR (P:=P) w ht
 have how:Own 0 e w v l:=hw.b i hB
 obtain ⟨A2,c2,rfl,h21,h22,h23⟩:=hs w hw
 have hk:=Enc.pos (α:=α)
 unfold Oper.wp
 obtain ⟨gb,cap,cur,rfl,_,hgg,hnc,hcm,hcs,htk⟩:=how.parts (by omega)
 obtain ⟨x0,hx0⟩:∃y0,l2[0]? = some y0:=⟨_,List.getElem?_eq_getElem (by omega)⟩
 obtain ⟨b2,off,rfl,hb2,_⟩:=h23 0 x0 hx0
 have hl3:(l2.take m).length=m:=by rw [List.length_take];omega
 have hsrc:∀j u,((l2.take m).flatMap Enc.cells)[j]? = some u->w.cell? ((⟨b2,off,none⟩:Addr).add j)=some u:=fun j u hj=>by
  obtain ⟨i',z,q,hi',hq,rfl⟩:=me (l2.take m) j u hj
  obtain ⟨b3,Rt,h3,_,hc3⟩:=h23 i' z (by
   rw [List.getElem?_take] at hi'
   split at hi'
   .exact hi'
   .cases hi')
  injection h3 with h3;injection h3 with e1 e2;subst e1;subst e2
  rw [addr_add,<- Nat.add_assoc];exact hc3 q u hq
 have hfl:((l2.take m).flatMap Enc.cells).length=m*Enc.k α:=by rw [di,hl3]
 have hld:=run_loadCells_list (P:=P) w ⟨b2,off,none⟩ ((l2.take m).flatMap Enc.cells) hsrc
 rw [hfl] at hld
 have hx':∃c3,ev L x=some (.slice (some ⟨gb,o*Enc.k α,none⟩) (l.length-o) c3):=by
  rcases hdst with rfl|⟨rfl,rfl⟩
  .
   have hne:cap≠o:=by omega
   exact ⟨_,by rw [hx];simp only [dA,if_neg hne];simp [addr_add];rfl⟩
  .exact ⟨_,by rw [hx];simp;rfl⟩
 obtain ⟨c3,hx'⟩:=hx'
 have hle:l.length*Enc.k α<=cap*Enc.k α:=Nat.mul_le_mul_right _ hnc
 have hol:o*Enc.k α+m*Enc.k α<=l.length*Enc.k α:=by rw [<- Nat.add_mul];exact Nat.mul_le_mul_right _ hm2
 have hst:=run_storeCells_at P gb (o*Enc.k α) e ((l2.take m).flatMap Enc.cells) 0 cur w hgg (by rw [hfl,hcs];omega) (lx (l2.take m))
 have hrun:(execOp ac.eval ⟨some d,.call { callee:= .builtin .copy,args:= #[x,y],argTypes:= #[t,A] },ty,pos,eh,g⟩).run P w = .ok (.value (.int .i64 m)) (w.setRow gb (cur.toList.take (o*Enc.k α)++(l2.take m).flatMap Enc.cells++cur.toList.drop (o*Enc.k α+((l2.take m).flatMap Enc.cells).length)).toArray):=by
  have hmin:Nat.min l2.length (l.length-o)=m:=by rcases hm with h|h <;> (simp only [Nat.min_def];split <;> omega)
  simp only [Nat.add_zero] at hst
  simp [execOp,resolve,invoke,builtin,hac.ev hx',hac.ev hy,Builtin.copy_,run_underlying hu,Builtin.lenOf,Builtin.firstCells,hsz,hmin,goInt,hld,hst]
 rw [hrun,Oper.upon_value]
 have hll:(l.take o++l2.take m++l.drop (o+m)).length=l.length:=by simp;omega
 have h3:(cur.toList.take (o*Enc.k α)).length=o*Enc.k α:=by rw [List.length_take];first|omega|(simp;omega)
 have:=hw.rH (l':=l.take o++l2.take m++l.drop (o+m)) (cs':=cur.toList.take (o*Enc.k α)++(l2.take m).flatMap Enc.cells++cur.toList.drop (o*Enc.k α+((l2.take m).flatMap Enc.cells).length)) hB hgg hcm hcs (by simp only [List.length_append,h3,List.length_drop,hfl];first|omega|(simp;omega)) (by
  have e2:(o+m)*Enc.k α=o*Enc.k α+((l2.take m).flatMap Enc.cells).length:=by rw [Nat.add_mul,hfl]
  rw [hll,List.flatMap_append,List.flatMap_append,kK l o,lZ,<- htk,e2]
  exact sI _ _ _ _ (by rw [hfl];omega) (by simp;omega)) (by omega)
 rw [hll] at this
 exact hK () _ _ (hac.put d _ hd) (hB'▸this)
end
theorem ofInt_u64 (a:Nat)(ha:a<18446744073709551616):(BitVec.ofInt 64 (a:Int)).toNat=a:=by
 rw [BitVec.ofInt_natCast,BitVec.toNat_ofNat];exact Nat.mod_eq_of_lt (by omega)
theorem u64_and1 {m r:Int}(h:r=m % 2/\0<=m/\m<=18446744073709551615):bits .and .u64 m 1=r:=by
 obtain ⟨rfl,h0,h1⟩:=h
 obtain ⟨a,rfl⟩:=Int.eq_ofNat_of_zero_le h0
 show IntKind.u64.wrap ((BitVec.ofInt 64 (a:Int) &&& BitVec.ofInt 64 ((1:Nat):Int)).toNat:Int)=_
 rw [BitVec.toNat_and,ofInt_u64 a (by omega),ofInt_u64 1 (by omega),Nat.and_one_is_mod,IntKind.wrap_u64]
 omega
theorem Ua {m e:Int}{j:Nat}(he:e=(j:Int))(hj:j<=64):m.fdiv (2 ^ (min e.toNat 64))=m / ((2 ^ j:Nat):Int):=by
 subst he
 rw [Int.toNat_natCast,Nat.min_eq_left hj]
 have:((2 ^ j:Nat):Int)=2 ^ j:=by simp
 rw [this]
 exact Int.fdiv_eq_ediv_of_nonneg m (by rw [<- this];exact Int.natCast_nonneg _)
theorem Ub {a b:Nat}{c:Int}(h:c=(b:Int)):((a:Nat):Int).tmod c=((a % b:Nat):Int):=by
 subst h;rw [Int.tmod_eq_emod_of_nonneg (Int.natCast_nonneg a)];exact (Int.natCast_emod a b).symm
section
variable {P:Program} {n:Nat} {we:World} {X:List Nat} {L:Fm} {B F:List ag} {ty xT e:TypeId} {x y:Operand}
end
def F8 (places:List (Nat×Nat)):List Value->List (Nat×List Value)->Option (List Value)
  | cells,[]=>some cells
  | cells,(i,v)::rest=>match places[i]? with
    | none=>none
    | some (off,size)=>bif Nat.beq v.length size&&Nat.ble (off+size) cells.length then F8 places (cells.take off++v++cells.drop (off+size)) rest else none
theorem CF (places:List (Nat×Nat)):∀ (parts:List (Nat×Value)) (cells:List Value),vV places cells parts=F8 places cells (parts.map fun p=>(p.1,p.2.cells.toList))
 | [],cells=>rfl
 | (i,v)::rest,cells=>by
  simp only [vV,List.map_cons,F8]
  cases places[i]? with
  | none=>rfl
  | some q =>
   obtain ⟨off,size⟩:=q
   simp only [CF places rest]
theorem ze:∀ (is:List Nat) (vs:List Value),(is.zip vs).map (fun p=>(p.1,p.2.cells.toList))=is.zip (vs.map fun v=>v.cells.toList)
 | [],vs=>by simp
 | i::is,[]=>by simp
 | i::is,v::vs=>by simp [ze is vs]
theorem JA:([]:List Value).map (fun v=>v.cells.toList)=[]:=rfl
theorem sN {v:Value}{vs:List Value}{u:List Value}{us:List (List Value)}(h:v.cells.toList=u)(hs:vs.map (fun v=>v.cells.toList)=us):(v::vs).map (fun v=>v.cells.toList)=u::us:=by
 rw [List.map_cons,h,hs]
theorem Sl.EI {α:Type}[Enc α]{w:World}{v:Value}{l:List α}(h:Sl w v l):v.cells.toList=[v]:=by rw [h.cr]
section
variable {P:Program} {n:Nat} {we:World} {X:List Nat} {L:Fm} {B F:List ag} {ty:TypeId}
theorem q.JB {t:TypeId}{parts:Array (Nat×Operand)}{places:List (Nat×Nat)}{zs vs cs:List Value}{us:List (List Value)}(ht:tB P t=some (places,zs))(hp:evs L (parts.toList.map (·.2))=some vs)
 (hv:∀w,Wd we X B F w->vs.map (fun v=>v.cells.toList)=us) (hf:F8 places zs ((parts.toList.map (·.1)).zip us)=some cs) :
 Qt P n we X L B F (.build t parts) ty (.agg cs.toArray):=fun q1 q2 q3 q4 a w ha hw =>
 q.build ht hp (by rw [CF,ze,hv w hw];exact hf) q1 q2 q3 q4 a w ha hw
end
def JC (Bl Fl:List ag):Prop:= ∀f∈Fl,∃r∈Bl,(∀w,r.ok w->f.ok w) /\ ∀k∈f.blk,k∈r.blk
theorem wC:JC [] []:=fun f hf=>by cases hf
theorem qw {α:Type}[Enc α]{Bl Fl:List ag}{e:TypeId}{v:Value}{l:List α}(h:JC Bl Fl):JC (ag.row e v l::Bl) (ag.ls v l::Fl):=fun f hf=>by
 rcases List.mem_cons.1 hf with rfl|hf
 .exact ⟨_,List.mem_cons_self ..,fun w hw=>Own.sl hw,fun k hk=>I1 k hk⟩
 .
  obtain ⟨r,hr,h1,h2⟩:=h f hf
  exact ⟨r,List.mem_cons_of_mem _ hr,h1,h2⟩
section
variable {we w w':World} {X:List Nat} {B0 Bl Br B1 F Fl:List ag}
theorem Wd.Si (hw:Wd we X (B0++(Bl++Br)) F w)(hl:JC Bl Fl):Wd we X (B0++Br) (Fl++F) w:=by
 have hs:=hw.sep
 rw [aW,aW] at hs
 obtain ⟨s1,s2,s3⟩:=List.nodup_append.1 hs
 obtain ⟨s4,s5,s6⟩:=List.nodup_append.1 s2
 have hsub:∀k∈blks (B0++Br),k∈blks (B0++(Bl++Br)):=fun k hk=>by
  rw [aW] at hk;rw [aW,aW]
  rcases List.mem_append.1 hk with hk|hk
  .exact List.mem_append.2 (.inl hk)
  .exact List.mem_append.2 (.inr (List.mem_append.2 (.inr hk)))
 refine ⟨hw.upd,fun r hr=>?_,fun r hr=>?_,?_,fun k hk=>hw.own k (hsub k hk),fun k hk=>?_⟩
 .
  rcases List.mem_append.1 hr with hr|hr
  .exact hw.okB r (List.mem_append.2 (.inl hr))
  .exact hw.okB r (List.mem_append.2 (.inr (List.mem_append.2 (.inr hr))))
 .
  rcases List.mem_append.1 hr with hr|hr
  .
   obtain ⟨q,hq,h1,_⟩:=hl r hr
   exact h1 w (hw.okB q (List.mem_append.2 (.inr (List.mem_append.2 (.inl hq)))))
  .exact hw.okF r hr
 .
  rw [aW]
  exact List.nodup_append.2 ⟨s1,s5,fun a ha b hb e=>s3 a ha b (List.mem_append.2 (.inr hb)) e⟩
 .
  rw [aW] at hk
  rcases List.mem_append.1 hk with hk|hk
  .
   obtain ⟨f,hf,hk⟩:=bB.1 hk
   obtain ⟨q,hq,_,h2⟩:=hl f hf
   have hb:k∈blks Bl:=bB.2 ⟨q,hq,h2 k hk⟩
   refine ⟨(hw.own k (by rw [aW,aW];exact List.mem_append.2 (.inr (List.mem_append.2 (.inl hb))))).1,fun hc=>?_⟩
   rw [aW] at hc
   rcases List.mem_append.1 hc with hc|hc
   .exact s3 k hc k (List.mem_append.2 (.inl hb)) rfl
   .exact s6 k hb k hc rfl
  .exact ⟨(hw.mb k hk).1,fun hc=>(hw.mb k hk).2 (hsub k hc)⟩
theorem Wd.wider (hw:Wd we X (B0++(Bl++Br)) F w)(hp:Wd w (blks B0++blks Br) (B1++[ag.held w (blks Br)]) [] w'):Wd w (blks B0++blks (Bl++Br)) (B1++[ag.held w (blks (Bl++Br))]) [] w':=by
 have hs:=hw.sep
 rw [aW,aW] at hs
 obtain ⟨s1,s2,s3⟩:=List.nodup_append.1 hs
 obtain ⟨s4,s5,s6⟩:=List.nodup_append.1 s2
 have hbl:∀k∈blks Bl,k<w.heap.size/\k∉blks B0++blks Br:=fun k hk=>by
  refine ⟨(hw.own k (by rw [aW,aW];exact List.mem_append.2 (.inr (List.mem_append.2 (.inl hk))))).1,fun hc=>?_⟩
  rcases List.mem_append.1 hc with hc|hc
  .exact s3 k hc k (List.mem_append.2 (.inl hk)) rfl
  .exact s6 k hk k hc rfl
 have hps:=hp.sep
 rw [fR] at hps
 obtain ⟨p1,p2,p3⟩:=List.nodup_append.1 hps
 have hb1:∀k∈blks B1,k∉blks Bl:=fun k hk hc =>
  (hbl k hc).2 ((hp.own k (by rw [fR];exact List.mem_append.2 (.inl hk))).2 (hbl k hc).1)
 refine ⟨hp.upd.mono fun k hk _=>?_,fun r hr=>?_,fun r hr=>(by cases hr),?_,fun k hk=>?_,fun k hk=>(by cases hk)⟩
 .
  rcases List.mem_append.1 hk with hk|hk
  .exact List.mem_append.2 (.inl hk)
  .exact List.mem_append.2 (.inr (by rw [aW];exact List.mem_append.2 (.inr hk)))
 .
  rcases List.mem_append.1 hr with hr|hr
  .exact hp.okB r (List.mem_append.2 (.inl hr))
  .
   rw [List.mem_singleton.1 hr]
   intro k hk
   have hk:k∈blks (Bl++Br):=hk
   rw [aW] at hk
   rcases List.mem_append.1 hk with hk|hk
   .exact hp.upd.block k (hbl k hk).1 (hbl k hk).2
   .exact hp.okB (ag.held w (blks Br)) (List.mem_append.2 (.inr (List.mem_singleton.2 rfl))) k hk
 .
  rw [fR,aW]
  refine List.nodup_append.2 ⟨p1,s2,fun a ha b hb e=>?_⟩
  subst e
  rcases List.mem_append.1 hb with hb|hb
  .exact hb1 a ha hb
  .exact p3 a ha a hb rfl
 .
  rw [fR,aW] at hk
  rcases List.mem_append.1 hk with hk|hk
  .
   have h1:=hp.own k (by rw [fR];exact List.mem_append.2 (.inl hk))
   refine ⟨h1.1,fun hlt=>?_⟩
   rcases List.mem_append.1 (h1.2 hlt) with h2|h2
   .exact List.mem_append.2 (.inl h2)
   .exact List.mem_append.2 (.inr (by rw [aW];exact List.mem_append.2 (.inr h2)))
  .
   rcases List.mem_append.1 hk with hk2|hk2
   .exact ⟨Nat.lt_of_lt_of_le (hbl k hk2).1 hp.upd.size,fun _=>List.mem_append.2 (.inr (by rw [aW];exact hk))⟩
   .exact ⟨(hp.own k (by rw [fR];exact List.mem_append.2 (.inr hk2))).1,fun _=>List.mem_append.2 (.inr (by rw [aW];exact hk))⟩
end
section
variable {P:Program} {n:Nat} {we:World} {X:List Nat} {L:Fm} {B F:List ag} {d:Nat} {ty:TypeId} {pos:String} {eh:Array Edge} {g:Option (Nat×Bool)}
theorem s.EJ {β:Type}{f:FuncId}{c:Operand}{xs:Array Operand}{ts:Array TypeId}{vs:List Value}{cap:Array Value}{B0 Bl Br F0 Fl:List ag}(is js:List Nat)(G:β->Value)(B1:β->List ag)(hp:cZ B is=some (B0++(Bl++Br)))(ha':ic is=true)(hl:JC Bl Fl)(hj:cZ (Fl++F) js=some F0)
 (eg:∀args w,(callFunc f args).run P w = .ok (.enter f args) w) (hargs:evs L xs.toList=some vs) (hc:ev L c=some (.func (.func f) #[] cap))
 (hcall:∀w own,Wd we X B F w->Wd w (blks B0++own) (B0++[ag.held w own]) F0 w->Calls P f (vs++cap.toList).toArray w fun e w' => ∃z,e = .returned (G z)/\Wd w (blks B0++own) (B1 z++[ag.held w own]) [] w') (hd:Nat.blt d n=true) :
 Stp P n we X L B F ⟨some d,.call { callee:= .value c,args:=xs,argTypes:=ts },ty,pos,eh,g⟩ (fun z=>(d,G z)::L) (fun z=>B1 z++(Bl++Br)) (fun _=>F):=by
 intro K Q' a w ha hw hK
 have hw2:=hw.LU is hp ha'
 have hw3:=hw2.Si hl
 unfold Oper.wp
 rw [pG ha hargs hc eg,Oper.upon_enter]
 refine (hcall w (blks Br) hw (hw3.Aj hj)).mono fun e w' he=>?_
 obtain ⟨z,rfl,ht⟩:=he
 exact hK z _ _ (ha.put d _ hd) (hw2.after (hw2.wider ht))
end
end
section
open Go Go.RowKit
def u8 (n:Int):UInt8:=UInt8.ofNat n.toNat
theorem mh {n:Int}(h:0<=n/\n<=255):(((u8 n).toNat:Nat):Int)=n:=by
 unfold u8;rw [UInt8.toNat_ofNat'];omega
theorem Hm {n:Nat}(h:n<=255):(UInt8.ofNat n).toNat=n:=by
 rw [UInt8.toNat_ofNat'];omega
theorem gA {n:Int}(h:0<=n/\n<=255):(Value.int .u8 n).cells.toList=Enc.cells (u8 n):=by
 show [Value.int .u8 n]=[Value.int .u8 (((u8 n).toNat:Nat):Int)]
 rw [mh h]
theorem dF {n:Nat}(h:n<=255):(Value.int .u8 ((n:Nat):Int)).cells.toList=Enc.cells (UInt8.ofNat n):=by
 show [Value.int .u8 (n:Int)]=[Value.int .u8 (((UInt8.ofNat n).toNat:Nat):Int)]
 rw [Hm h]
theorem aI (l:List UInt8):(⟨l.toArray⟩:ByteArray).size=l.length:=by simp [ByteArray.size]
section
variable {α:Type} [Enc α]
theorem fV:([]:List Value).map (fun v=>v.cells.toList)=([]:List α).map Enc.cells:=rfl
theorem ct {v:Value}{x:α}{vs:List Value}{l:List α}(h:v.cells.toList=Enc.cells x)(hs:vs.map (fun v=>v.cells.toList)=l.map Enc.cells) :
 (v::vs).map (fun v=>v.cells.toList)=(x::l).map Enc.cells:=by
 rw [List.map_cons,List.map_cons,h,hs]
end
end
end Go.Proofs.YtkbhcbipadkcaaaGreatDoor
section
namespace Go.Proofs
open Go.Shelf
def Tryz.lays106_ren:Go.Shelf.Ren:=⟨fun|106=>147|213=>184|265=>203|n=>n,fun|9=>9|3=>3|n=>n,fun|n=>n⟩
theorem Tryz.lays106:Go.Proofs.Lays.n106 Tryz.prog Tryz.lays106_ren:={
 mixed:=by kernel_rfl
 f106:=Tryz.func147.trans (congrArg some (by kernel_rfl))
 f213:=Tryz.func184.trans (congrArg some (by kernel_rfl))
 f265:=Tryz.func203.trans (congrArg some (by kernel_rfl))
 t3:=Tryz.underlying3
 a3:=Tryz.isAgg3
 z3:=Tryz.sizeOf3
 v3:=Tryz.zeroValue3
 t9:=Tryz.underlying9
 a9:=Tryz.isAgg9
 z9:=Tryz.sizeOf9
 v9:=Tryz.zeroValue9 }
def Tryz.lays212_ren:Go.Shelf.Ren:=⟨fun|212=>132|263=>177|264=>178|n=>n,fun|46=>188|51=>232|146=>233|53=>33|148=>235|n=>n,fun|n=>n⟩
theorem Tryz.lays212:Go.Proofs.Lays.n212 Tryz.prog Tryz.lays212_ren:={
 mixed:=by kernel_rfl
 f212:=Tryz.func132.trans (congrArg some (by kernel_rfl))
 f263:=Tryz.func177.trans (congrArg some (by kernel_rfl))
 f264:=Tryz.func178.trans (congrArg some (by kernel_rfl))
 t46:=Tryz.underlying188
 a46:=Tryz.isAgg188
 z46:=Tryz.sizeOf188
 v46:=Tryz.zeroValue188
 t51:=Tryz.underlying232
 a51:=Tryz.isAgg232
 z51:=Tryz.sizeOf232
 v51:=Tryz.zeroValue232
 t53:=Tryz.underlying33
 a53:=Tryz.isAgg33
 z53:=Tryz.sizeOf33
 v53:=Tryz.zeroValue33
 t146:=Tryz.underlying233
 a146:=Tryz.isAgg233
 z146:=Tryz.sizeOf233
 v146:=Tryz.zeroValue233
 t148:=Tryz.underlying235
 a148:=Tryz.isAgg235
 z148:=Tryz.sizeOf235
 v148:=Tryz.zeroValue235 }
open Go.RowKit in
theorem Tryz.strings_Compare (a b:ByteArray)(w:World) :
    Calls Tryz.prog 147 #[.string a,.string b] w fun e w'=>e = .returned (.int .i64 (Lib.compareBytes a.data.toList b.data.toList))/\w'=w:=Any.strings_Compare Tryz.lays106 a b w
open Go.RowKit Go.Lib in
theorem Tryz.bits_Mul (x y:Nat)(hx:x<18446744073709551616)(hy:y<18446744073709551616)(w:World) :
    Calls Tryz.prog 132 #[.int .u64 x,.int .u64 y] w fun e w'=>e = .returned (.tuple #[.int .u64 ((x*y / 18446744073709551616:Nat):Int),.int .u64 ((x*y % 18446744073709551616:Nat):Int)])/\w'=w:=Any.bits_Mul Tryz.lays212 x y hx hy w
end Go.Proofs
end
namespace Go.Proofs.YtkbhcbipadkcaaaGreatDoor
set_option linter.unusedVariables false
set_option linter.unusedSimpArgs false
set_option maxRecDepth 100000
set_option maxHeartbeats 90000000
section
open Go.RowKit
structure Turn where
  At:Int
  Data:ByteArray
  deriving DecidableEq
abbrev Turn.cs (x:Turn):List Value:=[.int .i64 x.At,.string x.Data]
abbrev Turn.val (x:Turn):Value:= .agg #[.int .i64 x.At,.string x.Data]
instance:Enc Turn:=⟨2,Turn.cs,fun _=>rfl,fun x u hu=>by simp [Turn.cs] at hu;rcases hu with rfl|rfl <;> rfl,by decide⟩
structure cw where
  Kept:List ByteArray
  Now:List ByteArray
  Wait:List Turn
  Fuse:Int
  Down:Bool
  deriving DecidableEq
def tK (n:Nat):ByteArray:=⟨(List.replicate n (0:UInt8)).toArray⟩
theorem wD (n:Nat):(tK n).size=n:=by unfold tK;simp [ByteArray.size]
def full (s:ByteArray):ByteArray:=s++tK (48-s.size)
theorem Hn {s:ByteArray}(h:s.size<=48):(full s).size=48:=by unfold full;rw [ByteArray.size_append,wD];omega
def dNew (n:Nat):cw:=⟨List.replicate n (tK 48),List.replicate n (tK 48),[],-1,false⟩
def bu (d:cw):cw×Int :=
  if d.Down=true then (d,10) else if d.Fuse=0 then (⟨d.Kept,d.Now,d.Wait,-1,true⟩,10) else (⟨d.Kept,d.Now,d.Wait,max (d.Fuse-1) (-1),d.Down⟩,0)
def cj (d:cw)(i:Int):ByteArray×Int :=
  if d.Down=true then (⟨#[]⟩,10) else if i<0∨(d.Now.length:Int)<=i then (⟨#[]⟩,1) else ((d.Now[i.toNat]?).getD ⟨#[]⟩,0)
def au (d:cw)(i:Int)(s:ByteArray):cw×Int :=
  if i<0∨(d.Now.length:Int)<=i∨48<s.size then (d,1)
  else if (bu d).2=0 then (⟨(bu d).1.Kept,(bu d).1.Now.set i.toNat (full s),(bu d).1.Wait++[⟨i,full s⟩],(bu d).1.Fuse,(bu d).1.Down⟩,0) else bu d
def ai (d:cw):cw×Int :=
  if (bu d).2=0 then (⟨(bu d).1.Now,(bu d).1.Now,[],(bu d).1.Fuse,(bu d).1.Down⟩,0) else bu d
def fS (d:cw)(n:Int):cw:=⟨d.Kept,d.Now,d.Wait,max n (-1),d.Down⟩
def zf (k:Int)(i:Nat):Bool:=decide (k / ((2 ^ (i % 64):Nat):Int) % 2=1)
def nI (k:Int)(l:List ByteArray)(p:Turn×Nat):List ByteArray:=if zf k p.2=true then l.set p.1.At.toNat p.1.Data else l
def lA (k:Int)(w:List Turn)(l:List ByteArray):List ByteArray:=w.zipIdx.foldl (nI k) l
def a8 (d:cw)(k:Int):cw:=⟨lA k d.Wait d.Kept,lA k d.Wait d.Kept,[],-1,false⟩
structure fM (n m:Nat)(d:cw):Prop where
  kl:d.Kept.length=n
  nl:d.Now.length=n
  ks:∀s∈d.Kept,s.size=48
  ns:∀s∈d.Now,s.size=48
  wl:d.Wait.length<=m
  EK:∀t∈d.Wait,0<=t.At/\t.At<(n:Int)/\t.Data.size=48
  f0 : -1<=d.Fuse
  f1:d.Fuse<=9223372036854775807
section
variable {n m:Nat} {d:cw}
theorem AH (n:Nat):fM n 0 (dNew n):=⟨by simp [dNew],by simp [dNew],fun s hs=>by
 rw [(List.mem_replicate.1 hs).2,wD],fun s hs=>by rw [(List.mem_replicate.1 hs).2,wD],Nat.le_refl _,fun t ht=>(by cases ht),(by show (-1:Int) <= -1;decide),(by show (-1:Int)<=9223372036854775807;decide)⟩
theorem fM.up (h:fM n m d){k:Nat}(hk:m<=k):fM n k d:=⟨h.kl,h.nl,h.ks,h.ns,Nat.le_trans h.wl hk,h.EK,h.f0,h.f1⟩
theorem wE (h:d.Down=true):bu d=(⟨d.Kept,d.Now,d.Wait,d.Fuse,true⟩,10):=by unfold bu;rw [if_pos h];cases d;simp_all
theorem rM (h:d.Down=false)(f:d.Fuse=0):bu d=(⟨d.Kept,d.Now,d.Wait,-1,true⟩,10):=by unfold bu;rw [if_neg (by rw [h];decide),if_pos f]
theorem sO (h:d.Down=false)(f:¬ d.Fuse=0):bu d=(⟨d.Kept,d.Now,d.Wait,max (d.Fuse-1) (-1),false⟩,0):=by unfold bu;rw [if_neg (by rw [h];decide),if_neg f,h]
theorem wF {i:Int}(h:d.Down=true):cj d i=(⟨#[]⟩,10):=by unfold cj;rw [if_pos h]
theorem qx {i:Int}(h:d.Down=false)(hi:i<0∨(d.Now.length:Int)<=i):cj d i=(⟨#[]⟩,1):=by unfold cj;rw [if_neg (by rw [h];decide),if_pos hi]
theorem pP {i:Int}{x:ByteArray}(h:d.Down=false)(hi:0<=i)(hx:d.Now[i.toNat]? = some x):cj d i=(x,0):=by
 have:=(List.getElem?_eq_some_iff.1 hx).1
 unfold cj;rw [if_neg (by rw [h];decide),if_neg (by omega),hx];rfl
theorem mj {i:Int}{x:ByteArray}(hi:i<0∨(d.Now.length:Int)<=i∨48<x.size):au d i x=(d,1):=by unfold au;rw [if_pos hi]
theorem wG {i:Int}{x:ByteArray}(h0:0<=i)(h1:i<(d.Now.length:Int))(h2:x.size<=48)(h:¬ (bu d).2=0):au d i x=bu d:=by unfold au;rw [if_neg (by omega),if_neg h]
theorem iH {i:Int}{x:ByteArray}(h0:0<=i)(h1:i<(d.Now.length:Int))(h2:x.size<=48)(h:(bu d).2=0) :
 au d i x=(⟨(bu d).1.Kept,(bu d).1.Now.set i.toNat (full x),(bu d).1.Wait++[⟨i,full x⟩],(bu d).1.Fuse,(bu d).1.Down⟩,0):=by unfold au;rw [if_neg (by omega),if_pos h]
theorem mQ (d:cw):(bu d).1.Kept=d.Kept/\(bu d).1.Now=d.Now/\(bu d).1.Wait=d.Wait:=by
 unfold bu;(repeat' split) <;> exact ⟨rfl,rfl,rfl⟩
theorem fM.step (h:fM n m d):fM n m (bu d).1:=by
 obtain ⟨e1,e2,e3⟩:=mQ d
 have f0:=h.f0;have f1:=h.f1
 refine ⟨by rw [e1];exact h.kl,by rw [e2];exact h.nl,by rw [e1];exact h.ks,by rw [e2];exact h.ns,by rw [e3];exact h.wl,by rw [e3];exact h.EK,?_,?_⟩ <;>
  (unfold bu;(repeat' split) <;> (try dsimp only) <;> omega)
theorem F9 {l:List ByteArray}(h:∀s∈l,s.size=48){i:Nat}{x:ByteArray}(hx:x.size=48):∀s∈l.set i x,s.size=48:=fun s hs=>by
 rcases List.mem_or_eq_of_mem_set hs with h1|h1
 .exact h s h1
 .rw [h1];exact hx
theorem fM.write (h:fM n m d)(i:Int)(s:ByteArray):fM n (m+1) (au d i s).1:=by
 unfold au
 split
 .exact h.up (Nat.le_succ m)
 .
  rename_i hb
  split
  .
   have hs:=h.step
   have hf:=Hn (s:=s) (by omega)
   have e:=(mQ d).2.1
   have nl:=h.nl
   refine ⟨hs.kl,by dsimp only;rw [List.length_set];exact hs.nl,hs.ks,F9 hs.ns hf,by dsimp only;rw [List.length_append,List.length_singleton];have:=hs.wl;omega,fun t ht=>?_,hs.f0,hs.f1⟩
   rcases List.mem_append.1 ht with ht|ht
   .exact hs.EK t ht
   .rw [List.mem_singleton.1 ht];exact ⟨by dsimp only;omega,by dsimp only;omega,hf⟩
  .exact h.step.up (Nat.le_succ m)
theorem fM.flush (h:fM n m d):fM n m (ai d).1:=by
 unfold ai
 have hs:=h.step
 split
 .exact ⟨hs.nl,hs.nl,hs.ns,hs.ns,Nat.zero_le _,fun t ht=>(by cases ht),hs.f0,hs.f1⟩
 .exact hs
theorem fM.arm (h:fM n m d){k:Int}(hk:k<=9223372036854775807):fM n m (fS d k):=⟨h.kl,h.nl,h.ks,h.ns,h.wl,h.EK,by unfold fS;dsimp only;omega,by unfold fS;dsimp only;omega⟩
theorem JD (k:Int):∀ (w:List Turn) (j:Nat) (l:List ByteArray),(∀s∈l,s.size=48)->(∀t∈w,t.Data.size=48)->(((w.zipIdx j).foldl (nI k) l).length=l.length /\ ∀s∈(w.zipIdx j).foldl (nI k) l,s.size=48)
 | [],j,l,h,hw=>⟨rfl,h⟩
 | t::w,j,l,h,hw=>by
  rw [List.zipIdx_cons,List.foldl_cons]
  have h1:(nI k l (t,j)).length=l.length:=by unfold nI;split <;> simp
  have h2:∀s∈nI k l (t,j),s.size=48:=by
   unfold nI;split
   .exact F9 h (hw t (List.mem_cons_self ..))
   .exact h
  obtain ⟨a,b⟩:=JD k w (j+1) _ h2 (fun t ht=>hw t (List.mem_cons_of_mem _ ht))
  exact ⟨a.trans h1,b⟩
theorem zg {k:Int}{w:List Turn}{l:List ByteArray}{i:Nat}{t:Turn}(h:w[i]? = some t):lA k (w.take (i+1)) l=nI k (lA k (w.take i) l) (t,i):=by
 unfold lA
 have hi:=(List.getElem?_eq_some_iff.1 h).1
 rw [List.take_add_one,h]
 simp only [Option.toList_some,List.zipIdx_append,List.foldl_append,List.length_take,Nat.min_eq_left (Nat.le_of_lt hi),Nat.zero_add]
 rfl
theorem wH {k:Int}{w:List Turn}{l:List ByteArray}:(lA k w l).length=l.length:=by
 unfold lA
 generalize w.zipIdx=z
 induction z generalizing l with
 | nil=>rfl
 | cons p z ih=>rw [List.foldl_cons,ih];unfold nI;split <;> simp
theorem fM.restart (h:fM n m d)(k:Int):fM n 0 (a8 d k):=by
 obtain ⟨a,b⟩:=JD k d.Wait 0 d.Kept h.ks (fun t ht=>(h.EK t ht).2.2)
 exact ⟨a.trans h.kl,a.trans h.kl,b,b,Nat.le_refl _,fun t ht=>(by cases ht),(by show (-1:Int) <= -1;decide),(by show (-1:Int)<=9223372036854775807;decide)⟩
theorem fM.fine (h:fM n m d)(hn:n<=100000)(hm:m<=100000):d.Kept.length=d.Now.length/\d.Now.length<=100000/\d.Wait.length<=100000 /\ -1<=d.Fuse/\d.Fuse<=9223372036854775807:=by
 have h1:=h.kl;have h2:=h.nl;have h3:=h.wl;have h4:=h.f0;have h5:=h.f1
 refine ⟨?_,?_,?_,?_,?_⟩ <;> omega
theorem fM.rest (h:fM n m d)(hm:m<=100000):d.Kept.length=d.Now.length/\d.Wait.length<=100000/\(∀t∈d.Wait,0<=t.At/\t.At<(d.Kept.length:Int)):=by
 have h1:=h.kl;have h2:=h.nl;have h3:=h.wl
 refine ⟨by omega,by omega,fun t ht=>?_⟩
 have h4:=h.EK t ht
 rw [h1];exact ⟨h4.1,h4.2.1⟩
theorem kP (hd:d.Down=false)(hf:d.Fuse = -1):bu d=(⟨d.Kept,d.Now,d.Wait,-1,false⟩,0):=by rw [sO hd (by omega),hf];rfl
theorem CG {i:Int}{x:ByteArray}(hd:d.Down=false)(hf:d.Fuse = -1)(h:¬ (au d i x).2=0):(au d i x).1=d:=by
 by_cases hb:i<0∨(d.Now.length:Int)<=i∨48<x.size
 .rw [mj hb]
 .exfalso;apply h;rw [iH (by omega) (by omega) (by omega) (by rw [kP hd hf])]
theorem EL {i:Int}{x:ByteArray}(hd:d.Down=false)(hf:d.Fuse = -1)(h:(au d i x).2=0):au d i x=(⟨d.Kept,d.Now.set i.toNat (full x),d.Wait++[⟨i,full x⟩],-1,false⟩,0)/\0<=i/\i<(d.Now.length:Int)/\x.size<=48:=by
 by_cases hb:i<0∨(d.Now.length:Int)<=i∨48<x.size
 .rw [mj hb] at h;simp at h
 .
  refine ⟨?_,by omega,by omega,by omega⟩
  rw [iH (by omega) (by omega) (by omega) (by rw [kP hd hf]),kP hd hf]
theorem CH {i:Int}{x:ByteArray}(hd:d.Down=false)(hf:d.Fuse = -1):(au d i x).1.Down=false/\(au d i x).1.Fuse = -1:=by
 by_cases h:(au d i x).2=0
 .rw [(EL hd hf h).1];exact ⟨rfl,rfl⟩
 .rw [CG hd hf h];exact ⟨hd,hf⟩
theorem lB (hd:d.Down=false)(hf:d.Fuse = -1):ai d=(⟨d.Now,d.Now,[],-1,false⟩,0):=by
 unfold ai;rw [kP hd hf,if_pos rfl]
theorem wI {i:Nat}{x:ByteArray}(hd:d.Down=false)(hx:d.Now[i]? = some x):cj d (i:Int)=(x,0):=pP hd (by omega) (by rw [Int.toNat_natCast];exact hx)
end
end
end Go.Proofs.YtkbhcbipadkcaaaGreatDoor
