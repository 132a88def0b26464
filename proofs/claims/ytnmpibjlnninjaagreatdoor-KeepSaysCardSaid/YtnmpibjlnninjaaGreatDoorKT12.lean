import Derived.Test.YtnmpibjlnninjaaGreatDoorKT11
import Derived.Shelf.SlGeneric
import Derived.Shelf.SlSortCmp.WholeK
import Derived.Shelf.SlSortCmp.NoneTotal
import Derived.Ground.SlsfProg
import Derived.Sort.OwnSorted
import Derived.Laws.StructEq
section
set_option maxRecDepth 100000
namespace Go.Proofs
open Go.Shelf
def Tryz.laysSF_ren:Go.Shelf.Ren:=⟨fun|6=>153|15=>205|14=>204|28=>248|29=>249|20=>240|21=>241|22=>242|23=>243|24=>244|25=>245|26=>246|27=>247|46=>282|47=>283|48=>284|49=>285|50=>286|57=>307|n=>n,fun|22=>34|24=>115|25=>217|3=>3|39=>183|0=>0|53=>236|55=>33|4=>4|46=>277|45=>276|50=>201|5=>5|9=>9|66=>308|70=>312|76=>329|77=>330|n=>n,fun|n=>n⟩
theorem Tryz.laysSF:Go.Proofs.SlLaysF0.n6 Tryz.prog Tryz.laysSF_ren:=⟨by kernel_rfl,⟨Tryz.f153.name,by decide,Tryz.func153.trans (congrArg some (by kernel_rfl))⟩,⟨Tryz.f204.name,by decide,Tryz.func204.trans (congrArg some (by kernel_rfl))⟩,Tryz.func205.trans (congrArg some (by kernel_rfl)),⟨Tryz.f240.name,by decide,Tryz.func240.trans (congrArg some (by kernel_rfl))⟩,⟨Tryz.f241.name,by decide,Tryz.func241.trans (congrArg some (by kernel_rfl))⟩,⟨Tryz.f242.name,by decide,Tryz.func242.trans (congrArg some (by kernel_rfl))⟩,⟨Tryz.f243.name,by decide,Tryz.func243.trans (congrArg some (by kernel_rfl))⟩,⟨Tryz.f244.name,by decide,Tryz.func244.trans (congrArg some (by kernel_rfl))⟩,⟨Tryz.f245.name,by decide,Tryz.func245.trans (congrArg some (by kernel_rfl))⟩,⟨Tryz.f246.name,by decide,Tryz.func246.trans (congrArg some (by kernel_rfl))⟩,⟨Tryz.f247.name,by decide,Tryz.func247.trans (congrArg some (by kernel_rfl))⟩,Tryz.func248.trans (congrArg some (by kernel_rfl)),Tryz.func249.trans (congrArg some (by kernel_rfl)),⟨Tryz.f282.name,by decide,Tryz.func282.trans (congrArg some (by kernel_rfl))⟩,Tryz.func283.trans (congrArg some (by kernel_rfl)),Tryz.func284.trans (congrArg some (by kernel_rfl)),⟨Tryz.f285.name,by decide,Tryz.func285.trans (congrArg some (by kernel_rfl))⟩,⟨Tryz.f286.name,by decide,Tryz.func286.trans (congrArg some (by kernel_rfl))⟩,⟨Tryz.f307.name,by decide,Tryz.func307.trans (congrArg some (by kernel_rfl))⟩,Tryz.underlying0,Tryz.isAgg0,Tryz.sizeOf0,Tryz.zeroValue0,Tryz.underlying3,Tryz.isAgg3,Tryz.sizeOf3,Tryz.zeroValue3,Tryz.underlying4,Tryz.isAgg4,Tryz.sizeOf4,Tryz.zeroValue4,Tryz.underlying5,Tryz.isAgg5,Tryz.sizeOf5,Tryz.zeroValue5,Tryz.underlying9,Tryz.isAgg9,Tryz.sizeOf9,Tryz.zeroValue9,Tryz.underlying34,Tryz.isAgg34,Tryz.sizeOf34,Tryz.zeroValue34,Tryz.underlying217,Tryz.isAgg217,Tryz.sizeOf217,Tryz.zeroValue217,Tryz.underlying183,Tryz.isAgg183,Tryz.sizeOf183,Tryz.zeroValue183,Tryz.underlying276,Tryz.isAgg276,Tryz.sizeOf276,Tryz.zeroValue276,Tryz.underlying277,Tryz.isAgg277,Tryz.sizeOf277,Tryz.zeroValue277,Tryz.underlying201,Tryz.isAgg201,Tryz.sizeOf201,Tryz.zeroValue201,Tryz.underlying236,Tryz.isAgg236,Tryz.sizeOf236,Tryz.zeroValue236,Tryz.underlying33,Tryz.isAgg33,Tryz.sizeOf33,Tryz.zeroValue33,Tryz.underlying308,Tryz.isAgg308,Tryz.sizeOf308,Tryz.zeroValue308,Tryz.underlying312,Tryz.isAgg312,Tryz.sizeOf312,Tryz.zeroValue312,Tryz.underlying329,Tryz.isAgg329,Tryz.sizeOf329,Tryz.zeroValue329,Tryz.underlying330,Tryz.isAgg330,Tryz.sizeOf330,Tryz.zeroValue330⟩
end Go.Proofs
end
section
set_option maxRecDepth 100000
namespace Go.Proofs
open Go.Shelf
def Tryz.lays106_ren:Go.Shelf.Ren:=⟨fun|106=>137|213=>194|265=>235|n=>n,fun|9=>9|3=>3|n=>n,fun|n=>n⟩
theorem Tryz.lays106:Go.Proofs.Lays.n106 Tryz.prog Tryz.lays106_ren:=⟨by kernel_rfl,Tryz.func137.trans (congrArg some (by kernel_rfl)),Tryz.func194.trans (congrArg some (by kernel_rfl)),Tryz.func235.trans (congrArg some (by kernel_rfl)),Tryz.underlying3,Tryz.isAgg3,Tryz.sizeOf3,Tryz.zeroValue3,Tryz.underlying9,Tryz.isAgg9,Tryz.sizeOf9,Tryz.zeroValue9⟩
def Tryz.lays212_ren:Go.Shelf.Ren:=⟨fun|212=>119|263=>185|264=>186|n=>n,fun|46=>183|51=>236|146=>237|53=>33|148=>239|n=>n,fun|n=>n⟩
theorem Tryz.lays212:Go.Proofs.Lays.n212 Tryz.prog Tryz.lays212_ren:=⟨by kernel_rfl,Tryz.func119.trans (congrArg some (by kernel_rfl)),Tryz.func185.trans (congrArg some (by kernel_rfl)),Tryz.func186.trans (congrArg some (by kernel_rfl)),Tryz.underlying183,Tryz.isAgg183,Tryz.sizeOf183,Tryz.zeroValue183,Tryz.underlying236,Tryz.isAgg236,Tryz.sizeOf236,Tryz.zeroValue236,Tryz.underlying33,Tryz.isAgg33,Tryz.sizeOf33,Tryz.zeroValue33,Tryz.underlying237,Tryz.isAgg237,Tryz.sizeOf237,Tryz.zeroValue237,Tryz.underlying239,Tryz.isAgg239,Tryz.sizeOf239,Tryz.zeroValue239⟩
open Go.RowKit in
theorem Tryz.strings_Compare (a b:ByteArray)(w:World) :
    Calls Tryz.prog 137 #[.string a,.string b] w fun e w'=>e = .returned (.int .i64 (Lib.compareBytes a.data.toList b.data.toList))/\w'=w:=Any.strings_Compare Tryz.lays106 a b w
open Go.RowKit Go.Lib in
theorem Tryz.bits_Mul (x y:Nat)(hx:x<18446744073709551616)(hy:y<18446744073709551616)(w:World) :
    Calls Tryz.prog 119 #[.int .u64 x,.int .u64 y] w fun e w'=>e = .returned (.tuple #[.int .u64 ((x*y / 18446744073709551616:Nat):Int),.int .u64 ((x*y % 18446744073709551616:Nat):Int)])/\w'=w:=Any.bits_Mul Tryz.lays212 x y hx hy w
end Go.Proofs
end
namespace Go.Proofs.YtnmpibjlnninjaaGreatDoor
set_option linter.unusedVariables false
set_option linter.unusedSimpArgs false
set_option maxRecDepth 100000
set_option maxHeartbeats 90000000
section
open Go Go.RowKit Go.Sort
instance:Inhabited Change:=⟨⟨⟨#[]⟩,⟨#[]⟩,false⟩⟩
def NF (x y:Change):Int:=BU x.Key y.Key
theorem Cr (x y:Change):ltOf NF x y=fR x.Key y.Key:=by
 grind [ltOf,NF,fR,decide_eq_true,Ec,decide_eq_false]
theorem Iu:SWO (ltOf NF) where
 irrefl x:=by grind [Cr,eQ]
 trans x y z h k:=by grind [Cr,lO]
 ntrans x y z h k:=by
  grind [Cr,tw,lO]
def j6 (l:List Change):List Change:=(pdq (ltOf NF) l.toArray 0 l.length (Lib.bitLen l.length) true true).toList
theorem ql (l:List Change):(j6 l).Perm l/\(j6 l).Pairwise (fun x y => ¬ fR y.Key x.Key=true)/\(j6 l).length=l.length:=by
 have h:=pdq_sorts (ltOf NF) Iu l.toArray 0 l.toArray.size (Lib.bitLen l.length) true true (Nat.zero_le _) (Nat.le_refl _) (Or.inl rfl)
 rw [show l.toArray.size=l.length from rfl] at h
 obtain ⟨⟨hs,_,hp⟩,ho⟩:=h
 have hl:(j6 l).length=l.length:=af
 have e1:∀d:Array Change,d.size=l.length->(d.extract 0 l.length).toList=d.toList:=fun d hd=>by grind [Array.extract_size]
 refine ⟨?_,?_,hl⟩
 .
  have:=hp
  rw [e1 _ hs,e1 _ rfl] at this
  exact this
 rw [List.pairwise_iff_getElem]
 intro i j hi hj hij
 have:=ho i j (Nat.zero_le _) hij ae
 rw [Cr,getElem!_pos _ j au,getElem!_pos _ i au] at this
 intro q
 exact Bool.noConfusion (this.symm.trans q)
theorem EE {a b:List Change}(ha:cX a)(hb:cX b):j6 (tJ a b)=bj a b:=Ge ha hb (ql _).1 (ql _).2.1
theorem EF (l:List Change):flatK Enc.cells 3 l.toArray=(l.flatMap Enc.cells).toArray:=by
 have hf:=dL l
 have h3:Enc.k Change=3:=rfl
 rw [h3] at hf
 refine ext_get! (by simp [hf]) fun t ht=>?_
 rw [size_flatK] at ht
 have ht':t<l.length*3:=ht
 rw [get_flatK _ _ _ t ht]
 have hi:t / 3<l.length:=ae
 have hj:t % 3<(Enc.cells (l[t / 3]'hi)).length:=by grind [Enc.len]
 have g:=flat_get l (t / 3) (l[t / 3]'hi) (t % 3) _ (List.getElem?_eq_getElem hi) (List.getElem?_eq_getElem hj)
 grind
theorem Mr {w:World}{g:Nat}{cur:Array Value}{e:TypeId}{xs:List Value}(hb:w.heap[g]? = some (.cells cur e (0,0)))(ht:cur.toList.take xs.length=xs):Holds id w g 0 xs.toArray:=by
 intro j hj
 have hj':j<xs.length:=ae
 refine ⟨?_,by grind [World.frozen?]⟩
 have h1:(cur.toList.take xs.length)[j]? = xs[j]?:=by rw [ht]
 rw [List.getElem?_take_of_lt hj'] at h1
 simp_all [World.cell?,Nat.zero_add,Option.isSome_none,Bool.false_eq_true,if_false,Array.getElem?_toList]
theorem OD {w:World}{g n:Nat}{os:Array Obj}{cur:Array Value}{e:TypeId}{fr:Nat×Nat}(d:Array Value)(hb:w.heap[g]? = some (.cells cur e fr)) :
 (Sort.grow (putRow id (Sort.ahead w n) g 0 d) os).heap[g]? = some (.cells (putCells id 0 d cur) e fr):=by
 grind [putRow,mapBlock,Sort.ahead,onCells,Array.getElem?_eq_some_iff,heap_grow_old]
theorem Gr {w:World}{g n:Nat}{os:Array Obj}(d:Array Value):w.grownBy (Sort.grow (putRow id (Sort.ahead w n) g 0 d) os) (some g):=by
 refine ⟨rfl,rfl,rfl,bC,fun k hk hne=>?_⟩
 grind [putRow,mapBlock,Sort.ahead,heap_grow_old]
theorem OE (cur:Array Value)(ts:List Value)(h:ts.length<=cur.size):(putCells id 0 ts.toArray cur).toList.take ts.length=ts:=by
 apply List.ext_getElem?
 grind [putCells,List.getElem?_take_of_lt,List.getElem?_take_eq_none,List.getElem?_eq_none]
theorem W3 (x y:Change)(w:World):Calls Tryz.prog 154 #[.agg (Enc.cells x).toArray,.agg (Enc.cells y).toArray] w fun e w'=>e = .returned (.int .i64 (NF x y)) /\ ∃q os',w'=Sort.grow (w.drewN q) os':=by
 have hcon:∀W,Calls Tryz.prog 137 #[.string x.Key,.string y.Key] W fun e w'=>e = .returned (.int .i64 (NF x y))/\w'=W:=fun W=>(Tryz.strings_Compare x.Key y.Key W).mono fun e w' ⟨h1,h2⟩=>⟨by rw [h1,<- oH,<- oH,HQ];rfl,h2⟩
 generalize NF x y=r at hcon ⊢
 show Calls Tryz.prog 154 #[.agg #[.string x.Key,.string x.Val,.bool x.Gone],.agg #[.string y.Key,.string y.Val,.bool y.Gone]] w _
 go_enter Tryz.func154,Tryz.ntmps154
 go_wp2_with (go_at_call 137;refine (hcon _).mono ?_;rintro e w' ⟨rfl,rfl⟩)
 go_ret
 exact ⟨rfl,0,_,by rw [alloc_eq_grow,alloc_eq_grow,grow_grow];rfl⟩
theorem Gs {w:World}{g cap n:Nat}{os:Array Obj}{l ts:List Change}{v:Value}(hv:v = .slice (some ⟨g,0,none⟩) l.length cap)(how:Own 0 115 w v l)(hl:ts.length=l.length) :
 Turned [ah.row 115 v l] [ah.row 115 v ts] w (Sort.grow (putRow id (Sort.ahead w n) g 0 (ts.flatMap Enc.cells).toArray) os):=by
 obtain ⟨hlen,hn|⟨g',cap',cur,hv',_,hgg,hnc,hcm,hcs,htk⟩⟩:=how
 .grind
 rw [hv] at hv'
 simp only [Value.slice.injEq,Option.some.injEq,Addr.mk.injEq,and_true,true_and] at hv'
 obtain ⟨rfl,rfl⟩:=hv'
 have h3:cur.size=cap*3:=hcs
 have hf:(ts.flatMap Enc.cells).length=ts.length*3:=dL ts
 have hgb:=Gr (w:=w) (g:=g) (n:=n) (os:=os) (ts.flatMap Enc.cells).toArray
 have hown:Own 0 115 (Sort.grow (putRow id (Sort.ahead w n) g 0 (ts.flatMap Enc.cells).toArray) os) v ts:=by
  refine ⟨dL ts,.inr ⟨g,cap,_,au,Nat.zero_le _,OD _ hgg,ae,hcm,by grind [putCells],?_⟩⟩
  show (putCells id 0 (ts.flatMap Enc.cells).toArray cur).toList.take (ts.length*3)=_
  grind [OE,Nat.mul_le_mul_right]
 have hlt:g<w.heap.size:=(Array.getElem?_eq_some_iff.1 hgg).1
 refine ⟨⟨hgb.os,hgb.tape,hgb.output,hgb.size,fun k hk hx=>hgb.block k hk (fun e=>hx ?_)⟩,?_,?_,fun k hk=>?_⟩
 .grind [blks,ah.row,eA]
 .intro r hr;simp at hr;subst hr;exact hown
 .grind [blks,ah.row,eA]
 rw [hv] at hk;simp [blks,ah.row,eA] at hk;subst hk
 exact ⟨Nat.lt_of_lt_of_le hlt hgb.size,.inl (by grind [blks,ah.row,eA])⟩
theorem Turned.Vd {B0:List ah}{w:World}(h:Hnd B0 w):Turned B0 B0 w w:=⟨lL.refl _ _,h.ok,h.sep,fun k hk=>⟨h.lt k hk,.inl hk⟩⟩
theorem Jy (v:Value)(l:List Change)(w:World)(H:Hnd [ah.row 115 v l] w)(hl:l.length<=1000000):Calls Tryz.prog 153 [v,.func (.func 154) #[] #[]].toArray w fun e w' => ∃_z:Unit,e = .returned (.tuple #[])/\Turned [ah.row 115 v l] [ah.row 115 v (j6 l)] w w':=by
 have how:Own 0 115 w v l:=H.ok (ah.row 115 v l) (List.mem_singleton.2 rfl)
 have hs:=(ql l).2.2
 rcases how.2 with ⟨rfl,h0⟩ | ⟨g,cap,cur,hv,_,hgg,hnc,hcm,hcs,htk⟩
 .
  have:l=[]:=List.eq_nil_of_length_eq_zero h0
  subst this
  refine (AnyF.slices_SortFunc_none { Tryz.laysSF with} none 0 _ w).mono ?_
  rintro e w' ⟨rfl,rfl⟩
  have e0:j6 []=[]:=List.eq_nil_of_length_eq_zero hs
  rw [e0]
  exact ⟨(),rfl,Turned.Vd H⟩
 have hH:HoldsK Enc.cells 3 w g 0 l.toArray:=by
  grind [HoldsK,EF,Mr,dL]
 have eg:dB 154:=enters_of Tryz.func154 eF rfl
 rw [hv]
 refine (AnyQ.slices_SortFunc_eq Tryz.laysSF 3 Tryz.isAgg115 Tryz.sizeOf115 Enc.cells Enc.len Enc.one NF Iu 154 #[] g 0 cap l.toArray w eg (fun _ _ _ _ x y=>W3 x y _) hH (Array.getElem?_eq_some_iff.1 hgg).1 au).mono ?_
 rintro e w' ⟨rfl,n,os,rfl⟩
 refine ⟨(),rfl,?_⟩
 have:=Gs (os:=os) (n:=n) (ts:=j6 l) hv how hs
 rw [hv] at this
 unfold sortWorldK putRowK
 have e2:(pdq (ltOf NF) l.toArray 0 l.toArray.size (Lib.bitLen l.toArray.size) true true)=(j6 l).toArray:=eF
 grind [EF]
end
section
open Go Go.RowKit
set_option linter.unusedSectionVars false
theorem AO {P:Program}{op:BinOp}{t:TypeId}(h:P.eqGuardType P.depth t=false)(a b:Operand)(xs ys:Array Value)(w:World):(eqGuard op t a b (.agg xs) (.agg ys)).run P w = .ok () w:=by
 have hp:(program:Sem Program).run P w = .ok P w:=rfl
 simp_all [eqGuard]
theorem uL {P:Program}{t:TypeId}{β:Type}[DecidableEq β]{cs:β->List Value}(hg:P.eqGuardType P.depth t=false)(he:∀x y w,(Op.equal t (.agg (cs x).toArray) (.agg (cs y).toArray)).run P w = .ok (decide (x=y)) w):KF P t (fun x => .agg (cs x).toArray):=by
 refine ⟨fun x y w a b=>⟨AO hg a b _ _ w,AO hg a b _ _ w⟩,fun x y w=>⟨?_,?_⟩⟩
 .grind [binOp,Sem.run_bind,Result.andThen_ok,Sem.run_pure]
 grind [binOp,Sem.run_bind,Result.andThen_ok,Sem.run_pure]
theorem uM:KF Tryz.prog 126 ak.val:=by
 have hS:Tryz.prog.underlying 126=some (.struct (Tryz.prog.fieldsOf 126)):=ao
 have hp:Tryz.prog.stoodInHeld 126=false:=ao
 refine uL (cs:=ak.cs) ao fun x y w=>?_
 have u3:=Tryz.underlying3;have a3:=Tryz.isAgg3;have z3:=Tryz.sizeOf3
 obtain ⟨x1,x2,x3,x4,x5⟩:=x;obtain ⟨y1,y2,y3,y4,y5⟩:=y
 rw [Op.equal,Op.maxDepth,show (10000:Nat)=9999+1 from rfl,run_equalIn_agg w 9999 126 _ _ hS hp]
 simp only [Program.fieldsOf,Tryz.underlying126]
 go_simp
 by_cases h1:x1=y1 <;> by_cases h2:x2=y2 <;> by_cases h3:x3=y3 <;> by_cases h4:x4=y4 <;> by_cases h5:x5=y5 <;> simp [h1,h2,h3,h4,h5]
theorem iO:KF Tryz.prog 32 Place.val:=by
 have hS:Tryz.prog.underlying 32=some (.struct (Tryz.prog.fieldsOf 32)):=ao
 have hp:Tryz.prog.stoodInHeld 32=false:=ao
 refine uL (cs:=fun x:Place=>[.int .i64 x.aB,.int .i64 x.Slot]) ao fun x y w=>?_
 have u3:=Tryz.underlying3;have a3:=Tryz.isAgg3;have z3:=Tryz.sizeOf3
 obtain ⟨x1,x2⟩:=x;obtain ⟨y1,y2⟩:=y
 rw [Op.equal,Op.maxDepth,show (10000:Nat)=9999+1 from rfl,run_equalIn_agg w 9999 32 _ _ hS hp]
 simp only [Program.fieldsOf,Tryz.underlying32]
 go_simp
 by_cases h1:x1=y1 <;> by_cases h2:x2=y2 <;> simp [h1,h2]
theorem Ms (d:Nat)(x y:Place)(w:World):(Op.equalIn (d+1+1) 32 (.agg #[.int .i64 x.aB,.int .i64 x.Slot]) (.agg #[.int .i64 y.aB,.int .i64 y.Slot])).run Tryz.prog w = .ok (decide (x=y)) w:=by
 have hS:Tryz.prog.underlying 32=some (.struct (Tryz.prog.fieldsOf 32)):=eF
 have hp:Tryz.prog.stoodInHeld 32=false:=bC
 have u3:=Tryz.underlying3;have a3:=Tryz.isAgg3;have z3:=Tryz.sizeOf3
 obtain ⟨x1,x2⟩:=x;obtain ⟨y1,y2⟩:=y
 rw [run_equalIn_agg w (d+1) 32 _ _ hS hp]
 simp only [Program.fieldsOf,Tryz.underlying32]
 go_simp
 grind
theorem Mt:KF Tryz.prog 124 Held.val:=by
 have hS:Tryz.prog.underlying 124=some (.struct (Tryz.prog.fieldsOf 124)):=ao
 have hp:Tryz.prog.stoodInHeld 124=false:=ao
 refine uL (cs:=Held.cs) ao fun x y w=>?_
 have u3:=Tryz.underlying3;have a3:=Tryz.isAgg3;have z3:=Tryz.sizeOf3;have a4:=Tryz.isAgg32;have z4:=Tryz.sizeOf32
 obtain ⟨⟨x1,x2⟩,x3⟩:=x;obtain ⟨⟨y1,y2⟩,y3⟩:=y
 rw [Op.equal,Op.maxDepth,show (10000:Nat)=9999+1 from rfl,run_equalIn_agg w 9999 124 _ _ hS hp]
 have hpl:=fun w=>Ms 9997 ⟨x1,x2⟩ ⟨y1,y2⟩ w
 simp only [Nat.reduceAdd] at hpl
 simp only [Program.fieldsOf,Tryz.underlying124]
 go_simp
 by_cases h1:x1=y1 <;> by_cases h2:x2=y2 <;> by_cases h3:x3=y3 <;> simp [h1,h2,h3]
theorem Ct:KF Tryz.prog 115 Change.val:=by
 have hS:Tryz.prog.underlying 115=some (.struct (Tryz.prog.fieldsOf 115)):=ao
 have hp:Tryz.prog.stoodInHeld 115=false:=ao
 refine uL (cs:=Change.cs) ao fun x y w=>?_
 have u3:=Tryz.underlying9;have a3:=Tryz.isAgg9;have z3:=Tryz.sizeOf9;have u4:=Tryz.underlying4;have a4:=Tryz.isAgg4;have z4:=Tryz.sizeOf4
 obtain ⟨x1,x2,x3⟩:=x;obtain ⟨y1,y2,y3⟩:=y
 rw [Op.equal,Op.maxDepth,show (10000:Nat)=9999+1 from rfl,run_equalIn_agg w 9999 115 _ _ hS hp]
 simp only [Program.fieldsOf,Tryz.underlying115]
 go_simp
 have tl:∀a b:ByteArray,a.toList=b.toList↔a=b:=fun a b=>by have:=kN a b;rw [Bool.eq_iff_iff] at this;simpa using this
 by_cases h1:x1=y1 <;> by_cases h2:x2=y2 <;> by_cases h3:x3=y3 <;> simp [h1,h2,h3,tl]
section
variable {α:Type} [DecidableEq α] {a b:List α}
theorem yx (h:¬ a.length=b.length):false=decide (a=b):=(decide_eq_false (fun e=>h (by rw [e]))).symm
theorem yA {k:Nat}{x y:α}(hx:a[k]? = some x)(hy:b[k]? = some y)(h:¬ x=y):false=decide (a=b):=(decide_eq_false (fun e=>h au)).symm
theorem qm {k:Nat}(hl:a.length=b.length)(hk:¬ k<a.length)(h:∀j,j<k->a[j]? = b[j]?):true=decide (a=b):=by
 refine (decide_eq_true (List.ext_getElem? fun j=>?_)).symm
 grind
theorem nW {k:Nat}{x y:α}(h:∀j,j<k->a[j]? = b[j]?)(hx:a[k]? = some x)(hy:b[k]? = some y)(e:x=y):∀j,j<k+1->a[j]? = b[j]?:=by
 grind
end
end
section
open Go Go.RowKit
attribute [local irreducible] Run Rg Rq Qt Qa Stp Dg Do Dm bN
theorem rM (wK:Value)(a:List ak)(yB:Value)(b:List ak)(w:World)(Ve:Sl w wK a)(Vf:Sl w yB b):Calls Tryz.prog 45 #[wK,yB] w fun e w'=>e = .returned (.bool (decide (a=b)))/\Ext w w':=by
 have OG:=Ve.dY
 have X1:=Vf.dY
 refine R.eV ?_
 refine C (a.length=b.length) ?_ ?_ <;> intro h1
 .
  refine R.loop (fun k:Nat=>[(0,wK),(1,yB),(5,iV (k:Int))]) (fun k:Nat=>[]) (fun k:Nat=>[]) (fun k:Nat=>k<=a.length /\ ∀j,j<k->a[j]? = b[j]?) (fun k:Nat=>a.length-k) 0 O (by exact ⟨ae,fun j hj=>absurd hj (Nat.not_lt_zero _)⟩) (sF O) (dE [] [] O) ?_
  rintro k ⟨hk,HA⟩
  refine U ?_
  refine C (k<a.length) ?_ ?_ <;> intro h2
  .
   obtain ⟨x1,hx1⟩:=gE a k
   obtain ⟨x2,hx2⟩:=gE b k
   refine C (x1=x2) ?_ ?_ <;> intro h3
   .
    refine R.cG O mixed ao<|U ?_
    refine Q.q (q.j3 (x:=x1) (y:=x2) uM O O h3) O<|U ?_
    refine R.back (k+1) O (by exact ⟨ae,nW HA hx1 hx2 af⟩) ae (sF O) (dE [] [] O)
   refine R.cG O mixed ao<|U ?_
   refine Q.q (q.j4 (x:=x1) (y:=x2) uM O O h3) O<|U ?_
   refine R.rt ?_
   (exact yA hx1 hx2 af)
  refine R.rt ?_
  (exact qm af af HA)
 refine R.rt ?_
 (exact yx af)
theorem lG (wK:Value)(a:List Held)(yB:Value)(b:List Held)(w:World)(Ve:Sl w wK a)(Vf:Sl w yB b):Calls Tryz.prog 46 #[wK,yB] w fun e w'=>e = .returned (.bool (decide (a=b)))/\Ext w w':=by
 have OG:=Ve.dY
 have X1:=Vf.dY
 refine R.eV ?_
 refine C (a.length=b.length) ?_ ?_ <;> intro h1
 .
  refine R.loop (fun k:Nat=>[(0,wK),(1,yB),(5,iV (k:Int))]) (fun k:Nat=>[]) (fun k:Nat=>[]) (fun k:Nat=>k<=a.length /\ ∀j,j<k->a[j]? = b[j]?) (fun k:Nat=>a.length-k) 0 O (by exact ⟨ae,fun j hj=>absurd hj (Nat.not_lt_zero _)⟩) (sF O) (dE [] [] O) ?_
  rintro k ⟨hk,HA⟩
  refine U ?_
  refine C (k<a.length) ?_ ?_ <;> intro h2
  .
   obtain ⟨x1,hx1⟩:=gE a k
   obtain ⟨x2,hx2⟩:=gE b k
   refine C (x1=x2) ?_ ?_ <;> intro h3
   .
    refine R.cG O mixed ao<|U ?_
    refine Q.q (q.j3 (x:=x1) (y:=x2) Mt O O h3) O<|U ?_
    refine R.back (k+1) O (by exact ⟨ae,nW HA hx1 hx2 af⟩) ae (sF O) (dE [] [] O)
   refine R.cG O mixed ao<|U ?_
   refine Q.q (q.j4 (x:=x1) (y:=x2) Mt O O h3) O<|U ?_
   refine R.rt ?_
   (exact yA hx1 hx2 af)
  refine R.rt ?_
  (exact qm af af HA)
 refine R.rt ?_
 (exact yx af)
end
section
open Go Go.RowKit
attribute [local irreducible] Run Rg Rq Qt Qa Stp Dg Do Dm bN
theorem vX (bA:Value)(l:List ByteArray)(w:World)(own:List Nat)(H:HN w own [] [ah.ls bA l])(hl:l.length<=1000000):RC Tryz.prog 60 #[bA] H (fun z:Value=>z) (fun z=>[ah.row 9 z l]) (fun _=>[]):=by
 have zy:=H.aZ 0 rfl
 refine R.eN H ?_
 rcases Bool.eq_false_or_eq_true (pS bA) with h1|h1
 .
  refine R.q (q.IX (congrArg Value.bool h1) (q.px (zw 0 O) O O Tryz.underlying61)) O<|U ?_
  refine R.row0 (α:=ByteArray) 9 ?_
  rw [show l=_ from Sl.pS (H.cq 0 rfl) af]
  exact R.x1 nS [0,1] []
 refine R.q (q.IX (congrArg Value.bool h1) (q.px (zw 0 O) O O Tryz.underlying61)) O<|U ?_
 refine R.s O (s.bs (l:=([]:List ByteArray)) iy Il O O O O O O O) fun b1=>U ?_
 refine R.ap fun v1=>?_
 have hz:l=(([])++l):=by (rfl)
 rw [hz]
 exact R.x1 v1 [0,1] []
theorem yC (sx:ByteArray)(w:World)(hs:sx.size<=48):Calls Tryz.prog 59 #[.string sx] w fun e w'=>e = .returned (.string (full sx))/\Ext w w':=by
 refine R.eV ?_
 refine R.q (q.jY (r:=((48-sx.size:Nat):Int)) O O) O<|R.s O (s.Wz (m:=(48-sx.size)) aM O O O O O ae O) fun b1=>?_
 refine R.q (q.jg (cm 0 O) O aM Tryz.underlying5 Tryz.underlying9) O<|R.q (q.cat O O (by rw [da (List.replicate _ _),List.length_replicate];omega)) O<|U ?_
 refine R.rt ?_
 rfl
theorem EG (n:Nat)(w:World)(hn:n<=1000000):Calls Tryz.prog 119 #[.int .u64 ((1:Nat):Int),.int .u64 (n:Int)] w fun e w'=>e = .returned (.tuple #[.int .u64 0,.int .u64 (n:Int)])/\Ext w w' :=
 (Tryz.bits_Mul 1 n aD ae w).mono fun e w' ⟨h1,h2⟩=>⟨by
  rw [h1,Nat.one_mul,Nat.div_eq_of_lt ae,Nat.mod_eq_of_lt ae];rfl,by rw [h2];exact Ext.refl _⟩
theorem EH (a n:Nat)(w:World)(hn:a=1/\n<=1000000):Calls Tryz.prog 119 #[.int .u64 (a:Int),.int .u64 (n:Int)] w fun e w'=>e = .returned (.tuple #[.int .u64 0,.int .u64 (n:Int)])/\Ext w w':=by
 obtain ⟨rfl,hn⟩:=hn;exact EG n w hn
theorem EI {α:Type}{l x:List α}{a:α}{n k:Nat}(hx:x=List.replicate k a++l)(m:Nat)(hm:m<=k)(hl:k+m<=x.length):x.take k++(x.take k).take m++x.drop (k+m)=List.replicate (k+m) a++l.drop m:=by
 subst hx
 have h1:(List.replicate k a).length=k:=List.length_replicate
 rw [List.take_left' h1,List.take_replicate,Nat.min_eq_left hm,List.drop_append,h1,List.drop_of_length_le (by rw [h1];omega),List.nil_append,show k+m-k=m by omega,<- List.replicate_append_replicate]
theorem EJ (bA:Value)(l:List ByteArray)(n:Nat)(w:World)(own:List Nat)(H:HN w own [] [ah.ls bA l])(hl:l.length=1)(hn:1<=n/\n<=1000):RC Tryz.prog 58 #[bA,iV (n:Int)] H (fun z:Value=>z) (fun z=>[ah.row 9 z ((List.replicate n (l.headD ⟨#[]⟩)):List ByteArray)]) (fun _=>[]):=by
 have zy:=H.aZ 0 rfl
 refine R.eN H ?_
 refine R.q (q.mJ (r:=((l.length:Nat):Int)) O (by rw [Tryz.underlying3];rfl) Tryz.underlying183 (Bo ae)) O<|U ?_
 refine R.q (q.mJ (r:=((n:Nat):Int)) O (by rw [Tryz.underlying3];rfl) Tryz.underlying183 (Bo ae)) O<|R.kc O O (fun w hw=>EH l.length n w ae)<|U ?_
 refine R.q (q.mJ (r:=((n:Nat):Int)) O (by rw [Tryz.underlying183];rfl) Tryz.underlying3 (wr ae)) O<|R.s O (s.Ub (m:=n) (z0:=(⟨#[]⟩:ByteArray)) iy O O O aD O O (by simp [Enc.k];omega) O) fun b1=>U ?_
 refine R.s O (s.FU (o:=0) (m:=1) 0 _ O (zw 0 O) O (.inr ⟨rfl,rfl⟩) O iy ae ae aE ae O O) fun _=>U ?_
 refine R.loop (fun g_:Nat×Value×(List ByteArray)=>[(7,g_.2.1),(8,iV (g_.1:Int))]) (fun g_=>[ah.row 9 g_.2.1 g_.2.2,ah.held w own]) (fun g_=>[ah.ls bA l]) (fun g_=>1<=g_.1/\g_.1<=n/\g_.2.2=List.replicate g_.1 (l.headD ⟨#[]⟩)++List.replicate (n-g_.1) (⟨#[]⟩:ByteArray)) (fun g_=>n-g_.1) (1,.slice (some ⟨b1,0,none⟩) n n,((List.replicate n (⟨#[]⟩:ByteArray)).take 0++l.take 1++(List.replicate n (⟨#[]⟩:ByteArray)).drop (0+1))) O (by refine ⟨ae,ae,?_⟩;match l,hl with | [a],_=>simp) (sF O) (dE [0,1] [0] O) ?_
 rintro ⟨k,u,rs⟩ ⟨hk0,hk,HR⟩
 dsimp only at *
 have hrl:rs.length=n:=by rw [HR];simp;omega
 refine U ?_
 refine C (k<rs.length) ?_ ?_ <;> intro h1
 .
  refine R.dC (fuel:=10) [1] O O mixed O<|D.l [0,1,2,4,5] [1] [0] O<|U ?_
  refine D.two (i:=3) (j:=6) O O ?_ ?_
  .
   refine Do.k [1] [0] (q.cR (i:=k) (cm 0 O) O O iy O ae) ?_
   refine D.k 6 O [1] [0] (q.jJ (i:=k) (cm 0 O) O O Tryz.underlying61 Io O ae) ?_
   refine D.p 7 O [1] [0] (s.FU (o:=k) (m:=(min k (n-k))) 0 _ O (fun w hw=>Sl.to (hw.row 0 O) ae) O (.inl O) O iy ae aE ae aE O O) fun _=>?_
   refine D.l [8,9] [1] [0] O<|U ?_
   refine D.done<|R.back (k+min k (n-k),u,(rs.take k++(rs.take k).take (min k (n-k))++rs.drop (k+(min k (n-k))))) O (by refine ⟨ae,ae,?_⟩;rw [EI (n:=n) HR (min k (n-k)) ae ae,List.drop_replicate,show n-k-min k (n-k)=n-(k+min k (n-k)) by omega]) aG (sF O) (ck [0,1] [0] O)
  refine Do.k [1] [0] (q.jJ (i:=k) (cm 0 O) O O Tryz.underlying61 Io O ae) ?_
  refine D.k 3 O [1] [0] (q.cR (i:=k) (cm 0 O) O O iy O ae) ?_
  refine D.p 7 O [1] [0] (s.FU (o:=k) (m:=(min k (n-k))) 0 _ O (fun w hw=>Sl.to (hw.row 0 O) ae) O (.inl O) O iy ae aE ae aE O O) fun _=>?_
  refine D.l [8,9] [1] [0] O<|U ?_
  refine D.done<|R.back (k+min k (n-k),u,(rs.take k++(rs.take k).take (min k (n-k))++rs.drop (k+(min k (n-k))))) O (by refine ⟨ae,ae,?_⟩;rw [EI (n:=n) HR (min k (n-k)) ae ae,List.drop_replicate,show n-k-min k (n-k)=n-(k+min k (n-k)) by omega]) aG (sF O) (ck [0,1] [0] O)
 have hz:List.replicate n (l.headD ⟨#[]⟩)=rs:=by (rw [HR,show k=n by omega];simp)
 rw [hz]
 exact R.x1 u [0,1] []
theorem Mu (n:Int)(w:World)(own:List Nat)(H:HN w own [] [])(hn:1<=n/\n<=200):RS Tryz.prog 23 #[iV n] H (dNew (Int.toNat n)) (fun _ (z:Nat×Value×Value×Value) => .tuple #[pV z.1,.nilIface]) (fun s z=>[ah.box z.1 [z.2.1,z.2.2.1,z.2.2.2,iV s.Fuse,.bool s.Down] 120,ah.row 9 z.2.1 s.Kept,ah.row 9 z.2.2.1 s.Now,ah.row 196 z.2.2.2 s.Wait]) (fun _ _=>[]):=by
 obtain ⟨nN,YV⟩:∃m:Nat,n=(m:Int):=⟨n.toNat,ae⟩;subst YV
 refine R.eN H ?_
 refine R.kc O O (fun w hw=>yC (⟨#[]⟩) w aD)<|R.s O (s.bs (l:=([full (⟨#[]⟩)]:List ByteArray)) iy Il O O O O O O O) fun b1=>U ?_
 refine R.s O (s.Bv (Bl:=[ah.row 9 (.slice (some ⟨b1,0,none⟩) 1 1) ([full (⟨#[]⟩)]:List ByteArray)]) (Fl:=[ah.ls (.slice (some ⟨b1,0,none⟩) 1 1) ([full (⟨#[]⟩)]:List ByteArray)]) [0,1] [0] (fun jo:Value=>jo) (fun jo:Value=>[ah.row 9 jo ((List.replicate nN (([full (⟨#[]⟩)]).headD ⟨#[]⟩)):List ByteArray)]) O O (lN s7) O UV O O (fun w own hw H=>EJ (.slice (some ⟨b1,0,none⟩) 1 1) ([full (⟨#[]⟩)]) nN w own H eF ae) O) fun z1=>U ?_
 refine R.s O (s.Bv (Bl:=[ah.row 9 z1 (List.replicate nN (([full (⟨#[]⟩)]).headD ⟨#[]⟩):List ByteArray)]) (Fl:=[ah.ls z1 (List.replicate nN (([full (⟨#[]⟩)]).headD ⟨#[]⟩):List ByteArray)]) [0,1,2] [0] (fun jo:Value=>jo) (fun jo:Value=>[ah.row 9 jo ((List.replicate nN (([full (⟨#[]⟩)]).headD ⟨#[]⟩)):List ByteArray)]) O O (lN s7) O UW O O (fun w own hw H=>vX z1 (List.replicate nN (([full (⟨#[]⟩)]).headD ⟨#[]⟩)) w own H aE) O) fun z2=>?_
 refine R.q (q.Bu RG O (fun w hw=>kB (Sl.Bt (hw.row 1 O)) (kB (Sl.Bt (hw.row 0 O)) (kB O Bs))) O) O<|R.nb fun b2=>?_
 refine R.row0 (α:=Turn) 196 ?_
 have hz:dNew (Int.toNat ((nN:Nat):Int))=(⟨List.replicate nN (([full (⟨#[]⟩)]).headD ⟨#[]⟩),List.replicate nN (([full (⟨#[]⟩)]).headD ⟨#[]⟩),[],-1,false⟩:bZ):=by (rfl)
 rw [hz]
 exact R.x2 (b2,z1,z2,nS) [1,3,2,0,5] []
theorem fN (aF:Nat)(ay aC az:Value)(dk:bZ)(w:World)(yD:(ah.box aF [ay,aC,az,iV dk.Fuse,.bool dk.Down] 120).ok w)(jq:Sl w ay (dk.Kept:List ByteArray))(kz:Sl w aC (dk.Now:List ByteArray))(jr:Sl w az (dk.Wait:List Turn)):Calls Tryz.prog 75 #[pV aF] w fun e w'=>e = .returned (iV (dk.Now.length:Int))/\Ext w w':=by
 refine R.enter [] [(0,pV aF)] Tryz.func75 O O O O<|R.pQ jq<|R.pQ kz<|R.pQ jr<|R.nH (r:=ah.box aF [ay,aC,az,iV dk.Fuse,.bool dk.Down] 120) yD (jf yD)<|U ?_
 refine R.q (q.zu 0 O O iF O) O<|U ?_
 refine R.rt ?_
 rfl
theorem AP (aF:Nat)(ay aC az:Value)(dk:bZ)(w:World)(yD:(ah.box aF [ay,aC,az,iV dk.Fuse,.bool dk.Down] 120).ok w)(jq:Sl w ay (dk.Kept:List ByteArray))(kz:Sl w aC (dk.Now:List ByteArray))(jr:Sl w az (dk.Wait:List Turn)):Calls Tryz.prog 76 #[pV aF] w fun e w'=>e = .returned (.bool dk.Down)/\Ext w w':=by
 refine R.enter [] [(0,pV aF)] Tryz.func76 O O O O<|R.pQ jq<|R.pQ kz<|R.pQ jr<|R.nH (r:=ah.box aF [ay,aC,az,iV dk.Fuse,.bool dk.Down] 120) yD (jf yD)<|U ?_
 refine R.q (q.zu 0 O O LR O) O<|U ?_
 refine R.rt ?_
 rfl
theorem uN (aF:Nat)(ay aC az:Value)(dk:bZ)(i:Int)(w:World)(yD:(ah.box aF [ay,aC,az,iV dk.Fuse,.bool dk.Down] 120).ok w)(jq:Sl w ay (dk.Kept:List ByteArray))(kz:Sl w aC (dk.Now:List ByteArray))(jr:Sl w az (dk.Wait:List Turn)):Calls Tryz.prog 77 #[pV aF,iV i] w fun e w'=>e = .returned (.tuple #[.string (cC dk i).1,bN (cC dk i).2])/\Ext w w':=by
 refine R.enter [] [(0,pV aF),(1,iV i)] Tryz.func77 O O O O<|R.pQ jq<|R.pQ kz<|R.pQ jr<|R.nH (r:=ah.box aF [ay,aC,az,iV dk.Fuse,.bool dk.Down] 120) yD (jf yD)<|U ?_
 refine R.q (q.zu 0 O O LR O) O<|U ?_
 refine R.cond O O (fun h1=>?_) (fun h1=>?_)
 .
  refine U ?_
  exact R.Hf O Tryz.results77 O O (rS (by rw [ya af];done)) (pD aD (by rw [ya af];done))
 refine U ?_
 refine C (i<0) ?_ ?_ <;> intro h2
 .exact R.Hf O Tryz.results77 O O (rS (by rw [qP af ae];done)) (pD aD (by rw [qP af ae];done))
 refine R.qg O (q.zu 0 O O iF O) O<|U ?_
 refine C (i<(dk.Now.length:Int)) ?_ ?_ <;> intro h3
 .
  refine R.q (q.zu 0 O O iF O) O<|U ?_
  obtain ⟨x1,hx1⟩:=gE dk.Now i.toNat
  refine R.q (q.idx (i:=i.toNat) (zw 2 O) O O iy ae hx1) O<|U ?_
  exact R.Hf O Tryz.results77 O O (rS (by rw [qf af ae hx1];done)) (uh (by rw [qf af ae hx1];done))
 exact R.Hf O Tryz.results77 O O (rS (by rw [qP af ae];done)) (pD aD (by rw [qP af ae];done))
theorem AQ (aF:Nat)(ay aC az:Value)(dk:bZ)(w:World)(own:List Nat)(H:HN w own [ah.box aF [ay,aC,az,iV dk.Fuse,.bool dk.Down] 120,ah.row 9 ay dk.Kept,ah.row 9 aC dk.Now,ah.row 196 az dk.Wait] [])(hf : -1<=dk.Fuse/\dk.Fuse<=9223372036854775807):RS Tryz.prog 129 #[pV aF] H (bE dk) (fun s (_:Value×Value×Value)=>bN s.2) (fun s z=>[ah.box aF [z.1,z.2.1,z.2.2,iV s.1.Fuse,.bool s.1.Down] 120,ah.row 9 z.1 s.1.Kept,ah.row 9 z.2.1 s.1.Now,ah.row 196 z.2.2 s.1.Wait]) (fun _ _=>[]):=by
 have eo:=H.cap 1 rfl;have eu:=H.cz 1 rfl
 have e8:=H.cap 2 rfl;have e9:=H.cz 2 rfl
 have ew:=H.cap 3 rfl;have ey:=H.cz 3 rfl
 refine R.eN H ?_
 refine R.q (q.not O) O<|U ?_
 rcases Bool.eq_false_or_eq_true dk.Down with h1|h1
 .
  rw [h1]
  refine U ?_
  rw [show bE dk=_ from xZ af]
  exact R.x1 (ay,aC,az) ct []
 rw [h1]
 refine U ?_
 refine C (dk.Fuse=0) ?_ ?_ <;> intro h2
 .
  rw [show bE dk=_ from sq af af]
  exact R.x1 (ay,aC,az) ct []
 refine R.q (q.jY (r:=dk.Fuse-1) O O) O<|R.q (q.max (r:=max (dk.Fuse-1) (-1)) O O O) O<|U ?_
 rw [show bE dk=_ from tK af af]
 exact R.x1 (ay,aC,az) ct []
theorem iA (aF:Nat)(ay aC az:Value)(dk:bZ)(i:Int)(sx:ByteArray)(w:World)(own:List Nat)(H:HN w own [ah.box aF [ay,aC,az,iV dk.Fuse,.bool dk.Down] 120,ah.row 9 ay dk.Kept,ah.row 9 aC dk.Now,ah.row 196 az dk.Wait] [])(hd:dk.Kept.length=dk.Now.length/\dk.Now.length<=100000/\dk.Wait.length<=100000 /\ -1<=dk.Fuse/\dk.Fuse<=9223372036854775807):RS Tryz.prog 71 #[pV aF,iV i,.string sx] H (aP dk i sx) (fun s (_:Value×Value×Value)=>bN s.2) (fun s z=>[ah.box aF [z.1,z.2.1,z.2.2,iV s.1.Fuse,.bool s.1.Down] 120,ah.row 9 z.1 s.1.Kept,ah.row 9 z.2.1 s.1.Now,ah.row 196 z.2.2 s.1.Wait]) (fun _ _=>[]):=by
 have eo:=H.cap 1 rfl;have eu:=H.cz 1 rfl
 have e8:=H.cap 2 rfl;have e9:=H.cz 2 rfl
 have ew:=H.cap 3 rfl;have ey:=H.cz 3 rfl
 have hsl:=mY dk;have hs1:=congrArg List.length hsl.1;have hs2:=congrArg List.length hsl.2.1;have hs3:=congrArg List.length hsl.2.2
 refine R.eN H ?_
 refine C (i<0) ?_ ?_ <;> intro h1
 .
  rw [show aP dk i sx=_ from ma ae]
  exact R.x1 (ay,aC,az) ct []
 refine C (i<(dk.Now.length:Int)) ?_ ?_ <;> intro h2
 .
  refine C (48<sx.size) ?_ ?_ <;> intro h3
  .
   rw [show aP dk i sx=_ from ma ae]
   exact R.x1 (ay,aC,az) ct []
  refine R.s O (s.aJ ct [] _ _ _ O O O Mf O O (fun w own hw H=>AQ aF ay aC az dk w own H ae) O) ?_
  rintro ⟨z1,z2,z3⟩
  dsimp only
  refine U ?_
  refine C ((bE dk).2=0) ?_ ?_ <;> intro h4
  .
   obtain ⟨x1,hx1⟩:∃z,((bE dk).1.Now)[i.toNat]? = some z:=⟨_,List.getElem?_eq_getElem ae⟩
   refine R.dC (fuel:=9) [1,3,4] O O mixed O<|D.l [0,1,2,4,5] [1,3,4] [] O<|U ?_
   refine D.two (i:=3) (j:=6) O O ?_ ?_
   .
    refine Do.k [1,3,4] [] (q.ld 0 O O iF O) ?_
    refine D.p 6 O [1,3,4] [] (s.c (q.call Qu O O (fun w hw=>yC sx w ae)) O) fun _=>?_
    refine D.k 7 O [1,3,4] [] (q.idx (i:=i.toNat) (cm 2 O) O O iy ae hx1) ?_
    refine D.p 8 O [1,3,4] [] (s.Tg (z:=full sx) 2 _ O hx1 O O O O (.inr ⟨Ck,rfl⟩) O) fun _=>?_
    refine D.done ?_
    obtain ⟨x2,hx2⟩:∃z,((bE dk).1.Now.set i.toNat (full sx))[i.toNat]? = some z:=⟨_,List.getElem?_eq_getElem aE⟩
    refine R.dC (fuel:=19) [1,2,4] O O mixed O<|D.l [0,1,2,3,5,6,7,8,10] [1,2,4] [] O<|U ?_
    refine D.two (i:=4) (j:=9) O O ?_ ?_
    .
     refine Do.k [1,2,4] [] (q.ld 0 O O gJ O) ?_
     refine D.k 9 O [1,2,4] [] (q.ld 0 O O iF O) ?_
     refine D.l [11,12,13] [1,2,4] [] O<|Dm.yy O O (q.idx (i:=i.toNat) (cm 1 O) O O iy ae hx2) O<|U ?_
     refine D.p 14 O [2,3,5] [] (s.bs (l:=([(⟨i,x2⟩:Turn)]:List Turn)) qS lR O O O O O O O) fun b1=>?_
     refine D.p 15 O [2,3,5] [] (s.app 4 _ O O O (cm 0 O) nV aE aE (fun _=>rfl) O) fun v1=>?_
     refine D.l [16,17] [2,3,5] [] O<|U ?_
     refine D.p 18 O [2,3,5] [] (s.lr 1 _ O O O (fun w hw=>Sl.cL (hw.row 4 O)) (.inr ⟨gJ,rfl⟩) (fun w hw=>br (Sl.one (hw.row 4 O)) bV) O O O) fun _=>?_
     refine D.done<|U ?_
     have hz:aP dk i sx=((⟨((bE dk).1).Kept,(bE dk).1.Now.set i.toNat (full sx),(bE dk).1.Wait++([(⟨i,x2⟩:Turn)]),(bE dk).1.Fuse,(bE dk).1.Down⟩:bZ),(bE dk).2):=by (rw [gR ae ae ae af];simp_all;done)
     rw [hz]
     exact R.x1 (z1,z2,v1) vk []
    refine Do.k [1,2,4] [] (q.ld 0 O O iF O) ?_
    refine D.l [11,12,13] [1,2,4] [] O<|Dm.yy O O (q.idx (i:=i.toNat) (cm 1 O) O O iy ae hx2) O<|U ?_
    refine D.two (i:=4) (j:=14) O O ?_ ?_
    .
     refine Do.k [1,2,4] [] (q.ld 0 O O gJ O) ?_
     refine D.p 14 O [2,3,5] [] (s.bs (l:=([(⟨i,x2⟩:Turn)]:List Turn)) qS lR O O O O O O O) fun b2=>?_
     refine D.p 15 O [2,3,5] [] (s.app 4 _ O O O (cm 0 O) nV aE aE (fun _=>rfl) O) fun v2=>?_
     refine D.l [16,17] [2,3,5] [] O<|U ?_
     refine D.p 18 O [2,3,5] [] (s.lr 1 _ O O O (fun w hw=>Sl.cL (hw.row 4 O)) (.inr ⟨gJ,rfl⟩) (fun w hw=>br (Sl.one (hw.row 4 O)) bV) O O O) fun _=>?_
     refine D.done<|U ?_
     have hz:aP dk i sx=((⟨((bE dk).1).Kept,(bE dk).1.Now.set i.toNat (full sx),(bE dk).1.Wait++([(⟨i,x2⟩:Turn)]),(bE dk).1.Fuse,(bE dk).1.Down⟩:bZ),(bE dk).2):=by (rw [gR ae ae ae af];simp_all;done)
     rw [hz]
     exact R.x1 (z1,z2,v2) vk []
    refine Do.p [2,3,5] [] (s.bs (l:=([(⟨i,x2⟩:Turn)]:List Turn)) qS lR O O O O O O O) fun b3=>?_
    refine D.k 4 O [2,3,5] [] (q.ld 1 O O gJ O) ?_
    refine D.p 15 O [2,3,5] [] (s.app 4 _ O O O (cm 0 O) nV aE aE (fun _=>rfl) O) fun v3=>?_
    refine D.l [16,17] [2,3,5] [] O<|U ?_
    refine D.p 18 O [2,3,5] [] (s.lr 1 _ O O O (fun w hw=>Sl.cL (hw.row 4 O)) (.inr ⟨gJ,rfl⟩) (fun w hw=>br (Sl.one (hw.row 4 O)) bV) O O O) fun _=>?_
    refine D.done<|U ?_
    have hz:aP dk i sx=((⟨((bE dk).1).Kept,(bE dk).1.Now.set i.toNat (full sx),(bE dk).1.Wait++([(⟨i,x2⟩:Turn)]),(bE dk).1.Fuse,(bE dk).1.Down⟩:bZ),(bE dk).2):=by (rw [gR ae ae ae af];simp_all;done)
    rw [hz]
    exact R.x1 (z1,z2,v3) vk []
   refine Do.p [1,3,4] [] (s.c (q.call Qu O O (fun w hw=>yC sx w ae)) O) fun _=>?_
   refine D.k 3 O [1,3,4] [] (q.ld 0 O O iF O) ?_
   refine D.k 7 O [1,3,4] [] (q.idx (i:=i.toNat) (cm 2 O) O O iy ae hx1) ?_
   refine D.p 8 O [1,3,4] [] (s.Tg (z:=full sx) 2 _ O hx1 O O O O (.inr ⟨Ck,rfl⟩) O) fun _=>?_
   refine D.done ?_
   obtain ⟨x3,hx3⟩:∃z,((bE dk).1.Now.set i.toNat (full sx))[i.toNat]? = some z:=⟨_,List.getElem?_eq_getElem aE⟩
   refine R.dC (fuel:=19) [1,2,4] O O mixed O<|D.l [0,1,2,3,5,6,7,8,10] [1,2,4] [] O<|U ?_
   refine D.two (i:=4) (j:=9) O O ?_ ?_
   .
    refine Do.k [1,2,4] [] (q.ld 0 O O gJ O) ?_
    refine D.k 9 O [1,2,4] [] (q.ld 0 O O iF O) ?_
    refine D.l [11,12,13] [1,2,4] [] O<|Dm.yy O O (q.idx (i:=i.toNat) (cm 1 O) O O iy ae hx3) O<|U ?_
    refine D.p 14 O [2,3,5] [] (s.bs (l:=([(⟨i,x3⟩:Turn)]:List Turn)) qS lR O O O O O O O) fun b4=>?_
    refine D.p 15 O [2,3,5] [] (s.app 4 _ O O O (cm 0 O) nV aE aE (fun _=>rfl) O) fun v4=>?_
    refine D.l [16,17] [2,3,5] [] O<|U ?_
    refine D.p 18 O [2,3,5] [] (s.lr 1 _ O O O (fun w hw=>Sl.cL (hw.row 4 O)) (.inr ⟨gJ,rfl⟩) (fun w hw=>br (Sl.one (hw.row 4 O)) bV) O O O) fun _=>?_
    refine D.done<|U ?_
    have hz:aP dk i sx=((⟨((bE dk).1).Kept,(bE dk).1.Now.set i.toNat (full sx),(bE dk).1.Wait++([(⟨i,x3⟩:Turn)]),(bE dk).1.Fuse,(bE dk).1.Down⟩:bZ),(bE dk).2):=by (rw [gR ae ae ae af];simp_all;done)
    rw [hz]
    exact R.x1 (z1,z2,v4) vk []
   refine Do.k [1,2,4] [] (q.ld 0 O O iF O) ?_
   refine D.l [11,12,13] [1,2,4] [] O<|Dm.yy O O (q.idx (i:=i.toNat) (cm 1 O) O O iy ae hx3) O<|U ?_
   refine D.two (i:=4) (j:=14) O O ?_ ?_
   .
    refine Do.k [1,2,4] [] (q.ld 0 O O gJ O) ?_
    refine D.p 14 O [2,3,5] [] (s.bs (l:=([(⟨i,x3⟩:Turn)]:List Turn)) qS lR O O O O O O O) fun b5=>?_
    refine D.p 15 O [2,3,5] [] (s.app 4 _ O O O (cm 0 O) nV aE aE (fun _=>rfl) O) fun v5=>?_
    refine D.l [16,17] [2,3,5] [] O<|U ?_
    refine D.p 18 O [2,3,5] [] (s.lr 1 _ O O O (fun w hw=>Sl.cL (hw.row 4 O)) (.inr ⟨gJ,rfl⟩) (fun w hw=>br (Sl.one (hw.row 4 O)) bV) O O O) fun _=>?_
    refine D.done<|U ?_
    have hz:aP dk i sx=((⟨((bE dk).1).Kept,(bE dk).1.Now.set i.toNat (full sx),(bE dk).1.Wait++([(⟨i,x3⟩:Turn)]),(bE dk).1.Fuse,(bE dk).1.Down⟩:bZ),(bE dk).2):=by (rw [gR ae ae ae af];simp_all;done)
    rw [hz]
    exact R.x1 (z1,z2,v5) vk []
   refine Do.p [2,3,5] [] (s.bs (l:=([(⟨i,x3⟩:Turn)]:List Turn)) qS lR O O O O O O O) fun b6=>?_
   refine D.k 4 O [2,3,5] [] (q.ld 1 O O gJ O) ?_
   refine D.p 15 O [2,3,5] [] (s.app 4 _ O O O (cm 0 O) nV aE aE (fun _=>rfl) O) fun v6=>?_
   refine D.l [16,17] [2,3,5] [] O<|U ?_
   refine D.p 18 O [2,3,5] [] (s.lr 1 _ O O O (fun w hw=>Sl.cL (hw.row 4 O)) (.inr ⟨gJ,rfl⟩) (fun w hw=>br (Sl.one (hw.row 4 O)) bV) O O O) fun _=>?_
   refine D.done<|U ?_
   have hz:aP dk i sx=((⟨((bE dk).1).Kept,(bE dk).1.Now.set i.toNat (full sx),(bE dk).1.Wait++([(⟨i,x3⟩:Turn)]),(bE dk).1.Fuse,(bE dk).1.Down⟩:bZ),(bE dk).2):=by (rw [gR ae ae ae af];simp_all;done)
   rw [hz]
   exact R.x1 (z1,z2,v6) vk []
  rw [show aP dk i sx=_ from yb ae ae ae af]
  exact R.x1 (z1,z2,z3) ct []
 rw [show aP dk i sx=_ from ma ae]
 exact R.x1 (ay,aC,az) ct []
theorem kA (aF:Nat)(ay aC az:Value)(dk:bZ)(w:World)(own:List Nat)(H:HN w own [ah.box aF [ay,aC,az,iV dk.Fuse,.bool dk.Down] 120,ah.row 9 ay dk.Kept,ah.row 9 aC dk.Now,ah.row 196 az dk.Wait] [])(hd:dk.Kept.length=dk.Now.length/\dk.Now.length<=100000/\dk.Wait.length<=100000 /\ -1<=dk.Fuse/\dk.Fuse<=9223372036854775807):RS Tryz.prog 72 #[pV aF] H (aN dk) (fun s (_:Value×Value×Value)=>bN s.2) (fun s z=>[ah.box aF [z.1,z.2.1,z.2.2,iV s.1.Fuse,.bool s.1.Down] 120,ah.row 9 z.1 s.1.Kept,ah.row 9 z.2.1 s.1.Now,ah.row 196 z.2.2 s.1.Wait]) (fun _ _=>[]):=by
 have eo:=H.cap 1 rfl;have eu:=H.cz 1 rfl
 have e8:=H.cap 2 rfl;have e9:=H.cz 2 rfl
 have ew:=H.cap 3 rfl;have ey:=H.cz 3 rfl
 have hsl:=mY dk;have hs1:=congrArg List.length hsl.1;have hs2:=congrArg List.length hsl.2.1;have hs3:=congrArg List.length hsl.2.2
 refine R.eN H ?_
 refine R.s O (s.aJ ct [] _ _ _ O O O Mf O O (fun w own hw H=>AQ aF ay aC az dk w own H ae) O) ?_
 rintro ⟨z1,z2,z3⟩
 dsimp only
 refine U ?_
 refine C ((bE dk).2=0) ?_ ?_ <;> intro h1
 .
  refine R.dC (fuel:=9) [2,3,4] O O mixed O<|D.l [0,1,2,4,5,6] [2,3,4] [] O<|U ?_
  refine D.two (i:=3) (j:=7) O O ?_ ?_
  .
   refine Do.k [2,3,4] [] (q.ld 0 O O iF O) ?_
   refine D.k 7 O [2,3,4] [] (q.ld 0 O O iF O) ?_
   refine D.p 8 O [2,3,4] [] (s.copy 1 _ O (cm 2 O) O O O iy ae O O) fun _=>?_
   refine D.done<|U ?_
   refine R.row0 (α:=Turn) 196 ?_
   have hz:aN dk=((⟨((bE dk).1).Now,(bE dk).1.Now,[],(bE dk).1.Fuse,(bE dk).1.Down⟩:bZ),(bE dk).2):=by (unfold aN;(rw [if_pos af];simp_all))
   rw [hz]
   exact R.x1 (z1,z2,nS) [1,2,3,0,5] []
  refine Do.k [2,3,4] [] (q.ld 0 O O iF O) ?_
  refine D.k 3 O [2,3,4] [] (q.ld 0 O O iF O) ?_
  refine D.p 8 O [2,3,4] [] (s.copy 1 _ O (cm 2 O) O O O iy ae O O) fun _=>?_
  refine D.done<|U ?_
  refine R.row0 (α:=Turn) 196 ?_
  have hz:aN dk=((⟨((bE dk).1).Now,(bE dk).1.Now,[],(bE dk).1.Fuse,(bE dk).1.Down⟩:bZ),(bE dk).2):=by (unfold aN;(rw [if_pos af];simp_all))
  rw [hz]
  exact R.x1 (z1,z2,nS) [1,2,3,0,5] []
 rw [show aN dk=_ from by (unfold aN;(rewrite [if_neg af])) <;> rfl]
 exact R.x1 (z1,z2,z3) ct []
end
end Go.Proofs.YtnmpibjlnninjaaGreatDoor
