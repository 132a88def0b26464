import Derived.Test.YtnmpibjlnninjaaGreatDoorKS11
import Derived.Shelf.SlGeneric
import Derived.Shelf.SlSortCmp.WholeK
import Derived.Shelf.SlSortCmp.NoneTotal
import Derived.Ground.SlsfProg
import Derived.Sort.OwnSorted
section
set_option maxRecDepth 100000
namespace Go.Proofs
open Go.Shelf
def Tryz.laysSF_ren:Go.Shelf.Ren:=⟨fun|6=>153|15=>205|14=>204|28=>248|29=>249|20=>240|21=>241|22=>242|23=>243|24=>244|25=>245|26=>246|27=>247|46=>282|47=>283|48=>284|49=>285|50=>286|57=>307|n=>n,fun|22=>34|24=>115|25=>217|3=>3|39=>183|0=>0|53=>236|55=>33|4=>4|46=>277|45=>276|50=>201|5=>5|9=>9|66=>308|70=>312|76=>329|77=>330|n=>n,fun|n=>n⟩
theorem Tryz.laysSF:Go.Proofs.SlLaysF0.n6 Tryz.prog Tryz.laysSF_ren:=⟨by kernel_rfl,⟨Tryz.f153.name,by decide,Tryz.func153.trans (congrArg some (by kernel_rfl))⟩,⟨Tryz.f204.name,by decide,Tryz.func204.trans (congrArg some (by kernel_rfl))⟩,Tryz.func205.trans (congrArg some (by kernel_rfl)),⟨Tryz.f240.name,by decide,Tryz.func240.trans (congrArg some (by kernel_rfl))⟩,⟨Tryz.f241.name,by decide,Tryz.func241.trans (congrArg some (by kernel_rfl))⟩,⟨Tryz.f242.name,by decide,Tryz.func242.trans (congrArg some (by kernel_rfl))⟩,⟨Tryz.f243.name,by decide,Tryz.func243.trans (congrArg some (by kernel_rfl))⟩,⟨Tryz.f244.name,by decide,Tryz.func244.trans (congrArg some (by kernel_rfl))⟩,⟨Tryz.f245.name,by decide,Tryz.func245.trans (congrArg some (by kernel_rfl))⟩,⟨Tryz.f246.name,by decide,Tryz.func246.trans (congrArg some (by kernel_rfl))⟩,⟨Tryz.f247.name,by decide,Tryz.func247.trans (congrArg some (by kernel_rfl))⟩,Tryz.func248.trans (congrArg some (by kernel_rfl)),Tryz.func249.trans (congrArg some (by kernel_rfl)),⟨Tryz.f282.name,by decide,Tryz.func282.trans (congrArg some (by kernel_rfl))⟩,Tryz.func283.trans (congrArg some (by kernel_rfl)),Tryz.func284.trans (congrArg some (by kernel_rfl)),⟨Tryz.f285.name,by decide,Tryz.func285.trans (congrArg some (by kernel_rfl))⟩,⟨Tryz.f286.name,by decide,Tryz.func286.trans (congrArg some (by kernel_rfl))⟩,⟨Tryz.f307.name,by decide,Tryz.func307.trans (congrArg some (by kernel_rfl))⟩,Tryz.underlying0,Tryz.isAgg0,Tryz.sizeOf0,Tryz.zeroValue0,Tryz.underlying3,Tryz.isAgg3,Tryz.sizeOf3,Tryz.zeroValue3,Tryz.underlying4,Tryz.isAgg4,Tryz.sizeOf4,Tryz.zeroValue4,Tryz.underlying5,Tryz.isAgg5,Tryz.sizeOf5,Tryz.zeroValue5,Tryz.underlying9,Tryz.isAgg9,Tryz.sizeOf9,Tryz.zeroValue9,Tryz.underlying34,Tryz.isAgg34,Tryz.sizeOf34,Tryz.zeroValue34,Tryz.underlying217,Tryz.isAgg217,Tryz.sizeOf217,Tryz.zeroValue217,Tryz.underlying183,Tryz.isAgg183,Tryz.sizeOf183,Tryz.zeroValue183,Tryz.underlying276,Tryz.isAgg276,Tryz.sizeOf276,Tryz.zeroValue276,Tryz.underlying277,Tryz.isAgg277,Tryz.sizeOf277,Tryz.zeroValue277,Tryz.underlying201,Tryz.isAgg201,Tryz.sizeOf201,Tryz.zeroValue201,Tryz.underlying236,Tryz.isAgg236,Tryz.sizeOf236,Tryz.zeroValue236,Tryz.underlying33,Tryz.isAgg33,Tryz.sizeOf33,Tryz.zeroValue33,Tryz.underlying308,Tryz.isAgg308,Tryz.sizeOf308,Tryz.zeroValue308,Tryz.underlying312,Tryz.isAgg312,Tryz.sizeOf312,Tryz.zeroValue312,Tryz.underlying329,Tryz.isAgg329,Tryz.sizeOf329,Tryz.zeroValue329,Tryz.underlying330,Tryz.isAgg330,Tryz.sizeOf330,Tryz.zeroValue330⟩
end Go.Proofs
end
section
set_option maxRecDepth 100000
namespace Go.Proofs
open Go.Shelf
def Tryz.lays106_ren:Go.Shelf.Ren:=⟨fun|106=>137|213=>194|265=>235|n=>n,fun|9=>9|3=>3|n=>n,fun|n=>n⟩
theorem Tryz.lays106:Go.Proofs.Lays.n106 Tryz.prog Tryz.lays106_ren:=⟨by kernel_rfl,Tryz.func137.trans (congrArg some (by kernel_rfl)),Tryz.func194.trans (congrArg some (by kernel_rfl)),Tryz.func235.trans (congrArg some (by kernel_rfl)),Tryz.underlying3,Tryz.isAgg3,Tryz.sizeOf3,Tryz.zeroValue3,Tryz.underlying9,Tryz.isAgg9,Tryz.sizeOf9,Tryz.zeroValue9⟩
def Tryz.lays212_ren:Go.Shelf.Ren:=⟨fun|212=>119|263=>185|264=>186|n=>n,fun|46=>183|51=>236|146=>237|53=>33|148=>239|n=>n,fun|n=>n⟩
theorem Tryz.lays212:Go.Proofs.Lays.n212 Tryz.prog Tryz.lays212_ren:=⟨by kernel_rfl,Tryz.func119.trans (congrArg some (by kernel_rfl)),Tryz.func185.trans (congrArg some (by kernel_rfl)),Tryz.func186.trans (congrArg some (by kernel_rfl)),Tryz.underlying183,Tryz.isAgg183,Tryz.sizeOf183,Tryz.zeroValue183,Tryz.underlying236,Tryz.isAgg236,Tryz.sizeOf236,Tryz.zeroValue236,Tryz.underlying33,Tryz.isAgg33,Tryz.sizeOf33,Tryz.zeroValue33,Tryz.underlying237,Tryz.isAgg237,Tryz.sizeOf237,Tryz.zeroValue237,Tryz.underlying239,Tryz.isAgg239,Tryz.sizeOf239,Tryz.zeroValue239⟩
open Go.RowKit in
theorem Tryz.strings_Compare (a b:ByteArray)(w:World) :
    Calls Tryz.prog 137 #[.string a,.string b] w fun e w'=>e = .returned (.int .i64 (Lib.compareBytes a.data.toList b.data.toList))/\w'=w:=Any.strings_Compare Tryz.lays106 a b w
open Go.RowKit Go.Lib in
theorem Tryz.bits_Mul (x y:Nat)(hx:x<18446744073709551616)(hy:y<18446744073709551616)(w:World) :
    Calls Tryz.prog 119 #[.int .u64 x,.int .u64 y] w fun e w'=>e = .returned (.tuple #[.int .u64 ((x*y / 18446744073709551616:Nat):Int),.int .u64 ((x*y % 18446744073709551616:Nat):Int)])/\w'=w:=Any.bits_Mul Tryz.lays212 x y hx hy w
end Go.Proofs
end
namespace Go.Proofs.YtnmpibjlnninjaaGreatDoor
set_option linter.unusedVariables false
set_option linter.unusedSimpArgs false
set_option maxRecDepth 100000
set_option maxHeartbeats 90000000
section
open Go Go.RowKit Go.Sort
instance:Inhabited Change:=⟨⟨⟨#[]⟩,⟨#[]⟩,false⟩⟩
def PQ (x y:Change):Int:=De x.Key y.Key
theorem DY (x y:Change):ltOf PQ x y=gQ x.Key y.Key:=by
 grind [ltOf,PQ,gQ,decide_eq_true,Fq,decide_eq_false]
theorem J6:SWO (ltOf PQ) where
 irrefl x:=by grind [DY,fN]
 trans x y z h k:=by grind [DY,mJ]
 ntrans x y z h k:=by
  grind [DY,uB,mJ]
def im (l:List Change):List Change:=(pdq (ltOf PQ) l.toArray 0 l.length (Lib.bitLen l.length) true true).toList
theorem rq (l:List Change):(im l).Perm l/\(im l).Pairwise (fun x y => ¬ gQ y.Key x.Key=true)/\(im l).length=l.length:=by
 have h:=pdq_sorts (ltOf PQ) J6 l.toArray 0 l.toArray.size (Lib.bitLen l.length) true true (Nat.zero_le _) (Nat.le_refl _) (Or.inl rfl)
 rw [show l.toArray.size=l.length from rfl] at h
 obtain ⟨⟨hs,_,hp⟩,ho⟩:=h
 have hl:(im l).length=l.length:=af
 have e1:∀d:Array Change,d.size=l.length->(d.extract 0 l.length).toList=d.toList:=fun d hd=>by grind [Array.extract_size]
 refine ⟨?_,?_,hl⟩
 .
  have:=hp
  rw [e1 _ hs,e1 _ rfl] at this
  exact this
 rw [List.pairwise_iff_getElem]
 intro i j hi hj hij
 have:=ho i j (Nat.zero_le _) hij ae
 rw [DY,getElem!_pos _ j aB,getElem!_pos _ i aB] at this
 intro q
 exact Bool.noConfusion (this.symm.trans q)
theorem FX {a b:List Change}(ha:dN a)(hb:dN b):im (nI a b)=bI a b:=HQ ha hb (rq _).1 (rq _).2.1
theorem FY (l:List Change):flatK Enc.cells 3 l.toArray=(l.flatMap Enc.cells).toArray:=by
 have hf:=eK l
 have h3:Enc.k Change=3:=rfl
 rw [h3] at hf
 refine ext_get! (by simp [hf]) fun t ht=>?_
 rw [size_flatK] at ht
 have ht':t<l.length*3:=ht
 rw [get_flatK _ _ _ t ht]
 have hi:t / 3<l.length:=ae
 have hj:t % 3<(Enc.cells (l[t / 3]'hi)).length:=by grind [Enc.len]
 have g:=flat_get l (t / 3) (l[t / 3]'hi) (t % 3) _ (List.getElem?_eq_getElem hi) (List.getElem?_eq_getElem hj)
 grind
theorem N8 {w:World}{g:Nat}{cur:Array Value}{e:TypeId}{xs:List Value}(hb:w.heap[g]? = some (.cells cur e (0,0)))(ht:cur.toList.take xs.length=xs):Holds id w g 0 xs.toArray:=by
 intro j hj
 have hj':j<xs.length:=ae
 refine ⟨?_,by grind [World.frozen?]⟩
 have h1:(cur.toList.take xs.length)[j]? = xs[j]?:=by rw [ht]
 rw [List.getElem?_take_of_lt hj'] at h1
 simp_all [World.cell?,Nat.zero_add,Option.isSome_none,Bool.false_eq_true,if_false,Array.getElem?_toList]
theorem QJ {w:World}{g n:Nat}{os:Array Obj}{cur:Array Value}{e:TypeId}{fr:Nat×Nat}(d:Array Value)(hb:w.heap[g]? = some (.cells cur e fr)) :
 (Sort.grow (putRow id (Sort.ahead w n) g 0 d) os).heap[g]? = some (.cells (putCells id 0 d cur) e fr):=by
 grind [putRow,mapBlock,Sort.ahead,onCells,Array.getElem?_eq_some_iff,heap_grow_old]
theorem Ix {w:World}{g n:Nat}{os:Array Obj}(d:Array Value):w.grownBy (Sort.grow (putRow id (Sort.ahead w n) g 0 d) os) (some g):=by
 refine ⟨rfl,rfl,rfl,bW,fun k hk hne=>?_⟩
 grind [putRow,mapBlock,Sort.ahead,heap_grow_old]
theorem QK (cur:Array Value)(ts:List Value)(h:ts.length<=cur.size):(putCells id 0 ts.toArray cur).toList.take ts.length=ts:=by
 apply List.ext_getElem?
 grind [putCells,List.getElem?_take_of_lt,List.getElem?_take_eq_none,List.getElem?_eq_none]
theorem YY (x y:Change)(w:World):Calls Tryz.prog 154 #[.agg (Enc.cells x).toArray,.agg (Enc.cells y).toArray] w fun e w'=>e = .returned (.int .i64 (PQ x y)) /\ ∃q os',w'=Sort.grow (w.drewN q) os':=by
 have hcon:∀W,Calls Tryz.prog 137 #[.string x.Key,.string y.Key] W fun e w'=>e = .returned (.int .i64 (PQ x y))/\w'=W:=fun W=>(Tryz.strings_Compare x.Key y.Key W).mono fun e w' ⟨h1,h2⟩=>⟨by rw [h1,<- pI,<- pI,Jy];rfl,h2⟩
 generalize PQ x y=r at hcon ⊢
 show Calls Tryz.prog 154 #[.agg #[.string x.Key,.string x.Val,.bool x.Gone],.agg #[.string y.Key,.string y.Val,.bool y.Gone]] w _
 go_enter Tryz.func154,Tryz.ntmps154
 go_wp2_with (go_at_call 137;refine (hcon _).mono ?_;rintro e w' ⟨rfl,rfl⟩)
 go_ret
 exact ⟨rfl,0,_,by rw [alloc_eq_grow,alloc_eq_grow,grow_grow];rfl⟩
theorem Iy {w:World}{g cap n:Nat}{os:Array Obj}{l ts:List Change}{v:Value}(hv:v = .slice (some ⟨g,0,none⟩) l.length cap)(how:Own 0 115 w v l)(hl:ts.length=l.length) :
 Turned [aj.row 115 v l] [aj.row 115 v ts] w (Sort.grow (putRow id (Sort.ahead w n) g 0 (ts.flatMap Enc.cells).toArray) os):=by
 obtain ⟨hlen,hn|⟨g',cap',cur,hv',_,hgg,hnc,hcm,hcs,htk⟩⟩:=how
 .grind
 rw [hv] at hv'
 simp only [Value.slice.injEq,Option.some.injEq,Addr.mk.injEq,and_true,true_and] at hv'
 obtain ⟨rfl,rfl⟩:=hv'
 have h3:cur.size=cap*3:=hcs
 have hf:(ts.flatMap Enc.cells).length=ts.length*3:=eK ts
 have hgb:=Ix (w:=w) (g:=g) (n:=n) (os:=os) (ts.flatMap Enc.cells).toArray
 have hown:Own 0 115 (Sort.grow (putRow id (Sort.ahead w n) g 0 (ts.flatMap Enc.cells).toArray) os) v ts:=by
  refine ⟨eK ts,.inr ⟨g,cap,_,aB,Nat.zero_le _,QJ _ hgg,ae,hcm,by grind [putCells],?_⟩⟩
  show (putCells id 0 (ts.flatMap Enc.cells).toArray cur).toList.take (ts.length*3)=_
  grind [QK,Nat.mul_le_mul_right]
 have hlt:g<w.heap.size:=(Array.getElem?_eq_some_iff.1 hgg).1
 refine ⟨⟨hgb.os,hgb.tape,hgb.output,hgb.size,fun k hk hx=>hgb.block k hk (fun e=>hx ?_)⟩,?_,?_,fun k hk=>?_⟩
 .grind [blks,aj.row,fk]
 .intro r hr;simp at hr;subst hr;exact hown
 .grind [blks,aj.row,fk]
 rw [hv] at hk;simp [blks,aj.row,fk] at hk;subst hk
 exact ⟨Nat.lt_of_lt_of_le hlt hgb.size,.inl (by grind [blks,aj.row,fk])⟩
theorem Turned.Xq {B0:List aj}{w:World}(h:Hnd B0 w):Turned B0 B0 w w:=⟨mH.refl _ _,h.ok,h.sep,fun k hk=>⟨h.lt k hk,.inl hk⟩⟩
theorem Lf (v:Value)(l:List Change)(w:World)(H:Hnd [aj.row 115 v l] w)(hl:l.length<=1000000):Calls Tryz.prog 153 [v,.func (.func 154) #[] #[]].toArray w fun e w' => ∃_z:Unit,e = .returned (.tuple #[])/\Turned [aj.row 115 v l] [aj.row 115 v (im l)] w w':=by
 have how:Own 0 115 w v l:=H.ok (aj.row 115 v l) (List.mem_singleton.2 rfl)
 have hs:=(rq l).2.2
 rcases how.2 with ⟨rfl,h0⟩ | ⟨g,cap,cur,hv,_,hgg,hnc,hcm,hcs,htk⟩
 .
  have:l=[]:=List.eq_nil_of_length_eq_zero h0
  subst this
  refine (AnyF.slices_SortFunc_none { Tryz.laysSF with } none 0 _ w).mono ?_
  rintro e w' ⟨rfl,rfl⟩
  have e0:im []=[]:=List.eq_nil_of_length_eq_zero hs
  rw [e0]
  exact ⟨(),rfl,Turned.Xq H⟩
 have hH:HoldsK Enc.cells 3 w g 0 l.toArray:=by
  grind [HoldsK,FY,N8,eK]
 have eg:dw 154:=enters_of Tryz.func154 ck rfl
 rw [hv]
 refine (AnyQ.slices_SortFunc_eq Tryz.laysSF 3 Tryz.isAgg115 Tryz.sizeOf115 Enc.cells Enc.len Enc.one PQ J6 154 #[] g 0 cap l.toArray w eg (fun _ _ _ _ x y=>YY x y _) hH (Array.getElem?_eq_some_iff.1 hgg).1 aB).mono ?_
 rintro e w' ⟨rfl,n,os,rfl⟩
 refine ⟨(),rfl,?_⟩
 have:=Iy (os:=os) (n:=n) (ts:=im l) hv how hs
 rw [hv] at this
 unfold sortWorldK putRowK
 have e2:(pdq (ltOf PQ) l.toArray 0 l.toArray.size (Lib.bitLen l.toArray.size) true true)=(im l).toArray:=ck
 grind [FY]
end
section
open Go Go.RowKit
def UE (md:Region.Mode)(o:Oper)(ls:Array Bool):Bool:=o.after.all fun e => !Region.binds md e||ls.getD e.on false
def pX (md:Region.Mode)(ops:Array Oper)(ls:Array Bool):Bool:=(List.range ops.size).all fun j => !(ls.getD j false)||((ops[j]?).map (UE md · ls)).getD true
def FZ (md:Region.Mode)(ops:Array Oper):Nat->Nat->Nat->Bool
  | 0,_,_=>false
  | f+1,j,i=>((ops[j]?).map fun o=>o.after.any fun e=>Region.binds md e&&(e.on==i||FZ md ops f e.on i)).getD false
section
variable {P:Program} {ops:Array Oper} {Q:Exit->Act->World->Prop} {md:Region.Mode} {S:World->Prop} {T:Nat->Bool}
theorem vY {ls:Array Bool}(h:pX md ops ls=true){j:Nat}{o:Oper}(ho:ops[j]? = some o)(hj:ls.getD j false=true):UE md o ls=true:=by
 have hlt:j<ops.size:=(Array.getElem?_eq_some_iff.1 ho).1
 have:=List.all_eq_true.1 h j (List.mem_range.2 hlt)
 grind
theorem pY {ls:Array Bool}(hc:pX md ops ls=true):∀ (f j i:Nat) (o:Oper),ops[j]? = some o->UE md o ls=true->FZ md ops f j i=true->ls.getD i false=true
 | 0,j,i,o,_,_,h=>by cases h
 | f+1,j,i,o,ho,hu,h=>by
  unfold FZ at h
  rw [ho] at h
  simp only [Option.map_some,Option.getD_some,Array.any_eq_true'] at h
  obtain ⟨e,he,h⟩:=h
  simp only [Bool.and_eq_true,Bool.or_eq_true,beq_iff_eq] at h
  have hl:ls.getD e.on false=true:=by
   have:=Array.all_eq_true'.1 hu e he
   simpa [h.1] using this
  rcases h.2 with h2|h2
  .rw [<- h2];exact hl
  cases ho2:ops[e.on]? with
  | none=>cases f with
   | zero=>cases h2
   | succ f=>unfold FZ at h2;rw [ho2] at h2;cases h2
  | some o2=>exact pY hc f e.on i o2 ho2 (vY hc ho2 hl) h2
theorem J7 {o:Oper}{ls:Array Bool}{j:Nat}(h:UE md o ls=true):UE md o (ls.setIfInBounds j true)=true:=by
 refine Array.all_eq_true'.2 fun e he=>?_
 have:=Array.all_eq_true'.1 h e he
 simp only [Bool.or_eq_true,Bool.not_eq_true'] at this ⊢
 grind [getD_set_true]
theorem Iz {ls:Array Bool}(h:pX md ops ls=true){j:Nat}{o:Oper}(ho:ops[j]? = some o)(hu:UE md o ls=true):pX md ops (ls.setIfInBounds j true)=true:=by
 refine List.all_eq_true.2 fun k hk=>?_
 have hlt:=List.mem_range.1 hk
 cases hl:(ls.setIfInBounds j true).getD k false with
 | false=>rfl
 | true =>
  have hok:ops[k]? = some ops[k]:=Array.getElem?_eq_getElem hlt
  rw [hok]
  simp only [Bool.not_true,Bool.false_or,Option.map_some,Option.getD_some]
  by_cases hj:j=k
  .grind [J7]
  have:ls.getD k false=true:=by
   simp_all
  grind [J7,vY]
def noT (T:Nat->Bool)(ls:Array Bool):Prop:= ∀j,T j=true->ls.getD j false=false
def oE (P:Program)(md:Region.Mode)(ops:Array Oper)(Q:Exit->Act->World->Prop)(S:World->Prop)(T:Nat->Bool):Nat->Array Bool->Act->World->Prop
  | 0,ls,a,w=>Region.ready md ops ls=[]/\Q .normal a w
  | fuel+1,ls,a,w =>
    (Region.ready md ops ls=[]->Q .normal a w) /\
    ∀i∈Region.ready md ops ls,wpOp P ops Q i (fun a' w'=>(noT T (ls.setIfInBounds i true)->S w')/\oE P md ops Q S T fuel (ls.setIfInBounds i true) a' w') a w
theorem zL:∀ (fuel:Nat) (ls:Array Bool) (a:Act) (w:World),oE P md ops Q S T fuel ls a w->wpAny P md ops Q fuel ls a w
 | 0,_,_,_,h=>h
 | fuel+1,_,_,_,h=>⟨h.1,fun i hi=>wpOp_mono (fun a' w' h'=>zL fuel _ a' w' h'.2) (h.2 i hi)⟩
theorem F3 {ls:Array Bool}{j:Nat}(h:j∈Region.ready md ops ls):∃o,ops[j]? = some o/\UE md o ls=true:=by
 unfold Region.ready at h
 obtain ⟨h1,h2⟩:=List.mem_filter.1 h
 simp only [Bool.and_eq_true] at h2
 cases ho:ops[j]? with
 | none=>grind
 | some o =>
  rw [ho] at h2
  have h3:=h2.2
  rw [Option.map_some,Option.getD_some] at h3
  exact ⟨o,rfl,h3⟩
theorem DZ {N i:Nat}{oi:Oper}{v:Value}(hi:ops[i]? = some oi)(hsel:∀ (j:Nat) (o:Oper) cs b,ops[j]? = some o->o.op ≠ .select cs b)
 (hQ:∀c a w,Q (.panic c) (a.put oi.dst v) w->Q (.panic c) a w) (hT:∀j,T j=true->FZ md ops N j i=true) :
 ∀ (fuel:Nat) (listed:Array Bool) (a:Act) (w:World),pX md ops listed=true ->
  (∀j oj,ops[j]? = some oj->j≠i->listed.getD j true=false->(∀e∈oj.after,Region.binds md e=true->e.on≠i)->oi.apart ops oj=true) ->
  i∈Region.ready md ops listed->YieldsIf P ops S oi v a->S w ->
  oE P md ops Q S T fuel (listed.setIfInBounds i true) (a.put oi.dst v) w->oE P md ops Q S T (fuel+1) listed a w:=by
 intro fuel
 induction fuel with
 | zero =>
  intro listed a w _ _ hr hy hS H
  refine ⟨fun h=>aB,fun j hj=>?_⟩
  by_cases hji:j=i
  .subst hji;exact hy.wpOp hi hS ⟨fun _=>hS,H⟩
  have:=ready_mono hj hji
  rw [H.1] at this
  grind
 | succ fuel ih =>
  intro listed a w hcl hfree hr hy hS H
  refine ⟨fun h=>aB,fun j hj=>?_⟩
  by_cases hji:j=i
  .subst hji;exact hy.wpOp hi hS ⟨fun _=>hS,H⟩
  have h1:=H.2 j (ready_mono hj hji)
  obtain ⟨hjun,oj,hoj,hall⟩:=mem_ready.1 hj
  have hun:=(mem_ready.1 hr).1
  have hnl:listed.getD i false=false:=by
   grind
  obtain ⟨oj',YZ,huj⟩:=F3 hj
  have hjT:¬ T j=true:=fun h=>by
   grind [pY]
  obtain ⟨oi',aak,hui⟩:=F3 hr
  have Ys:¬ T i=true:=fun h=>by
   grind [pY]
  have hno:noT T ((listed.setIfInBounds i true).setIfInBounds j true):=fun k hk=>by
   have hki:i≠k:=fun e=>Ys (e▸hk)
   have hkj:j≠k:=fun e=>hjT (e▸hk)
   rw [Array.getD_eq_getD_getElem?,Array.getElem?_setIfInBounds_ne hkj,Array.getElem?_setIfInBounds_ne hki,<- Array.getD_eq_getD_getElem?]
   cases hl:listed.getD k false with
   | false=>rfl
   | true =>
    exfalso
    cases hok:ops[k]? with
    | none=>have:=hT k hk;cases N with
     | zero=>cases this
     | succ N=>grind [FZ]
    | some ok =>
     grind [pY,vY]
  have hnot:∀e∈oj.after,Region.binds md e=true->e.on≠i:=fun e he hb heq=>by
   grind
  have h2:=wpOp_putIf hoj (hfree j oj hoj hji hjun hnot) (fun cs b=>hsel i oi cs b hi) (fun cs b=>hsel j oj cs b hoj) hQ hy h1
  have hfree':∀k ok,ops[k]? = some ok->k≠i->(listed.setIfInBounds j true).getD k true=false ->
   (∀e∈ok.after,Region.binds md e=true->e.on≠i)->oi.apart ops ok=true:=fun k ok hk hki hun hno=>by
   refine hfree k ok hk hki ?_ hno
   by_cases hjk:j=k
   .grind
   simp_all
  have Y0:=Iz hcl YZ huj
  refine wpOp_mono (fun a' w' h3=>⟨fun _=>h3.2.1 hno,ih (listed.setIfInBounds j true) a' w' Y0 hfree' (ready_mono hr (Ne.symm hji)) h3.1 (h3.2.1 hno) ?_⟩) h2
  grind [Array.setIfInBounds_comm]
theorem D1 {ls:Array Bool}{i:Nat}(hi:¬ T i=true):noT T (ls.setIfInBounds i true)↔noT T ls:=by
 have e:∀k,T k=true->(ls.setIfInBounds i true).getD k false=ls.getD k false:=fun k hk=>getD_set_ne false (fun e=>hi (e▸hk))
 exact ⟨fun h k hk=>(e k hk).symm.trans (h k hk),fun h k hk=>(e k hk).trans (h k hk)⟩
theorem AV {i:Nat}{oi:Oper}{v:Value}(hi:ops[i]? = some oi)(hsel:∀ (j:Nat) (o:Oper) cs b,ops[j]? = some o->o.op ≠ .select cs b)
 (hQ:∀c a w,Q (.panic c) (a.put oi.dst v) w->Q (.panic c) a w) (Ys:¬ T i=true) :
 ∀ (fuel:Nat) (listed:Array Bool) (a:Act) (w:World),
  (∀j oj,ops[j]? = some oj->j≠i->listed.getD j true=false->(∀e∈oj.after,Region.binds md e=true->e.on≠i)->oi.apart ops oj=true) ->
  i∈Region.ready md ops listed->YieldsIf P ops (fun _=>True) oi v a->(noT T listed->S w) ->
  oE P md ops Q S T fuel (listed.setIfInBounds i true) (a.put oi.dst v) w->oE P md ops Q S T (fuel+1) listed a w:=by
 intro fuel
 induction fuel with
 | zero =>
  intro listed a w _ hr hy hS H
  refine ⟨fun h=>aB,fun j hj=>?_⟩
  by_cases hji:j=i
  .subst hji;exact hy.wpOp hi trivial ⟨fun h=>hS ((D1 Ys).1 h),H⟩
  have:=ready_mono hj hji
  rw [H.1] at this
  grind
 | succ fuel ih =>
  intro listed a w hfree hr hy hS H
  refine ⟨fun h=>aB,fun j hj=>?_⟩
  by_cases hji:j=i
  .subst hji;exact hy.wpOp hi trivial ⟨fun h=>hS ((D1 Ys).1 h),H⟩
  have h1:=H.2 j (ready_mono hj hji)
  obtain ⟨hjun,oj,hoj,hall⟩:=mem_ready.1 hj
  have hun:=(mem_ready.1 hr).1
  have hnot:∀e∈oj.after,Region.binds md e=true->e.on≠i:=fun e he hb heq=>by
   grind
  have h2:=wpOp_putIf hoj (hfree j oj hoj hji hjun hnot) (fun cs b=>hsel i oi cs b hi) (fun cs b=>hsel j oj cs b hoj) hQ hy h1
  have hfree':∀k ok,ops[k]? = some ok->k≠i->(listed.setIfInBounds j true).getD k true=false ->
   (∀e∈ok.after,Region.binds md e=true->e.on≠i)->oi.apart ops ok=true:=fun k ok hk hki hun hno=>by
   refine hfree k ok hk hki ?_ hno
   by_cases hjk:j=k
   .grind
   simp_all
  refine wpOp_mono (fun a' w' h3=>?_) h2
  have hS':noT T (listed.setIfInBounds j true)->S w':=fun h=>h3.2.1 (by rw [Array.setIfInBounds_comm _ _ (Ne.symm hji)];grind [D1])
  refine ⟨hS',ih (listed.setIfInBounds j true) a' w' hfree' (ready_mono hr (Ne.symm hji)) h3.1 hS' ?_⟩
  grind [Array.setIfInBounds_comm]
theorem F4 {N i:Nat}{oi:Oper}{v:Value}{fuel:Nat}{listed:Array Bool}{a:Act}{w:World}(hi:ops[i]? = some oi)
 (hs:Region.noSelect ops=true) (hf:Region.free md ops listed i=true) (hr:(Region.ready md ops listed).contains i=true) (hcl:pX md ops listed=true) (hT:∀j,T j=true->FZ md ops N j i=true)
 (hQ:∀c a w,Q (.panic c) (a.put oi.dst v) w->Q (.panic c) a w) (hy:YieldsIf P ops S oi v a) (hS:S w)
 (h:oE P md ops Q S T fuel (listed.setIfInBounds i true) (a.put oi.dst v) w):oE P md ops Q S T (fuel+1) listed a w :=
 DZ hi (Region.noSelect_spec hs) hQ hT fuel listed a w hcl (Region.free_spec hi hf) aB hy hS h
end
section
variable {P:Program} {n:Nat} {we:World} {X:List Nat} {Q:Exit->Act->World->Prop} {k k':List It} {L:Fm} {B F:List aj} {ops rest:List Oper}
variable {dst:Option Nat} {d:Nat} {op:Op} {ty:TypeId} {pos:String} {eC:Array Edge} {g:Option (Nat×Bool)} {v:Value}
def D2 (l:List Nat)(j:Nat):Bool:=l.any (Nat.beq j)
def Kg (S:World->Prop)(T:List Nat)(P:Program)(n:Nat)(we:World)(X:List Nat)(Q:Exit->Act->World->Prop)(ops:List Oper)(fuel:Nat)(ls:Array Bool)(k:List It)(L:Fm)(B F:List aj):Prop :=
  ∀a w,Fr n L a->Wd we X B F w->oE P .any ops.toArray (NoPanic (qz P Q k)) S (D2 T) fuel ls a w
def Ko (S:World->Prop)(T:List Nat)(P:Program)(n:Nat)(we:World)(X:List Nat)(Q:Exit->Act->World->Prop)(ops:List Oper)(i:Nat)(o:Oper)(fuel:Nat)(ls:Array Bool)(k:List It)(L:Fm)(B F:List aj):Prop :=
  ops[i]? = some o -> ∀a w,Fr n L a->Wd we X B F w->wpOp P ops.toArray (NoPanic (qz P Q k)) i (fun a' w'=>(noT (D2 T) (ls.setIfInBounds i true)->S w')/\oE P .any ops.toArray (NoPanic (qz P Q k)) S (D2 T) fuel (ls.setIfInBounds i true) a' w') a w
variable {S:World->Prop} {T:List Nat} {i j fuel:Nat} {ls ls':Array Bool} {o:Oper}
theorem R.Y1 {id:Nat}(S:World->Prop)(T:List Nat)(h:norm 200 k = .c (.region id ops.toArray true)::k')(hm:P.follows .mixedOrders=true)(hl:ops.length=fuel)(hr:Kg S T P n we X Q ops fuel (Array.replicate fuel false) k' L B F):Run P n we X Q k L B F:=by
 intro a w ha hw
 refine dH 200 (h ▸ ?_)
 refine wp_region_noPanic (wp_region_any hm (zL (S:=S) (T:=D2 T) _ _ _ _ ?_))
 have:=hr a _ ha (hw.grow (mH.draw w))
 grind
theorem R.Y2 {id:Nat}{B1:List aj}(is:List Nat)(T:List Nat)(hB:dJ B is=some B1)(h:norm 200 k = .c (.region id ops.toArray true)::k')(hm:P.follows .mixedOrders=true)(hl:ops.length=fuel)(hr:Kg (Wd we X B1 F) T P n we X Q ops fuel (Array.replicate fuel false) k' L B F):Run P n we X Q k L B F :=
 R.Y1 (Wd we X B1 F) T h hm hl hr
theorem K.done (h:Run P n we X Q k L B F)(h0:Region.ready .any ops.toArray ls=[]:=by kernel_rfl):Kg S T P n we X Q ops fuel ls k L B F :=
 fun a w ha hw=>by
  cases fuel with
  | zero=>exact ⟨h0,NoPanic.normal (h a w ha hw)⟩
  | succ f=>exact ⟨fun _=>NoPanic.normal (h a w ha hw),aB⟩
theorem N9 {T:List Nat}{p:Nat->Bool}(h:T.all p=true):∀j,D2 T j=true->p j=true:=fun j hj=>by
 grind [D2,List.any_eq_true,Nat.eq_of_beq_eq_true,List.all_eq_true]
theorem K.q (hi:ops[i]? = some ⟨some d,op,ty,pos,eC,g⟩)(hS:∀w,Wd we X B F w->S w)(hg:gd ops L g=some true)
 (hq:∀dst pos eC g a w,Fr n L a->S w->(execOp a.eval ⟨dst,op,ty,pos,eC,g⟩).run P w = .ok (.value v) w) (hd:Nat.blt d n=true) (h:Kg S T P n we X Q ops fuel (ls.setIfInBounds i true) k ((d,v)::L) B F) (hfr:(Region.noSelect ops.toArray&&Region.free .any ops.toArray ls i&&(Region.ready .any ops.toArray ls).contains i&&pX .any ops.toArray ls&&T.all (fun j=>FZ .any ops.toArray 40 j i))=true:=by kernel_rfl):Kg S T P n we X Q ops (fuel+1) ls k L B F:=by
 intro a w ha hw
 simp only [Bool.and_eq_true] at hfr
 obtain ⟨⟨⟨⟨h1,h2⟩,h3⟩,h4⟩,h5⟩:=hfr
 exact F4 (N:=40) aB h1 h2 h3 h4 (N9 h5) (fun _ _ _ h=>h) (.inl ⟨ez (o:=⟨some d,op,ty,pos,eC,g⟩) ha hg,fun w hw=>hq _ _ _ _ a w ha hw⟩) (hS w hw) (h _ w (ha.put d v hd) hw)
theorem K.p (hi:ops[i]? = some ⟨some d,op,ty,pos,eC,g⟩)(hS:T.any (fun t=>ls.getD t false)=true ∨ ∀w,Wd we X B F w->S w)(hg:gd ops L g=some true)
 (hq:∀w,Qt P n w [] L [] [] op ty v) (hd:Nat.blt d n=true) (h:Kg S T P n we X Q ops fuel (ls.setIfInBounds i true) k ((d,v)::L) B F) (hfr:(Region.noSelect ops.toArray&&Region.free .any ops.toArray ls i&&(Region.ready .any ops.toArray ls).contains i && !D2 T i)=true:=by kernel_rfl):Kg S T P n we X Q ops (fuel+1) ls k L B F:=by
 intro a w ha hw
 simp only [Bool.and_eq_true,Bool.not_eq_true'] at hfr
 obtain ⟨⟨⟨h1,h2⟩,h3⟩,h4⟩:=hfr
 have hi':ops.toArray[i]? = some ⟨some d,op,ty,pos,eC,g⟩:=aB
 exact AV hi' (Region.noSelect_spec h1) (fun _ _ _ h=>h) aB fuel ls a w (Region.free_spec hi' h2) aB
  (.inl ⟨ez (o:=⟨some d,op,ty,pos,eC,g⟩) ha hg,fun w _=>hq w _ _ _ _ a w ha (Wd.start w [])⟩) (fun hno=>hS.elim (fun hT=>by
   obtain ⟨t,ht,e⟩:=List.any_eq_true.1 hT
   have:=hno t (List.any_eq_true.2 ⟨t,ht,Nat.beq_refl t⟩)
   grind) fun h=>h w hw) (h _ w (ha.put d v hd) hw)
theorem K.one (hi:ops[i]? = some o)(h:Ko S T P n we X Q ops i o fuel ls k L B F)(h0:Region.ready .any ops.toArray ls=[i]:=by kernel_rfl):Kg S T P n we X Q ops (fuel+1) ls k L B F :=
 fun a w ha hw=>⟨fun h1=>aB,fun j hj=>by
  rw [h0] at hj;rw [List.mem_singleton.1 hj];exact h hi a w ha hw⟩
theorem Ko.s {β:Type}{L':β->Fm}{B' F':β->List aj}(hs:Stp P n we X L B F o L' B' F')(hS:D2 T i=true∨(∀z w,Wd we X (B' z) (F' z) w->S w))(hT:D2 T i=true->Nat.blt i ls.size=true)(hg:gd ops L o.guard=some true)
 (h:∀z,Kg S T P n we X Q ops fuel (ls.setIfInBounds i true) k (L' z) (B' z) (F' z)):Ko S T P n we X Q ops i o fuel ls k L B F:=by
 intro hi a w ha hw
 unfold wpOp
 have:ops.toArray[i]? = some o:=aB
 rw [this]
 simp only []
 rw [if_pos (ez (o:=o) ha hg)]
 refine .inl (hs _ _ a w ha hw fun z a w ha hw=>⟨fun hno=>?_,h z a w ha hw⟩)
 rcases hS with hS|hS
 .
  have h1:=hno i hS
  simp_all
 grind
end
end
end Go.Proofs.YtnmpibjlnninjaaGreatDoor
