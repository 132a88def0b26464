import Derived.Test.YtkbhcbipadkcaaaGreatDoorTS18
import Derived.Lib.SlicesCompact
import Derived.Sort.OwnSortedInts
namespace Go.Proofs.YtkbhcbipadkcaaaGreatDoor
set_option linter.unusedVariables false
set_option linter.unusedSimpArgs false
set_option maxRecDepth 100000
set_option maxHeartbeats 90000000
section
open Go.RowKit
def hasT? (l:List ak)(t:Int):Bool:=l.any (fun x=>x.aE==t)
def kC (l:List ak):Nat->List Int
  | 0=>[]
  | n+1=>if hasT? l ((n+1:Nat):Int) then kC l n++[((n+1:Nat):Int)] else kC l n
def KE (l:List ak):List Int:=kC l 999
end
end Go.Proofs.YtkbhcbipadkcaaaGreatDoor
section
namespace Go.Proofs
open Go.Shelf
def Tryz.lays189_ren:Go.Shelf.Ren:=⟨fun|189=>164|125=>190|257=>191|128=>215|129=>216|294=>217|295=>218|296=>219|297=>220|298=>221|299=>222|216=>223|300=>224|301=>225|328=>246|329=>242|330=>243|331=>247|332=>248|215=>249|343=>260|n=>n,fun|28=>159|3=>3|46=>188|0=>0|51=>232|53=>33|4=>4|183=>257|182=>256|131=>205|5=>5|9=>9|218=>282|222=>286|228=>302|229=>303|n=>n,fun|n=>n⟩
theorem Tryz.lays189:Go.Proofs.Lays.n189 Tryz.prog Tryz.lays189_ren:={
 mixed:=by kernel_rfl
 f125:=Tryz.func190.trans (congrArg some (by kernel_rfl))
 f128:=Tryz.func215.trans (congrArg some (by kernel_rfl))
 f129:=Tryz.func216.trans (congrArg some (by kernel_rfl))
 f189:=Tryz.func164.trans (congrArg some (by kernel_rfl))
 f215:=Tryz.func249.trans (congrArg some (by kernel_rfl))
 f216:=Tryz.func223.trans (congrArg some (by kernel_rfl))
 f257:=Tryz.func191.trans (congrArg some (by kernel_rfl))
 f294:=Tryz.func217.trans (congrArg some (by kernel_rfl))
 f295:=Tryz.func218.trans (congrArg some (by kernel_rfl))
 f296:=Tryz.func219.trans (congrArg some (by kernel_rfl))
 f297:=Tryz.func220.trans (congrArg some (by kernel_rfl))
 f298:=Tryz.func221.trans (congrArg some (by kernel_rfl))
 f299:=Tryz.func222.trans (congrArg some (by kernel_rfl))
 f300:=Tryz.func224.trans (congrArg some (by kernel_rfl))
 f301:=Tryz.func225.trans (congrArg some (by kernel_rfl))
 f328:=Tryz.func246.trans (congrArg some (by kernel_rfl))
 f329:=Tryz.func242.trans (congrArg some (by kernel_rfl))
 f330:=Tryz.func243.trans (congrArg some (by kernel_rfl))
 f331:=Tryz.func247.trans (congrArg some (by kernel_rfl))
 f332:=Tryz.func248.trans (congrArg some (by kernel_rfl))
 f343:=Tryz.func260.trans (congrArg some (by kernel_rfl))
 t0:=Tryz.underlying0
 a0:=Tryz.isAgg0
 z0:=Tryz.sizeOf0
 v0:=Tryz.zeroValue0
 t3:=Tryz.underlying3
 a3:=Tryz.isAgg3
 z3:=Tryz.sizeOf3
 v3:=Tryz.zeroValue3
 t4:=Tryz.underlying4
 a4:=Tryz.isAgg4
 z4:=Tryz.sizeOf4
 v4:=Tryz.zeroValue4
 t5:=Tryz.underlying5
 a5:=Tryz.isAgg5
 z5:=Tryz.sizeOf5
 v5:=Tryz.zeroValue5
 t9:=Tryz.underlying9
 a9:=Tryz.isAgg9
 z9:=Tryz.sizeOf9
 v9:=Tryz.zeroValue9
 t28:=Tryz.underlying159
 a28:=Tryz.isAgg159
 z28:=Tryz.sizeOf159
 v28:=Tryz.zeroValue159
 t46:=Tryz.underlying188
 a46:=Tryz.isAgg188
 z46:=Tryz.sizeOf188
 v46:=Tryz.zeroValue188
 t51:=Tryz.underlying232
 a51:=Tryz.isAgg232
 z51:=Tryz.sizeOf232
 v51:=Tryz.zeroValue232
 t53:=Tryz.underlying33
 a53:=Tryz.isAgg33
 z53:=Tryz.sizeOf33
 v53:=Tryz.zeroValue33
 t131:=Tryz.underlying205
 a131:=Tryz.isAgg205
 z131:=Tryz.sizeOf205
 v131:=Tryz.zeroValue205
 t182:=Tryz.underlying256
 a182:=Tryz.isAgg256
 z182:=Tryz.sizeOf256
 v182:=Tryz.zeroValue256
 t183:=Tryz.underlying257
 a183:=Tryz.isAgg257
 z183:=Tryz.sizeOf257
 v183:=Tryz.zeroValue257
 t218:=Tryz.underlying282
 a218:=Tryz.isAgg282
 z218:=Tryz.sizeOf282
 v218:=Tryz.zeroValue282
 t222:=Tryz.underlying286
 a222:=Tryz.isAgg286
 z222:=Tryz.sizeOf286
 v222:=Tryz.zeroValue286
 t228:=Tryz.underlying302
 a228:=Tryz.isAgg302
 z228:=Tryz.sizeOf302
 v228:=Tryz.zeroValue302
 t229:=Tryz.underlying303
 a229:=Tryz.isAgg303
 z229:=Tryz.sizeOf303
 v229:=Tryz.zeroValue303 }
def Tryz.laysNm220_ren:Go.Shelf.Ren:=⟨fun|20=>165|n=>n,fun|22=>159|3=>3|4=>4|0=>0|n=>n,fun|n=>n⟩
theorem Tryz.laysNm220:Go.Proofs.Lays2.n20 Tryz.prog Tryz.laysNm220_ren:={
 mixed:=by kernel_rfl
 f20:=Tryz.func165.trans (congrArg some (by kernel_rfl))
 t0:=Tryz.underlying0
 a0:=Tryz.isAgg0
 z0:=Tryz.sizeOf0
 v0:=Tryz.zeroValue0
 t3:=Tryz.underlying3
 a3:=Tryz.isAgg3
 z3:=Tryz.sizeOf3
 v3:=Tryz.zeroValue3
 t4:=Tryz.underlying4
 a4:=Tryz.isAgg4
 z4:=Tryz.sizeOf4
 v4:=Tryz.zeroValue4
 t22:=Tryz.underlying159
 a22:=Tryz.isAgg159
 z22:=Tryz.sizeOf159
 v22:=Tryz.zeroValue159
 i3:=by kernel_rfl }
open Go.Sort Go.RowKit in
theorem Tryz.slices_Sort_int (blk off cap:Nat)(zs:List Int)(w:World)(hH:Holds (Value.int .i64) w blk off zs.toArray)(hblk:blk<w.heap.size)(hsz:zs.length<4611686018427387904) :
    Calls Tryz.prog 164 #[.slice (some ⟨blk,off,none⟩) zs.length cap] w fun e w' =>
      e = .returned (.tuple #[]) /\ ∃n os,w'=grow (putRow (Value.int .i64) (Sort.ahead w n) blk off (zs.mergeSort fun x y=>decide (x<=y)).toArray) os:=Any.slices_Sort_int Tryz.lays189 blk off cap zs w hH hblk hsz
open Go.RowKit Go.Lib Go.Sort in
theorem Tryz.slices_Compact_int (blk off cap:Nat)(zs:List Int)(w:World)(hH:Holds (Value.int .i64) w blk off zs.toArray)(hsz:zs.length<=9223372036854775807)(hcap:zs.length<=cap) :
    Calls Tryz.prog 165 #[.slice (some ⟨blk,off,none⟩) zs.length cap] w fun e w'=>e = .returned (.slice (some ⟨blk,off,none⟩) (Lib.compact zs).length cap) /\ ∃q,w'=putRow (Value.int .i64) (Sort.ahead w q) blk off (Lib.compact zs++List.replicate (zs.length-(Lib.compact zs).length) 0).toArray:=Any.slices_Compact_int Tryz.laysNm220 blk off cap zs w hH hsz hcap
open Go.RowKit Go.Lib Go.Sort in
theorem Tryz.slices_Compact_int_empty (a:Option Addr)(cap:Nat)(w:World) :
    Calls Tryz.prog 165 #[.slice a 0 cap] w fun e w'=>e = .returned (.slice a 0 cap)/\w'=w:=Any.slices_Compact_int_empty Tryz.laysNm220 a cap w
open Go.RowKit Go.Sort in
theorem Tryz.slices_Sort_int_none (p:Option Addr)(cap:Nat)(w:World) :
    Calls Tryz.prog 164 #[.slice p 0 cap] w fun e w'=>e = .returned (.tuple #[])/\w'=w:=Any.slices_Sort_int_none Tryz.lays189 p cap w
end Go.Proofs
end
namespace Go.Proofs.YtkbhcbipadkcaaaGreatDoor
set_option linter.unusedVariables false
set_option linter.unusedSimpArgs false
set_option maxRecDepth 100000
set_option maxHeartbeats 90000000
section
open Go Go.RowKit Go.Sort
def mX (l:List Int):List Int:=l.mergeSort fun x y=>decide (x<=y)
theorem t7 (l:List Int):l.flatMap Enc.cells=l.map (Value.int .i64):=by
 induction l with
 | nil=>rfl
 | cons x l ih=>rw [List.flatMap_cons,ih];rfl
theorem xB {w:World}{g cap n m:Nat}{os:Array Obj}{l ts zs:List Int}{v:Value}(hv:v = .slice (some ⟨g,0,none⟩) l.length cap)(how:Own 0 3 w v l)(hl:ts.length=l.length)(hz:zs=ts.take m)(hm:m<=l.length) :
 Turned [ag.row 3 v l] [ag.row 3 (.slice (some ⟨g,0,none⟩) m cap) zs] w (grow (putRow (Value.int .i64) (Sort.ahead w n) g 0 ts.toArray) os):=by
 obtain ⟨hlen,hn|⟨g',cap',cur,hv',_,hgg,hnc,hcm,hcs,htk⟩⟩:=how
 .rw [hn.1] at hv;cases hv
 rw [hv] at hv'
 simp only [Value.slice.injEq,Option.some.injEq,Addr.mk.injEq,and_true,true_and] at hv'
 obtain ⟨rfl,rfl⟩:=hv'
 have h3:cur.size=cap*1:=hcs
 have hgb:=grownBy_sortedI (w:=w) (g:=g) (n:=n) (os:=os) ts.toArray
 have hz2:zs.length=m:=by rw [hz,List.length_take];omega
 have hown:Own 0 3 (grow (putRow (Value.int .i64) (Sort.ahead w n) g 0 ts.toArray) os) (.slice (some ⟨g,0,none⟩) m cap) zs:=by
  have h:=ownsRow_sortedI (w:=w) (base:=0) (n:=n) (os:=os) (ss:=l) (ts:=ts) hl (Nat.zero_le _) hgg hnc hcm h3
  obtain ⟨h1,h2|⟨g2,c2,SX,e2,b2,hg2,n2,m2,s2,t2⟩⟩:=h
  .cases h2.1
  simp only [Value.slice.injEq,Option.some.injEq,Addr.mk.injEq,and_true,true_and] at e2
  obtain ⟨rfl,rfl⟩:=e2
  refine ⟨by rw [di],.inr ⟨g,cap,SX,by rw [hz2],Nat.zero_le _,hg2,by omega,hcm,s2,?_⟩⟩
  show SX.toList.take (zs.length*1)=_
  rw [t7,hz2,Nat.mul_one,hz,List.map_take,<- t2,List.take_take,Nat.mul_one,Nat.min_eq_left hm]
 have hlt:g<w.heap.size:=(Array.getElem?_eq_some_iff.1 hgg).1
 refine ⟨⟨hgb.os,hgb.tape,hgb.output,hgb.size,fun k hk hx=>hgb.block k hk (fun e=>hx ?_)⟩,?_,?_,fun k hk=>?_⟩
 .injection e with e;subst e;rw [hv];simp [blks,ag.row,dW]
 .intro r hr;simp at hr;subst hr;exact hown
 .simp [blks,ag.row,dW]
 .
  simp [blks,ag.row,dW] at hk;subst hk
  exact ⟨Nat.lt_of_lt_of_le hlt hgb.size,.inl (by rw [hv];simp [blks,ag.row,dW])⟩
theorem Turned.refl {B0:List ag}{w:World}(h:Hnd B0 w):Turned B0 B0 w w:=⟨lR.refl _ _,h.ok,h.sep,fun k hk=>⟨h.lt k hk,.inl hk⟩⟩
theorem KF (v:Value)(l:List Int)(w:World)(H:Hnd [ag.row 3 v l] w)(hl:l.length<=1000000):Calls Tryz.prog 164 [v].toArray w fun e w' => ∃_z:Unit,e = .returned (.tuple #[])/\Turned [ag.row 3 v l] [ag.row 3 v (mX l)] w w':=by
 have how:Own 0 3 w v l:=H.ok (ag.row 3 v l) (List.mem_singleton.2 rfl)
 have hs:(mX l).length=l.length:=List.length_mergeSort l
 rcases how.2 with ⟨rfl,h0⟩ | ⟨g,cap,cur,hv,_,hgg,hnc,hcm,hcs,htk⟩
 .
  have:l=[]:=List.eq_nil_of_length_eq_zero h0
  subst this
  refine (Tryz.slices_Sort_int_none none 0 w).mono ?_
  rintro e w' ⟨rfl,rfl⟩
  have e0:mX []=[]:=by simp [mX]
  rw [e0]
  exact ⟨(),rfl,Turned.refl H⟩
 .
  have hH:=holds_of_blockI (ss:=l) hgg (by have:=htk;rw [t7] at this;simpa [Enc.k] using this)
  rw [hv]
  refine (Tryz.slices_Sort_int g 0 cap l w hH (Array.getElem?_eq_some_iff.1 hgg).1 (by omega)).mono ?_
  rintro e w' ⟨rfl,n,os,rfl⟩
  refine ⟨(),rfl,?_⟩
  have:=xB (os:=os) (n:=n) (ts:=mX l) (zs:=mX l) (m:=l.length) hv how hs (by rw [List.take_of_length_le (by omega)]) (Nat.le_refl _)
  rw [hv] at this;exact this
theorem Ds (v:Value)(l:List Int)(w:World)(H:Hnd [ag.row 3 v l] w)(hl:l.length<=1000000):Calls Tryz.prog 165 [v].toArray w fun e w' => ∃z:Value,e = .returned z/\Turned [ag.row 3 v l] [ag.row 3 z (Lib.compact l)] w w':=by
 have how:Own 0 3 w v l:=H.ok (ag.row 3 v l) (List.mem_singleton.2 rfl)
 rcases how.2 with ⟨rfl,h0⟩ | ⟨g,cap,cur,hv,_,hgg,hnc,hcm,hcs,htk⟩
 .
  have:l=[]:=List.eq_nil_of_length_eq_zero h0
  subst this
  refine (Tryz.slices_Compact_int_empty none 0 w).mono ?_
  rintro e w' ⟨rfl,rfl⟩
  exact ⟨_,rfl,Turned.refl H⟩
 .
  have hH:=holds_of_blockI (ss:=l) hgg (by have:=htk;rw [t7] at this;simpa [Enc.k] using this)
  have hc:(Lib.compact l).length<=l.length:=by
   unfold Lib.compact Lib.compactUpTo
   rw [List.length_map]
   exact Nat.le_trans (List.length_filter_le _ _) (by simp)
  rw [hv]
  refine (Tryz.slices_Compact_int g 0 cap l w hH (by omega) hnc).mono ?_
  rintro e w' ⟨rfl,n,rfl⟩
  refine ⟨_,rfl,?_⟩
  have:=xB (os:= #[]) (n:=n) (ts:=Lib.compact l++List.replicate (l.length-(Lib.compact l).length) 0) (zs:=Lib.compact l) (m:=(Lib.compact l).length) hv how (by simp;omega) (by simp) hc
  rw [hv,grow_empty] at this;exact this
end
section
open Go Go.RowKit
theorem Fc (bT:Value)(l:List ak)(w:World)(eA:Sl w bT l)(hl:l.length<=1000000):Calls Tryz.prog 110 #[bT] w fun e w' => ∃u,e = .returned u/\Own w.heap.size 3 w' u (Lib.compact (mX (l.map ak.aE)))/\Ext w w':=by
 have zm:=eA.gW
 refine R.enter [] [(0,bT)] Tryz.func110 O O O O<|R.reg O<|R.u 1 O<|R.nil<|R.reg O<|R.u 1 O<|R.nil<|R.reg O<|R.u 1 O<|R.q (q.len' (fun _=>Wd.old eA) O Tryz.underlying43) O<|R.u 1 O<|R.nil<|R.row0 (α:=Int) 3<|R.loop (fun g_:Nat×Value×(List Int)=>[(3,g_.2.1),(6,bT),(7,iV (l.length:Int)),(8,iV (g_.1:Int))]) (fun g_=>[ag.row 3 g_.2.1 g_.2.2]) (fun g_=>[]) (fun g_=>g_.1<=l.length/\g_.2.2=(l.take g_.1).map ak.aE) (fun g_=>l.length-g_.1) (0,(nS),[]) O (by exact ⟨by omega,by simp⟩) (sF O) (iz [0] [] O) ?_
 rintro ⟨k,v,acc⟩ ⟨hk,HA⟩
 dsimp only at *
 have hal:acc.length<=k:=by rw [HA];simp;omega
 refine R.reg O<|?_
 by_cases h1:k<l.length
 .
  refine R.q (q.dC O O) O<|R.nil<|R.az O O<|R.reg O<|?_
  obtain ⟨x1,hx1⟩:∃z,l[k]? = some z:=⟨_,List.getElem?_eq_getElem (by omega)⟩
  refine R.q (q.idx (i:=k) (fun _=>Wd.old eA) O O eu O hx1) O<|R.q (q.gh (ds:=jP x1) (fun _=>Wd.old eA) hx1 O aN O) O<|R.s O (s.alloc bQ O O) fun b1=>?_
  refine R.s O (s.st 0 _ O O O O (.inl aN) O O O O) fun _=>?_
  refine R.nil<|R.reg O<|R.u 1 O<|R.q (q.aP O fU O) O<|R.q (q.ld 0 O O ap O) O<|R.s O (s.bs (l:=([x1.aE]:List Int)) da lT O O O O O O O) fun b2=>?_
  refine R.s O (s.app 2 _ O O O (bD 0 O) nH (by simp;omega) (by simp;omega) (fun _=>rfl) O) fun v1=>?_
  refine R.u 1 O<|R.nil<|R.reg O<|R.q (q.bA (r:=((k+1:Nat):Int)) O O) O<|R.u 1 O<|R.nil<|R.back (k+1,v1,(acc++([x1.aE]))) O (by (exact ⟨by omega,by rw [HA,List.take_add_one,hx1];simp⟩)) (by dsimp only;omega) (sF O) (iz [2] [] O)
 refine R.q (q.cS O O) O<|R.nil<|R.aD O O<|R.reg O<|R.u 1 O<|R.s O (s.IY [0] _ _ O O Pk O O (fun w hw H=>KF v acc w H (by omega)) O) fun u1=>?_
 refine R.nil<|R.reg O<|R.u 1 O<|R.s O (s.IY [0] _ _ O O Pm O O (fun w hw H=>Ds v (mX acc) w H (by simp [mX];omega)) O) fun v2=>?_
 exact R.u 1 O<|R.nil<|R.ro 0 O Tryz.results110 O O (by (rw [HA,List.take_of_length_le (by omega)]))
end
section
open Go.RowKit
theorem Gy:∀ (a b:List Int),a.Pairwise (· < ·)->b.Pairwise (· < ·)->(∀x,x∈a↔x∈b)->a=b
 | [],[],_,_,_=>rfl
 | [],y::b,_,_,h=>by have:=(h y).2 (by simp);simp at this
 | x::a,[],_,_,h=>by have:=(h x).1 (by simp);simp at this
 | x::a,y::b,ha,hb,h=>by
  obtain ⟨ha1,ha2⟩:=List.pairwise_cons.1 ha
  obtain ⟨hb1,hb2⟩:=List.pairwise_cons.1 hb
  have hxy:x=y:=by
   have h1:x=y∨x∈b:=by simpa using (h x).1 (by simp)
   have h2:y=x∨y∈a:=by simpa using (h y).2 (by simp)
   rcases h1 with h1|h1
   .exact h1
   .
    rcases h2 with h2|h2
    .exact h2.symm
    .have:=hb1 x h1;have:=ha1 y h2;omega
  subst hxy
  congr 1
  refine Gy a b ha2 hb2 fun z=>?_
  constructor
  .
   intro hz
   have h1:z=x∨z∈b:=by simpa using (h z).1 (by simp [hz])
   rcases h1 with h1|h1
   .have:=ha1 z hz;omega
   .exact h1
  .
   intro hz
   have h1:z=x∨z∈a:=by simpa using (h z).2 (by simp [hz])
   rcases h1 with h1|h1
   .have:=hb1 z hz;omega
   .exact h1
theorem sX {zs:List Int}(hs:zs.Pairwise (· <= ·)):∀m,m<=zs.length->(Lib.compactUpTo zs.toArray m).Pairwise (· < ·) /\ ∀x,x∈Lib.compactUpTo zs.toArray m ↔ ∃j,j<m/\zs[j]? = some x
 | 0,_=>by simp [Lib.compactUpTo]
 | m+1,hm=>by
  obtain ⟨ih1,ih2⟩:=sX hs m (by omega)
  have hz:zs[m]? = some zs[m]:=List.getElem?_eq_getElem (by omega)
  have hd:zs.toArray[m]! = zs[m]:=by simp [getElem!_pos zs.toArray m (by simp;omega)]
  rw [Lib.compactUpTo_succ,hd]
  have hle:∀j x,j<m->zs[j]? = some x->x<=zs[m]:=fun j x hj hx=>by
   obtain ⟨h1,rfl⟩:=List.getElem?_eq_some_iff.1 hx
   exact List.pairwise_iff_getElem.1 hs j m h1 (by omega) hj
  by_cases hk:Lib.keeps zs.toArray m=true
  .
   rw [if_pos hk]
   have hlt:∀x∈Lib.compactUpTo zs.toArray m,x<zs[m]:=fun x hx=>by
    obtain ⟨j,hj,hxj⟩:=(ih2 x).1 hx
    have h1:=hle j x hj hxj
    simp only [Lib.keeps,decide_eq_true_eq] at hk
    rcases hk with hk|hk
    .omega
    .
     have hd1:zs.toArray[m-1]! = zs[m-1]:=by simp [getElem!_pos zs.toArray (m-1) (by simp;omega)]
     rw [hd,hd1] at hk
     have h2:x<=zs[m-1]:=by
      obtain ⟨h3,rfl⟩:=List.getElem?_eq_some_iff.1 hxj
      rcases Nat.lt_or_ge j (m-1) with h4|h4
      .exact List.pairwise_iff_getElem.1 hs j (m-1) h3 (by omega) h4
      .
       have:j=m-1:=by omega
       subst this;exact Int.le_refl _
     have h5:zs[m-1]<=zs[m]:=List.pairwise_iff_getElem.1 hs (m-1) m (by omega) (by omega) (by omega)
     omega
   refine ⟨List.pairwise_append.2 ⟨ih1,by simp,fun a ha b hb=>by simp at hb;subst hb;exact hlt a ha⟩,fun x=>?_⟩
   rw [List.mem_append,ih2]
   constructor
   .
    rintro (⟨j,hj,hx⟩ | h)
    .exact ⟨j,by omega,hx⟩
    .simp at h;exact ⟨m,by omega,by rw [hz,h]⟩
   .
    rintro ⟨j,hj,hx⟩
    by_cases e:j=m
    .subst e;rw [hz] at hx;injection hx with hx;right;simp [hx]
    .exact .inl ⟨j,by omega,hx⟩
  .
   rw [if_neg hk,List.append_nil]
   refine ⟨ih1,fun x=>?_⟩
   rw [ih2]
   simp only [Lib.keeps,decide_eq_true_eq] at hk
   have hm0:m≠0:=fun e=>hk (.inl e)
   have hd1:zs.toArray[m-1]! = zs[m-1]:=by simp [getElem!_pos zs.toArray (m-1) (by simp;omega)]
   have he:zs[m]=zs[m-1]:=by
    by_cases e:zs[m]=zs[m-1]
    .exact e
    .exact absurd (.inr (by rw [hd,hd1];exact e)) hk
   constructor
   .rintro ⟨j,hj,hx⟩;exact ⟨j,by omega,hx⟩
   .
    rintro ⟨j,hj,hx⟩
    by_cases e:j=m
    .
     subst e;rw [hz] at hx;injection hx with hx
     exact ⟨j-1,by omega,by rw [List.getElem?_eq_getElem (by omega),<- he,hx]⟩
    .exact ⟨j,by omega,hx⟩
theorem mY (l:List ak):∀n,(kC l n).Pairwise (· < ·) /\ ∀x,x∈kC l n↔1<=x/\x<=(n:Int)/\hasT? l x=true
 | 0=>by simp [kC];omega
 | n+1=>by
  obtain ⟨h1,h2⟩:=mY l n
  simp only [kC]
  split
  .
   rename_i hh
   refine ⟨List.pairwise_append.2 ⟨h1,by simp,fun a ha b hb=>by simp at hb;subst hb;have:=(h2 a).1 ha;omega⟩,fun x=>?_⟩
   rw [List.mem_append,h2]
   constructor
   .
    rintro (⟨a,b,c⟩ | h)
    .exact ⟨a,by omega,c⟩
    .simp at h;subst h;exact ⟨by omega,by omega,hh⟩
   .
    rintro ⟨a,b,c⟩
    by_cases e:x<=(n:Int)
    .exact .inl ⟨a,e,c⟩
    .right;simp;omega
  .
   rename_i hh
   refine ⟨h1,fun x=>?_⟩
   rw [h2]
   constructor
   .rintro ⟨a,b,c⟩;exact ⟨a,by omega,c⟩
   .
    rintro ⟨a,b,c⟩
    refine ⟨a,?_,c⟩
    by_cases e:x<=(n:Int)
    .exact e
    .
     have:x=((n+1:Nat):Int):=by omega
     rw [this] at c;exact absurd c hh
theorem zE {l:List ak}(h:cL l):Lib.compact (mX (l.map ak.aE))=KE l:=by
 have hs:(mX (l.map ak.aE)).Pairwise (· <= ·):=by
  have:=List.pairwise_mergeSort (le:=fun x y:Int=>decide (x<=y)) (fun a b c=>by simp;omega) (fun a b=>by simp;omega) (l.map ak.aE)
  exact this.imp (by simp)
 obtain ⟨h1,h2⟩:=sX hs _ (Nat.le_refl _)
 obtain ⟨h3,h4⟩:=mY l 999
 refine Gy _ _ h1 h3 fun x=>?_
 show x∈Lib.compactUpTo _ _↔x∈kC l 999
 rw [h2,h4]
 have hm:(∃j,j<(mX (l.map ak.aE)).length/\(mX (l.map ak.aE))[j]? = some x)↔x∈l.map ak.aE:=by
  rw [<- List.mem_mergeSort (le:=fun x y:Int=>decide (x<=y)) (l:=l.map ak.aE)]
  constructor
  .rintro ⟨j,_,hx⟩;exact List.mem_of_getElem? hx
  .
   intro hx
   obtain ⟨j,hj⟩:=List.mem_iff_getElem?.1 hx
   exact ⟨j,(List.getElem?_eq_some_iff.1 hj).1,hj⟩
 rw [hm]
 simp only [List.mem_map,hasT?,List.any_eq_true,beq_iff_eq]
 constructor
 .
  rintro ⟨y,hy,rfl⟩
  have w:=h.mem hy
  have:=w.Qc;have:=w.Qd
  exact ⟨by omega,by omega,y,hy,rfl⟩
 .rintro ⟨_,_,y,hy,he⟩;exact ⟨y,hy,he⟩
end
section
theorem j5 {α:Type}(p:α->Bool)(l:List α):(idxOf p l = -1 /\ ∀x∈l,p x=false) ∨ ∃ (k:Nat) (x:α),idxOf p l=k/\l[k]? = some x/\p x=true/\(∀ (j:Nat) y,j<k->l[j]? = some y->p y=false)/\k<l.length:=by
 unfold idxOf
 cases h:l.findIdx? p with
 | none=>exact .inl ⟨rfl,fun x hx=>by have:=List.findIdx?_eq_none_iff.1 h x hx;simpa using this⟩
 | some k =>
  obtain ⟨hk,hp,hb⟩:=List.findIdx?_eq_some_iff_getElem.1 h
  refine .inr ⟨k,l[k],rfl,List.getElem?_eq_getElem hk,hp,fun j y hj hy=>?_,hk⟩
  have:=hb j hj
  have e:=(List.getElem?_eq_some_iff.1 hy).2
  rw [e] at this;simpa using this
section
variable {α:Type} {p:α->Bool} {l acc:List α} {i j k:Nat} {x:α}
theorem xC (h:∀x∈l,p x=false):l.filter (fun x => !p x)=l:=List.filter_eq_self.2 (fun x hx=>by simp [h x hx])
def pg (p:α->Bool)(l acc:List α)(i j:Nat):Prop:=i<=j/\j<=l.length/\acc.length=l.length/\acc.take i=(l.take j).filter (fun x => !p x)/\acc.drop j=l.drop j
theorem pg.start (hx:l[k]? = some x)(hp:p x=true)(hb:∀ (j:Nat) y,j<k->l[j]? = some y->p y=false):pg p l l k (k+1):=by
 have hk:=(List.getElem?_eq_some_iff.1 hx).1
 refine ⟨by omega,by omega,rfl,?_,rfl⟩
 rw [List.take_add_one,hx,List.filter_append]
 have:(l.take k).filter (fun x => !p x)=l.take k:=List.filter_eq_self.2 (fun y hy=>by
  obtain ⟨q,hq⟩:=List.mem_iff_getElem?.1 hy
  rw [List.getElem?_take] at hq
  split at hq
  .simp [hb q y (by assumption) hq]
  .cases hq)
 rw [this];simp [hp]
theorem pg.at (h:pg p l acc i j):acc[j]? = l[j]?:=by
 have:=congrArg (·[0]?) h.2.2.2.2
 simpa using this
theorem pg.skip (h:pg p l acc i j)(hx:acc[j]? = some x)(hp:p x=true):pg p l acc i (j+1):=by
 rw [h.at] at hx
 have hk:=(List.getElem?_eq_some_iff.1 hx).1
 obtain ⟨h1,h2,h3,h4,h5⟩:=h
 refine ⟨by omega,by omega,h3,?_,?_⟩
 .rw [List.take_add_one,hx,List.filter_append,<- h4];simp [hp]
 .rw [<- List.drop_drop,<- List.drop_drop,h5]
theorem pg.keep (h:pg p l acc i j)(hx:acc[j]? = some x)(hp:p x=false):pg p l (acc.set i x) (i+1) (j+1):=by
 rw [h.at] at hx
 have hk:=(List.getElem?_eq_some_iff.1 hx).1
 obtain ⟨h1,h2,h3,h4,h5⟩:=h
 refine ⟨by omega,by omega,by rw [List.length_set,h3],?_,?_⟩
 .
  rw [List.take_add_one (l:=l),hx,List.filter_append,<- h4,List.take_add_one,List.getElem?_set_self (by omega),List.take_set_of_le (Nat.le_refl _)]
  simp [hp]
 .rw [List.drop_set_of_lt (by omega),<- List.drop_drop,<- List.drop_drop,h5]
theorem pg.done (h:pg p l acc i j)(hj:¬ j<l.length){z:α}{m:Nat}:l.filter (fun x => !p x)=(acc.take i++List.replicate m z).take i:=by
 obtain ⟨h1,h2,h3,h4,h5⟩:=h
 have hl:(acc.take i).length=i:=by rw [List.length_take];omega
 rw [List.take_append_of_le_length (by omega),List.take_of_length_le (by omega),h4,List.take_of_length_le (l:=l) (by omega)]
end
end
section
def r0:aB:=⟨[],[],[],[],0,0⟩
def n0:Note:=⟨0,⟨#[]⟩,0,0⟩
structure Ok (r:aB):Prop where
  wl:r.ao.length<=2000
  tl:r.Things.length<=2000
  hl:r.Held.length<=2000
  nl:r.Notes.length<=2000
  ri:∀w∈r.ao,0<=w.Rights/\w.Rights<=7
  w0:0<=r.af
  w1:r.af<=2000
  t0:0<=r.ah
  t1:r.ah<=2000
def EK (l:List ak)(id:Int):Option ak:=l.find? (fun w=>w.ID==id)
theorem Qh {l:List ak}{id:Int}{j:Nat}{x:ak}(hf:cD l id=(j:Int))(hx:l[j]? = some x):EK l id=some x:=by
 rcases k9 (l:=l) (id:=id) with ⟨h1,h2⟩ | ⟨k,hk,h1,h2⟩
 .omega
 .
  have:k=j:=by omega
  subst this
  rw [List.getElem?_eq_getElem hk] at hx;injection hx with hx
  unfold EK;rw [h2,hx]
theorem Qi {l:List ak}{id:Int}(hf:cD l id = -1):EK l id=none:=by
 rcases k9 (l:=l) (id:=id) with ⟨h1,h2⟩ | ⟨k,hk,h1,h2⟩
 .exact h2
 .omega
theorem KG {l:List ak}{id:Int}{x:ak}(h:EK l id=some x):x∈l/\x.ID=id:=by
 unfold EK at h
 exact ⟨List.mem_of_find?_eq_some h,by simpa using List.find?_some h⟩
def aS (r:aB)(p:Place):ak×Int :=
  if aZ p=0 then (match EK r.ao (mM r.Held p) with|some w=>(w,0)|none=>(jI,5)) else (jI,aZ p)
theorem xD {r:aB}{p:Place}(h:¬ aZ p=0):aS r p=(jI,aZ p):=by unfold aS;rw [if_neg h]
theorem zF {r:aB}{p:Place}(h:aZ p=0)(hf:cD r.ao (mM r.Held p) = -1):aS r p=(jI,5):=by unfold aS;rw [if_pos h,Qi hf]
theorem Dt {r:aB}{p:Place}{j:Nat}{x:ak}(h:aZ p=0)(hf:cD r.ao (mM r.Held p)=(j:Int))(hx:r.ao[j]? = some x):aS r p=(x,0):=by unfold aS;rw [if_pos h,Qh hf hx]
theorem zG {r:aB}{p:Place}(h:(aS r p).2=0):aZ p=0/\(aS r p).1∈r.ao/\(aS r p).1.ID=mM r.Held p:=by
 by_cases h1:aZ p=0
 .
  cases h2:EK r.ao (mM r.Held p) with
  | none=>unfold aS at h;rw [if_pos h1,h2] at h;simp at h
  | some w =>
   have e:aS r p=(w,0):=by unfold aS;rw [if_pos h1,h2]
   have:=KG h2
   rw [e];exact ⟨h1,this.1,this.2⟩
 .rw [xD h1] at h;exact absurd h h1
theorem j6 (r:aB)(p:Place):0<=(aS r p).2:=by
 unfold aS;split
 .split <;> simp
 .have:=ry p;dsimp only;omega
theorem Ok.get {r:aB}(h:Ok r){p:Place}(hg:(aS r p).2=0):0<=(aS r p).1.Rights/\(aS r p).1.Rights<=7:=h.ri _ (zG hg).2.1
def gI (r:aB)(p:Place):Int:=if aZ p=0 then (if mM r.Held p=0 then 0 else 6) else aZ p
theorem oI (r:aB)(p:Place):0<=gI r p:=by
 unfold gI;have:=ry p;split
 .split <;> simp
 .omega
def fA (r:aB)(w:ak)(p:Place):aB:=⟨r.ao++[w],r.Things,if 0<p.aC then fT r.Held p w.ID else r.Held,r.Notes,r.af+1,r.ah⟩
def dQ (r:aB)(p:Place)(kind:Int):aB×Int :=
  if kind=1∨kind=2 then
    if gI r p=0 then
      if r.Things.length=10∨999<r.ah∨999<r.af then (r0,9)
      else (fA ⟨r.ao,r.Things++[⟨r.ah,kind,⟨#[]⟩⟩],r.Held,r.Notes,r.af,r.ah+1⟩ ⟨r.af,r.ah,7,0,0⟩ p,0)
    else (r0,gI r p)
  else (r0,8)
def fq (r:aB)(p t:Place)(rights dI:Int):aB×Int :=
  if (aS r p).2=0 then
    if gI r t=0 then
      if p.aC=t.aC∨je (aS r p).1.Rights 4=true then
        if 999<r.af then (r0,9)
        else if (derived (aS r p).1 r.af rights dI).2=0 then (fA r (derived (aS r p).1 r.af rights dI).1 t,0)
        else (r0,(derived (aS r p).1 r.af rights dI).2)
      else (r0,7)
    else (r0,gI r t)
  else (r0,(aS r p).2)
def jh (r:aB)(p:Place)(slot:Int):aB×Int :=
  if (aS r p).2=0 then
    if gI r ⟨p.aC,slot⟩=0 then (⟨r.ao,r.Things,fT (fT r.Held p 0) ⟨p.aC,slot⟩ (aS r p).1.ID,r.Notes,r.af,r.ah⟩,0)
    else (r0,gI r ⟨p.aC,slot⟩)
  else (r0,(aS r p).2)
def bV (l:List ak):List Int:=Lib.compact (mX (l.map ak.aE))
def jC (ws:List ak)(n:Note):Note:=if cD ws n.ak<0 then ⟨n.Port,n.Data,n.aQ,0⟩ else n
def ia (ws:List ak)(ts:List Int)(ns:List Note):List Note:=(ns.map (jC ws)).filter (fun n=>decide (n.Port∈ts))
def kI (ws:List ak)(ts:List Int)(ns:List Note):List Int:=((ns.map (jC ws)).filter (fun n => !decide (n.Port∈ts)&&decide (0<n.ak))).map Note.ak
def fO (r:aB):aB:=⟨r.ao,r.Things.filter (fun t => !!decide (t.ID∈bV r.ao)),r.Held.filter (fun h => !decide (cD r.ao h.ak<0)),ia r.ao (bV r.ao) r.Notes,r.af,r.ah⟩
def o7 (r:aB):List Int:=kI r.ao (bV r.ao) r.Notes
def nn (r:aB):aB:=⟨(o7 r).foldl without r.ao,(fO r).Things,(fO r).Held,(fO r).Notes,r.af,r.ah⟩
def gT:Nat->aB->aB
  | 0,r=>fO r
  | n+1,r=>if (o7 r).length=0 then fO r else gT n (nn r)
def dN (r:aB):aB:=gT (r.Notes.length+1) r
theorem qK (ws:List ak)(ts:List Int)(ns:List Note):(ia ws ts ns).length+(kI ws ts ns).length<=ns.length:=by
 have h:∀l:List Note,(l.filter (fun n=>decide (n.Port∈ts))).length+(l.filter (fun n => !decide (n.Port∈ts)&&decide (0<n.ak))).length<=l.length:=by
  intro l
  induction l with
  | nil=>simp
  | cons n l ih =>
   rw [List.filter_cons,List.filter_cons,List.length_cons]
   by_cases h:n.Port∈ts
   .rw [if_pos (by simpa using h),if_neg (by simp [h]),List.length_cons];omega
   .
    rw [if_neg (by simpa using h)]
    split
    .rw [List.length_cons];omega
    .omega
 have:=h (ns.map (jC ws))
 simpa [ia,kI] using this
theorem oJ {r:aB}(h:¬ (o7 r).length=0):(nn r).Notes.length<r.Notes.length:=by
 have:=qK r.ao (bV r.ao) r.Notes
 show (ia r.ao (bV r.ao) r.Notes).length<_
 unfold o7 at h;omega
theorem sY:∀ (n m:Nat) (r:aB),r.Notes.length<n->r.Notes.length<m->gT n r=gT m r
 | 0,m,r,h,_=>by omega
 | n+1,0,r,_,h=>by omega
 | n+1,m+1,r,h1,h2=>by
  simp only [gT]
  split
  .rfl
  .
   have:=oJ (r:=r) (by assumption)
   exact sY n m _ (by omega) (by omega)
theorem qh {r:aB}(h:(o7 r).length=0):dN r=fO r:=by
 unfold dN gT;rw [if_pos h]
theorem Du {r:aB}(h:¬ (o7 r).length=0):dN r=dN (nn r):=by
 have:=oJ h
 conv=>lhs;unfold dN gT
 rw [if_neg h]
 exact sY _ _ _ (by omega) (by omega)
theorem mZ (l:List ak)(id:Int):(without l id).length<=l.length:=Bu _ _ _
theorem oK {l:List ak}{id:Int}(h:∀w∈l,0<=w.Rights/\w.Rights<=7):∀w∈without l id,0<=w.Rights/\w.Rights<=7:=fun w hw=>by
 obtain ⟨y,hy,_,rfl⟩:=gH.1 hw
 have:=kB (id:=id) (f:=eO l id) y
 rw [this.2.2.1];exact h y hy
theorem sZ:∀ (ids:List Int) (l:List ak),(ids.foldl without l).length<=l.length
 | [],l=>Nat.le_refl _
 | i::ids,l=>Nat.le_trans (sZ ids _) (mZ l i)
theorem BA:∀ (ids:List Int) (l:List ak),(∀w∈l,0<=w.Rights/\w.Rights<=7) -> ∀w∈ids.foldl without l,0<=w.Rights/\w.Rights<=7
 | [],l,h=>h
 | i::ids,l,h=>BA ids _ (oK h)
theorem Ok.uJ {r:aB}(h:Ok r){l:List ak}(hl:l.length<=2000)(hr:∀w∈l,0<=w.Rights/\w.Rights<=7):Ok ⟨l,r.Things,r.Held,r.Notes,r.af,r.ah⟩ :=
 ⟨hl,h.tl,h.hl,h.nl,hr,h.w0,h.w1,h.t0,h.t1⟩
theorem Ok.wo {r:aB}(h:Ok r)(id:Int):Ok ⟨without r.ao id,r.Things,r.Held,r.Notes,r.af,r.ah⟩ :=
 h.uJ (Nat.le_trans (mZ _ _) h.wl) (oK h.ri)
theorem Ok.nn {r:aB}(h:Ok r):Ok (YtkbhcbipadkcaaaGreatDoor.nn r) :=
 ⟨Nat.le_trans (sZ _ _) h.wl,Nat.le_trans (List.length_filter_le _ _) h.tl,Nat.le_trans (List.length_filter_le _ _) h.hl,by
  have:=qK r.ao (bV r.ao) r.Notes
  have:=h.nl
  show (ia r.ao (bV r.ao) r.Notes).length<=2000
  omega,BA _ _ h.ri,h.w0,h.w1,h.t0,h.t1⟩
def jJ (r:aB)(p:Place):aB×Int :=
  if (aS r p).2=0 then (dN ⟨without r.ao (aS r p).1.ID,r.Things,r.Held,r.Notes,r.af,r.ah⟩,0) else (r0,(aS r p).2)
def Fe (l:List ak)(id:Int):List ak:=l.filter (fun x => !decide (x.ID∈kA id l))
theorem Ok.cut {r:aB}(h:Ok r)(id:Int):Ok ⟨Fe r.ao id,r.Things,r.Held,r.Notes,r.af,r.ah⟩ :=
 h.uJ (Nat.le_trans (List.length_filter_le _ _) h.wl) (fun w hw=>h.ri w (List.mem_filter.1 hw).1)
def fa (r:aB)(p:Place):aB×Int :=
  if (aS r p).2=0 then (dN ⟨Fe r.ao (aS r p).1.ID,r.Things,r.Held,r.Notes,r.af,r.ah⟩,0) else (r0,(aS r p).2)
def Oh (l:List aE)(id:Int):Int:=idxOf (fun t=>t.ID==id) l
def cz (r:aB)(p:Place)(kind rights:Int):ak×Int×Int :=
  if (aS r p).2=0 then
    match r.Things.find? (fun t=>t.ID==(aS r p).1.aE) with
    | none=>(jI,0,8)
    | some t=>if t.Kind=kind then (if je (aS r p).1.Rights rights=true then ((aS r p).1,Oh r.Things (aS r p).1.aE,0) else (jI,0,7)) else (jI,0,8)
  else (jI,0,(aS r p).2)
theorem qi {α:Type}{q:α->Bool}{l:List α}{k:Nat}{x:α}(hx:l[k]? = some x)(he:q x=true)(hb:∀ (j:Nat) y,j<k->l[j]? = some y->q y=false):l.find? q=some x:=by
 have hk:=(List.getElem?_eq_some_iff.1 hx).1
 rw [List.find?_eq_some_iff_getElem]
 refine ⟨he,k,hk,(List.getElem?_eq_some_iff.1 hx).2,fun j hj=>?_⟩
 have:=hb j l[j] hj (List.getElem?_eq_getElem (by omega))
 simp [this]
theorem s7 {r:aB}{p:Place}{kind rights:Int}(h:¬ (aS r p).2=0):cz r p kind rights=(jI,0,(aS r p).2):=by unfold cz;rw [if_neg h]
theorem qL {r:aB}{p:Place}{kind rights:Int}(h:(aS r p).2=0)(hn:∀x∈r.Things,(x.ID==(aS r p).1.aE)=false):cz r p kind rights=(jI,0,8):=by
 unfold cz;rw [if_pos h,show r.Things.find? (fun t=>t.ID==(aS r p).1.aE)=none from List.find?_eq_none.2 (fun x hx=>by simp [hn x hx])]
section
variable {r:aB} {p:Place} {kind rights:Int} {k:Nat} {x:aE}
theorem qM (h:(aS r p).2=0)(hx:r.Things[k]? = some x)(he:(x.ID==(aS r p).1.aE)=true)(hb:∀ (j:Nat) y,j<k->r.Things[j]? = some y->(y.ID==(aS r p).1.aE)=false)(hk:¬ x.Kind=kind):cz r p kind rights=(jI,0,8):=by
 unfold cz;rw [if_pos h,qi (q:=fun t=>t.ID==(aS r p).1.aE) hx he hb];simp only;rw [if_neg hk]
theorem oL (h:(aS r p).2=0)(hx:r.Things[k]? = some x)(he:(x.ID==(aS r p).1.aE)=true)(hb:∀ (j:Nat) y,j<k->r.Things[j]? = some y->(y.ID==(aS r p).1.aE)=false)(hk:x.Kind=kind)(hr:je (aS r p).1.Rights rights=false):cz r p kind rights=(jI,0,7):=by
 unfold cz;rw [if_pos h,qi (q:=fun t=>t.ID==(aS r p).1.aE) hx he hb];simp only;rw [if_pos hk,if_neg (by rw [hr];simp)]
theorem vD (h:(aS r p).2=0)(hx:r.Things[k]? = some x)(he:(x.ID==(aS r p).1.aE)=true)(hb:∀ (j:Nat) y,j<k->r.Things[j]? = some y->(y.ID==(aS r p).1.aE)=false)(hk:x.Kind=kind)(hr:je (aS r p).1.Rights rights=true):cz r p kind rights=((aS r p).1,(k:Int),0):=by
 unfold cz;rw [if_pos h,qi (q:=fun t=>t.ID==(aS r p).1.aE) hx he hb];simp only;rw [if_pos hk,if_pos hr]
 have:Oh r.Things (aS r p).1.aE=(k:Int):=idxOf_hit hx he hb
 rw [this]
end
theorem qN {r:aB}{p:Place}{kind rights:Int}(h:(cz r p kind rights).2.2=0):(aS r p).2=0/\(cz r p kind rights).1=(aS r p).1/\je (aS r p).1.Rights rights=true /\
 ∃ (k:Nat) (x:aE),(cz r p kind rights).2.1=(k:Int)/\r.Things[k]? = some x/\x.ID=(aS r p).1.aE/\x.Kind=kind /\ ∀ (j:Nat) y,j<k->r.Things[j]? = some y->¬ y.ID=(aS r p).1.aE:=by
 by_cases h1:(aS r p).2=0
 .
  rcases j5 (fun t:aE=>t.ID==(aS r p).1.aE) r.Things with ⟨_,hn⟩ | ⟨k,x,hk,hx,he,hb,_⟩
  .rw [qL h1 hn] at h;simp at h
  .
   by_cases h2:x.Kind=kind
   .
    cases h3:je (aS r p).1.Rights rights with
    | false=>rw [oL h1 hx he hb h2 h3] at h;simp at h
    | true =>
     rw [vD h1 hx he hb h2 h3]
     exact ⟨h1,rfl,rfl,k,x,rfl,hx,by simpa using he,h2,fun j y hj hy=>by simpa using hb j y hj hy⟩
   .rw [qM h1 hx he hb h2] at h;simp at h
 .rw [s7 h1] at h;exact absurd h h1
theorem qj (r:aB)(p:Place)(kind rights:Int):0<=(cz r p kind rights).2.2:=by
 have:=j6 r p
 unfold cz;split
 .
  split
  .simp
  .
   split
   .split <;> simp
   .simp
 .exact this
def gU (l:List aE)(i:Nat)(d:ByteArray):List aE:=match l[i]? with|some t=>l.set i ⟨t.ID,t.Kind,d⟩ | none=>l
def fY (r:aB)(p:Place)(d:ByteArray):aB×Int :=
  if (cz r p 1 2).2.2=0 then
    if 8<d.size then (r0,2) else (⟨r.ao,gU r.Things (cz r p 1 2).2.1.toNat d,r.Held,r.Notes,r.af,r.ah⟩,0)
  else (r0,(cz r p 1 2).2.2)
def gj (l:List Note)(t:Int):Nat:=(l.filter (fun n=>n.Port==t)).length
def dK (r:aB)(p:Place)(d:ByteArray)(slot rights:Int):aB×Int :=
  if (cz r p 2 2).2.2=0 then
    if 8<d.size then (r0,2)
    else if gj r.Notes (cz r p 2 2).1.aE=3 then (r0,9)
    else if slot<0 then (⟨r.ao,r.Things,r.Held,r.Notes++[⟨(cz r p 2 2).1.aE,d,(cz r p 2 2).1.aQ,0⟩],r.af,r.ah⟩,0)
    else if je (cz r p 2 2).1.Rights 4=true then
      if (aS r ⟨p.aC,slot⟩).2=0 then
        if 999<r.af then (r0,9)
        else if (derived (aS r ⟨p.aC,slot⟩).1 r.af rights 0).2=0 then
          (⟨r.ao++[(derived (aS r ⟨p.aC,slot⟩).1 r.af rights 0).1],r.Things,r.Held,r.Notes++[⟨(cz r p 2 2).1.aE,d,(cz r p 2 2).1.aQ,(derived (aS r ⟨p.aC,slot⟩).1 r.af rights 0).1.ID⟩],r.af+1,r.ah⟩,0)
        else (r0,(derived (aS r ⟨p.aC,slot⟩).1 r.af rights 0).2)
      else (r0,(aS r ⟨p.aC,slot⟩).2)
    else (r0,7)
  else (r0,(cz r p 2 2).2.2)
def t8 (ns:List Note)(i:Nat):List Note:=ns.take i++ns.drop (i+1)
def eG (r:aB)(p:Place):aB×Note×Int×Int :=
  if (cz r p 2 1).2.2=0 then
    match r.Notes[(idxOf (fun n=>n.Port==(cz r p 2 1).1.aE) r.Notes).toNat]?,decide (0<=idxOf (fun n=>n.Port==(cz r p 2 1).1.aE) r.Notes) with
    | some n,true =>
      if 0<n.ak then
        if i6 r.Held p.aC<0 then (r0,n0,0,9)
        else (⟨r.ao,r.Things,fT r.Held ⟨p.aC,i6 r.Held p.aC⟩ n.ak,t8 r.Notes (idxOf (fun n=>n.Port==(cz r p 2 1).1.aE) r.Notes).toNat,r.af,r.ah⟩,n,i6 r.Held p.aC,0)
      else (⟨r.ao,r.Things,r.Held,t8 r.Notes (idxOf (fun n=>n.Port==(cz r p 2 1).1.aE) r.Notes).toNat,r.af,r.ah⟩,n,-1,0)
    | _,_=>(r0,n0,0,5)
  else (r0,n0,0,(cz r p 2 1).2.2)
theorem zH {ws:List ak}{ts:List Int}{ns:List Note}{k:Nat}{n:Note}(h:ns[k]? = some n)(hp:(jC ws n).Port∈ts):ia ws ts (ns.take (k+1))=ia ws ts (ns.take k)++[jC ws n]/\kI ws ts (ns.take (k+1))=kI ws ts (ns.take k):=by
 unfold ia kI
 rw [List.take_add_one,h]
 simp [hp]
theorem H6 {ws:List ak}{ts:List Int}{ns:List Note}{k:Nat}{n:Note}(h:ns[k]? = some n)(hp:¬ (jC ws n).Port∈ts)(h0:0<(jC ws n).ak):ia ws ts (ns.take (k+1))=ia ws ts (ns.take k)/\kI ws ts (ns.take (k+1))=kI ws ts (ns.take k)++[(jC ws n).ak]:=by
 unfold ia kI
 rw [List.take_add_one,h]
 simp [hp,h0]
theorem zI {ws:List ak}{ts:List Int}{ns:List Note}{k:Nat}{n:Note}(h:ns[k]? = some n)(hp:¬ (jC ws n).Port∈ts)(h0:¬ 0<(jC ws n).ak):ia ws ts (ns.take (k+1))=ia ws ts (ns.take k)/\kI ws ts (ns.take (k+1))=kI ws ts (ns.take k):=by
 unfold ia kI
 rw [List.take_add_one,h]
 simp [hp,h0]
theorem Gz {ws:List ak}{n:Note}(h:cD ws n.ak = -1):jC ws n=⟨n.Port,n.Data,n.aQ,0⟩:=by unfold jC;rw [if_pos (by omega)]
theorem xE {ws:List ak}{n:Note}{j:Nat}(h:cD ws n.ak=(j:Int)):jC ws n=n:=by unfold jC;rw [if_neg (by omega)]
theorem KH {ns:List Note}{t:Int}{k:Nat}{n:Note}(h:ns[k]? = some n)(e:n.Port=t):gj (ns.take (k+1)) t=gj (ns.take k) t+1:=by
 unfold gj;rw [List.take_add_one,h];simp [e]
theorem H7 {ns:List Note}{t:Int}{k:Nat}{n:Note}(h:ns[k]? = some n)(e:¬ n.Port=t):gj (ns.take (k+1)) t=gj (ns.take k) t:=by
 unfold gj;rw [List.take_add_one,h];simp [e]
theorem MF {ns:List Note}{t:Int}{k:Nat}:gj (ns.take k) t<=k:=by
 unfold gj;exact Nat.le_trans (List.length_filter_le _ _) (by rw [List.length_take];omega)
def hY (ns:List Note)(l:List ak):List ak:=ns.foldl (fun l n=>if 0<n.ak then without l n.ak else l) l
theorem xF {ns:List Note}{l:List ak}{k:Nat}{n:Note}(h:ns[k]? = some n):hY (ns.take (k+1)) l=(if 0<n.ak then without (hY (ns.take k) l) n.ak else hY (ns.take k) l):=by
 unfold hY;rw [List.take_add_one,h];simp
theorem xG (ns:List Note):∀ (l:List ak),(hY ns l).length<=l.length:=by
 induction ns with
 | nil=>intro l;exact Nat.le_refl _
 | cons n ns ih =>
  intro l
  show (hY ns _).length<=_
  refine Nat.le_trans (ih _) ?_
  dsimp only
  split
  .exact mZ _ _
  .exact Nat.le_refl _
theorem zJ (ns:List Note):∀ (l:List ak),(∀w∈l,0<=w.Rights/\w.Rights<=7) -> ∀w∈hY ns l,0<=w.Rights/\w.Rights<=7:=by
 induction ns with
 | nil=>intro l h;exact h
 | cons n ns ih =>
  intro l h
  show ∀w∈hY ns _,_
  refine ih _ ?_
  dsimp only
  split
  .exact oK h
  .exact h
def bm (r:aB):aB:=dN ⟨hY r.Notes r.ao,r.Things,r.Held,[],r.af,r.ah⟩
end
end Go.Proofs.YtkbhcbipadkcaaaGreatDoor
