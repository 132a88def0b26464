import Derived.Test.YtbkfhjaibhnkmaaGreatDoorIMS7
import Derived.Test.YtbkfhjaibhnkmaaGreatDoorIMS19
import Derived.Sort.OwnSortedInts
import Derived.Test.YtbkfhjaibhnkmaaGreatDoorIMS18
import Derived.Test.YtbkfhjaibhnkmaaGreatDoorIMS14
section
namespace Go.Proofs.YtbkfhjaibhnkmaaGreatDoor
open Go Go.RowKit Go.Sort
set_option linter.unusedVariables false
def jM (l:List Int):List Int:=l.mergeSort fun x y=>decide (x≤y)
theorem pe (l:List Int):l.flatMap Enc.cells=l.map (Value.int .i64):=by
 induction l with
 | nil=>rfl
 | cons x l ih=>rw [List.flatMap_cons,ih];rfl
theorem rF {w:World}{g cap n m:Nat}{os:Array Obj}{l ts zs:List Int}{v:Value}(hv:v = .slice (some ⟨g,0,none⟩) l.length cap)(how:Own 0 3 w v l)(hl:ts.length=l.length)(hz:zs=ts.take m)(hm:m≤l.length) :
 Turned [ag.row 3 v l] [ag.row 3 (.slice (some ⟨g,0,none⟩) m cap) zs] w (grow (putRow (Value.int .i64) (Sort.ahead w n) g 0 ts.toArray) os):=by
 obtain ⟨hlen,hn|⟨g',cap',cur,hv',_,hgg,hnc,hcm,hcs,htk⟩⟩:=how
 ·rw [hn.1] at hv;cases hv
 rw [hv] at hv'
 simp only [Value.slice.injEq,Option.some.injEq,Addr.mk.injEq,and_true,true_and] at hv'
 obtain ⟨rfl,rfl⟩:=hv'
 have h3:cur.size=cap*1:=hcs
 have hgb:=grownBy_sortedI (w:=w) (g:=g) (n:=n) (os:=os) ts.toArray
 have hz2:zs.length=m:=by rw [hz,List.length_take];omega
 have hown:Own 0 3 (grow (putRow (Value.int .i64) (Sort.ahead w n) g 0 ts.toArray) os) (.slice (some ⟨g,0,none⟩) m cap) zs:=by
  have h:=ownsRow_sortedI (w:=w) (base:=0) (n:=n) (os:=os) (ss:=l) (ts:=ts) hl (Nat.zero_le _) hgg hnc hcm h3
  obtain ⟨h1,h2|⟨g2,c2,HG,e2,b2,hg2,n2,m2,s2,t2⟩⟩:=h
  ·cases h2.1
  simp only [Value.slice.injEq,Option.some.injEq,Addr.mk.injEq,and_true,true_and] at e2
  obtain ⟨rfl,rfl⟩:=e2
  refine ⟨by rw [dO],.inr ⟨g,cap,HG,by rw [hz2],Nat.zero_le _,hg2,by omega,hcm,s2,?_⟩⟩
  show HG.toList.take (zs.length*1)=_
  rw [pe,hz2,Nat.mul_one,hz,List.map_take,← t2,List.take_take,Nat.mul_one,Nat.min_eq_left hm]
 have hlt:g<w.heap.size:=(Array.getElem?_eq_some_iff.1 hgg).1
 refine ⟨⟨hgb.os,hgb.tape,hgb.output,hgb.size,fun k hk hx=>hgb.block k hk (fun e=>hx ?_)⟩,?_,?_,fun k hk=>?_⟩
 ·injection e with e;subst e;rw [hv];simp [blks,ag.row,eO]
 ·intro r hr;simp at hr;subst hr;exact hown
 ·simp [blks,ag.row,eO]
 ·
  simp [blks,ag.row,eO] at hk;subst hk
  exact ⟨Nat.lt_of_lt_of_le hlt hgb.size,.inl (by rw [hv];simp [blks,ag.row,eO])⟩
theorem Turned.refl {B0:List ag}{w:World}(h:Hnd B0 w):Turned B0 B0 w w:=⟨kC.refl _ _,h.ok,h.sep,fun k hk=>⟨h.lt k hk,.inl hk⟩⟩
theorem Bv (v:Value)(l:List Int)(w:World)(H:Hnd [ag.row 3 v l] w)(hl:l.length≤1000000):Calls Tryz.prog 68 [v].toArray w fun e w' => ∃_z:Unit,e = .returned (.tuple #[])∧Turned [ag.row 3 v l] [ag.row 3 v (jM l)] w w':=by
 have how:Own 0 3 w v l:=H.ok (ag.row 3 v l) (List.mem_singleton.2 rfl)
 have hs:(jM l).length=l.length:=List.length_mergeSort l
 rcases how.2 with ⟨rfl,h0⟩ | ⟨g,cap,cur,hv,_,hgg,hnc,hcm,hcs,htk⟩
 ·
  have:l=[]:=List.eq_nil_of_length_eq_zero h0
  subst this
  refine (Tryz.slices_Sort_int_none none 0 w).mono ?_
  rintro e w' ⟨rfl,rfl⟩
  have e0:jM []=[]:=by simp [jM]
  rw [e0]
  exact ⟨(),rfl,Turned.refl H⟩
 ·
  have hH:=holds_of_blockI (ss:=l) hgg (by have:=htk;rw [pe] at this;simpa [Enc.k] using this)
  rw [hv]
  refine (Tryz.slices_Sort_int g 0 cap l w hH (Array.getElem?_eq_some_iff.1 hgg).1 (by omega)).mono ?_
  rintro e w' ⟨rfl,n,os,rfl⟩
  refine ⟨(),rfl,?_⟩
  have:=rF (os:=os) (n:=n) (ts:=jM l) (zs:=jM l) (m:=l.length) hv how hs (by rw [List.take_of_length_le (by omega)]) (Nat.le_refl _)
  rw [hv] at this;exact this
theorem vE (v:Value)(l:List Int)(w:World)(H:Hnd [ag.row 3 v l] w)(hl:l.length≤1000000):Calls Tryz.prog 69 [v].toArray w fun e w' => ∃z:Value,e = .returned z∧Turned [ag.row 3 v l] [ag.row 3 z (Lib.compact l)] w w':=by
 have how:Own 0 3 w v l:=H.ok (ag.row 3 v l) (List.mem_singleton.2 rfl)
 rcases how.2 with ⟨rfl,h0⟩ | ⟨g,cap,cur,hv,_,hgg,hnc,hcm,hcs,htk⟩
 ·
  have:l=[]:=List.eq_nil_of_length_eq_zero h0
  subst this
  refine (Tryz.slices_Compact_int_empty none 0 w).mono ?_
  rintro e w' ⟨rfl,rfl⟩
  exact ⟨_,rfl,Turned.refl H⟩
 ·
  have hH:=holds_of_blockI (ss:=l) hgg (by have:=htk;rw [pe] at this;simpa [Enc.k] using this)
  have hc:(Lib.compact l).length≤l.length:=by
   unfold Lib.compact Lib.compactUpTo
   rw [List.length_map]
   exact Nat.le_trans (List.length_filter_le _ _) (by simp)
  rw [hv]
  refine (Tryz.slices_Compact_int g 0 cap l w hH (by omega) hnc).mono ?_
  rintro e w' ⟨rfl,n,rfl⟩
  refine ⟨_,rfl,?_⟩
  have:=rF (os:= #[]) (n:=n) (ts:=Lib.compact l++List.replicate (l.length-(Lib.compact l).length) 0) (zs:=Lib.compact l) (m:=(Lib.compact l).length) hv how (by simp;omega) (by simp) hc
  rw [hv,grow_empty] at this;exact this
end Go.Proofs.YtbkfhjaibhnkmaaGreatDoor
end
section
namespace Go.Proofs.YtbkfhjaibhnkmaaGreatDoor
open Go Go.RowKit
set_option linter.unusedVariables false
set_option linter.unusedSimpArgs false
set_option maxRecDepth 100000
theorem xb (bG:Value)(l:List ak)(w:World)(df:Sl w bG l)(hl:l.length≤1000000):Calls Tryz.prog 29 #[bG] w fun e w' => ∃u,e = .returned u∧Own w.heap.size 3 w' u (Lib.compact (jM ((l).map ak.ao)))∧Ext w w':=by
 have pV:=df.ec
 refine R.enter (n:=22) (vs:=[bG]) [] [(0,bG)] Tryz.func29 O O O O ?_
 refine R.reg O<|R.u 1 O<|R.nil ?_
 refine R.reg O<|R.u 1 O<|R.nil ?_
 refine R.reg O<|R.u 1 O<|R.q (q.len' (fun _=>Wd.old df) O Tryz.underlying27) O<|R.u 1 O<|R.nil ?_
 refine R.row0 (α:=Int) 3 ?_
 refine R.loop (fun g_:Nat×Value×(List Int)=>[(3,g_.2.1),(6,bG),(7,iV (l.length:Int)),(8,iV (g_.1:Int))]) (fun g_=>[ag.row 3 g_.2.1 g_.2.2]) (fun g_=>[]) (fun g_=>g_.1≤l.length∧g_.2.2=(l.take g_.1).map ak.ao) (fun g_=>l.length-g_.1) (0,(nS),[]) O (by exact ⟨by omega,by simp⟩) ⟨rfl,rfl,rfl,rfl,trivial⟩ (fun _=>Wd.pick [0] [] O O O) ?_
 rintro ⟨k,v,acc⟩ ⟨hk,HA⟩
 dsimp only at *
 have hal:acc.length≤k:=by rw [HA];simp;omega
 refine R.reg O<|?_
 by_cases h1:k<l.length
 ·
  refine R.q (q.lss O O (decide_eq_true (by omega))) O<|R.nil ?_
  refine R.aE O O ?_
  refine R.reg O<|?_
  obtain ⟨x1,hx1⟩:∃z,l[k]? = some z:=⟨_,List.getElem?_eq_getElem (by omega)⟩
  refine R.q (q.idx (i:=k) (fun _=>Wd.old df) O O cK O hx1) O<|R.q (q.cY (ds:=ay x1) (fun _=>Wd.old df) hx1 O aP O) O<|R.s O (s.alloc (cs:=cC) bF O O) fun b1=>R.s O (s.st (us:=ay x1) (cs':=ay x1) 0 _ O O O O (.inl aP) O O O O) fun _=>R.nil ?_
  refine R.reg O<|R.u 1 O<|R.q (q.aT (off':=1) O dw O) O<|R.q (q.ld 0 O O aA O) O<|R.s O (s.bs (l:=([x1.ao]:List Int)) dK iO O O O O O O O) fun b2=>R.s O (s.app (l2:=[x1.ao]) 2 _ O O O (cJ 0 O) jq (by simp;omega) (by simp;omega) (fun _=>rfl) O) fun v1=>R.u 1 O<|R.nil ?_
  refine R.reg O<|R.q (q.add (r:=((k+1:Nat):Int)) O O (wr (by omega))) O<|R.u 1 O<|R.nil ?_
  refine R.back (k+1,v1,(acc++([x1.ao]))) O (by (exact ⟨by omega,by rw [HA,List.take_add_one,hx1];simp⟩)) (by dsimp only;omega) ⟨rfl,rfl,rfl,rfl,trivial⟩ (fun _=>Wd.pick [2] [] O O O)
 ·
  refine R.q (q.lss O O (decide_eq_false (by omega))) O<|R.nil ?_
  refine R.aF O O ?_
  refine R.reg O<|R.u 1 O<|R.s O (s.Ap (B0:=[ag.row 3 v acc]) (Br:=[]) [0] _ _ O O Hn O O (fun w hw H=>Bv v (acc) w  H  (by omega)) O) fun u1=>R.nil ?_
  refine R.reg O<|R.u 1 O<|R.s O (s.Ap (B0:=[ag.row 3 v (jM acc)]) (Br:=[]) [0] _ _ O O Ho O O (fun w hw H=>vE v ((jM acc)) w  H  (by simp [jM];omega)) O) fun v2=>R.u 1 O<|R.nil ?_
  exact R.ro 0 O Tryz.results29 O O (by (rw [HA,List.take_of_length_le (by omega)]))
theorem sy (bG:Value)(l:List ak)(w:World)(df:Sl w bG l):Calls Tryz.prog 102 #[bG] w fun e w' => ∃u,e = .returned u∧Own w.heap.size 3 w' u (vD l)∧Ext w w':=by
 have pV:=df.ec
 refine R.enter (n:=28) (vs:=[bG]) [] [(0,bG)] Tryz.func102 O O O O ?_
 refine R.reg O<|R.u 1 O<|R.nil ?_
 refine R.reg O<|R.u 1 O<|R.nil ?_
 refine R.reg O<|R.u 1 O<|R.nil ?_
 refine R.row0 (α:=Int) 3 ?_
 refine R.loop (fun g_:Nat×Value×(List Int)=>[(0,bG),(3,g_.2.1),(4,iV (g_.1:Int))]) (fun g_=>[ag.row 3 g_.2.1 g_.2.2]) (fun g_=>[]) (fun g_=>1≤g_.1∧g_.1≤1000∧g_.2.2=ez l (g_.1-1)) (fun g_=>1000-g_.1) (1,(nS),[]) O (by exact ⟨by omega,by omega,rfl⟩) ⟨rfl,rfl,rfl,trivial⟩ (fun _=>Wd.pick [0] [] O O O) ?_
 rintro ⟨k,v,acc⟩ ⟨hk1,hk,HA⟩
 dsimp only at *
 have hal:acc.length≤k:=by rw [HA];exact Nat.le_trans (oA _ _) (by omega)
 refine R.reg O<|R.u 1 O<|?_
 by_cases h1:k<1000
 ·
  refine R.q (q.lss O O (decide_eq_true (by omega))) O<|R.nil ?_
  refine R.aE O O ?_
  refine R.reg O<|R.u 1 O<|R.nil ?_
  refine R.loop (fun j:Nat=>[(0,bG),(3,v),(4,iV (k:Int)),(5,iV (j:Int))]) (fun j:Nat=>[ag.row 3 v acc]) (fun j:Nat=>[]) (fun j:Nat => ∀ (i:Nat) x,i<j→l[i]? = some x→¬ x.ao=(k:Int)) (fun j:Nat=>l.length-j) 0 O (by exact fun i x hi=>absurd hi (Nat.not_lt_zero _)) ⟨rfl,rfl,rfl,rfl,trivial⟩ (fun _=>Wd.pick [0] [] O O O) ?_
  rintro j HJ
  refine R.reg O<|R.u 2 O<|R.q (q.len' (fun _=>Wd.old df) O Tryz.underlying27) O<|?_
  by_cases h2:j<l.length
  ·
   refine R.q (q.lss O O (decide_eq_true (by omega))) O<|R.nil ?_
   refine R.aE O O ?_
   refine R.reg O<|R.u 2 O<|?_
   obtain ⟨x1,hx1⟩:∃z,l[j]? = some z:=⟨_,List.getElem?_eq_getElem (by omega)⟩
   refine R.q (q.idx (i:=j) (fun _=>Wd.old df) O O cK O hx1) O<|R.q (q.dF (j':=1) (fun _=>Wd.old df) hx1 O dw O) O<|R.q (q.fb (fun _=>Wd.old df) hx1 O aA O) O<|R.u 1 O<|?_
   by_cases h3:x1.ao=(k:Int)
   ·
    refine R.q (q.eql O O (beq_iff_eq.2 (by omega))) O<|R.nil ?_
    refine R.aE O O ?_
    refine R.reg O<|R.u 2 O<|R.s O (s.bs (l:=([(k:Int)]:List Int)) dK iO O O O O O O O) fun b1=>R.s O (s.app (l2:=[(k:Int)]) 1 _ O O O (cJ 0 O) jq (by simp;omega) (by simp;omega) (fun _=>rfl) O) fun v1=>R.u 1 O<|R.nil ?_
    refine R.reg O<|R.u 1 O<|R.q (q.add (r:=((k+1:Nat):Int)) O O (wr (by omega))) O<|R.u 1 O<|R.nil ?_
    refine R.back (k+1,v1,(acc++([(k:Int)]))) O (by (exact ⟨by omega,by omega,by rw [HA,Nat.add_sub_cancel];exact (uj (by omega) O hx1 ‹_›).symm⟩)) (by dsimp only;omega) ⟨rfl,rfl,rfl,trivial⟩ (fun _=>Wd.pick [1] [] O O O)
   ·
    refine R.q (q.eql O O (beq_eq_false_iff_ne.2 (by omega))) O<|R.nil ?_
    refine R.aF O O ?_
    refine R.reg O<|R.u 1 O<|R.q (q.add (r:=((j+1:Nat):Int)) O O (wr (by omega))) O<|R.u 1 O<|R.nil ?_
    refine R.back (j+1) O (by (exact fun i x hi hx=>if e:i=j then by subst e;rw [hx1] at hx;injection hx with hx;subst hx;assumption else HJ i x (by omega) hx)) (by omega) ⟨rfl,rfl,rfl,rfl,trivial⟩ (fun _=>Wd.pick [0] [] O O O)
  ·
   refine R.q (q.lss O O (decide_eq_false (by omega))) O<|R.nil ?_
   refine R.aF O O ?_
   refine R.reg O<|R.u 1 O<|R.q (q.add (r:=((k+1:Nat):Int)) O O (wr (by omega))) O<|R.u 1 O<|R.nil ?_
   refine R.back (k+1,v,acc) O (by (exact ⟨by omega,by omega,by rw [HA,Nat.add_sub_cancel];exact (sv (by omega) (fun i x hi=>HJ i x (by omega))).symm⟩)) (by dsimp only;omega) ⟨rfl,rfl,rfl,trivial⟩ (fun _=>Wd.pick [0] [] O O O)
 ·
  refine R.q (q.lss O O (decide_eq_false (by omega))) O<|R.nil ?_
  refine R.aF O O ?_
  refine R.reg O<|R.u 2 O<|R.nil ?_
  exact R.ro 0 O Tryz.results102 O O (by (rw [HA];have:k=1000:=(by omega);subst this;rfl))
end Go.Proofs.YtbkfhjaibhnkmaaGreatDoor
end
section
namespace Go.Proofs.YtbkfhjaibhnkmaaGreatDoor
open Go.RowKit
set_option linter.unusedVariables false
theorem yC:∀ (a b:List Int),a.Pairwise (· < ·)→b.Pairwise (· < ·)→(∀x,x∈a↔x∈b)→a=b
 | [],[],_,_,_=>rfl
 | [],y::b,_,_,h=>by have:=(h y).2 (by simp);simp at this
 | x::a,[],_,_,h=>by have:=(h x).1 (by simp);simp at this
 | x::a,y::b,ha,hb,h=>by
  obtain ⟨ha1,ha2⟩:=List.pairwise_cons.1 ha
  obtain ⟨hb1,hb2⟩:=List.pairwise_cons.1 hb
  have hxy:x=y:=by
   have h1:x=y∨x∈b:=by simpa using (h x).1 (by simp)
   have h2:y=x∨y∈a:=by simpa using (h y).2 (by simp)
   rcases h1 with h1|h1
   ·exact h1
   ·
    rcases h2 with h2|h2
    ·exact h2.symm
    ·have:=hb1 x h1;have:=ha1 y h2;omega
  subst hxy
  congr 1
  refine yC a b ha2 hb2 fun z=>?_
  constructor
  ·
   intro hz
   have h1:z=x∨z∈b:=by simpa using (h z).1 (by simp [hz])
   rcases h1 with h1|h1
   ·have:=ha1 z hz;omega
   ·exact h1
  ·
   intro hz
   have h1:z=x∨z∈a:=by simpa using (h z).2 (by simp [hz])
   rcases h1 with h1|h1
   ·have:=hb1 z hz;omega
   ·exact h1
theorem oB {zs:List Int}(hs:zs.Pairwise (· ≤ ·)):∀m,m≤zs.length→(Lib.compactUpTo zs.toArray m).Pairwise (· < ·) ∧ ∀x,x∈Lib.compactUpTo zs.toArray m ↔ ∃j,j<m∧zs[j]? = some x
 | 0,_=>by simp [Lib.compactUpTo]
 | m+1,hm=>by
  obtain ⟨ih1,ih2⟩:=oB hs m (by omega)
  have hz:zs[m]? = some zs[m]:=List.getElem?_eq_getElem (by omega)
  have hd:zs.toArray[m]! = zs[m]:=by simp [getElem!_pos zs.toArray m (by simp;omega)]
  rw [Lib.compactUpTo_succ,hd]
  have hle:∀j x,j<m→zs[j]? = some x→x≤zs[m]:=fun j x hj hx=>by
   obtain ⟨h1,rfl⟩:=List.getElem?_eq_some_iff.1 hx
   exact List.pairwise_iff_getElem.1 hs j m h1 (by omega) hj
  by_cases hk:Lib.keeps zs.toArray m=true
  ·
   rw [if_pos hk]
   have hlt:∀x∈Lib.compactUpTo zs.toArray m,x<zs[m]:=fun x hx=>by
    obtain ⟨j,hj,hxj⟩:=(ih2 x).1 hx
    have h1:=hle j x hj hxj
    simp only [Lib.keeps,decide_eq_true_eq] at hk
    rcases hk with hk|hk
    ·omega
    ·
     have hd1:zs.toArray[m-1]! = zs[m-1]:=by simp [getElem!_pos zs.toArray (m-1) (by simp;omega)]
     rw [hd,hd1] at hk
     have h2:x≤zs[m-1]:=by
      obtain ⟨h3,rfl⟩:=List.getElem?_eq_some_iff.1 hxj
      rcases Nat.lt_or_ge j (m-1) with h4|h4
      ·exact List.pairwise_iff_getElem.1 hs j (m-1) h3 (by omega) h4
      ·
       have:j=m-1:=by omega
       subst this;exact Int.le_refl _
     have h5:zs[m-1]≤zs[m]:=List.pairwise_iff_getElem.1 hs (m-1) m (by omega) (by omega) (by omega)
     omega
   refine ⟨List.pairwise_append.2 ⟨ih1,by simp,fun a ha b hb=>by simp at hb;subst hb;exact hlt a ha⟩,fun x=>?_⟩
   rw [List.mem_append,ih2]
   constructor
   ·
    rintro (⟨j,hj,hx⟩ | h)
    ·exact ⟨j,by omega,hx⟩
    ·simp at h;exact ⟨m,by omega,by rw [hz,h]⟩
   ·
    rintro ⟨j,hj,hx⟩
    by_cases e:j=m
    ·subst e;rw [hz] at hx;injection hx with hx;right;simp [hx]
    ·exact .inl ⟨j,by omega,hx⟩
  ·
   rw [if_neg hk,List.append_nil]
   refine ⟨ih1,fun x=>?_⟩
   rw [ih2]
   simp only [Lib.keeps,decide_eq_true_eq] at hk
   have hm0:m≠0:=fun e=>hk (.inl e)
   have hd1:zs.toArray[m-1]! = zs[m-1]:=by simp [getElem!_pos zs.toArray (m-1) (by simp;omega)]
   have he:zs[m]=zs[m-1]:=by
    by_cases e:zs[m]=zs[m-1]
    ·exact e
    ·exact absurd (.inr (by rw [hd,hd1];exact e)) hk
   constructor
   ·rintro ⟨j,hj,hx⟩;exact ⟨j,by omega,hx⟩
   ·
    rintro ⟨j,hj,hx⟩
    by_cases e:j=m
    ·
     subst e;rw [hz] at hx;injection hx with hx
     exact ⟨j-1,by omega,by rw [List.getElem?_eq_getElem (by omega),← he,hx]⟩
    ·exact ⟨j,by omega,hx⟩
theorem j9 (l:List ak):∀n,(ez l n).Pairwise (· < ·) ∧ ∀x,x∈ez l n↔1≤x∧x≤(n:Int)∧hasT? l x=true
 | 0=>by simp [ez];omega
 | n+1=>by
  obtain ⟨h1,h2⟩:=j9 l n
  simp only [ez]
  split
  ·
   rename_i hh
   refine ⟨List.pairwise_append.2 ⟨h1,by simp,fun a ha b hb=>by simp at hb;subst hb;have:=(h2 a).1 ha;omega⟩,fun x=>?_⟩
   rw [List.mem_append,h2]
   constructor
   ·
    rintro (⟨a,b,c⟩ | h)
    ·exact ⟨a,by omega,c⟩
    ·simp at h;subst h;exact ⟨by omega,by omega,hh⟩
   ·
    rintro ⟨a,b,c⟩
    by_cases e:x≤(n:Int)
    ·exact .inl ⟨a,e,c⟩
    ·right;simp;omega
  ·
   rename_i hh
   refine ⟨h1,fun x=>?_⟩
   rw [h2]
   constructor
   ·rintro ⟨a,b,c⟩;exact ⟨a,by omega,c⟩
   ·
    rintro ⟨a,b,c⟩
    refine ⟨a,?_,c⟩
    by_cases e:x≤(n:Int)
    ·exact e
    ·
     have:x=((n+1:Nat):Int):=by omega
     rw [this] at c;exact absurd c hh
theorem pg {l:List ak}(h:cR l):Lib.compact (jM (l.map ak.ao))=vD l:=by
 have hs:(jM (l.map ak.ao)).Pairwise (· ≤ ·):=by
  have:=List.pairwise_mergeSort (le:=fun x y:Int=>decide (x≤y)) (fun a b c=>by simp;omega) (fun a b=>by simp;omega) (l.map ak.ao)
  exact this.imp (by simp)
 obtain ⟨h1,h2⟩:=oB hs _ (Nat.le_refl _)
 obtain ⟨h3,h4⟩:=j9 l 999
 refine yC _ _ h1 h3 fun x=>?_
 show x∈Lib.compactUpTo _ _↔x∈ez l 999
 rw [h2,h4]
 have hm:(∃j,j<(jM (l.map ak.ao)).length∧(jM (l.map ak.ao))[j]? = some x)↔x∈l.map ak.ao:=by
  rw [← List.mem_mergeSort (le:=fun x y:Int=>decide (x≤y)) (l:=l.map ak.ao)]
  constructor
  ·rintro ⟨j,_,hx⟩;exact List.mem_of_getElem? hx
  ·
   intro hx
   obtain ⟨j,hj⟩:=List.mem_iff_getElem?.1 hx
   exact ⟨j,(List.getElem?_eq_some_iff.1 hj).1,hj⟩
 rw [hm]
 simp only [List.mem_map,hasT?,List.any_eq_true,beq_iff_eq]
 constructor
 ·
  rintro ⟨y,hy,rfl⟩
  have w:=h.mem hy
  have:=w.EH;have:=w.Fu
  exact ⟨by omega,by omega,y,hy,rfl⟩
 ·rintro ⟨_,_,y,hy,he⟩;exact ⟨y,hy,he⟩
end Go.Proofs.YtbkfhjaibhnkmaaGreatDoor
end
section
namespace Go.Proofs.YtbkfhjaibhnkmaaGreatDoor
set_option linter.unusedVariables false
theorem hJ {α:Type}(p:α→Bool)(l:List α):(idxOf p l = -1 ∧ ∀x∈l,p x=false) ∨ ∃ (k:Nat) (x:α),idxOf p l=k∧l[k]? = some x∧p x=true∧(∀ (j:Nat) y,j<k→l[j]? = some y→p y=false)∧k<l.length:=by
 unfold idxOf
 cases h:l.findIdx? p with
 | none=>exact .inl ⟨rfl,fun x hx=>by have:=List.findIdx?_eq_none_iff.1 h x hx;simpa using this⟩
 | some k =>
  obtain ⟨hk,hp,hb⟩:=List.findIdx?_eq_some_iff_getElem.1 h
  refine .inr ⟨k,l[k],rfl,List.getElem?_eq_getElem hk,hp,fun j y hj hy=>?_,hk⟩
  have:=hb j hj
  have e:=(List.getElem?_eq_some_iff.1 hy).2
  rw [e] at this;simpa using this
section
variable {α:Type} {p:α→Bool} {l acc:List α} {i j k:Nat} {x:α}
theorem rG (h:∀x∈l,p x=false):l.filter (fun x => !p x)=l:=List.filter_eq_self.2 (fun x hx=>by simp [h x hx])
def lX (p:α→Bool)(l acc:List α)(i j:Nat):Prop:=i≤j∧j≤l.length∧acc.length=l.length∧acc.take i=(l.take j).filter (fun x => !p x)∧acc.drop j=l.drop j
theorem lX.start (hx:l[k]? = some x)(hp:p x=true)(hb:∀ (j:Nat) y,j<k→l[j]? = some y→p y=false):lX p l l k (k+1):=by
 have hk:=(List.getElem?_eq_some_iff.1 hx).1
 refine ⟨by omega,by omega,rfl,?_,rfl⟩
 rw [List.take_add_one,hx,List.filter_append]
 have:(l.take k).filter (fun x => !p x)=l.take k:=List.filter_eq_self.2 (fun y hy=>by
  obtain ⟨q,hq⟩:=List.mem_iff_getElem?.1 hy
  rw [List.getElem?_take] at hq
  split at hq
  ·simp [hb q y (by assumption) hq]
  ·cases hq)
 rw [this];simp [hp]
theorem lX.at (h:lX p l acc i j):acc[j]? = l[j]?:=by
 have:=congrArg (·[0]?) h.2.2.2.2
 simpa using this
theorem lX.skip (h:lX p l acc i j)(hx:acc[j]? = some x)(hp:p x=true):lX p l acc i (j+1):=by
 rw [h.at] at hx
 have hk:=(List.getElem?_eq_some_iff.1 hx).1
 obtain ⟨h1,h2,h3,h4,h5⟩:=h
 refine ⟨by omega,by omega,h3,?_,?_⟩
 ·rw [List.take_add_one,hx,List.filter_append,← h4];simp [hp]
 ·rw [← List.drop_drop,← List.drop_drop,h5]
theorem lX.keep (h:lX p l acc i j)(hx:acc[j]? = some x)(hp:p x=false):lX p l (acc.set i x) (i+1) (j+1):=by
 rw [h.at] at hx
 have hk:=(List.getElem?_eq_some_iff.1 hx).1
 obtain ⟨h1,h2,h3,h4,h5⟩:=h
 refine ⟨by omega,by omega,by rw [List.length_set,h3],?_,?_⟩
 ·
  rw [List.take_add_one (l:=l),hx,List.filter_append,← h4,List.take_add_one,List.getElem?_set_self (by omega),List.take_set_of_le (Nat.le_refl _)]
  simp [hp]
 ·rw [List.drop_set_of_lt (by omega),← List.drop_drop,← List.drop_drop,h5]
theorem lX.done (h:lX p l acc i j)(hj:¬ j<l.length){z:α}{m:Nat}:l.filter (fun x => !p x)=(acc.take i++List.replicate m z).take i:=by
 obtain ⟨h1,h2,h3,h4,h5⟩:=h
 have hl:(acc.take i).length=i:=by rw [List.length_take];omega
 rw [List.take_append_of_le_length (by omega),List.take_of_length_le (by omega),h4,List.take_of_length_le (l:=l) (by omega)]
end
end Go.Proofs.YtbkfhjaibhnkmaaGreatDoor
end
