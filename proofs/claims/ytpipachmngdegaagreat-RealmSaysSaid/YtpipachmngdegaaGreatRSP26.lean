import Derived.Test.YtpipachmngdegaaGreatRSP9
import Derived.Test.YtpipachmngdegaaGreatRSP25
import Derived.Sort.OwnSortedInts
import Derived.Test.YtpipachmngdegaaGreatRSP23
section
namespace Go.Proofs.YtpipachmngdegaaGreat
open Go Go.RowKit Go.Sort
set_option linter.unusedVariables false
def gS (l:List Int):List Int:=l.mergeSort fun x y=>decide (x≤y)
theorem k3 (l:List Int):l.flatMap Enc.cells=l.map (Value.int .i64):=by
  induction l with
  | nil=>rfl
  | cons x l ih=>rw [List.flatMap_cons,ih];rfl
theorem mK {w:World}{g cap n m:Nat}{os:Array Obj}{l ts zs:List Int}{v:Value}(hv:v = .slice (some ⟨g,0,none⟩) l.length cap)(how:Own 0 3 w v l)(hl:ts.length=l.length)(hz:zs=ts.take m)(hm:m≤l.length) :
    Turned [ah.row 3 v l] [ah.row 3 (.slice (some ⟨g,0,none⟩) m cap) zs] w (grow (putRow (Value.int .i64) (Sort.ahead w n) g 0 ts.toArray) os):=by
  obtain ⟨hlen,hn|⟨g',cap',cur,hv',_,hgg,hnc,hcm,hcs,htk⟩⟩:=how
  · rw [hn.1] at hv;cases hv
  rw [hv] at hv'
  simp only [Value.slice.injEq,Option.some.injEq,Addr.mk.injEq,and_true,true_and] at hv'
  obtain ⟨rfl,rfl⟩:=hv'
  have h3:cur.size=cap*1:=hcs
  have hgb:=grownBy_sortedI (w:=w) (g:=g) (n:=n) (os:=os) ts.toArray
  have hz2:zs.length=m:=by rw [hz,List.length_take];omega
  have hown:Own 0 3 (grow (putRow (Value.int .i64) (Sort.ahead w n) g 0 ts.toArray) os) (.slice (some ⟨g,0,none⟩) m cap) zs:=by
    have h:=ownsRow_sortedI (w:=w) (base:=0) (n:=n) (os:=os) (ss:=l) (ts:=ts) hl (Nat.zero_le _) hgg hnc hcm h3
    obtain ⟨h1,h2|⟨g2,c2,xI,e2,b2,hg2,n2,m2,s2,t2⟩⟩:=h
    · cases h2.1
    simp only [Value.slice.injEq,Option.some.injEq,Addr.mk.injEq,and_true,true_and] at e2
    obtain ⟨rfl,rfl⟩:=e2
    refine ⟨by rw [dw],.inr ⟨g,cap,xI,by rw [hz2],Nat.zero_le _,hg2,by omega,hcm,s2,?_⟩⟩
    show xI.toList.take (zs.length*1)=_
    rw [k3,hz2,Nat.mul_one,hz,List.map_take,← t2,List.take_take,Nat.mul_one,Nat.min_eq_left hm]
  have hlt:g<w.heap.size:=(Array.getElem?_eq_some_iff.1 hgg).1
  refine ⟨⟨hgb.os,hgb.tape,hgb.output,hgb.size,fun k hk hx=>hgb.block k hk (fun e=>hx ?_)⟩,?_,?_,fun k hk=>?_⟩
  · injection e with e;subst e;rw [hv];simp [blks,ah.row,dX]
  · intro r hr;simp at hr;subst hr;exact hown
  · simp [blks,ah.row,dX]
  ·
    simp [blks,ah.row,dX] at hk;subst hk
    exact ⟨Nat.lt_of_lt_of_le hlt hgb.size,.inl (by rw [hv];simp [blks,ah.row,dX])⟩
theorem Turned.refl {B0:List ah}{w:World}(h:Hnd B0 w):Turned B0 B0 w w:=⟨iy.refl _ _,h.ok,h.sep,fun k hk=>⟨h.lt k hk,.inl hk⟩⟩
theorem td (v:Value)(l:List Int)(w:World)(H:Hnd [ah.row 3 v l] w)(hl:l.length≤1000000):Calls Tryz.prog 95 [v].toArray w fun e w' => ∃_z:Unit,e = .returned (.tuple #[])∧Turned [ah.row 3 v l] [ah.row 3 v (gS l)] w w':=by
  have how:Own 0 3 w v l:=H.ok (ah.row 3 v l) (List.mem_singleton.2 rfl)
  have hs:(gS l).length=l.length:=List.length_mergeSort l
  rcases how.2 with ⟨rfl,h0⟩ | ⟨g,cap,cur,hv,_,hgg,hnc,hcm,hcs,htk⟩
  ·
    have:l=[]:=List.eq_nil_of_length_eq_zero h0
    subst this
    refine (Tryz.slices_Sort_int_none none 0 w).mono ?_
    rintro e w' ⟨rfl,rfl⟩
    have e0:gS []=[]:=by simp [gS]
    rw [e0]
    exact ⟨(),rfl,Turned.refl H⟩
  ·
    have hH:=holds_of_blockI (ss:=l) hgg (by have:=htk;rw [k3] at this;simpa [Enc.k] using this)
    rw [hv]
    refine (Tryz.slices_Sort_int g 0 cap l w hH (Array.getElem?_eq_some_iff.1 hgg).1 (by omega)).mono ?_
    rintro e w' ⟨rfl,n,os,rfl⟩
    refine ⟨(),rfl,?_⟩
    have:=mK (os:=os) (n:=n) (ts:=gS l) (zs:=gS l) (m:=l.length) hv how hs (by rw [List.take_of_length_le (by omega)]) (Nat.le_refl _)
    rw [hv] at this;exact this
theorem o8 (v:Value)(l:List Int)(w:World)(H:Hnd [ah.row 3 v l] w)(hl:l.length≤1000000):Calls Tryz.prog 96 [v].toArray w fun e w' => ∃z:Value,e = .returned z∧Turned [ah.row 3 v l] [ah.row 3 z (Lib.compact l)] w w':=by
  have how:Own 0 3 w v l:=H.ok (ah.row 3 v l) (List.mem_singleton.2 rfl)
  rcases how.2 with ⟨rfl,h0⟩ | ⟨g,cap,cur,hv,_,hgg,hnc,hcm,hcs,htk⟩
  ·
    have:l=[]:=List.eq_nil_of_length_eq_zero h0
    subst this
    refine (Tryz.slices_Compact_int_empty none 0 w).mono ?_
    rintro e w' ⟨rfl,rfl⟩
    exact ⟨_,rfl,Turned.refl H⟩
  ·
    have hH:=holds_of_blockI (ss:=l) hgg (by have:=htk;rw [k3] at this;simpa [Enc.k] using this)
    have hc:(Lib.compact l).length≤l.length:=by
      unfold Lib.compact Lib.compactUpTo
      rw [List.length_map]
      exact Nat.le_trans (List.length_filter_le _ _) (by simp)
    rw [hv]
    refine (Tryz.slices_Compact_int g 0 cap l w hH (by omega) hnc).mono ?_
    rintro e w' ⟨rfl,n,rfl⟩
    refine ⟨_,rfl,?_⟩
    have:=mK (os:= #[]) (n:=n) (ts:=Lib.compact l++List.replicate (l.length-(Lib.compact l).length) 0) (zs:=Lib.compact l) (m:=(Lib.compact l).length) hv how (by simp;omega) (by simp) hc
    rw [hv,grow_empty] at this;exact this
end Go.Proofs.YtpipachmngdegaaGreat
end
section
namespace Go.Proofs.YtpipachmngdegaaGreat
open Go Go.RowKit
set_option linter.unusedVariables false
set_option linter.unusedSimpArgs false
set_option maxRecDepth 100000
theorem p5 (bk:Value)(l:List ao)(w:World)(cF:Sl w bk l)(hl:l.length≤1000000):Calls Tryz.prog 74 #[bk] w fun e w' => ∃u,e = .returned u∧Own w.heap.size 3 w' u (Lib.compact (gS ((l).map ao.ai)))∧Ext w w':=by
  have lR:=cF.dI
  refine R.enter (n:=22) (vs:=[bk]) [] [(0,bk)] Tryz.func74 rfl rfl rfl rfl ?_
  refine R.reg rfl<|R.u 1 rfl<|R.nil ?_
  refine R.reg rfl<|R.u 1 rfl<|R.nil ?_
  refine R.reg rfl<|R.u 1 rfl<|R.q (q.len' (fun _=>Wd.old cF) rfl Tryz.underlying25) rfl<|R.u 1 rfl<|R.nil ?_
  refine R.row0 (α:=Int) 3 ?_
  refine R.loop (fun g_:Nat×Value×(List Int)=>[(3,g_.2.1),(6,bk),(7,.int .i64 (l.length:Int)),(8,.int .i64 (g_.1:Int))]) (fun g_:Nat×Value×(List Int)=>[ah.row 3 g_.2.1 (g_.2.2:List Int)]) (fun g_:Nat×Value×(List Int)=>[]) (fun g_:Nat×Value×(List Int)=>g_.1≤l.length∧g_.2.2=(l.take g_.1).map ao.ai) (fun g_:Nat×Value×(List Int)=>l.length-g_.1) (0,(.slice none 0 0),[]) rfl (by exact ⟨by omega,by simp⟩) ⟨rfl,rfl,rfl,rfl,trivial⟩ (fun _=>Wd.pick [0] [] rfl rfl rfl) ?_
  rintro ⟨k,v,acc⟩ ⟨hk,HA⟩
  dsimp only at *
  have hal:acc.length≤k:=by rw [HA];simp;omega
  refine R.reg rfl<|?_
  by_cases h1:k<l.length
  ·
    refine R.q (q.lss rfl rfl (decide_eq_true (by omega))) rfl<|R.nil ?_
    refine R.aI rfl rfl ?_
    refine R.reg rfl<|?_
    obtain ⟨x1,hx1⟩:∃z,l[k]? = some z:=⟨_,List.getElem?_eq_getElem (by omega)⟩
    refine R.q (q.idx (i:=k) (fun _=>Wd.old cF) rfl rfl cG rfl hx1) rfl<|R.q (q.dx (ds:=[.int .i64 x1.ID,.int .i64 x1.ai,.int .i64 x1.Rights,.int .i64 x1.ar,.int .i64 x1.From]) (fun _=>Wd.old cF) hx1 rfl aK rfl) rfl<|?_
    refine R.s rfl (s.alloc (cs:=[.int .i64 0,.int .i64 0,.int .i64 0,.int .i64 0,.int .i64 0]) aY rfl rfl) fun b1=>?_
    refine R.s rfl (s.st (us:=[.int .i64 x1.ID,.int .i64 x1.ai,.int .i64 x1.Rights,.int .i64 x1.ar,.int .i64 x1.From]) (cs':=[.int .i64 x1.ID,.int .i64 x1.ai,.int .i64 x1.Rights,.int .i64 x1.ar,.int .i64 x1.From]) 0 _ rfl rfl rfl rfl (.inl aK) rfl rfl rfl rfl) fun _=>?_
    refine R.nil ?_
    refine R.reg rfl<|R.u 1 rfl<|R.q (q.aS (off':=1) rfl cX rfl) rfl<|R.q (q.ld 0 rfl rfl aG rfl) rfl<|?_
    refine R.s rfl (s.bs (l:=([x1.ai]:List Int)) fL iX rfl rfl rfl rfl rfl rfl rfl) fun b2=>?_
    refine R.s rfl (s.app (l2:=[x1.ai]) 2 _ rfl rfl rfl (fun _=>Wd.row 0 rfl) iI (by simp;omega) (by simp;omega) (fun _=>rfl) rfl) fun v1=>?_
    refine R.u 1 rfl<|R.nil ?_
    refine R.reg rfl<|R.q (q.add (r:=((k+1:Nat):Int)) rfl rfl (wr (by omega))) rfl<|R.u 1 rfl<|R.nil ?_
    refine R.back (k+1,v1,(acc++([x1.ai]))) rfl (by (exact ⟨by omega,by rw [HA,List.take_add_one,hx1];simp⟩)) (by dsimp only;omega) ⟨rfl,rfl,rfl,rfl,trivial⟩ (fun _=>Wd.pick [2] [] rfl rfl rfl)
  ·
    refine R.q (q.lss rfl rfl (decide_eq_false (by omega))) rfl<|R.nil ?_
    refine R.aH rfl rfl ?_
    refine R.reg rfl<|R.u 1 rfl<|?_
    refine R.s rfl (s.uF (B0:=[ah.row 3 v (acc:List Int)]) (Br:=[]) [0] _ _ rfl rfl xw rfl rfl (fun w hw H=>td v (acc) w  H  (by omega)) rfl) fun u1=>?_
    refine R.nil ?_
    refine R.reg rfl<|R.u 1 rfl<|?_
    refine R.s rfl (s.uF (B0:=[ah.row 3 v ((gS acc):List Int)]) (Br:=[]) [0] _ _ rfl rfl xx rfl rfl (fun w hw H=>o8 v ((gS acc)) w  H  (by simp [gS];omega)) rfl) fun v2=>?_
    refine R.u 1 rfl<|R.nil ?_
    exact R.ro 0 rfl Tryz.results74 rfl rfl (by (rw [HA,List.take_of_length_le (by omega)]))
theorem m0 (bk:Value)(l:List ao)(w:World)(cF:Sl w bk l):Calls Tryz.prog 80 #[bk] w fun e w' => ∃u,e = .returned u∧Own w.heap.size 3 w' u (o7 l)∧Ext w w':=by
  have lR:=cF.dI
  refine R.enter (n:=28) (vs:=[bk]) [] [(0,bk)] Tryz.func80 rfl rfl rfl rfl ?_
  refine R.reg rfl<|R.u 1 rfl<|R.nil ?_
  refine R.reg rfl<|R.u 1 rfl<|R.nil ?_
  refine R.reg rfl<|R.u 1 rfl<|R.nil ?_
  refine R.row0 (α:=Int) 3 ?_
  refine R.loop (fun g_:Nat×Value×(List Int)=>[(0,bk),(3,g_.2.1),(4,.int .i64 (g_.1:Int))]) (fun g_:Nat×Value×(List Int)=>[ah.row 3 g_.2.1 (g_.2.2:List Int)]) (fun g_:Nat×Value×(List Int)=>[]) (fun g_:Nat×Value×(List Int)=>1≤g_.1∧g_.1≤1000∧g_.2.2=dy l (g_.1-1)) (fun g_:Nat×Value×(List Int)=>1000-g_.1) (1,(.slice none 0 0),[]) rfl (by exact ⟨by omega,by omega,rfl⟩) ⟨rfl,rfl,rfl,trivial⟩ (fun _=>Wd.pick [0] [] rfl rfl rfl) ?_
  rintro ⟨k,v,acc⟩ ⟨hk1,hk,HA⟩
  dsimp only at *
  have hal:acc.length≤k:=by rw [HA];exact Nat.le_trans (kL _ _) (by omega)
  refine R.reg rfl<|R.u 1 rfl<|?_
  by_cases h1:k<1000
  ·
    refine R.q (q.lss rfl rfl (decide_eq_true (by omega))) rfl<|R.nil ?_
    refine R.aI rfl rfl ?_
    refine R.reg rfl<|R.u 1 rfl<|R.nil ?_
    refine R.loop (fun j:Nat=>[(0,bk),(3,v),(4,.int .i64 (k:Int)),(5,.int .i64 (j:Int))]) (fun j:Nat=>[ah.row 3 v (acc:List Int)]) (fun j:Nat=>[]) (fun j:Nat => ∀ (i:Nat) x,i<j→l[i]? = some x→¬ x.ai=(k:Int)) (fun j:Nat=>l.length-j) 0 rfl (by exact fun i x hi=>absurd hi (Nat.not_lt_zero _)) ⟨rfl,rfl,rfl,rfl,trivial⟩ (fun _=>Wd.pick [0] [] rfl rfl rfl) ?_
    rintro j HJ
    refine R.reg rfl<|R.u 2 rfl<|R.q (q.len' (fun _=>Wd.old cF) rfl Tryz.underlying25) rfl<|?_
    by_cases h2:j<l.length
    ·
      refine R.q (q.lss rfl rfl (decide_eq_true (by omega))) rfl<|R.nil ?_
      refine R.aI rfl rfl ?_
      refine R.reg rfl<|R.u 2 rfl<|?_
      obtain ⟨x1,hx1⟩:∃z,l[j]? = some z:=⟨_,List.getElem?_eq_getElem (by omega)⟩
      refine R.q (q.idx (i:=j) (fun _=>Wd.old cF) rfl rfl cG rfl hx1) rfl<|R.q (q.eJ (j':=1) (fun _=>Wd.old cF) hx1 rfl cX rfl) rfl<|R.q (q.jU (fun _=>Wd.old cF) hx1 rfl aG rfl) rfl<|R.u 1 rfl<|?_
      by_cases h3:x1.ai=(k:Int)
      ·
        refine R.q (q.eql rfl rfl (beq_iff_eq.2 (by omega))) rfl<|R.nil ?_
        refine R.aI rfl rfl ?_
        refine R.reg rfl<|R.u 2 rfl<|?_
        refine R.s rfl (s.bs (l:=([(k:Int)]:List Int)) fL iX rfl rfl rfl rfl rfl rfl rfl) fun b1=>?_
        refine R.s rfl (s.app (l2:=[(k:Int)]) 1 _ rfl rfl rfl (fun _=>Wd.row 0 rfl) iI (by simp;omega) (by simp;omega) (fun _=>rfl) rfl) fun v1=>?_
        refine R.u 1 rfl<|R.nil ?_
        refine R.reg rfl<|R.u 1 rfl<|R.q (q.add (r:=((k+1:Nat):Int)) rfl rfl (wr (by omega))) rfl<|R.u 1 rfl<|R.nil ?_
        refine R.back (k+1,v1,(acc++([(k:Int)]))) rfl (by (exact ⟨by omega,by omega,by rw [HA,Nat.add_sub_cancel];exact (oh (by omega) rfl hx1 (by assumption)).symm⟩)) (by dsimp only;omega) ⟨rfl,rfl,rfl,trivial⟩ (fun _=>Wd.pick [1] [] rfl rfl rfl)
      ·
        refine R.q (q.eql rfl rfl (beq_eq_false_iff_ne.2 (by omega))) rfl<|R.nil ?_
        refine R.aH rfl rfl ?_
        refine R.reg rfl<|R.u 1 rfl<|R.q (q.add (r:=((j+1:Nat):Int)) rfl rfl (wr (by omega))) rfl<|R.u 1 rfl<|R.nil ?_
        refine R.back (j+1) rfl (by (exact fun i x hi hx=>if e:i=j then by subst e;rw [hx1] at hx;injection hx with hx;subst hx;exact (by assumption) else HJ i x (by omega) hx)) (by omega) ⟨rfl,rfl,rfl,rfl,trivial⟩ (fun _=>Wd.pick [0] [] rfl rfl rfl)
    ·
      refine R.q (q.lss rfl rfl (decide_eq_false (by omega))) rfl<|R.nil ?_
      refine R.aH rfl rfl ?_
      refine R.reg rfl<|R.u 1 rfl<|R.q (q.add (r:=((k+1:Nat):Int)) rfl rfl (wr (by omega))) rfl<|R.u 1 rfl<|R.nil ?_
      refine R.back (k+1,v,acc) rfl (by (exact ⟨by omega,by omega,by rw [HA,Nat.add_sub_cancel];exact (mZ (by omega) (fun i x hi=>HJ i x (by omega))).symm⟩)) (by dsimp only;omega) ⟨rfl,rfl,rfl,trivial⟩ (fun _=>Wd.pick [0] [] rfl rfl rfl)
  ·
    refine R.q (q.lss rfl rfl (decide_eq_false (by omega))) rfl<|R.nil ?_
    refine R.aH rfl rfl ?_
    refine R.reg rfl<|R.u 2 rfl<|R.nil ?_
    exact R.ro 0 rfl Tryz.results80 rfl rfl (by (rw [HA];have:k=1000:=(by omega);subst this;rfl))
end Go.Proofs.YtpipachmngdegaaGreat
end
