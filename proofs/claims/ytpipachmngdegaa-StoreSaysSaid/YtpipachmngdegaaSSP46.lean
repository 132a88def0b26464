import Derived.Test.YtpipachmngdegaaSSP45
import Derived.Test.YtpipachmngdegaaSSP32
import Derived.Test.YtpipachmngdegaaSSP25
section
namespace Go.Proofs.Ytpipachmngdegaa
open Go Go.RowKit
set_option linter.unusedVariables false
set_option linter.unusedSimpArgs false
set_option maxRecDepth 100000
theorem mL (bZ:Value)(l:List Change)(most:Int)(w:World)(pX:Sl w bZ l):Calls Try.prog 37 #[bZ,.int .i64 most] w fun e w'=>e = .returned (.bool (ia l most))∧Ext w w':=by
  have zm:=pX.j9
  refine R.enter (n:=32) (vs:=[bZ,.int .i64 most]) [] [(0,bZ),(1,.int .i64 most)] Try.func37 rfl rfl rfl rfl ?_
  refine R.iY pX ?_
  refine R.reg rfl<|R.u 1 rfl<|R.nil ?_
  refine R.reg rfl<|R.u 1 rfl<|R.q (q.len' (fun _=>Wd.bV 0 rfl) rfl Try.underlying46) rfl<|R.u 1 rfl<|?_
  by_cases h1:most<(l.length:Int)
  ·
    refine R.q (q.gtr rfl rfl (decide_eq_true (by omega))) rfl<|R.nil ?_
    refine R.aF rfl rfl ?_
    refine R.reg rfl<|R.u 1 rfl<|R.nil ?_
    exact R.rv rfl Try.results37 rfl (rB (by (unfold ia;first|(rw [decide_eq_false (by omega)];rfl)|(rw [decide_eq_true (by omega),jk (by omega) HA];rfl)|(rw [dA hx1 (show cK _=false from by unfold cK;simp;omega)];simp)|(rw [dA hx1 (show cK _=false from by unfold cK;simp_all)];simp))))
  ·
    refine R.q (q.gtr rfl rfl (decide_eq_false (by omega))) rfl<|R.nil ?_
    refine R.aH rfl rfl ?_
    refine R.reg rfl<|R.u 1 rfl<|R.nil ?_
    refine R.loop (fun k:Nat=>[(0,bZ),(5,.int .i64 (k:Int))]) (fun k:Nat=>[]) (fun k:Nat=>[af.ls bZ (l:List Change)]) (fun k:Nat=>k≤l.length∧(l.take k).all cK=true) (fun k:Nat=>l.length-k) 0 rfl (by exact ⟨by omega,rfl⟩) ⟨rfl,rfl,trivial⟩ (fun _=>Wd.pick [] [0] rfl rfl rfl) ?_
    rintro k ⟨hk,HA⟩
    refine R.reg rfl<|R.u 2 rfl<|R.q (q.len' (fun _=>Wd.bV 0 rfl) rfl Try.underlying46) rfl<|?_
    by_cases h2:k<l.length
    ·
      refine R.q (q.lss rfl rfl (decide_eq_true (by omega))) rfl<|R.nil ?_
      refine R.aF rfl rfl ?_
      refine R.reg rfl<|R.u 2 rfl<|?_
      obtain ⟨x1,hx1⟩:∃z,l[k]? = some z:=⟨_,List.getElem?_eq_getElem (by omega)⟩
      refine R.q (q.idx (i:=k) (fun _=>Wd.bV 0 rfl) rfl rfl aU rfl hx1) rfl<|R.q (q.hY (j':=0) (fun _=>Wd.bV 0 rfl) hx1 rfl bm rfl) rfl<|R.q (q.jS (fun _=>Wd.bV 0 rfl) hx1 rfl bu rfl) rfl<|R.q (q.eW rfl Try.underlying9) rfl<|?_
      by_cases h3:20<x1.Key.size
      ·
        refine R.q (q.gtr rfl rfl (decide_eq_true (by omega))) rfl<|R.u 9 rfl<|R.nil ?_
        refine R.aF rfl rfl ?_
        refine R.reg rfl<|R.u 1 rfl<|R.nil ?_
        exact R.rv rfl Try.results37 rfl (rB (by (unfold ia;first|(rw [decide_eq_false (by omega)];rfl)|(rw [decide_eq_true (by omega),jk (by omega) HA];rfl)|(rw [dA hx1 (show cK _=false from by unfold cK;simp;omega)];simp)|(rw [dA hx1 (show cK _=false from by unfold cK;simp_all)];simp))))
      ·
        refine R.q (q.gtr rfl rfl (decide_eq_false (by omega))) rfl<|R.u 3 rfl<|R.qg rfl (q.idx (i:=k) (fun _=>Wd.bV 0 rfl) rfl rfl aU rfl hx1) rfl<|R.qg rfl (q.hY (j':=1) (fun _=>Wd.bV 0 rfl) hx1 rfl cY rfl) rfl<|R.qg rfl (q.jS (fun _=>Wd.bV 0 rfl) hx1 rfl bu rfl) rfl<|R.qg rfl (q.eW rfl Try.underlying9) rfl<|?_
        by_cases h4:40<x1.Val.size
        ·
          refine R.qg rfl (q.gtr rfl rfl (decide_eq_true (by omega))) rfl<|R.u 1 rfl<|R.nil ?_
          refine R.aF rfl rfl ?_
          refine R.reg rfl<|R.u 1 rfl<|R.nil ?_
          exact R.rv rfl Try.results37 rfl (rB (by (unfold ia;first|(rw [decide_eq_false (by omega)];rfl)|(rw [decide_eq_true (by omega),jk (by omega) HA];rfl)|(rw [dA hx1 (show cK _=false from by unfold cK;simp;omega)];simp)|(rw [dA hx1 (show cK _=false from by unfold cK;simp_all)];simp))))
        ·
          refine R.qg rfl (q.gtr rfl rfl (decide_eq_false (by omega))) rfl<|R.u 1 rfl<|R.nil ?_
          refine R.aH rfl rfl ?_
          refine R.reg rfl<|R.u 1 rfl<|R.q (q.add (r:=((k+1:Nat):Int)) rfl rfl (wr (by omega))) rfl<|R.u 1 rfl<|R.nil ?_
          refine R.back (k+1) rfl (by (exact ⟨by omega,pd hx1 HA (by unfold cK;simp_all)⟩)) (by omega) ⟨rfl,rfl,trivial⟩ (fun _=>Wd.ay [] [0] rfl rfl rfl)
    ·
      refine R.q (q.lss rfl rfl (decide_eq_false (by omega))) rfl<|R.nil ?_
      refine R.aH rfl rfl ?_
      refine R.reg rfl<|R.u 1 rfl<|R.nil ?_
      exact R.rv rfl Try.results37 rfl (rB (by (unfold ia;first|(rw [decide_eq_false (by omega)];rfl)|(rw [decide_eq_true (by omega),jk (by omega) HA];rfl)|(rw [dA hx1 (show cK _=false from by unfold cK;simp;omega)];simp)|(rw [dA hx1 (show cK _=false from by unfold cK;simp_all)];simp))))
theorem mM (bZ:Value)(l:List dj)(most:Int)(w:World)(pX:Sl w bZ l)(yO:∀x∈l,Sl w x.cv x.Changes):Calls Try.prog 8 #[bZ,.int .i64 most] w fun e w'=>e = .returned (.bool (ib l most))∧Ext w w':=by
  have zm:=pX.j9
  refine R.enter (n:=32) (vs:=[bZ,.int .i64 most]) [] [(0,bZ),(1,.int .i64 most)] Try.func8 rfl rfl rfl rfl ?_
  refine R.iY pX ?_
  refine R.kD (r:=af.acts l) yO (qE yO) ?_
  refine R.reg rfl<|R.u 1 rfl<|R.nil ?_
  refine R.reg rfl<|R.u 1 rfl<|R.q (q.len' (fun _=>Wd.bV 1 rfl) rfl Try.underlying23) rfl<|R.u 1 rfl<|?_
  by_cases h1:most<(l.length:Int)
  ·
    refine R.q (q.gtr rfl rfl (decide_eq_true (by omega))) rfl<|R.nil ?_
    refine R.aF rfl rfl ?_
    refine R.reg rfl<|R.u 1 rfl<|R.nil ?_
    exact R.rv rfl Try.results8 rfl (rB (by (unfold ib;first|(rw [decide_eq_false (by omega)];rfl)|(rw [decide_eq_true (by omega),jk (by omega) HA];rfl)|(rw [dA hx1 (show cF _=false from by unfold cF;simp;omega)];simp)|(rw [dA hx1 (show cF _=false from by unfold cF;simp_all)];simp))))
  ·
    refine R.q (q.gtr rfl rfl (decide_eq_false (by omega))) rfl<|R.nil ?_
    refine R.aH rfl rfl ?_
    refine R.reg rfl<|R.u 1 rfl<|R.nil ?_
    refine R.loop (fun k:Nat=>[(0,bZ),(5,.int .i64 (k:Int))]) (fun k:Nat=>[]) (fun k:Nat=>[af.acts l,af.ls bZ (l:List dj)]) (fun k:Nat=>k≤l.length∧(l.take k).all cF=true) (fun k:Nat=>l.length-k) 0 rfl (by exact ⟨by omega,rfl⟩) ⟨rfl,rfl,trivial⟩ (fun _=>Wd.pick [] [0,1] rfl rfl rfl) ?_
    rintro k ⟨hk,HA⟩
    refine R.reg rfl<|R.u 2 rfl<|R.q (q.len' (fun _=>Wd.bV 1 rfl) rfl Try.underlying23) rfl<|?_
    by_cases h2:k<l.length
    ·
      refine R.q (q.lss rfl rfl (decide_eq_true (by omega))) rfl<|R.nil ?_
      refine R.aF rfl rfl ?_
      refine R.reg rfl<|R.u 2 rfl<|?_
      obtain ⟨x1,hx1⟩:∃z,l[k]? = some z:=⟨_,List.getElem?_eq_getElem (by omega)⟩
      refine R.q (q.idx (i:=k) (fun _=>Wd.bV 1 rfl) rfl rfl pQ rfl hx1) rfl<|R.q (q.hY (j':=1) (fun _=>Wd.bV 1 rfl) hx1 rfl rM rfl) rfl<|R.q (q.jS (fun _=>Wd.bV 1 rfl) hx1 rfl bu rfl) rfl<|R.q (q.eW rfl Try.underlying9) rfl<|?_
      by_cases h3:100<x1.S.size
      ·
        refine R.q (q.gtr rfl rfl (decide_eq_true (by omega))) rfl<|R.u 9 rfl<|R.nil ?_
        refine R.aF rfl rfl ?_
        refine R.reg rfl<|R.u 1 rfl<|R.nil ?_
        exact R.rv rfl Try.results8 rfl (rB (by (unfold ib;first|(rw [decide_eq_false (by omega)];rfl)|(rw [decide_eq_true (by omega),jk (by omega) HA];rfl)|(rw [dA hx1 (show cF _=false from by unfold cF;simp;omega)];simp)|(rw [dA hx1 (show cF _=false from by unfold cF;simp_all)];simp))))
      ·
        refine R.q (q.gtr rfl rfl (decide_eq_false (by omega))) rfl<|R.u 3 rfl<|R.qg rfl (q.idx (i:=k) (fun _=>Wd.bV 1 rfl) rfl rfl pQ rfl hx1) rfl<|R.qg rfl (q.hY (j':=10) (fun _=>Wd.bV 1 rfl) hx1 rfl kE rfl) rfl<|R.qg rfl (q.jS (fun _=>Wd.bV 1 rfl) hx1 rfl bX rfl) rfl<|?_
        rcases Bool.eq_false_or_eq_true (ia x1.Changes 70) with h4|h4
        ·
          refine R.cg rfl (q.call vJ rfl rfl (fun w hw=>(cv (congrArg Value.bool h4) (mL _ (x1.Changes) (70) w ((fun _=>Wd.uE (l:=l) 0 rfl (List.mem_of_getElem? hx1)) w hw) )))) rfl<|R.u 2 rfl<|R.nil ?_
          refine R.aH rfl rfl ?_
          refine R.reg rfl<|R.u 1 rfl<|R.q (q.add (r:=((k+1:Nat):Int)) rfl rfl (wr (by omega))) rfl<|R.u 1 rfl<|R.nil ?_
          refine R.back (k+1) rfl (by (exact ⟨by omega,pd hx1 HA (by unfold cF;simp_all)⟩)) (by omega) ⟨rfl,rfl,trivial⟩ (fun _=>Wd.ay [] [0,1] rfl rfl rfl)
        ·
          refine R.cg rfl (q.call vJ rfl rfl (fun w hw=>(cv (congrArg Value.bool h4) (mL _ (x1.Changes) (70) w ((fun _=>Wd.uE (l:=l) 0 rfl (List.mem_of_getElem? hx1)) w hw) )))) rfl<|R.u 2 rfl<|R.nil ?_
          refine R.aF rfl rfl ?_
          refine R.reg rfl<|R.u 1 rfl<|R.nil ?_
          exact R.rv rfl Try.results8 rfl (rB (by (unfold ib;first|(rw [decide_eq_false (by omega)];rfl)|(rw [decide_eq_true (by omega),jk (by omega) HA];rfl)|(rw [dA hx1 (show cF _=false from by unfold cF;simp;omega)];simp)|(rw [dA hx1 (show cF _=false from by unfold cF;simp_all)];simp))))
    ·
      refine R.q (q.lss rfl rfl (decide_eq_false (by omega))) rfl<|R.nil ?_
      refine R.aH rfl rfl ?_
      refine R.reg rfl<|R.u 1 rfl<|R.nil ?_
      exact R.rv rfl Try.results8 rfl (rB (by (unfold ib;first|(rw [decide_eq_false (by omega)];rfl)|(rw [decide_eq_true (by omega),jk (by omega) HA];rfl)|(rw [dA hx1 (show cF _=false from by unfold cF;simp;omega)];simp)|(rw [dA hx1 (show cF _=false from by unfold cF;simp_all)];simp))))
theorem fh (err:Int)(f:Int)(w:World)(h0:0≤err):Calls Try.prog 13 #[bG err,.int .i64 f] w fun e w'=>e = .returned (.bool (decide (err=f)))∧Ext w w':=by
  refine R.enter (n:=26) (vs:=[bG err,.int .i64 f]) [] [(0,bG err),(1,.int .i64 f)] Try.func13 rfl rfl rfl rfl ?_
  refine R.reg rfl<|R.u 1 rfl<|R.nil ?_
  refine R.reg rfl<|R.u 1 rfl<|?_
  by_cases h1:err=0
  ·
    refine R.q (q.i7 rfl rfl Try.underlying28 (by omega)) rfl<|R.nil ?_
    refine R.aF rfl rfl ?_
    refine R.reg rfl<|R.u 1 rfl<|?_
    by_cases h2:f=0
    ·
      refine R.q (q.eql rfl rfl (beq_iff_eq.2 (by omega))) rfl<|R.u 1 rfl<|R.nil ?_
      exact R.rv rfl Try.results13 rfl (rB (by (first|exact (decide_eq_true (by omega)).symm|exact (decide_eq_false (by omega)).symm)))
    ·
      refine R.q (q.eql rfl rfl (beq_eq_false_iff_ne.2 (by omega))) rfl<|R.u 1 rfl<|R.nil ?_
      exact R.rv rfl Try.results13 rfl (rB (by (first|exact (decide_eq_true (by omega)).symm|exact (decide_eq_false (by omega)).symm)))
  ·
    refine R.q (q.fq rfl rfl Try.underlying28 (by omega)) rfl<|R.nil ?_
    refine R.aH rfl rfl ?_
    refine R.reg rfl<|R.u 1 rfl<|R.q (q.za rfl (by omega) Try.underlying75) rfl<|R.u 5 rfl<|R.nil ?_
    refine R.reg rfl<|R.u 3 rfl<|?_
    by_cases h3:0<f
    ·
      refine R.qg rfl (q.gtr rfl rfl (decide_eq_true (by omega))) rfl<|R.u 4 rfl<|?_
      by_cases h4:err=f
      ·
        refine R.qg rfl (q.eql rfl rfl (beq_iff_eq.2 (by omega))) rfl<|R.u 2 rfl<|R.nil ?_
        exact R.rv rfl Try.results13 rfl (rB (by (first|exact (decide_eq_true (by omega)).symm|exact (decide_eq_false (by omega)).symm)))
      ·
        refine R.qg rfl (q.eql rfl rfl (beq_eq_false_iff_ne.2 (by omega))) rfl<|R.u 2 rfl<|R.nil ?_
        exact R.rv rfl Try.results13 rfl (rB (by (first|exact (decide_eq_true (by omega)).symm|exact (decide_eq_false (by omega)).symm)))
    ·
      refine R.qg rfl (q.gtr rfl rfl (decide_eq_false (by omega))) rfl<|R.u 7 rfl<|R.nil ?_
      exact R.rv rfl Try.results13 rfl (rB (by (first|exact (decide_eq_true (by omega)).symm|exact (decide_eq_false (by omega)).symm)))
end Go.Proofs.Ytpipachmngdegaa
end
