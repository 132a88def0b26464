import Derived.Test.YtpipachmngdegaaGreatRSP31
import Derived.Test.YtpipachmngdegaaGreatRSP32
import Derived.Test.YtpipachmngdegaaGreatRSP16
import Derived.Test.YtpipachmngdegaaGreatRSP33
import Derived.Test.YtpipachmngdegaaGreatRSP34
section
namespace Go.Proofs.YtpipachmngdegaaGreat
open Go Go.RowKit
set_option linter.unusedVariables false
set_option linter.unusedSimpArgs false
set_option maxRecDepth 100000
theorem mR (bk:Value)(l:List Change)(most:Int)(w:World)(cF:Sl w bk l):Calls Tryz.prog 22 #[bk,.int .i64 most] w fun e w'=>e = .returned (.bool (kb l most))∧Ext w w':=by
  have lR:=cF.dI
  refine R.enter (n:=32) (vs:=[bk,.int .i64 most]) [] [(0,bk),(1,.int .i64 most)] Tryz.func22 rfl rfl rfl rfl ?_
  refine R.vd cF ?_
  refine R.reg rfl<|R.u 1 rfl<|R.nil ?_
  refine R.reg rfl<|R.u 1 rfl<|R.q (q.len' (fun _=>Wd.aO 0 rfl) rfl Tryz.underlying35) rfl<|R.u 1 rfl<|?_
  by_cases h1:most<(l.length:Int)
  ·
    refine R.q (q.gtr rfl rfl (decide_eq_true (by omega))) rfl<|R.nil ?_
    refine R.aI rfl rfl ?_
    refine R.reg rfl<|R.u 1 rfl<|R.nil ?_
    exact R.rv rfl Tryz.results22 rfl (rB (by (unfold kb;first|(rw [decide_eq_false (by omega)];rfl)|(rw [decide_eq_true (by omega),jE (by omega) HA];rfl)|(rw [ej hx1 (show dV _=false from by unfold dV;simp;omega)];simp)|(rw [ej hx1 (show dV _=false from by unfold dV;simp_all)];simp))))
  ·
    refine R.q (q.gtr rfl rfl (decide_eq_false (by omega))) rfl<|R.nil ?_
    refine R.aH rfl rfl ?_
    refine R.reg rfl<|R.u 1 rfl<|R.nil ?_
    refine R.loop (fun k:Nat=>[(0,bk),(5,.int .i64 (k:Int))]) (fun k:Nat=>[]) (fun k:Nat=>[ah.ls bk (l:List Change)]) (fun k:Nat=>k≤l.length∧(l.take k).all dV=true) (fun k:Nat=>l.length-k) 0 rfl (by exact ⟨by omega,rfl⟩) ⟨rfl,rfl,trivial⟩ (fun _=>Wd.pick [] [0] rfl rfl rfl) ?_
    rintro k ⟨hk,HA⟩
    refine R.reg rfl<|R.u 2 rfl<|R.q (q.len' (fun _=>Wd.aO 0 rfl) rfl Tryz.underlying35) rfl<|?_
    by_cases h2:k<l.length
    ·
      refine R.q (q.lss rfl rfl (decide_eq_true (by omega))) rfl<|R.nil ?_
      refine R.aI rfl rfl ?_
      refine R.reg rfl<|R.u 2 rfl<|?_
      obtain ⟨x1,hx1⟩:∃z,l[k]? = some z:=⟨_,List.getElem?_eq_getElem (by omega)⟩
      refine R.q (q.idx (i:=k) (fun _=>Wd.aO 0 rfl) rfl rfl sC rfl hx1) rfl<|R.q (q.eJ (j':=0) (fun _=>Wd.aO 0 rfl) hx1 rfl pN rfl) rfl<|R.q (q.jU (fun _=>Wd.aO 0 rfl) hx1 rfl fQ rfl) rfl<|R.q (q.pI rfl Tryz.underlying9) rfl<|?_
      by_cases h3:20<x1.Key.size
      ·
        refine R.q (q.gtr rfl rfl (decide_eq_true (by omega))) rfl<|R.u 9 rfl<|R.nil ?_
        refine R.aI rfl rfl ?_
        refine R.reg rfl<|R.u 1 rfl<|R.nil ?_
        exact R.rv rfl Tryz.results22 rfl (rB (by (unfold kb;first|(rw [decide_eq_false (by omega)];rfl)|(rw [decide_eq_true (by omega),jE (by omega) HA];rfl)|(rw [ej hx1 (show dV _=false from by unfold dV;simp;omega)];simp)|(rw [ej hx1 (show dV _=false from by unfold dV;simp_all)];simp))))
      ·
        refine R.q (q.gtr rfl rfl (decide_eq_false (by omega))) rfl<|R.u 3 rfl<|R.qg rfl (q.idx (i:=k) (fun _=>Wd.aO 0 rfl) rfl rfl sC rfl hx1) rfl<|R.qg rfl (q.eJ (j':=1) (fun _=>Wd.aO 0 rfl) hx1 rfl pO rfl) rfl<|R.qg rfl (q.jU (fun _=>Wd.aO 0 rfl) hx1 rfl fQ rfl) rfl<|R.qg rfl (q.pI rfl Tryz.underlying9) rfl<|?_
        by_cases h4:40<x1.Val.size
        ·
          refine R.qg rfl (q.gtr rfl rfl (decide_eq_true (by omega))) rfl<|R.u 1 rfl<|R.nil ?_
          refine R.aI rfl rfl ?_
          refine R.reg rfl<|R.u 1 rfl<|R.nil ?_
          exact R.rv rfl Tryz.results22 rfl (rB (by (unfold kb;first|(rw [decide_eq_false (by omega)];rfl)|(rw [decide_eq_true (by omega),jE (by omega) HA];rfl)|(rw [ej hx1 (show dV _=false from by unfold dV;simp;omega)];simp)|(rw [ej hx1 (show dV _=false from by unfold dV;simp_all)];simp))))
        ·
          refine R.qg rfl (q.gtr rfl rfl (decide_eq_false (by omega))) rfl<|R.u 1 rfl<|R.nil ?_
          refine R.aH rfl rfl ?_
          refine R.reg rfl<|R.u 1 rfl<|R.q (q.add (r:=((k+1:Nat):Int)) rfl rfl (wr (by omega))) rfl<|R.u 1 rfl<|R.nil ?_
          refine R.back (k+1) rfl (by (exact ⟨by omega,pj hx1 HA (by unfold dV;simp_all)⟩)) (by omega) ⟨rfl,rfl,trivial⟩ (fun _=>Wd.aV [] [0] rfl rfl rfl)
    ·
      refine R.q (q.lss rfl rfl (decide_eq_false (by omega))) rfl<|R.nil ?_
      refine R.aH rfl rfl ?_
      refine R.reg rfl<|R.u 1 rfl<|R.nil ?_
      exact R.rv rfl Tryz.results22 rfl (rB (by (unfold kb;first|(rw [decide_eq_false (by omega)];rfl)|(rw [decide_eq_true (by omega),jE (by omega) HA];rfl)|(rw [ej hx1 (show dV _=false from by unfold dV;simp;omega)];simp)|(rw [ej hx1 (show dV _=false from by unfold dV;simp_all)];simp))))
theorem mS (bk:Value)(l:List ef)(most:Int)(w:World)(cF:Sl w bk l)(sW:∀x∈l,Sl w x.cv x.Changes):Calls Tryz.prog 5 #[bk,.int .i64 most] w fun e w'=>e = .returned (.bool (jD l most))∧Ext w w':=by
  have lR:=cF.dI
  refine R.enter (n:=32) (vs:=[bk,.int .i64 most]) [] [(0,bk),(1,.int .i64 most)] Tryz.func5 rfl rfl rfl rfl ?_
  refine R.vd cF ?_
  refine R.nS (r:=ah.acts l) sW (qH sW) ?_
  refine R.reg rfl<|R.u 1 rfl<|R.nil ?_
  refine R.reg rfl<|R.u 1 rfl<|R.q (q.len' (fun _=>Wd.aO 1 rfl) rfl Tryz.underlying22) rfl<|R.u 1 rfl<|?_
  by_cases h1:most<(l.length:Int)
  ·
    refine R.q (q.gtr rfl rfl (decide_eq_true (by omega))) rfl<|R.nil ?_
    refine R.aI rfl rfl ?_
    refine R.reg rfl<|R.u 1 rfl<|R.nil ?_
    exact R.rv rfl Tryz.results5 rfl (rB (by (unfold jD;first|(rw [decide_eq_false (by omega)];rfl)|(rw [decide_eq_true (by omega),jE (by omega) HA];rfl)|(rw [ej hx1 (show dW _=false from by unfold dW;simp;omega)];simp)|(rw [ej hx1 (show dW _=false from by unfold dW;simp_all)];simp))))
  ·
    refine R.q (q.gtr rfl rfl (decide_eq_false (by omega))) rfl<|R.nil ?_
    refine R.aH rfl rfl ?_
    refine R.reg rfl<|R.u 1 rfl<|R.nil ?_
    refine R.loop (fun k:Nat=>[(0,bk),(5,.int .i64 (k:Int))]) (fun k:Nat=>[]) (fun k:Nat=>[ah.acts l,ah.ls bk (l:List ef)]) (fun k:Nat=>k≤l.length∧(l.take k).all dW=true) (fun k:Nat=>l.length-k) 0 rfl (by exact ⟨by omega,rfl⟩) ⟨rfl,rfl,trivial⟩ (fun _=>Wd.pick [] [0,1] rfl rfl rfl) ?_
    rintro k ⟨hk,HA⟩
    refine R.reg rfl<|R.u 2 rfl<|R.q (q.len' (fun _=>Wd.aO 1 rfl) rfl Tryz.underlying22) rfl<|?_
    by_cases h2:k<l.length
    ·
      refine R.q (q.lss rfl rfl (decide_eq_true (by omega))) rfl<|R.nil ?_
      refine R.aI rfl rfl ?_
      refine R.reg rfl<|R.u 2 rfl<|?_
      obtain ⟨x1,hx1⟩:∃z,l[k]? = some z:=⟨_,List.getElem?_eq_getElem (by omega)⟩
      refine R.q (q.idx (i:=k) (fun _=>Wd.aO 1 rfl) rfl rfl pL rfl hx1) rfl<|R.q (q.eJ (j':=1) (fun _=>Wd.aO 1 rfl) hx1 rfl iE rfl) rfl<|R.q (q.jU (fun _=>Wd.aO 1 rfl) hx1 rfl fQ rfl) rfl<|R.q (q.pI rfl Tryz.underlying9) rfl<|?_
      by_cases h3:100<x1.S.size
      ·
        refine R.q (q.gtr rfl rfl (decide_eq_true (by omega))) rfl<|R.u 9 rfl<|R.nil ?_
        refine R.aI rfl rfl ?_
        refine R.reg rfl<|R.u 1 rfl<|R.nil ?_
        exact R.rv rfl Tryz.results5 rfl (rB (by (unfold jD;first|(rw [decide_eq_false (by omega)];rfl)|(rw [decide_eq_true (by omega),jE (by omega) HA];rfl)|(rw [ej hx1 (show dW _=false from by unfold dW;simp;omega)];simp)|(rw [ej hx1 (show dW _=false from by unfold dW;simp_all)];simp))))
      ·
        refine R.q (q.gtr rfl rfl (decide_eq_false (by omega))) rfl<|R.u 3 rfl<|R.qg rfl (q.idx (i:=k) (fun _=>Wd.aO 1 rfl) rfl rfl pL rfl hx1) rfl<|R.qg rfl (q.eJ (j':=10) (fun _=>Wd.aO 1 rfl) hx1 rfl rG rfl) rfl<|R.qg rfl (q.jU (fun _=>Wd.aO 1 rfl) hx1 rfl tW rfl) rfl<|?_
        rcases Bool.eq_false_or_eq_true (kb x1.Changes 70) with h4|h4
        ·
          refine R.cg rfl (q.call uK rfl rfl (fun w hw=>(cv (congrArg Value.bool h4) (mR _ (x1.Changes) (70) w ((fun _=>Wd.vf (l:=l) 0 rfl (List.mem_of_getElem? hx1)) w hw) )))) rfl<|R.u 2 rfl<|R.nil ?_
          refine R.aH rfl rfl ?_
          refine R.reg rfl<|R.u 1 rfl<|R.q (q.add (r:=((k+1:Nat):Int)) rfl rfl (wr (by omega))) rfl<|R.u 1 rfl<|R.nil ?_
          refine R.back (k+1) rfl (by (exact ⟨by omega,pj hx1 HA (by unfold dW;simp_all)⟩)) (by omega) ⟨rfl,rfl,trivial⟩ (fun _=>Wd.aV [] [0,1] rfl rfl rfl)
        ·
          refine R.cg rfl (q.call uK rfl rfl (fun w hw=>(cv (congrArg Value.bool h4) (mR _ (x1.Changes) (70) w ((fun _=>Wd.vf (l:=l) 0 rfl (List.mem_of_getElem? hx1)) w hw) )))) rfl<|R.u 2 rfl<|R.nil ?_
          refine R.aI rfl rfl ?_
          refine R.reg rfl<|R.u 1 rfl<|R.nil ?_
          exact R.rv rfl Tryz.results5 rfl (rB (by (unfold jD;first|(rw [decide_eq_false (by omega)];rfl)|(rw [decide_eq_true (by omega),jE (by omega) HA];rfl)|(rw [ej hx1 (show dW _=false from by unfold dW;simp;omega)];simp)|(rw [ej hx1 (show dW _=false from by unfold dW;simp_all)];simp))))
    ·
      refine R.q (q.lss rfl rfl (decide_eq_false (by omega))) rfl<|R.nil ?_
      refine R.aH rfl rfl ?_
      refine R.reg rfl<|R.u 1 rfl<|R.nil ?_
      exact R.rv rfl Tryz.results5 rfl (rB (by (unfold jD;first|(rw [decide_eq_false (by omega)];rfl)|(rw [decide_eq_true (by omega),jE (by omega) HA];rfl)|(rw [ej hx1 (show dW _=false from by unfold dW;simp;omega)];simp)|(rw [ej hx1 (show dW _=false from by unfold dW;simp_all)];simp))))
set_option maxRecDepth 100000 in
set_option maxHeartbeats 2000000 in
theorem um (aD az aB aA:Value)(r:ay)(a:ef)(w:World)(own:List Nat)(H:Wd w (blks []++own) ([]++[ah.held w own]) [ah.ls aD (r.ap:List ao),ah.ls az (r.Things:List ai),ah.ls aB (r.Held:List Held),ah.ls aA (r.Notes:List Note)] w)(hk:Ok r):Calls Tryz.prog 19 #[.agg #[aD,az,aB,aA,.int .i64 r.ae,.int .i64 r.af],.agg #[.string a.Kind,.string a.S,.int .i64 a.P.ag,.int .i64 a.P.Slot,.int .i64 a.Q.ag,.int .i64 a.Q.Slot,.int .i64 a.A,.int .i64 a.B,.int .i64 a.N,.int .u64 a.K,a.cv]] w fun e w' => ∃z:Value×Value×Value×Value,e = .returned (.tuple #[.agg #[z.1,z.2.1,z.2.2.1,z.2.2.2,.int .i64 ((((dC r a)).1).ae),.int .i64 ((((dC r a)).1).af)],ek (((dC r a)).2)])∧Wd w (blks []++own) ([]++[ah.held w own]) [ah.ls z.1 ((((dC r a)).1).ap:List ao),ah.ls z.2.1 ((((dC r a)).1).Things:List ai),ah.ls z.2.2.1 ((((dC r a)).1).Held:List Held),ah.ls z.2.2.2 ((((dC r a)).1).Notes:List Note)] w':=by
  have cw:=H.bS 0 rfl
  have bY:=H.bS 1 rfl
  have cI:=H.bS 2 rfl
  have cx:=H.bS 3 rfl
  refine R.cC (n:=100) (vs:=[.agg #[aD,az,aB,aA,.int .i64 r.ae,.int .i64 r.af],.agg #[.string a.Kind,.string a.S,.int .i64 a.P.ag,.int .i64 a.P.Slot,.int .i64 a.Q.ag,.int .i64 a.Q.Slot,.int .i64 a.A,.int .i64 a.B,.int .i64 a.N,.int .u64 a.K,a.cv]]) (B:=[ah.held w own]) [(0,.agg #[aD,az,aB,aA,.int .i64 r.ae,.int .i64 r.af]),(1,.agg #[.string a.Kind,.string a.S,.int .i64 a.P.ag,.int .i64 a.P.Slot,.int .i64 a.Q.ag,.int .i64 a.Q.Slot,.int .i64 a.A,.int .i64 a.B,.int .i64 a.N,.int .u64 a.K,a.cv])] Tryz.func19 rfl rfl rfl rfl H ?_
  refine R.reg rfl<|?_
  refine R.s rfl (s.box (cs:=[aD,az,aB,aA,.int .i64 r.ae,.int .i64 r.af]) rfl rfl rfl) fun b1=>?_
  refine R.s rfl (s.box (cs:=[.string a.Kind,.string a.S,.int .i64 a.P.ag,.int .i64 a.P.Slot,.int .i64 a.Q.ag,.int .i64 a.Q.Slot,.int .i64 a.A,.int .i64 a.B,.int .i64 a.N,.int .u64 a.K,a.cv]) rfl rfl rfl) fun b2=>?_
  refine R.s rfl (s.alloc (cs:=[.slice none 0 0,.slice none 0 0,.slice none 0 0,.slice none 0 0,.int .i64 0,.int .i64 0]) bR rfl rfl) fun b3=>?_
  refine R.u 1 rfl<|R.nil ?_
  refine R.reg rfl<|R.q (q.aS (off':=0) rfl nj rfl) rfl<|R.q (q.ld 1 rfl rfl fQ rfl) rfl<|R.nil ?_
  refine R.reg rfl<|?_
  by_cases h1:a.Kind=⟨#[109,97,107,101]⟩
  ·
    refine R.q (q.gA rfl rfl h1) rfl<|R.u 1 rfl<|R.nil ?_
    refine R.aI rfl rfl ?_
    refine R.reg rfl<|R.q (q.bI 2 rfl rfl au) rfl<|R.q (q.aS (off':=2) rfl cJ rfl) rfl<|R.q (q.lE (ds:=[.int .i64 a.P.ag,.int .i64 a.P.Slot]) 1 rfl rfl aM rfl) rfl<|R.q (q.aS (off':=6) rfl fy rfl) rfl<|R.q (q.ld 1 rfl rfl aG rfl) rfl<|?_
    refine R.s (B':=(fun g_:Value×Value×Value×Value=>[ah.box b3 [.slice none 0 0,.slice none 0 0,.slice none 0 0,.slice none 0 0,.int .i64 0,.int .i64 0] 30,ah.box b2 [.string a.Kind,.string a.S,.int .i64 a.P.ag,.int .i64 a.P.Slot,.int .i64 a.Q.ag,.int .i64 a.Q.Slot,.int .i64 a.A,.int .i64 a.B,.int .i64 a.N,.int .u64 a.K,a.cv] 37,ah.box b1 [aD,az,aB,aA,.int .i64 r.ae,.int .i64 r.af] 30,ah.held w own])) (F':=(fun g_:Value×Value×Value×Value=>[ah.ls g_.1 ((((aU r a.P a.A)).1).ap:List ao),ah.ls g_.2.1 ((((aU r a.P a.A)).1).Things:List ai),ah.ls g_.2.2.1 ((((aU r a.P a.A)).1).Held:List Held),ah.ls g_.2.2.2 ((((aU r a.P a.A)).1).Notes:List Note),ah.ls aD (r.ap:List ao),ah.ls az (r.Things:List ai),ah.ls aB (r.Held:List Held),ah.ls aA (r.Notes:List Note)])) rfl (s.bE (B0:=[]) (Br:=[ah.box b3 [.slice none 0 0,.slice none 0 0,.slice none 0 0,.slice none 0 0,.int .i64 0,.int .i64 0] 30,ah.box b2 [.string a.Kind,.string a.S,.int .i64 a.P.ag,.int .i64 a.P.Slot,.int .i64 a.Q.ag,.int .i64 a.Q.Slot,.int .i64 a.A,.int .i64 a.B,.int .i64 a.N,.int .u64 a.K,a.cv] 37,ah.box b1 [aD,az,aB,aA,.int .i64 r.ae,.int .i64 r.af] 30,ah.held w own]) (F0:=[ah.ls aD (r.ap:List ao),ah.ls az (r.Things:List ai),ah.ls aB (r.Held:List Held),ah.ls aA (r.Notes:List Note)]) [0,1,2,3] [0,1,2,3] (fun g_:Value×Value×Value×Value => .tuple #[.agg #[g_.1,g_.2.1,g_.2.2.1,g_.2.2.2,.int .i64 ((((aU r a.P a.A)).1).ae),.int .i64 ((((aU r a.P a.A)).1).af)],ek (((aU r a.P a.A)).2)]) (fun g_:Value×Value×Value×Value=>[]) (fun g_:Value×Value×Value×Value=>[ah.ls g_.1 ((((aU r a.P a.A)).1).ap:List ao),ah.ls g_.2.1 ((((aU r a.P a.A)).1).Things:List ai),ah.ls g_.2.2.1 ((((aU r a.P a.A)).1).Held:List Held),ah.ls g_.2.2.2 ((((aU r a.P a.A)).1).Notes:List Note)]) rfl rfl rfl uJ rfl rfl (fun w own hw H=>nG aD az aB aA (r) (a.P) (a.A) w own H (by assumption)) rfl) ?_
    rintro ⟨z1,z2,z3,z4⟩
    dsimp only
    refine R.u 2 rfl<|?_
    refine R.s rfl (s.cS (us:=[z1,z2,z3,z4,.int .i64 (((aU r a.P a.A).1).ae),.int .i64 (((aU r a.P a.A).1).af)]) (cs':=[z1,z2,z3,z4,.int .i64 (((aU r a.P a.A).1).ae),.int .i64 (((aU r a.P a.A).1).af)]) 0 _ rfl rfl rfl (fun _ _=>rfl) (.inl au) (fun w hw=>(aj (Sl.one ((fun _=>Wd.aO 0 rfl) w hw)) (aj (Sl.one ((fun _=>Wd.aO 1 rfl) w hw)) (aj (Sl.one ((fun _=>Wd.aO 2 rfl) w hw)) (aj (Sl.one ((fun _=>Wd.aO 3 rfl) w hw)) (aj rfl (aj rfl aJ))))))) rfl rfl rfl) fun _=>?_
    refine R.u 1 rfl<|R.nil ?_
    have hz:dC r a=(((aU r a.P a.A).1),(aU r a.P a.A).2):=by (unfold dC;(repeat' split) <;> first|rfl|(exfalso;simp_all;done)|(simp_all;done))
    rw [hz]
    exact R.w2 (z1,z2,z3,z4) [3] [0,1,2,3] rfl Tryz.results19 (RV.cell 0 rfl rfl au) (RV.tmp rfl) rfl rfl rfl (cm rfl rfl)
  ·
    refine R.q (q.gB rfl rfl h1) rfl<|R.u 1 rfl<|R.nil ?_
    refine R.aH rfl rfl ?_
    refine R.reg rfl<|?_
    by_cases h2:a.Kind=⟨#[103,105,118,101]⟩
    ·
      refine R.q (q.gA rfl rfl h2) rfl<|R.u 1 rfl<|R.nil ?_
      refine R.aI rfl rfl ?_
      refine R.reg rfl<|R.q (q.bI 2 rfl rfl au) rfl<|R.q (q.aS (off':=2) rfl cJ rfl) rfl<|R.q (q.lE (ds:=[.int .i64 a.P.ag,.int .i64 a.P.Slot]) 1 rfl rfl aM rfl) rfl<|R.q (q.aS (off':=4) rfl nk rfl) rfl<|R.q (q.lE (ds:=[.int .i64 a.Q.ag,.int .i64 a.Q.Slot]) 1 rfl rfl aM rfl) rfl<|R.q (q.aS (off':=6) rfl fy rfl) rfl<|R.q (q.ld 1 rfl rfl aG rfl) rfl<|R.q (q.aS (off':=7) rfl jH rfl) rfl<|R.q (q.ld 1 rfl rfl aG rfl) rfl<|?_
      refine R.s (B':=(fun g_:Value×Value×Value×Value=>[ah.box b3 [.slice none 0 0,.slice none 0 0,.slice none 0 0,.slice none 0 0,.int .i64 0,.int .i64 0] 30,ah.box b2 [.string a.Kind,.string a.S,.int .i64 a.P.ag,.int .i64 a.P.Slot,.int .i64 a.Q.ag,.int .i64 a.Q.Slot,.int .i64 a.A,.int .i64 a.B,.int .i64 a.N,.int .u64 a.K,a.cv] 37,ah.box b1 [aD,az,aB,aA,.int .i64 r.ae,.int .i64 r.af] 30,ah.held w own])) (F':=(fun g_:Value×Value×Value×Value=>[ah.ls g_.1 ((((bD r a.P a.Q a.A a.B)).1).ap:List ao),ah.ls g_.2.1 ((((bD r a.P a.Q a.A a.B)).1).Things:List ai),ah.ls g_.2.2.1 ((((bD r a.P a.Q a.A a.B)).1).Held:List Held),ah.ls g_.2.2.2 ((((bD r a.P a.Q a.A a.B)).1).Notes:List Note),ah.ls aD (r.ap:List ao),ah.ls az (r.Things:List ai),ah.ls aB (r.Held:List Held),ah.ls aA (r.Notes:List Note)])) rfl (s.bE (B0:=[]) (Br:=[ah.box b3 [.slice none 0 0,.slice none 0 0,.slice none 0 0,.slice none 0 0,.int .i64 0,.int .i64 0] 30,ah.box b2 [.string a.Kind,.string a.S,.int .i64 a.P.ag,.int .i64 a.P.Slot,.int .i64 a.Q.ag,.int .i64 a.Q.Slot,.int .i64 a.A,.int .i64 a.B,.int .i64 a.N,.int .u64 a.K,a.cv] 37,ah.box b1 [aD,az,aB,aA,.int .i64 r.ae,.int .i64 r.af] 30,ah.held w own]) (F0:=[ah.ls aD (r.ap:List ao),ah.ls az (r.Things:List ai),ah.ls aB (r.Held:List Held),ah.ls aA (r.Notes:List Note)]) [0,1,2,3] [0,1,2,3] (fun g_:Value×Value×Value×Value => .tuple #[.agg #[g_.1,g_.2.1,g_.2.2.1,g_.2.2.2,.int .i64 ((((bD r a.P a.Q a.A a.B)).1).ae),.int .i64 ((((bD r a.P a.Q a.A a.B)).1).af)],ek (((bD r a.P a.Q a.A a.B)).2)]) (fun g_:Value×Value×Value×Value=>[]) (fun g_:Value×Value×Value×Value=>[ah.ls g_.1 ((((bD r a.P a.Q a.A a.B)).1).ap:List ao),ah.ls g_.2.1 ((((bD r a.P a.Q a.A a.B)).1).Things:List ai),ah.ls g_.2.2.1 ((((bD r a.P a.Q a.A a.B)).1).Held:List Held),ah.ls g_.2.2.2 ((((bD r a.P a.Q a.A a.B)).1).Notes:List Note)]) rfl rfl rfl wR rfl rfl (fun w own hw H=>rP aD az aB aA (r) (a.P) (a.Q) (a.A) (a.B) w own H (by assumption)) rfl) ?_
      rintro ⟨z5,z6,z7,z8⟩
      dsimp only
      refine R.u 2 rfl<|?_
      refine R.s rfl (s.cS (us:=[z5,z6,z7,z8,.int .i64 (((bD r a.P a.Q a.A a.B).1).ae),.int .i64 (((bD r a.P a.Q a.A a.B).1).af)]) (cs':=[z5,z6,z7,z8,.int .i64 (((bD r a.P a.Q a.A a.B).1).ae),.int .i64 (((bD r a.P a.Q a.A a.B).1).af)]) 0 _ rfl rfl rfl (fun _ _=>rfl) (.inl au) (fun w hw=>(aj (Sl.one ((fun _=>Wd.aO 0 rfl) w hw)) (aj (Sl.one ((fun _=>Wd.aO 1 rfl) w hw)) (aj (Sl.one ((fun _=>Wd.aO 2 rfl) w hw)) (aj (Sl.one ((fun _=>Wd.aO 3 rfl) w hw)) (aj rfl (aj rfl aJ))))))) rfl rfl rfl) fun _=>?_
      refine R.u 1 rfl<|R.nil ?_
      have hz:dC r a=(((bD r a.P a.Q a.A a.B).1),(bD r a.P a.Q a.A a.B).2):=by (unfold dC;(repeat' split) <;> first|rfl|(exfalso;simp_all;done)|(simp_all;done))
      rw [hz]
      exact R.w2 (z5,z6,z7,z8) [3] [0,1,2,3] rfl Tryz.results19 (RV.cell 0 rfl rfl au) (RV.tmp rfl) rfl rfl rfl (cm rfl rfl)
    ·
      refine R.q (q.gB rfl rfl h2) rfl<|R.u 1 rfl<|R.nil ?_
      refine R.aH rfl rfl ?_
      refine R.reg rfl<|?_
      by_cases h3:a.Kind=⟨#[109,111,118,101]⟩
      ·
        refine R.q (q.gA rfl rfl h3) rfl<|R.u 1 rfl<|R.nil ?_
        refine R.aI rfl rfl ?_
        refine R.reg rfl<|R.q (q.bI 2 rfl rfl au) rfl<|R.q (q.aS (off':=2) rfl cJ rfl) rfl<|R.q (q.lE (ds:=[.int .i64 a.P.ag,.int .i64 a.P.Slot]) 1 rfl rfl aM rfl) rfl<|R.q (q.aS (off':=6) rfl fy rfl) rfl<|R.q (q.ld 1 rfl rfl aG rfl) rfl<|?_
        refine R.s (B':=(fun g_:Value×Value×Value×Value=>[ah.box b3 [.slice none 0 0,.slice none 0 0,.slice none 0 0,.slice none 0 0,.int .i64 0,.int .i64 0] 30,ah.box b2 [.string a.Kind,.string a.S,.int .i64 a.P.ag,.int .i64 a.P.Slot,.int .i64 a.Q.ag,.int .i64 a.Q.Slot,.int .i64 a.A,.int .i64 a.B,.int .i64 a.N,.int .u64 a.K,a.cv] 37,ah.box b1 [aD,az,aB,aA,.int .i64 r.ae,.int .i64 r.af] 30,ah.held w own])) (F':=(fun g_:Value×Value×Value×Value=>[ah.ls g_.1 ((((cj r a.P a.A)).1).ap:List ao),ah.ls g_.2.1 ((((cj r a.P a.A)).1).Things:List ai),ah.ls g_.2.2.1 ((((cj r a.P a.A)).1).Held:List Held),ah.ls g_.2.2.2 ((((cj r a.P a.A)).1).Notes:List Note),ah.ls aD (r.ap:List ao),ah.ls az (r.Things:List ai),ah.ls aB (r.Held:List Held),ah.ls aA (r.Notes:List Note)])) rfl (s.bE (B0:=[]) (Br:=[ah.box b3 [.slice none 0 0,.slice none 0 0,.slice none 0 0,.slice none 0 0,.int .i64 0,.int .i64 0] 30,ah.box b2 [.string a.Kind,.string a.S,.int .i64 a.P.ag,.int .i64 a.P.Slot,.int .i64 a.Q.ag,.int .i64 a.Q.Slot,.int .i64 a.A,.int .i64 a.B,.int .i64 a.N,.int .u64 a.K,a.cv] 37,ah.box b1 [aD,az,aB,aA,.int .i64 r.ae,.int .i64 r.af] 30,ah.held w own]) (F0:=[ah.ls aD (r.ap:List ao),ah.ls az (r.Things:List ai),ah.ls aB (r.Held:List Held),ah.ls aA (r.Notes:List Note)]) [0,1,2,3] [0,1,2,3] (fun g_:Value×Value×Value×Value => .tuple #[.agg #[g_.1,g_.2.1,g_.2.2.1,g_.2.2.2,.int .i64 ((((cj r a.P a.A)).1).ae),.int .i64 ((((cj r a.P a.A)).1).af)],ek (((cj r a.P a.A)).2)]) (fun g_:Value×Value×Value×Value=>[]) (fun g_:Value×Value×Value×Value=>[ah.ls g_.1 ((((cj r a.P a.A)).1).ap:List ao),ah.ls g_.2.1 ((((cj r a.P a.A)).1).Things:List ai),ah.ls g_.2.2.1 ((((cj r a.P a.A)).1).Held:List Held),ah.ls g_.2.2.2 ((((cj r a.P a.A)).1).Notes:List Note)]) rfl rfl rfl wS rfl rfl (fun w own hw H=>rQ aD az aB aA (r) (a.P) (a.A) w own H (by assumption)) rfl) ?_
        rintro ⟨z9,eY,ka,z12⟩
        dsimp only
        refine R.u 2 rfl<|?_
        refine R.s rfl (s.cS (us:=[z9,eY,ka,z12,.int .i64 (((cj r a.P a.A).1).ae),.int .i64 (((cj r a.P a.A).1).af)]) (cs':=[z9,eY,ka,z12,.int .i64 (((cj r a.P a.A).1).ae),.int .i64 (((cj r a.P a.A).1).af)]) 0 _ rfl rfl rfl (fun _ _=>rfl) (.inl au) (fun w hw=>(aj (Sl.one ((fun _=>Wd.aO 0 rfl) w hw)) (aj (Sl.one ((fun _=>Wd.aO 1 rfl) w hw)) (aj (Sl.one ((fun _=>Wd.aO 2 rfl) w hw)) (aj (Sl.one ((fun _=>Wd.aO 3 rfl) w hw)) (aj rfl (aj rfl aJ))))))) rfl rfl rfl) fun _=>?_
        refine R.u 1 rfl<|R.nil ?_
        have hz:dC r a=(((cj r a.P a.A).1),(cj r a.P a.A).2):=by (unfold dC;(repeat' split) <;> first|rfl|(exfalso;simp_all;done)|(simp_all;done))
        rw [hz]
        exact R.w2 (z9,eY,ka,z12) [3] [0,1,2,3] rfl Tryz.results19 (RV.cell 0 rfl rfl au) (RV.tmp rfl) rfl rfl rfl (cm rfl rfl)
      ·
        refine R.q (q.gB rfl rfl h3) rfl<|R.u 1 rfl<|R.nil ?_
        refine R.aH rfl rfl ?_
        refine R.reg rfl<|?_
        by_cases h4:a.Kind=⟨#[100,114,111,112]⟩
        ·
          refine R.q (q.gA rfl rfl h4) rfl<|R.u 1 rfl<|R.nil ?_
          refine R.aI rfl rfl ?_
          refine R.reg rfl<|R.q (q.bI 2 rfl rfl au) rfl<|R.q (q.aS (off':=2) rfl cJ rfl) rfl<|R.q (q.lE (ds:=[.int .i64 a.P.ag,.int .i64 a.P.Slot]) 1 rfl rfl aM rfl) rfl<|?_
          refine R.s (B':=(fun g_:Value×Value×Value×Value=>[ah.box b3 [.slice none 0 0,.slice none 0 0,.slice none 0 0,.slice none 0 0,.int .i64 0,.int .i64 0] 30,ah.box b2 [.string a.Kind,.string a.S,.int .i64 a.P.ag,.int .i64 a.P.Slot,.int .i64 a.Q.ag,.int .i64 a.Q.Slot,.int .i64 a.A,.int .i64 a.B,.int .i64 a.N,.int .u64 a.K,a.cv] 37,ah.box b1 [aD,az,aB,aA,.int .i64 r.ae,.int .i64 r.af] 30,ah.held w own])) (F':=(fun g_:Value×Value×Value×Value=>[ah.ls g_.1 ((((cq r a.P)).1).ap:List ao),ah.ls g_.2.1 ((((cq r a.P)).1).Things:List ai),ah.ls g_.2.2.1 ((((cq r a.P)).1).Held:List Held),ah.ls g_.2.2.2 ((((cq r a.P)).1).Notes:List Note),ah.ls aD (r.ap:List ao),ah.ls az (r.Things:List ai),ah.ls aB (r.Held:List Held),ah.ls aA (r.Notes:List Note)])) rfl (s.bE (B0:=[]) (Br:=[ah.box b3 [.slice none 0 0,.slice none 0 0,.slice none 0 0,.slice none 0 0,.int .i64 0,.int .i64 0] 30,ah.box b2 [.string a.Kind,.string a.S,.int .i64 a.P.ag,.int .i64 a.P.Slot,.int .i64 a.Q.ag,.int .i64 a.Q.Slot,.int .i64 a.A,.int .i64 a.B,.int .i64 a.N,.int .u64 a.K,a.cv] 37,ah.box b1 [aD,az,aB,aA,.int .i64 r.ae,.int .i64 r.af] 30,ah.held w own]) (F0:=[ah.ls aD (r.ap:List ao),ah.ls az (r.Things:List ai),ah.ls aB (r.Held:List Held),ah.ls aA (r.Notes:List Note)]) [0,1,2,3] [0,1,2,3] (fun g_:Value×Value×Value×Value => .tuple #[.agg #[g_.1,g_.2.1,g_.2.2.1,g_.2.2.2,.int .i64 ((((cq r a.P)).1).ae),.int .i64 ((((cq r a.P)).1).af)],ek (((cq r a.P)).2)]) (fun g_:Value×Value×Value×Value=>[]) (fun g_:Value×Value×Value×Value=>[ah.ls g_.1 ((((cq r a.P)).1).ap:List ao),ah.ls g_.2.1 ((((cq r a.P)).1).Things:List ai),ah.ls g_.2.2.1 ((((cq r a.P)).1).Held:List Held),ah.ls g_.2.2.2 ((((cq r a.P)).1).Notes:List Note)]) rfl rfl rfl wT rfl rfl (fun w own hw H=>rR aD az aB aA (r) (a.P) w own H (by assumption)) rfl) ?_
          rintro ⟨vA,vB,vC,vD⟩
          dsimp only
          refine R.u 2 rfl<|?_
          refine R.s rfl (s.cS (us:=[vA,vB,vC,vD,.int .i64 (((cq r a.P).1).ae),.int .i64 (((cq r a.P).1).af)]) (cs':=[vA,vB,vC,vD,.int .i64 (((cq r a.P).1).ae),.int .i64 (((cq r a.P).1).af)]) 0 _ rfl rfl rfl (fun _ _=>rfl) (.inl au) (fun w hw=>(aj (Sl.one ((fun _=>Wd.aO 0 rfl) w hw)) (aj (Sl.one ((fun _=>Wd.aO 1 rfl) w hw)) (aj (Sl.one ((fun _=>Wd.aO 2 rfl) w hw)) (aj (Sl.one ((fun _=>Wd.aO 3 rfl) w hw)) (aj rfl (aj rfl aJ))))))) rfl rfl rfl) fun _=>?_
          refine R.u 1 rfl<|R.nil ?_
          have hz:dC r a=(((cq r a.P).1),(cq r a.P).2):=by (unfold dC;(repeat' split) <;> first|rfl|(exfalso;simp_all;done)|(simp_all;done))
          rw [hz]
          exact R.w2 (vA,vB,vC,vD) [3] [0,1,2,3] rfl Tryz.results19 (RV.cell 0 rfl rfl au) (RV.tmp rfl) rfl rfl rfl (cm rfl rfl)
        ·
          refine R.q (q.gB rfl rfl h4) rfl<|R.u 1 rfl<|R.nil ?_
          refine R.aH rfl rfl ?_
          refine R.reg rfl<|?_
          by_cases h5:a.Kind=⟨#[114,101,118,111,107,101]⟩
          ·
            refine R.q (q.gA rfl rfl h5) rfl<|R.u 1 rfl<|R.nil ?_
            refine R.aI rfl rfl ?_
            refine R.reg rfl<|R.q (q.bI 2 rfl rfl au) rfl<|R.q (q.aS (off':=2) rfl cJ rfl) rfl<|R.q (q.lE (ds:=[.int .i64 a.P.ag,.int .i64 a.P.Slot]) 1 rfl rfl aM rfl) rfl<|?_
            refine R.s (B':=(fun g_:Value×Value×Value×Value=>[ah.box b3 [.slice none 0 0,.slice none 0 0,.slice none 0 0,.slice none 0 0,.int .i64 0,.int .i64 0] 30,ah.box b2 [.string a.Kind,.string a.S,.int .i64 a.P.ag,.int .i64 a.P.Slot,.int .i64 a.Q.ag,.int .i64 a.Q.Slot,.int .i64 a.A,.int .i64 a.B,.int .i64 a.N,.int .u64 a.K,a.cv] 37,ah.box b1 [aD,az,aB,aA,.int .i64 r.ae,.int .i64 r.af] 30,ah.held w own])) (F':=(fun g_:Value×Value×Value×Value=>[ah.ls g_.1 ((((bg r a.P)).1).ap:List ao),ah.ls g_.2.1 ((((bg r a.P)).1).Things:List ai),ah.ls g_.2.2.1 ((((bg r a.P)).1).Held:List Held),ah.ls g_.2.2.2 ((((bg r a.P)).1).Notes:List Note),ah.ls aD (r.ap:List ao),ah.ls az (r.Things:List ai),ah.ls aB (r.Held:List Held),ah.ls aA (r.Notes:List Note)])) rfl (s.bE (B0:=[]) (Br:=[ah.box b3 [.slice none 0 0,.slice none 0 0,.slice none 0 0,.slice none 0 0,.int .i64 0,.int .i64 0] 30,ah.box b2 [.string a.Kind,.string a.S,.int .i64 a.P.ag,.int .i64 a.P.Slot,.int .i64 a.Q.ag,.int .i64 a.Q.Slot,.int .i64 a.A,.int .i64 a.B,.int .i64 a.N,.int .u64 a.K,a.cv] 37,ah.box b1 [aD,az,aB,aA,.int .i64 r.ae,.int .i64 r.af] 30,ah.held w own]) (F0:=[ah.ls aD (r.ap:List ao),ah.ls az (r.Things:List ai),ah.ls aB (r.Held:List Held),ah.ls aA (r.Notes:List Note)]) [0,1,2,3] [0,1,2,3] (fun g_:Value×Value×Value×Value => .tuple #[.agg #[g_.1,g_.2.1,g_.2.2.1,g_.2.2.2,.int .i64 ((((bg r a.P)).1).ae),.int .i64 ((((bg r a.P)).1).af)],ek (((bg r a.P)).2)]) (fun g_:Value×Value×Value×Value=>[]) (fun g_:Value×Value×Value×Value=>[ah.ls g_.1 ((((bg r a.P)).1).ap:List ao),ah.ls g_.2.1 ((((bg r a.P)).1).Things:List ai),ah.ls g_.2.2.1 ((((bg r a.P)).1).Held:List Held),ah.ls g_.2.2.2 ((((bg r a.P)).1).Notes:List Note)]) rfl rfl rfl wU rfl rfl (fun w own hw H=>pg aD az aB aA (r) (a.P) w own H (by assumption)) rfl) ?_
            rintro ⟨z17,vE,vF,z20⟩
            dsimp only
            refine R.u 2 rfl<|?_
            refine R.s rfl (s.cS (us:=[z17,vE,vF,z20,.int .i64 (((bg r a.P).1).ae),.int .i64 (((bg r a.P).1).af)]) (cs':=[z17,vE,vF,z20,.int .i64 (((bg r a.P).1).ae),.int .i64 (((bg r a.P).1).af)]) 0 _ rfl rfl rfl (fun _ _=>rfl) (.inl au) (fun w hw=>(aj (Sl.one ((fun _=>Wd.aO 0 rfl) w hw)) (aj (Sl.one ((fun _=>Wd.aO 1 rfl) w hw)) (aj (Sl.one ((fun _=>Wd.aO 2 rfl) w hw)) (aj (Sl.one ((fun _=>Wd.aO 3 rfl) w hw)) (aj rfl (aj rfl aJ))))))) rfl rfl rfl) fun _=>?_
            refine R.u 1 rfl<|R.nil ?_
            have hz:dC r a=(((bg r a.P).1),(bg r a.P).2):=by (unfold dC;(repeat' split) <;> first|rfl|(exfalso;simp_all;done)|(simp_all;done))
            rw [hz]
            exact R.w2 (z17,vE,vF,z20) [3] [0,1,2,3] rfl Tryz.results19 (RV.cell 0 rfl rfl au) (RV.tmp rfl) rfl rfl rfl (cm rfl rfl)
          ·
            refine R.q (q.gB rfl rfl h5) rfl<|R.u 1 rfl<|R.nil ?_
            refine R.aH rfl rfl ?_
            refine R.reg rfl<|?_
            by_cases h6:a.Kind=⟨#[119,114,105,116,101]⟩
            ·
              refine R.q (q.gA rfl rfl h6) rfl<|R.u 1 rfl<|R.nil ?_
              refine R.aI rfl rfl ?_
              refine R.reg rfl<|R.q (q.bI 2 rfl rfl au) rfl<|R.q (q.aS (off':=2) rfl cJ rfl) rfl<|R.q (q.lE (ds:=[.int .i64 a.P.ag,.int .i64 a.P.Slot]) 1 rfl rfl aM rfl) rfl<|R.q (q.aS (off':=1) rfl iE rfl) rfl<|R.q (q.ld 1 rfl rfl fQ rfl) rfl<|?_
              refine R.s (B':=(fun g_:Value×Value×Value×Value=>[ah.box b3 [.slice none 0 0,.slice none 0 0,.slice none 0 0,.slice none 0 0,.int .i64 0,.int .i64 0] 30,ah.box b2 [.string a.Kind,.string a.S,.int .i64 a.P.ag,.int .i64 a.P.Slot,.int .i64 a.Q.ag,.int .i64 a.Q.Slot,.int .i64 a.A,.int .i64 a.B,.int .i64 a.N,.int .u64 a.K,a.cv] 37,ah.box b1 [aD,az,aB,aA,.int .i64 r.ae,.int .i64 r.af] 30,ah.held w own])) (F':=(fun g_:Value×Value×Value×Value=>[ah.ls g_.1 ((((bF r a.P a.S)).1).ap:List ao),ah.ls g_.2.1 ((((bF r a.P a.S)).1).Things:List ai),ah.ls g_.2.2.1 ((((bF r a.P a.S)).1).Held:List Held),ah.ls g_.2.2.2 ((((bF r a.P a.S)).1).Notes:List Note),ah.ls aD (r.ap:List ao),ah.ls az (r.Things:List ai),ah.ls aB (r.Held:List Held),ah.ls aA (r.Notes:List Note)])) rfl (s.bE (B0:=[]) (Br:=[ah.box b3 [.slice none 0 0,.slice none 0 0,.slice none 0 0,.slice none 0 0,.int .i64 0,.int .i64 0] 30,ah.box b2 [.string a.Kind,.string a.S,.int .i64 a.P.ag,.int .i64 a.P.Slot,.int .i64 a.Q.ag,.int .i64 a.Q.Slot,.int .i64 a.A,.int .i64 a.B,.int .i64 a.N,.int .u64 a.K,a.cv] 37,ah.box b1 [aD,az,aB,aA,.int .i64 r.ae,.int .i64 r.af] 30,ah.held w own]) (F0:=[ah.ls aD (r.ap:List ao),ah.ls az (r.Things:List ai),ah.ls aB (r.Held:List Held),ah.ls aA (r.Notes:List Note)]) [0,1,2,3] [0,1,2,3] (fun g_:Value×Value×Value×Value => .tuple #[.agg #[g_.1,g_.2.1,g_.2.2.1,g_.2.2.2,.int .i64 ((((bF r a.P a.S)).1).ae),.int .i64 ((((bF r a.P a.S)).1).af)],ek (((bF r a.P a.S)).2)]) (fun g_:Value×Value×Value×Value=>[]) (fun g_:Value×Value×Value×Value=>[ah.ls g_.1 ((((bF r a.P a.S)).1).ap:List ao),ah.ls g_.2.1 ((((bF r a.P a.S)).1).Things:List ai),ah.ls g_.2.2.1 ((((bF r a.P a.S)).1).Held:List Held),ah.ls g_.2.2.2 ((((bF r a.P a.S)).1).Notes:List Note)]) rfl rfl rfl wV rfl rfl (fun w own hw H=>p7 aD az aB aA (r) (a.P) (a.S) w own H (by assumption)) rfl) ?_
              rintro ⟨z21,z22,z23,z24⟩
              dsimp only
              refine R.u 2 rfl<|?_
              refine R.s rfl (s.cS (us:=[z21,z22,z23,z24,.int .i64 (((bF r a.P a.S).1).ae),.int .i64 (((bF r a.P a.S).1).af)]) (cs':=[z21,z22,z23,z24,.int .i64 (((bF r a.P a.S).1).ae),.int .i64 (((bF r a.P a.S).1).af)]) 0 _ rfl rfl rfl (fun _ _=>rfl) (.inl au) (fun w hw=>(aj (Sl.one ((fun _=>Wd.aO 0 rfl) w hw)) (aj (Sl.one ((fun _=>Wd.aO 1 rfl) w hw)) (aj (Sl.one ((fun _=>Wd.aO 2 rfl) w hw)) (aj (Sl.one ((fun _=>Wd.aO 3 rfl) w hw)) (aj rfl (aj rfl aJ))))))) rfl rfl rfl) fun _=>?_
              refine R.u 1 rfl<|R.nil ?_
              have hz:dC r a=(((bF r a.P a.S).1),(bF r a.P a.S).2):=by (unfold dC;(repeat' split) <;> first|rfl|(exfalso;simp_all;done)|(simp_all;done))
              rw [hz]
              exact R.w2 (z21,z22,z23,z24) [3] [0,1,2,3] rfl Tryz.results19 (RV.cell 0 rfl rfl au) (RV.tmp rfl) rfl rfl rfl (cm rfl rfl)
            ·
              refine R.q (q.gB rfl rfl h6) rfl<|R.u 1 rfl<|R.nil ?_
              refine R.aH rfl rfl ?_
              refine R.reg rfl<|?_
              by_cases h7:a.Kind=⟨#[115,101,110,100]⟩
              ·
                refine R.q (q.gA rfl rfl h7) rfl<|R.u 1 rfl<|R.nil ?_
                refine R.aI rfl rfl ?_
                refine R.reg rfl<|R.q (q.bI 2 rfl rfl au) rfl<|R.q (q.aS (off':=2) rfl cJ rfl) rfl<|R.q (q.lE (ds:=[.int .i64 a.P.ag,.int .i64 a.P.Slot]) 1 rfl rfl aM rfl) rfl<|R.q (q.aS (off':=1) rfl iE rfl) rfl<|R.q (q.ld 1 rfl rfl fQ rfl) rfl<|R.q (q.aS (off':=6) rfl fy rfl) rfl<|R.q (q.ld 1 rfl rfl aG rfl) rfl<|R.q (q.aS (off':=7) rfl jH rfl) rfl<|R.q (q.ld 1 rfl rfl aG rfl) rfl<|?_
                refine R.s (B':=(fun g_:Value×Value×Value×Value=>[ah.box b3 [.slice none 0 0,.slice none 0 0,.slice none 0 0,.slice none 0 0,.int .i64 0,.int .i64 0] 30,ah.box b2 [.string a.Kind,.string a.S,.int .i64 a.P.ag,.int .i64 a.P.Slot,.int .i64 a.Q.ag,.int .i64 a.Q.Slot,.int .i64 a.A,.int .i64 a.B,.int .i64 a.N,.int .u64 a.K,a.cv] 37,ah.box b1 [aD,az,aB,aA,.int .i64 r.ae,.int .i64 r.af] 30,ah.held w own])) (F':=(fun g_:Value×Value×Value×Value=>[ah.ls g_.1 ((((bq r a.P a.S a.A a.B)).1).ap:List ao),ah.ls g_.2.1 ((((bq r a.P a.S a.A a.B)).1).Things:List ai),ah.ls g_.2.2.1 ((((bq r a.P a.S a.A a.B)).1).Held:List Held),ah.ls g_.2.2.2 ((((bq r a.P a.S a.A a.B)).1).Notes:List Note),ah.ls aD (r.ap:List ao),ah.ls az (r.Things:List ai),ah.ls aB (r.Held:List Held),ah.ls aA (r.Notes:List Note)])) rfl (s.bE (B0:=[]) (Br:=[ah.box b3 [.slice none 0 0,.slice none 0 0,.slice none 0 0,.slice none 0 0,.int .i64 0,.int .i64 0] 30,ah.box b2 [.string a.Kind,.string a.S,.int .i64 a.P.ag,.int .i64 a.P.Slot,.int .i64 a.Q.ag,.int .i64 a.Q.Slot,.int .i64 a.A,.int .i64 a.B,.int .i64 a.N,.int .u64 a.K,a.cv] 37,ah.box b1 [aD,az,aB,aA,.int .i64 r.ae,.int .i64 r.af] 30,ah.held w own]) (F0:=[ah.ls aD (r.ap:List ao),ah.ls az (r.Things:List ai),ah.ls aB (r.Held:List Held),ah.ls aA (r.Notes:List Note)]) [0,1,2,3] [0,1,2,3] (fun g_:Value×Value×Value×Value => .tuple #[.agg #[g_.1,g_.2.1,g_.2.2.1,g_.2.2.2,.int .i64 ((((bq r a.P a.S a.A a.B)).1).ae),.int .i64 ((((bq r a.P a.S a.A a.B)).1).af)],ek (((bq r a.P a.S a.A a.B)).2)]) (fun g_:Value×Value×Value×Value=>[]) (fun g_:Value×Value×Value×Value=>[ah.ls g_.1 ((((bq r a.P a.S a.A a.B)).1).ap:List ao),ah.ls g_.2.1 ((((bq r a.P a.S a.A a.B)).1).Things:List ai),ah.ls g_.2.2.1 ((((bq r a.P a.S a.A a.B)).1).Held:List Held),ah.ls g_.2.2.2 ((((bq r a.P a.S a.A a.B)).1).Notes:List Note)]) rfl rfl rfl wW rfl rfl (fun w own hw H=>rU aD az aB aA (r) (a.P) (a.S) (a.A) (a.B) w own H (by assumption)) rfl) ?_
                rintro ⟨z25,z26,z27,z28⟩
                dsimp only
                refine R.u 2 rfl<|?_
                refine R.s rfl (s.cS (us:=[z25,z26,z27,z28,.int .i64 (((bq r a.P a.S a.A a.B).1).ae),.int .i64 (((bq r a.P a.S a.A a.B).1).af)]) (cs':=[z25,z26,z27,z28,.int .i64 (((bq r a.P a.S a.A a.B).1).ae),.int .i64 (((bq r a.P a.S a.A a.B).1).af)]) 0 _ rfl rfl rfl (fun _ _=>rfl) (.inl au) (fun w hw=>(aj (Sl.one ((fun _=>Wd.aO 0 rfl) w hw)) (aj (Sl.one ((fun _=>Wd.aO 1 rfl) w hw)) (aj (Sl.one ((fun _=>Wd.aO 2 rfl) w hw)) (aj (Sl.one ((fun _=>Wd.aO 3 rfl) w hw)) (aj rfl (aj rfl aJ))))))) rfl rfl rfl) fun _=>?_
                refine R.u 1 rfl<|R.nil ?_
                have hz:dC r a=(((bq r a.P a.S a.A a.B).1),(bq r a.P a.S a.A a.B).2):=by (unfold dC;(repeat' split) <;> first|rfl|(exfalso;simp_all;done)|(simp_all;done))
                rw [hz]
                exact R.w2 (z25,z26,z27,z28) [3] [0,1,2,3] rfl Tryz.results19 (RV.cell 0 rfl rfl au) (RV.tmp rfl) rfl rfl rfl (cm rfl rfl)
              ·
                refine R.q (q.gB rfl rfl h7) rfl<|R.u 1 rfl<|R.nil ?_
                refine R.aH rfl rfl ?_
                refine R.reg rfl<|?_
                by_cases h8:a.Kind=⟨#[116,97,107,101]⟩
                ·
                  refine R.q (q.gA rfl rfl h8) rfl<|R.u 1 rfl<|R.nil ?_
                  refine R.aI rfl rfl ?_
                  refine R.reg rfl<|R.q (q.bI 2 rfl rfl au) rfl<|R.q (q.aS (off':=2) rfl cJ rfl) rfl<|R.q (q.lE (ds:=[.int .i64 a.P.ag,.int .i64 a.P.Slot]) 1 rfl rfl aM rfl) rfl<|?_
                  refine R.s (B':=(fun g_:Value×Value×Value×Value=>[ah.box b3 [.slice none 0 0,.slice none 0 0,.slice none 0 0,.slice none 0 0,.int .i64 0,.int .i64 0] 30,ah.box b2 [.string a.Kind,.string a.S,.int .i64 a.P.ag,.int .i64 a.P.Slot,.int .i64 a.Q.ag,.int .i64 a.Q.Slot,.int .i64 a.A,.int .i64 a.B,.int .i64 a.N,.int .u64 a.K,a.cv] 37,ah.box b1 [aD,az,aB,aA,.int .i64 r.ae,.int .i64 r.af] 30,ah.held w own])) (F':=(fun g_:Value×Value×Value×Value=>[ah.ls g_.1 ((((aE r a.P)).1).ap:List ao),ah.ls g_.2.1 ((((aE r a.P)).1).Things:List ai),ah.ls g_.2.2.1 ((((aE r a.P)).1).Held:List Held),ah.ls g_.2.2.2 ((((aE r a.P)).1).Notes:List Note),ah.ls aD (r.ap:List ao),ah.ls az (r.Things:List ai),ah.ls aB (r.Held:List Held),ah.ls aA (r.Notes:List Note)])) rfl (s.bE (B0:=[]) (Br:=[ah.box b3 [.slice none 0 0,.slice none 0 0,.slice none 0 0,.slice none 0 0,.int .i64 0,.int .i64 0] 30,ah.box b2 [.string a.Kind,.string a.S,.int .i64 a.P.ag,.int .i64 a.P.Slot,.int .i64 a.Q.ag,.int .i64 a.Q.Slot,.int .i64 a.A,.int .i64 a.B,.int .i64 a.N,.int .u64 a.K,a.cv] 37,ah.box b1 [aD,az,aB,aA,.int .i64 r.ae,.int .i64 r.af] 30,ah.held w own]) (F0:=[ah.ls aD (r.ap:List ao),ah.ls az (r.Things:List ai),ah.ls aB (r.Held:List Held),ah.ls aA (r.Notes:List Note)]) [0,1,2,3] [0,1,2,3] (fun g_:Value×Value×Value×Value => .tuple #[.agg #[g_.1,g_.2.1,g_.2.2.1,g_.2.2.2,.int .i64 ((((aE r a.P)).1).ae),.int .i64 ((((aE r a.P)).1).af)],.agg #[.int .i64 ((((aE r a.P)).2.1).Port),.string ((((aE r a.P)).2.1).Data),.int .i64 ((((aE r a.P)).2.1).ar),.int .i64 ((((aE r a.P)).2.1).ao)],.int .i64 (((aE r a.P)).2.2.1),ek (((aE r a.P)).2.2.2)]) (fun g_:Value×Value×Value×Value=>[]) (fun g_:Value×Value×Value×Value=>[ah.ls g_.1 ((((aE r a.P)).1).ap:List ao),ah.ls g_.2.1 ((((aE r a.P)).1).Things:List ai),ah.ls g_.2.2.1 ((((aE r a.P)).1).Held:List Held),ah.ls g_.2.2.2 ((((aE r a.P)).1).Notes:List Note)]) rfl rfl rfl uI rfl rfl (fun w own hw H=>nH aD az aB aA (r) (a.P) w own H (by assumption)) rfl) ?_
                  rintro ⟨z29,z30,z31,z32⟩
                  dsimp only
                  refine R.u 5 rfl<|?_
                  refine R.s rfl (s.alloc (cs:=[.slice none 0 0,.slice none 0 0,.slice none 0 0,.slice none 0 0,.int .i64 0,.int .i64 0]) bR rfl rfl) fun b4=>?_
                  refine R.s rfl (s.alloc (cs:=[.int .i64 0,.string (⟨#[]⟩),.int .i64 0,.int .i64 0]) cr rfl rfl) fun b5=>?_
                  refine R.s rfl (s.cS (us:=[z29,z30,z31,z32,.int .i64 (((aE r a.P).1).ae),.int .i64 (((aE r a.P).1).af)]) (cs':=[z29,z30,z31,z32,.int .i64 (((aE r a.P).1).ae),.int .i64 (((aE r a.P).1).af)]) 1 _ rfl rfl rfl (fun _ _=>rfl) (.inl au) (fun w hw=>(aj (Sl.one ((fun _=>Wd.aO 0 rfl) w hw)) (aj (Sl.one ((fun _=>Wd.aO 1 rfl) w hw)) (aj (Sl.one ((fun _=>Wd.aO 2 rfl) w hw)) (aj (Sl.one ((fun _=>Wd.aO 3 rfl) w hw)) (aj rfl (aj rfl aJ))))))) rfl rfl rfl) fun _=>?_
                  refine R.s rfl (s.st (us:=[.int .i64 (((aE r a.P).2.1).Port),.string (((aE r a.P).2.1).Data),.int .i64 (((aE r a.P).2.1).ar),.int .i64 (((aE r a.P).2.1).ao)]) (cs':=[.int .i64 (((aE r a.P).2.1).Port),.string (((aE r a.P).2.1).Data),.int .i64 (((aE r a.P).2.1).ar),.int .i64 (((aE r a.P).2.1).ao)]) 0 _ rfl rfl rfl rfl (.inl aX) rfl rfl rfl rfl) fun _=>?_
                  refine R.u 2 rfl<|R.nil ?_
                  refine R.reg rfl<|R.q (q.bI 1 rfl rfl au) rfl<|R.u 1 rfl<|?_
                  refine R.s rfl (s.cS (us:=[z29,z30,z31,z32,.int .i64 (((aE r a.P).1).ae),.int .i64 (((aE r a.P).1).af)]) (cs':=[z29,z30,z31,z32,.int .i64 (((aE r a.P).1).ae),.int .i64 (((aE r a.P).1).af)]) 2 _ rfl rfl rfl (fun _ _=>rfl) (.inl au) (fun w hw=>(aj (Sl.one ((fun _=>Wd.aO 0 rfl) w hw)) (aj (Sl.one ((fun _=>Wd.aO 1 rfl) w hw)) (aj (Sl.one ((fun _=>Wd.aO 2 rfl) w hw)) (aj (Sl.one ((fun _=>Wd.aO 3 rfl) w hw)) (aj rfl (aj rfl aJ))))))) rfl rfl rfl) fun _=>?_
                  refine R.u 1 rfl<|R.nil ?_
                  have hz:dC r a=(((aE r a.P).1),(aE r a.P).2.2.2):=by (unfold dC;(repeat' split) <;> first|rfl|(exfalso;simp_all;done)|(simp_all;done))
                  rw [hz]
                  exact R.w2 (z29,z30,z31,z32) [5] [0,1,2,3] rfl Tryz.results19 (RV.cell 2 rfl rfl au) (RV.tmp rfl) rfl rfl rfl (cm rfl rfl)
                ·
                  refine R.q (q.gB rfl rfl h8) rfl<|R.u 1 rfl<|R.nil ?_
                  refine R.aH rfl rfl ?_
                  refine R.reg rfl<|R.q (q.bI 2 rfl rfl au) rfl<|?_
                  refine R.s rfl (s.cS (us:=[aD,az,aB,aA,.int .i64 r.ae,.int .i64 r.af]) (cs':=[aD,az,aB,aA,.int .i64 r.ae,.int .i64 r.af]) 0 _ rfl rfl rfl (fun _ _=>rfl) (.inl au) (fun w hw=>(aj (Sl.one ((fun _=>Wd.aO 0 rfl) w hw)) (aj (Sl.one ((fun _=>Wd.aO 1 rfl) w hw)) (aj (Sl.one ((fun _=>Wd.aO 2 rfl) w hw)) (aj (Sl.one ((fun _=>Wd.aO 3 rfl) w hw)) (aj rfl (aj rfl aJ))))))) rfl rfl rfl) fun _=>?_
                  refine R.u 1 rfl<|R.nil ?_
                  have hz:dC r a=(r,0):=by (unfold dC;(repeat' split) <;> first|rfl|(exfalso;simp_all;done)|(simp_all;done))
                  rw [hz]
                  exact R.w2 (aD,az,aB,aA) [3] [0,1,2,3] rfl Tryz.results19 (RV.cell 0 rfl rfl au) (RV.tmp rfl) rfl rfl rfl (cm rfl (gu rfl))
set_option maxRecDepth 100000 in
theorem gh (p9 qa qb qc:Value)(a:ay)(qd qe qf qh:Value)(b:ay)(w:World)(xQ:Sl w p9 a.ap)(qi:Sl w qa a.Things)(uo:Sl w qb a.Held)(qj:Sl w qc a.Notes)(xR:Sl w qd b.ap)(rY:Sl w qe b.Things)(uq:Sl w qf b.Held)(rZ:Sl w qh b.Notes):Calls Tryz.prog 15 #[.agg #[p9,qa,qb,qc,.int .i64 a.ae,.int .i64 a.af],.agg #[qd,qe,qf,qh,.int .i64 b.ae,.int .i64 b.af]] w fun e w'=>e = .returned (.bool (decide (a=b)))∧Ext w w':=by
  have ba:=qi.dI;have bb:=rY.dI;have bc:=qj.dI;have bd:=rZ.dI
  refine R.enter (n:=93) (vs:=[.agg #[p9,qa,qb,qc,.int .i64 a.ae,.int .i64 a.af],.agg #[qd,qe,qf,qh,.int .i64 b.ae,.int .i64 b.af]]) [] [(0,.agg #[p9,qa,qb,qc,.int .i64 a.ae,.int .i64 a.af]),(1,.agg #[qd,qe,qf,qh,.int .i64 b.ae,.int .i64 b.af])] Tryz.func15 rfl rfl rfl rfl ?_
  refine R.reg rfl<|?_
  refine R.s rfl (s.box (cs:=[p9,qa,qb,qc,.int .i64 a.ae,.int .i64 a.af]) rfl rfl rfl) fun b1=>?_
  refine R.s rfl (s.box (cs:=[qd,qe,qf,qh,.int .i64 b.ae,.int .i64 b.af]) rfl rfl rfl) fun b2=>?_
  refine R.u 1 rfl<|R.nil ?_
  refine R.reg rfl<|R.q (q.aS (off':=0) rfl a8 rfl) rfl<|R.q (q.ld 1 rfl rfl bN rfl) rfl<|R.q (q.aS (off':=0) rfl a8 rfl) rfl<|R.q (q.ld 0 rfl rfl bN rfl) rfl<|?_
  rcases Bool.eq_false_or_eq_true (decide (a.ap=b.ap)) with h1|h1
  ·
    refine R.c (q.call uR rfl rfl (fun w hw=>(cv (congrArg Value.bool h1) (j1 _ (a.ap) _ (b.ap) w ((fun _=>Wd.old xQ) w hw) ((fun _=>Wd.old xR) w hw) )))) rfl<|R.u 1 rfl<|R.nil ?_
    refine R.reg rfl<|R.q (q.aS (off':=2) rfl bf rfl) rfl<|R.q (q.ld 1 rfl rfl bQ rfl) rfl<|R.q (q.aS (off':=2) rfl bf rfl) rfl<|R.q (q.ld 0 rfl rfl bQ rfl) rfl<|?_
    rcases Bool.eq_false_or_eq_true (decide (a.Held=b.Held)) with h2|h2
    ·
      refine R.c (q.call qO rfl rfl (fun w hw=>(cv (congrArg Value.bool h2) (gF _ (a.Held) _ (b.Held) w ((fun _=>Wd.old uo) w hw) ((fun _=>Wd.old uq) w hw) )))) rfl<|R.u 1 rfl<|R.nil ?_
      refine R.reg rfl<|R.u 7 rfl<|R.qg rfl (q.aS (off':=4) rfl bU rfl) rfl<|R.qg rfl (q.ld 1 rfl rfl aG rfl) rfl<|R.qg rfl (q.aS (off':=4) rfl bU rfl) rfl<|R.qg rfl (q.ld 0 rfl rfl aG rfl) rfl<|?_
      by_cases h3:a.ae=b.ae
      ·
        refine R.qg rfl (q.neq rfl rfl (bne_eq_false_iff_eq.2 (by omega))) rfl<|R.u 2 rfl<|R.qg rfl (q.aS (off':=5) rfl cQ rfl) rfl<|R.qg rfl (q.ld 1 rfl rfl aG rfl) rfl<|R.qg rfl (q.aS (off':=5) rfl cQ rfl) rfl<|R.qg rfl (q.ld 0 rfl rfl aG rfl) rfl<|?_
        by_cases h4:a.af=b.af
        ·
          refine R.qg rfl (q.neq rfl rfl (bne_eq_false_iff_eq.2 (by omega))) rfl<|R.u 2 rfl<|R.qg rfl (q.aS (off':=1) rfl bm rfl) rfl<|R.qg rfl (q.ld 1 rfl rfl bT rfl) rfl<|R.qg rfl (q.len' (fun _=>Wd.old qi) rfl Tryz.underlying26) rfl<|R.qg rfl (q.aS (off':=1) rfl bm rfl) rfl<|R.qg rfl (q.ld 0 rfl rfl bT rfl) rfl<|R.qg rfl (q.len' (fun _=>Wd.old rY) rfl Tryz.underlying26) rfl<|?_
          by_cases h5:a.Things.length=b.Things.length
          ·
            refine R.qg rfl (q.neq rfl rfl (bne_eq_false_iff_eq.2 (by omega))) rfl<|R.u 2 rfl<|R.qg rfl (q.aS (off':=3) rfl aT rfl) rfl<|R.qg rfl (q.ld 1 rfl rfl a6 rfl) rfl<|R.qg rfl (q.len' (fun _=>Wd.old qj) rfl Tryz.underlying28) rfl<|R.qg rfl (q.aS (off':=3) rfl aT rfl) rfl<|R.qg rfl (q.ld 0 rfl rfl a6 rfl) rfl<|R.qg rfl (q.len' (fun _=>Wd.old rZ) rfl Tryz.underlying28) rfl<|?_
            by_cases h6:a.Notes.length=b.Notes.length
            ·
              refine R.qg rfl (q.neq rfl rfl (bne_eq_false_iff_eq.2 (by omega))) rfl<|R.u 1 rfl<|R.nil ?_
              refine R.aH rfl rfl ?_
              refine R.reg rfl<|R.u 1 rfl<|R.nil ?_
              refine R.loop (fun k:Nat=>[(2,.pointer (some ⟨b1,0,none⟩)),(3,.pointer (some ⟨b2,0,none⟩)),(7,.int .i64 (k:Int))]) (fun k:Nat=>[ah.box b2 [qd,qe,qf,qh,.int .i64 b.ae,.int .i64 b.af] 30,ah.box b1 [p9,qa,qb,qc,.int .i64 a.ae,.int .i64 a.af] 30]) (fun k:Nat=>[]) (fun k:Nat=>k≤a.Things.length ∧ ∀j,j<k→a.Things[j]? = b.Things[j]?) (fun k:Nat=>a.Things.length-k) 0 rfl (by exact ⟨by omega,fun j hj=>absurd hj (Nat.not_lt_zero _)⟩) ⟨rfl,rfl,rfl,trivial⟩ (fun _=>Wd.pick [0,1] [] rfl rfl rfl) ?_
              rintro k ⟨hk,HA⟩
              refine R.reg rfl<|R.u 1 rfl<|R.q (q.aS (off':=1) rfl bm rfl) rfl<|R.q (q.ld 1 rfl rfl bT rfl) rfl<|R.q (q.len' (fun _=>Wd.old qi) rfl Tryz.underlying26) rfl<|?_
              by_cases h7:k<a.Things.length
              ·
                refine R.q (q.lss rfl rfl (decide_eq_true (by omega))) rfl<|R.nil ?_
                refine R.aI rfl rfl ?_
                obtain ⟨x1,hx1⟩:∃z,a.Things[k]? = some z:=⟨_,List.getElem?_eq_getElem (by omega)⟩
                obtain ⟨x2,hx2⟩:∃z,b.Things[k]? = some z:=⟨_,List.getElem?_eq_getElem (by omega)⟩
                by_cases h8:x1=x2
                ·
                  refine R.gq rfl mixed (by kernel_rfl)<|Q.q (q.aS (off':=1) rfl bm rfl) rfl<|Q.q (q.ld 1 rfl rfl bT rfl) rfl<|Q.u 1 rfl<|Q.q (q.idx (i:=k) (fun _=>Wd.old qi) rfl rfl dJ rfl hx1) rfl<|Q.q (q.dx (ds:=[.int .i64 x1.ID,.int .i64 x1.Kind,.string x1.Data]) (fun _=>Wd.old qi) hx1 rfl fJ rfl) rfl<|Q.q (q.aS (off':=1) rfl bm rfl) rfl<|Q.q (q.ld 0 rfl rfl bT rfl) rfl<|Q.u 1 rfl<|Q.q (q.idx (i:=k) (fun _=>Wd.old rY) rfl rfl dJ rfl hx2) rfl<|Q.q (q.dx (ds:=[.int .i64 x2.ID,.int .i64 x2.Kind,.string x2.Data]) (fun _=>Wd.old rY) hx2 rfl fJ rfl) rfl<|Q.q (q.gC (x:=x1) (y:=x2) uW rfl rfl h8) rfl<|Q.nil ?_
                  refine R.aH rfl rfl ?_
                  refine R.reg rfl<|R.u 1 rfl<|R.q (q.add (r:=((k+1:Nat):Int)) rfl rfl (wr (by omega))) rfl<|R.u 1 rfl<|R.nil ?_
                  refine R.back (k+1) rfl (by (exact ⟨by omega,jK HA hx1 hx2 (by assumption)⟩)) (by omega) ⟨rfl,rfl,rfl,trivial⟩ (fun _=>Wd.pick [0,1] [] rfl rfl rfl)
                ·
                  refine R.gq rfl mixed (by kernel_rfl)<|Q.q (q.aS (off':=1) rfl bm rfl) rfl<|Q.q (q.ld 1 rfl rfl bT rfl) rfl<|Q.u 1 rfl<|Q.q (q.idx (i:=k) (fun _=>Wd.old qi) rfl rfl dJ rfl hx1) rfl<|Q.q (q.dx (ds:=[.int .i64 x1.ID,.int .i64 x1.Kind,.string x1.Data]) (fun _=>Wd.old qi) hx1 rfl fJ rfl) rfl<|Q.q (q.aS (off':=1) rfl bm rfl) rfl<|Q.q (q.ld 0 rfl rfl bT rfl) rfl<|Q.u 1 rfl<|Q.q (q.idx (i:=k) (fun _=>Wd.old rY) rfl rfl dJ rfl hx2) rfl<|Q.q (q.dx (ds:=[.int .i64 x2.ID,.int .i64 x2.Kind,.string x2.Data]) (fun _=>Wd.old rY) hx2 rfl fJ rfl) rfl<|Q.q (q.gZ (x:=x1) (y:=x2) uW rfl rfl h8) rfl<|Q.nil ?_
                  refine R.aI rfl rfl ?_
                  refine R.reg rfl<|R.u 1 rfl<|R.nil ?_
                  exact R.rv rfl Tryz.results15 rfl (rB (by (exact (decide_eq_false (fun e=>by subst e;have hq:=hx1.symm.trans hx2;injection hq;contradiction)).symm)))
              ·
                refine R.q (q.lss rfl rfl (decide_eq_false (by omega))) rfl<|R.nil ?_
                refine R.aH rfl rfl ?_
                refine R.reg rfl<|R.u 1 rfl<|R.nil ?_
                refine R.loop (fun k:Nat=>[(2,.pointer (some ⟨b1,0,none⟩)),(3,.pointer (some ⟨b2,0,none⟩)),(8,.int .i64 (k:Int))]) (fun k:Nat=>[ah.box b2 [qd,qe,qf,qh,.int .i64 b.ae,.int .i64 b.af] 30,ah.box b1 [p9,qa,qb,qc,.int .i64 a.ae,.int .i64 a.af] 30]) (fun k:Nat=>[]) (fun k:Nat=>k≤a.Notes.length ∧ ∀j,j<k→a.Notes[j]? = b.Notes[j]?) (fun k:Nat=>a.Notes.length-k) 0 rfl (by exact ⟨by omega,fun j hj=>absurd hj (Nat.not_lt_zero _)⟩) ⟨rfl,rfl,rfl,trivial⟩ (fun _=>Wd.pick [0,1] [] rfl rfl rfl) ?_
                rintro k ⟨hk2,HA2⟩
                refine R.reg rfl<|R.u 1 rfl<|R.q (q.aS (off':=3) rfl aT rfl) rfl<|R.q (q.ld 1 rfl rfl a6 rfl) rfl<|R.q (q.len' (fun _=>Wd.old qj) rfl Tryz.underlying28) rfl<|?_
                by_cases h9:k<a.Notes.length
                ·
                  refine R.q (q.lss rfl rfl (decide_eq_true (by omega))) rfl<|R.nil ?_
                  refine R.aI rfl rfl ?_
                  obtain ⟨x3,hx3⟩:∃z,a.Notes[k]? = some z:=⟨_,List.getElem?_eq_getElem (by omega)⟩
                  obtain ⟨x4,hx4⟩:∃z,b.Notes[k]? = some z:=⟨_,List.getElem?_eq_getElem (by omega)⟩
                  by_cases h10:x3=x4
                  ·
                    refine R.gq rfl mixed (by kernel_rfl)<|Q.q (q.aS (off':=3) rfl aT rfl) rfl<|Q.q (q.ld 1 rfl rfl a6 rfl) rfl<|Q.u 1 rfl<|Q.q (q.idx (i:=k) (fun _=>Wd.old qj) rfl rfl cB rfl hx3) rfl<|Q.q (q.dx (ds:=[.int .i64 x3.Port,.string x3.Data,.int .i64 x3.ar,.int .i64 x3.ao]) (fun _=>Wd.old qj) hx3 rfl aX rfl) rfl<|Q.q (q.aS (off':=3) rfl aT rfl) rfl<|Q.q (q.ld 0 rfl rfl a6 rfl) rfl<|Q.u 1 rfl<|Q.q (q.idx (i:=k) (fun _=>Wd.old rZ) rfl rfl cB rfl hx4) rfl<|Q.q (q.dx (ds:=[.int .i64 x4.Port,.string x4.Data,.int .i64 x4.ar,.int .i64 x4.ao]) (fun _=>Wd.old rZ) hx4 rfl aX rfl) rfl<|Q.q (q.gC (x:=x3) (y:=x4) tu rfl rfl h10) rfl<|Q.nil ?_
                    refine R.aH rfl rfl ?_
                    refine R.reg rfl<|R.u 1 rfl<|R.q (q.add (r:=((k+1:Nat):Int)) rfl rfl (wr (by omega))) rfl<|R.u 1 rfl<|R.nil ?_
                    refine R.back (k+1) rfl (by (exact ⟨by omega,jK HA2 hx3 hx4 (by assumption)⟩)) (by omega) ⟨rfl,rfl,rfl,trivial⟩ (fun _=>Wd.pick [0,1] [] rfl rfl rfl)
                  ·
                    refine R.gq rfl mixed (by kernel_rfl)<|Q.q (q.aS (off':=3) rfl aT rfl) rfl<|Q.q (q.ld 1 rfl rfl a6 rfl) rfl<|Q.u 1 rfl<|Q.q (q.idx (i:=k) (fun _=>Wd.old qj) rfl rfl cB rfl hx3) rfl<|Q.q (q.dx (ds:=[.int .i64 x3.Port,.string x3.Data,.int .i64 x3.ar,.int .i64 x3.ao]) (fun _=>Wd.old qj) hx3 rfl aX rfl) rfl<|Q.q (q.aS (off':=3) rfl aT rfl) rfl<|Q.q (q.ld 0 rfl rfl a6 rfl) rfl<|Q.u 1 rfl<|Q.q (q.idx (i:=k) (fun _=>Wd.old rZ) rfl rfl cB rfl hx4) rfl<|Q.q (q.dx (ds:=[.int .i64 x4.Port,.string x4.Data,.int .i64 x4.ar,.int .i64 x4.ao]) (fun _=>Wd.old rZ) hx4 rfl aX rfl) rfl<|Q.q (q.gZ (x:=x3) (y:=x4) tu rfl rfl h10) rfl<|Q.nil ?_
                    refine R.aI rfl rfl ?_
                    refine R.reg rfl<|R.u 1 rfl<|R.nil ?_
                    exact R.rv rfl Tryz.results15 rfl (rB (by (exact (decide_eq_false (fun e=>by subst e;have hq:=hx3.symm.trans hx4;injection hq;contradiction)).symm)))
                ·
                  refine R.q (q.lss rfl rfl (decide_eq_false (by omega))) rfl<|R.nil ?_
                  refine R.aH rfl rfl ?_
                  refine R.reg rfl<|R.u 1 rfl<|R.nil ?_
                  exact R.rv rfl Tryz.results15 rfl (rB (by (refine (decide_eq_true ?_).symm;have eT:=gi (a:=a.Things) (b:=b.Things) (by omega) (by assumption) HA;have eN:=gi (a:=a.Notes) (b:=b.Notes) (by omega) (by assumption) HA2;cases a;cases b;simp_all)))
            ·
              refine R.qg rfl (q.neq rfl rfl (bne_iff_ne.2 (by omega))) rfl<|R.u 1 rfl<|R.nil ?_
              refine R.aI rfl rfl ?_
              refine R.reg rfl<|R.u 1 rfl<|R.nil ?_
              exact R.rv rfl Tryz.results15 rfl (rB (by (exact (decide_eq_false (fun e=>by subst e;first|omega|(simp_all;done))).symm)))
          ·
            refine R.qg rfl (q.neq rfl rfl (bne_iff_ne.2 (by omega))) rfl<|R.u 10 rfl<|R.nil ?_
            refine R.aI rfl rfl ?_
            refine R.reg rfl<|R.u 1 rfl<|R.nil ?_
            exact R.rv rfl Tryz.results15 rfl (rB (by (exact (decide_eq_false (fun e=>by subst e;first|omega|(simp_all;done))).symm)))
        ·
          refine R.qg rfl (q.neq rfl rfl (bne_iff_ne.2 (by omega))) rfl<|R.u 19 rfl<|R.nil ?_
          refine R.aI rfl rfl ?_
          refine R.reg rfl<|R.u 1 rfl<|R.nil ?_
          exact R.rv rfl Tryz.results15 rfl (rB (by (exact (decide_eq_false (fun e=>by subst e;first|omega|(simp_all;done))).symm)))
      ·
        refine R.qg rfl (q.neq rfl rfl (bne_iff_ne.2 (by omega))) rfl<|R.u 26 rfl<|R.nil ?_
        refine R.aI rfl rfl ?_
        refine R.reg rfl<|R.u 1 rfl<|R.nil ?_
        exact R.rv rfl Tryz.results15 rfl (rB (by (exact (decide_eq_false (fun e=>by subst e;first|omega|(simp_all;done))).symm)))
    ·
      refine R.c (q.call qO rfl rfl (fun w hw=>(cv (congrArg Value.bool h2) (gF _ (a.Held) _ (b.Held) w ((fun _=>Wd.old uo) w hw) ((fun _=>Wd.old uq) w hw) )))) rfl<|R.u 1 rfl<|R.nil ?_
      refine R.reg rfl<|R.u 38 rfl<|R.nil ?_
      refine R.aI rfl rfl ?_
      refine R.reg rfl<|R.u 1 rfl<|R.nil ?_
      exact R.rv rfl Tryz.results15 rfl (rB (by (exact (decide_eq_false (fun e=>by subst e;first|omega|(simp_all;done))).symm)))
  ·
    refine R.c (q.call uR rfl rfl (fun w hw=>(cv (congrArg Value.bool h1) (j1 _ (a.ap) _ (b.ap) w ((fun _=>Wd.old xQ) w hw) ((fun _=>Wd.old xR) w hw) )))) rfl<|R.u 1 rfl<|R.nil ?_
    refine R.reg rfl<|R.q (q.aS (off':=2) rfl bf rfl) rfl<|R.q (q.ld 1 rfl rfl bQ rfl) rfl<|R.q (q.aS (off':=2) rfl bf rfl) rfl<|R.q (q.ld 0 rfl rfl bQ rfl) rfl<|?_
    rcases Bool.eq_false_or_eq_true (decide (a.Held=b.Held)) with h11|h11
    ·
      refine R.c (q.call qO rfl rfl (fun w hw=>(cv (congrArg Value.bool h11) (gF _ (a.Held) _ (b.Held) w ((fun _=>Wd.old uo) w hw) ((fun _=>Wd.old uq) w hw) )))) rfl<|R.u 1 rfl<|R.nil ?_
      refine R.reg rfl<|R.u 38 rfl<|R.nil ?_
      refine R.aI rfl rfl ?_
      refine R.reg rfl<|R.u 1 rfl<|R.nil ?_
      exact R.rv rfl Tryz.results15 rfl (rB (by (exact (decide_eq_false (fun e=>by subst e;first|omega|(simp_all;done))).symm)))
    ·
      refine R.c (q.call qO rfl rfl (fun w hw=>(cv (congrArg Value.bool h11) (gF _ (a.Held) _ (b.Held) w ((fun _=>Wd.old uo) w hw) ((fun _=>Wd.old uq) w hw) )))) rfl<|R.u 1 rfl<|R.nil ?_
      refine R.reg rfl<|R.u 38 rfl<|R.nil ?_
      refine R.aI rfl rfl ?_
      refine R.reg rfl<|R.u 1 rfl<|R.nil ?_
      exact R.rv rfl Tryz.results15 rfl (rB (by (exact (decide_eq_false (fun e=>by subst e;first|omega|(simp_all;done))).symm)))
theorem vG:(aU (⟨[],[],[],[],1,1⟩:ay) (⟨1,0⟩:Place) 1).2=0:=rfl
theorem vH:aU (⟨[],[],[],[],1,1⟩:ay) (⟨1,0⟩:Place) 1=(⟨[⟨1,1,7,0,0⟩],[⟨1,1,⟨#[]⟩⟩],[⟨⟨1,0⟩,1⟩],[],2,2⟩,0):=by
  have e:bO [] ⟨1,0⟩ 1=[⟨⟨1,0⟩,1⟩]:=by rw [put_eq List.Pairwise.nil];decide
  have a:gI [] ⟨1,0⟩=0:=by rw [at_eq List.Pairwise.nil];decide
  unfold aU cY aW
  rw [if_pos (.inl rfl),if_pos (by rw [a];rfl),if_neg (by decide)]
  simp [e]
theorem qk:ak ((aU (⟨[],[],[],[],1,1⟩:ay) (⟨1,0⟩:Place) 1).1) (⟨1,0⟩:Place)=(⟨1,1,7,0,0⟩,0):=by
  have a:gI [⟨⟨1,0⟩,1⟩] ⟨1,0⟩=1:=by rw [at_eq (List.pairwise_singleton _ _)];decide
  rw [vH];unfold ak;rw [if_pos (by decide)];dsimp only;rw [a];rfl
section
attribute [local irreducible] aU ak
theorem vI:Ok (⟨[],[],[],[],1,1⟩:ay):=Sz.new.ok (by decide)
theorem vJ:Ok (aU (⟨[],[],[],[],1,1⟩:ay) (⟨1,0⟩:Place) 1).1:=(ra Sz.new _ _).ok (by decide)
end
end Go.Proofs.YtpipachmngdegaaGreat
end
