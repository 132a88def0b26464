import Derived.Test.YtbkfhjaibhnkmaaGreatDoorTRP27
import Derived.Test.YtbkfhjaibhnkmaaGreatDoorTRP28
import Derived.Test.YtbkfhjaibhnkmaaGreatDoorTRP14
import Derived.Test.YtbkfhjaibhnkmaaGreatDoorTRP29
namespace Go.Proofs.YtbkfhjaibhnkmaaGreatDoor
open Go Go.RowKit
set_option linter.unusedVariables false
set_option linter.unusedSimpArgs false
set_option maxRecDepth 100000
theorem nD (bf:Value)(l:List Change)(most:Int)(w:World)(dx:Sl w bf l):Calls Tryz.prog 8 #[bf,.int .i64 most] w fun e w'=>e = .returned (.bool (kB l most))∧Ext w w':=by
  have pC:=dx.dQ
  refine R.enter (n:=32) (vs:=[bf,.int .i64 most]) [] [(0,bf),(1,.int .i64 most)] Tryz.func8 rfl rfl rfl rfl ?_
  refine R.ym dx ?_
  refine R.reg rfl<|R.u 1 rfl<|R.nil ?_
  refine R.reg rfl<|R.u 1 rfl<|R.q (q.len' (fun _=>Wd.aS 0 rfl) rfl Tryz.underlying23) rfl<|R.u 1 rfl<|?_
  by_cases h1:most<(l.length:Int)
  ·
    refine R.q (q.gtr rfl rfl (decide_eq_true (by omega))) rfl<|R.nil ?_
    refine R.aE rfl rfl ?_
    refine R.reg rfl<|R.u 1 rfl<|R.nil ?_
    exact R.rv rfl Tryz.results8 rfl (rB (by (unfold kB;first|(rw [decide_eq_false (by omega)];rfl)|(rw [decide_eq_true (by omega),jL (by omega) HA];rfl)|(rw [ez hx1 (show dK _=false from by unfold dK;simp;omega)];simp)|(rw [ez hx1 (show dK _=false from by unfold dK;simp_all)];simp))))
  ·
    refine R.q (q.gtr rfl rfl (decide_eq_false (by omega))) rfl<|R.nil ?_
    refine R.aH rfl rfl ?_
    refine R.reg rfl<|R.u 1 rfl<|R.nil ?_
    refine R.loop (fun k:Nat=>[(0,bf),(5,.int .i64 (k:Int))]) (fun k:Nat=>[]) (fun k:Nat=>[ah.ls bf (l:List Change)]) (fun k:Nat=>k≤l.length∧(l.take k).all dK=true) (fun k:Nat=>l.length-k) 0 rfl (by exact ⟨by omega,rfl⟩) ⟨rfl,rfl,trivial⟩ (fun _=>Wd.pick [] [0] rfl rfl rfl) ?_
    rintro k ⟨hk,HA⟩
    refine R.reg rfl<|R.u 2 rfl<|R.q (q.len' (fun _=>Wd.aS 0 rfl) rfl Tryz.underlying23) rfl<|?_
    by_cases h2:k<l.length
    ·
      refine R.q (q.lss rfl rfl (decide_eq_true (by omega))) rfl<|R.nil ?_
      refine R.aE rfl rfl ?_
      refine R.reg rfl<|R.u 2 rfl<|?_
      obtain ⟨x1,hx1⟩:∃z,l[k]? = some z:=⟨_,List.getElem?_eq_getElem (by omega)⟩
      refine R.q (q.idx (i:=k) (fun _=>Wd.aS 0 rfl) rfl rfl gL rfl hx1) rfl<|R.q (q.iO (j':=0) (fun _=>Wd.aS 0 rfl) hx1 rfl cM rfl) rfl<|R.q (q.hZ (fun _=>Wd.aS 0 rfl) hx1 rfl cd rfl) rfl<|R.q (q.kr rfl Tryz.underlying9) rfl<|?_
      by_cases h3:20<x1.Key.size
      ·
        refine R.q (q.gtr rfl rfl (decide_eq_true (by omega))) rfl<|R.u 9 rfl<|R.nil ?_
        refine R.aE rfl rfl ?_
        refine R.reg rfl<|R.u 1 rfl<|R.nil ?_
        exact R.rv rfl Tryz.results8 rfl (rB (by (unfold kB;first|(rw [decide_eq_false (by omega)];rfl)|(rw [decide_eq_true (by omega),jL (by omega) HA];rfl)|(rw [ez hx1 (show dK _=false from by unfold dK;simp;omega)];simp)|(rw [ez hx1 (show dK _=false from by unfold dK;simp_all)];simp))))
      ·
        refine R.q (q.gtr rfl rfl (decide_eq_false (by omega))) rfl<|R.u 3 rfl<|R.qg rfl (q.idx (i:=k) (fun _=>Wd.aS 0 rfl) rfl rfl gL rfl hx1) rfl<|R.qg rfl (q.iO (j':=1) (fun _=>Wd.aS 0 rfl) hx1 rfl d9 rfl) rfl<|R.qg rfl (q.hZ (fun _=>Wd.aS 0 rfl) hx1 rfl cd rfl) rfl<|R.qg rfl (q.kr rfl Tryz.underlying9) rfl<|?_
        by_cases h4:40<x1.Val.size
        ·
          refine R.qg rfl (q.gtr rfl rfl (decide_eq_true (by omega))) rfl<|R.u 1 rfl<|R.nil ?_
          refine R.aE rfl rfl ?_
          refine R.reg rfl<|R.u 1 rfl<|R.nil ?_
          exact R.rv rfl Tryz.results8 rfl (rB (by (unfold kB;first|(rw [decide_eq_false (by omega)];rfl)|(rw [decide_eq_true (by omega),jL (by omega) HA];rfl)|(rw [ez hx1 (show dK _=false from by unfold dK;simp;omega)];simp)|(rw [ez hx1 (show dK _=false from by unfold dK;simp_all)];simp))))
        ·
          refine R.qg rfl (q.gtr rfl rfl (decide_eq_false (by omega))) rfl<|R.u 1 rfl<|R.nil ?_
          refine R.aH rfl rfl ?_
          refine R.reg rfl<|R.u 1 rfl<|R.q (q.add (r:=((k+1:Nat):Int)) rfl rfl (wr (by omega))) rfl<|R.u 1 rfl<|R.nil ?_
          refine R.back (k+1) rfl (by (exact ⟨by omega,p9 hx1 HA (by unfold dK;simp_all)⟩)) (by omega) ⟨rfl,rfl,trivial⟩ (fun _=>Wd.aK [] [0] rfl rfl rfl)
    ·
      refine R.q (q.lss rfl rfl (decide_eq_false (by omega))) rfl<|R.nil ?_
      refine R.aH rfl rfl ?_
      refine R.reg rfl<|R.u 1 rfl<|R.nil ?_
      exact R.rv rfl Tryz.results8 rfl (rB (by (unfold kB;first|(rw [decide_eq_false (by omega)];rfl)|(rw [decide_eq_true (by omega),jL (by omega) HA];rfl)|(rw [ez hx1 (show dK _=false from by unfold dK;simp;omega)];simp)|(rw [ez hx1 (show dK _=false from by unfold dK;simp_all)];simp))))
theorem nE (bf:Value)(l:List df)(most:Int)(w:World)(dx:Sl w bf l)(uS:∀x∈l,Sl w x.cv x.Changes):Calls Tryz.prog 7 #[bf,.int .i64 most] w fun e w'=>e = .returned (.bool (gU l most))∧Ext w w':=by
  have pC:=dx.dQ
  refine R.enter (n:=32) (vs:=[bf,.int .i64 most]) [] [(0,bf),(1,.int .i64 most)] Tryz.func7 rfl rfl rfl rfl ?_
  refine R.ym dx ?_
  refine R.m0 (r:=ah.acts l) uS (sf uS) ?_
  refine R.reg rfl<|R.u 1 rfl<|R.nil ?_
  refine R.reg rfl<|R.u 1 rfl<|R.q (q.len' (fun _=>Wd.aS 1 rfl) rfl Tryz.underlying22) rfl<|R.u 1 rfl<|?_
  by_cases h1:most<(l.length:Int)
  ·
    refine R.q (q.gtr rfl rfl (decide_eq_true (by omega))) rfl<|R.nil ?_
    refine R.aE rfl rfl ?_
    refine R.reg rfl<|R.u 1 rfl<|R.nil ?_
    exact R.rv rfl Tryz.results7 rfl (rB (by (unfold gU;first|(rw [decide_eq_false (by omega)];rfl)|(rw [decide_eq_true (by omega),jL (by omega) HA];rfl)|(rw [ez hx1 (show dL _=false from by unfold dL;simp;omega)];simp)|(rw [ez hx1 (show dL _=false from by unfold dL;simp_all)];simp))))
  ·
    refine R.q (q.gtr rfl rfl (decide_eq_false (by omega))) rfl<|R.nil ?_
    refine R.aH rfl rfl ?_
    refine R.reg rfl<|R.u 1 rfl<|R.nil ?_
    refine R.loop (fun k:Nat=>[(0,bf),(5,.int .i64 (k:Int))]) (fun k:Nat=>[]) (fun k:Nat=>[ah.acts l,ah.ls bf (l:List df)]) (fun k:Nat=>k≤l.length∧(l.take k).all dL=true) (fun k:Nat=>l.length-k) 0 rfl (by exact ⟨by omega,rfl⟩) ⟨rfl,rfl,trivial⟩ (fun _=>Wd.pick [] [0,1] rfl rfl rfl) ?_
    rintro k ⟨hk,HA⟩
    refine R.reg rfl<|R.u 2 rfl<|R.q (q.len' (fun _=>Wd.aS 1 rfl) rfl Tryz.underlying22) rfl<|?_
    by_cases h2:k<l.length
    ·
      refine R.q (q.lss rfl rfl (decide_eq_true (by omega))) rfl<|R.nil ?_
      refine R.aE rfl rfl ?_
      refine R.reg rfl<|R.u 2 rfl<|?_
      obtain ⟨x1,hx1⟩:∃z,l[k]? = some z:=⟨_,List.getElem?_eq_getElem (by omega)⟩
      refine R.q (q.idx (i:=k) (fun _=>Wd.aS 1 rfl) rfl rfl qL rfl hx1) rfl<|R.q (q.iO (j':=1) (fun _=>Wd.aS 1 rfl) hx1 rfl lC rfl) rfl<|R.q (q.hZ (fun _=>Wd.aS 1 rfl) hx1 rfl cd rfl) rfl<|R.q (q.kr rfl Tryz.underlying9) rfl<|?_
      by_cases h3:100<x1.S.size
      ·
        refine R.q (q.gtr rfl rfl (decide_eq_true (by omega))) rfl<|R.u 9 rfl<|R.nil ?_
        refine R.aE rfl rfl ?_
        refine R.reg rfl<|R.u 1 rfl<|R.nil ?_
        exact R.rv rfl Tryz.results7 rfl (rB (by (unfold gU;first|(rw [decide_eq_false (by omega)];rfl)|(rw [decide_eq_true (by omega),jL (by omega) HA];rfl)|(rw [ez hx1 (show dL _=false from by unfold dL;simp;omega)];simp)|(rw [ez hx1 (show dL _=false from by unfold dL;simp_all)];simp))))
      ·
        refine R.q (q.gtr rfl rfl (decide_eq_false (by omega))) rfl<|R.u 3 rfl<|R.qg rfl (q.idx (i:=k) (fun _=>Wd.aS 1 rfl) rfl rfl qL rfl hx1) rfl<|R.qg rfl (q.iO (j':=10) (fun _=>Wd.aS 1 rfl) hx1 rfl tg rfl) rfl<|R.qg rfl (q.hZ (fun _=>Wd.aS 1 rfl) hx1 rfl wG rfl) rfl<|?_
        rcases Bool.eq_false_or_eq_true (kB x1.Changes 70) with h4|h4
        ·
          refine R.cg rfl (q.call zW rfl rfl (fun w hw=>(cv (congrArg Value.bool h4) (nD _ (x1.Changes) (70) w ((fun _=>Wd.zU (l:=l) 0 rfl (List.mem_of_getElem? hx1)) w hw) )))) rfl<|R.u 2 rfl<|R.nil ?_
          refine R.aH rfl rfl ?_
          refine R.reg rfl<|R.u 1 rfl<|R.q (q.add (r:=((k+1:Nat):Int)) rfl rfl (wr (by omega))) rfl<|R.u 1 rfl<|R.nil ?_
          refine R.back (k+1) rfl (by (exact ⟨by omega,p9 hx1 HA (by unfold dL;simp_all)⟩)) (by omega) ⟨rfl,rfl,trivial⟩ (fun _=>Wd.aK [] [0,1] rfl rfl rfl)
        ·
          refine R.cg rfl (q.call zW rfl rfl (fun w hw=>(cv (congrArg Value.bool h4) (nD _ (x1.Changes) (70) w ((fun _=>Wd.zU (l:=l) 0 rfl (List.mem_of_getElem? hx1)) w hw) )))) rfl<|R.u 2 rfl<|R.nil ?_
          refine R.aE rfl rfl ?_
          refine R.reg rfl<|R.u 1 rfl<|R.nil ?_
          exact R.rv rfl Tryz.results7 rfl (rB (by (unfold gU;first|(rw [decide_eq_false (by omega)];rfl)|(rw [decide_eq_true (by omega),jL (by omega) HA];rfl)|(rw [ez hx1 (show dL _=false from by unfold dL;simp;omega)];simp)|(rw [ez hx1 (show dL _=false from by unfold dL;simp_all)];simp))))
    ·
      refine R.q (q.lss rfl rfl (decide_eq_false (by omega))) rfl<|R.nil ?_
      refine R.aH rfl rfl ?_
      refine R.reg rfl<|R.u 1 rfl<|R.nil ?_
      exact R.rv rfl Tryz.results7 rfl (rB (by (unfold gU;first|(rw [decide_eq_false (by omega)];rfl)|(rw [decide_eq_true (by omega),jL (by omega) HA];rfl)|(rw [ez hx1 (show dL _=false from by unfold dL;simp;omega)];simp)|(rw [ez hx1 (show dL _=false from by unfold dL;simp_all)];simp))))
set_option maxRecDepth 100000 in
set_option maxHeartbeats 2000000 in
theorem sK (aD az aC aB:Value)(r:au)(a:df)(w:World)(own:List Nat)(H:Wd w (blks []++own) ([]++[ah.held w own]) [ah.ls aD (r.aj:List ak),ah.ls az (r.Things:List ai),ah.ls aC (r.Held:List Held),ah.ls aB (r.Notes:List Note)] w)(hk:Ok r):Calls Tryz.prog 11 #[.agg #[aD,az,aC,aB,.int .i64 r.ae,.int .i64 r.af],.agg #[.string a.Kind,.string a.S,.int .i64 a.P.ag,.int .i64 a.P.Slot,.int .i64 a.Q.ag,.int .i64 a.Q.Slot,.int .i64 a.A,.int .i64 a.B,.int .i64 a.N,.int .u64 a.K,a.cv]] w fun e w' => ∃z:Value×Value×Value×Value,e = .returned (.tuple #[.agg #[z.1,z.2.1,z.2.2.1,z.2.2.2,.int .i64 ((((eM r a)).1).ae),.int .i64 ((((eM r a)).1).af)],eG (((eM r a)).2)])∧Wd w (blks []++own) ([]++[ah.held w own]) [ah.ls z.1 ((((eM r a)).1).aj:List ak),ah.ls z.2.1 ((((eM r a)).1).Things:List ai),ah.ls z.2.2.1 ((((eM r a)).1).Held:List Held),ah.ls z.2.2.2 ((((eM r a)).1).Notes:List Note)] w':=by
  have dF:=H.cL 0 rfl
  have cX:=H.cL 1 rfl
  have ej:=H.cL 2 rfl
  have dG:=H.cL 3 rfl
  refine R.cQ (n:=100) (vs:=[.agg #[aD,az,aC,aB,.int .i64 r.ae,.int .i64 r.af],.agg #[.string a.Kind,.string a.S,.int .i64 a.P.ag,.int .i64 a.P.Slot,.int .i64 a.Q.ag,.int .i64 a.Q.Slot,.int .i64 a.A,.int .i64 a.B,.int .i64 a.N,.int .u64 a.K,a.cv]]) (B:=[ah.held w own]) [(0,.agg #[aD,az,aC,aB,.int .i64 r.ae,.int .i64 r.af]),(1,.agg #[.string a.Kind,.string a.S,.int .i64 a.P.ag,.int .i64 a.P.Slot,.int .i64 a.Q.ag,.int .i64 a.Q.Slot,.int .i64 a.A,.int .i64 a.B,.int .i64 a.N,.int .u64 a.K,a.cv])] Tryz.func11 rfl rfl rfl rfl H ?_
  refine R.reg rfl<|?_
  refine R.s rfl (s.box (cs:=[aD,az,aC,aB,.int .i64 r.ae,.int .i64 r.af]) rfl rfl rfl) fun b1=>?_
  refine R.s rfl (s.box (cs:=[.string a.Kind,.string a.S,.int .i64 a.P.ag,.int .i64 a.P.Slot,.int .i64 a.Q.ag,.int .i64 a.Q.Slot,.int .i64 a.A,.int .i64 a.B,.int .i64 a.N,.int .u64 a.K,a.cv]) rfl rfl rfl) fun b2=>?_
  refine R.s rfl (s.alloc (cs:=[.slice none 0 0,.slice none 0 0,.slice none 0 0,.slice none 0 0,.int .i64 0,.int .i64 0]) cj rfl rfl) fun b3=>?_
  refine R.u 1 rfl<|R.nil ?_
  refine R.reg rfl<|R.q (q.aX (off':=0) rfl td rfl) rfl<|R.q (q.ld 1 rfl rfl cd rfl) rfl<|R.nil ?_
  refine R.reg rfl<|?_
  by_cases h1:a.Kind=⟨#[109,97,107,101]⟩
  ·
    refine R.q (q.kR rfl rfl h1) rfl<|R.u 1 rfl<|R.nil ?_
    refine R.aE rfl rfl ?_
    refine R.reg rfl<|R.q (q.cF 2 rfl rfl av) rfl<|R.q (q.aX (off':=2) rfl fx rfl) rfl<|R.q (q.wh (ds:=[.int .i64 a.P.ag,.int .i64 a.P.Slot]) 1 rfl rfl bk rfl) rfl<|R.q (q.aX (off':=6) rfl jO rfl) rfl<|R.q (q.ld 1 rfl rfl aA rfl) rfl<|?_
    refine R.s (B':=(fun g_:Value×Value×Value×Value=>[ah.box b3 [.slice none 0 0,.slice none 0 0,.slice none 0 0,.slice none 0 0,.int .i64 0,.int .i64 0] 32,ah.box b2 [.string a.Kind,.string a.S,.int .i64 a.P.ag,.int .i64 a.P.Slot,.int .i64 a.Q.ag,.int .i64 a.Q.Slot,.int .i64 a.A,.int .i64 a.B,.int .i64 a.N,.int .u64 a.K,a.cv] 42,ah.box b1 [aD,az,aC,aB,.int .i64 r.ae,.int .i64 r.af] 32,ah.held w own])) (F':=(fun g_:Value×Value×Value×Value=>[ah.ls g_.1 ((((bg r a.P a.A)).1).aj:List ak),ah.ls g_.2.1 ((((bg r a.P a.A)).1).Things:List ai),ah.ls g_.2.2.1 ((((bg r a.P a.A)).1).Held:List Held),ah.ls g_.2.2.2 ((((bg r a.P a.A)).1).Notes:List Note),ah.ls aD (r.aj:List ak),ah.ls az (r.Things:List ai),ah.ls aC (r.Held:List Held),ah.ls aB (r.Notes:List Note)])) rfl (s.bA (B0:=[]) (Br:=[ah.box b3 [.slice none 0 0,.slice none 0 0,.slice none 0 0,.slice none 0 0,.int .i64 0,.int .i64 0] 32,ah.box b2 [.string a.Kind,.string a.S,.int .i64 a.P.ag,.int .i64 a.P.Slot,.int .i64 a.Q.ag,.int .i64 a.Q.Slot,.int .i64 a.A,.int .i64 a.B,.int .i64 a.N,.int .u64 a.K,a.cv] 42,ah.box b1 [aD,az,aC,aB,.int .i64 r.ae,.int .i64 r.af] 32,ah.held w own]) (F0:=[ah.ls aD (r.aj:List ak),ah.ls az (r.Things:List ai),ah.ls aC (r.Held:List Held),ah.ls aB (r.Notes:List Note)]) [0,1,2,3] [0,1,2,3] (fun g_:Value×Value×Value×Value => .tuple #[.agg #[g_.1,g_.2.1,g_.2.2.1,g_.2.2.2,.int .i64 ((((bg r a.P a.A)).1).ae),.int .i64 ((((bg r a.P a.A)).1).af)],eG (((bg r a.P a.A)).2)]) (fun g_:Value×Value×Value×Value=>[]) (fun g_:Value×Value×Value×Value=>[ah.ls g_.1 ((((bg r a.P a.A)).1).aj:List ak),ah.ls g_.2.1 ((((bg r a.P a.A)).1).Things:List ai),ah.ls g_.2.2.1 ((((bg r a.P a.A)).1).Held:List Held),ah.ls g_.2.2.2 ((((bg r a.P a.A)).1).Notes:List Note)]) rfl rfl rfl xM rfl rfl (fun w own hw H=>oG aD az aC aB (r) (a.P) (a.A) w own H (by assumption)) rfl) ?_
    rintro ⟨z1,z2,z3,z4⟩
    dsimp only
    refine R.u 2 rfl<|?_
    refine R.s rfl (s.eH (us:=[z1,z2,z3,z4,.int .i64 (((bg r a.P a.A).1).ae),.int .i64 (((bg r a.P a.A).1).af)]) (cs':=[z1,z2,z3,z4,.int .i64 (((bg r a.P a.A).1).ae),.int .i64 (((bg r a.P a.A).1).af)]) 0 _ rfl rfl rfl (fun _ _=>rfl) (.inl av) (fun w hw=>(ao (Sl.one ((fun _=>Wd.aS 0 rfl) w hw)) (ao (Sl.one ((fun _=>Wd.aS 1 rfl) w hw)) (ao (Sl.one ((fun _=>Wd.aS 2 rfl) w hw)) (ao (Sl.one ((fun _=>Wd.aS 3 rfl) w hw)) (ao rfl (ao rfl aO))))))) rfl rfl rfl) fun _=>?_
    refine R.u 1 rfl<|R.nil ?_
    have hz:eM r a=(((bg r a.P a.A).1),(bg r a.P a.A).2):=by (unfold eM;(repeat' split) <;> first|rfl|(exfalso;simp_all;done)|(simp_all;done))
    rw [hz]
    exact R.w2 (z1,z2,z3,z4) [3] [0,1,2,3] rfl Tryz.results11 (RV.cell 0 rfl rfl av) (RV.tmp rfl) rfl rfl rfl (cx rfl rfl)
  ·
    refine R.q (q.kS rfl rfl h1) rfl<|R.u 1 rfl<|R.nil ?_
    refine R.aH rfl rfl ?_
    refine R.reg rfl<|?_
    by_cases h2:a.Kind=⟨#[103,105,118,101]⟩
    ·
      refine R.q (q.kR rfl rfl h2) rfl<|R.u 1 rfl<|R.nil ?_
      refine R.aE rfl rfl ?_
      refine R.reg rfl<|R.q (q.cF 2 rfl rfl av) rfl<|R.q (q.aX (off':=2) rfl fx rfl) rfl<|R.q (q.wh (ds:=[.int .i64 a.P.ag,.int .i64 a.P.Slot]) 1 rfl rfl bk rfl) rfl<|R.q (q.aX (off':=4) rfl tf rfl) rfl<|R.q (q.wh (ds:=[.int .i64 a.Q.ag,.int .i64 a.Q.Slot]) 1 rfl rfl bk rfl) rfl<|R.q (q.aX (off':=6) rfl jO rfl) rfl<|R.q (q.ld 1 rfl rfl aA rfl) rfl<|R.q (q.aX (off':=7) rfl ot rfl) rfl<|R.q (q.ld 1 rfl rfl aA rfl) rfl<|?_
      refine R.s (B':=(fun g_:Value×Value×Value×Value=>[ah.box b3 [.slice none 0 0,.slice none 0 0,.slice none 0 0,.slice none 0 0,.int .i64 0,.int .i64 0] 32,ah.box b2 [.string a.Kind,.string a.S,.int .i64 a.P.ag,.int .i64 a.P.Slot,.int .i64 a.Q.ag,.int .i64 a.Q.Slot,.int .i64 a.A,.int .i64 a.B,.int .i64 a.N,.int .u64 a.K,a.cv] 42,ah.box b1 [aD,az,aC,aB,.int .i64 r.ae,.int .i64 r.af] 32,ah.held w own])) (F':=(fun g_:Value×Value×Value×Value=>[ah.ls g_.1 ((((bV r a.P a.Q a.A a.B)).1).aj:List ak),ah.ls g_.2.1 ((((bV r a.P a.Q a.A a.B)).1).Things:List ai),ah.ls g_.2.2.1 ((((bV r a.P a.Q a.A a.B)).1).Held:List Held),ah.ls g_.2.2.2 ((((bV r a.P a.Q a.A a.B)).1).Notes:List Note),ah.ls aD (r.aj:List ak),ah.ls az (r.Things:List ai),ah.ls aC (r.Held:List Held),ah.ls aB (r.Notes:List Note)])) rfl (s.bA (B0:=[]) (Br:=[ah.box b3 [.slice none 0 0,.slice none 0 0,.slice none 0 0,.slice none 0 0,.int .i64 0,.int .i64 0] 32,ah.box b2 [.string a.Kind,.string a.S,.int .i64 a.P.ag,.int .i64 a.P.Slot,.int .i64 a.Q.ag,.int .i64 a.Q.Slot,.int .i64 a.A,.int .i64 a.B,.int .i64 a.N,.int .u64 a.K,a.cv] 42,ah.box b1 [aD,az,aC,aB,.int .i64 r.ae,.int .i64 r.af] 32,ah.held w own]) (F0:=[ah.ls aD (r.aj:List ak),ah.ls az (r.Things:List ai),ah.ls aC (r.Held:List Held),ah.ls aB (r.Notes:List Note)]) [0,1,2,3] [0,1,2,3] (fun g_:Value×Value×Value×Value => .tuple #[.agg #[g_.1,g_.2.1,g_.2.2.1,g_.2.2.2,.int .i64 ((((bV r a.P a.Q a.A a.B)).1).ae),.int .i64 ((((bV r a.P a.Q a.A a.B)).1).af)],eG (((bV r a.P a.Q a.A a.B)).2)]) (fun g_:Value×Value×Value×Value=>[]) (fun g_:Value×Value×Value×Value=>[ah.ls g_.1 ((((bV r a.P a.Q a.A a.B)).1).aj:List ak),ah.ls g_.2.1 ((((bV r a.P a.Q a.A a.B)).1).Things:List ai),ah.ls g_.2.2.1 ((((bV r a.P a.Q a.A a.B)).1).Held:List Held),ah.ls g_.2.2.2 ((((bV r a.P a.Q a.A a.B)).1).Notes:List Note)]) rfl rfl rfl Ad rfl rfl (fun w own hw H=>tD aD az aC aB (r) (a.P) (a.Q) (a.A) (a.B) w own H (by assumption)) rfl) ?_
      rintro ⟨z5,z6,z7,z8⟩
      dsimp only
      refine R.u 2 rfl<|?_
      refine R.s rfl (s.eH (us:=[z5,z6,z7,z8,.int .i64 (((bV r a.P a.Q a.A a.B).1).ae),.int .i64 (((bV r a.P a.Q a.A a.B).1).af)]) (cs':=[z5,z6,z7,z8,.int .i64 (((bV r a.P a.Q a.A a.B).1).ae),.int .i64 (((bV r a.P a.Q a.A a.B).1).af)]) 0 _ rfl rfl rfl (fun _ _=>rfl) (.inl av) (fun w hw=>(ao (Sl.one ((fun _=>Wd.aS 0 rfl) w hw)) (ao (Sl.one ((fun _=>Wd.aS 1 rfl) w hw)) (ao (Sl.one ((fun _=>Wd.aS 2 rfl) w hw)) (ao (Sl.one ((fun _=>Wd.aS 3 rfl) w hw)) (ao rfl (ao rfl aO))))))) rfl rfl rfl) fun _=>?_
      refine R.u 1 rfl<|R.nil ?_
      have hz:eM r a=(((bV r a.P a.Q a.A a.B).1),(bV r a.P a.Q a.A a.B).2):=by (unfold eM;(repeat' split) <;> first|rfl|(exfalso;simp_all;done)|(simp_all;done))
      rw [hz]
      exact R.w2 (z5,z6,z7,z8) [3] [0,1,2,3] rfl Tryz.results11 (RV.cell 0 rfl rfl av) (RV.tmp rfl) rfl rfl rfl (cx rfl rfl)
    ·
      refine R.q (q.kS rfl rfl h2) rfl<|R.u 1 rfl<|R.nil ?_
      refine R.aH rfl rfl ?_
      refine R.reg rfl<|?_
      by_cases h3:a.Kind=⟨#[109,111,118,101]⟩
      ·
        refine R.q (q.kR rfl rfl h3) rfl<|R.u 1 rfl<|R.nil ?_
        refine R.aE rfl rfl ?_
        refine R.reg rfl<|R.q (q.cF 2 rfl rfl av) rfl<|R.q (q.aX (off':=2) rfl fx rfl) rfl<|R.q (q.wh (ds:=[.int .i64 a.P.ag,.int .i64 a.P.Slot]) 1 rfl rfl bk rfl) rfl<|R.q (q.aX (off':=6) rfl jO rfl) rfl<|R.q (q.ld 1 rfl rfl aA rfl) rfl<|?_
        refine R.s (B':=(fun g_:Value×Value×Value×Value=>[ah.box b3 [.slice none 0 0,.slice none 0 0,.slice none 0 0,.slice none 0 0,.int .i64 0,.int .i64 0] 32,ah.box b2 [.string a.Kind,.string a.S,.int .i64 a.P.ag,.int .i64 a.P.Slot,.int .i64 a.Q.ag,.int .i64 a.Q.Slot,.int .i64 a.A,.int .i64 a.B,.int .i64 a.N,.int .u64 a.K,a.cv] 42,ah.box b1 [aD,az,aC,aB,.int .i64 r.ae,.int .i64 r.af] 32,ah.held w own])) (F':=(fun g_:Value×Value×Value×Value=>[ah.ls g_.1 ((((di r a.P a.A)).1).aj:List ak),ah.ls g_.2.1 ((((di r a.P a.A)).1).Things:List ai),ah.ls g_.2.2.1 ((((di r a.P a.A)).1).Held:List Held),ah.ls g_.2.2.2 ((((di r a.P a.A)).1).Notes:List Note),ah.ls aD (r.aj:List ak),ah.ls az (r.Things:List ai),ah.ls aC (r.Held:List Held),ah.ls aB (r.Notes:List Note)])) rfl (s.bA (B0:=[]) (Br:=[ah.box b3 [.slice none 0 0,.slice none 0 0,.slice none 0 0,.slice none 0 0,.int .i64 0,.int .i64 0] 32,ah.box b2 [.string a.Kind,.string a.S,.int .i64 a.P.ag,.int .i64 a.P.Slot,.int .i64 a.Q.ag,.int .i64 a.Q.Slot,.int .i64 a.A,.int .i64 a.B,.int .i64 a.N,.int .u64 a.K,a.cv] 42,ah.box b1 [aD,az,aC,aB,.int .i64 r.ae,.int .i64 r.af] 32,ah.held w own]) (F0:=[ah.ls aD (r.aj:List ak),ah.ls az (r.Things:List ai),ah.ls aC (r.Held:List Held),ah.ls aB (r.Notes:List Note)]) [0,1,2,3] [0,1,2,3] (fun g_:Value×Value×Value×Value => .tuple #[.agg #[g_.1,g_.2.1,g_.2.2.1,g_.2.2.2,.int .i64 ((((di r a.P a.A)).1).ae),.int .i64 ((((di r a.P a.A)).1).af)],eG (((di r a.P a.A)).2)]) (fun g_:Value×Value×Value×Value=>[]) (fun g_:Value×Value×Value×Value=>[ah.ls g_.1 ((((di r a.P a.A)).1).aj:List ak),ah.ls g_.2.1 ((((di r a.P a.A)).1).Things:List ai),ah.ls g_.2.2.1 ((((di r a.P a.A)).1).Held:List Held),ah.ls g_.2.2.2 ((((di r a.P a.A)).1).Notes:List Note)]) rfl rfl rfl Ae rfl rfl (fun w own hw H=>tE aD az aC aB (r) (a.P) (a.A) w own H (by assumption)) rfl) ?_
        rintro ⟨z9,qH,ui,z12⟩
        dsimp only
        refine R.u 2 rfl<|?_
        refine R.s rfl (s.eH (us:=[z9,qH,ui,z12,.int .i64 (((di r a.P a.A).1).ae),.int .i64 (((di r a.P a.A).1).af)]) (cs':=[z9,qH,ui,z12,.int .i64 (((di r a.P a.A).1).ae),.int .i64 (((di r a.P a.A).1).af)]) 0 _ rfl rfl rfl (fun _ _=>rfl) (.inl av) (fun w hw=>(ao (Sl.one ((fun _=>Wd.aS 0 rfl) w hw)) (ao (Sl.one ((fun _=>Wd.aS 1 rfl) w hw)) (ao (Sl.one ((fun _=>Wd.aS 2 rfl) w hw)) (ao (Sl.one ((fun _=>Wd.aS 3 rfl) w hw)) (ao rfl (ao rfl aO))))))) rfl rfl rfl) fun _=>?_
        refine R.u 1 rfl<|R.nil ?_
        have hz:eM r a=(((di r a.P a.A).1),(di r a.P a.A).2):=by (unfold eM;(repeat' split) <;> first|rfl|(exfalso;simp_all;done)|(simp_all;done))
        rw [hz]
        exact R.w2 (z9,qH,ui,z12) [3] [0,1,2,3] rfl Tryz.results11 (RV.cell 0 rfl rfl av) (RV.tmp rfl) rfl rfl rfl (cx rfl rfl)
      ·
        refine R.q (q.kS rfl rfl h3) rfl<|R.u 1 rfl<|R.nil ?_
        refine R.aH rfl rfl ?_
        refine R.reg rfl<|?_
        by_cases h4:a.Kind=⟨#[100,114,111,112]⟩
        ·
          refine R.q (q.kR rfl rfl h4) rfl<|R.u 1 rfl<|R.nil ?_
          refine R.aE rfl rfl ?_
          refine R.reg rfl<|R.q (q.cF 2 rfl rfl av) rfl<|R.q (q.aX (off':=2) rfl fx rfl) rfl<|R.q (q.wh (ds:=[.int .i64 a.P.ag,.int .i64 a.P.Slot]) 1 rfl rfl bk rfl) rfl<|?_
          refine R.s (B':=(fun g_:Value×Value×Value×Value=>[ah.box b3 [.slice none 0 0,.slice none 0 0,.slice none 0 0,.slice none 0 0,.int .i64 0,.int .i64 0] 32,ah.box b2 [.string a.Kind,.string a.S,.int .i64 a.P.ag,.int .i64 a.P.Slot,.int .i64 a.Q.ag,.int .i64 a.Q.Slot,.int .i64 a.A,.int .i64 a.B,.int .i64 a.N,.int .u64 a.K,a.cv] 42,ah.box b1 [aD,az,aC,aB,.int .i64 r.ae,.int .i64 r.af] 32,ah.held w own])) (F':=(fun g_:Value×Value×Value×Value=>[ah.ls g_.1 ((((dy r a.P)).1).aj:List ak),ah.ls g_.2.1 ((((dy r a.P)).1).Things:List ai),ah.ls g_.2.2.1 ((((dy r a.P)).1).Held:List Held),ah.ls g_.2.2.2 ((((dy r a.P)).1).Notes:List Note),ah.ls aD (r.aj:List ak),ah.ls az (r.Things:List ai),ah.ls aC (r.Held:List Held),ah.ls aB (r.Notes:List Note)])) rfl (s.bA (B0:=[]) (Br:=[ah.box b3 [.slice none 0 0,.slice none 0 0,.slice none 0 0,.slice none 0 0,.int .i64 0,.int .i64 0] 32,ah.box b2 [.string a.Kind,.string a.S,.int .i64 a.P.ag,.int .i64 a.P.Slot,.int .i64 a.Q.ag,.int .i64 a.Q.Slot,.int .i64 a.A,.int .i64 a.B,.int .i64 a.N,.int .u64 a.K,a.cv] 42,ah.box b1 [aD,az,aC,aB,.int .i64 r.ae,.int .i64 r.af] 32,ah.held w own]) (F0:=[ah.ls aD (r.aj:List ak),ah.ls az (r.Things:List ai),ah.ls aC (r.Held:List Held),ah.ls aB (r.Notes:List Note)]) [0,1,2,3] [0,1,2,3] (fun g_:Value×Value×Value×Value => .tuple #[.agg #[g_.1,g_.2.1,g_.2.2.1,g_.2.2.2,.int .i64 ((((dy r a.P)).1).ae),.int .i64 ((((dy r a.P)).1).af)],eG (((dy r a.P)).2)]) (fun g_:Value×Value×Value×Value=>[]) (fun g_:Value×Value×Value×Value=>[ah.ls g_.1 ((((dy r a.P)).1).aj:List ak),ah.ls g_.2.1 ((((dy r a.P)).1).Things:List ai),ah.ls g_.2.2.1 ((((dy r a.P)).1).Held:List Held),ah.ls g_.2.2.2 ((((dy r a.P)).1).Notes:List Note)]) rfl rfl rfl Af rfl rfl (fun w own hw H=>tF aD az aC aB (r) (a.P) w own H (by assumption)) rfl) ?_
          rintro ⟨w9,xa,vv,vx⟩
          dsimp only
          refine R.u 2 rfl<|?_
          refine R.s rfl (s.eH (us:=[w9,xa,vv,vx,.int .i64 (((dy r a.P).1).ae),.int .i64 (((dy r a.P).1).af)]) (cs':=[w9,xa,vv,vx,.int .i64 (((dy r a.P).1).ae),.int .i64 (((dy r a.P).1).af)]) 0 _ rfl rfl rfl (fun _ _=>rfl) (.inl av) (fun w hw=>(ao (Sl.one ((fun _=>Wd.aS 0 rfl) w hw)) (ao (Sl.one ((fun _=>Wd.aS 1 rfl) w hw)) (ao (Sl.one ((fun _=>Wd.aS 2 rfl) w hw)) (ao (Sl.one ((fun _=>Wd.aS 3 rfl) w hw)) (ao rfl (ao rfl aO))))))) rfl rfl rfl) fun _=>?_
          refine R.u 1 rfl<|R.nil ?_
          have hz:eM r a=(((dy r a.P).1),(dy r a.P).2):=by (unfold eM;(repeat' split) <;> first|rfl|(exfalso;simp_all;done)|(simp_all;done))
          rw [hz]
          exact R.w2 (w9,xa,vv,vx) [3] [0,1,2,3] rfl Tryz.results11 (RV.cell 0 rfl rfl av) (RV.tmp rfl) rfl rfl rfl (cx rfl rfl)
        ·
          refine R.q (q.kS rfl rfl h4) rfl<|R.u 1 rfl<|R.nil ?_
          refine R.aH rfl rfl ?_
          refine R.reg rfl<|?_
          by_cases h5:a.Kind=⟨#[114,101,118,111,107,101]⟩
          ·
            refine R.q (q.kR rfl rfl h5) rfl<|R.u 1 rfl<|R.nil ?_
            refine R.aE rfl rfl ?_
            refine R.reg rfl<|R.q (q.cF 2 rfl rfl av) rfl<|R.q (q.aX (off':=2) rfl fx rfl) rfl<|R.q (q.wh (ds:=[.int .i64 a.P.ag,.int .i64 a.P.Slot]) 1 rfl rfl bk rfl) rfl<|?_
            refine R.s (B':=(fun g_:Value×Value×Value×Value=>[ah.box b3 [.slice none 0 0,.slice none 0 0,.slice none 0 0,.slice none 0 0,.int .i64 0,.int .i64 0] 32,ah.box b2 [.string a.Kind,.string a.S,.int .i64 a.P.ag,.int .i64 a.P.Slot,.int .i64 a.Q.ag,.int .i64 a.Q.Slot,.int .i64 a.A,.int .i64 a.B,.int .i64 a.N,.int .u64 a.K,a.cv] 42,ah.box b1 [aD,az,aC,aB,.int .i64 r.ae,.int .i64 r.af] 32,ah.held w own])) (F':=(fun g_:Value×Value×Value×Value=>[ah.ls g_.1 ((((bN r a.P)).1).aj:List ak),ah.ls g_.2.1 ((((bN r a.P)).1).Things:List ai),ah.ls g_.2.2.1 ((((bN r a.P)).1).Held:List Held),ah.ls g_.2.2.2 ((((bN r a.P)).1).Notes:List Note),ah.ls aD (r.aj:List ak),ah.ls az (r.Things:List ai),ah.ls aC (r.Held:List Held),ah.ls aB (r.Notes:List Note)])) rfl (s.bA (B0:=[]) (Br:=[ah.box b3 [.slice none 0 0,.slice none 0 0,.slice none 0 0,.slice none 0 0,.int .i64 0,.int .i64 0] 32,ah.box b2 [.string a.Kind,.string a.S,.int .i64 a.P.ag,.int .i64 a.P.Slot,.int .i64 a.Q.ag,.int .i64 a.Q.Slot,.int .i64 a.A,.int .i64 a.B,.int .i64 a.N,.int .u64 a.K,a.cv] 42,ah.box b1 [aD,az,aC,aB,.int .i64 r.ae,.int .i64 r.af] 32,ah.held w own]) (F0:=[ah.ls aD (r.aj:List ak),ah.ls az (r.Things:List ai),ah.ls aC (r.Held:List Held),ah.ls aB (r.Notes:List Note)]) [0,1,2,3] [0,1,2,3] (fun g_:Value×Value×Value×Value => .tuple #[.agg #[g_.1,g_.2.1,g_.2.2.1,g_.2.2.2,.int .i64 ((((bN r a.P)).1).ae),.int .i64 ((((bN r a.P)).1).af)],eG (((bN r a.P)).2)]) (fun g_:Value×Value×Value×Value=>[]) (fun g_:Value×Value×Value×Value=>[ah.ls g_.1 ((((bN r a.P)).1).aj:List ak),ah.ls g_.2.1 ((((bN r a.P)).1).Things:List ai),ah.ls g_.2.2.1 ((((bN r a.P)).1).Held:List Held),ah.ls g_.2.2.2 ((((bN r a.P)).1).Notes:List Note)]) rfl rfl rfl Ag rfl rfl (fun w own hw H=>p8 aD az aC aB (r) (a.P) w own H (by assumption)) rfl) ?_
            rintro ⟨z17,yR,zw,z20⟩
            dsimp only
            refine R.u 2 rfl<|?_
            refine R.s rfl (s.eH (us:=[z17,yR,zw,z20,.int .i64 (((bN r a.P).1).ae),.int .i64 (((bN r a.P).1).af)]) (cs':=[z17,yR,zw,z20,.int .i64 (((bN r a.P).1).ae),.int .i64 (((bN r a.P).1).af)]) 0 _ rfl rfl rfl (fun _ _=>rfl) (.inl av) (fun w hw=>(ao (Sl.one ((fun _=>Wd.aS 0 rfl) w hw)) (ao (Sl.one ((fun _=>Wd.aS 1 rfl) w hw)) (ao (Sl.one ((fun _=>Wd.aS 2 rfl) w hw)) (ao (Sl.one ((fun _=>Wd.aS 3 rfl) w hw)) (ao rfl (ao rfl aO))))))) rfl rfl rfl) fun _=>?_
            refine R.u 1 rfl<|R.nil ?_
            have hz:eM r a=(((bN r a.P).1),(bN r a.P).2):=by (unfold eM;(repeat' split) <;> first|rfl|(exfalso;simp_all;done)|(simp_all;done))
            rw [hz]
            exact R.w2 (z17,yR,zw,z20) [3] [0,1,2,3] rfl Tryz.results11 (RV.cell 0 rfl rfl av) (RV.tmp rfl) rfl rfl rfl (cx rfl rfl)
          ·
            refine R.q (q.kS rfl rfl h5) rfl<|R.u 1 rfl<|R.nil ?_
            refine R.aH rfl rfl ?_
            refine R.reg rfl<|?_
            by_cases h6:a.Kind=⟨#[119,114,105,116,101]⟩
            ·
              refine R.q (q.kR rfl rfl h6) rfl<|R.u 1 rfl<|R.nil ?_
              refine R.aE rfl rfl ?_
              refine R.reg rfl<|R.q (q.cF 2 rfl rfl av) rfl<|R.q (q.aX (off':=2) rfl fx rfl) rfl<|R.q (q.wh (ds:=[.int .i64 a.P.ag,.int .i64 a.P.Slot]) 1 rfl rfl bk rfl) rfl<|R.q (q.aX (off':=1) rfl lC rfl) rfl<|R.q (q.ld 1 rfl rfl cd rfl) rfl<|?_
              refine R.s (B':=(fun g_:Value×Value×Value×Value=>[ah.box b3 [.slice none 0 0,.slice none 0 0,.slice none 0 0,.slice none 0 0,.int .i64 0,.int .i64 0] 32,ah.box b2 [.string a.Kind,.string a.S,.int .i64 a.P.ag,.int .i64 a.P.Slot,.int .i64 a.Q.ag,.int .i64 a.Q.Slot,.int .i64 a.A,.int .i64 a.B,.int .i64 a.N,.int .u64 a.K,a.cv] 42,ah.box b1 [aD,az,aC,aB,.int .i64 r.ae,.int .i64 r.af] 32,ah.held w own])) (F':=(fun g_:Value×Value×Value×Value=>[ah.ls g_.1 ((((bU r a.P a.S)).1).aj:List ak),ah.ls g_.2.1 ((((bU r a.P a.S)).1).Things:List ai),ah.ls g_.2.2.1 ((((bU r a.P a.S)).1).Held:List Held),ah.ls g_.2.2.2 ((((bU r a.P a.S)).1).Notes:List Note),ah.ls aD (r.aj:List ak),ah.ls az (r.Things:List ai),ah.ls aC (r.Held:List Held),ah.ls aB (r.Notes:List Note)])) rfl (s.bA (B0:=[]) (Br:=[ah.box b3 [.slice none 0 0,.slice none 0 0,.slice none 0 0,.slice none 0 0,.int .i64 0,.int .i64 0] 32,ah.box b2 [.string a.Kind,.string a.S,.int .i64 a.P.ag,.int .i64 a.P.Slot,.int .i64 a.Q.ag,.int .i64 a.Q.Slot,.int .i64 a.A,.int .i64 a.B,.int .i64 a.N,.int .u64 a.K,a.cv] 42,ah.box b1 [aD,az,aC,aB,.int .i64 r.ae,.int .i64 r.af] 32,ah.held w own]) (F0:=[ah.ls aD (r.aj:List ak),ah.ls az (r.Things:List ai),ah.ls aC (r.Held:List Held),ah.ls aB (r.Notes:List Note)]) [0,1,2,3] [0,1,2,3] (fun g_:Value×Value×Value×Value => .tuple #[.agg #[g_.1,g_.2.1,g_.2.2.1,g_.2.2.2,.int .i64 ((((bU r a.P a.S)).1).ae),.int .i64 ((((bU r a.P a.S)).1).af)],eG (((bU r a.P a.S)).2)]) (fun g_:Value×Value×Value×Value=>[]) (fun g_:Value×Value×Value×Value=>[ah.ls g_.1 ((((bU r a.P a.S)).1).aj:List ak),ah.ls g_.2.1 ((((bU r a.P a.S)).1).Things:List ai),ah.ls g_.2.2.1 ((((bU r a.P a.S)).1).Held:List Held),ah.ls g_.2.2.2 ((((bU r a.P a.S)).1).Notes:List Note)]) rfl rfl rfl Ah rfl rfl (fun w own hw H=>q8 aD az aC aB (r) (a.P) (a.S) w own H (by assumption)) rfl) ?_
              rintro ⟨z21,z22,z23,z24⟩
              dsimp only
              refine R.u 2 rfl<|?_
              refine R.s rfl (s.eH (us:=[z21,z22,z23,z24,.int .i64 (((bU r a.P a.S).1).ae),.int .i64 (((bU r a.P a.S).1).af)]) (cs':=[z21,z22,z23,z24,.int .i64 (((bU r a.P a.S).1).ae),.int .i64 (((bU r a.P a.S).1).af)]) 0 _ rfl rfl rfl (fun _ _=>rfl) (.inl av) (fun w hw=>(ao (Sl.one ((fun _=>Wd.aS 0 rfl) w hw)) (ao (Sl.one ((fun _=>Wd.aS 1 rfl) w hw)) (ao (Sl.one ((fun _=>Wd.aS 2 rfl) w hw)) (ao (Sl.one ((fun _=>Wd.aS 3 rfl) w hw)) (ao rfl (ao rfl aO))))))) rfl rfl rfl) fun _=>?_
              refine R.u 1 rfl<|R.nil ?_
              have hz:eM r a=(((bU r a.P a.S).1),(bU r a.P a.S).2):=by (unfold eM;(repeat' split) <;> first|rfl|(exfalso;simp_all;done)|(simp_all;done))
              rw [hz]
              exact R.w2 (z21,z22,z23,z24) [3] [0,1,2,3] rfl Tryz.results11 (RV.cell 0 rfl rfl av) (RV.tmp rfl) rfl rfl rfl (cx rfl rfl)
            ·
              refine R.q (q.kS rfl rfl h6) rfl<|R.u 1 rfl<|R.nil ?_
              refine R.aH rfl rfl ?_
              refine R.reg rfl<|?_
              by_cases h7:a.Kind=⟨#[115,101,110,100]⟩
              ·
                refine R.q (q.kR rfl rfl h7) rfl<|R.u 1 rfl<|R.nil ?_
                refine R.aE rfl rfl ?_
                refine R.reg rfl<|R.q (q.cF 2 rfl rfl av) rfl<|R.q (q.aX (off':=2) rfl fx rfl) rfl<|R.q (q.wh (ds:=[.int .i64 a.P.ag,.int .i64 a.P.Slot]) 1 rfl rfl bk rfl) rfl<|R.q (q.aX (off':=1) rfl lC rfl) rfl<|R.q (q.ld 1 rfl rfl cd rfl) rfl<|R.q (q.aX (off':=6) rfl jO rfl) rfl<|R.q (q.ld 1 rfl rfl aA rfl) rfl<|R.q (q.aX (off':=7) rfl ot rfl) rfl<|R.q (q.ld 1 rfl rfl aA rfl) rfl<|?_
                refine R.s (B':=(fun g_:Value×Value×Value×Value=>[ah.box b3 [.slice none 0 0,.slice none 0 0,.slice none 0 0,.slice none 0 0,.int .i64 0,.int .i64 0] 32,ah.box b2 [.string a.Kind,.string a.S,.int .i64 a.P.ag,.int .i64 a.P.Slot,.int .i64 a.Q.ag,.int .i64 a.Q.Slot,.int .i64 a.A,.int .i64 a.B,.int .i64 a.N,.int .u64 a.K,a.cv] 42,ah.box b1 [aD,az,aC,aB,.int .i64 r.ae,.int .i64 r.af] 32,ah.held w own])) (F':=(fun g_:Value×Value×Value×Value=>[ah.ls g_.1 ((((bO r a.P a.S a.A a.B)).1).aj:List ak),ah.ls g_.2.1 ((((bO r a.P a.S a.A a.B)).1).Things:List ai),ah.ls g_.2.2.1 ((((bO r a.P a.S a.A a.B)).1).Held:List Held),ah.ls g_.2.2.2 ((((bO r a.P a.S a.A a.B)).1).Notes:List Note),ah.ls aD (r.aj:List ak),ah.ls az (r.Things:List ai),ah.ls aC (r.Held:List Held),ah.ls aB (r.Notes:List Note)])) rfl (s.bA (B0:=[]) (Br:=[ah.box b3 [.slice none 0 0,.slice none 0 0,.slice none 0 0,.slice none 0 0,.int .i64 0,.int .i64 0] 32,ah.box b2 [.string a.Kind,.string a.S,.int .i64 a.P.ag,.int .i64 a.P.Slot,.int .i64 a.Q.ag,.int .i64 a.Q.Slot,.int .i64 a.A,.int .i64 a.B,.int .i64 a.N,.int .u64 a.K,a.cv] 42,ah.box b1 [aD,az,aC,aB,.int .i64 r.ae,.int .i64 r.af] 32,ah.held w own]) (F0:=[ah.ls aD (r.aj:List ak),ah.ls az (r.Things:List ai),ah.ls aC (r.Held:List Held),ah.ls aB (r.Notes:List Note)]) [0,1,2,3] [0,1,2,3] (fun g_:Value×Value×Value×Value => .tuple #[.agg #[g_.1,g_.2.1,g_.2.2.1,g_.2.2.2,.int .i64 ((((bO r a.P a.S a.A a.B)).1).ae),.int .i64 ((((bO r a.P a.S a.A a.B)).1).af)],eG (((bO r a.P a.S a.A a.B)).2)]) (fun g_:Value×Value×Value×Value=>[]) (fun g_:Value×Value×Value×Value=>[ah.ls g_.1 ((((bO r a.P a.S a.A a.B)).1).aj:List ak),ah.ls g_.2.1 ((((bO r a.P a.S a.A a.B)).1).Things:List ai),ah.ls g_.2.2.1 ((((bO r a.P a.S a.A a.B)).1).Held:List Held),ah.ls g_.2.2.2 ((((bO r a.P a.S a.A a.B)).1).Notes:List Note)]) rfl rfl rfl Ai rfl rfl (fun w own hw H=>tG aD az aC aB (r) (a.P) (a.S) (a.A) (a.B) w own H (by assumption)) rfl) ?_
                rintro ⟨z25,z26,z27,z28⟩
                dsimp only
                refine R.u 2 rfl<|?_
                refine R.s rfl (s.eH (us:=[z25,z26,z27,z28,.int .i64 (((bO r a.P a.S a.A a.B).1).ae),.int .i64 (((bO r a.P a.S a.A a.B).1).af)]) (cs':=[z25,z26,z27,z28,.int .i64 (((bO r a.P a.S a.A a.B).1).ae),.int .i64 (((bO r a.P a.S a.A a.B).1).af)]) 0 _ rfl rfl rfl (fun _ _=>rfl) (.inl av) (fun w hw=>(ao (Sl.one ((fun _=>Wd.aS 0 rfl) w hw)) (ao (Sl.one ((fun _=>Wd.aS 1 rfl) w hw)) (ao (Sl.one ((fun _=>Wd.aS 2 rfl) w hw)) (ao (Sl.one ((fun _=>Wd.aS 3 rfl) w hw)) (ao rfl (ao rfl aO))))))) rfl rfl rfl) fun _=>?_
                refine R.u 1 rfl<|R.nil ?_
                have hz:eM r a=(((bO r a.P a.S a.A a.B).1),(bO r a.P a.S a.A a.B).2):=by (unfold eM;(repeat' split) <;> first|rfl|(exfalso;simp_all;done)|(simp_all;done))
                rw [hz]
                exact R.w2 (z25,z26,z27,z28) [3] [0,1,2,3] rfl Tryz.results11 (RV.cell 0 rfl rfl av) (RV.tmp rfl) rfl rfl rfl (cx rfl rfl)
              ·
                refine R.q (q.kS rfl rfl h7) rfl<|R.u 1 rfl<|R.nil ?_
                refine R.aH rfl rfl ?_
                refine R.reg rfl<|?_
                by_cases h8:a.Kind=⟨#[116,97,107,101]⟩
                ·
                  refine R.q (q.kR rfl rfl h8) rfl<|R.u 1 rfl<|R.nil ?_
                  refine R.aE rfl rfl ?_
                  refine R.reg rfl<|R.q (q.cF 2 rfl rfl av) rfl<|R.q (q.aX (off':=2) rfl fx rfl) rfl<|R.q (q.wh (ds:=[.int .i64 a.P.ag,.int .i64 a.P.Slot]) 1 rfl rfl bk rfl) rfl<|?_
                  refine R.s (B':=(fun g_:Value×Value×Value×Value=>[ah.box b3 [.slice none 0 0,.slice none 0 0,.slice none 0 0,.slice none 0 0,.int .i64 0,.int .i64 0] 32,ah.box b2 [.string a.Kind,.string a.S,.int .i64 a.P.ag,.int .i64 a.P.Slot,.int .i64 a.Q.ag,.int .i64 a.Q.Slot,.int .i64 a.A,.int .i64 a.B,.int .i64 a.N,.int .u64 a.K,a.cv] 42,ah.box b1 [aD,az,aC,aB,.int .i64 r.ae,.int .i64 r.af] 32,ah.held w own])) (F':=(fun g_:Value×Value×Value×Value=>[ah.ls g_.1 ((((bD r a.P)).1).aj:List ak),ah.ls g_.2.1 ((((bD r a.P)).1).Things:List ai),ah.ls g_.2.2.1 ((((bD r a.P)).1).Held:List Held),ah.ls g_.2.2.2 ((((bD r a.P)).1).Notes:List Note),ah.ls aD (r.aj:List ak),ah.ls az (r.Things:List ai),ah.ls aC (r.Held:List Held),ah.ls aB (r.Notes:List Note)])) rfl (s.bA (B0:=[]) (Br:=[ah.box b3 [.slice none 0 0,.slice none 0 0,.slice none 0 0,.slice none 0 0,.int .i64 0,.int .i64 0] 32,ah.box b2 [.string a.Kind,.string a.S,.int .i64 a.P.ag,.int .i64 a.P.Slot,.int .i64 a.Q.ag,.int .i64 a.Q.Slot,.int .i64 a.A,.int .i64 a.B,.int .i64 a.N,.int .u64 a.K,a.cv] 42,ah.box b1 [aD,az,aC,aB,.int .i64 r.ae,.int .i64 r.af] 32,ah.held w own]) (F0:=[ah.ls aD (r.aj:List ak),ah.ls az (r.Things:List ai),ah.ls aC (r.Held:List Held),ah.ls aB (r.Notes:List Note)]) [0,1,2,3] [0,1,2,3] (fun g_:Value×Value×Value×Value => .tuple #[.agg #[g_.1,g_.2.1,g_.2.2.1,g_.2.2.2,.int .i64 ((((bD r a.P)).1).ae),.int .i64 ((((bD r a.P)).1).af)],.agg #[.int .i64 ((((bD r a.P)).2.1).Port),.string ((((bD r a.P)).2.1).Data),.int .i64 ((((bD r a.P)).2.1).ar),.int .i64 ((((bD r a.P)).2.1).ak)],.int .i64 (((bD r a.P)).2.2.1),eG (((bD r a.P)).2.2.2)]) (fun g_:Value×Value×Value×Value=>[]) (fun g_:Value×Value×Value×Value=>[ah.ls g_.1 ((((bD r a.P)).1).aj:List ak),ah.ls g_.2.1 ((((bD r a.P)).1).Things:List ai),ah.ls g_.2.2.1 ((((bD r a.P)).1).Held:List Held),ah.ls g_.2.2.2 ((((bD r a.P)).1).Notes:List Note)]) rfl rfl rfl Aj rfl rfl (fun w own hw H=>tH aD az aC aB (r) (a.P) w own H (by assumption)) rfl) ?_
                  rintro ⟨z29,z30,z31,z32⟩
                  dsimp only
                  refine R.u 5 rfl<|?_
                  refine R.s rfl (s.alloc (cs:=[.slice none 0 0,.slice none 0 0,.slice none 0 0,.slice none 0 0,.int .i64 0,.int .i64 0]) cj rfl rfl) fun b4=>?_
                  refine R.s rfl (s.alloc (cs:=[.int .i64 0,.string (⟨#[]⟩),.int .i64 0,.int .i64 0]) dq rfl rfl) fun b5=>?_
                  refine R.s rfl (s.eH (us:=[z29,z30,z31,z32,.int .i64 (((bD r a.P).1).ae),.int .i64 (((bD r a.P).1).af)]) (cs':=[z29,z30,z31,z32,.int .i64 (((bD r a.P).1).ae),.int .i64 (((bD r a.P).1).af)]) 1 _ rfl rfl rfl (fun _ _=>rfl) (.inl av) (fun w hw=>(ao (Sl.one ((fun _=>Wd.aS 0 rfl) w hw)) (ao (Sl.one ((fun _=>Wd.aS 1 rfl) w hw)) (ao (Sl.one ((fun _=>Wd.aS 2 rfl) w hw)) (ao (Sl.one ((fun _=>Wd.aS 3 rfl) w hw)) (ao rfl (ao rfl aO))))))) rfl rfl rfl) fun _=>?_
                  refine R.s rfl (s.st (us:=[.int .i64 (((bD r a.P).2.1).Port),.string (((bD r a.P).2.1).Data),.int .i64 (((bD r a.P).2.1).ar),.int .i64 (((bD r a.P).2.1).ak)]) (cs':=[.int .i64 (((bD r a.P).2.1).Port),.string (((bD r a.P).2.1).Data),.int .i64 (((bD r a.P).2.1).ar),.int .i64 (((bD r a.P).2.1).ak)]) 0 _ rfl rfl rfl rfl (.inl bT) rfl rfl rfl rfl) fun _=>?_
                  refine R.u 2 rfl<|R.nil ?_
                  refine R.reg rfl<|R.q (q.cF 1 rfl rfl av) rfl<|R.u 1 rfl<|?_
                  refine R.s rfl (s.eH (us:=[z29,z30,z31,z32,.int .i64 (((bD r a.P).1).ae),.int .i64 (((bD r a.P).1).af)]) (cs':=[z29,z30,z31,z32,.int .i64 (((bD r a.P).1).ae),.int .i64 (((bD r a.P).1).af)]) 2 _ rfl rfl rfl (fun _ _=>rfl) (.inl av) (fun w hw=>(ao (Sl.one ((fun _=>Wd.aS 0 rfl) w hw)) (ao (Sl.one ((fun _=>Wd.aS 1 rfl) w hw)) (ao (Sl.one ((fun _=>Wd.aS 2 rfl) w hw)) (ao (Sl.one ((fun _=>Wd.aS 3 rfl) w hw)) (ao rfl (ao rfl aO))))))) rfl rfl rfl) fun _=>?_
                  refine R.u 1 rfl<|R.nil ?_
                  have hz:eM r a=(((bD r a.P).1),(bD r a.P).2.2.2):=by (unfold eM;(repeat' split) <;> first|rfl|(exfalso;simp_all;done)|(simp_all;done))
                  rw [hz]
                  exact R.w2 (z29,z30,z31,z32) [5] [0,1,2,3] rfl Tryz.results11 (RV.cell 2 rfl rfl av) (RV.tmp rfl) rfl rfl rfl (cx rfl rfl)
                ·
                  refine R.q (q.kS rfl rfl h8) rfl<|R.u 1 rfl<|R.nil ?_
                  refine R.aH rfl rfl ?_
                  refine R.reg rfl<|R.q (q.cF 2 rfl rfl av) rfl<|?_
                  refine R.s rfl (s.eH (us:=[aD,az,aC,aB,.int .i64 r.ae,.int .i64 r.af]) (cs':=[aD,az,aC,aB,.int .i64 r.ae,.int .i64 r.af]) 0 _ rfl rfl rfl (fun _ _=>rfl) (.inl av) (fun w hw=>(ao (Sl.one ((fun _=>Wd.aS 0 rfl) w hw)) (ao (Sl.one ((fun _=>Wd.aS 1 rfl) w hw)) (ao (Sl.one ((fun _=>Wd.aS 2 rfl) w hw)) (ao (Sl.one ((fun _=>Wd.aS 3 rfl) w hw)) (ao rfl (ao rfl aO))))))) rfl rfl rfl) fun _=>?_
                  refine R.u 1 rfl<|R.nil ?_
                  have hz:eM r a=(r,0):=by (unfold eM;(repeat' split) <;> first|rfl|(exfalso;simp_all;done)|(simp_all;done))
                  rw [hz]
                  exact R.w2 (aD,az,aC,aB) [3] [0,1,2,3] rfl Tryz.results11 (RV.cell 0 rfl rfl av) (RV.tmp rfl) rfl rfl rfl (cx rfl (gj rfl))
theorem tL (bf:Value)(l:List df)(w:World)(own:List Nat)(H:Wd w (blks []++own) ([]++[ah.held w own]) [ah.ls bf (l:List df),ah.acts l] w)  : Calls Tryz.prog 23 #[bf] w fun e w' => ∃z:Value×Value×Value×Value,e = .returned (.tuple #[.agg #[z.1,z.2.1,z.2.2.1,z.2.2.2,.int .i64 ((((aF l)).1).ae),.int .i64 ((((aF l)).1).af)],.bool (((aF l)).2)])∧Wd w (blks []++own) ([]++[ah.held w own]) [ah.ls z.1 ((((aF l)).1).aj:List ak),ah.ls z.2.1 ((((aF l)).1).Things:List ai),ah.ls z.2.2.1 ((((aF l)).1).Held:List Held),ah.ls z.2.2.2 ((((aF l)).1).Notes:List Note)] w':=by
  have uh:=H.cL 0 rfl
  refine R.cQ (n:=32) (vs:=[bf]) (B:=[ah.held w own]) [(0,bf)] Tryz.func23 rfl rfl rfl rfl H ?_
  refine R.reg rfl<|?_
  refine R.s rfl (s.alloc (cs:=[.slice none 0 0,.slice none 0 0,.slice none 0 0,.slice none 0 0,.int .i64 0,.int .i64 0]) cj rfl rfl) fun b1=>?_
  refine R.u 1 rfl<|R.nil ?_
  refine R.reg rfl<|R.u 1 rfl<|?_
  rcases Bool.eq_false_or_eq_true (gU l 80) with h1|h1
  ·
    refine R.c (q.call zV rfl rfl (fun w hw=>(cv (congrArg Value.bool h1) (nE _ (l) (80) w ((fun _=>Wd.aS 0 rfl) w hw) (hw.acts 1 rfl) )))) rfl<|R.u 1 rfl<|R.nil ?_
    refine R.aH rfl rfl ?_
    refine R.reg rfl<|?_
    refine R.s (B':=(fun g_:Value×Value×Value×Value=>[ah.box b1 [.slice none 0 0,.slice none 0 0,.slice none 0 0,.slice none 0 0,.int .i64 0,.int .i64 0] 32,ah.held w own])) (F':=(fun g_:Value×Value×Value×Value=>[ah.ls g_.1 (((⟨[],[],[],[],1,1⟩:au)).aj:List ak),ah.ls g_.2.1 (((⟨[],[],[],[],1,1⟩:au)).Things:List ai),ah.ls g_.2.2.1 (((⟨[],[],[],[],1,1⟩:au)).Held:List Held),ah.ls g_.2.2.2 (((⟨[],[],[],[],1,1⟩:au)).Notes:List Note),ah.ls bf (l:List df),ah.acts l])) rfl (s.bA (B0:=[]) (Br:=[ah.box b1 [.slice none 0 0,.slice none 0 0,.slice none 0 0,.slice none 0 0,.int .i64 0,.int .i64 0] 32,ah.held w own]) (F0:=[]) [0,1] [] (fun g_:Value×Value×Value×Value => .agg #[g_.1,g_.2.1,g_.2.2.1,g_.2.2.2,.int .i64 (((⟨[],[],[],[],1,1⟩:au)).ae),.int .i64 (((⟨[],[],[],[],1,1⟩:au)).af)]) (fun g_:Value×Value×Value×Value=>[]) (fun g_:Value×Value×Value×Value=>[ah.ls g_.1 (((⟨[],[],[],[],1,1⟩:au)).aj:List ak),ah.ls g_.2.1 (((⟨[],[],[],[],1,1⟩:au)).Things:List ai),ah.ls g_.2.2.1 (((⟨[],[],[],[],1,1⟩:au)).Held:List Held),ah.ls g_.2.2.2 (((⟨[],[],[],[],1,1⟩:au)).Notes:List Note)]) rfl rfl rfl zX rfl rfl (fun w own hw H=>p7  w own H ) rfl) ?_
    rintro ⟨z1,z2,z3,z4⟩
    dsimp only
    refine R.s rfl (s.alloc (cs:=[.slice none 0 0,.slice none 0 0,.slice none 0 0,.slice none 0 0,.int .i64 0,.int .i64 0]) cj rfl rfl) fun b2=>?_
    refine R.s rfl (s.eH (us:=[z1,z2,z3,z4,.int .i64 ((⟨[],[],[],[],1,1⟩:au).ae),.int .i64 ((⟨[],[],[],[],1,1⟩:au).af)]) (cs':=[z1,z2,z3,z4,.int .i64 ((⟨[],[],[],[],1,1⟩:au).ae),.int .i64 ((⟨[],[],[],[],1,1⟩:au).af)]) 0 _ rfl rfl rfl (fun _ _=>rfl) (.inl av) (fun w hw=>(ao (Sl.one ((fun _=>Wd.aS 0 rfl) w hw)) (ao (Sl.one ((fun _=>Wd.aS 1 rfl) w hw)) (ao (Sl.one ((fun _=>Wd.aS 2 rfl) w hw)) (ao (Sl.one ((fun _=>Wd.aS 3 rfl) w hw)) (ao rfl (ao rfl aO))))))) rfl rfl rfl) fun _=>?_
    refine R.nil ?_
    refine R.reg rfl<|R.u 1 rfl<|R.nil ?_
    refine R.loop (fun g_:Nat×au×Value×Value×Value×Value=>[(0,bf),(2,.pointer (some ⟨b1,0,none⟩)),(4,.pointer (some ⟨b2,0,none⟩)),(5,.int .i64 (g_.1:Int))]) (fun g_:Nat×au×Value×Value×Value×Value=>[ah.box b2 [g_.2.2.1,g_.2.2.2.1,g_.2.2.2.2.1,g_.2.2.2.2.2,.int .i64 g_.2.1.ae,.int .i64 g_.2.1.af] 32,ah.box b1 [.slice none 0 0,.slice none 0 0,.slice none 0 0,.slice none 0 0,.int .i64 0,.int .i64 0] 32,ah.held w own]) (fun g_:Nat×au×Value×Value×Value×Value=>[ah.ls g_.2.2.1 (g_.2.1.aj:List ak),ah.ls g_.2.2.2.1 (g_.2.1.Things:List ai),ah.ls g_.2.2.2.2.1 (g_.2.1.Held:List Held),ah.ls g_.2.2.2.2.2 (g_.2.1.Notes:List Note),ah.ls z1 ((⟨[],[],[],[],1,1⟩:au).aj:List ak),ah.ls z2 ((⟨[],[],[],[],1,1⟩:au).Things:List ai),ah.ls z3 ((⟨[],[],[],[],1,1⟩:au).Held:List Held),ah.ls z4 ((⟨[],[],[],[],1,1⟩:au).Notes:List Note),ah.ls bf (l:List df),ah.acts l]) (fun g_:Nat×au×Value×Value×Value×Value=>g_.1≤l.length∧g_.2.1=grow (l.take g_.1)∧gU l 80=true) (fun g_:Nat×au×Value×Value×Value×Value=>l.length-g_.1) (0,(⟨[],[],[],[],1,1⟩:au),z1,z2,z3,z4) rfl (by exact ⟨by omega,rfl,by assumption⟩) ⟨rfl,rfl,rfl,rfl,trivial⟩ (fun _=>Wd.pick [0,1,2] [0,1,2,3,0,1,2,3,4,5] rfl rfl rfl) ?_
    rintro ⟨k,m,gV,kL,jm,kA⟩ ⟨hk,HM,HL⟩
    dsimp only at *
    have C8:=nA HL
    have hkk:Ok m:=by rw [HM];exact sI (by rw [List.length_take];omega)
    refine R.reg rfl<|R.u 2 rfl<|R.q (q.len' (fun _=>Wd.aS 8 rfl) rfl Tryz.underlying22) rfl<|?_
    by_cases h2:k<l.length
    ·
      refine R.q (q.lss rfl rfl (decide_eq_true (by omega))) rfl<|R.nil ?_
      refine R.aE rfl rfl ?_
      obtain ⟨x1,hx1⟩:∃z,l[k]? = some z:=⟨_,List.getElem?_eq_getElem (by omega)⟩
      refine R.fT (fuel:=12) (Wd w (blks []++own) [ah.box b2 [gV,kL,jm,kA,.int .i64 m.ae,.int .i64 m.af] 32,ah.box b1 [.slice none 0 0,.slice none 0 0,.slice none 0 0,.slice none 0 0,.int .i64 0,.int .i64 0] 32,ah.held w own] [ah.ls gV (m.aj:List ak),ah.ls kL (m.Things:List ai),ah.ls jm (m.Held:List Held),ah.ls kA (m.Notes:List Note),ah.ls z1 ((⟨[],[],[],[],1,1⟩:au).aj:List ak),ah.ls z2 ((⟨[],[],[],[],1,1⟩:au).Things:List ai),ah.ls z3 ((⟨[],[],[],[],1,1⟩:au).Held:List Held),ah.ls z4 ((⟨[],[],[],[],1,1⟩:au).Notes:List Note),ah.ls bf (l:List df),ah.acts l]) rfl mixed rfl ?_
      refine D.q (i:=0) rfl (by kernel_rfl) (fun _=>Wd.aK [0,1,2] [0,1,2,3,4,5,6,7,8,9] rfl rfl rfl) rfl (q.cF 0 rfl rfl av) rfl<|D.q (i:=1) rfl (by kernel_rfl) (fun _=>Wd.aK [0,1,2] [0,1,2,3,4,5,6,7,8,9] rfl rfl rfl) rfl (q.mv rfl) rfl<|D.q (i:=2) rfl (by kernel_rfl) (fun _=>Wd.aK [0,1,2] [0,1,2,3,4,5,6,7,8,9] rfl rfl rfl) rfl (q.mv rfl) rfl<|D.q (i:=3) rfl (by kernel_rfl) (fun _=>Wd.aK [0,1,2] [0,1,2,3,4,5,6,7,8,9] rfl rfl rfl) rfl (q.idx (i:=k) (fun _=>Wd.aS 8 rfl) rfl rfl qL rfl hx1) rfl<|D.q (i:=4) rfl (by kernel_rfl) (fun _=>Wd.aK [0,1,2] [0,1,2,3,4,5,6,7,8,9] rfl rfl rfl) rfl (q.dY (ds:=[.string x1.Kind,.string x1.S,.int .i64 x1.P.ag,.int .i64 x1.P.Slot,.int .i64 x1.Q.ag,.int .i64 x1.Q.Slot,.int .i64 x1.A,.int .i64 x1.B,.int .i64 x1.N,.int .u64 x1.K,x1.cv]) (fun _=>Wd.aS 8 rfl) hx1 rfl wH rfl) rfl<|?_
      refine D.two (i:=5) (j:=9) (by kernel_rfl) rfl rfl ?_ ?_
      ·
        refine Do.s (B':=(fun g_:Value×Value×Value×Value=>[ah.box b2 [gV,kL,jm,kA,.int .i64 m.ae,.int .i64 m.af] 32,ah.box b1 [.slice none 0 0,.slice none 0 0,.slice none 0 0,.slice none 0 0,.int .i64 0,.int .i64 0] 32,ah.held w own])) (F':=(fun g_:Value×Value×Value×Value=>[ah.ls g_.1 ((((eM m x1)).1).aj:List ak),ah.ls g_.2.1 ((((eM m x1)).1).Things:List ai),ah.ls g_.2.2.1 ((((eM m x1)).1).Held:List Held),ah.ls g_.2.2.2 ((((eM m x1)).1).Notes:List Note),ah.ls gV (m.aj:List ak),ah.ls kL (m.Things:List ai),ah.ls jm (m.Held:List Held),ah.ls kA (m.Notes:List Note),ah.ls z1 (([]):List ak),ah.ls z2 (([]):List ai),ah.ls z3 (([]):List Held),ah.ls z4 (([]):List Note),ah.ls bf (l:List df),ah.acts l])) (s.bA (B0:=[]) (Br:=[ah.box b2 [gV,kL,jm,kA,.int .i64 m.ae,.int .i64 m.af] 32,ah.box b1 [.slice none 0 0,.slice none 0 0,.slice none 0 0,.slice none 0 0,.int .i64 0,.int .i64 0] 32,ah.held w own]) (F0:=[ah.ls gV (m.aj:List ak),ah.ls kL (m.Things:List ai),ah.ls jm (m.Held:List Held),ah.ls kA (m.Notes:List Note)]) [0,1,2] [0,1,2,3] (fun g_:Value×Value×Value×Value => .tuple #[.agg #[g_.1,g_.2.1,g_.2.2.1,g_.2.2.2,.int .i64 ((((eM m x1)).1).ae),.int .i64 ((((eM m x1)).1).af)],eG (((eM m x1)).2)]) (fun g_:Value×Value×Value×Value=>[]) (fun g_:Value×Value×Value×Value=>[ah.ls g_.1 ((((eM m x1)).1).aj:List ak),ah.ls g_.2.1 ((((eM m x1)).1).Things:List ai),ah.ls g_.2.2.1 ((((eM m x1)).1).Held:List Held),ah.ls g_.2.2.2 ((((eM m x1)).1).Notes:List Note)]) rfl rfl rfl xI rfl rfl (fun w own hw H=>sK gV kL jm kA (m) (x1) w own H (by assumption)) rfl) (fun _=>(fun _=>Wd.aK [0,1,2] [4,5,6,7,8,9,10,11,12,13] rfl rfl rfl)) rfl ?_
        rintro ⟨z9,qH,ui,z12⟩
        dsimp only
        refine D.q (i:=6) rfl (by kernel_rfl) (fun _=>Wd.aK [0,1,2] [4,5,6,7,8,9,10,11,12,13] rfl rfl rfl) rfl (q.mv rfl) rfl<|D.q (i:=7) rfl (by kernel_rfl) (fun _=>Wd.aK [0,1,2] [4,5,6,7,8,9,10,11,12,13] rfl rfl rfl) rfl (q.ext rfl rfl) rfl<|D.q (i:=8) rfl (by kernel_rfl) (fun _=>Wd.aK [0,1,2] [4,5,6,7,8,9,10,11,12,13] rfl rfl rfl) rfl (q.ext rfl rfl) rfl<|?_
        refine D.one (i:=9) (by kernel_rfl) rfl ?_
        refine Do.s (s.alloc (cs:=[.slice none 0 0,.slice none 0 0,.slice none 0 0,.slice none 0 0,.int .i64 0,.int .i64 0]) cj rfl rfl) (fun _=>(fun _=>Wd.aK [1,2,3] [4,5,6,7,8,9,10,11,12,13] rfl rfl rfl)) rfl fun b3=>?_
        refine D.one (i:=10) (by kernel_rfl) rfl ?_
        refine Do.s (s.eH (us:=[z9,qH,ui,z12,.int .i64 (((eM m x1).1).ae),.int .i64 (((eM m x1).1).af)]) (cs':=[z9,qH,ui,z12,.int .i64 (((eM m x1).1).ae),.int .i64 (((eM m x1).1).af)]) 0 _ rfl rfl rfl (fun _ _=>rfl) (.inl av) (fun w hw=>(ao (Sl.one ((fun _=>Wd.aS 0 rfl) w hw)) (ao (Sl.one ((fun _=>Wd.aS 1 rfl) w hw)) (ao (Sl.one ((fun _=>Wd.aS 2 rfl) w hw)) (ao (Sl.one ((fun _=>Wd.aS 3 rfl) w hw)) (ao rfl (ao rfl aO))))))) rfl rfl rfl) (fun _=>(fun _=>Wd.aK [1,2,3] [4,5,6,7,8,9,10,11,12,13] rfl rfl rfl)) rfl fun _=>?_
        refine D.q (i:=11) rfl (by kernel_rfl) (fun _=>Wd.aK [1,2,3] [4,5,6,7,8,9,10,11,12,13] rfl rfl rfl) rfl (q.as rfl) rfl<|D.done (by kernel_rfl)<|?_
        refine R.reg rfl<|R.u 1 rfl<|?_
        by_cases h3:(eM m x1).2=0
        ·
          refine R.q (q.lU rfl rfl Tryz.underlying35 (by omega)) rfl<|R.nil ?_
          refine R.aE rfl rfl ?_
          refine R.reg rfl<|R.q (q.cF 0 rfl rfl av) rfl<|?_
          refine R.s rfl (s.eH (us:=[z9,qH,ui,z12,.int .i64 (((eM m x1).1).ae),.int .i64 (((eM m x1).1).af)]) (cs':=[z9,qH,ui,z12,.int .i64 (((eM m x1).1).ae),.int .i64 (((eM m x1).1).af)]) 1 _ rfl rfl rfl (fun _ _=>rfl) (.inl av) (fun w hw=>(ao (Sl.one ((fun _=>Wd.aS 0 rfl) w hw)) (ao (Sl.one ((fun _=>Wd.aS 1 rfl) w hw)) (ao (Sl.one ((fun _=>Wd.aS 2 rfl) w hw)) (ao (Sl.one ((fun _=>Wd.aS 3 rfl) w hw)) (ao rfl (ao rfl aO))))))) rfl rfl rfl) fun _=>?_
          refine R.nil ?_
          refine R.reg rfl<|R.u 1 rfl<|R.q (q.add (r:=((k+1:Nat):Int)) rfl rfl (wr (by omega))) rfl<|R.u 1 rfl<|R.nil ?_
          refine R.back (k+1,((eM m x1).1),z9,qH,ui,z12) rfl (by (exact ⟨by omega,by rw [j1 hx1,qa (by rw [← HM];assumption),← HM],HL⟩)) (by dsimp only;omega) ⟨rfl,rfl,rfl,rfl,trivial⟩ (fun _=>Wd.aK [1,2,3] [0,1,2,3,8,9,10,11,12,13] rfl rfl rfl)
        ·
          refine R.q (q.pF rfl rfl Tryz.underlying35 (by omega)) rfl<|R.nil ?_
          refine R.aH rfl rfl ?_
          refine R.reg rfl<|R.u 1 rfl<|R.q (q.add (r:=((k+1:Nat):Int)) rfl rfl (wr (by omega))) rfl<|R.u 1 rfl<|R.nil ?_
          refine R.back (k+1,m,gV,kL,jm,kA) rfl (by (exact ⟨by omega,by rw [j1 hx1,sF (by rw [← HM];assumption),← HM],HL⟩)) (by dsimp only;omega) ⟨rfl,rfl,rfl,rfl,trivial⟩ (fun _=>Wd.aK [1,2,3] [4,5,6,7,8,9,10,11,12,13] rfl rfl rfl)
      ·
        refine Do.s (s.alloc (cs:=[.slice none 0 0,.slice none 0 0,.slice none 0 0,.slice none 0 0,.int .i64 0,.int .i64 0]) cj rfl rfl) (fun _=>(fun _=>Wd.aK [1,2,3] [0,1,2,3,4,5,6,7,8,9] rfl rfl rfl)) rfl fun b4=>?_
        refine D.one (i:=5) (by kernel_rfl) rfl ?_
        refine Do.s (B':=(fun g_:Value×Value×Value×Value=>[ah.box b4 [.slice none 0 0,.slice none 0 0,.slice none 0 0,.slice none 0 0,.int .i64 0,.int .i64 0] 32,ah.box b2 [gV,kL,jm,kA,.int .i64 m.ae,.int .i64 m.af] 32,ah.box b1 [.slice none 0 0,.slice none 0 0,.slice none 0 0,.slice none 0 0,.int .i64 0,.int .i64 0] 32,ah.held w own])) (F':=(fun g_:Value×Value×Value×Value=>[ah.ls g_.1 ((((eM m x1)).1).aj:List ak),ah.ls g_.2.1 ((((eM m x1)).1).Things:List ai),ah.ls g_.2.2.1 ((((eM m x1)).1).Held:List Held),ah.ls g_.2.2.2 ((((eM m x1)).1).Notes:List Note),ah.ls gV (m.aj:List ak),ah.ls kL (m.Things:List ai),ah.ls jm (m.Held:List Held),ah.ls kA (m.Notes:List Note),ah.ls z1 (([]):List ak),ah.ls z2 (([]):List ai),ah.ls z3 (([]):List Held),ah.ls z4 (([]):List Note),ah.ls bf (l:List df),ah.acts l])) (s.bA (B0:=[]) (Br:=[ah.box b4 [.slice none 0 0,.slice none 0 0,.slice none 0 0,.slice none 0 0,.int .i64 0,.int .i64 0] 32,ah.box b2 [gV,kL,jm,kA,.int .i64 m.ae,.int .i64 m.af] 32,ah.box b1 [.slice none 0 0,.slice none 0 0,.slice none 0 0,.slice none 0 0,.int .i64 0,.int .i64 0] 32,ah.held w own]) (F0:=[ah.ls gV (m.aj:List ak),ah.ls kL (m.Things:List ai),ah.ls jm (m.Held:List Held),ah.ls kA (m.Notes:List Note)]) [0,1,2,3] [0,1,2,3] (fun g_:Value×Value×Value×Value => .tuple #[.agg #[g_.1,g_.2.1,g_.2.2.1,g_.2.2.2,.int .i64 ((((eM m x1)).1).ae),.int .i64 ((((eM m x1)).1).af)],eG (((eM m x1)).2)]) (fun g_:Value×Value×Value×Value=>[]) (fun g_:Value×Value×Value×Value=>[ah.ls g_.1 ((((eM m x1)).1).aj:List ak),ah.ls g_.2.1 ((((eM m x1)).1).Things:List ai),ah.ls g_.2.2.1 ((((eM m x1)).1).Held:List Held),ah.ls g_.2.2.2 ((((eM m x1)).1).Notes:List Note)]) rfl rfl rfl xI rfl rfl (fun w own hw H=>sK gV kL jm kA (m) (x1) w own H (by assumption)) rfl) (fun _=>(fun _=>Wd.aK [1,2,3] [4,5,6,7,8,9,10,11,12,13] rfl rfl rfl)) rfl ?_
        rintro ⟨w9,xa,vv,vx⟩
        dsimp only
        refine D.q (i:=6) rfl (by kernel_rfl) (fun _=>Wd.aK [1,2,3] [4,5,6,7,8,9,10,11,12,13] rfl rfl rfl) rfl (q.mv rfl) rfl<|D.q (i:=7) rfl (by kernel_rfl) (fun _=>Wd.aK [1,2,3] [4,5,6,7,8,9,10,11,12,13] rfl rfl rfl) rfl (q.ext rfl rfl) rfl<|D.q (i:=8) rfl (by kernel_rfl) (fun _=>Wd.aK [1,2,3] [4,5,6,7,8,9,10,11,12,13] rfl rfl rfl) rfl (q.ext rfl rfl) rfl<|?_
        refine D.one (i:=10) (by kernel_rfl) rfl ?_
        refine Do.s (s.eH (us:=[w9,xa,vv,vx,.int .i64 (((eM m x1).1).ae),.int .i64 (((eM m x1).1).af)]) (cs':=[w9,xa,vv,vx,.int .i64 (((eM m x1).1).ae),.int .i64 (((eM m x1).1).af)]) 0 _ rfl rfl rfl (fun _ _=>rfl) (.inl av) (fun w hw=>(ao (Sl.one ((fun _=>Wd.aS 0 rfl) w hw)) (ao (Sl.one ((fun _=>Wd.aS 1 rfl) w hw)) (ao (Sl.one ((fun _=>Wd.aS 2 rfl) w hw)) (ao (Sl.one ((fun _=>Wd.aS 3 rfl) w hw)) (ao rfl (ao rfl aO))))))) rfl rfl rfl) (fun _=>(fun _=>Wd.aK [1,2,3] [4,5,6,7,8,9,10,11,12,13] rfl rfl rfl)) rfl fun _=>?_
        refine D.q (i:=11) rfl (by kernel_rfl) (fun _=>Wd.aK [1,2,3] [4,5,6,7,8,9,10,11,12,13] rfl rfl rfl) rfl (q.as rfl) rfl<|D.done (by kernel_rfl)<|?_
        refine R.reg rfl<|R.u 1 rfl<|?_
        by_cases h4:(eM m x1).2=0
        ·
          refine R.q (q.lU rfl rfl Tryz.underlying35 (by omega)) rfl<|R.nil ?_
          refine R.aE rfl rfl ?_
          refine R.reg rfl<|R.q (q.cF 0 rfl rfl av) rfl<|?_
          refine R.s rfl (s.eH (us:=[w9,xa,vv,vx,.int .i64 (((eM m x1).1).ae),.int .i64 (((eM m x1).1).af)]) (cs':=[w9,xa,vv,vx,.int .i64 (((eM m x1).1).ae),.int .i64 (((eM m x1).1).af)]) 1 _ rfl rfl rfl (fun _ _=>rfl) (.inl av) (fun w hw=>(ao (Sl.one ((fun _=>Wd.aS 0 rfl) w hw)) (ao (Sl.one ((fun _=>Wd.aS 1 rfl) w hw)) (ao (Sl.one ((fun _=>Wd.aS 2 rfl) w hw)) (ao (Sl.one ((fun _=>Wd.aS 3 rfl) w hw)) (ao rfl (ao rfl aO))))))) rfl rfl rfl) fun _=>?_
          refine R.nil ?_
          refine R.reg rfl<|R.u 1 rfl<|R.q (q.add (r:=((k+1:Nat):Int)) rfl rfl (wr (by omega))) rfl<|R.u 1 rfl<|R.nil ?_
          refine R.back (k+1,((eM m x1).1),w9,xa,vv,vx) rfl (by (exact ⟨by omega,by rw [j1 hx1,qa (by rw [← HM];assumption),← HM],HL⟩)) (by dsimp only;omega) ⟨rfl,rfl,rfl,rfl,trivial⟩ (fun _=>Wd.aK [1,2,3] [0,1,2,3,8,9,10,11,12,13] rfl rfl rfl)
        ·
          refine R.q (q.pF rfl rfl Tryz.underlying35 (by omega)) rfl<|R.nil ?_
          refine R.aH rfl rfl ?_
          refine R.reg rfl<|R.u 1 rfl<|R.q (q.add (r:=((k+1:Nat):Int)) rfl rfl (wr (by omega))) rfl<|R.u 1 rfl<|R.nil ?_
          refine R.back (k+1,m,gV,kL,jm,kA) rfl (by (exact ⟨by omega,by rw [j1 hx1,sF (by rw [← HM];assumption),← HM],HL⟩)) (by dsimp only;omega) ⟨rfl,rfl,rfl,rfl,trivial⟩ (fun _=>Wd.aK [1,2,3] [4,5,6,7,8,9,10,11,12,13] rfl rfl rfl)
    ·
      refine R.q (q.lss rfl rfl (decide_eq_false (by omega))) rfl<|R.nil ?_
      refine R.aH rfl rfl ?_
      refine R.reg rfl<|R.q (q.cF 0 rfl rfl av) rfl<|?_
      refine R.s rfl (s.eH (us:=[gV,kL,jm,kA,.int .i64 m.ae,.int .i64 m.af]) (cs':=[gV,kL,jm,kA,.int .i64 m.ae,.int .i64 m.af]) 1 _ rfl rfl rfl (fun _ _=>rfl) (.inl av) (fun w hw=>(ao (Sl.one ((fun _=>Wd.aS 0 rfl) w hw)) (ao (Sl.one ((fun _=>Wd.aS 1 rfl) w hw)) (ao (Sl.one ((fun _=>Wd.aS 2 rfl) w hw)) (ao (Sl.one ((fun _=>Wd.aS 3 rfl) w hw)) (ao rfl (ao rfl aO))))))) rfl rfl rfl) fun _=>?_
      refine R.u 1 rfl<|R.nil ?_
      have hz:aF l=(m,true):=by (unfold aF;rw [if_pos HL,HM,List.take_of_length_le (by omega)])
      rw [hz]
      exact R.w2 (gV,kL,jm,kA) [2] [0,1,2,3] rfl Tryz.results23 (RV.cell 1 rfl rfl av) (RV.tmp rfl) rfl rfl rfl (cx rfl rfl)
  ·
    refine R.c (q.call zV rfl rfl (fun w hw=>(cv (congrArg Value.bool h1) (nE _ (l) (80) w ((fun _=>Wd.aS 0 rfl) w hw) (hw.acts 1 rfl) )))) rfl<|R.u 1 rfl<|R.nil ?_
    refine R.aE rfl rfl ?_
    refine R.reg rfl<|R.q (q.build (cs:=[.slice none 0 0,.slice none 0 0,.slice none 0 0,.slice none 0 0,.int .i64 0,.int .i64 0]) cJ rfl rfl) rfl<|?_
    refine R.s rfl (s.st (us:=[.slice none 0 0,.slice none 0 0,.slice none 0 0,.slice none 0 0,.int .i64 0,.int .i64 0]) (cs':=[.slice none 0 0,.slice none 0 0,.slice none 0 0,.slice none 0 0,.int .i64 0,.int .i64 0]) 0 _ rfl rfl rfl rfl (.inl av) rfl rfl rfl rfl) fun _=>?_
    refine R.u 1 rfl<|R.nil ?_
    refine R.mp (fun _ hw=>hw.aU (α:=ak)) ?_
    refine R.mp (fun _ hw=>hw.aU (α:=ai)) ?_
    refine R.mp (fun _ hw=>hw.aU (α:=Held)) ?_
    refine R.mp (fun _ hw=>hw.aU (α:=Note)) ?_
    have hz:aF l=((⟨[],[],[],[],0,0⟩:au),false):=by (unfold aF;rw [if_neg (by simp_all)];rfl)
    rw [hz]
    exact R.w2 ((.slice none 0 0),(.slice none 0 0),(.slice none 0 0),(.slice none 0 0)) [1] [3,2,1,0] rfl Tryz.results23 (RV.cell 0 rfl rfl av) (RV.tmp rfl) rfl rfl rfl (cx rfl rfl)
set_option maxRecDepth 100000 in
theorem oa (ra rh rj rk:Value)(a:au)(rl rm rq rr:Value)(b:au)(w:World)(AK:Sl w ra a.aj)(ru:Sl w rh a.Things)(xb:Sl w rj a.Held)(rx:Sl w rk a.Notes)(AL:Sl w rl b.aj)(tM:Sl w rm b.Things)(xc:Sl w rq b.Held)(tN:Sl w rr b.Notes):Calls Tryz.prog 18 #[.agg #[ra,rh,rj,rk,.int .i64 a.ae,.int .i64 a.af],.agg #[rl,rm,rq,rr,.int .i64 b.ae,.int .i64 b.af]] w fun e w'=>e = .returned (.bool (decide (a=b)))∧Ext w w':=by
  have ba:=ru.dQ;have bb:=tM.dQ;have bc:=rx.dQ;have bd:=tN.dQ
  refine R.enter (n:=93) (vs:=[.agg #[ra,rh,rj,rk,.int .i64 a.ae,.int .i64 a.af],.agg #[rl,rm,rq,rr,.int .i64 b.ae,.int .i64 b.af]]) [] [(0,.agg #[ra,rh,rj,rk,.int .i64 a.ae,.int .i64 a.af]),(1,.agg #[rl,rm,rq,rr,.int .i64 b.ae,.int .i64 b.af])] Tryz.func18 rfl rfl rfl rfl ?_
  refine R.reg rfl<|?_
  refine R.s rfl (s.box (cs:=[ra,rh,rj,rk,.int .i64 a.ae,.int .i64 a.af]) rfl rfl rfl) fun b1=>?_
  refine R.s rfl (s.box (cs:=[rl,rm,rq,rr,.int .i64 b.ae,.int .i64 b.af]) rfl rfl rfl) fun b2=>?_
  refine R.u 1 rfl<|R.nil ?_
  refine R.reg rfl<|R.q (q.aX (off':=0) rfl aY rfl) rfl<|R.q (q.ld 1 rfl rfl bq rfl) rfl<|R.q (q.aX (off':=0) rfl aY rfl) rfl<|R.q (q.ld 0 rfl rfl bq rfl) rfl<|?_
  rcases Bool.eq_false_or_eq_true (decide (a.aj=b.aj)) with h1|h1
  ·
    refine R.c (q.call xO rfl rfl (fun w hw=>(cv (congrArg Value.bool h1) (kf _ (a.aj) _ (b.aj) w ((fun _=>Wd.old AK) w hw) ((fun _=>Wd.old AL) w hw) )))) rfl<|R.u 1 rfl<|R.nil ?_
    refine R.reg rfl<|R.q (q.aX (off':=2) rfl bJ rfl) rfl<|R.q (q.ld 1 rfl rfl cw rfl) rfl<|R.q (q.aX (off':=2) rfl bJ rfl) rfl<|R.q (q.ld 0 rfl rfl cw rfl) rfl<|?_
    rcases Bool.eq_false_or_eq_true (decide (a.Held=b.Held)) with h2|h2
    ·
      refine R.c (q.call sk rfl rfl (fun w hw=>(cv (congrArg Value.bool h2) (gw _ (a.Held) _ (b.Held) w ((fun _=>Wd.old xb) w hw) ((fun _=>Wd.old xc) w hw) )))) rfl<|R.u 1 rfl<|R.nil ?_
      refine R.reg rfl<|R.u 7 rfl<|R.qg rfl (q.aX (off':=4) rfl bL rfl) rfl<|R.qg rfl (q.ld 1 rfl rfl aA rfl) rfl<|R.qg rfl (q.aX (off':=4) rfl bL rfl) rfl<|R.qg rfl (q.ld 0 rfl rfl aA rfl) rfl<|?_
      by_cases h3:a.ae=b.ae
      ·
        refine R.qg rfl (q.neq rfl rfl (bne_eq_false_iff_eq.2 (by omega))) rfl<|R.u 2 rfl<|R.qg rfl (q.aX (off':=5) rfl cE rfl) rfl<|R.qg rfl (q.ld 1 rfl rfl aA rfl) rfl<|R.qg rfl (q.aX (off':=5) rfl cE rfl) rfl<|R.qg rfl (q.ld 0 rfl rfl aA rfl) rfl<|?_
        by_cases h4:a.af=b.af
        ·
          refine R.qg rfl (q.neq rfl rfl (bne_eq_false_iff_eq.2 (by omega))) rfl<|R.u 2 rfl<|R.qg rfl (q.aX (off':=1) rfl bI rfl) rfl<|R.qg rfl (q.ld 1 rfl rfl cu rfl) rfl<|R.qg rfl (q.len' (fun _=>Wd.old ru) rfl Tryz.underlying28) rfl<|R.qg rfl (q.aX (off':=1) rfl bI rfl) rfl<|R.qg rfl (q.ld 0 rfl rfl cu rfl) rfl<|R.qg rfl (q.len' (fun _=>Wd.old tM) rfl Tryz.underlying28) rfl<|?_
          by_cases h5:a.Things.length=b.Things.length
          ·
            refine R.qg rfl (q.neq rfl rfl (bne_eq_false_iff_eq.2 (by omega))) rfl<|R.u 2 rfl<|R.qg rfl (q.aX (off':=3) rfl bK rfl) rfl<|R.qg rfl (q.ld 1 rfl rfl bX rfl) rfl<|R.qg rfl (q.len' (fun _=>Wd.old rx) rfl Tryz.underlying30) rfl<|R.qg rfl (q.aX (off':=3) rfl bK rfl) rfl<|R.qg rfl (q.ld 0 rfl rfl bX rfl) rfl<|R.qg rfl (q.len' (fun _=>Wd.old tN) rfl Tryz.underlying30) rfl<|?_
            by_cases h6:a.Notes.length=b.Notes.length
            ·
              refine R.qg rfl (q.neq rfl rfl (bne_eq_false_iff_eq.2 (by omega))) rfl<|R.u 1 rfl<|R.nil ?_
              refine R.aH rfl rfl ?_
              refine R.reg rfl<|R.u 1 rfl<|R.nil ?_
              refine R.loop (fun k:Nat=>[(2,.pointer (some ⟨b1,0,none⟩)),(3,.pointer (some ⟨b2,0,none⟩)),(7,.int .i64 (k:Int))]) (fun k:Nat=>[ah.box b2 [rl,rm,rq,rr,.int .i64 b.ae,.int .i64 b.af] 32,ah.box b1 [ra,rh,rj,rk,.int .i64 a.ae,.int .i64 a.af] 32]) (fun k:Nat=>[]) (fun k:Nat=>k≤a.Things.length ∧ ∀j,j<k→a.Things[j]? = b.Things[j]?) (fun k:Nat=>a.Things.length-k) 0 rfl (by exact ⟨by omega,fun j hj=>absurd hj (Nat.not_lt_zero _)⟩) ⟨rfl,rfl,rfl,trivial⟩ (fun _=>Wd.pick [0,1] [] rfl rfl rfl) ?_
              rintro k ⟨hk,HA⟩
              refine R.reg rfl<|R.u 1 rfl<|R.q (q.aX (off':=1) rfl bI rfl) rfl<|R.q (q.ld 1 rfl rfl cu rfl) rfl<|R.q (q.len' (fun _=>Wd.old ru) rfl Tryz.underlying28) rfl<|?_
              by_cases h7:k<a.Things.length
              ·
                refine R.q (q.lss rfl rfl (decide_eq_true (by omega))) rfl<|R.nil ?_
                refine R.aE rfl rfl ?_
                obtain ⟨x1,hx1⟩:∃z,a.Things[k]? = some z:=⟨_,List.getElem?_eq_getElem (by omega)⟩
                obtain ⟨x2,hx2⟩:∃z,b.Things[k]? = some z:=⟨_,List.getElem?_eq_getElem (by omega)⟩
                by_cases h8:x1=x2
                ·
                  refine R.eU rfl mixed (by kernel_rfl)<|Q.q (q.aX (off':=1) rfl bI rfl) rfl<|Q.q (q.ld 1 rfl rfl cu rfl) rfl<|Q.u 1 rfl<|Q.q (q.idx (i:=k) (fun _=>Wd.old ru) rfl rfl eQ rfl hx1) rfl<|Q.q (q.dY (ds:=[.int .i64 x1.ID,.int .i64 x1.Kind,.string x1.Data]) (fun _=>Wd.old ru) hx1 rfl eR rfl) rfl<|Q.q (q.aX (off':=1) rfl bI rfl) rfl<|Q.q (q.ld 0 rfl rfl cu rfl) rfl<|Q.u 1 rfl<|Q.q (q.idx (i:=k) (fun _=>Wd.old tM) rfl rfl eQ rfl hx2) rfl<|Q.q (q.dY (ds:=[.int .i64 x2.ID,.int .i64 x2.Kind,.string x2.Data]) (fun _=>Wd.old tM) hx2 rfl eR rfl) rfl<|Q.q (q.oh (x:=x1) (y:=x2) xW rfl rfl h8) rfl<|Q.nil ?_
                  refine R.aH rfl rfl ?_
                  refine R.reg rfl<|R.u 1 rfl<|R.q (q.add (r:=((k+1:Nat):Int)) rfl rfl (wr (by omega))) rfl<|R.u 1 rfl<|R.nil ?_
                  refine R.back (k+1) rfl (by (exact ⟨by omega,iu HA hx1 hx2 (by assumption)⟩)) (by omega) ⟨rfl,rfl,rfl,trivial⟩ (fun _=>Wd.pick [0,1] [] rfl rfl rfl)
                ·
                  refine R.eU rfl mixed (by kernel_rfl)<|Q.q (q.aX (off':=1) rfl bI rfl) rfl<|Q.q (q.ld 1 rfl rfl cu rfl) rfl<|Q.u 1 rfl<|Q.q (q.idx (i:=k) (fun _=>Wd.old ru) rfl rfl eQ rfl hx1) rfl<|Q.q (q.dY (ds:=[.int .i64 x1.ID,.int .i64 x1.Kind,.string x1.Data]) (fun _=>Wd.old ru) hx1 rfl eR rfl) rfl<|Q.q (q.aX (off':=1) rfl bI rfl) rfl<|Q.q (q.ld 0 rfl rfl cu rfl) rfl<|Q.u 1 rfl<|Q.q (q.idx (i:=k) (fun _=>Wd.old tM) rfl rfl eQ rfl hx2) rfl<|Q.q (q.dY (ds:=[.int .i64 x2.ID,.int .i64 x2.Kind,.string x2.Data]) (fun _=>Wd.old tM) hx2 rfl eR rfl) rfl<|Q.q (q.om (x:=x1) (y:=x2) xW rfl rfl h8) rfl<|Q.nil ?_
                  refine R.aE rfl rfl ?_
                  refine R.reg rfl<|R.u 1 rfl<|R.nil ?_
                  exact R.rv rfl Tryz.results18 rfl (rB (by (exact (decide_eq_false (fun e=>by subst e;have hq:=hx1.symm.trans hx2;injection hq;contradiction)).symm)))
              ·
                refine R.q (q.lss rfl rfl (decide_eq_false (by omega))) rfl<|R.nil ?_
                refine R.aH rfl rfl ?_
                refine R.reg rfl<|R.u 1 rfl<|R.nil ?_
                refine R.loop (fun k:Nat=>[(2,.pointer (some ⟨b1,0,none⟩)),(3,.pointer (some ⟨b2,0,none⟩)),(8,.int .i64 (k:Int))]) (fun k:Nat=>[ah.box b2 [rl,rm,rq,rr,.int .i64 b.ae,.int .i64 b.af] 32,ah.box b1 [ra,rh,rj,rk,.int .i64 a.ae,.int .i64 a.af] 32]) (fun k:Nat=>[]) (fun k:Nat=>k≤a.Notes.length ∧ ∀j,j<k→a.Notes[j]? = b.Notes[j]?) (fun k:Nat=>a.Notes.length-k) 0 rfl (by exact ⟨by omega,fun j hj=>absurd hj (Nat.not_lt_zero _)⟩) ⟨rfl,rfl,rfl,trivial⟩ (fun _=>Wd.pick [0,1] [] rfl rfl rfl) ?_
                rintro k ⟨hk2,HA2⟩
                refine R.reg rfl<|R.u 1 rfl<|R.q (q.aX (off':=3) rfl bK rfl) rfl<|R.q (q.ld 1 rfl rfl bX rfl) rfl<|R.q (q.len' (fun _=>Wd.old rx) rfl Tryz.underlying30) rfl<|?_
                by_cases h9:k<a.Notes.length
                ·
                  refine R.q (q.lss rfl rfl (decide_eq_true (by omega))) rfl<|R.nil ?_
                  refine R.aE rfl rfl ?_
                  obtain ⟨x3,hx3⟩:∃z,a.Notes[k]? = some z:=⟨_,List.getElem?_eq_getElem (by omega)⟩
                  obtain ⟨x4,hx4⟩:∃z,b.Notes[k]? = some z:=⟨_,List.getElem?_eq_getElem (by omega)⟩
                  by_cases h10:x3=x4
                  ·
                    refine R.eU rfl mixed (by kernel_rfl)<|Q.q (q.aX (off':=3) rfl bK rfl) rfl<|Q.q (q.ld 1 rfl rfl bX rfl) rfl<|Q.u 1 rfl<|Q.q (q.idx (i:=k) (fun _=>Wd.old rx) rfl rfl dH rfl hx3) rfl<|Q.q (q.dY (ds:=[.int .i64 x3.Port,.string x3.Data,.int .i64 x3.ar,.int .i64 x3.ak]) (fun _=>Wd.old rx) hx3 rfl bT rfl) rfl<|Q.q (q.aX (off':=3) rfl bK rfl) rfl<|Q.q (q.ld 0 rfl rfl bX rfl) rfl<|Q.u 1 rfl<|Q.q (q.idx (i:=k) (fun _=>Wd.old tN) rfl rfl dH rfl hx4) rfl<|Q.q (q.dY (ds:=[.int .i64 x4.Port,.string x4.Data,.int .i64 x4.ar,.int .i64 x4.ak]) (fun _=>Wd.old tN) hx4 rfl bT rfl) rfl<|Q.q (q.oh (x:=x3) (y:=x4) xX rfl rfl h10) rfl<|Q.nil ?_
                    refine R.aH rfl rfl ?_
                    refine R.reg rfl<|R.u 1 rfl<|R.q (q.add (r:=((k+1:Nat):Int)) rfl rfl (wr (by omega))) rfl<|R.u 1 rfl<|R.nil ?_
                    refine R.back (k+1) rfl (by (exact ⟨by omega,iu HA2 hx3 hx4 (by assumption)⟩)) (by omega) ⟨rfl,rfl,rfl,trivial⟩ (fun _=>Wd.pick [0,1] [] rfl rfl rfl)
                  ·
                    refine R.eU rfl mixed (by kernel_rfl)<|Q.q (q.aX (off':=3) rfl bK rfl) rfl<|Q.q (q.ld 1 rfl rfl bX rfl) rfl<|Q.u 1 rfl<|Q.q (q.idx (i:=k) (fun _=>Wd.old rx) rfl rfl dH rfl hx3) rfl<|Q.q (q.dY (ds:=[.int .i64 x3.Port,.string x3.Data,.int .i64 x3.ar,.int .i64 x3.ak]) (fun _=>Wd.old rx) hx3 rfl bT rfl) rfl<|Q.q (q.aX (off':=3) rfl bK rfl) rfl<|Q.q (q.ld 0 rfl rfl bX rfl) rfl<|Q.u 1 rfl<|Q.q (q.idx (i:=k) (fun _=>Wd.old tN) rfl rfl dH rfl hx4) rfl<|Q.q (q.dY (ds:=[.int .i64 x4.Port,.string x4.Data,.int .i64 x4.ar,.int .i64 x4.ak]) (fun _=>Wd.old tN) hx4 rfl bT rfl) rfl<|Q.q (q.om (x:=x3) (y:=x4) xX rfl rfl h10) rfl<|Q.nil ?_
                    refine R.aE rfl rfl ?_
                    refine R.reg rfl<|R.u 1 rfl<|R.nil ?_
                    exact R.rv rfl Tryz.results18 rfl (rB (by (exact (decide_eq_false (fun e=>by subst e;have hq:=hx3.symm.trans hx4;injection hq;contradiction)).symm)))
                ·
                  refine R.q (q.lss rfl rfl (decide_eq_false (by omega))) rfl<|R.nil ?_
                  refine R.aH rfl rfl ?_
                  refine R.reg rfl<|R.u 1 rfl<|R.nil ?_
                  exact R.rv rfl Tryz.results18 rfl (rB (by (refine (decide_eq_true ?_).symm;have eT:=eW (a:=a.Things) (b:=b.Things) (by omega) (by assumption) HA;have eN:=eW (a:=a.Notes) (b:=b.Notes) (by omega) (by assumption) HA2;cases a;cases b;simp_all)))
            ·
              refine R.qg rfl (q.neq rfl rfl (bne_iff_ne.2 (by omega))) rfl<|R.u 1 rfl<|R.nil ?_
              refine R.aE rfl rfl ?_
              refine R.reg rfl<|R.u 1 rfl<|R.nil ?_
              exact R.rv rfl Tryz.results18 rfl (rB (by (exact (decide_eq_false (fun e=>by subst e;first|omega|(simp_all;done))).symm)))
          ·
            refine R.qg rfl (q.neq rfl rfl (bne_iff_ne.2 (by omega))) rfl<|R.u 10 rfl<|R.nil ?_
            refine R.aE rfl rfl ?_
            refine R.reg rfl<|R.u 1 rfl<|R.nil ?_
            exact R.rv rfl Tryz.results18 rfl (rB (by (exact (decide_eq_false (fun e=>by subst e;first|omega|(simp_all;done))).symm)))
        ·
          refine R.qg rfl (q.neq rfl rfl (bne_iff_ne.2 (by omega))) rfl<|R.u 19 rfl<|R.nil ?_
          refine R.aE rfl rfl ?_
          refine R.reg rfl<|R.u 1 rfl<|R.nil ?_
          exact R.rv rfl Tryz.results18 rfl (rB (by (exact (decide_eq_false (fun e=>by subst e;first|omega|(simp_all;done))).symm)))
      ·
        refine R.qg rfl (q.neq rfl rfl (bne_iff_ne.2 (by omega))) rfl<|R.u 26 rfl<|R.nil ?_
        refine R.aE rfl rfl ?_
        refine R.reg rfl<|R.u 1 rfl<|R.nil ?_
        exact R.rv rfl Tryz.results18 rfl (rB (by (exact (decide_eq_false (fun e=>by subst e;first|omega|(simp_all;done))).symm)))
    ·
      refine R.c (q.call sk rfl rfl (fun w hw=>(cv (congrArg Value.bool h2) (gw _ (a.Held) _ (b.Held) w ((fun _=>Wd.old xb) w hw) ((fun _=>Wd.old xc) w hw) )))) rfl<|R.u 1 rfl<|R.nil ?_
      refine R.reg rfl<|R.u 38 rfl<|R.nil ?_
      refine R.aE rfl rfl ?_
      refine R.reg rfl<|R.u 1 rfl<|R.nil ?_
      exact R.rv rfl Tryz.results18 rfl (rB (by (exact (decide_eq_false (fun e=>by subst e;first|omega|(simp_all;done))).symm)))
  ·
    refine R.c (q.call xO rfl rfl (fun w hw=>(cv (congrArg Value.bool h1) (kf _ (a.aj) _ (b.aj) w ((fun _=>Wd.old AK) w hw) ((fun _=>Wd.old AL) w hw) )))) rfl<|R.u 1 rfl<|R.nil ?_
    refine R.reg rfl<|R.q (q.aX (off':=2) rfl bJ rfl) rfl<|R.q (q.ld 1 rfl rfl cw rfl) rfl<|R.q (q.aX (off':=2) rfl bJ rfl) rfl<|R.q (q.ld 0 rfl rfl cw rfl) rfl<|?_
    rcases Bool.eq_false_or_eq_true (decide (a.Held=b.Held)) with h11|h11
    ·
      refine R.c (q.call sk rfl rfl (fun w hw=>(cv (congrArg Value.bool h11) (gw _ (a.Held) _ (b.Held) w ((fun _=>Wd.old xb) w hw) ((fun _=>Wd.old xc) w hw) )))) rfl<|R.u 1 rfl<|R.nil ?_
      refine R.reg rfl<|R.u 38 rfl<|R.nil ?_
      refine R.aE rfl rfl ?_
      refine R.reg rfl<|R.u 1 rfl<|R.nil ?_
      exact R.rv rfl Tryz.results18 rfl (rB (by (exact (decide_eq_false (fun e=>by subst e;first|omega|(simp_all;done))).symm)))
    ·
      refine R.c (q.call sk rfl rfl (fun w hw=>(cv (congrArg Value.bool h11) (gw _ (a.Held) _ (b.Held) w ((fun _=>Wd.old xb) w hw) ((fun _=>Wd.old xc) w hw) )))) rfl<|R.u 1 rfl<|R.nil ?_
      refine R.reg rfl<|R.u 38 rfl<|R.nil ?_
      refine R.aE rfl rfl ?_
      refine R.reg rfl<|R.u 1 rfl<|R.nil ?_
      exact R.rv rfl Tryz.results18 rfl (rB (by (exact (decide_eq_false (fun e=>by subst e;first|omega|(simp_all;done))).symm)))
theorem yS:(bg (⟨[],[],[],[],1,1⟩:au) (⟨1,0⟩:Place) 1).2=0:=rfl
theorem yU:bg (⟨[],[],[],[],1,1⟩:au) (⟨1,0⟩:Place) 1=(⟨[⟨1,1,7,0,0⟩],[⟨1,1,⟨#[]⟩⟩],[⟨⟨1,0⟩,1⟩],[],2,2⟩,0):=by
  have e:ck [] ⟨1,0⟩ 1=[⟨⟨1,0⟩,1⟩]:=by rw [put_eq List.Pairwise.nil];decide
  have a:hY [] ⟨1,0⟩=0:=by rw [at_eq List.Pairwise.nil];decide
  unfold bg eE aQ
  rw [if_pos (.inl rfl),if_pos (by rw [a];rfl),if_neg (by decide)]
  simp [e]
theorem ry:ap ((bg (⟨[],[],[],[],1,1⟩:au) (⟨1,0⟩:Place) 1).1) (⟨1,0⟩:Place)=(⟨1,1,7,0,0⟩,0):=by
  have a:hY [⟨⟨1,0⟩,1⟩] ⟨1,0⟩=1:=by rw [at_eq (List.pairwise_singleton _ _)];decide
  rw [yU];unfold ap;rw [if_pos (by decide)];dsimp only;rw [a];rfl
section
attribute [local irreducible] bg ap
theorem yV:Ok (⟨[],[],[],[],1,1⟩:au):=Sz.new.ok (by decide)
theorem yW:Ok (bg (⟨[],[],[],[],1,1⟩:au) (⟨1,0⟩:Place) 1).1:=(sG Sz.new _ _).ok (by decide)
theorem vy  (w:World)  : Calls Tryz.prog 22 #[] w fun e w'=>e = .returned (.bool true)∧Ext w w':=by
  have f0:=yV;have f1:=yS;have f2:=yW;have f3:(ap ((bg (⟨[],[],[],[],1,1⟩:au) (⟨1,0⟩:Place) 1).1) (⟨1,0⟩:Place)).2=0:=(by rw [ry]);have f4:((ap ((bg (⟨[],[],[],[],1,1⟩:au) (⟨1,0⟩:Place) 1).1) (⟨1,0⟩:Place)).1).Rights=7:=(by rw [ry]);have f5:((ap ((bg (⟨[],[],[],[],1,1⟩:au) (⟨1,0⟩:Place) 1).1) (⟨1,0⟩:Place)).1).ID=1:=(by rw [ry])
  refine R.enter (n:=33) (vs:=[]) [] [] Tryz.func22 rfl rfl rfl rfl ?_
  refine R.reg rfl<|R.u 1 rfl<|R.nil ?_
  refine R.reg rfl<|?_
  refine R.s (B':=(fun g_:Value×Value×Value×Value=>[])) (F':=(fun g_:Value×Value×Value×Value=>[ah.ls g_.1 (((⟨[],[],[],[],1,1⟩:au)).aj:List ak),ah.ls g_.2.1 (((⟨[],[],[],[],1,1⟩:au)).Things:List ai),ah.ls g_.2.2.1 (((⟨[],[],[],[],1,1⟩:au)).Held:List Held),ah.ls g_.2.2.2 (((⟨[],[],[],[],1,1⟩:au)).Notes:List Note)])) rfl (s.bA (B0:=[]) (Br:=[]) (F0:=[]) [] [] (fun g_:Value×Value×Value×Value => .agg #[g_.1,g_.2.1,g_.2.2.1,g_.2.2.2,.int .i64 (((⟨[],[],[],[],1,1⟩:au)).ae),.int .i64 (((⟨[],[],[],[],1,1⟩:au)).af)]) (fun g_:Value×Value×Value×Value=>[]) (fun g_:Value×Value×Value×Value=>[ah.ls g_.1 (((⟨[],[],[],[],1,1⟩:au)).aj:List ak),ah.ls g_.2.1 (((⟨[],[],[],[],1,1⟩:au)).Things:List ai),ah.ls g_.2.2.1 (((⟨[],[],[],[],1,1⟩:au)).Held:List Held),ah.ls g_.2.2.2 (((⟨[],[],[],[],1,1⟩:au)).Notes:List Note)]) rfl rfl rfl zX rfl rfl (fun w own hw H=>p7  w own H ) rfl) ?_
  rintro ⟨z1,z2,z3,z4⟩
  dsimp only
  refine R.q (q.build (cs:=[.int .i64 1,.int .i64 0]) lW rfl rfl) rfl<|?_
  refine R.s (B':=(fun g_:Value×Value×Value×Value=>[])) (F':=(fun g_:Value×Value×Value×Value=>[ah.ls g_.1 ((((bg (⟨[],[],[],[],1,1⟩:au) (⟨1,0⟩:Place) 1)).1).aj:List ak),ah.ls g_.2.1 ((((bg (⟨[],[],[],[],1,1⟩:au) (⟨1,0⟩:Place) 1)).1).Things:List ai),ah.ls g_.2.2.1 ((((bg (⟨[],[],[],[],1,1⟩:au) (⟨1,0⟩:Place) 1)).1).Held:List Held),ah.ls g_.2.2.2 ((((bg (⟨[],[],[],[],1,1⟩:au) (⟨1,0⟩:Place) 1)).1).Notes:List Note),ah.ls z1 (([]):List ak),ah.ls z2 (([]):List ai),ah.ls z3 (([]):List Held),ah.ls z4 (([]):List Note)])) rfl (s.bA (B0:=[]) (Br:=[]) (F0:=[ah.ls z1 ((⟨[],[],[],[],1,1⟩:au).aj:List ak),ah.ls z2 ((⟨[],[],[],[],1,1⟩:au).Things:List ai),ah.ls z3 ((⟨[],[],[],[],1,1⟩:au).Held:List Held),ah.ls z4 ((⟨[],[],[],[],1,1⟩:au).Notes:List Note)]) [] [0,1,2,3] (fun g_:Value×Value×Value×Value => .tuple #[.agg #[g_.1,g_.2.1,g_.2.2.1,g_.2.2.2,.int .i64 ((((bg (⟨[],[],[],[],1,1⟩:au) (⟨1,0⟩:Place) 1)).1).ae),.int .i64 ((((bg (⟨[],[],[],[],1,1⟩:au) (⟨1,0⟩:Place) 1)).1).af)],eG (((bg (⟨[],[],[],[],1,1⟩:au) (⟨1,0⟩:Place) 1)).2)]) (fun g_:Value×Value×Value×Value=>[]) (fun g_:Value×Value×Value×Value=>[ah.ls g_.1 ((((bg (⟨[],[],[],[],1,1⟩:au) (⟨1,0⟩:Place) 1)).1).aj:List ak),ah.ls g_.2.1 ((((bg (⟨[],[],[],[],1,1⟩:au) (⟨1,0⟩:Place) 1)).1).Things:List ai),ah.ls g_.2.2.1 ((((bg (⟨[],[],[],[],1,1⟩:au) (⟨1,0⟩:Place) 1)).1).Held:List Held),ah.ls g_.2.2.2 ((((bg (⟨[],[],[],[],1,1⟩:au) (⟨1,0⟩:Place) 1)).1).Notes:List Note)]) rfl rfl rfl xM rfl rfl (fun w own hw H=>oG z1 z2 z3 z4 ((⟨[],[],[],[],1,1⟩:au)) ((⟨1,0⟩:Place)) (1) w own H (by assumption)) rfl) ?_
  rintro ⟨z5,z6,z7,z8⟩
  dsimp only
  refine R.u 3 rfl<|?_
  refine R.s rfl (s.alloc (cs:=[.slice none 0 0,.slice none 0 0,.slice none 0 0,.slice none 0 0,.int .i64 0,.int .i64 0]) cj rfl rfl) fun b1=>?_
  refine R.s rfl (s.eH (us:=[z5,z6,z7,z8,.int .i64 (((bg (⟨[],[],[],[],1,1⟩:au) (⟨1,0⟩:Place) 1).1).ae),.int .i64 (((bg (⟨[],[],[],[],1,1⟩:au) (⟨1,0⟩:Place) 1).1).af)]) (cs':=[z5,z6,z7,z8,.int .i64 (((bg (⟨[],[],[],[],1,1⟩:au) (⟨1,0⟩:Place) 1).1).ae),.int .i64 (((bg (⟨[],[],[],[],1,1⟩:au) (⟨1,0⟩:Place) 1).1).af)]) 0 _ rfl rfl rfl (fun _ _=>rfl) (.inl av) (fun w hw=>(ao (Sl.one ((fun _=>Wd.aS 0 rfl) w hw)) (ao (Sl.one ((fun _=>Wd.aS 1 rfl) w hw)) (ao (Sl.one ((fun _=>Wd.aS 2 rfl) w hw)) (ao (Sl.one ((fun _=>Wd.aS 3 rfl) w hw)) (ao rfl (ao rfl aO))))))) rfl rfl rfl) fun _=>?_
  refine R.u 1 rfl<|R.nil ?_
  refine R.reg rfl<|R.q (q.cF 0 rfl rfl av) rfl<|R.q (q.build (cs:=[.int .i64 1,.int .i64 0]) lW rfl rfl) rfl<|R.c (q.call ng rfl rfl (fun w hw=>(i6 _ _ _ _ (((bg (⟨[],[],[],[],1,1⟩:au) (⟨1,0⟩:Place) 1).1)) ((⟨1,0⟩:Place)) w ((fun _=>Wd.aS 0 rfl) w hw) ((fun _=>Wd.aS 1 rfl) w hw) ((fun _=>Wd.aS 2 rfl) w hw) ((fun _=>Wd.aS 3 rfl) w hw) (by assumption)))) rfl<|R.u 3 rfl<|?_
  refine R.s rfl (s.alloc (cs:=[.int .i64 0,.int .i64 0,.int .i64 0,.int .i64 0,.int .i64 0]) br rfl rfl) fun b2=>?_
  refine R.s rfl (s.st (us:=[.int .i64 (((ap ((bg (⟨[],[],[],[],1,1⟩:au) (⟨1,0⟩:Place) 1).1) (⟨1,0⟩:Place)).1).ID),.int .i64 (((ap ((bg (⟨[],[],[],[],1,1⟩:au) (⟨1,0⟩:Place) 1).1) (⟨1,0⟩:Place)).1).ai),.int .i64 (((ap ((bg (⟨[],[],[],[],1,1⟩:au) (⟨1,0⟩:Place) 1).1) (⟨1,0⟩:Place)).1).Rights),.int .i64 (((ap ((bg (⟨[],[],[],[],1,1⟩:au) (⟨1,0⟩:Place) 1).1) (⟨1,0⟩:Place)).1).ar),.int .i64 (((ap ((bg (⟨[],[],[],[],1,1⟩:au) (⟨1,0⟩:Place) 1).1) (⟨1,0⟩:Place)).1).From)]) (cs':=[.int .i64 (((ap ((bg (⟨[],[],[],[],1,1⟩:au) (⟨1,0⟩:Place) 1).1) (⟨1,0⟩:Place)).1).ID),.int .i64 (((ap ((bg (⟨[],[],[],[],1,1⟩:au) (⟨1,0⟩:Place) 1).1) (⟨1,0⟩:Place)).1).ai),.int .i64 (((ap ((bg (⟨[],[],[],[],1,1⟩:au) (⟨1,0⟩:Place) 1).1) (⟨1,0⟩:Place)).1).Rights),.int .i64 (((ap ((bg (⟨[],[],[],[],1,1⟩:au) (⟨1,0⟩:Place) 1).1) (⟨1,0⟩:Place)).1).ar),.int .i64 (((ap ((bg (⟨[],[],[],[],1,1⟩:au) (⟨1,0⟩:Place) 1).1) (⟨1,0⟩:Place)).1).From)]) 0 _ rfl rfl rfl rfl (.inl aN) rfl rfl rfl rfl) fun _=>?_
  refine R.u 1 rfl<|R.nil ?_
  refine R.reg rfl<|R.u 1 rfl<|R.q (q.lU rfl rfl Tryz.underlying35 (by omega)) rfl<|R.u 2 rfl<|R.qg rfl (q.lU rfl rfl Tryz.underlying35 (by omega)) rfl<|R.u 2 rfl<|R.qg rfl (q.aX (off':=2) rfl fy rfl) rfl<|R.qg rfl (q.ld 0 rfl rfl aA rfl) rfl<|R.qg rfl (q.eql rfl rfl (beq_iff_eq.2 (by omega))) rfl<|R.u 2 rfl<|R.qg rfl (q.aX (off':=0) rfl bu rfl) rfl<|R.qg rfl (q.ld 0 rfl rfl aA rfl) rfl<|R.qg rfl (q.eql rfl rfl (beq_iff_eq.2 (by omega))) rfl<|R.u 2 rfl<|R.nil ?_
  exact R.rv rfl Tryz.results22 rfl (rB (by (rfl)))
end
end Go.Proofs.YtbkfhjaibhnkmaaGreatDoor
