import Derived.Test.YtbkfhjaibhnkmaaGreatDoorTSD26
import Derived.Test.YtbkfhjaibhnkmaaGreatDoorTSD27
import Derived.Test.YtbkfhjaibhnkmaaGreatDoorTSD13
import Derived.Test.YtbkfhjaibhnkmaaGreatDoorTSD28
namespace Go.Proofs.YtbkfhjaibhnkmaaGreatDoor
open Go Go.RowKit
set_option linter.unusedVariables false
set_option linter.unusedSimpArgs false
set_option maxRecDepth 100000
theorem jJ (bm:Value)(l:List Change)(most:Int)(w:World)(cp:Sl w bm l):Calls Tryz.prog 8 #[bm,iV most] w fun e w'=>e = .returned (.bool (iR l most))∧Ext w w':=by
 have ql:=cp.dH
 refine R.enter (n:=32) (vs:=[bm,iV most]) [] [(0,bm),(1,iV most)] Tryz.func8 rfl rfl rfl rfl ?_
 refine R.zK cp ?_
 refine R.reg rfl<|R.u 1 rfl<|R.nil ?_
 refine R.reg rfl<|R.u 1 rfl<|R.q (q.len' (fun _=>Wd.aT 0 rfl) rfl Tryz.underlying23) rfl<|R.u 1 rfl<|?_
 by_cases h1:most<(l.length:Int)
 ·
  refine R.q (q.gtr rfl rfl (decide_eq_true (by omega))) rfl<|R.nil ?_
  refine R.aD rfl rfl ?_
  refine R.reg rfl<|R.u 1 rfl<|R.nil ?_
  exact R.rv rfl Tryz.results8 rfl (rB (by (unfold iR;first|(rw [decide_eq_false (by omega)];rfl)|(rw [decide_eq_true (by omega),kr (by omega) HA];rfl)|(rw [eQ hx1 (show dU _=false from by unfold dU;simp;omega)];simp)|(rw [eQ hx1 (show dU _=false from by unfold dU;simp_all)];simp))))
 ·
  refine R.q (q.gtr rfl rfl (decide_eq_false (by omega))) rfl<|R.nil ?_
  refine R.aI rfl rfl ?_
  refine R.reg rfl<|R.u 1 rfl<|R.nil ?_
  refine R.loop (fun k:Nat=>[(0,bm),(5,iV (k:Int))]) (fun k:Nat=>[]) (fun k:Nat=>[ag.ls bm (l:List Change)]) (fun k:Nat=>k≤l.length∧(l.take k).all dU=true) (fun k:Nat=>l.length-k) 0 rfl (by exact ⟨by omega,rfl⟩) ⟨rfl,rfl,trivial⟩ (fun _=>Wd.pick [] [0] rfl rfl rfl) ?_
  rintro k ⟨hk,HA⟩
  refine R.reg rfl<|R.u 2 rfl<|R.q (q.len' (fun _=>Wd.aT 0 rfl) rfl Tryz.underlying23) rfl<|?_
  by_cases h2:k<l.length
  ·
   refine R.q (q.lss rfl rfl (decide_eq_true (by omega))) rfl<|R.nil ?_
   refine R.aD rfl rfl ?_
   refine R.reg rfl<|R.u 2 rfl<|?_
   obtain ⟨x1,hx1⟩:∃z,l[k]? = some z:=⟨_,List.getElem?_eq_getElem (by omega)⟩
   refine R.q (q.idx (i:=k) (fun _=>Wd.aT 0 rfl) rfl rfl bX rfl hx1) rfl<|R.q (q.dm (j':=0) (fun _=>Wd.aT 0 rfl) hx1 rfl bu rfl) rfl<|R.q (q.fk (fun _=>Wd.aT 0 rfl) hx1 rfl bF rfl) rfl<|R.q (q.lh rfl Tryz.underlying9) rfl<|?_
   by_cases h3:20<x1.Key.size
   ·
    refine R.q (q.gtr rfl rfl (decide_eq_true (by omega))) rfl<|R.u 9 rfl<|R.nil ?_
    refine R.aD rfl rfl ?_
    refine R.reg rfl<|R.u 1 rfl<|R.nil ?_
    exact R.rv rfl Tryz.results8 rfl (rB (by (unfold iR;first|(rw [decide_eq_false (by omega)];rfl)|(rw [decide_eq_true (by omega),kr (by omega) HA];rfl)|(rw [eQ hx1 (show dU _=false from by unfold dU;simp;omega)];simp)|(rw [eQ hx1 (show dU _=false from by unfold dU;simp_all)];simp))))
   ·
    refine R.q (q.gtr rfl rfl (decide_eq_false (by omega))) rfl<|R.u 3 rfl<|R.qg rfl (q.idx (i:=k) (fun _=>Wd.aT 0 rfl) rfl rfl bX rfl hx1) rfl<|R.qg rfl (q.dm (j':=1) (fun _=>Wd.aT 0 rfl) hx1 rfl eD rfl) rfl<|R.qg rfl (q.fk (fun _=>Wd.aT 0 rfl) hx1 rfl bF rfl) rfl<|R.qg rfl (q.lh rfl Tryz.underlying9) rfl<|?_
    by_cases h4:40<x1.Val.size
    ·
     refine R.qg rfl (q.gtr rfl rfl (decide_eq_true (by omega))) rfl<|R.u 1 rfl<|R.nil ?_
     refine R.aD rfl rfl ?_
     refine R.reg rfl<|R.u 1 rfl<|R.nil ?_
     exact R.rv rfl Tryz.results8 rfl (rB (by (unfold iR;first|(rw [decide_eq_false (by omega)];rfl)|(rw [decide_eq_true (by omega),kr (by omega) HA];rfl)|(rw [eQ hx1 (show dU _=false from by unfold dU;simp;omega)];simp)|(rw [eQ hx1 (show dU _=false from by unfold dU;simp_all)];simp))))
    ·
     refine R.qg rfl (q.gtr rfl rfl (decide_eq_false (by omega))) rfl<|R.u 1 rfl<|R.nil ?_
     refine R.aI rfl rfl ?_
     refine R.reg rfl<|R.u 1 rfl<|R.q (q.add (r:=((k+1:Nat):Int)) rfl rfl (wr (by omega))) rfl<|R.u 1 rfl<|R.nil ?_
     refine R.back (k+1) rfl (by (exact ⟨by omega,ry hx1 HA (by unfold dU;simp_all)⟩)) (by omega) ⟨rfl,rfl,trivial⟩ (fun _=>Wd.aM [] [0] rfl rfl rfl)
  ·
   refine R.q (q.lss rfl rfl (decide_eq_false (by omega))) rfl<|R.nil ?_
   refine R.aI rfl rfl ?_
   refine R.reg rfl<|R.u 1 rfl<|R.nil ?_
   exact R.rv rfl Tryz.results8 rfl (rB (by (unfold iR;first|(rw [decide_eq_false (by omega)];rfl)|(rw [decide_eq_true (by omega),kr (by omega) HA];rfl)|(rw [eQ hx1 (show dU _=false from by unfold dU;simp;omega)];simp)|(rw [eQ hx1 (show dU _=false from by unfold dU;simp_all)];simp))))
theorem oL (bm:Value)(l:List df)(most:Int)(w:World)(cp:Sl w bm l)(wm:∀x∈l,Sl w x.cv x.Changes):Calls Tryz.prog 7 #[bm,iV most] w fun e w'=>e = .returned (.bool (iw l most))∧Ext w w':=by
 have ql:=cp.dH
 refine R.enter (n:=32) (vs:=[bm,iV most]) [] [(0,bm),(1,iV most)] Tryz.func7 rfl rfl rfl rfl ?_
 refine R.zK cp ?_
 refine R.nZ (r:=ag.acts l) wm (tI wm) ?_
 refine R.reg rfl<|R.u 1 rfl<|R.nil ?_
 refine R.reg rfl<|R.u 1 rfl<|R.q (q.len' (fun _=>Wd.aT 1 rfl) rfl Tryz.underlying22) rfl<|R.u 1 rfl<|?_
 by_cases h1:most<(l.length:Int)
 ·
  refine R.q (q.gtr rfl rfl (decide_eq_true (by omega))) rfl<|R.nil ?_
  refine R.aD rfl rfl ?_
  refine R.reg rfl<|R.u 1 rfl<|R.nil ?_
  exact R.rv rfl Tryz.results7 rfl (rB (by (unfold iw;first|(rw [decide_eq_false (by omega)];rfl)|(rw [decide_eq_true (by omega),kr (by omega) HA];rfl)|(rw [eQ hx1 (show d9 _=false from by unfold d9;simp;omega)];simp)|(rw [eQ hx1 (show d9 _=false from by unfold d9;simp_all)];simp))))
 ·
  refine R.q (q.gtr rfl rfl (decide_eq_false (by omega))) rfl<|R.nil ?_
  refine R.aI rfl rfl ?_
  refine R.reg rfl<|R.u 1 rfl<|R.nil ?_
  refine R.loop (fun k:Nat=>[(0,bm),(5,iV (k:Int))]) (fun k:Nat=>[]) (fun k:Nat=>[ag.acts l,ag.ls bm (l:List df)]) (fun k:Nat=>k≤l.length∧(l.take k).all d9=true) (fun k:Nat=>l.length-k) 0 rfl (by exact ⟨by omega,rfl⟩) ⟨rfl,rfl,trivial⟩ (fun _=>Wd.pick [] [0,1] rfl rfl rfl) ?_
  rintro k ⟨hk,HA⟩
  refine R.reg rfl<|R.u 2 rfl<|R.q (q.len' (fun _=>Wd.aT 1 rfl) rfl Tryz.underlying22) rfl<|?_
  by_cases h2:k<l.length
  ·
   refine R.q (q.lss rfl rfl (decide_eq_true (by omega))) rfl<|R.nil ?_
   refine R.aD rfl rfl ?_
   refine R.reg rfl<|R.u 2 rfl<|?_
   obtain ⟨x1,hx1⟩:∃z,l[k]? = some z:=⟨_,List.getElem?_eq_getElem (by omega)⟩
   refine R.q (q.idx (i:=k) (fun _=>Wd.aT 1 rfl) rfl rfl sr rfl hx1) rfl<|R.q (q.dm (j':=1) (fun _=>Wd.aT 1 rfl) hx1 rfl mA rfl) rfl<|R.q (q.fk (fun _=>Wd.aT 1 rfl) hx1 rfl bF rfl) rfl<|R.q (q.lh rfl Tryz.underlying9) rfl<|?_
   by_cases h3:100<x1.S.size
   ·
    refine R.q (q.gtr rfl rfl (decide_eq_true (by omega))) rfl<|R.u 9 rfl<|R.nil ?_
    refine R.aD rfl rfl ?_
    refine R.reg rfl<|R.u 1 rfl<|R.nil ?_
    exact R.rv rfl Tryz.results7 rfl (rB (by (unfold iw;first|(rw [decide_eq_false (by omega)];rfl)|(rw [decide_eq_true (by omega),kr (by omega) HA];rfl)|(rw [eQ hx1 (show d9 _=false from by unfold d9;simp;omega)];simp)|(rw [eQ hx1 (show d9 _=false from by unfold d9;simp_all)];simp))))
   ·
    refine R.q (q.gtr rfl rfl (decide_eq_false (by omega))) rfl<|R.u 3 rfl<|R.qg rfl (q.idx (i:=k) (fun _=>Wd.aT 1 rfl) rfl rfl sr rfl hx1) rfl<|R.qg rfl (q.dm (j':=10) (fun _=>Wd.aT 1 rfl) hx1 rfl uK rfl) rfl<|R.qg rfl (q.fk (fun _=>Wd.aT 1 rfl) hx1 rfl xX rfl) rfl<|?_
    rcases Bool.eq_false_or_eq_true (iR x1.Changes 70) with h4|h4
    ·
     refine R.cg rfl (q.call ya rfl rfl (fun w hw=>(cv (congrArg Value.bool h4) (jJ _ (x1.Changes) (70) w ((fun _=>Wd.BL (l:=l) 0 rfl (List.mem_of_getElem? hx1)) w hw) )))) rfl<|R.u 2 rfl<|R.nil ?_
     refine R.aI rfl rfl ?_
     refine R.reg rfl<|R.u 1 rfl<|R.q (q.add (r:=((k+1:Nat):Int)) rfl rfl (wr (by omega))) rfl<|R.u 1 rfl<|R.nil ?_
     refine R.back (k+1) rfl (by (exact ⟨by omega,ry hx1 HA (by unfold d9;simp_all)⟩)) (by omega) ⟨rfl,rfl,trivial⟩ (fun _=>Wd.aM [] [0,1] rfl rfl rfl)
    ·
     refine R.cg rfl (q.call ya rfl rfl (fun w hw=>(cv (congrArg Value.bool h4) (jJ _ (x1.Changes) (70) w ((fun _=>Wd.BL (l:=l) 0 rfl (List.mem_of_getElem? hx1)) w hw) )))) rfl<|R.u 2 rfl<|R.nil ?_
     refine R.aD rfl rfl ?_
     refine R.reg rfl<|R.u 1 rfl<|R.nil ?_
     exact R.rv rfl Tryz.results7 rfl (rB (by (unfold iw;first|(rw [decide_eq_false (by omega)];rfl)|(rw [decide_eq_true (by omega),kr (by omega) HA];rfl)|(rw [eQ hx1 (show d9 _=false from by unfold d9;simp;omega)];simp)|(rw [eQ hx1 (show d9 _=false from by unfold d9;simp_all)];simp))))
  ·
   refine R.q (q.lss rfl rfl (decide_eq_false (by omega))) rfl<|R.nil ?_
   refine R.aI rfl rfl ?_
   refine R.reg rfl<|R.u 1 rfl<|R.nil ?_
   exact R.rv rfl Tryz.results7 rfl (rB (by (unfold iw;first|(rw [decide_eq_false (by omega)];rfl)|(rw [decide_eq_true (by omega),kr (by omega) HA];rfl)|(rw [eQ hx1 (show d9 _=false from by unfold d9;simp;omega)];simp)|(rw [eQ hx1 (show d9 _=false from by unfold d9;simp_all)];simp))))
set_option maxRecDepth 100000 in
set_option maxHeartbeats 2000000 in
theorem uf (aF az aC aB:Value)(r:ap)(a:df)(w:World)(own:List Nat)(H:Wd w (blks []++own) ([]++[ag.held w own]) [ag.ls aF (r.ai:List aj),ag.ls az (r.Things:List ah),ag.ls aC (r.Held:List Held),ag.ls aB (r.Notes:List Note)] w)(hk:Ok r):Calls Tryz.prog 11 #[.agg #[aF,az,aC,aB,iV r.ae,iV r.af],.agg #[.string a.Kind,.string a.S,iV a.P.ao,iV a.P.Slot,iV a.Q.ao,iV a.Q.Slot,iV a.A,iV a.B,iV a.N,.int .u64 a.K,a.cv]] w fun e w' => ∃z:Value×Value×Value×Value,e = .returned (.tuple #[.agg #[z.1,z.2.1,z.2.2.1,z.2.2.2,iV ((((fh r a)).1).ae),iV ((((fh r a)).1).af)],e6 (((fh r a)).2)])∧Wd w (blks []++own) ([]++[ag.held w own]) [ag.ls z.1 ((((fh r a)).1).ai:List aj),ag.ls z.2.1 ((((fh r a)).1).Things:List ah),ag.ls z.2.2.1 ((((fh r a)).1).Held:List Held),ag.ls z.2.2.2 ((((fh r a)).1).Notes:List Note)] w':=by
 have dR:=H.cX 0 rfl
 have dq:=H.cX 1 rfl
 have eK:=H.cX 2 rfl
 have dS:=H.cX 3 rfl
 refine R.dc (n:=100) (vs:=[.agg #[aF,az,aC,aB,iV r.ae,iV r.af],.agg #[.string a.Kind,.string a.S,iV a.P.ao,iV a.P.Slot,iV a.Q.ao,iV a.Q.Slot,iV a.A,iV a.B,iV a.N,.int .u64 a.K,a.cv]]) (B:=[ag.held w own]) [(0,.agg #[aF,az,aC,aB,iV r.ae,iV r.af]),(1,.agg #[.string a.Kind,.string a.S,iV a.P.ao,iV a.P.Slot,iV a.Q.ao,iV a.Q.Slot,iV a.A,iV a.B,iV a.N,.int .u64 a.K,a.cv])] Tryz.func11 rfl rfl rfl rfl H ?_
 refine R.reg rfl<|R.s rfl (s.box (cs:=[aF,az,aC,aB,iV r.ae,iV r.af]) rfl rfl rfl) fun b1=>R.s rfl (s.box (cs:=fq a) rfl rfl rfl) fun b2=>R.s rfl (s.alloc (cs:=aJ) cD rfl rfl) fun b3=>R.u 1 rfl<|R.nil ?_
 refine R.reg rfl<|R.q (q.a8 (off':=0) rfl uI rfl) rfl<|R.q (q.ld 1 rfl rfl bF rfl) rfl<|R.nil ?_
 refine R.reg rfl<|?_
 by_cases h1:a.Kind=⟨#[109,97,107,101]⟩
 ·
  refine R.q (q.lK rfl rfl h1) rfl<|R.u 1 rfl<|R.nil ?_
  refine R.aD rfl rfl ?_
  refine R.reg rfl<|R.q (q.cT 2 rfl rfl ar) rfl<|R.q (q.a8 (off':=2) rfl fX rfl) rfl<|R.q (q.xC (ds:=aE a.P) 1 rfl rfl br rfl) rfl<|R.q (q.a8 (off':=6) rfl kv rfl) rfl<|R.q (q.ld 1 rfl rfl av rfl) rfl<|R.s (B':=(fun g_:Value×Value×Value×Value=>[ag.box b3 aJ 32,ag.box b2 (fq a) 42,ag.box b1 [aF,az,aC,aB,iV r.ae,iV r.af] 32,ag.held w own])) (F':=(fun g_:Value×Value×Value×Value=>[ag.ls g_.1 ((((bC r a.P a.A)).1).ai:List aj),ag.ls g_.2.1 ((((bC r a.P a.A)).1).Things:List ah),ag.ls g_.2.2.1 ((((bC r a.P a.A)).1).Held:List Held),ag.ls g_.2.2.2 ((((bC r a.P a.A)).1).Notes:List Note),ag.ls aF (r.ai:List aj),ag.ls az (r.Things:List ah),ag.ls aC (r.Held:List Held),ag.ls aB (r.Notes:List Note)])) rfl (s.bJ (B0:=[]) (Br:=[ag.box b3 aJ 32,ag.box b2 (fq a) 42,ag.box b1 [aF,az,aC,aB,iV r.ae,iV r.af] 32,ag.held w own]) (F0:=[ag.ls aF (r.ai:List aj),ag.ls az (r.Things:List ah),ag.ls aC (r.Held:List Held),ag.ls aB (r.Notes:List Note)]) [0,1,2,3] [0,1,2,3] (fun g_:Value×Value×Value×Value => .tuple #[.agg #[g_.1,g_.2.1,g_.2.2.1,g_.2.2.2,iV ((((bC r a.P a.A)).1).ae),iV ((((bC r a.P a.A)).1).af)],e6 (((bC r a.P a.A)).2)]) (fun g_:Value×Value×Value×Value=>[]) (fun g_:Value×Value×Value×Value=>[ag.ls g_.1 ((((bC r a.P a.A)).1).ai:List aj),ag.ls g_.2.1 ((((bC r a.P a.A)).1).Things:List ah),ag.ls g_.2.2.1 ((((bC r a.P a.A)).1).Held:List Held),ag.ls g_.2.2.2 ((((bC r a.P a.A)).1).Notes:List Note)]) rfl rfl rfl zh rfl rfl (fun w own hw H=>pS aF az aC aB (r) (a.P) (a.A) w own H ‹_›) rfl) ?_
  rintro ⟨z1,z2,z3,z4⟩
  dsimp only
  refine R.u 2 rfl<|R.s rfl (s.e8 (us:=[z1,z2,z3,z4,iV (((bC r a.P a.A).1).ae),iV (((bC r a.P a.A).1).af)]) (cs':=[z1,z2,z3,z4,iV (((bC r a.P a.A).1).ae),iV (((bC r a.P a.A).1).af)]) 0 _ rfl rfl rfl (fun _ _=>rfl) (.inl ar) (fun w hw=>(ak (Sl.one (hw.aT 0 rfl)) (ak (Sl.one (hw.aT 1 rfl)) (ak (Sl.one (hw.aT 2 rfl)) (ak (Sl.one (hw.aT 3 rfl)) (ak rfl (ak rfl aS))))))) rfl rfl rfl) fun _=>R.u 1 rfl<|R.nil ?_
  have hz:fh r a=(((bC r a.P a.A).1),(bC r a.P a.A).2):=by (unfold fh;(repeat' split) <;> first|rfl|(exfalso;simp_all;done)|(simp_all;done))
  rw [hz]
  exact R.w2 (z1,z2,z3,z4) [3] [0,1,2,3] rfl Tryz.results11 (RV.cell 0 rfl rfl ar) (RV.tmp rfl) rfl rfl rfl (cL rfl rfl)
 ·
  refine R.q (q.lL rfl rfl h1) rfl<|R.u 1 rfl<|R.nil ?_
  refine R.aI rfl rfl ?_
  refine R.reg rfl<|?_
  by_cases h2:a.Kind=⟨#[103,105,118,101]⟩
  ·
   refine R.q (q.lK rfl rfl h2) rfl<|R.u 1 rfl<|R.nil ?_
   refine R.aD rfl rfl ?_
   refine R.reg rfl<|R.q (q.cT 2 rfl rfl ar) rfl<|R.q (q.a8 (off':=2) rfl fX rfl) rfl<|R.q (q.xC (ds:=aE a.P) 1 rfl rfl br rfl) rfl<|R.q (q.a8 (off':=4) rfl uJ rfl) rfl<|R.q (q.xC (ds:=aE a.Q) 1 rfl rfl br rfl) rfl<|R.q (q.a8 (off':=6) rfl kv rfl) rfl<|R.q (q.ld 1 rfl rfl av rfl) rfl<|R.q (q.a8 (off':=7) rfl pF rfl) rfl<|R.q (q.ld 1 rfl rfl av rfl) rfl<|R.s (B':=(fun g_:Value×Value×Value×Value=>[ag.box b3 aJ 32,ag.box b2 (fq a) 42,ag.box b1 [aF,az,aC,aB,iV r.ae,iV r.af] 32,ag.held w own])) (F':=(fun g_:Value×Value×Value×Value=>[ag.ls g_.1 ((((cr r a.P a.Q a.A a.B)).1).ai:List aj),ag.ls g_.2.1 ((((cr r a.P a.Q a.A a.B)).1).Things:List ah),ag.ls g_.2.2.1 ((((cr r a.P a.Q a.A a.B)).1).Held:List Held),ag.ls g_.2.2.2 ((((cr r a.P a.Q a.A a.B)).1).Notes:List Note),ag.ls aF (r.ai:List aj),ag.ls az (r.Things:List ah),ag.ls aC (r.Held:List Held),ag.ls aB (r.Notes:List Note)])) rfl (s.bJ (B0:=[]) (Br:=[ag.box b3 aJ 32,ag.box b2 (fq a) 42,ag.box b1 [aF,az,aC,aB,iV r.ae,iV r.af] 32,ag.held w own]) (F0:=[ag.ls aF (r.ai:List aj),ag.ls az (r.Things:List ah),ag.ls aC (r.Held:List Held),ag.ls aB (r.Notes:List Note)]) [0,1,2,3] [0,1,2,3] (fun g_:Value×Value×Value×Value => .tuple #[.agg #[g_.1,g_.2.1,g_.2.2.1,g_.2.2.2,iV ((((cr r a.P a.Q a.A a.B)).1).ae),iV ((((cr r a.P a.Q a.A a.B)).1).af)],e6 (((cr r a.P a.Q a.A a.B)).2)]) (fun g_:Value×Value×Value×Value=>[]) (fun g_:Value×Value×Value×Value=>[ag.ls g_.1 ((((cr r a.P a.Q a.A a.B)).1).ai:List aj),ag.ls g_.2.1 ((((cr r a.P a.Q a.A a.B)).1).Things:List ah),ag.ls g_.2.2.1 ((((cr r a.P a.Q a.A a.B)).1).Held:List Held),ag.ls g_.2.2.2 ((((cr r a.P a.Q a.A a.B)).1).Notes:List Note)]) rfl rfl rfl BZ rfl rfl (fun w own hw H=>uV aF az aC aB (r) (a.P) (a.Q) (a.A) (a.B) w own H ‹_›) rfl) ?_
   rintro ⟨z5,z6,z7,z8⟩
   dsimp only
   refine R.u 2 rfl<|R.s rfl (s.e8 (us:=[z5,z6,z7,z8,iV (((cr r a.P a.Q a.A a.B).1).ae),iV (((cr r a.P a.Q a.A a.B).1).af)]) (cs':=[z5,z6,z7,z8,iV (((cr r a.P a.Q a.A a.B).1).ae),iV (((cr r a.P a.Q a.A a.B).1).af)]) 0 _ rfl rfl rfl (fun _ _=>rfl) (.inl ar) (fun w hw=>(ak (Sl.one (hw.aT 0 rfl)) (ak (Sl.one (hw.aT 1 rfl)) (ak (Sl.one (hw.aT 2 rfl)) (ak (Sl.one (hw.aT 3 rfl)) (ak rfl (ak rfl aS))))))) rfl rfl rfl) fun _=>R.u 1 rfl<|R.nil ?_
   have hz:fh r a=(((cr r a.P a.Q a.A a.B).1),(cr r a.P a.Q a.A a.B).2):=by (unfold fh;(repeat' split) <;> first|rfl|(exfalso;simp_all;done)|(simp_all;done))
   rw [hz]
   exact R.w2 (z5,z6,z7,z8) [3] [0,1,2,3] rfl Tryz.results11 (RV.cell 0 rfl rfl ar) (RV.tmp rfl) rfl rfl rfl (cL rfl rfl)
  ·
   refine R.q (q.lL rfl rfl h2) rfl<|R.u 1 rfl<|R.nil ?_
   refine R.aI rfl rfl ?_
   refine R.reg rfl<|?_
   by_cases h3:a.Kind=⟨#[109,111,118,101]⟩
   ·
    refine R.q (q.lK rfl rfl h3) rfl<|R.u 1 rfl<|R.nil ?_
    refine R.aD rfl rfl ?_
    refine R.reg rfl<|R.q (q.cT 2 rfl rfl ar) rfl<|R.q (q.a8 (off':=2) rfl fX rfl) rfl<|R.q (q.xC (ds:=aE a.P) 1 rfl rfl br rfl) rfl<|R.q (q.a8 (off':=6) rfl kv rfl) rfl<|R.q (q.ld 1 rfl rfl av rfl) rfl<|R.s (B':=(fun g_:Value×Value×Value×Value=>[ag.box b3 aJ 32,ag.box b2 (fq a) 42,ag.box b1 [aF,az,aC,aB,iV r.ae,iV r.af] 32,ag.held w own])) (F':=(fun g_:Value×Value×Value×Value=>[ag.ls g_.1 ((((dx r a.P a.A)).1).ai:List aj),ag.ls g_.2.1 ((((dx r a.P a.A)).1).Things:List ah),ag.ls g_.2.2.1 ((((dx r a.P a.A)).1).Held:List Held),ag.ls g_.2.2.2 ((((dx r a.P a.A)).1).Notes:List Note),ag.ls aF (r.ai:List aj),ag.ls az (r.Things:List ah),ag.ls aC (r.Held:List Held),ag.ls aB (r.Notes:List Note)])) rfl (s.bJ (B0:=[]) (Br:=[ag.box b3 aJ 32,ag.box b2 (fq a) 42,ag.box b1 [aF,az,aC,aB,iV r.ae,iV r.af] 32,ag.held w own]) (F0:=[ag.ls aF (r.ai:List aj),ag.ls az (r.Things:List ah),ag.ls aC (r.Held:List Held),ag.ls aB (r.Notes:List Note)]) [0,1,2,3] [0,1,2,3] (fun g_:Value×Value×Value×Value => .tuple #[.agg #[g_.1,g_.2.1,g_.2.2.1,g_.2.2.2,iV ((((dx r a.P a.A)).1).ae),iV ((((dx r a.P a.A)).1).af)],e6 (((dx r a.P a.A)).2)]) (fun g_:Value×Value×Value×Value=>[]) (fun g_:Value×Value×Value×Value=>[ag.ls g_.1 ((((dx r a.P a.A)).1).ai:List aj),ag.ls g_.2.1 ((((dx r a.P a.A)).1).Things:List ah),ag.ls g_.2.2.1 ((((dx r a.P a.A)).1).Held:List Held),ag.ls g_.2.2.2 ((((dx r a.P a.A)).1).Notes:List Note)]) rfl rfl rfl B3 rfl rfl (fun w own hw H=>uW aF az aC aB (r) (a.P) (a.A) w own H ‹_›) rfl) ?_
    rintro ⟨z9,nf,t7,z12⟩
    dsimp only
    refine R.u 2 rfl<|R.s rfl (s.e8 (us:=[z9,nf,t7,z12,iV (((dx r a.P a.A).1).ae),iV (((dx r a.P a.A).1).af)]) (cs':=[z9,nf,t7,z12,iV (((dx r a.P a.A).1).ae),iV (((dx r a.P a.A).1).af)]) 0 _ rfl rfl rfl (fun _ _=>rfl) (.inl ar) (fun w hw=>(ak (Sl.one (hw.aT 0 rfl)) (ak (Sl.one (hw.aT 1 rfl)) (ak (Sl.one (hw.aT 2 rfl)) (ak (Sl.one (hw.aT 3 rfl)) (ak rfl (ak rfl aS))))))) rfl rfl rfl) fun _=>R.u 1 rfl<|R.nil ?_
    have hz:fh r a=(((dx r a.P a.A).1),(dx r a.P a.A).2):=by (unfold fh;(repeat' split) <;> first|rfl|(exfalso;simp_all;done)|(simp_all;done))
    rw [hz]
    exact R.w2 (z9,nf,t7,z12) [3] [0,1,2,3] rfl Tryz.results11 (RV.cell 0 rfl rfl ar) (RV.tmp rfl) rfl rfl rfl (cL rfl rfl)
   ·
    refine R.q (q.lL rfl rfl h3) rfl<|R.u 1 rfl<|R.nil ?_
    refine R.aI rfl rfl ?_
    refine R.reg rfl<|?_
    by_cases h4:a.Kind=⟨#[100,114,111,112]⟩
    ·
     refine R.q (q.lK rfl rfl h4) rfl<|R.u 1 rfl<|R.nil ?_
     refine R.aD rfl rfl ?_
     refine R.reg rfl<|R.q (q.cT 2 rfl rfl ar) rfl<|R.q (q.a8 (off':=2) rfl fX rfl) rfl<|R.q (q.xC (ds:=aE a.P) 1 rfl rfl br rfl) rfl<|R.s (B':=(fun g_:Value×Value×Value×Value=>[ag.box b3 aJ 32,ag.box b2 (fq a) 42,ag.box b1 [aF,az,aC,aB,iV r.ae,iV r.af] 32,ag.held w own])) (F':=(fun g_:Value×Value×Value×Value=>[ag.ls g_.1 ((((dJ r a.P)).1).ai:List aj),ag.ls g_.2.1 ((((dJ r a.P)).1).Things:List ah),ag.ls g_.2.2.1 ((((dJ r a.P)).1).Held:List Held),ag.ls g_.2.2.2 ((((dJ r a.P)).1).Notes:List Note),ag.ls aF (r.ai:List aj),ag.ls az (r.Things:List ah),ag.ls aC (r.Held:List Held),ag.ls aB (r.Notes:List Note)])) rfl (s.bJ (B0:=[]) (Br:=[ag.box b3 aJ 32,ag.box b2 (fq a) 42,ag.box b1 [aF,az,aC,aB,iV r.ae,iV r.af] 32,ag.held w own]) (F0:=[ag.ls aF (r.ai:List aj),ag.ls az (r.Things:List ah),ag.ls aC (r.Held:List Held),ag.ls aB (r.Notes:List Note)]) [0,1,2,3] [0,1,2,3] (fun g_:Value×Value×Value×Value => .tuple #[.agg #[g_.1,g_.2.1,g_.2.2.1,g_.2.2.2,iV ((((dJ r a.P)).1).ae),iV ((((dJ r a.P)).1).af)],e6 (((dJ r a.P)).2)]) (fun g_:Value×Value×Value×Value=>[]) (fun g_:Value×Value×Value×Value=>[ag.ls g_.1 ((((dJ r a.P)).1).ai:List aj),ag.ls g_.2.1 ((((dJ r a.P)).1).Things:List ah),ag.ls g_.2.2.1 ((((dJ r a.P)).1).Held:List Held),ag.ls g_.2.2.2 ((((dJ r a.P)).1).Notes:List Note)]) rfl rfl rfl B5 rfl rfl (fun w own hw H=>uX aF az aC aB (r) (a.P) w own H ‹_›) rfl) ?_
     rintro ⟨yu,yv,yw,yx⟩
     dsimp only
     refine R.u 2 rfl<|R.s rfl (s.e8 (us:=[yu,yv,yw,yx,iV (((dJ r a.P).1).ae),iV (((dJ r a.P).1).af)]) (cs':=[yu,yv,yw,yx,iV (((dJ r a.P).1).ae),iV (((dJ r a.P).1).af)]) 0 _ rfl rfl rfl (fun _ _=>rfl) (.inl ar) (fun w hw=>(ak (Sl.one (hw.aT 0 rfl)) (ak (Sl.one (hw.aT 1 rfl)) (ak (Sl.one (hw.aT 2 rfl)) (ak (Sl.one (hw.aT 3 rfl)) (ak rfl (ak rfl aS))))))) rfl rfl rfl) fun _=>R.u 1 rfl<|R.nil ?_
     have hz:fh r a=(((dJ r a.P).1),(dJ r a.P).2):=by (unfold fh;(repeat' split) <;> first|rfl|(exfalso;simp_all;done)|(simp_all;done))
     rw [hz]
     exact R.w2 (yu,yv,yw,yx) [3] [0,1,2,3] rfl Tryz.results11 (RV.cell 0 rfl rfl ar) (RV.tmp rfl) rfl rfl rfl (cL rfl rfl)
    ·
     refine R.q (q.lL rfl rfl h4) rfl<|R.u 1 rfl<|R.nil ?_
     refine R.aI rfl rfl ?_
     refine R.reg rfl<|?_
     by_cases h5:a.Kind=⟨#[114,101,118,111,107,101]⟩
     ·
      refine R.q (q.lK rfl rfl h5) rfl<|R.u 1 rfl<|R.nil ?_
      refine R.aD rfl rfl ?_
      refine R.reg rfl<|R.q (q.cT 2 rfl rfl ar) rfl<|R.q (q.a8 (off':=2) rfl fX rfl) rfl<|R.q (q.xC (ds:=aE a.P) 1 rfl rfl br rfl) rfl<|R.s (B':=(fun g_:Value×Value×Value×Value=>[ag.box b3 aJ 32,ag.box b2 (fq a) 42,ag.box b1 [aF,az,aC,aB,iV r.ae,iV r.af] 32,ag.held w own])) (F':=(fun g_:Value×Value×Value×Value=>[ag.ls g_.1 ((((bY r a.P)).1).ai:List aj),ag.ls g_.2.1 ((((bY r a.P)).1).Things:List ah),ag.ls g_.2.2.1 ((((bY r a.P)).1).Held:List Held),ag.ls g_.2.2.2 ((((bY r a.P)).1).Notes:List Note),ag.ls aF (r.ai:List aj),ag.ls az (r.Things:List ah),ag.ls aC (r.Held:List Held),ag.ls aB (r.Notes:List Note)])) rfl (s.bJ (B0:=[]) (Br:=[ag.box b3 aJ 32,ag.box b2 (fq a) 42,ag.box b1 [aF,az,aC,aB,iV r.ae,iV r.af] 32,ag.held w own]) (F0:=[ag.ls aF (r.ai:List aj),ag.ls az (r.Things:List ah),ag.ls aC (r.Held:List Held),ag.ls aB (r.Notes:List Note)]) [0,1,2,3] [0,1,2,3] (fun g_:Value×Value×Value×Value => .tuple #[.agg #[g_.1,g_.2.1,g_.2.2.1,g_.2.2.2,iV ((((bY r a.P)).1).ae),iV ((((bY r a.P)).1).af)],e6 (((bY r a.P)).2)]) (fun g_:Value×Value×Value×Value=>[]) (fun g_:Value×Value×Value×Value=>[ag.ls g_.1 ((((bY r a.P)).1).ai:List aj),ag.ls g_.2.1 ((((bY r a.P)).1).Things:List ah),ag.ls g_.2.2.1 ((((bY r a.P)).1).Held:List Held),ag.ls g_.2.2.2 ((((bY r a.P)).1).Notes:List Note)]) rfl rfl rfl B6 rfl rfl (fun w own hw H=>rx aF az aC aB (r) (a.P) w own H ‹_›) rfl) ?_
      rintro ⟨z17,CF,CG,z20⟩
      dsimp only
      refine R.u 2 rfl<|R.s rfl (s.e8 (us:=[z17,CF,CG,z20,iV (((bY r a.P).1).ae),iV (((bY r a.P).1).af)]) (cs':=[z17,CF,CG,z20,iV (((bY r a.P).1).ae),iV (((bY r a.P).1).af)]) 0 _ rfl rfl rfl (fun _ _=>rfl) (.inl ar) (fun w hw=>(ak (Sl.one (hw.aT 0 rfl)) (ak (Sl.one (hw.aT 1 rfl)) (ak (Sl.one (hw.aT 2 rfl)) (ak (Sl.one (hw.aT 3 rfl)) (ak rfl (ak rfl aS))))))) rfl rfl rfl) fun _=>R.u 1 rfl<|R.nil ?_
      have hz:fh r a=(((bY r a.P).1),(bY r a.P).2):=by (unfold fh;(repeat' split) <;> first|rfl|(exfalso;simp_all;done)|(simp_all;done))
      rw [hz]
      exact R.w2 (z17,CF,CG,z20) [3] [0,1,2,3] rfl Tryz.results11 (RV.cell 0 rfl rfl ar) (RV.tmp rfl) rfl rfl rfl (cL rfl rfl)
     ·
      refine R.q (q.lL rfl rfl h5) rfl<|R.u 1 rfl<|R.nil ?_
      refine R.aI rfl rfl ?_
      refine R.reg rfl<|?_
      by_cases h6:a.Kind=⟨#[119,114,105,116,101]⟩
      ·
       refine R.q (q.lK rfl rfl h6) rfl<|R.u 1 rfl<|R.nil ?_
       refine R.aD rfl rfl ?_
       refine R.reg rfl<|R.q (q.cT 2 rfl rfl ar) rfl<|R.q (q.a8 (off':=2) rfl fX rfl) rfl<|R.q (q.xC (ds:=aE a.P) 1 rfl rfl br rfl) rfl<|R.q (q.a8 (off':=1) rfl mA rfl) rfl<|R.q (q.ld 1 rfl rfl bF rfl) rfl<|R.s (B':=(fun g_:Value×Value×Value×Value=>[ag.box b3 aJ 32,ag.box b2 (fq a) 42,ag.box b1 [aF,az,aC,aB,iV r.ae,iV r.af] 32,ag.held w own])) (F':=(fun g_:Value×Value×Value×Value=>[ag.ls g_.1 ((((cq r a.P a.S)).1).ai:List aj),ag.ls g_.2.1 ((((cq r a.P a.S)).1).Things:List ah),ag.ls g_.2.2.1 ((((cq r a.P a.S)).1).Held:List Held),ag.ls g_.2.2.2 ((((cq r a.P a.S)).1).Notes:List Note),ag.ls aF (r.ai:List aj),ag.ls az (r.Things:List ah),ag.ls aC (r.Held:List Held),ag.ls aB (r.Notes:List Note)])) rfl (s.bJ (B0:=[]) (Br:=[ag.box b3 aJ 32,ag.box b2 (fq a) 42,ag.box b1 [aF,az,aC,aB,iV r.ae,iV r.af] 32,ag.held w own]) (F0:=[ag.ls aF (r.ai:List aj),ag.ls az (r.Things:List ah),ag.ls aC (r.Held:List Held),ag.ls aB (r.Notes:List Note)]) [0,1,2,3] [0,1,2,3] (fun g_:Value×Value×Value×Value => .tuple #[.agg #[g_.1,g_.2.1,g_.2.2.1,g_.2.2.2,iV ((((cq r a.P a.S)).1).ae),iV ((((cq r a.P a.S)).1).af)],e6 (((cq r a.P a.S)).2)]) (fun g_:Value×Value×Value×Value=>[]) (fun g_:Value×Value×Value×Value=>[ag.ls g_.1 ((((cq r a.P a.S)).1).ai:List aj),ag.ls g_.2.1 ((((cq r a.P a.S)).1).Things:List ah),ag.ls g_.2.2.1 ((((cq r a.P a.S)).1).Held:List Held),ag.ls g_.2.2.2 ((((cq r a.P a.S)).1).Notes:List Note)]) rfl rfl rfl Ca rfl rfl (fun w own hw H=>sL aF az aC aB (r) (a.P) (a.S) w own H ‹_›) rfl) ?_
       rintro ⟨z21,z22,z23,z24⟩
       dsimp only
       refine R.u 2 rfl<|R.s rfl (s.e8 (us:=[z21,z22,z23,z24,iV (((cq r a.P a.S).1).ae),iV (((cq r a.P a.S).1).af)]) (cs':=[z21,z22,z23,z24,iV (((cq r a.P a.S).1).ae),iV (((cq r a.P a.S).1).af)]) 0 _ rfl rfl rfl (fun _ _=>rfl) (.inl ar) (fun w hw=>(ak (Sl.one (hw.aT 0 rfl)) (ak (Sl.one (hw.aT 1 rfl)) (ak (Sl.one (hw.aT 2 rfl)) (ak (Sl.one (hw.aT 3 rfl)) (ak rfl (ak rfl aS))))))) rfl rfl rfl) fun _=>R.u 1 rfl<|R.nil ?_
       have hz:fh r a=(((cq r a.P a.S).1),(cq r a.P a.S).2):=by (unfold fh;(repeat' split) <;> first|rfl|(exfalso;simp_all;done)|(simp_all;done))
       rw [hz]
       exact R.w2 (z21,z22,z23,z24) [3] [0,1,2,3] rfl Tryz.results11 (RV.cell 0 rfl rfl ar) (RV.tmp rfl) rfl rfl rfl (cL rfl rfl)
      ·
       refine R.q (q.lL rfl rfl h6) rfl<|R.u 1 rfl<|R.nil ?_
       refine R.aI rfl rfl ?_
       refine R.reg rfl<|?_
       by_cases h7:a.Kind=⟨#[115,101,110,100]⟩
       ·
        refine R.q (q.lK rfl rfl h7) rfl<|R.u 1 rfl<|R.nil ?_
        refine R.aD rfl rfl ?_
        refine R.reg rfl<|R.q (q.cT 2 rfl rfl ar) rfl<|R.q (q.a8 (off':=2) rfl fX rfl) rfl<|R.q (q.xC (ds:=aE a.P) 1 rfl rfl br rfl) rfl<|R.q (q.a8 (off':=1) rfl mA rfl) rfl<|R.q (q.ld 1 rfl rfl bF rfl) rfl<|R.q (q.a8 (off':=6) rfl kv rfl) rfl<|R.q (q.ld 1 rfl rfl av rfl) rfl<|R.q (q.a8 (off':=7) rfl pF rfl) rfl<|R.q (q.ld 1 rfl rfl av rfl) rfl<|R.s (B':=(fun g_:Value×Value×Value×Value=>[ag.box b3 aJ 32,ag.box b2 (fq a) 42,ag.box b1 [aF,az,aC,aB,iV r.ae,iV r.af] 32,ag.held w own])) (F':=(fun g_:Value×Value×Value×Value=>[ag.ls g_.1 ((((bZ r a.P a.S a.A a.B)).1).ai:List aj),ag.ls g_.2.1 ((((bZ r a.P a.S a.A a.B)).1).Things:List ah),ag.ls g_.2.2.1 ((((bZ r a.P a.S a.A a.B)).1).Held:List Held),ag.ls g_.2.2.2 ((((bZ r a.P a.S a.A a.B)).1).Notes:List Note),ag.ls aF (r.ai:List aj),ag.ls az (r.Things:List ah),ag.ls aC (r.Held:List Held),ag.ls aB (r.Notes:List Note)])) rfl (s.bJ (B0:=[]) (Br:=[ag.box b3 aJ 32,ag.box b2 (fq a) 42,ag.box b1 [aF,az,aC,aB,iV r.ae,iV r.af] 32,ag.held w own]) (F0:=[ag.ls aF (r.ai:List aj),ag.ls az (r.Things:List ah),ag.ls aC (r.Held:List Held),ag.ls aB (r.Notes:List Note)]) [0,1,2,3] [0,1,2,3] (fun g_:Value×Value×Value×Value => .tuple #[.agg #[g_.1,g_.2.1,g_.2.2.1,g_.2.2.2,iV ((((bZ r a.P a.S a.A a.B)).1).ae),iV ((((bZ r a.P a.S a.A a.B)).1).af)],e6 (((bZ r a.P a.S a.A a.B)).2)]) (fun g_:Value×Value×Value×Value=>[]) (fun g_:Value×Value×Value×Value=>[ag.ls g_.1 ((((bZ r a.P a.S a.A a.B)).1).ai:List aj),ag.ls g_.2.1 ((((bZ r a.P a.S a.A a.B)).1).Things:List ah),ag.ls g_.2.2.1 ((((bZ r a.P a.S a.A a.B)).1).Held:List Held),ag.ls g_.2.2.2 ((((bZ r a.P a.S a.A a.B)).1).Notes:List Note)]) rfl rfl rfl Cb rfl rfl (fun w own hw H=>uY aF az aC aB (r) (a.P) (a.S) (a.A) (a.B) w own H ‹_›) rfl) ?_
        rintro ⟨z25,z26,z27,z28⟩
        dsimp only
        refine R.u 2 rfl<|R.s rfl (s.e8 (us:=[z25,z26,z27,z28,iV (((bZ r a.P a.S a.A a.B).1).ae),iV (((bZ r a.P a.S a.A a.B).1).af)]) (cs':=[z25,z26,z27,z28,iV (((bZ r a.P a.S a.A a.B).1).ae),iV (((bZ r a.P a.S a.A a.B).1).af)]) 0 _ rfl rfl rfl (fun _ _=>rfl) (.inl ar) (fun w hw=>(ak (Sl.one (hw.aT 0 rfl)) (ak (Sl.one (hw.aT 1 rfl)) (ak (Sl.one (hw.aT 2 rfl)) (ak (Sl.one (hw.aT 3 rfl)) (ak rfl (ak rfl aS))))))) rfl rfl rfl) fun _=>R.u 1 rfl<|R.nil ?_
        have hz:fh r a=(((bZ r a.P a.S a.A a.B).1),(bZ r a.P a.S a.A a.B).2):=by (unfold fh;(repeat' split) <;> first|rfl|(exfalso;simp_all;done)|(simp_all;done))
        rw [hz]
        exact R.w2 (z25,z26,z27,z28) [3] [0,1,2,3] rfl Tryz.results11 (RV.cell 0 rfl rfl ar) (RV.tmp rfl) rfl rfl rfl (cL rfl rfl)
       ·
        refine R.q (q.lL rfl rfl h7) rfl<|R.u 1 rfl<|R.nil ?_
        refine R.aI rfl rfl ?_
        refine R.reg rfl<|?_
        by_cases h8:a.Kind=⟨#[116,97,107,101]⟩
        ·
         refine R.q (q.lK rfl rfl h8) rfl<|R.u 1 rfl<|R.nil ?_
         refine R.aD rfl rfl ?_
         refine R.reg rfl<|R.q (q.cT 2 rfl rfl ar) rfl<|R.q (q.a8 (off':=2) rfl fX rfl) rfl<|R.q (q.xC (ds:=aE a.P) 1 rfl rfl br rfl) rfl<|R.s (B':=(fun g_:Value×Value×Value×Value=>[ag.box b3 aJ 32,ag.box b2 (fq a) 42,ag.box b1 [aF,az,aC,aB,iV r.ae,iV r.af] 32,ag.held w own])) (F':=(fun g_:Value×Value×Value×Value=>[ag.ls g_.1 ((((bU r a.P)).1).ai:List aj),ag.ls g_.2.1 ((((bU r a.P)).1).Things:List ah),ag.ls g_.2.2.1 ((((bU r a.P)).1).Held:List Held),ag.ls g_.2.2.2 ((((bU r a.P)).1).Notes:List Note),ag.ls aF (r.ai:List aj),ag.ls az (r.Things:List ah),ag.ls aC (r.Held:List Held),ag.ls aB (r.Notes:List Note)])) rfl (s.bJ (B0:=[]) (Br:=[ag.box b3 aJ 32,ag.box b2 (fq a) 42,ag.box b1 [aF,az,aC,aB,iV r.ae,iV r.af] 32,ag.held w own]) (F0:=[ag.ls aF (r.ai:List aj),ag.ls az (r.Things:List ah),ag.ls aC (r.Held:List Held),ag.ls aB (r.Notes:List Note)]) [0,1,2,3] [0,1,2,3] (fun g_:Value×Value×Value×Value => .tuple #[.agg #[g_.1,g_.2.1,g_.2.2.1,g_.2.2.2,iV ((((bU r a.P)).1).ae),iV ((((bU r a.P)).1).af)],.agg #[iV ((((bU r a.P)).2.1).Port),.string ((((bU r a.P)).2.1).Data),iV ((((bU r a.P)).2.1).aG),iV ((((bU r a.P)).2.1).aj)],iV (((bU r a.P)).2.2.1),e6 (((bU r a.P)).2.2.2)]) (fun g_:Value×Value×Value×Value=>[]) (fun g_:Value×Value×Value×Value=>[ag.ls g_.1 ((((bU r a.P)).1).ai:List aj),ag.ls g_.2.1 ((((bU r a.P)).1).Things:List ah),ag.ls g_.2.2.1 ((((bU r a.P)).1).Held:List Held),ag.ls g_.2.2.2 ((((bU r a.P)).1).Notes:List Note)]) rfl rfl rfl Cc rfl rfl (fun w own hw H=>uZ aF az aC aB (r) (a.P) w own H ‹_›) rfl) ?_
         rintro ⟨z29,z30,z31,z32⟩
         dsimp only
         refine R.u 5 rfl<|R.s rfl (s.alloc (cs:=aJ) cD rfl rfl) fun b4=>R.s rfl (s.alloc (cs:=[iV 0,.string (⟨#[]⟩),iV 0,iV 0]) dC rfl rfl) fun b5=>R.s rfl (s.e8 (us:=[z29,z30,z31,z32,iV (((bU r a.P).1).ae),iV (((bU r a.P).1).af)]) (cs':=[z29,z30,z31,z32,iV (((bU r a.P).1).ae),iV (((bU r a.P).1).af)]) 1 _ rfl rfl rfl (fun _ _=>rfl) (.inl ar) (fun w hw=>(ak (Sl.one (hw.aT 0 rfl)) (ak (Sl.one (hw.aT 1 rfl)) (ak (Sl.one (hw.aT 2 rfl)) (ak (Sl.one (hw.aT 3 rfl)) (ak rfl (ak rfl aS))))))) rfl rfl rfl) fun _=>R.s rfl (s.st (us:=cb ((bU r a.P).2.1)) (cs':=cb ((bU r a.P).2.1)) 0 _ rfl rfl rfl rfl (.inl cm) rfl rfl rfl rfl) fun _=>R.u 2 rfl<|R.nil ?_
         refine R.reg rfl<|R.q (q.cT 1 rfl rfl ar) rfl<|R.u 1 rfl<|R.s rfl (s.e8 (us:=[z29,z30,z31,z32,iV (((bU r a.P).1).ae),iV (((bU r a.P).1).af)]) (cs':=[z29,z30,z31,z32,iV (((bU r a.P).1).ae),iV (((bU r a.P).1).af)]) 2 _ rfl rfl rfl (fun _ _=>rfl) (.inl ar) (fun w hw=>(ak (Sl.one (hw.aT 0 rfl)) (ak (Sl.one (hw.aT 1 rfl)) (ak (Sl.one (hw.aT 2 rfl)) (ak (Sl.one (hw.aT 3 rfl)) (ak rfl (ak rfl aS))))))) rfl rfl rfl) fun _=>R.u 1 rfl<|R.nil ?_
         have hz:fh r a=(((bU r a.P).1),(bU r a.P).2.2.2):=by (unfold fh;(repeat' split) <;> first|rfl|(exfalso;simp_all;done)|(simp_all;done))
         rw [hz]
         exact R.w2 (z29,z30,z31,z32) [5] [0,1,2,3] rfl Tryz.results11 (RV.cell 2 rfl rfl ar) (RV.tmp rfl) rfl rfl rfl (cL rfl rfl)
        ·
         refine R.q (q.lL rfl rfl h8) rfl<|R.u 1 rfl<|R.nil ?_
         refine R.aI rfl rfl ?_
         refine R.reg rfl<|R.q (q.cT 2 rfl rfl ar) rfl<|R.s rfl (s.e8 (us:=[aF,az,aC,aB,iV r.ae,iV r.af]) (cs':=[aF,az,aC,aB,iV r.ae,iV r.af]) 0 _ rfl rfl rfl (fun _ _=>rfl) (.inl ar) (fun w hw=>(ak (Sl.one (hw.aT 0 rfl)) (ak (Sl.one (hw.aT 1 rfl)) (ak (Sl.one (hw.aT 2 rfl)) (ak (Sl.one (hw.aT 3 rfl)) (ak rfl (ak rfl aS))))))) rfl rfl rfl) fun _=>R.u 1 rfl<|R.nil ?_
         have hz:fh r a=(r,0):=by (unfold fh;(repeat' split) <;> first|rfl|(exfalso;simp_all;done)|(simp_all;done))
         rw [hz]
         exact R.w2 (aF,az,aC,aB) [3] [0,1,2,3] rfl Tryz.results11 (RV.cell 0 rfl rfl ar) (RV.tmp rfl) rfl rfl rfl (cL rfl (gO rfl))
theorem ve (bm:Value)(l:List df)(w:World)(own:List Nat)(H:Wd w (blks []++own) ([]++[ag.held w own]) [ag.ls bm (l:List df),ag.acts l] w)  : Calls Tryz.prog 23 #[bm] w fun e w' => ∃z:Value×Value×Value×Value,e = .returned (.tuple #[.agg #[z.1,z.2.1,z.2.2.1,z.2.2.2,iV ((((ay l)).1).ae),iV ((((ay l)).1).af)],.bool (((ay l)).2)])∧Wd w (blks []++own) ([]++[ag.held w own]) [ag.ls z.1 ((((ay l)).1).ai:List aj),ag.ls z.2.1 ((((ay l)).1).Things:List ah),ag.ls z.2.2.1 ((((ay l)).1).Held:List Held),ag.ls z.2.2.2 ((((ay l)).1).Notes:List Note)] w':=by
 have uP:=H.cX 0 rfl
 refine R.dc (n:=32) (vs:=[bm]) (B:=[ag.held w own]) [(0,bm)] Tryz.func23 rfl rfl rfl rfl H ?_
 refine R.reg rfl<|R.s rfl (s.alloc (cs:=aJ) cD rfl rfl) fun b1=>R.u 1 rfl<|R.nil ?_
 refine R.reg rfl<|R.u 1 rfl<|?_
 rcases Bool.eq_false_or_eq_true (iw l 80) with h1|h1
 ·
  refine R.c (q.call BM rfl rfl (fun w hw=>(cv (congrArg Value.bool h1) (oL _ (l) (80) w (hw.aT 0 rfl) (hw.acts 1 rfl) )))) rfl<|R.u 1 rfl<|R.nil ?_
  refine R.aI rfl rfl ?_
  refine R.reg rfl<|R.s (B':=(fun g_:Value×Value×Value×Value=>[ag.box b1 aJ 32,ag.held w own])) (F':=(fun g_:Value×Value×Value×Value=>[ag.ls g_.1 (((⟨[],[],[],[],1,1⟩:ap)).ai:List aj),ag.ls g_.2.1 (((⟨[],[],[],[],1,1⟩:ap)).Things:List ah),ag.ls g_.2.2.1 (((⟨[],[],[],[],1,1⟩:ap)).Held:List Held),ag.ls g_.2.2.2 (((⟨[],[],[],[],1,1⟩:ap)).Notes:List Note),ag.ls bm (l:List df),ag.acts l])) rfl (s.bJ (B0:=[]) (Br:=[ag.box b1 aJ 32,ag.held w own]) (F0:=[]) [0,1] [] (fun g_:Value×Value×Value×Value => .agg #[g_.1,g_.2.1,g_.2.2.1,g_.2.2.2,iV (((⟨[],[],[],[],1,1⟩:ap)).ae),iV (((⟨[],[],[],[],1,1⟩:ap)).af)]) (fun g_:Value×Value×Value×Value=>[]) (fun g_:Value×Value×Value×Value=>[ag.ls g_.1 (((⟨[],[],[],[],1,1⟩:ap)).ai:List aj),ag.ls g_.2.1 (((⟨[],[],[],[],1,1⟩:ap)).Things:List ah),ag.ls g_.2.2.1 (((⟨[],[],[],[],1,1⟩:ap)).Held:List Held),ag.ls g_.2.2.2 (((⟨[],[],[],[],1,1⟩:ap)).Notes:List Note)]) rfl rfl rfl BN rfl rfl (fun w own hw H=>ru  w own H ) rfl) ?_
  rintro ⟨z1,z2,z3,z4⟩
  dsimp only
  refine R.s rfl (s.alloc (cs:=aJ) cD rfl rfl) fun b2=>R.s rfl (s.e8 (us:=[z1,z2,z3,z4,iV ((⟨[],[],[],[],1,1⟩:ap).ae),iV ((⟨[],[],[],[],1,1⟩:ap).af)]) (cs':=[z1,z2,z3,z4,iV ((⟨[],[],[],[],1,1⟩:ap).ae),iV ((⟨[],[],[],[],1,1⟩:ap).af)]) 0 _ rfl rfl rfl (fun _ _=>rfl) (.inl ar) (fun w hw=>(ak (Sl.one (hw.aT 0 rfl)) (ak (Sl.one (hw.aT 1 rfl)) (ak (Sl.one (hw.aT 2 rfl)) (ak (Sl.one (hw.aT 3 rfl)) (ak rfl (ak rfl aS))))))) rfl rfl rfl) fun _=>R.nil ?_
  refine R.reg rfl<|R.u 1 rfl<|R.nil ?_
  refine R.loop (fun g_:Nat×ap×Value×Value×Value×Value=>[(0,bm),(2,.pointer (some ⟨b1,0,none⟩)),(4,.pointer (some ⟨b2,0,none⟩)),(5,iV (g_.1:Int))]) (fun g_:Nat×ap×Value×Value×Value×Value=>[ag.box b2 [g_.2.2.1,g_.2.2.2.1,g_.2.2.2.2.1,g_.2.2.2.2.2,iV g_.2.1.ae,iV g_.2.1.af] 32,ag.box b1 aJ 32,ag.held w own]) (fun g_:Nat×ap×Value×Value×Value×Value=>[ag.ls g_.2.2.1 (g_.2.1.ai:List aj),ag.ls g_.2.2.2.1 (g_.2.1.Things:List ah),ag.ls g_.2.2.2.2.1 (g_.2.1.Held:List Held),ag.ls g_.2.2.2.2.2 (g_.2.1.Notes:List Note),ag.ls z1 ((⟨[],[],[],[],1,1⟩:ap).ai:List aj),ag.ls z2 ((⟨[],[],[],[],1,1⟩:ap).Things:List ah),ag.ls z3 ((⟨[],[],[],[],1,1⟩:ap).Held:List Held),ag.ls z4 ((⟨[],[],[],[],1,1⟩:ap).Notes:List Note),ag.ls bm (l:List df),ag.acts l]) (fun g_:Nat×ap×Value×Value×Value×Value=>g_.1≤l.length∧g_.2.1=grow (l.take g_.1)∧iw l 80=true) (fun g_:Nat×ap×Value×Value×Value×Value=>l.length-g_.1) (0,(⟨[],[],[],[],1,1⟩:ap),z1,z2,z3,z4) rfl (by exact ⟨by omega,rfl,by assumption⟩) ⟨rfl,rfl,rfl,rfl,trivial⟩ (fun _=>Wd.pick [0,1,2] [0,1,2,3,0,1,2,3,4,5] rfl rfl rfl) ?_
  rintro ⟨k,m,iC,lE,jX,lu⟩ ⟨hk,HM,HL⟩
  dsimp only at *
  have ER:=oH HL
  have hkk:Ok m:=by rw [HM];exact uc (by rw [List.length_take];omega)
  refine R.reg rfl<|R.u 2 rfl<|R.q (q.len' (fun _=>Wd.aT 8 rfl) rfl Tryz.underlying22) rfl<|?_
  by_cases h2:k<l.length
  ·
   refine R.q (q.lss rfl rfl (decide_eq_true (by omega))) rfl<|R.nil ?_
   refine R.aD rfl rfl ?_
   obtain ⟨x1,hx1⟩:∃z,l[k]? = some z:=⟨_,List.getElem?_eq_getElem (by omega)⟩
   refine R.gN (fuel:=12) (Wd w (blks []++own) [ag.box b2 [iC,lE,jX,lu,iV m.ae,iV m.af] 32,ag.box b1 aJ 32,ag.held w own] [ag.ls iC (m.ai:List aj),ag.ls lE (m.Things:List ah),ag.ls jX (m.Held:List Held),ag.ls lu (m.Notes:List Note),ag.ls z1 ((⟨[],[],[],[],1,1⟩:ap).ai:List aj),ag.ls z2 ((⟨[],[],[],[],1,1⟩:ap).Things:List ah),ag.ls z3 ((⟨[],[],[],[],1,1⟩:ap).Held:List Held),ag.ls z4 ((⟨[],[],[],[],1,1⟩:ap).Notes:List Note),ag.ls bm (l:List df),ag.acts l]) rfl mixed rfl ?_
   refine D.q (i:=0) rfl (by kernel_rfl) (fun _=>Wd.aM [0,1,2] [0,1,2,3,4,5,6,7,8,9] rfl rfl rfl) rfl (q.cT 0 rfl rfl ar) rfl<|D.q (i:=1) rfl (by kernel_rfl) (fun _=>Wd.aM [0,1,2] [0,1,2,3,4,5,6,7,8,9] rfl rfl rfl) rfl (q.mv rfl) rfl<|D.q (i:=2) rfl (by kernel_rfl) (fun _=>Wd.aM [0,1,2] [0,1,2,3,4,5,6,7,8,9] rfl rfl rfl) rfl (q.mv rfl) rfl<|D.q (i:=3) rfl (by kernel_rfl) (fun _=>Wd.aM [0,1,2] [0,1,2,3,4,5,6,7,8,9] rfl rfl rfl) rfl (q.idx (i:=k) (fun _=>Wd.aT 8 rfl) rfl rfl sr rfl hx1) rfl<|D.q (i:=4) rfl (by kernel_rfl) (fun _=>Wd.aM [0,1,2] [0,1,2,3,4,5,6,7,8,9] rfl rfl rfl) rfl (q.dD (ds:=fq x1) (fun _=>Wd.aT 8 rfl) hx1 rfl xY rfl) rfl<|D.two (i:=5) (j:=9) (by kernel_rfl) rfl rfl ?_ ?_
   ·
    refine Do.s (B':=(fun g_:Value×Value×Value×Value=>[ag.box b2 [iC,lE,jX,lu,iV m.ae,iV m.af] 32,ag.box b1 aJ 32,ag.held w own])) (F':=(fun g_:Value×Value×Value×Value=>[ag.ls g_.1 ((((fh m x1)).1).ai:List aj),ag.ls g_.2.1 ((((fh m x1)).1).Things:List ah),ag.ls g_.2.2.1 ((((fh m x1)).1).Held:List Held),ag.ls g_.2.2.2 ((((fh m x1)).1).Notes:List Note),ag.ls iC (m.ai:List aj),ag.ls lE (m.Things:List ah),ag.ls jX (m.Held:List Held),ag.ls lu (m.Notes:List Note),ag.ls z1 (([]):List aj),ag.ls z2 (([]):List ah),ag.ls z3 (([]):List Held),ag.ls z4 (([]):List Note),ag.ls bm (l:List df),ag.acts l])) (s.bJ (B0:=[]) (Br:=[ag.box b2 [iC,lE,jX,lu,iV m.ae,iV m.af] 32,ag.box b1 aJ 32,ag.held w own]) (F0:=[ag.ls iC (m.ai:List aj),ag.ls lE (m.Things:List ah),ag.ls jX (m.Held:List Held),ag.ls lu (m.Notes:List Note)]) [0,1,2] [0,1,2,3] (fun g_:Value×Value×Value×Value => .tuple #[.agg #[g_.1,g_.2.1,g_.2.2.1,g_.2.2.2,iV ((((fh m x1)).1).ae),iV ((((fh m x1)).1).af)],e6 (((fh m x1)).2)]) (fun g_:Value×Value×Value×Value=>[]) (fun g_:Value×Value×Value×Value=>[ag.ls g_.1 ((((fh m x1)).1).ai:List aj),ag.ls g_.2.1 ((((fh m x1)).1).Things:List ah),ag.ls g_.2.2.1 ((((fh m x1)).1).Held:List Held),ag.ls g_.2.2.2 ((((fh m x1)).1).Notes:List Note)]) rfl rfl rfl ze rfl rfl (fun w own hw H=>uf iC lE jX lu (m) (x1) w own H ‹_›) rfl) (fun _=>(fun _=>Wd.aM [0,1,2] [4,5,6,7,8,9,10,11,12,13] rfl rfl rfl)) rfl ?_
    rintro ⟨z9,nf,t7,z12⟩
    dsimp only
    refine D.q (i:=6) rfl (by kernel_rfl) (fun _=>Wd.aM [0,1,2] [4,5,6,7,8,9,10,11,12,13] rfl rfl rfl) rfl (q.mv rfl) rfl<|D.q (i:=7) rfl (by kernel_rfl) (fun _=>Wd.aM [0,1,2] [4,5,6,7,8,9,10,11,12,13] rfl rfl rfl) rfl (q.ext rfl rfl) rfl<|D.q (i:=8) rfl (by kernel_rfl) (fun _=>Wd.aM [0,1,2] [4,5,6,7,8,9,10,11,12,13] rfl rfl rfl) rfl (q.ext rfl rfl) rfl<|D.one (i:=9) (by kernel_rfl) rfl ?_
    refine Do.s (s.alloc (cs:=aJ) cD rfl rfl) (fun _=>(fun _=>Wd.aM [1,2,3] [4,5,6,7,8,9,10,11,12,13] rfl rfl rfl)) rfl fun b3=>D.one (i:=10) (by kernel_rfl) rfl ?_
    refine Do.s (s.e8 (us:=[z9,nf,t7,z12,iV (((fh m x1).1).ae),iV (((fh m x1).1).af)]) (cs':=[z9,nf,t7,z12,iV (((fh m x1).1).ae),iV (((fh m x1).1).af)]) 0 _ rfl rfl rfl (fun _ _=>rfl) (.inl ar) (fun w hw=>(ak (Sl.one (hw.aT 0 rfl)) (ak (Sl.one (hw.aT 1 rfl)) (ak (Sl.one (hw.aT 2 rfl)) (ak (Sl.one (hw.aT 3 rfl)) (ak rfl (ak rfl aS))))))) rfl rfl rfl) (fun _=>(fun _=>Wd.aM [1,2,3] [4,5,6,7,8,9,10,11,12,13] rfl rfl rfl)) rfl fun _=>D.q (i:=11) rfl (by kernel_rfl) (fun _=>Wd.aM [1,2,3] [4,5,6,7,8,9,10,11,12,13] rfl rfl rfl) rfl (q.as rfl) rfl<|D.done (by kernel_rfl)<|R.reg rfl<|R.u 1 rfl<|?_
    by_cases h3:(fh m x1).2=0
    ·
     refine R.q (q.nV rfl rfl Tryz.underlying35 (by omega)) rfl<|R.nil ?_
     refine R.aD rfl rfl ?_
     refine R.reg rfl<|R.q (q.cT 0 rfl rfl ar) rfl<|R.s rfl (s.e8 (us:=[z9,nf,t7,z12,iV (((fh m x1).1).ae),iV (((fh m x1).1).af)]) (cs':=[z9,nf,t7,z12,iV (((fh m x1).1).ae),iV (((fh m x1).1).af)]) 1 _ rfl rfl rfl (fun _ _=>rfl) (.inl ar) (fun w hw=>(ak (Sl.one (hw.aT 0 rfl)) (ak (Sl.one (hw.aT 1 rfl)) (ak (Sl.one (hw.aT 2 rfl)) (ak (Sl.one (hw.aT 3 rfl)) (ak rfl (ak rfl aS))))))) rfl rfl rfl) fun _=>R.nil ?_
     refine R.reg rfl<|R.u 1 rfl<|R.q (q.add (r:=((k+1:Nat):Int)) rfl rfl (wr (by omega))) rfl<|R.u 1 rfl<|R.nil ?_
     refine R.back (k+1,((fh m x1).1),z9,nf,t7,z12) rfl (by (exact ⟨by omega,by rw [kI hx1,rz (by rw [← HM];assumption),← HM],HL⟩)) (by dsimp only;omega) ⟨rfl,rfl,rfl,rfl,trivial⟩ (fun _=>Wd.aM [1,2,3] [0,1,2,3,8,9,10,11,12,13] rfl rfl rfl)
    ·
     refine R.q (q.qM rfl rfl Tryz.underlying35 (by omega)) rfl<|R.nil ?_
     refine R.aI rfl rfl ?_
     refine R.reg rfl<|R.u 1 rfl<|R.q (q.add (r:=((k+1:Nat):Int)) rfl rfl (wr (by omega))) rfl<|R.u 1 rfl<|R.nil ?_
     refine R.back (k+1,m,iC,lE,jX,lu) rfl (by (exact ⟨by omega,by rw [kI hx1,t8 (by rw [← HM];assumption),← HM],HL⟩)) (by dsimp only;omega) ⟨rfl,rfl,rfl,rfl,trivial⟩ (fun _=>Wd.aM [1,2,3] [4,5,6,7,8,9,10,11,12,13] rfl rfl rfl)
   ·
    refine Do.s (s.alloc (cs:=aJ) cD rfl rfl) (fun _=>(fun _=>Wd.aM [1,2,3] [0,1,2,3,4,5,6,7,8,9] rfl rfl rfl)) rfl fun b4=>D.one (i:=5) (by kernel_rfl) rfl ?_
    refine Do.s (B':=(fun g_:Value×Value×Value×Value=>[ag.box b4 aJ 32,ag.box b2 [iC,lE,jX,lu,iV m.ae,iV m.af] 32,ag.box b1 aJ 32,ag.held w own])) (F':=(fun g_:Value×Value×Value×Value=>[ag.ls g_.1 ((((fh m x1)).1).ai:List aj),ag.ls g_.2.1 ((((fh m x1)).1).Things:List ah),ag.ls g_.2.2.1 ((((fh m x1)).1).Held:List Held),ag.ls g_.2.2.2 ((((fh m x1)).1).Notes:List Note),ag.ls iC (m.ai:List aj),ag.ls lE (m.Things:List ah),ag.ls jX (m.Held:List Held),ag.ls lu (m.Notes:List Note),ag.ls z1 (([]):List aj),ag.ls z2 (([]):List ah),ag.ls z3 (([]):List Held),ag.ls z4 (([]):List Note),ag.ls bm (l:List df),ag.acts l])) (s.bJ (B0:=[]) (Br:=[ag.box b4 aJ 32,ag.box b2 [iC,lE,jX,lu,iV m.ae,iV m.af] 32,ag.box b1 aJ 32,ag.held w own]) (F0:=[ag.ls iC (m.ai:List aj),ag.ls lE (m.Things:List ah),ag.ls jX (m.Held:List Held),ag.ls lu (m.Notes:List Note)]) [0,1,2,3] [0,1,2,3] (fun g_:Value×Value×Value×Value => .tuple #[.agg #[g_.1,g_.2.1,g_.2.2.1,g_.2.2.2,iV ((((fh m x1)).1).ae),iV ((((fh m x1)).1).af)],e6 (((fh m x1)).2)]) (fun g_:Value×Value×Value×Value=>[]) (fun g_:Value×Value×Value×Value=>[ag.ls g_.1 ((((fh m x1)).1).ai:List aj),ag.ls g_.2.1 ((((fh m x1)).1).Things:List ah),ag.ls g_.2.2.1 ((((fh m x1)).1).Held:List Held),ag.ls g_.2.2.2 ((((fh m x1)).1).Notes:List Note)]) rfl rfl rfl ze rfl rfl (fun w own hw H=>uf iC lE jX lu (m) (x1) w own H ‹_›) rfl) (fun _=>(fun _=>Wd.aM [1,2,3] [4,5,6,7,8,9,10,11,12,13] rfl rfl rfl)) rfl ?_
    rintro ⟨yu,yv,yw,yx⟩
    dsimp only
    refine D.q (i:=6) rfl (by kernel_rfl) (fun _=>Wd.aM [1,2,3] [4,5,6,7,8,9,10,11,12,13] rfl rfl rfl) rfl (q.mv rfl) rfl<|D.q (i:=7) rfl (by kernel_rfl) (fun _=>Wd.aM [1,2,3] [4,5,6,7,8,9,10,11,12,13] rfl rfl rfl) rfl (q.ext rfl rfl) rfl<|D.q (i:=8) rfl (by kernel_rfl) (fun _=>Wd.aM [1,2,3] [4,5,6,7,8,9,10,11,12,13] rfl rfl rfl) rfl (q.ext rfl rfl) rfl<|D.one (i:=10) (by kernel_rfl) rfl ?_
    refine Do.s (s.e8 (us:=[yu,yv,yw,yx,iV (((fh m x1).1).ae),iV (((fh m x1).1).af)]) (cs':=[yu,yv,yw,yx,iV (((fh m x1).1).ae),iV (((fh m x1).1).af)]) 0 _ rfl rfl rfl (fun _ _=>rfl) (.inl ar) (fun w hw=>(ak (Sl.one (hw.aT 0 rfl)) (ak (Sl.one (hw.aT 1 rfl)) (ak (Sl.one (hw.aT 2 rfl)) (ak (Sl.one (hw.aT 3 rfl)) (ak rfl (ak rfl aS))))))) rfl rfl rfl) (fun _=>(fun _=>Wd.aM [1,2,3] [4,5,6,7,8,9,10,11,12,13] rfl rfl rfl)) rfl fun _=>D.q (i:=11) rfl (by kernel_rfl) (fun _=>Wd.aM [1,2,3] [4,5,6,7,8,9,10,11,12,13] rfl rfl rfl) rfl (q.as rfl) rfl<|D.done (by kernel_rfl)<|R.reg rfl<|R.u 1 rfl<|?_
    by_cases h4:(fh m x1).2=0
    ·
     refine R.q (q.nV rfl rfl Tryz.underlying35 (by omega)) rfl<|R.nil ?_
     refine R.aD rfl rfl ?_
     refine R.reg rfl<|R.q (q.cT 0 rfl rfl ar) rfl<|R.s rfl (s.e8 (us:=[yu,yv,yw,yx,iV (((fh m x1).1).ae),iV (((fh m x1).1).af)]) (cs':=[yu,yv,yw,yx,iV (((fh m x1).1).ae),iV (((fh m x1).1).af)]) 1 _ rfl rfl rfl (fun _ _=>rfl) (.inl ar) (fun w hw=>(ak (Sl.one (hw.aT 0 rfl)) (ak (Sl.one (hw.aT 1 rfl)) (ak (Sl.one (hw.aT 2 rfl)) (ak (Sl.one (hw.aT 3 rfl)) (ak rfl (ak rfl aS))))))) rfl rfl rfl) fun _=>R.nil ?_
     refine R.reg rfl<|R.u 1 rfl<|R.q (q.add (r:=((k+1:Nat):Int)) rfl rfl (wr (by omega))) rfl<|R.u 1 rfl<|R.nil ?_
     refine R.back (k+1,((fh m x1).1),yu,yv,yw,yx) rfl (by (exact ⟨by omega,by rw [kI hx1,rz (by rw [← HM];assumption),← HM],HL⟩)) (by dsimp only;omega) ⟨rfl,rfl,rfl,rfl,trivial⟩ (fun _=>Wd.aM [1,2,3] [0,1,2,3,8,9,10,11,12,13] rfl rfl rfl)
    ·
     refine R.q (q.qM rfl rfl Tryz.underlying35 (by omega)) rfl<|R.nil ?_
     refine R.aI rfl rfl ?_
     refine R.reg rfl<|R.u 1 rfl<|R.q (q.add (r:=((k+1:Nat):Int)) rfl rfl (wr (by omega))) rfl<|R.u 1 rfl<|R.nil ?_
     refine R.back (k+1,m,iC,lE,jX,lu) rfl (by (exact ⟨by omega,by rw [kI hx1,t8 (by rw [← HM];assumption),← HM],HL⟩)) (by dsimp only;omega) ⟨rfl,rfl,rfl,rfl,trivial⟩ (fun _=>Wd.aM [1,2,3] [4,5,6,7,8,9,10,11,12,13] rfl rfl rfl)
  ·
   refine R.q (q.lss rfl rfl (decide_eq_false (by omega))) rfl<|R.nil ?_
   refine R.aI rfl rfl ?_
   refine R.reg rfl<|R.q (q.cT 0 rfl rfl ar) rfl<|R.s rfl (s.e8 (us:=[iC,lE,jX,lu,iV m.ae,iV m.af]) (cs':=[iC,lE,jX,lu,iV m.ae,iV m.af]) 1 _ rfl rfl rfl (fun _ _=>rfl) (.inl ar) (fun w hw=>(ak (Sl.one (hw.aT 0 rfl)) (ak (Sl.one (hw.aT 1 rfl)) (ak (Sl.one (hw.aT 2 rfl)) (ak (Sl.one (hw.aT 3 rfl)) (ak rfl (ak rfl aS))))))) rfl rfl rfl) fun _=>R.u 1 rfl<|R.nil ?_
   have hz:ay l=(m,true):=by (unfold ay;rw [if_pos HL,HM,List.take_of_length_le (by omega)])
   rw [hz]
   exact R.w2 (iC,lE,jX,lu) [2] [0,1,2,3] rfl Tryz.results23 (RV.cell 1 rfl rfl ar) (RV.tmp rfl) rfl rfl rfl (cL rfl rfl)
 ·
  refine R.c (q.call BM rfl rfl (fun w hw=>(cv (congrArg Value.bool h1) (oL _ (l) (80) w (hw.aT 0 rfl) (hw.acts 1 rfl) )))) rfl<|R.u 1 rfl<|R.nil ?_
  refine R.aD rfl rfl ?_
  refine R.reg rfl<|R.q (q.build (cs:=aJ) cY rfl rfl) rfl<|R.s rfl (s.st (us:=aJ) (cs':=aJ) 0 _ rfl rfl rfl rfl (.inl ar) rfl rfl rfl rfl) fun _=>R.u 1 rfl<|R.nil ?_
  refine R.mp (fun _ hw=>hw.bg (α:=aj)) ?_
  refine R.mp (fun _ hw=>hw.bg (α:=ah)) ?_
  refine R.mp (fun _ hw=>hw.bg (α:=Held)) ?_
  refine R.mp (fun _ hw=>hw.bg (α:=Note)) ?_
  have hz:ay l=((⟨[],[],[],[],0,0⟩:ap),false):=by (unfold ay;rw [if_neg (by simp_all)];rfl)
  rw [hz]
  exact R.w2 ((nS),(nS),(nS),(nS)) [1] [3,2,1,0] rfl Tryz.results23 (RV.cell 0 rfl rfl ar) (RV.tmp rfl) rfl rfl rfl (cL rfl rfl)
set_option maxRecDepth 100000 in
theorem pq (sN sO sP sQ:Value)(a:ap)(sR sS sT sU:Value)(b:ap)(w:World)(CH:Sl w sN a.ai)(sV:Sl w sO a.Things)(yy:Sl w sP a.Held)(sW:Sl w sQ a.Notes)(CJ:Sl w sR b.ai)(vf:Sl w sS b.Things)(yz:Sl w sT b.Held)(vg:Sl w sU b.Notes):Calls Tryz.prog 18 #[.agg #[sN,sO,sP,sQ,iV a.ae,iV a.af],.agg #[sR,sS,sT,sU,iV b.ae,iV b.af]] w fun e w'=>e = .returned (.bool (decide (a=b)))∧Ext w w':=by
 have ba:=sV.dH;have bb:=vf.dH;have bc:=sW.dH;have bd:=vg.dH
 refine R.enter (n:=93) (vs:=[.agg #[sN,sO,sP,sQ,iV a.ae,iV a.af],.agg #[sR,sS,sT,sU,iV b.ae,iV b.af]]) [] [(0,.agg #[sN,sO,sP,sQ,iV a.ae,iV a.af]),(1,.agg #[sR,sS,sT,sU,iV b.ae,iV b.af])] Tryz.func18 rfl rfl rfl rfl ?_
 refine R.reg rfl<|R.s rfl (s.box (cs:=[sN,sO,sP,sQ,iV a.ae,iV a.af]) rfl rfl rfl) fun b1=>R.s rfl (s.box (cs:=[sR,sS,sT,sU,iV b.ae,iV b.af]) rfl rfl rfl) fun b2=>R.u 1 rfl<|R.nil ?_
 refine R.reg rfl<|R.q (q.a8 (off':=0) rfl bj rfl) rfl<|R.q (q.ld 1 rfl rfl bA rfl) rfl<|R.q (q.a8 (off':=0) rfl bj rfl) rfl<|R.q (q.ld 0 rfl rfl bA rfl) rfl<|?_
 rcases Bool.eq_false_or_eq_true (decide (a.ai=b.ai)) with h1|h1
 ·
  refine R.c (q.call zi rfl rfl (fun w hw=>(cv (congrArg Value.bool h1) (kY _ (a.ai) _ (b.ai) w ((fun _=>Wd.old CH) w hw) ((fun _=>Wd.old CJ) w hw) )))) rfl<|R.u 1 rfl<|R.nil ?_
  refine R.reg rfl<|R.q (q.a8 (off':=2) rfl bP rfl) rfl<|R.q (q.ld 1 rfl rfl cx rfl) rfl<|R.q (q.a8 (off':=2) rfl bP rfl) rfl<|R.q (q.ld 0 rfl rfl cx rfl) rfl<|?_
  rcases Bool.eq_false_or_eq_true (decide (a.Held=b.Held)) with h2|h2
  ·
   refine R.c (q.call tM rfl rfl (fun w hw=>(cv (congrArg Value.bool h2) (gX _ (a.Held) _ (b.Held) w ((fun _=>Wd.old yy) w hw) ((fun _=>Wd.old yz) w hw) )))) rfl<|R.u 1 rfl<|R.nil ?_
   refine R.reg rfl<|R.u 7 rfl<|R.qg rfl (q.a8 (off':=4) rfl bW rfl) rfl<|R.qg rfl (q.ld 1 rfl rfl av rfl) rfl<|R.qg rfl (q.a8 (off':=4) rfl bW rfl) rfl<|R.qg rfl (q.ld 0 rfl rfl av rfl) rfl<|?_
   by_cases h3:a.ae=b.ae
   ·
    refine R.qg rfl (q.neq rfl rfl (bne_eq_false_iff_eq.2 (by omega))) rfl<|R.u 2 rfl<|R.qg rfl (q.a8 (off':=5) rfl cU rfl) rfl<|R.qg rfl (q.ld 1 rfl rfl av rfl) rfl<|R.qg rfl (q.a8 (off':=5) rfl cU rfl) rfl<|R.qg rfl (q.ld 0 rfl rfl av rfl) rfl<|?_
    by_cases h4:a.af=b.af
    ·
     refine R.qg rfl (q.neq rfl rfl (bne_eq_false_iff_eq.2 (by omega))) rfl<|R.u 2 rfl<|R.qg rfl (q.a8 (off':=1) rfl bO rfl) rfl<|R.qg rfl (q.ld 1 rfl rfl cw rfl) rfl<|R.qg rfl (q.len' (fun _=>Wd.old sV) rfl Tryz.underlying28) rfl<|R.qg rfl (q.a8 (off':=1) rfl bO rfl) rfl<|R.qg rfl (q.ld 0 rfl rfl cw rfl) rfl<|R.qg rfl (q.len' (fun _=>Wd.old vf) rfl Tryz.underlying28) rfl<|?_
     by_cases h5:a.Things.length=b.Things.length
     ·
      refine R.qg rfl (q.neq rfl rfl (bne_eq_false_iff_eq.2 (by omega))) rfl<|R.u 2 rfl<|R.qg rfl (q.a8 (off':=3) rfl bR rfl) rfl<|R.qg rfl (q.ld 1 rfl rfl cy rfl) rfl<|R.qg rfl (q.len' (fun _=>Wd.old sW) rfl Tryz.underlying30) rfl<|R.qg rfl (q.a8 (off':=3) rfl bR rfl) rfl<|R.qg rfl (q.ld 0 rfl rfl cy rfl) rfl<|R.qg rfl (q.len' (fun _=>Wd.old vg) rfl Tryz.underlying30) rfl<|?_
      by_cases h6:a.Notes.length=b.Notes.length
      ·
       refine R.qg rfl (q.neq rfl rfl (bne_eq_false_iff_eq.2 (by omega))) rfl<|R.u 1 rfl<|R.nil ?_
       refine R.aI rfl rfl ?_
       refine R.reg rfl<|R.u 1 rfl<|R.nil ?_
       refine R.loop (fun k:Nat=>[(2,.pointer (some ⟨b1,0,none⟩)),(3,.pointer (some ⟨b2,0,none⟩)),(7,iV (k:Int))]) (fun k:Nat=>[ag.box b2 [sR,sS,sT,sU,iV b.ae,iV b.af] 32,ag.box b1 [sN,sO,sP,sQ,iV a.ae,iV a.af] 32]) (fun k:Nat=>[]) (fun k:Nat=>k≤a.Things.length ∧ ∀j,j<k→a.Things[j]? = b.Things[j]?) (fun k:Nat=>a.Things.length-k) 0 rfl (by exact ⟨by omega,fun j hj=>absurd hj (Nat.not_lt_zero _)⟩) ⟨rfl,rfl,rfl,trivial⟩ (fun _=>Wd.pick [0,1] [] rfl rfl rfl) ?_
       rintro k ⟨hk,HA⟩
       refine R.reg rfl<|R.u 1 rfl<|R.q (q.a8 (off':=1) rfl bO rfl) rfl<|R.q (q.ld 1 rfl rfl cw rfl) rfl<|R.q (q.len' (fun _=>Wd.old sV) rfl Tryz.underlying28) rfl<|?_
       by_cases h7:k<a.Things.length
       ·
        refine R.q (q.lss rfl rfl (decide_eq_true (by omega))) rfl<|R.nil ?_
        refine R.aD rfl rfl ?_
        obtain ⟨x1,hx1⟩:∃z,a.Things[k]? = some z:=⟨_,List.getElem?_eq_getElem (by omega)⟩
        obtain ⟨x2,hx2⟩:∃z,b.Things[k]? = some z:=⟨_,List.getElem?_eq_getElem (by omega)⟩
        by_cases h8:x1=x2
        ·
         refine R.dM rfl mixed (by kernel_rfl)<|Q.q (q.a8 (off':=1) rfl bO rfl) rfl<|Q.q (q.ld 1 rfl rfl cw rfl) rfl<|Q.u 1 rfl<|Q.q (q.idx (i:=k) (fun _=>Wd.old sV) rfl rfl fb rfl hx1) rfl<|Q.q (q.dD (ds:=eF x1) (fun _=>Wd.old sV) hx1 rfl ft rfl) rfl<|Q.q (q.a8 (off':=1) rfl bO rfl) rfl<|Q.q (q.ld 0 rfl rfl cw rfl) rfl<|Q.u 1 rfl<|Q.q (q.idx (i:=k) (fun _=>Wd.old vf) rfl rfl fb rfl hx2) rfl<|Q.q (q.dD (ds:=eF x2) (fun _=>Wd.old vf) hx2 rfl ft rfl) rfl<|Q.q (q.nW (x:=x1) (y:=x2) zr rfl rfl h8) rfl<|Q.nil ?_
         refine R.aI rfl rfl ?_
         refine R.reg rfl<|R.u 1 rfl<|R.q (q.add (r:=((k+1:Nat):Int)) rfl rfl (wr (by omega))) rfl<|R.u 1 rfl<|R.nil ?_
         refine R.back (k+1) rfl (by (exact ⟨by omega,gC HA hx1 hx2 ‹_›⟩)) (by omega) ⟨rfl,rfl,rfl,trivial⟩ (fun _=>Wd.pick [0,1] [] rfl rfl rfl)
        ·
         refine R.dM rfl mixed (by kernel_rfl)<|Q.q (q.a8 (off':=1) rfl bO rfl) rfl<|Q.q (q.ld 1 rfl rfl cw rfl) rfl<|Q.u 1 rfl<|Q.q (q.idx (i:=k) (fun _=>Wd.old sV) rfl rfl fb rfl hx1) rfl<|Q.q (q.dD (ds:=eF x1) (fun _=>Wd.old sV) hx1 rfl ft rfl) rfl<|Q.q (q.a8 (off':=1) rfl bO rfl) rfl<|Q.q (q.ld 0 rfl rfl cw rfl) rfl<|Q.u 1 rfl<|Q.q (q.idx (i:=k) (fun _=>Wd.old vf) rfl rfl fb rfl hx2) rfl<|Q.q (q.dD (ds:=eF x2) (fun _=>Wd.old vf) hx2 rfl ft rfl) rfl<|Q.q (q.nX (x:=x1) (y:=x2) zr rfl rfl h8) rfl<|Q.nil ?_
         refine R.aD rfl rfl ?_
         refine R.reg rfl<|R.u 1 rfl<|R.nil ?_
         exact R.rv rfl Tryz.results18 rfl (rB (by (exact (decide_eq_false (fun e=>by subst e;have hq:=hx1.symm.trans hx2;injection hq;contradiction)).symm)))
       ·
        refine R.q (q.lss rfl rfl (decide_eq_false (by omega))) rfl<|R.nil ?_
        refine R.aI rfl rfl ?_
        refine R.reg rfl<|R.u 1 rfl<|R.nil ?_
        refine R.loop (fun k:Nat=>[(2,.pointer (some ⟨b1,0,none⟩)),(3,.pointer (some ⟨b2,0,none⟩)),(8,iV (k:Int))]) (fun k:Nat=>[ag.box b2 [sR,sS,sT,sU,iV b.ae,iV b.af] 32,ag.box b1 [sN,sO,sP,sQ,iV a.ae,iV a.af] 32]) (fun k:Nat=>[]) (fun k:Nat=>k≤a.Notes.length ∧ ∀j,j<k→a.Notes[j]? = b.Notes[j]?) (fun k:Nat=>a.Notes.length-k) 0 rfl (by exact ⟨by omega,fun j hj=>absurd hj (Nat.not_lt_zero _)⟩) ⟨rfl,rfl,rfl,trivial⟩ (fun _=>Wd.pick [0,1] [] rfl rfl rfl) ?_
        rintro k ⟨hk2,HA2⟩
        refine R.reg rfl<|R.u 1 rfl<|R.q (q.a8 (off':=3) rfl bR rfl) rfl<|R.q (q.ld 1 rfl rfl cy rfl) rfl<|R.q (q.len' (fun _=>Wd.old sW) rfl Tryz.underlying30) rfl<|?_
        by_cases h9:k<a.Notes.length
        ·
         refine R.q (q.lss rfl rfl (decide_eq_true (by omega))) rfl<|R.nil ?_
         refine R.aD rfl rfl ?_
         obtain ⟨x3,hx3⟩:∃z,a.Notes[k]? = some z:=⟨_,List.getElem?_eq_getElem (by omega)⟩
         obtain ⟨x4,hx4⟩:∃z,b.Notes[k]? = some z:=⟨_,List.getElem?_eq_getElem (by omega)⟩
         by_cases h10:x3=x4
         ·
          refine R.dM rfl mixed (by kernel_rfl)<|Q.q (q.a8 (off':=3) rfl bR rfl) rfl<|Q.q (q.ld 1 rfl rfl cy rfl) rfl<|Q.u 1 rfl<|Q.q (q.idx (i:=k) (fun _=>Wd.old sW) rfl rfl dW rfl hx3) rfl<|Q.q (q.dD (ds:=cb x3) (fun _=>Wd.old sW) hx3 rfl cm rfl) rfl<|Q.q (q.a8 (off':=3) rfl bR rfl) rfl<|Q.q (q.ld 0 rfl rfl cy rfl) rfl<|Q.u 1 rfl<|Q.q (q.idx (i:=k) (fun _=>Wd.old vg) rfl rfl dW rfl hx4) rfl<|Q.q (q.dD (ds:=cb x4) (fun _=>Wd.old vg) hx4 rfl cm rfl) rfl<|Q.q (q.nW (x:=x3) (y:=x4) zt rfl rfl h10) rfl<|Q.nil ?_
          refine R.aI rfl rfl ?_
          refine R.reg rfl<|R.u 1 rfl<|R.q (q.add (r:=((k+1:Nat):Int)) rfl rfl (wr (by omega))) rfl<|R.u 1 rfl<|R.nil ?_
          refine R.back (k+1) rfl (by (exact ⟨by omega,gC HA2 hx3 hx4 ‹_›⟩)) (by omega) ⟨rfl,rfl,rfl,trivial⟩ (fun _=>Wd.pick [0,1] [] rfl rfl rfl)
         ·
          refine R.dM rfl mixed (by kernel_rfl)<|Q.q (q.a8 (off':=3) rfl bR rfl) rfl<|Q.q (q.ld 1 rfl rfl cy rfl) rfl<|Q.u 1 rfl<|Q.q (q.idx (i:=k) (fun _=>Wd.old sW) rfl rfl dW rfl hx3) rfl<|Q.q (q.dD (ds:=cb x3) (fun _=>Wd.old sW) hx3 rfl cm rfl) rfl<|Q.q (q.a8 (off':=3) rfl bR rfl) rfl<|Q.q (q.ld 0 rfl rfl cy rfl) rfl<|Q.u 1 rfl<|Q.q (q.idx (i:=k) (fun _=>Wd.old vg) rfl rfl dW rfl hx4) rfl<|Q.q (q.dD (ds:=cb x4) (fun _=>Wd.old vg) hx4 rfl cm rfl) rfl<|Q.q (q.nX (x:=x3) (y:=x4) zt rfl rfl h10) rfl<|Q.nil ?_
          refine R.aD rfl rfl ?_
          refine R.reg rfl<|R.u 1 rfl<|R.nil ?_
          exact R.rv rfl Tryz.results18 rfl (rB (by (exact (decide_eq_false (fun e=>by subst e;have hq:=hx3.symm.trans hx4;injection hq;contradiction)).symm)))
        ·
         refine R.q (q.lss rfl rfl (decide_eq_false (by omega))) rfl<|R.nil ?_
         refine R.aI rfl rfl ?_
         refine R.reg rfl<|R.u 1 rfl<|R.nil ?_
         exact R.rv rfl Tryz.results18 rfl (rB (by (refine (decide_eq_true ?_).symm;have eT:=dN (a:=a.Things) (b:=b.Things) (by omega) ‹_› HA;have eN:=dN (a:=a.Notes) (b:=b.Notes) (by omega) ‹_› HA2;cases a;cases b;simp_all)))
      ·
       refine R.qg rfl (q.neq rfl rfl (bne_iff_ne.2 (by omega))) rfl<|R.u 1 rfl<|R.nil ?_
       refine R.aD rfl rfl ?_
       refine R.reg rfl<|R.u 1 rfl<|R.nil ?_
       exact R.rv rfl Tryz.results18 rfl (rB (by (exact (decide_eq_false (fun e=>by subst e;first|omega|(simp_all;done))).symm)))
     ·
      refine R.qg rfl (q.neq rfl rfl (bne_iff_ne.2 (by omega))) rfl<|R.u 10 rfl<|R.nil ?_
      refine R.aD rfl rfl ?_
      refine R.reg rfl<|R.u 1 rfl<|R.nil ?_
      exact R.rv rfl Tryz.results18 rfl (rB (by (exact (decide_eq_false (fun e=>by subst e;first|omega|(simp_all;done))).symm)))
    ·
     refine R.qg rfl (q.neq rfl rfl (bne_iff_ne.2 (by omega))) rfl<|R.u 19 rfl<|R.nil ?_
     refine R.aD rfl rfl ?_
     refine R.reg rfl<|R.u 1 rfl<|R.nil ?_
     exact R.rv rfl Tryz.results18 rfl (rB (by (exact (decide_eq_false (fun e=>by subst e;first|omega|(simp_all;done))).symm)))
   ·
    refine R.qg rfl (q.neq rfl rfl (bne_iff_ne.2 (by omega))) rfl<|R.u 26 rfl<|R.nil ?_
    refine R.aD rfl rfl ?_
    refine R.reg rfl<|R.u 1 rfl<|R.nil ?_
    exact R.rv rfl Tryz.results18 rfl (rB (by (exact (decide_eq_false (fun e=>by subst e;first|omega|(simp_all;done))).symm)))
  ·
   refine R.c (q.call tM rfl rfl (fun w hw=>(cv (congrArg Value.bool h2) (gX _ (a.Held) _ (b.Held) w ((fun _=>Wd.old yy) w hw) ((fun _=>Wd.old yz) w hw) )))) rfl<|R.u 1 rfl<|R.nil ?_
   refine R.reg rfl<|R.u 38 rfl<|R.nil ?_
   refine R.aD rfl rfl ?_
   refine R.reg rfl<|R.u 1 rfl<|R.nil ?_
   exact R.rv rfl Tryz.results18 rfl (rB (by (exact (decide_eq_false (fun e=>by subst e;first|omega|(simp_all;done))).symm)))
 ·
  refine R.c (q.call zi rfl rfl (fun w hw=>(cv (congrArg Value.bool h1) (kY _ (a.ai) _ (b.ai) w ((fun _=>Wd.old CH) w hw) ((fun _=>Wd.old CJ) w hw) )))) rfl<|R.u 1 rfl<|R.nil ?_
  refine R.reg rfl<|R.q (q.a8 (off':=2) rfl bP rfl) rfl<|R.q (q.ld 1 rfl rfl cx rfl) rfl<|R.q (q.a8 (off':=2) rfl bP rfl) rfl<|R.q (q.ld 0 rfl rfl cx rfl) rfl<|?_
  rcases Bool.eq_false_or_eq_true (decide (a.Held=b.Held)) with h11|h11
  ·
   refine R.c (q.call tM rfl rfl (fun w hw=>(cv (congrArg Value.bool h11) (gX _ (a.Held) _ (b.Held) w ((fun _=>Wd.old yy) w hw) ((fun _=>Wd.old yz) w hw) )))) rfl<|R.u 1 rfl<|R.nil ?_
   refine R.reg rfl<|R.u 38 rfl<|R.nil ?_
   refine R.aD rfl rfl ?_
   refine R.reg rfl<|R.u 1 rfl<|R.nil ?_
   exact R.rv rfl Tryz.results18 rfl (rB (by (exact (decide_eq_false (fun e=>by subst e;first|omega|(simp_all;done))).symm)))
  ·
   refine R.c (q.call tM rfl rfl (fun w hw=>(cv (congrArg Value.bool h11) (gX _ (a.Held) _ (b.Held) w ((fun _=>Wd.old yy) w hw) ((fun _=>Wd.old yz) w hw) )))) rfl<|R.u 1 rfl<|R.nil ?_
   refine R.reg rfl<|R.u 38 rfl<|R.nil ?_
   refine R.aD rfl rfl ?_
   refine R.reg rfl<|R.u 1 rfl<|R.nil ?_
   exact R.rv rfl Tryz.results18 rfl (rB (by (exact (decide_eq_false (fun e=>by subst e;first|omega|(simp_all;done))).symm)))
theorem Ap:(bC (⟨[],[],[],[],1,1⟩:ap) (⟨1,0⟩:Place) 1).2=0:=rfl
theorem Aq:bC (⟨[],[],[],[],1,1⟩:ap) (⟨1,0⟩:Place) 1=(⟨[⟨1,1,7,0,0⟩],[⟨1,1,⟨#[]⟩⟩],[⟨⟨1,0⟩,1⟩],[],2,2⟩,0):=by
 have e:cE [] ⟨1,0⟩ 1=[⟨⟨1,0⟩,1⟩]:=by rw [put_eq List.Pairwise.nil];decide
 have a:iQ [] ⟨1,0⟩=0:=by rw [at_eq List.Pairwise.nil];decide
 unfold bC eX aW
 rw [if_pos (.inl rfl),if_pos (by rw [a];rfl),if_neg (by decide)]
 simp [e]
theorem sX:au ((bC (⟨[],[],[],[],1,1⟩:ap) (⟨1,0⟩:Place) 1).1) (⟨1,0⟩:Place)=(⟨1,1,7,0,0⟩,0):=by
 have a:iQ [⟨⟨1,0⟩,1⟩] ⟨1,0⟩=1:=by rw [at_eq (List.pairwise_singleton _ _)];decide
 rw [Aq];unfold au;rw [if_pos (by decide)];dsimp only;rw [a];rfl
section
attribute [local irreducible] bC au
theorem Ar:Ok (⟨[],[],[],[],1,1⟩:ap):=Sz.new.ok (by decide)
theorem Au:Ok (bC (⟨[],[],[],[],1,1⟩:ap) (⟨1,0⟩:Place) 1).1:=(ua Sz.new _ _).ok (by decide)
theorem wQ  (w:World)  : Calls Tryz.prog 22 #[] w fun e w'=>e = .returned (.bool true)∧Ext w w':=by
 have f0:=Ar;have f1:=Ap;have f2:=Au;have f3:(au ((bC (⟨[],[],[],[],1,1⟩:ap) (⟨1,0⟩:Place) 1).1) (⟨1,0⟩:Place)).2=0:=(by rw [sX]);have f4:((au ((bC (⟨[],[],[],[],1,1⟩:ap) (⟨1,0⟩:Place) 1).1) (⟨1,0⟩:Place)).1).Rights=7:=(by rw [sX]);have f5:((au ((bC (⟨[],[],[],[],1,1⟩:ap) (⟨1,0⟩:Place) 1).1) (⟨1,0⟩:Place)).1).ID=1:=(by rw [sX])
 refine R.enter (n:=33) (vs:=[]) [] [] Tryz.func22 rfl rfl rfl rfl ?_
 refine R.reg rfl<|R.u 1 rfl<|R.nil ?_
 refine R.reg rfl<|R.s (B':=(fun g_:Value×Value×Value×Value=>[])) (F':=(fun g_:Value×Value×Value×Value=>[ag.ls g_.1 (((⟨[],[],[],[],1,1⟩:ap)).ai:List aj),ag.ls g_.2.1 (((⟨[],[],[],[],1,1⟩:ap)).Things:List ah),ag.ls g_.2.2.1 (((⟨[],[],[],[],1,1⟩:ap)).Held:List Held),ag.ls g_.2.2.2 (((⟨[],[],[],[],1,1⟩:ap)).Notes:List Note)])) rfl (s.bJ (B0:=[]) (Br:=[]) (F0:=[]) [] [] (fun g_:Value×Value×Value×Value => .agg #[g_.1,g_.2.1,g_.2.2.1,g_.2.2.2,iV (((⟨[],[],[],[],1,1⟩:ap)).ae),iV (((⟨[],[],[],[],1,1⟩:ap)).af)]) (fun g_:Value×Value×Value×Value=>[]) (fun g_:Value×Value×Value×Value=>[ag.ls g_.1 (((⟨[],[],[],[],1,1⟩:ap)).ai:List aj),ag.ls g_.2.1 (((⟨[],[],[],[],1,1⟩:ap)).Things:List ah),ag.ls g_.2.2.1 (((⟨[],[],[],[],1,1⟩:ap)).Held:List Held),ag.ls g_.2.2.2 (((⟨[],[],[],[],1,1⟩:ap)).Notes:List Note)]) rfl rfl rfl BN rfl rfl (fun w own hw H=>ru  w own H ) rfl) ?_
 rintro ⟨z1,z2,z3,z4⟩
 dsimp only
 refine R.q (q.build (cs:=[iV 1,iV 0]) mW rfl rfl) rfl<|R.s (B':=(fun g_:Value×Value×Value×Value=>[])) (F':=(fun g_:Value×Value×Value×Value=>[ag.ls g_.1 ((((bC (⟨[],[],[],[],1,1⟩:ap) (⟨1,0⟩:Place) 1)).1).ai:List aj),ag.ls g_.2.1 ((((bC (⟨[],[],[],[],1,1⟩:ap) (⟨1,0⟩:Place) 1)).1).Things:List ah),ag.ls g_.2.2.1 ((((bC (⟨[],[],[],[],1,1⟩:ap) (⟨1,0⟩:Place) 1)).1).Held:List Held),ag.ls g_.2.2.2 ((((bC (⟨[],[],[],[],1,1⟩:ap) (⟨1,0⟩:Place) 1)).1).Notes:List Note),ag.ls z1 (([]):List aj),ag.ls z2 (([]):List ah),ag.ls z3 (([]):List Held),ag.ls z4 (([]):List Note)])) rfl (s.bJ (B0:=[]) (Br:=[]) (F0:=[ag.ls z1 ((⟨[],[],[],[],1,1⟩:ap).ai:List aj),ag.ls z2 ((⟨[],[],[],[],1,1⟩:ap).Things:List ah),ag.ls z3 ((⟨[],[],[],[],1,1⟩:ap).Held:List Held),ag.ls z4 ((⟨[],[],[],[],1,1⟩:ap).Notes:List Note)]) [] [0,1,2,3] (fun g_:Value×Value×Value×Value => .tuple #[.agg #[g_.1,g_.2.1,g_.2.2.1,g_.2.2.2,iV ((((bC (⟨[],[],[],[],1,1⟩:ap) (⟨1,0⟩:Place) 1)).1).ae),iV ((((bC (⟨[],[],[],[],1,1⟩:ap) (⟨1,0⟩:Place) 1)).1).af)],e6 (((bC (⟨[],[],[],[],1,1⟩:ap) (⟨1,0⟩:Place) 1)).2)]) (fun g_:Value×Value×Value×Value=>[]) (fun g_:Value×Value×Value×Value=>[ag.ls g_.1 ((((bC (⟨[],[],[],[],1,1⟩:ap) (⟨1,0⟩:Place) 1)).1).ai:List aj),ag.ls g_.2.1 ((((bC (⟨[],[],[],[],1,1⟩:ap) (⟨1,0⟩:Place) 1)).1).Things:List ah),ag.ls g_.2.2.1 ((((bC (⟨[],[],[],[],1,1⟩:ap) (⟨1,0⟩:Place) 1)).1).Held:List Held),ag.ls g_.2.2.2 ((((bC (⟨[],[],[],[],1,1⟩:ap) (⟨1,0⟩:Place) 1)).1).Notes:List Note)]) rfl rfl rfl zh rfl rfl (fun w own hw H=>pS z1 z2 z3 z4 ((⟨[],[],[],[],1,1⟩:ap)) ((⟨1,0⟩:Place)) (1) w own H ‹_›) rfl) ?_
 rintro ⟨z5,z6,z7,z8⟩
 dsimp only
 refine R.u 3 rfl<|R.s rfl (s.alloc (cs:=aJ) cD rfl rfl) fun b1=>R.s rfl (s.e8 (us:=[z5,z6,z7,z8,iV (((bC (⟨[],[],[],[],1,1⟩:ap) (⟨1,0⟩:Place) 1).1).ae),iV (((bC (⟨[],[],[],[],1,1⟩:ap) (⟨1,0⟩:Place) 1).1).af)]) (cs':=[z5,z6,z7,z8,iV (((bC (⟨[],[],[],[],1,1⟩:ap) (⟨1,0⟩:Place) 1).1).ae),iV (((bC (⟨[],[],[],[],1,1⟩:ap) (⟨1,0⟩:Place) 1).1).af)]) 0 _ rfl rfl rfl (fun _ _=>rfl) (.inl ar) (fun w hw=>(ak (Sl.one (hw.aT 0 rfl)) (ak (Sl.one (hw.aT 1 rfl)) (ak (Sl.one (hw.aT 2 rfl)) (ak (Sl.one (hw.aT 3 rfl)) (ak rfl (ak rfl aS))))))) rfl rfl rfl) fun _=>R.u 1 rfl<|R.nil ?_
 refine R.reg rfl<|R.q (q.cT 0 rfl rfl ar) rfl<|R.q (q.build (cs:=[iV 1,iV 0]) mW rfl rfl) rfl<|R.c (q.call oq rfl rfl (fun w hw=>(jH _ _ _ _ (((bC (⟨[],[],[],[],1,1⟩:ap) (⟨1,0⟩:Place) 1).1)) ((⟨1,0⟩:Place)) w (hw.aT 0 rfl) (hw.aT 1 rfl) (hw.aT 2 rfl) (hw.aT 3 rfl) ‹_›))) rfl<|R.u 3 rfl<|R.s rfl (s.alloc (cs:=dw) bE rfl rfl) fun b2=>R.s rfl (s.st (us:=aA ((au ((bC (⟨[],[],[],[],1,1⟩:ap) (⟨1,0⟩:Place) 1).1) (⟨1,0⟩:Place)).1)) (cs':=aA ((au ((bC (⟨[],[],[],[],1,1⟩:ap) (⟨1,0⟩:Place) 1).1) (⟨1,0⟩:Place)).1)) 0 _ rfl rfl rfl rfl (.inl aQ) rfl rfl rfl rfl) fun _=>R.u 1 rfl<|R.nil ?_
 refine R.reg rfl<|R.u 1 rfl<|R.q (q.nV rfl rfl Tryz.underlying35 (by omega)) rfl<|R.u 2 rfl<|R.qg rfl (q.nV rfl rfl Tryz.underlying35 (by omega)) rfl<|R.u 2 rfl<|R.qg rfl (q.a8 (off':=2) rfl f6 rfl) rfl<|R.qg rfl (q.ld 0 rfl rfl av rfl) rfl<|R.qg rfl (q.eql rfl rfl (beq_iff_eq.2 (by omega))) rfl<|R.u 2 rfl<|R.qg rfl (q.a8 (off':=0) rfl bH rfl) rfl<|R.qg rfl (q.ld 0 rfl rfl av rfl) rfl<|R.qg rfl (q.eql rfl rfl (beq_iff_eq.2 (by omega))) rfl<|R.u 2 rfl<|R.nil ?_
 exact R.rv rfl Tryz.results22 rfl (rB (by (rfl)))
end
end Go.Proofs.YtbkfhjaibhnkmaaGreatDoor
