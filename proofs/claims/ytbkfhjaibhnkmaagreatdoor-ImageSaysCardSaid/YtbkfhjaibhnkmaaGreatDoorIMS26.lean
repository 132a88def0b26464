import Derived.Test.YtbkfhjaibhnkmaaGreatDoorIMS24
import Derived.Test.YtbkfhjaibhnkmaaGreatDoorIMS25
import Derived.Test.YtbkfhjaibhnkmaaGreatDoorIMS12
namespace Go.Proofs.YtbkfhjaibhnkmaaGreatDoor
open Go Go.RowKit
set_option linter.unusedVariables false
set_option linter.unusedSimpArgs false
set_option maxRecDepth 100000
theorem iK (bG:Value)(l:List Change)(most:Int)(w:World)(df:Sl w bG l):Calls Tryz.prog 8 #[bG,iV most] w fun e w'=>e = .returned (.bool (iu l most))∧Ext w w':=by
 have pV:=df.ec
 refine R.enter (n:=32) (vs:=[bG,iV most]) [] [(0,bG),(1,iV most)] Tryz.func8 O O O O ?_
 refine R.Au df ?_
 refine R.reg O<|R.u 1 O<|R.nil ?_
 refine R.reg O<|R.u 1 O<|R.q (q.len' (bJ 0 O) O Tryz.underlying23) O<|R.u 1 O<|?_
 by_cases h1:most<(l.length:Int)
 ·
  refine R.q (q.gtr O O (decide_eq_true (by omega))) O<|R.nil ?_
  refine R.aE O O ?_
  refine R.reg O<|R.u 1 O<|R.nil ?_
  exact R.rv O Tryz.results8 O (rB (by (unfold iu;(rw [decide_eq_false (by omega)];rfl))))
 ·
  refine R.q (q.gtr O O (decide_eq_false (by omega))) O<|R.nil ?_
  refine R.aF O O ?_
  refine R.reg O<|R.u 1 O<|R.nil ?_
  refine R.loop (fun k:Nat=>[(0,bG),(5,iV (k:Int))]) (fun k:Nat=>[]) (fun k:Nat=>[ag.ls bG l]) (fun k:Nat=>k≤l.length∧(l.take k).all kg=true) (fun k:Nat=>l.length-k) 0 O (by exact ⟨by omega,rfl⟩) ⟨rfl,rfl,trivial⟩ (fun _=>Wd.pick [] [0] O O O) ?_
  rintro k ⟨hk,HA⟩
  refine R.reg O<|R.u 2 O<|R.q (q.len' (bJ 0 O) O Tryz.underlying23) O<|?_
  by_cases h2:k<l.length
  ·
   refine R.q (q.lss O O (decide_eq_true (by omega))) O<|R.nil ?_
   refine R.aE O O ?_
   refine R.reg O<|R.u 2 O<|?_
   obtain ⟨x1,hx1⟩:∃z,l[k]? = some z:=⟨_,List.getElem?_eq_getElem (by omega)⟩
   refine R.q (q.idx (i:=k) (bJ 0 O) O O bL O hx1) O<|R.q (q.dF (j':=0) (bJ 0 O) hx1 O bD O) O<|R.q (q.fb (bJ 0 O) hx1 O bV O) O<|R.q (q.lV O Tryz.underlying9) O<|?_
   by_cases h3:20<x1.Key.size
   ·
    refine R.q (q.gtr O O (decide_eq_true (by omega))) O<|R.u 9 O<|R.nil ?_
    refine R.aE O O ?_
    refine R.reg O<|R.u 1 O<|R.nil ?_
    exact R.rv O Tryz.results8 O (rB (by (unfold iu;(rw [qw hx1 (show kg _=false from by unfold kg;simp;omega)];simp))))
   ·
    refine R.q (q.gtr O O (decide_eq_false (by omega))) O<|R.u 3 O<|R.qg O (q.idx (i:=k) (bJ 0 O) O O bL O hx1) O<|R.qg O (q.dF (j':=1) (bJ 0 O) hx1 O fh O) O<|R.qg O (q.fb (bJ 0 O) hx1 O bV O) O<|R.qg O (q.lV O Tryz.underlying9) O<|?_
    by_cases h4:40<x1.Val.size
    ·
     refine R.qg O (q.gtr O O (decide_eq_true (by omega))) O<|R.u 1 O<|R.nil ?_
     refine R.aE O O ?_
     refine R.reg O<|R.u 1 O<|R.nil ?_
     exact R.rv O Tryz.results8 O (rB (by (unfold iu;(rw [qw hx1 (show kg _=false from by unfold kg;simp;omega)];simp))))
    ·
     refine R.qg O (q.gtr O O (decide_eq_false (by omega))) O<|R.u 1 O<|R.nil ?_
     refine R.aF O O ?_
     refine R.reg O<|R.u 1 O<|R.q (q.add (r:=((k+1:Nat):Int)) O O (wr (by omega))) O<|R.u 1 O<|R.nil ?_
     refine R.back (k+1) O (by (exact ⟨by omega,vK hx1 HA (by unfold kg;simp_all)⟩)) (by omega) ⟨rfl,rfl,trivial⟩ (aK [] [0] O O O)
  ·
   refine R.q (q.lss O O (decide_eq_false (by omega))) O<|R.nil ?_
   refine R.aF O O ?_
   refine R.reg O<|R.u 1 O<|R.nil ?_
   exact R.rv O Tryz.results8 O (rB (by (unfold iu;(rw [decide_eq_true (by omega),BF (by omega) HA];rfl))))
theorem rU (bG:Value)(l:List gL)(most:Int)(w:World)(df:Sl w bG l)(Bc:∀x∈l,Sl w x.cv x.Changes):Calls Tryz.prog 7 #[bG,iV most] w fun e w'=>e = .returned (.bool (mD l most))∧Ext w w':=by
 have pV:=df.ec
 refine R.enter (n:=32) (vs:=[bG,iV most]) [] [(0,bG),(1,iV most)] Tryz.func7 O O O O ?_
 refine R.Au df ?_
 refine R.qd (r:=ag.acts l) Bc (yk Bc) ?_
 refine R.reg O<|R.u 1 O<|R.nil ?_
 refine R.reg O<|R.u 1 O<|R.q (q.len' (bJ 1 O) O Tryz.underlying22) O<|R.u 1 O<|?_
 by_cases h1:most<(l.length:Int)
 ·
  refine R.q (q.gtr O O (decide_eq_true (by omega))) O<|R.nil ?_
  refine R.aE O O ?_
  refine R.reg O<|R.u 1 O<|R.nil ?_
  exact R.rv O Tryz.results7 O (rB (by (unfold mD;(rw [decide_eq_false (by omega)];rfl))))
 ·
  refine R.q (q.gtr O O (decide_eq_false (by omega))) O<|R.nil ?_
  refine R.aF O O ?_
  refine R.reg O<|R.u 1 O<|R.nil ?_
  refine R.loop (fun k:Nat=>[(0,bG),(5,iV (k:Int))]) (fun k:Nat=>[]) (fun k:Nat=>[ag.acts l,ag.ls bG l]) (fun k:Nat=>k≤l.length∧(l.take k).all lA=true) (fun k:Nat=>l.length-k) 0 O (by exact ⟨by omega,rfl⟩) ⟨rfl,rfl,trivial⟩ (fun _=>Wd.pick [] [0,1] O O O) ?_
  rintro k ⟨hk,HA⟩
  refine R.reg O<|R.u 2 O<|R.q (q.len' (bJ 1 O) O Tryz.underlying22) O<|?_
  by_cases h2:k<l.length
  ·
   refine R.q (q.lss O O (decide_eq_true (by omega))) O<|R.nil ?_
   refine R.aE O O ?_
   refine R.reg O<|R.u 2 O<|?_
   obtain ⟨x1,hx1⟩:∃z,l[k]? = some z:=⟨_,List.getElem?_eq_getElem (by omega)⟩
   refine R.q (q.idx (i:=k) (bJ 1 O) O O q9 O hx1) O<|R.q (q.dF (j':=1) (bJ 1 O) hx1 O kI O) O<|R.q (q.fb (bJ 1 O) hx1 O bV O) O<|R.q (q.lV O Tryz.underlying9) O<|?_
   by_cases h3:100<x1.S.size
   ·
    refine R.q (q.gtr O O (decide_eq_true (by omega))) O<|R.u 9 O<|R.nil ?_
    refine R.aE O O ?_
    refine R.reg O<|R.u 1 O<|R.nil ?_
    exact R.rv O Tryz.results7 O (rB (by (unfold mD;(rw [qw hx1 (show lA _=false from by unfold lA;simp;omega)];simp))))
   ·
    refine R.q (q.gtr O O (decide_eq_false (by omega))) O<|R.u 3 O<|R.qg O (q.idx (i:=k) (bJ 1 O) O O q9 O hx1) O<|R.qg O (q.dF (j':=10) (bJ 1 O) hx1 O zi O) O<|R.qg O (q.fb (bJ 1 O) hx1 O Dd O) O<|?_
    rcases Bool.eq_false_or_eq_true (iu x1.Changes 70) with h4|h4
    ·
     refine R.cg O (q.call zj O O (fun w hw=>(cv (congrArg Value.bool h4) (iK _ (x1.Changes) (70) w ((fun _=>Wd.GN (l:=l) 0 O (List.mem_of_getElem? hx1)) w hw) )))) O<|R.u 2 O<|R.nil ?_
     refine R.aF O O ?_
     refine R.reg O<|R.u 1 O<|R.q (q.add (r:=((k+1:Nat):Int)) O O (wr (by omega))) O<|R.u 1 O<|R.nil ?_
     refine R.back (k+1) O (by (exact ⟨by omega,vK hx1 HA (by unfold lA;simp_all)⟩)) (by omega) ⟨rfl,rfl,trivial⟩ (aK [] [0,1] O O O)
    ·
     refine R.cg O (q.call zj O O (fun w hw=>(cv (congrArg Value.bool h4) (iK _ (x1.Changes) (70) w ((fun _=>Wd.GN (l:=l) 0 O (List.mem_of_getElem? hx1)) w hw) )))) O<|R.u 2 O<|R.nil ?_
     refine R.aE O O ?_
     refine R.reg O<|R.u 1 O<|R.nil ?_
     exact R.rv O Tryz.results7 O (rB (by (unfold mD;(rw [qw hx1 (show lA _=false from by unfold lA;simp_all)];simp))))
  ·
   refine R.q (q.lss O O (decide_eq_false (by omega))) O<|R.nil ?_
   refine R.aF O O ?_
   refine R.reg O<|R.u 1 O<|R.nil ?_
   exact R.rv O Tryz.results7 O (rB (by (unfold mD;(rw [decide_eq_true (by omega),BF (by omega) HA];rfl))))
set_option maxRecDepth 100000 in
set_option maxHeartbeats 2000000 in
theorem yH (aD az aB aC:Value)(r:ar)(a:gL)(w:World)(own:List Nat)(H:Wd w (blks []++own) ([]++[ag.held w own]) [ag.ls aD (r.ai:List ak),ag.ls az (r.Things:List ao),ag.ls aB (r.Held:List Held),ag.ls aC (r.Notes:List Note)] w)(hk:Ok r):Calls Tryz.prog 11 #[.agg #[aD,az,aB,aC,iV r.ae,iV r.af],.agg #[.string a.Kind,.string a.S,iV a.P.aj,iV a.P.Slot,iV a.Q.aj,iV a.Q.Slot,iV a.A,iV a.B,iV a.N,.int .u64 a.K,a.cv]] w fun e w' => ∃z:Value×Value×Value×Value,e = .returned (.tuple #[.agg #[z.1,z.2.1,z.2.2.1,z.2.2.2,iV ((((cr r a)).1).ae),iV ((((cr r a)).1).af)],fc (((cr r a)).2)])∧Wd w (blks []++own) ([]++[ag.held w own]) [ag.ls z.1 ((((cr r a)).1).ai:List ak),ag.ls z.2.1 ((((cr r a)).1).Things:List ao),ag.ls z.2.2.1 ((((cr r a)).1).Held:List Held),ag.ls z.2.2.2 ((((cr r a)).1).Notes:List Note)] w':=by
 have cS:=H.ct 0 rfl
 have cy:=H.ct 1 rfl
 have dq:=H.ct 2 rfl
 have cT:=H.ct 3 rfl
 refine R.da (n:=100) (vs:=[.agg #[aD,az,aB,aC,iV r.ae,iV r.af],.agg #[.string a.Kind,.string a.S,iV a.P.aj,iV a.P.Slot,iV a.Q.aj,iV a.Q.Slot,iV a.A,iV a.B,iV a.N,.int .u64 a.K,a.cv]]) (B:=[ag.held w own]) [(0,.agg #[aD,az,aB,aC,iV r.ae,iV r.af]),(1,.agg #[.string a.Kind,.string a.S,iV a.P.aj,iV a.P.Slot,iV a.Q.aj,iV a.Q.Slot,iV a.A,iV a.B,iV a.N,.int .u64 a.K,a.cv])] Tryz.func11 O O O O H ?_
 refine R.reg O<|R.s O (s.box (cs:=[aD,az,aB,aC,iV r.ae,iV r.af]) O O O) fun b1=>R.s O (s.box (cs:=dG a) O O O) fun b2=>R.s O (s.alloc (cs:=aG) cp O O) fun b3=>R.u 1 O<|R.nil ?_
 refine R.reg O<|R.q (q.aT (off':=0) O sP O) O<|R.q (q.ld 1 O O bV O) O<|R.nil ?_
 refine R.reg O<|?_
 by_cases h1:a.Kind=⟨#[109,97,107,101]⟩
 ·
  refine R.q (q.jc O O h1) O<|R.u 1 O<|R.nil ?_
  refine R.aE O O ?_
  refine R.reg O<|R.q (q.cj 2 O O ap) O<|R.q (q.aT (off':=2) O eB O) O<|R.q (q.tK (ds:=av a.P) 1 O O aS O) O<|R.q (q.aT (off':=6) O gZ O) O<|R.q (q.ld 1 O O aA O) O<|R.s (B':=(fun g_:Value×Value×Value×Value=>[ag.box b3 aG 32,ag.box b2 (dG a) 42,ag.box b1 [aD,az,aB,aC,iV r.ae,iV r.af] 32,ag.held w own])) (F':=(fun g_=>[ag.ls g_.1 (((bT r a.P a.A)).1).ai,ag.ls g_.2.1 (((bT r a.P a.A)).1).Things,ag.ls g_.2.2.1 (((bT r a.P a.A)).1).Held,ag.ls g_.2.2.2 (((bT r a.P a.A)).1).Notes,ag.ls aD r.ai,ag.ls az r.Things,ag.ls aB r.Held,ag.ls aC r.Notes])) O (s.bP (B0:=[]) (Br:=[ag.box b3 aG 32,ag.box b2 (dG a) 42,ag.box b1 [aD,az,aB,aC,iV r.ae,iV r.af] 32,ag.held w own]) (F0:=[ag.ls aD r.ai,ag.ls az r.Things,ag.ls aB r.Held,ag.ls aC r.Notes]) bm bm (fun g_:Value×Value×Value×Value => .tuple #[.agg #[g_.1,g_.2.1,g_.2.2.1,g_.2.2.2,iV ((((bT r a.P a.A)).1).ae),iV ((((bT r a.P a.A)).1).af)],fc (((bT r a.P a.A)).2)]) (fun g_=>[]) (fun g_=>[ag.ls g_.1 (((bT r a.P a.A)).1).ai,ag.ls g_.2.1 (((bT r a.P a.A)).1).Things,ag.ls g_.2.2.1 (((bT r a.P a.A)).1).Held,ag.ls g_.2.2.2 (((bT r a.P a.A)).1).Notes]) O O O G0 O O (fun w own hw H=>zt aD az aB aC (r) (a.P) (a.A) w own H ‹_›) O) ?_
  rintro ⟨z1,z2,z3,z4⟩
  dsimp only
  refine R.u 2 O<|R.s O (s.dy (us:=[z1,z2,z3,z4,iV (((bT r a.P a.A).1).ae),iV (((bT r a.P a.A).1).af)]) (cs':=[z1,z2,z3,z4,iV (((bT r a.P a.A).1).ae),iV (((bT r a.P a.A).1).af)]) 0 _ O O O (fun _ _=>rfl) (.inl ap) (fun w hw=>(ah (Sl.one (hw.bq 0 O)) (ah (Sl.one (hw.bq 1 O)) (ah (Sl.one (hw.bq 2 O)) (ah (Sl.one (hw.bq 3 O)) (ah O (ah O aL))))))) O O O) fun _=>R.u 1 O<|R.nil ?_
  have hz:cr r a=(((bT r a.P a.A).1),(bT r a.P a.A).2):=by (unfold cr;(repeat' split) <;> rfl)
  rw [hz]
  exact R.w2 (z1,z2,z3,z4) [3] bm O Tryz.results11 (RV.cell 0 O O ap) (RV.tmp O) O O O (cD O O)
 ·
  refine R.q (q.jd O O h1) O<|R.u 1 O<|R.nil ?_
  refine R.aF O O ?_
  refine R.reg O<|?_
  by_cases h2:a.Kind=⟨#[103,105,118,101]⟩
  ·
   refine R.q (q.jc O O h2) O<|R.u 1 O<|R.nil ?_
   refine R.aE O O ?_
   refine R.reg O<|R.q (q.cj 2 O O ap) O<|R.q (q.aT (off':=2) O eB O) O<|R.q (q.tK (ds:=av a.P) 1 O O aS O) O<|R.q (q.aT (off':=4) O sQ O) O<|R.q (q.tK (ds:=av a.Q) 1 O O aS O) O<|R.q (q.aT (off':=6) O gZ O) O<|R.q (q.ld 1 O O aA O) O<|R.q (q.aT (off':=7) O mL O) O<|R.q (q.ld 1 O O aA O) O<|R.s (B':=(fun g_:Value×Value×Value×Value=>[ag.box b3 aG 32,ag.box b2 (dG a) 42,ag.box b1 [aD,az,aB,aC,iV r.ae,iV r.af] 32,ag.held w own])) (F':=(fun g_=>[ag.ls g_.1 (((cb r a.P a.Q a.A a.B)).1).ai,ag.ls g_.2.1 (((cb r a.P a.Q a.A a.B)).1).Things,ag.ls g_.2.2.1 (((cb r a.P a.Q a.A a.B)).1).Held,ag.ls g_.2.2.2 (((cb r a.P a.Q a.A a.B)).1).Notes,ag.ls aD r.ai,ag.ls az r.Things,ag.ls aB r.Held,ag.ls aC r.Notes])) O (s.bP (B0:=[]) (Br:=[ag.box b3 aG 32,ag.box b2 (dG a) 42,ag.box b1 [aD,az,aB,aC,iV r.ae,iV r.af] 32,ag.held w own]) (F0:=[ag.ls aD r.ai,ag.ls az r.Things,ag.ls aB r.Held,ag.ls aC r.Notes]) bm bm (fun g_:Value×Value×Value×Value => .tuple #[.agg #[g_.1,g_.2.1,g_.2.2.1,g_.2.2.2,iV ((((cb r a.P a.Q a.A a.B)).1).ae),iV ((((cb r a.P a.Q a.A a.B)).1).af)],fc (((cb r a.P a.Q a.A a.B)).2)]) (fun g_=>[]) (fun g_=>[ag.ls g_.1 (((cb r a.P a.Q a.A a.B)).1).ai,ag.ls g_.2.1 (((cb r a.P a.Q a.A a.B)).1).Things,ag.ls g_.2.2.1 (((cb r a.P a.Q a.A a.B)).1).Held,ag.ls g_.2.2.2 (((cb r a.P a.Q a.A a.B)).1).Notes]) O O O G1 O O (fun w own hw H=>zu aD az aB aC (r) (a.P) (a.Q) (a.A) (a.B) w own H ‹_›) O) ?_
   rintro ⟨z5,z6,z7,z8⟩
   dsimp only
   refine R.u 2 O<|R.s O (s.dy (us:=[z5,z6,z7,z8,iV (((cb r a.P a.Q a.A a.B).1).ae),iV (((cb r a.P a.Q a.A a.B).1).af)]) (cs':=[z5,z6,z7,z8,iV (((cb r a.P a.Q a.A a.B).1).ae),iV (((cb r a.P a.Q a.A a.B).1).af)]) 0 _ O O O (fun _ _=>rfl) (.inl ap) (fun w hw=>(ah (Sl.one (hw.bq 0 O)) (ah (Sl.one (hw.bq 1 O)) (ah (Sl.one (hw.bq 2 O)) (ah (Sl.one (hw.bq 3 O)) (ah O (ah O aL))))))) O O O) fun _=>R.u 1 O<|R.nil ?_
   have hz:cr r a=(((cb r a.P a.Q a.A a.B).1),(cb r a.P a.Q a.A a.B).2):=by (unfold cr;(repeat' split) <;> first|rfl|(exfalso;simp_all;done)|(simp_all;done))
   rw [hz]
   exact R.w2 (z5,z6,z7,z8) [3] bm O Tryz.results11 (RV.cell 0 O O ap) (RV.tmp O) O O O (cD O O)
  ·
   refine R.q (q.jd O O h2) O<|R.u 1 O<|R.nil ?_
   refine R.aF O O ?_
   refine R.reg O<|?_
   by_cases h3:a.Kind=⟨#[109,111,118,101]⟩
   ·
    refine R.q (q.jc O O h3) O<|R.u 1 O<|R.nil ?_
    refine R.aE O O ?_
    refine R.reg O<|R.q (q.cj 2 O O ap) O<|R.q (q.aT (off':=2) O eB O) O<|R.q (q.tK (ds:=av a.P) 1 O O aS O) O<|R.q (q.aT (off':=6) O gZ O) O<|R.q (q.ld 1 O O aA O) O<|R.s (B':=(fun g_:Value×Value×Value×Value=>[ag.box b3 aG 32,ag.box b2 (dG a) 42,ag.box b1 [aD,az,aB,aC,iV r.ae,iV r.af] 32,ag.held w own])) (F':=(fun g_=>[ag.ls g_.1 (((cQ r a.P a.A)).1).ai,ag.ls g_.2.1 (((cQ r a.P a.A)).1).Things,ag.ls g_.2.2.1 (((cQ r a.P a.A)).1).Held,ag.ls g_.2.2.2 (((cQ r a.P a.A)).1).Notes,ag.ls aD r.ai,ag.ls az r.Things,ag.ls aB r.Held,ag.ls aC r.Notes])) O (s.bP (B0:=[]) (Br:=[ag.box b3 aG 32,ag.box b2 (dG a) 42,ag.box b1 [aD,az,aB,aC,iV r.ae,iV r.af] 32,ag.held w own]) (F0:=[ag.ls aD r.ai,ag.ls az r.Things,ag.ls aB r.Held,ag.ls aC r.Notes]) bm bm (fun g_:Value×Value×Value×Value => .tuple #[.agg #[g_.1,g_.2.1,g_.2.2.1,g_.2.2.2,iV ((((cQ r a.P a.A)).1).ae),iV ((((cQ r a.P a.A)).1).af)],fc (((cQ r a.P a.A)).2)]) (fun g_=>[]) (fun g_=>[ag.ls g_.1 (((cQ r a.P a.A)).1).ai,ag.ls g_.2.1 (((cQ r a.P a.A)).1).Things,ag.ls g_.2.2.1 (((cQ r a.P a.A)).1).Held,ag.ls g_.2.2.2 (((cQ r a.P a.A)).1).Notes]) O O O G2 O O (fun w own hw H=>zv aD az aB aC (r) (a.P) (a.A) w own H ‹_›) O) ?_
    rintro ⟨z9,jZ,CW,z12⟩
    dsimp only
    refine R.u 2 O<|R.s O (s.dy (us:=[z9,jZ,CW,z12,iV (((cQ r a.P a.A).1).ae),iV (((cQ r a.P a.A).1).af)]) (cs':=[z9,jZ,CW,z12,iV (((cQ r a.P a.A).1).ae),iV (((cQ r a.P a.A).1).af)]) 0 _ O O O (fun _ _=>rfl) (.inl ap) (fun w hw=>(ah (Sl.one (hw.bq 0 O)) (ah (Sl.one (hw.bq 1 O)) (ah (Sl.one (hw.bq 2 O)) (ah (Sl.one (hw.bq 3 O)) (ah O (ah O aL))))))) O O O) fun _=>R.u 1 O<|R.nil ?_
    have hz:cr r a=(((cQ r a.P a.A).1),(cQ r a.P a.A).2):=by (unfold cr;(repeat' split) <;> first|rfl|(exfalso;simp_all;done)|(simp_all;done))
    rw [hz]
    exact R.w2 (z9,jZ,CW,z12) [3] bm O Tryz.results11 (RV.cell 0 O O ap) (RV.tmp O) O O O (cD O O)
   ·
    refine R.q (q.jd O O h3) O<|R.u 1 O<|R.nil ?_
    refine R.aF O O ?_
    refine R.reg O<|?_
    by_cases h4:a.Kind=⟨#[100,114,111,112]⟩
    ·
     refine R.q (q.jc O O h4) O<|R.u 1 O<|R.nil ?_
     refine R.aE O O ?_
     refine R.reg O<|R.q (q.cj 2 O O ap) O<|R.q (q.aT (off':=2) O eB O) O<|R.q (q.tK (ds:=av a.P) 1 O O aS O) O<|R.s (B':=(fun g_:Value×Value×Value×Value=>[ag.box b3 aG 32,ag.box b2 (dG a) 42,ag.box b1 [aD,az,aB,aC,iV r.ae,iV r.af] 32,ag.held w own])) (F':=(fun g_=>[ag.ls g_.1 (((cX r a.P)).1).ai,ag.ls g_.2.1 (((cX r a.P)).1).Things,ag.ls g_.2.2.1 (((cX r a.P)).1).Held,ag.ls g_.2.2.2 (((cX r a.P)).1).Notes,ag.ls aD r.ai,ag.ls az r.Things,ag.ls aB r.Held,ag.ls aC r.Notes])) O (s.bP (B0:=[]) (Br:=[ag.box b3 aG 32,ag.box b2 (dG a) 42,ag.box b1 [aD,az,aB,aC,iV r.ae,iV r.af] 32,ag.held w own]) (F0:=[ag.ls aD r.ai,ag.ls az r.Things,ag.ls aB r.Held,ag.ls aC r.Notes]) bm bm (fun g_:Value×Value×Value×Value => .tuple #[.agg #[g_.1,g_.2.1,g_.2.2.1,g_.2.2.2,iV ((((cX r a.P)).1).ae),iV ((((cX r a.P)).1).af)],fc (((cX r a.P)).2)]) (fun g_=>[]) (fun g_=>[ag.ls g_.1 (((cX r a.P)).1).ai,ag.ls g_.2.1 (((cX r a.P)).1).Things,ag.ls g_.2.2.1 (((cX r a.P)).1).Held,ag.ls g_.2.2.2 (((cX r a.P)).1).Notes]) O O O G3 O O (fun w own hw H=>zw aD az aB aC (r) (a.P) w own H ‹_›) O) ?_
     rintro ⟨qx,qy,qA,qB⟩
     dsimp only
     refine R.u 2 O<|R.s O (s.dy (us:=[qx,qy,qA,qB,iV (((cX r a.P).1).ae),iV (((cX r a.P).1).af)]) (cs':=[qx,qy,qA,qB,iV (((cX r a.P).1).ae),iV (((cX r a.P).1).af)]) 0 _ O O O (fun _ _=>rfl) (.inl ap) (fun w hw=>(ah (Sl.one (hw.bq 0 O)) (ah (Sl.one (hw.bq 1 O)) (ah (Sl.one (hw.bq 2 O)) (ah (Sl.one (hw.bq 3 O)) (ah O (ah O aL))))))) O O O) fun _=>R.u 1 O<|R.nil ?_
     have hz:cr r a=(((cX r a.P).1),(cX r a.P).2):=by (unfold cr;(repeat' split) <;> first|rfl|(exfalso;simp_all;done)|(simp_all;done))
     rw [hz]
     exact R.w2 (qx,qy,qA,qB) [3] bm O Tryz.results11 (RV.cell 0 O O ap) (RV.tmp O) O O O (cD O O)
    ·
     refine R.q (q.jd O O h4) O<|R.u 1 O<|R.nil ?_
     refine R.aF O O ?_
     refine R.reg O<|?_
     by_cases h5:a.Kind=⟨#[114,101,118,111,107,101]⟩
     ·
      refine R.q (q.jc O O h5) O<|R.u 1 O<|R.nil ?_
      refine R.aE O O ?_
      refine R.reg O<|R.q (q.cj 2 O O ap) O<|R.q (q.aT (off':=2) O eB O) O<|R.q (q.tK (ds:=av a.P) 1 O O aS O) O<|R.s (B':=(fun g_:Value×Value×Value×Value=>[ag.box b3 aG 32,ag.box b2 (dG a) 42,ag.box b1 [aD,az,aB,aC,iV r.ae,iV r.af] 32,ag.held w own])) (F':=(fun g_=>[ag.ls g_.1 (((bQ r a.P)).1).ai,ag.ls g_.2.1 (((bQ r a.P)).1).Things,ag.ls g_.2.2.1 (((bQ r a.P)).1).Held,ag.ls g_.2.2.2 (((bQ r a.P)).1).Notes,ag.ls aD r.ai,ag.ls az r.Things,ag.ls aB r.Held,ag.ls aC r.Notes])) O (s.bP (B0:=[]) (Br:=[ag.box b3 aG 32,ag.box b2 (dG a) 42,ag.box b1 [aD,az,aB,aC,iV r.ae,iV r.af] 32,ag.held w own]) (F0:=[ag.ls aD r.ai,ag.ls az r.Things,ag.ls aB r.Held,ag.ls aC r.Notes]) bm bm (fun g_:Value×Value×Value×Value => .tuple #[.agg #[g_.1,g_.2.1,g_.2.2.1,g_.2.2.2,iV ((((bQ r a.P)).1).ae),iV ((((bQ r a.P)).1).af)],fc (((bQ r a.P)).2)]) (fun g_=>[]) (fun g_=>[ag.ls g_.1 (((bQ r a.P)).1).ai,ag.ls g_.2.1 (((bQ r a.P)).1).Things,ag.ls g_.2.2.1 (((bQ r a.P)).1).Held,ag.ls g_.2.2.2 (((bQ r a.P)).1).Notes]) O O O G4 O O (fun w own hw H=>vJ aD az aB aC (r) (a.P) w own H ‹_›) O) ?_
      rintro ⟨z17,Dx,Dy,z20⟩
      dsimp only
      refine R.u 2 O<|R.s O (s.dy (us:=[z17,Dx,Dy,z20,iV (((bQ r a.P).1).ae),iV (((bQ r a.P).1).af)]) (cs':=[z17,Dx,Dy,z20,iV (((bQ r a.P).1).ae),iV (((bQ r a.P).1).af)]) 0 _ O O O (fun _ _=>rfl) (.inl ap) (fun w hw=>(ah (Sl.one (hw.bq 0 O)) (ah (Sl.one (hw.bq 1 O)) (ah (Sl.one (hw.bq 2 O)) (ah (Sl.one (hw.bq 3 O)) (ah O (ah O aL))))))) O O O) fun _=>R.u 1 O<|R.nil ?_
      have hz:cr r a=(((bQ r a.P).1),(bQ r a.P).2):=by (unfold cr;(repeat' split) <;> first|rfl|(exfalso;simp_all;done)|(simp_all;done))
      rw [hz]
      exact R.w2 (z17,Dx,Dy,z20) [3] bm O Tryz.results11 (RV.cell 0 O O ap) (RV.tmp O) O O O (cD O O)
     ·
      refine R.q (q.jd O O h5) O<|R.u 1 O<|R.nil ?_
      refine R.aF O O ?_
      refine R.reg O<|?_
      by_cases h6:a.Kind=⟨#[119,114,105,116,101]⟩
      ·
       refine R.q (q.jc O O h6) O<|R.u 1 O<|R.nil ?_
       refine R.aE O O ?_
       refine R.reg O<|R.q (q.cj 2 O O ap) O<|R.q (q.aT (off':=2) O eB O) O<|R.q (q.tK (ds:=av a.P) 1 O O aS O) O<|R.q (q.aT (off':=1) O kI O) O<|R.q (q.ld 1 O O bV O) O<|R.s (B':=(fun g_:Value×Value×Value×Value=>[ag.box b3 aG 32,ag.box b2 (dG a) 42,ag.box b1 [aD,az,aB,aC,iV r.ae,iV r.af] 32,ag.held w own])) (F':=(fun g_=>[ag.ls g_.1 (((cd r a.P a.S)).1).ai,ag.ls g_.2.1 (((cd r a.P a.S)).1).Things,ag.ls g_.2.2.1 (((cd r a.P a.S)).1).Held,ag.ls g_.2.2.2 (((cd r a.P a.S)).1).Notes,ag.ls aD r.ai,ag.ls az r.Things,ag.ls aB r.Held,ag.ls aC r.Notes])) O (s.bP (B0:=[]) (Br:=[ag.box b3 aG 32,ag.box b2 (dG a) 42,ag.box b1 [aD,az,aB,aC,iV r.ae,iV r.af] 32,ag.held w own]) (F0:=[ag.ls aD r.ai,ag.ls az r.Things,ag.ls aB r.Held,ag.ls aC r.Notes]) bm bm (fun g_:Value×Value×Value×Value => .tuple #[.agg #[g_.1,g_.2.1,g_.2.2.1,g_.2.2.2,iV ((((cd r a.P a.S)).1).ae),iV ((((cd r a.P a.S)).1).af)],fc (((cd r a.P a.S)).2)]) (fun g_=>[]) (fun g_=>[ag.ls g_.1 (((cd r a.P a.S)).1).ai,ag.ls g_.2.1 (((cd r a.P a.S)).1).Things,ag.ls g_.2.2.1 (((cd r a.P a.S)).1).Held,ag.ls g_.2.2.2 (((cd r a.P a.S)).1).Notes]) O O O G5 O O (fun w own hw H=>xd aD az aB aC (r) (a.P) (a.S) w own H ‹_›) O) ?_
       rintro ⟨z21,z22,z23,z24⟩
       dsimp only
       refine R.u 2 O<|R.s O (s.dy (us:=[z21,z22,z23,z24,iV (((cd r a.P a.S).1).ae),iV (((cd r a.P a.S).1).af)]) (cs':=[z21,z22,z23,z24,iV (((cd r a.P a.S).1).ae),iV (((cd r a.P a.S).1).af)]) 0 _ O O O (fun _ _=>rfl) (.inl ap) (fun w hw=>(ah (Sl.one (hw.bq 0 O)) (ah (Sl.one (hw.bq 1 O)) (ah (Sl.one (hw.bq 2 O)) (ah (Sl.one (hw.bq 3 O)) (ah O (ah O aL))))))) O O O) fun _=>R.u 1 O<|R.nil ?_
       have hz:cr r a=(((cd r a.P a.S).1),(cd r a.P a.S).2):=by (unfold cr;(repeat' split) <;> first|rfl|(exfalso;simp_all;done)|(simp_all;done))
       rw [hz]
       exact R.w2 (z21,z22,z23,z24) [3] bm O Tryz.results11 (RV.cell 0 O O ap) (RV.tmp O) O O O (cD O O)
      ·
       refine R.q (q.jd O O h6) O<|R.u 1 O<|R.nil ?_
       refine R.aF O O ?_
       refine R.reg O<|?_
       by_cases h7:a.Kind=⟨#[115,101,110,100]⟩
       ·
        refine R.q (q.jc O O h7) O<|R.u 1 O<|R.nil ?_
        refine R.aE O O ?_
        refine R.reg O<|R.q (q.cj 2 O O ap) O<|R.q (q.aT (off':=2) O eB O) O<|R.q (q.tK (ds:=av a.P) 1 O O aS O) O<|R.q (q.aT (off':=1) O kI O) O<|R.q (q.ld 1 O O bV O) O<|R.q (q.aT (off':=6) O gZ O) O<|R.q (q.ld 1 O O aA O) O<|R.q (q.aT (off':=7) O mL O) O<|R.q (q.ld 1 O O aA O) O<|R.s (B':=(fun g_:Value×Value×Value×Value=>[ag.box b3 aG 32,ag.box b2 (dG a) 42,ag.box b1 [aD,az,aB,aC,iV r.ae,iV r.af] 32,ag.held w own])) (F':=(fun g_=>[ag.ls g_.1 (((bU r a.P a.S a.A a.B)).1).ai,ag.ls g_.2.1 (((bU r a.P a.S a.A a.B)).1).Things,ag.ls g_.2.2.1 (((bU r a.P a.S a.A a.B)).1).Held,ag.ls g_.2.2.2 (((bU r a.P a.S a.A a.B)).1).Notes,ag.ls aD r.ai,ag.ls az r.Things,ag.ls aB r.Held,ag.ls aC r.Notes])) O (s.bP (B0:=[]) (Br:=[ag.box b3 aG 32,ag.box b2 (dG a) 42,ag.box b1 [aD,az,aB,aC,iV r.ae,iV r.af] 32,ag.held w own]) (F0:=[ag.ls aD r.ai,ag.ls az r.Things,ag.ls aB r.Held,ag.ls aC r.Notes]) bm bm (fun g_:Value×Value×Value×Value => .tuple #[.agg #[g_.1,g_.2.1,g_.2.2.1,g_.2.2.2,iV ((((bU r a.P a.S a.A a.B)).1).ae),iV ((((bU r a.P a.S a.A a.B)).1).af)],fc (((bU r a.P a.S a.A a.B)).2)]) (fun g_=>[]) (fun g_=>[ag.ls g_.1 (((bU r a.P a.S a.A a.B)).1).ai,ag.ls g_.2.1 (((bU r a.P a.S a.A a.B)).1).Things,ag.ls g_.2.2.1 (((bU r a.P a.S a.A a.B)).1).Held,ag.ls g_.2.2.2 (((bU r a.P a.S a.A a.B)).1).Notes]) O O O G6 O O (fun w own hw H=>zx aD az aB aC (r) (a.P) (a.S) (a.A) (a.B) w own H ‹_›) O) ?_
        rintro ⟨z25,z26,z27,z28⟩
        dsimp only
        refine R.u 2 O<|R.s O (s.dy (us:=[z25,z26,z27,z28,iV (((bU r a.P a.S a.A a.B).1).ae),iV (((bU r a.P a.S a.A a.B).1).af)]) (cs':=[z25,z26,z27,z28,iV (((bU r a.P a.S a.A a.B).1).ae),iV (((bU r a.P a.S a.A a.B).1).af)]) 0 _ O O O (fun _ _=>rfl) (.inl ap) (fun w hw=>(ah (Sl.one (hw.bq 0 O)) (ah (Sl.one (hw.bq 1 O)) (ah (Sl.one (hw.bq 2 O)) (ah (Sl.one (hw.bq 3 O)) (ah O (ah O aL))))))) O O O) fun _=>R.u 1 O<|R.nil ?_
        have hz:cr r a=(((bU r a.P a.S a.A a.B).1),(bU r a.P a.S a.A a.B).2):=by (unfold cr;(repeat' split) <;> first|rfl|(exfalso;simp_all;done)|(simp_all;done))
        rw [hz]
        exact R.w2 (z25,z26,z27,z28) [3] bm O Tryz.results11 (RV.cell 0 O O ap) (RV.tmp O) O O O (cD O O)
       ·
        refine R.q (q.jd O O h7) O<|R.u 1 O<|R.nil ?_
        refine R.aF O O ?_
        refine R.reg O<|?_
        by_cases h8:a.Kind=⟨#[116,97,107,101]⟩
        ·
         refine R.q (q.jc O O h8) O<|R.u 1 O<|R.nil ?_
         refine R.aE O O ?_
         refine R.reg O<|R.q (q.cj 2 O O ap) O<|R.q (q.aT (off':=2) O eB O) O<|R.q (q.tK (ds:=av a.P) 1 O O aS O) O<|R.s (B':=(fun g_:Value×Value×Value×Value=>[ag.box b3 aG 32,ag.box b2 (dG a) 42,ag.box b1 [aD,az,aB,aC,iV r.ae,iV r.af] 32,ag.held w own])) (F':=(fun g_=>[ag.ls g_.1 (((bC r a.P)).1).ai,ag.ls g_.2.1 (((bC r a.P)).1).Things,ag.ls g_.2.2.1 (((bC r a.P)).1).Held,ag.ls g_.2.2.2 (((bC r a.P)).1).Notes,ag.ls aD r.ai,ag.ls az r.Things,ag.ls aB r.Held,ag.ls aC r.Notes])) O (s.bP (B0:=[]) (Br:=[ag.box b3 aG 32,ag.box b2 (dG a) 42,ag.box b1 [aD,az,aB,aC,iV r.ae,iV r.af] 32,ag.held w own]) (F0:=[ag.ls aD r.ai,ag.ls az r.Things,ag.ls aB r.Held,ag.ls aC r.Notes]) bm bm (fun g_:Value×Value×Value×Value => .tuple #[.agg #[g_.1,g_.2.1,g_.2.2.1,g_.2.2.2,iV ((((bC r a.P)).1).ae),iV ((((bC r a.P)).1).af)],.agg #[iV ((((bC r a.P)).2.1).Port),.string ((((bC r a.P)).2.1).Data),iV ((((bC r a.P)).2.1).aI),iV ((((bC r a.P)).2.1).ak)],iV (((bC r a.P)).2.2.1),fc (((bC r a.P)).2.2.2)]) (fun g_=>[]) (fun g_=>[ag.ls g_.1 (((bC r a.P)).1).ai,ag.ls g_.2.1 (((bC r a.P)).1).Things,ag.ls g_.2.2.1 (((bC r a.P)).1).Held,ag.ls g_.2.2.2 (((bC r a.P)).1).Notes]) O O O G7 O O (fun w own hw H=>zy aD az aB aC (r) (a.P) w own H ‹_›) O) ?_
         rintro ⟨z29,z30,z31,z32⟩
         dsimp only
         refine R.u 5 O<|R.s O (s.alloc (cs:=aG) cp O O) fun b4=>R.s O (s.alloc (cs:=[iV 0,.string (⟨#[]⟩),iV 0,iV 0]) dv O O) fun b5=>R.s O (s.dy (us:=[z29,z30,z31,z32,iV (((bC r a.P).1).ae),iV (((bC r a.P).1).af)]) (cs':=[z29,z30,z31,z32,iV (((bC r a.P).1).ae),iV (((bC r a.P).1).af)]) 1 _ O O O (fun _ _=>rfl) (.inl ap) (fun w hw=>(ah (Sl.one (hw.bq 0 O)) (ah (Sl.one (hw.bq 1 O)) (ah (Sl.one (hw.bq 2 O)) (ah (Sl.one (hw.bq 3 O)) (ah O (ah O aL))))))) O O O) fun _=>R.s O (s.st (us:=bg ((bC r a.P).2.1)) (cs':=bg ((bC r a.P).2.1)) 0 _ O O O O (.inl bO) O O O O) fun _=>R.u 2 O<|R.nil ?_
         refine R.reg O<|R.q (q.cj 1 O O ap) O<|R.u 1 O<|R.s O (s.dy (us:=[z29,z30,z31,z32,iV (((bC r a.P).1).ae),iV (((bC r a.P).1).af)]) (cs':=[z29,z30,z31,z32,iV (((bC r a.P).1).ae),iV (((bC r a.P).1).af)]) 2 _ O O O (fun _ _=>rfl) (.inl ap) (fun w hw=>(ah (Sl.one (hw.bq 0 O)) (ah (Sl.one (hw.bq 1 O)) (ah (Sl.one (hw.bq 2 O)) (ah (Sl.one (hw.bq 3 O)) (ah O (ah O aL))))))) O O O) fun _=>R.u 1 O<|R.nil ?_
         have hz:cr r a=(((bC r a.P).1),(bC r a.P).2.2.2):=by (unfold cr;(repeat' split) <;> first|rfl|(exfalso;simp_all;done)|(simp_all;done))
         rw [hz]
         exact R.w2 (z29,z30,z31,z32) [5] bm O Tryz.results11 (RV.cell 2 O O ap) (RV.tmp O) O O O (cD O O)
        ·
         refine R.q (q.jd O O h8) O<|R.u 1 O<|R.nil ?_
         refine R.aF O O ?_
         refine R.reg O<|R.q (q.cj 2 O O ap) O<|R.s O (s.dy (us:=[aD,az,aB,aC,iV r.ae,iV r.af]) (cs':=[aD,az,aB,aC,iV r.ae,iV r.af]) 0 _ O O O (fun _ _=>rfl) (.inl ap) (fun w hw=>(ah (Sl.one (hw.bq 0 O)) (ah (Sl.one (hw.bq 1 O)) (ah (Sl.one (hw.bq 2 O)) (ah (Sl.one (hw.bq 3 O)) (ah O (ah O aL))))))) O O O) fun _=>R.u 1 O<|R.nil ?_
         have hz:cr r a=(r,0):=by (unfold cr;(repeat' split) <;> first|rfl|(exfalso;simp_all;done)|(simp_all;done))
         rw [hz]
         exact R.w2 (aD,az,aB,aC) [3] bm O Tryz.results11 (RV.cell 0 O O ap) (RV.tmp O) O O O (cD O (i6 O))
set_option maxRecDepth 100000 in
theorem nC (xh xj xk xl:Value)(a:ar)(xm xn xo xp:Value)(b:ar)(w:World)(HQ:Sl w xh a.ai)(xq:Sl w xj a.Things)(Dz:Sl w xk a.Held)(xt:Sl w xl a.Notes)(HR:Sl w xm b.ai)(zD:Sl w xn b.Things)(DC:Sl w xo b.Held)(zE:Sl w xp b.Notes):Calls Tryz.prog 18 #[.agg #[xh,xj,xk,xl,iV a.ae,iV a.af],.agg #[xm,xn,xo,xp,iV b.ae,iV b.af]] w fun e w'=>e = .returned (.bool (decide (a=b)))∧Ext w w':=by
 have ba:=xq.ec;have bb:=zD.ec;have bc:=xt.ec;have bd:=zE.ec
 refine R.enter (n:=93) (vs:=[.agg #[xh,xj,xk,xl,iV a.ae,iV a.af],.agg #[xm,xn,xo,xp,iV b.ae,iV b.af]]) [] [(0,.agg #[xh,xj,xk,xl,iV a.ae,iV a.af]),(1,.agg #[xm,xn,xo,xp,iV b.ae,iV b.af])] Tryz.func18 O O O O ?_
 refine R.reg O<|R.s O (s.box (cs:=[xh,xj,xk,xl,iV a.ae,iV a.af]) O O O) fun b1=>R.s O (s.box (cs:=[xm,xn,xo,xp,iV b.ae,iV b.af]) O O O) fun b2=>R.u 1 O<|R.nil ?_
 refine R.reg O<|R.q (q.aT (off':=0) O bf O) O<|R.q (q.ld 1 O O bE O) O<|R.q (q.aT (off':=0) O bf O) O<|R.q (q.ld 0 O O bE O) O<|?_
 rcases Bool.eq_false_or_eq_true (decide (a.ai=b.ai)) with h1|h1
 ·
  refine R.c (q.call EB O O (fun w hw=>(cv (congrArg Value.bool h1) (ny _ (a.ai) _ (b.ai) w ((fun _=>Wd.old HQ) w hw) ((fun _=>Wd.old HR) w hw) )))) O<|R.u 1 O<|R.nil ?_
  refine R.reg O<|R.q (q.aT (off':=2) O bB O) O<|R.q (q.ld 1 O O bZ O) O<|R.q (q.aT (off':=2) O bB O) O<|R.q (q.ld 0 O O bZ O) O<|?_
  rcases Bool.eq_false_or_eq_true (decide (a.Held=b.Held)) with h2|h2
  ·
   refine R.c (q.call yo O O (fun w hw=>(cv (congrArg Value.bool h2) (jr _ (a.Held) _ (b.Held) w ((fun _=>Wd.old Dz) w hw) ((fun _=>Wd.old DC) w hw) )))) O<|R.u 1 O<|R.nil ?_
   refine R.reg O<|R.u 7 O<|R.qg O (q.aT (off':=4) O bW O) O<|R.qg O (q.ld 1 O O aA O) O<|R.qg O (q.aT (off':=4) O bW O) O<|R.qg O (q.ld 0 O O aA O) O<|?_
   by_cases h3:a.ae=b.ae
   ·
    refine R.qg O (q.neq O O (bne_eq_false_iff_eq.2 (by omega))) O<|R.u 2 O<|R.qg O (q.aT (off':=5) O cI O) O<|R.qg O (q.ld 1 O O aA O) O<|R.qg O (q.aT (off':=5) O cI O) O<|R.qg O (q.ld 0 O O aA O) O<|?_
    by_cases h4:a.af=b.af
    ·
     refine R.qg O (q.neq O O (bne_eq_false_iff_eq.2 (by omega))) O<|R.u 2 O<|R.qg O (q.aT (off':=1) O bM O) O<|R.qg O (q.ld 1 O O cq O) O<|R.qg O (q.len' (fun _=>Wd.old xq) O Tryz.underlying28) O<|R.qg O (q.aT (off':=1) O bM O) O<|R.qg O (q.ld 0 O O cq O) O<|R.qg O (q.len' (fun _=>Wd.old zD) O Tryz.underlying28) O<|?_
     by_cases h5:a.Things.length=b.Things.length
     ·
      refine R.qg O (q.neq O O (bne_eq_false_iff_eq.2 (by omega))) O<|R.u 2 O<|R.qg O (q.aT (off':=3) O br O) O<|R.qg O (q.ld 1 O O bN O) O<|R.qg O (q.len' (fun _=>Wd.old xt) O Tryz.underlying30) O<|R.qg O (q.aT (off':=3) O br O) O<|R.qg O (q.ld 0 O O bN O) O<|R.qg O (q.len' (fun _=>Wd.old zE) O Tryz.underlying30) O<|?_
      by_cases h6:a.Notes.length=b.Notes.length
      ·
       refine R.qg O (q.neq O O (bne_eq_false_iff_eq.2 (by omega))) O<|R.u 1 O<|R.nil ?_
       refine R.aF O O ?_
       refine R.reg O<|R.u 1 O<|R.nil ?_
       refine R.loop (fun k:Nat=>[(2,.pointer (some ⟨b1,0,none⟩)),(3,.pointer (some ⟨b2,0,none⟩)),(7,iV (k:Int))]) (fun k:Nat=>[ag.box b2 [xm,xn,xo,xp,iV b.ae,iV b.af] 32,ag.box b1 [xh,xj,xk,xl,iV a.ae,iV a.af] 32]) (fun k:Nat=>[]) (fun k:Nat=>k≤a.Things.length ∧ ∀j,j<k→a.Things[j]? = b.Things[j]?) (fun k:Nat=>a.Things.length-k) 0 O (by exact ⟨by omega,fun j hj=>absurd hj (Nat.not_lt_zero _)⟩) ⟨rfl,rfl,rfl,trivial⟩ (fun _=>Wd.pick [0,1] [] O O O) ?_
       rintro k ⟨hk,HA⟩
       refine R.reg O<|R.u 1 O<|R.q (q.aT (off':=1) O bM O) O<|R.q (q.ld 1 O O cq O) O<|R.q (q.len' (fun _=>Wd.old xq) O Tryz.underlying28) O<|?_
       by_cases h7:k<a.Things.length
       ·
        refine R.q (q.lss O O (decide_eq_true (by omega))) O<|R.nil ?_
        refine R.aE O O ?_
        obtain ⟨x1,hx1⟩:∃z,a.Things[k]? = some z:=⟨_,List.getElem?_eq_getElem (by omega)⟩
        obtain ⟨x2,hx2⟩:∃z,b.Things[k]? = some z:=⟨_,List.getElem?_eq_getElem (by omega)⟩
        by_cases h8:x1=x2
        ·
         refine R.dP O mixed (by kernel_rfl)<|Q.q (q.aT (off':=1) O bM O) O<|Q.q (q.ld 1 O O cq O) O<|Q.u 1 O<|Q.q (q.idx (i:=k) (fun _=>Wd.old xq) O O ew O hx1) O<|Q.q (q.cY (ds:=eE x1) (fun _=>Wd.old xq) hx1 O fu O) O<|Q.q (q.aT (off':=1) O bM O) O<|Q.q (q.ld 0 O O cq O) O<|Q.u 1 O<|Q.q (q.idx (i:=k) (fun _=>Wd.old zD) O O ew O hx2) O<|Q.q (q.cY (ds:=eE x2) (fun _=>Wd.old zD) hx2 O fu O) O<|Q.q (q.gX (x:=x1) (y:=x2) EM O O h8) O<|Q.nil ?_
         refine R.aF O O ?_
         refine R.reg O<|R.u 1 O<|R.q (q.add (r:=((k+1:Nat):Int)) O O (wr (by omega))) O<|R.u 1 O<|R.nil ?_
         refine R.back (k+1) O (by (exact ⟨by omega,jA HA hx1 hx2 ‹_›⟩)) (by omega) ⟨rfl,rfl,rfl,trivial⟩ (fun _=>Wd.pick [0,1] [] O O O)
        ·
         refine R.dP O mixed (by kernel_rfl)<|Q.q (q.aT (off':=1) O bM O) O<|Q.q (q.ld 1 O O cq O) O<|Q.u 1 O<|Q.q (q.idx (i:=k) (fun _=>Wd.old xq) O O ew O hx1) O<|Q.q (q.cY (ds:=eE x1) (fun _=>Wd.old xq) hx1 O fu O) O<|Q.q (q.aT (off':=1) O bM O) O<|Q.q (q.ld 0 O O cq O) O<|Q.u 1 O<|Q.q (q.idx (i:=k) (fun _=>Wd.old zD) O O ew O hx2) O<|Q.q (q.cY (ds:=eE x2) (fun _=>Wd.old zD) hx2 O fu O) O<|Q.q (q.gY (x:=x1) (y:=x2) EM O O h8) O<|Q.nil ?_
         refine R.aE O O ?_
         refine R.reg O<|R.u 1 O<|R.nil ?_
         exact R.rv O Tryz.results18 O (rB (by (exact (decide_eq_false (fun e=>by subst e;have hq:=hx1.symm.trans hx2;injection hq;contradiction)).symm)))
       ·
        refine R.q (q.lss O O (decide_eq_false (by omega))) O<|R.nil ?_
        refine R.aF O O ?_
        refine R.reg O<|R.u 1 O<|R.nil ?_
        refine R.loop (fun k:Nat=>[(2,.pointer (some ⟨b1,0,none⟩)),(3,.pointer (some ⟨b2,0,none⟩)),(8,iV (k:Int))]) (fun k:Nat=>[ag.box b2 [xm,xn,xo,xp,iV b.ae,iV b.af] 32,ag.box b1 [xh,xj,xk,xl,iV a.ae,iV a.af] 32]) (fun k:Nat=>[]) (fun k:Nat=>k≤a.Notes.length ∧ ∀j,j<k→a.Notes[j]? = b.Notes[j]?) (fun k:Nat=>a.Notes.length-k) 0 O (by exact ⟨by omega,fun j hj=>absurd hj (Nat.not_lt_zero _)⟩) ⟨rfl,rfl,rfl,trivial⟩ (fun _=>Wd.pick [0,1] [] O O O) ?_
        rintro k ⟨hk2,HA2⟩
        refine R.reg O<|R.u 1 O<|R.q (q.aT (off':=3) O br O) O<|R.q (q.ld 1 O O bN O) O<|R.q (q.len' (fun _=>Wd.old xt) O Tryz.underlying30) O<|?_
        by_cases h9:k<a.Notes.length
        ·
         refine R.q (q.lss O O (decide_eq_true (by omega))) O<|R.nil ?_
         refine R.aE O O ?_
         obtain ⟨x3,hx3⟩:∃z,a.Notes[k]? = some z:=⟨_,List.getElem?_eq_getElem (by omega)⟩
         obtain ⟨x4,hx4⟩:∃z,b.Notes[k]? = some z:=⟨_,List.getElem?_eq_getElem (by omega)⟩
         by_cases h10:x3=x4
         ·
          refine R.dP O mixed (by kernel_rfl)<|Q.q (q.aT (off':=3) O br O) O<|Q.q (q.ld 1 O O bN O) O<|Q.u 1 O<|Q.q (q.idx (i:=k) (fun _=>Wd.old xt) O O du O hx3) O<|Q.q (q.cY (ds:=bg x3) (fun _=>Wd.old xt) hx3 O bO O) O<|Q.q (q.aT (off':=3) O br O) O<|Q.q (q.ld 0 O O bN O) O<|Q.u 1 O<|Q.q (q.idx (i:=k) (fun _=>Wd.old zE) O O du O hx4) O<|Q.q (q.cY (ds:=bg x4) (fun _=>Wd.old zE) hx4 O bO O) O<|Q.q (q.gX (x:=x3) (y:=x4) EN O O h10) O<|Q.nil ?_
          refine R.aF O O ?_
          refine R.reg O<|R.u 1 O<|R.q (q.add (r:=((k+1:Nat):Int)) O O (wr (by omega))) O<|R.u 1 O<|R.nil ?_
          refine R.back (k+1) O (by (exact ⟨by omega,jA HA2 hx3 hx4 ‹_›⟩)) (by omega) ⟨rfl,rfl,rfl,trivial⟩ (fun _=>Wd.pick [0,1] [] O O O)
         ·
          refine R.dP O mixed (by kernel_rfl)<|Q.q (q.aT (off':=3) O br O) O<|Q.q (q.ld 1 O O bN O) O<|Q.u 1 O<|Q.q (q.idx (i:=k) (fun _=>Wd.old xt) O O du O hx3) O<|Q.q (q.cY (ds:=bg x3) (fun _=>Wd.old xt) hx3 O bO O) O<|Q.q (q.aT (off':=3) O br O) O<|Q.q (q.ld 0 O O bN O) O<|Q.u 1 O<|Q.q (q.idx (i:=k) (fun _=>Wd.old zE) O O du O hx4) O<|Q.q (q.cY (ds:=bg x4) (fun _=>Wd.old zE) hx4 O bO O) O<|Q.q (q.gY (x:=x3) (y:=x4) EN O O h10) O<|Q.nil ?_
          refine R.aE O O ?_
          refine R.reg O<|R.u 1 O<|R.nil ?_
          exact R.rv O Tryz.results18 O (rB (by (exact (decide_eq_false (fun e=>by subst e;have hq:=hx3.symm.trans hx4;injection hq;contradiction)).symm)))
        ·
         refine R.q (q.lss O O (decide_eq_false (by omega))) O<|R.nil ?_
         refine R.aF O O ?_
         refine R.reg O<|R.u 1 O<|R.nil ?_
         exact R.rv O Tryz.results18 O (rB (by (refine (decide_eq_true ?_).symm;have eT:=kK (a:=a.Things) (b:=b.Things) (by omega) ‹_› HA;have eN:=kK (a:=a.Notes) (b:=b.Notes) (by omega) ‹_› HA2;cases a;cases b;simp_all)))
      ·
       refine R.qg O (q.neq O O (bne_iff_ne.2 (by omega))) O<|R.u 1 O<|R.nil ?_
       refine R.aE O O ?_
       refine R.reg O<|R.u 1 O<|R.nil ?_
       exact R.rv O Tryz.results18 O (rB (by (exact (decide_eq_false (fun e=>by subst e;omega)).symm)))
     ·
      refine R.qg O (q.neq O O (bne_iff_ne.2 (by omega))) O<|R.u 10 O<|R.nil ?_
      refine R.aE O O ?_
      refine R.reg O<|R.u 1 O<|R.nil ?_
      exact R.rv O Tryz.results18 O (rB (by (exact (decide_eq_false (fun e=>by subst e;omega)).symm)))
    ·
     refine R.qg O (q.neq O O (bne_iff_ne.2 (by omega))) O<|R.u 19 O<|R.nil ?_
     refine R.aE O O ?_
     refine R.reg O<|R.u 1 O<|R.nil ?_
     exact R.rv O Tryz.results18 O (rB (by (exact (decide_eq_false (fun e=>by subst e;omega)).symm)))
   ·
    refine R.qg O (q.neq O O (bne_iff_ne.2 (by omega))) O<|R.u 26 O<|R.nil ?_
    refine R.aE O O ?_
    refine R.reg O<|R.u 1 O<|R.nil ?_
    exact R.rv O Tryz.results18 O (rB (by (exact (decide_eq_false (fun e=>by subst e;omega)).symm)))
  ·
   refine R.c (q.call yo O O (fun w hw=>(cv (congrArg Value.bool h2) (jr _ (a.Held) _ (b.Held) w ((fun _=>Wd.old Dz) w hw) ((fun _=>Wd.old DC) w hw) )))) O<|R.u 1 O<|R.nil ?_
   refine R.reg O<|R.u 38 O<|R.nil ?_
   refine R.aE O O ?_
   refine R.reg O<|R.u 1 O<|R.nil ?_
   exact R.rv O Tryz.results18 O (rB (by (exact (decide_eq_false (fun e=>by subst e;(simp_all;done))).symm)))
 ·
  refine R.c (q.call EB O O (fun w hw=>(cv (congrArg Value.bool h1) (ny _ (a.ai) _ (b.ai) w ((fun _=>Wd.old HQ) w hw) ((fun _=>Wd.old HR) w hw) )))) O<|R.u 1 O<|R.nil ?_
  refine R.reg O<|R.q (q.aT (off':=2) O bB O) O<|R.q (q.ld 1 O O bZ O) O<|R.q (q.aT (off':=2) O bB O) O<|R.q (q.ld 0 O O bZ O) O<|?_
  rcases Bool.eq_false_or_eq_true (decide (a.Held=b.Held)) with h11|h11
  ·
   refine R.c (q.call yo O O (fun w hw=>(cv (congrArg Value.bool h11) (jr _ (a.Held) _ (b.Held) w ((fun _=>Wd.old Dz) w hw) ((fun _=>Wd.old DC) w hw) )))) O<|R.u 1 O<|R.nil ?_
   refine R.reg O<|R.u 38 O<|R.nil ?_
   refine R.aE O O ?_
   refine R.reg O<|R.u 1 O<|R.nil ?_
   exact R.rv O Tryz.results18 O (rB (by (exact (decide_eq_false (fun e=>by subst e;(simp_all;done))).symm)))
  ·
   refine R.c (q.call yo O O (fun w hw=>(cv (congrArg Value.bool h11) (jr _ (a.Held) _ (b.Held) w ((fun _=>Wd.old Dz) w hw) ((fun _=>Wd.old DC) w hw) )))) O<|R.u 1 O<|R.nil ?_
   refine R.reg O<|R.u 38 O<|R.nil ?_
   refine R.aE O O ?_
   refine R.reg O<|R.u 1 O<|R.nil ?_
   exact R.rv O Tryz.results18 O (rB (by (exact (decide_eq_false (fun e=>by subst e;(simp_all;done))).symm)))
section
attribute [local irreducible] bT au
end
end Go.Proofs.YtbkfhjaibhnkmaaGreatDoor
