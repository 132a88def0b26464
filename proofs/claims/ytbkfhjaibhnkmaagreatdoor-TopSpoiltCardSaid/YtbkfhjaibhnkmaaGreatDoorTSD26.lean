import Derived.Test.YtbkfhjaibhnkmaaGreatDoorTSD25
namespace Go.Proofs.YtbkfhjaibhnkmaaGreatDoor
open Go Go.RowKit
set_option linter.unusedVariables false
set_option linter.unusedSimpArgs false
set_option maxRecDepth 100000
theorem pS (aF az aC aB:Value)(r:ap)(p:Place)(kind:Int)(w:World)(own:List Nat)(H:Wd w (blks []++own) ([]++[ag.held w own]) [ag.ls aF (r.ai:List aj),ag.ls az (r.Things:List ah),ag.ls aC (r.Held:List Held),ag.ls aB (r.Notes:List Note)] w)(hk:Ok r):Calls Tryz.prog 30 #[.agg #[aF,az,aC,aB,iV r.ae,iV r.af],.agg #[iV p.ao,iV p.Slot],iV kind] w fun e w' => ∃z:Value×Value×Value×Value,e = .returned (.tuple #[.agg #[z.1,z.2.1,z.2.2.1,z.2.2.2,iV ((((bC r p kind)).1).ae),iV ((((bC r p kind)).1).af)],e6 (((bC r p kind)).2)])∧Wd w (blks []++own) ([]++[ag.held w own]) [ag.ls z.1 ((((bC r p kind)).1).ai:List aj),ag.ls z.2.1 ((((bC r p kind)).1).Things:List ah),ag.ls z.2.2.1 ((((bC r p kind)).1).Held:List Held),ag.ls z.2.2.2 ((((bC r p kind)).1).Notes:List Note)] w':=by
 have dR:=H.cX 0 rfl
 have dq:=H.cX 1 rfl
 have eK:=H.cX 2 rfl
 have dS:=H.cX 3 rfl
 have bw:=hk.wl;have bt:=hk.tl;have bh:=hk.hl;have bn:=hk.nl;have xF:=hk.w0;have xG:=hk.w1;have xH:=hk.t0;have xI:=hk.t1
 refine R.dc (n:=63) (vs:=[.agg #[aF,az,aC,aB,iV r.ae,iV r.af],.agg #[iV p.ao,iV p.Slot],iV kind]) (B:=[ag.held w own]) [(0,.agg #[aF,az,aC,aB,iV r.ae,iV r.af]),(1,.agg #[iV p.ao,iV p.Slot]),(2,iV kind)] Tryz.func30 rfl rfl rfl rfl H ?_
 refine R.reg rfl<|R.s rfl (s.box (cs:=[aF,az,aC,aB,iV r.ae,iV r.af]) rfl rfl rfl) fun b1=>R.s rfl (s.box (cs:=aE p) rfl rfl rfl) fun b2=>R.s rfl (s.alloc (cs:=aJ) cD rfl rfl) fun b3=>R.u 1 rfl<|R.nil ?_
 refine R.reg rfl<|R.u 1 rfl<|?_
 by_cases h1:kind=1
 ·
  refine R.q (q.neq rfl rfl (bne_eq_false_iff_eq.2 (by omega))) rfl<|R.u 4 rfl<|R.nil ?_
  refine R.aI rfl rfl ?_
  refine R.reg rfl<|R.q (q.cT 2 rfl rfl ar) rfl<|R.q (q.cT 1 rfl rfl br) rfl<|R.c (q.call tN rfl rfl (fun w hw=>(kG _ _ _ _ (r) (p) w (hw.aT 0 rfl) (hw.aT 1 rfl) (hw.aT 2 rfl) (hw.aT 3 rfl) ‹_›))) rfl<|R.u 1 rfl<|R.nil ?_
  refine R.reg rfl<|R.u 1 rfl<|?_
  by_cases h2:eX r p=0
  ·
   refine R.q (q.fr rfl rfl Tryz.underlying35 (by omega)) rfl<|R.nil ?_
   refine R.aI rfl rfl ?_
   refine R.reg rfl<|R.q (q.a8 (off':=1) rfl bO rfl) rfl<|R.q (q.ld 2 rfl rfl cw rfl) rfl<|R.q (q.len' (fun _=>Wd.aT 1 rfl) rfl Tryz.underlying28) rfl<|?_
   by_cases h3:r.Things.length=10
   ·
    refine R.q (q.eql rfl rfl (beq_iff_eq.2 (by omega))) rfl<|R.u 10 rfl<|R.nil ?_
    refine R.aD rfl rfl ?_
    refine R.reg rfl<|R.q (q.build (cs:=aJ) cY rfl rfl) rfl<|R.q (q.iface rfl bI) rfl<|R.s rfl (s.st (us:=aJ) (cs':=aJ) 0 _ rfl rfl rfl rfl (.inl ar) rfl rfl rfl rfl) fun _=>R.u 1 rfl<|R.nil ?_
    refine R.mp (fun _ hw=>hw.bg (α:=aj)) ?_
    refine R.mp (fun _ hw=>hw.bg (α:=ah)) ?_
    refine R.mp (fun _ hw=>hw.bg (α:=Held)) ?_
    refine R.mp (fun _ hw=>hw.bg (α:=Note)) ?_
    have hz:bC r p kind=((⟨[],[],[],[],0,0⟩:ap),9):=by (unfold bC;(repeat' split) <;> first|rfl|(exfalso;omega)|(simp_all;done))
    rw [hz]
    exact R.w2 ((nS),(nS),(nS),(nS)) [3] [3,2,1,0] rfl Tryz.results30 (RV.cell 0 rfl rfl ar) (RV.tmp rfl) rfl rfl rfl (cL rfl (dP (by decide) rfl))
   ·
    refine R.q (q.eql rfl rfl (beq_eq_false_iff_ne.2 (by omega))) rfl<|R.u 1 rfl<|R.qg rfl (q.a8 (off':=5) rfl cU rfl) rfl<|R.qg rfl (q.ld 2 rfl rfl av rfl) rfl<|?_
    by_cases h4:999<r.af
    ·
     refine R.qg rfl (q.gtr rfl rfl (decide_eq_true (by omega))) rfl<|R.u 6 rfl<|R.nil ?_
     refine R.aD rfl rfl ?_
     refine R.reg rfl<|R.q (q.build (cs:=aJ) cY rfl rfl) rfl<|R.q (q.iface rfl bI) rfl<|R.s rfl (s.st (us:=aJ) (cs':=aJ) 0 _ rfl rfl rfl rfl (.inl ar) rfl rfl rfl rfl) fun _=>R.u 1 rfl<|R.nil ?_
     refine R.mp (fun _ hw=>hw.bg (α:=aj)) ?_
     refine R.mp (fun _ hw=>hw.bg (α:=ah)) ?_
     refine R.mp (fun _ hw=>hw.bg (α:=Held)) ?_
     refine R.mp (fun _ hw=>hw.bg (α:=Note)) ?_
     have hz:bC r p kind=((⟨[],[],[],[],0,0⟩:ap),9):=by (unfold bC;(repeat' split) <;> first|rfl|(exfalso;omega)|(simp_all;done))
     rw [hz]
     exact R.w2 ((nS),(nS),(nS),(nS)) [3] [3,2,1,0] rfl Tryz.results30 (RV.cell 0 rfl rfl ar) (RV.tmp rfl) rfl rfl rfl (cL rfl (dP (by decide) rfl))
    ·
     refine R.qg rfl (q.gtr rfl rfl (decide_eq_false (by omega))) rfl<|R.u 2 rfl<|R.qg rfl (q.a8 (off':=4) rfl bW rfl) rfl<|R.qg rfl (q.ld 2 rfl rfl av rfl) rfl<|?_
     by_cases h5:999<r.ae
     ·
      refine R.qg rfl (q.gtr rfl rfl (decide_eq_true (by omega))) rfl<|R.u 1 rfl<|R.nil ?_
      refine R.aD rfl rfl ?_
      refine R.reg rfl<|R.q (q.build (cs:=aJ) cY rfl rfl) rfl<|R.q (q.iface rfl bI) rfl<|R.s rfl (s.st (us:=aJ) (cs':=aJ) 0 _ rfl rfl rfl rfl (.inl ar) rfl rfl rfl rfl) fun _=>R.u 1 rfl<|R.nil ?_
      refine R.mp (fun _ hw=>hw.bg (α:=aj)) ?_
      refine R.mp (fun _ hw=>hw.bg (α:=ah)) ?_
      refine R.mp (fun _ hw=>hw.bg (α:=Held)) ?_
      refine R.mp (fun _ hw=>hw.bg (α:=Note)) ?_
      have hz:bC r p kind=((⟨[],[],[],[],0,0⟩:ap),9):=by (unfold bC;(repeat' split) <;> first|rfl|(exfalso;omega)|(simp_all;done))
      rw [hz]
      exact R.w2 ((nS),(nS),(nS),(nS)) [3] [3,2,1,0] rfl Tryz.results30 (RV.cell 0 rfl rfl ar) (RV.tmp rfl) rfl rfl rfl (cL rfl (dP (by decide) rfl))
     ·
      refine R.qg rfl (q.gtr rfl rfl (decide_eq_false (by omega))) rfl<|R.u 1 rfl<|R.nil ?_
      refine R.aI rfl rfl ?_
      refine R.reg rfl<|R.q (q.a8 (off':=5) rfl cU rfl) rfl<|R.q (q.ld 2 rfl rfl av rfl) rfl<|R.u 1 rfl<|R.nil ?_
      refine R.reg rfl<|R.q (q.a8 (off':=1) rfl bO rfl) rfl<|R.q (q.ld 2 rfl rfl cw rfl) rfl<|R.s (B':=(fun aH:Value=>[ag.row 62 aH (r.Things:List ah),ag.box b3 aJ 32,ag.box b2 (aE p) 39,ag.box b1 [aF,az,aC,aB,iV r.ae,iV r.af] 32,ag.held w own])) (F':=(fun aH:Value=>[ag.ls aF (r.ai:List aj),ag.ls az (r.Things:List ah),ag.ls aC (r.Held:List Held),ag.ls aB (r.Notes:List Note)])) rfl (s.bJ (B0:=[]) (Br:=[ag.box b3 aJ 32,ag.box b2 (aE p) 39,ag.box b1 [aF,az,aC,aB,iV r.ae,iV r.af] 32,ag.held w own]) (F0:=[ag.ls az (r.Things:List ah)]) [0,1,2,3] [1] (fun aH:Value=>aH) (fun aH:Value=>[ag.row 62 aH (r.Things:List ah)]) (fun aH:Value=>[]) rfl rfl rfl tO rfl rfl (fun w own hw H=>gx az (r.Things) w own H (by first|omega|assumption|(simp;done)|(simp;omega))) rfl) fun z1=>R.u 2 rfl<|R.q (q.build (cs:=[iV r.af,iV kind,.string (⟨#[]⟩)]) vQ rfl rfl) rfl<|R.s rfl (s.bs (l:=([(⟨r.af,kind,⟨#[]⟩⟩:ah)]:List ah)) fb gi rfl rfl rfl rfl rfl rfl rfl) fun b4=>R.s rfl (s.app (l2:=[(⟨r.af,kind,⟨#[]⟩⟩:ah)]) 1 _ rfl rfl rfl (fun _=>Wd.row 0 rfl) lP (by first|omega|(simp;omega)) (by first|omega|(simp;omega)) (fun _=>rfl) rfl) fun v1=>R.q (q.a8 (off':=1) rfl bO rfl) rfl<|R.s rfl (s.e8 (us:=[v1]) (cs':=[aF,v1,aC,aB,iV r.ae,iV r.af]) 4 _ rfl rfl rfl (fun w hw=>Sl.cJ (hw.row 1 rfl)) (.inr ⟨cw,rfl⟩) (fun w hw=>(ak (Sl.one (hw.row 1 rfl)) aS)) rfl rfl rfl) fun _=>R.nil ?_
      refine R.reg rfl<|R.q (q.a8 (off':=5) rfl cU rfl) rfl<|R.q (q.ld 4 rfl rfl av rfl) rfl<|R.q (q.add (r:=r.af+1) rfl rfl (wr (by omega))) rfl<|R.q (q.a8 (off':=5) rfl cU rfl) rfl<|R.s rfl (s.st (us:=[iV (r.af+1)]) (cs':=[aF,v1,aC,aB,iV r.ae,iV (r.af+1)]) 4 _ rfl rfl rfl rfl (.inr ⟨av,rfl⟩) rfl rfl rfl rfl) fun _=>R.nil ?_
      refine R.reg rfl<|R.q (q.cT 4 rfl rfl ar) rfl<|R.q (q.a8 (off':=4) rfl bW rfl) rfl<|R.q (q.ld 4 rfl rfl av rfl) rfl<|R.u 1 rfl<|R.q (q.build (cs:=[iV r.ae,iV r.af,iV 7,iV 0,iV 0]) gQ rfl rfl) rfl<|R.q (q.cT 3 rfl rfl br) rfl<|R.s (B':=(fun g_:Value×Value×Value×Value=>[ag.row 62 (.slice (some ⟨b4,0,none⟩) 1 1) ([(⟨r.af,kind,⟨#[]⟩⟩:ah)]:List ah),ag.box b3 aJ 32,ag.box b2 (aE p) 39,ag.box b1 [aF,v1,aC,aB,iV r.ae,iV (r.af+1)] 32,ag.held w own])) (F':=(fun g_:Value×Value×Value×Value=>[ag.ls g_.1 (((aW (⟨r.ai,(r.Things++([(⟨r.af,kind,⟨#[]⟩⟩:ah)])),r.Held,r.Notes,r.ae,(r.af+1)⟩:ap) (⟨r.ae,r.af,7,0,0⟩:aj) p)).ai:List aj),ag.ls g_.2.1 (((aW (⟨r.ai,(r.Things++([(⟨r.af,kind,⟨#[]⟩⟩:ah)])),r.Held,r.Notes,r.ae,(r.af+1)⟩:ap) (⟨r.ae,r.af,7,0,0⟩:aj) p)).Things:List ah),ag.ls g_.2.2.1 (((aW (⟨r.ai,(r.Things++([(⟨r.af,kind,⟨#[]⟩⟩:ah)])),r.Held,r.Notes,r.ae,(r.af+1)⟩:ap) (⟨r.ae,r.af,7,0,0⟩:aj) p)).Held:List Held),ag.ls g_.2.2.2 (((aW (⟨r.ai,(r.Things++([(⟨r.af,kind,⟨#[]⟩⟩:ah)])),r.Held,r.Notes,r.ae,(r.af+1)⟩:ap) (⟨r.ae,r.af,7,0,0⟩:aj) p)).Notes:List Note),ag.ls v1 ((r.Things++([(⟨r.af,kind,⟨#[]⟩⟩:ah)])):List ah),ag.ls aF (r.ai:List aj),ag.ls az (r.Things:List ah),ag.ls aC (r.Held:List Held),ag.ls aB (r.Notes:List Note)])) rfl (s.pre (B2:=[ag.row 62 (.slice (some ⟨b4,0,none⟩) 1 1) ([(⟨r.af,kind,⟨#[]⟩⟩:ah)]:List ah),ag.box b3 aJ 32,ag.box b2 (aE p) 39,ag.box b1 [aF,v1,aC,aB,iV r.ae,iV (r.af+1)] 32,ag.held w own]) (F2:=[ag.ls v1 ((r.Things++([(⟨r.af,kind,⟨#[]⟩⟩:ah)])):List ah),ag.ls aF (r.ai:List aj),ag.ls az (r.Things:List ah),ag.ls aC (r.Held:List Held),ag.ls aB (r.Notes:List Note)]) (fun _ hw=>hw.di 1 _ rfl rfl) (s.bJ (B0:=[]) (Br:=[ag.row 62 (.slice (some ⟨b4,0,none⟩) 1 1) ([(⟨r.af,kind,⟨#[]⟩⟩:ah)]:List ah),ag.box b3 aJ 32,ag.box b2 (aE p) 39,ag.box b1 [aF,v1,aC,aB,iV r.ae,iV (r.af+1)] 32,ag.held w own]) (F0:=[ag.ls aF (r.ai:List aj),ag.ls v1 ((r.Things++([(⟨r.af,kind,⟨#[]⟩⟩:ah)])):List ah),ag.ls aC (r.Held:List Held),ag.ls aB (r.Notes:List Note)]) [0,1,2,3,4] [1,0,3,4] (fun g_:Value×Value×Value×Value => .agg #[g_.1,g_.2.1,g_.2.2.1,g_.2.2.2,iV (((aW (⟨r.ai,(r.Things++([(⟨r.af,kind,⟨#[]⟩⟩:ah)])),r.Held,r.Notes,r.ae,(r.af+1)⟩:ap) (⟨r.ae,r.af,7,0,0⟩:aj) p)).ae),iV (((aW (⟨r.ai,(r.Things++([(⟨r.af,kind,⟨#[]⟩⟩:ah)])),r.Held,r.Notes,r.ae,(r.af+1)⟩:ap) (⟨r.ae,r.af,7,0,0⟩:aj) p)).af)]) (fun g_:Value×Value×Value×Value=>[]) (fun g_:Value×Value×Value×Value=>[ag.ls g_.1 (((aW (⟨r.ai,(r.Things++([(⟨r.af,kind,⟨#[]⟩⟩:ah)])),r.Held,r.Notes,r.ae,(r.af+1)⟩:ap) (⟨r.ae,r.af,7,0,0⟩:aj) p)).ai:List aj),ag.ls g_.2.1 (((aW (⟨r.ai,(r.Things++([(⟨r.af,kind,⟨#[]⟩⟩:ah)])),r.Held,r.Notes,r.ae,(r.af+1)⟩:ap) (⟨r.ae,r.af,7,0,0⟩:aj) p)).Things:List ah),ag.ls g_.2.2.1 (((aW (⟨r.ai,(r.Things++([(⟨r.af,kind,⟨#[]⟩⟩:ah)])),r.Held,r.Notes,r.ae,(r.af+1)⟩:ap) (⟨r.ae,r.af,7,0,0⟩:aj) p)).Held:List Held),ag.ls g_.2.2.2 (((aW (⟨r.ai,(r.Things++([(⟨r.af,kind,⟨#[]⟩⟩:ah)])),r.Held,r.Notes,r.ae,(r.af+1)⟩:ap) (⟨r.ae,r.af,7,0,0⟩:aj) p)).Notes:List Note)]) rfl rfl rfl qV rfl rfl (fun w own hw H=>ko aF v1 aC aB ((⟨r.ai,(r.Things++([(⟨r.af,kind,⟨#[]⟩⟩:ah)])),r.Held,r.Notes,r.ae,(r.af+1)⟩:ap)) ((⟨r.ae,r.af,7,0,0⟩:aj)) (p) w own H (by first|omega|(dsimp only;omega))) rfl)) ?_
      rintro ⟨z2,z3,z4,z5⟩
      dsimp only
      refine R.s rfl (s.e8 (us:=[z2,z3,z4,z5,iV ((aW (⟨r.ai,(r.Things++([(⟨r.af,kind,⟨#[]⟩⟩:ah)])),r.Held,r.Notes,r.ae,(r.af+1)⟩:ap) (⟨r.ae,r.af,7,0,0⟩:aj) p).ae),iV ((aW (⟨r.ai,(r.Things++([(⟨r.af,kind,⟨#[]⟩⟩:ah)])),r.Held,r.Notes,r.ae,(r.af+1)⟩:ap) (⟨r.ae,r.af,7,0,0⟩:aj) p).af)]) (cs':=[z2,z3,z4,z5,iV ((aW (⟨r.ai,(r.Things++([(⟨r.af,kind,⟨#[]⟩⟩:ah)])),r.Held,r.Notes,r.ae,(r.af+1)⟩:ap) (⟨r.ae,r.af,7,0,0⟩:aj) p).ae),iV ((aW (⟨r.ai,(r.Things++([(⟨r.af,kind,⟨#[]⟩⟩:ah)])),r.Held,r.Notes,r.ae,(r.af+1)⟩:ap) (⟨r.ae,r.af,7,0,0⟩:aj) p).af)]) 1 _ rfl rfl rfl (fun _ _=>rfl) (.inl ar) (fun w hw=>(ak (Sl.one (hw.aT 0 rfl)) (ak (Sl.one (hw.aT 1 rfl)) (ak (Sl.one (hw.aT 2 rfl)) (ak (Sl.one (hw.aT 3 rfl)) (ak rfl (ak rfl aS))))))) rfl rfl rfl) fun _=>R.u 1 rfl<|R.nil ?_
      have hz:bC r p kind=((aW (⟨r.ai,(r.Things++([(⟨r.af,kind,⟨#[]⟩⟩:ah)])),r.Held,r.Notes,r.ae,(r.af+1)⟩:ap) (⟨r.ae,r.af,7,0,0⟩:aj) p),0):=by (unfold bC;(repeat' split) <;> first|rfl|(exfalso;omega)|(simp_all;done))
      rw [hz]
      exact R.w2 (z2,z3,z4,z5) [4] [0,1,2,3] rfl Tryz.results30 (RV.cell 1 rfl rfl ar) (RV.tmp rfl) rfl rfl rfl (cL rfl (gO rfl))
  ·
   refine R.q (q.fw rfl rfl Tryz.underlying35 (by omega)) rfl<|R.nil ?_
   refine R.aD rfl rfl ?_
   refine R.reg rfl<|R.q (q.build (cs:=aJ) cY rfl rfl) rfl<|R.u 1 rfl<|R.s rfl (s.st (us:=aJ) (cs':=aJ) 0 _ rfl rfl rfl rfl (.inl ar) rfl rfl rfl rfl) fun _=>R.u 1 rfl<|R.nil ?_
   refine R.mp (fun _ hw=>hw.bg (α:=aj)) ?_
   refine R.mp (fun _ hw=>hw.bg (α:=ah)) ?_
   refine R.mp (fun _ hw=>hw.bg (α:=Held)) ?_
   refine R.mp (fun _ hw=>hw.bg (α:=Note)) ?_
   have hz:bC r p kind=((⟨[],[],[],[],0,0⟩:ap),eX r p):=by (unfold bC;(repeat' split) <;> first|rfl|(exfalso;omega)|(simp_all;done))
   rw [hz]
   exact R.w2 ((nS),(nS),(nS),(nS)) [3] [3,2,1,0] rfl Tryz.results30 (RV.cell 0 rfl rfl ar) (RV.tmp rfl) rfl rfl rfl (cL rfl rfl)
 ·
  refine R.q (q.neq rfl rfl (bne_iff_ne.2 (by omega))) rfl<|R.u 2 rfl<|?_
  by_cases h6:kind=2
  ·
   refine R.qg rfl (q.neq rfl rfl (bne_eq_false_iff_eq.2 (by omega))) rfl<|R.u 1 rfl<|R.nil ?_
   refine R.aI rfl rfl ?_
   refine R.reg rfl<|R.q (q.cT 2 rfl rfl ar) rfl<|R.q (q.cT 1 rfl rfl br) rfl<|R.c (q.call tN rfl rfl (fun w hw=>(kG _ _ _ _ (r) (p) w (hw.aT 0 rfl) (hw.aT 1 rfl) (hw.aT 2 rfl) (hw.aT 3 rfl) ‹_›))) rfl<|R.u 1 rfl<|R.nil ?_
   refine R.reg rfl<|R.u 1 rfl<|?_
   by_cases h7:eX r p=0
   ·
    refine R.q (q.fr rfl rfl Tryz.underlying35 (by omega)) rfl<|R.nil ?_
    refine R.aI rfl rfl ?_
    refine R.reg rfl<|R.q (q.a8 (off':=1) rfl bO rfl) rfl<|R.q (q.ld 2 rfl rfl cw rfl) rfl<|R.q (q.len' (fun _=>Wd.aT 1 rfl) rfl Tryz.underlying28) rfl<|?_
    by_cases h8:r.Things.length=10
    ·
     refine R.q (q.eql rfl rfl (beq_iff_eq.2 (by omega))) rfl<|R.u 10 rfl<|R.nil ?_
     refine R.aD rfl rfl ?_
     refine R.reg rfl<|R.q (q.build (cs:=aJ) cY rfl rfl) rfl<|R.q (q.iface rfl bI) rfl<|R.s rfl (s.st (us:=aJ) (cs':=aJ) 0 _ rfl rfl rfl rfl (.inl ar) rfl rfl rfl rfl) fun _=>R.u 1 rfl<|R.nil ?_
     refine R.mp (fun _ hw=>hw.bg (α:=aj)) ?_
     refine R.mp (fun _ hw=>hw.bg (α:=ah)) ?_
     refine R.mp (fun _ hw=>hw.bg (α:=Held)) ?_
     refine R.mp (fun _ hw=>hw.bg (α:=Note)) ?_
     have hz:bC r p kind=((⟨[],[],[],[],0,0⟩:ap),9):=by (unfold bC;(repeat' split) <;> first|rfl|(exfalso;omega)|(simp_all;done))
     rw [hz]
     exact R.w2 ((nS),(nS),(nS),(nS)) [3] [3,2,1,0] rfl Tryz.results30 (RV.cell 0 rfl rfl ar) (RV.tmp rfl) rfl rfl rfl (cL rfl (dP (by decide) rfl))
    ·
     refine R.q (q.eql rfl rfl (beq_eq_false_iff_ne.2 (by omega))) rfl<|R.u 1 rfl<|R.qg rfl (q.a8 (off':=5) rfl cU rfl) rfl<|R.qg rfl (q.ld 2 rfl rfl av rfl) rfl<|?_
     by_cases h9:999<r.af
     ·
      refine R.qg rfl (q.gtr rfl rfl (decide_eq_true (by omega))) rfl<|R.u 6 rfl<|R.nil ?_
      refine R.aD rfl rfl ?_
      refine R.reg rfl<|R.q (q.build (cs:=aJ) cY rfl rfl) rfl<|R.q (q.iface rfl bI) rfl<|R.s rfl (s.st (us:=aJ) (cs':=aJ) 0 _ rfl rfl rfl rfl (.inl ar) rfl rfl rfl rfl) fun _=>R.u 1 rfl<|R.nil ?_
      refine R.mp (fun _ hw=>hw.bg (α:=aj)) ?_
      refine R.mp (fun _ hw=>hw.bg (α:=ah)) ?_
      refine R.mp (fun _ hw=>hw.bg (α:=Held)) ?_
      refine R.mp (fun _ hw=>hw.bg (α:=Note)) ?_
      have hz:bC r p kind=((⟨[],[],[],[],0,0⟩:ap),9):=by (unfold bC;(repeat' split) <;> first|rfl|(exfalso;omega)|(simp_all;done))
      rw [hz]
      exact R.w2 ((nS),(nS),(nS),(nS)) [3] [3,2,1,0] rfl Tryz.results30 (RV.cell 0 rfl rfl ar) (RV.tmp rfl) rfl rfl rfl (cL rfl (dP (by decide) rfl))
     ·
      refine R.qg rfl (q.gtr rfl rfl (decide_eq_false (by omega))) rfl<|R.u 2 rfl<|R.qg rfl (q.a8 (off':=4) rfl bW rfl) rfl<|R.qg rfl (q.ld 2 rfl rfl av rfl) rfl<|?_
      by_cases h10:999<r.ae
      ·
       refine R.qg rfl (q.gtr rfl rfl (decide_eq_true (by omega))) rfl<|R.u 1 rfl<|R.nil ?_
       refine R.aD rfl rfl ?_
       refine R.reg rfl<|R.q (q.build (cs:=aJ) cY rfl rfl) rfl<|R.q (q.iface rfl bI) rfl<|R.s rfl (s.st (us:=aJ) (cs':=aJ) 0 _ rfl rfl rfl rfl (.inl ar) rfl rfl rfl rfl) fun _=>R.u 1 rfl<|R.nil ?_
       refine R.mp (fun _ hw=>hw.bg (α:=aj)) ?_
       refine R.mp (fun _ hw=>hw.bg (α:=ah)) ?_
       refine R.mp (fun _ hw=>hw.bg (α:=Held)) ?_
       refine R.mp (fun _ hw=>hw.bg (α:=Note)) ?_
       have hz:bC r p kind=((⟨[],[],[],[],0,0⟩:ap),9):=by (unfold bC;(repeat' split) <;> first|rfl|(exfalso;omega)|(simp_all;done))
       rw [hz]
       exact R.w2 ((nS),(nS),(nS),(nS)) [3] [3,2,1,0] rfl Tryz.results30 (RV.cell 0 rfl rfl ar) (RV.tmp rfl) rfl rfl rfl (cL rfl (dP (by decide) rfl))
      ·
       refine R.qg rfl (q.gtr rfl rfl (decide_eq_false (by omega))) rfl<|R.u 1 rfl<|R.nil ?_
       refine R.aI rfl rfl ?_
       refine R.reg rfl<|R.q (q.a8 (off':=5) rfl cU rfl) rfl<|R.q (q.ld 2 rfl rfl av rfl) rfl<|R.u 1 rfl<|R.nil ?_
       refine R.reg rfl<|R.q (q.a8 (off':=1) rfl bO rfl) rfl<|R.q (q.ld 2 rfl rfl cw rfl) rfl<|R.s (B':=(fun aH:Value=>[ag.row 62 aH (r.Things:List ah),ag.box b3 aJ 32,ag.box b2 (aE p) 39,ag.box b1 [aF,az,aC,aB,iV r.ae,iV r.af] 32,ag.held w own])) (F':=(fun aH:Value=>[ag.ls aF (r.ai:List aj),ag.ls az (r.Things:List ah),ag.ls aC (r.Held:List Held),ag.ls aB (r.Notes:List Note)])) rfl (s.bJ (B0:=[]) (Br:=[ag.box b3 aJ 32,ag.box b2 (aE p) 39,ag.box b1 [aF,az,aC,aB,iV r.ae,iV r.af] 32,ag.held w own]) (F0:=[ag.ls az (r.Things:List ah)]) [0,1,2,3] [1] (fun aH:Value=>aH) (fun aH:Value=>[ag.row 62 aH (r.Things:List ah)]) (fun aH:Value=>[]) rfl rfl rfl tO rfl rfl (fun w own hw H=>gx az (r.Things) w own H (by first|omega|assumption|(simp;done)|(simp;omega))) rfl) fun z6=>R.u 2 rfl<|R.q (q.build (cs:=[iV r.af,iV kind,.string (⟨#[]⟩)]) vQ rfl rfl) rfl<|R.s rfl (s.bs (l:=([(⟨r.af,kind,⟨#[]⟩⟩:ah)]:List ah)) fb gi rfl rfl rfl rfl rfl rfl rfl) fun b5=>R.s rfl (s.app (l2:=[(⟨r.af,kind,⟨#[]⟩⟩:ah)]) 1 _ rfl rfl rfl (fun _=>Wd.row 0 rfl) lP (by first|omega|(simp;omega)) (by first|omega|(simp;omega)) (fun _=>rfl) rfl) fun v2=>R.q (q.a8 (off':=1) rfl bO rfl) rfl<|R.s rfl (s.e8 (us:=[v2]) (cs':=[aF,v2,aC,aB,iV r.ae,iV r.af]) 4 _ rfl rfl rfl (fun w hw=>Sl.cJ (hw.row 1 rfl)) (.inr ⟨cw,rfl⟩) (fun w hw=>(ak (Sl.one (hw.row 1 rfl)) aS)) rfl rfl rfl) fun _=>R.nil ?_
       refine R.reg rfl<|R.q (q.a8 (off':=5) rfl cU rfl) rfl<|R.q (q.ld 4 rfl rfl av rfl) rfl<|R.q (q.add (r:=r.af+1) rfl rfl (wr (by omega))) rfl<|R.q (q.a8 (off':=5) rfl cU rfl) rfl<|R.s rfl (s.st (us:=[iV (r.af+1)]) (cs':=[aF,v2,aC,aB,iV r.ae,iV (r.af+1)]) 4 _ rfl rfl rfl rfl (.inr ⟨av,rfl⟩) rfl rfl rfl rfl) fun _=>R.nil ?_
       refine R.reg rfl<|R.q (q.cT 4 rfl rfl ar) rfl<|R.q (q.a8 (off':=4) rfl bW rfl) rfl<|R.q (q.ld 4 rfl rfl av rfl) rfl<|R.u 1 rfl<|R.q (q.build (cs:=[iV r.ae,iV r.af,iV 7,iV 0,iV 0]) gQ rfl rfl) rfl<|R.q (q.cT 3 rfl rfl br) rfl<|R.s (B':=(fun g_:Value×Value×Value×Value=>[ag.row 62 (.slice (some ⟨b5,0,none⟩) 1 1) ([(⟨r.af,kind,⟨#[]⟩⟩:ah)]:List ah),ag.box b3 aJ 32,ag.box b2 (aE p) 39,ag.box b1 [aF,v2,aC,aB,iV r.ae,iV (r.af+1)] 32,ag.held w own])) (F':=(fun g_:Value×Value×Value×Value=>[ag.ls g_.1 (((aW (⟨r.ai,(r.Things++([(⟨r.af,kind,⟨#[]⟩⟩:ah)])),r.Held,r.Notes,r.ae,(r.af+1)⟩:ap) (⟨r.ae,r.af,7,0,0⟩:aj) p)).ai:List aj),ag.ls g_.2.1 (((aW (⟨r.ai,(r.Things++([(⟨r.af,kind,⟨#[]⟩⟩:ah)])),r.Held,r.Notes,r.ae,(r.af+1)⟩:ap) (⟨r.ae,r.af,7,0,0⟩:aj) p)).Things:List ah),ag.ls g_.2.2.1 (((aW (⟨r.ai,(r.Things++([(⟨r.af,kind,⟨#[]⟩⟩:ah)])),r.Held,r.Notes,r.ae,(r.af+1)⟩:ap) (⟨r.ae,r.af,7,0,0⟩:aj) p)).Held:List Held),ag.ls g_.2.2.2 (((aW (⟨r.ai,(r.Things++([(⟨r.af,kind,⟨#[]⟩⟩:ah)])),r.Held,r.Notes,r.ae,(r.af+1)⟩:ap) (⟨r.ae,r.af,7,0,0⟩:aj) p)).Notes:List Note),ag.ls v2 ((r.Things++([(⟨r.af,kind,⟨#[]⟩⟩:ah)])):List ah),ag.ls aF (r.ai:List aj),ag.ls az (r.Things:List ah),ag.ls aC (r.Held:List Held),ag.ls aB (r.Notes:List Note)])) rfl (s.pre (B2:=[ag.row 62 (.slice (some ⟨b5,0,none⟩) 1 1) ([(⟨r.af,kind,⟨#[]⟩⟩:ah)]:List ah),ag.box b3 aJ 32,ag.box b2 (aE p) 39,ag.box b1 [aF,v2,aC,aB,iV r.ae,iV (r.af+1)] 32,ag.held w own]) (F2:=[ag.ls v2 ((r.Things++([(⟨r.af,kind,⟨#[]⟩⟩:ah)])):List ah),ag.ls aF (r.ai:List aj),ag.ls az (r.Things:List ah),ag.ls aC (r.Held:List Held),ag.ls aB (r.Notes:List Note)]) (fun _ hw=>hw.di 1 _ rfl rfl) (s.bJ (B0:=[]) (Br:=[ag.row 62 (.slice (some ⟨b5,0,none⟩) 1 1) ([(⟨r.af,kind,⟨#[]⟩⟩:ah)]:List ah),ag.box b3 aJ 32,ag.box b2 (aE p) 39,ag.box b1 [aF,v2,aC,aB,iV r.ae,iV (r.af+1)] 32,ag.held w own]) (F0:=[ag.ls aF (r.ai:List aj),ag.ls v2 ((r.Things++([(⟨r.af,kind,⟨#[]⟩⟩:ah)])):List ah),ag.ls aC (r.Held:List Held),ag.ls aB (r.Notes:List Note)]) [0,1,2,3,4] [1,0,3,4] (fun g_:Value×Value×Value×Value => .agg #[g_.1,g_.2.1,g_.2.2.1,g_.2.2.2,iV (((aW (⟨r.ai,(r.Things++([(⟨r.af,kind,⟨#[]⟩⟩:ah)])),r.Held,r.Notes,r.ae,(r.af+1)⟩:ap) (⟨r.ae,r.af,7,0,0⟩:aj) p)).ae),iV (((aW (⟨r.ai,(r.Things++([(⟨r.af,kind,⟨#[]⟩⟩:ah)])),r.Held,r.Notes,r.ae,(r.af+1)⟩:ap) (⟨r.ae,r.af,7,0,0⟩:aj) p)).af)]) (fun g_:Value×Value×Value×Value=>[]) (fun g_:Value×Value×Value×Value=>[ag.ls g_.1 (((aW (⟨r.ai,(r.Things++([(⟨r.af,kind,⟨#[]⟩⟩:ah)])),r.Held,r.Notes,r.ae,(r.af+1)⟩:ap) (⟨r.ae,r.af,7,0,0⟩:aj) p)).ai:List aj),ag.ls g_.2.1 (((aW (⟨r.ai,(r.Things++([(⟨r.af,kind,⟨#[]⟩⟩:ah)])),r.Held,r.Notes,r.ae,(r.af+1)⟩:ap) (⟨r.ae,r.af,7,0,0⟩:aj) p)).Things:List ah),ag.ls g_.2.2.1 (((aW (⟨r.ai,(r.Things++([(⟨r.af,kind,⟨#[]⟩⟩:ah)])),r.Held,r.Notes,r.ae,(r.af+1)⟩:ap) (⟨r.ae,r.af,7,0,0⟩:aj) p)).Held:List Held),ag.ls g_.2.2.2 (((aW (⟨r.ai,(r.Things++([(⟨r.af,kind,⟨#[]⟩⟩:ah)])),r.Held,r.Notes,r.ae,(r.af+1)⟩:ap) (⟨r.ae,r.af,7,0,0⟩:aj) p)).Notes:List Note)]) rfl rfl rfl qV rfl rfl (fun w own hw H=>ko aF v2 aC aB ((⟨r.ai,(r.Things++([(⟨r.af,kind,⟨#[]⟩⟩:ah)])),r.Held,r.Notes,r.ae,(r.af+1)⟩:ap)) ((⟨r.ae,r.af,7,0,0⟩:aj)) (p) w own H (by first|omega|(dsimp only;omega))) rfl)) ?_
       rintro ⟨z7,z8,z9,nf⟩
       dsimp only
       refine R.s rfl (s.e8 (us:=[z7,z8,z9,nf,iV ((aW (⟨r.ai,(r.Things++([(⟨r.af,kind,⟨#[]⟩⟩:ah)])),r.Held,r.Notes,r.ae,(r.af+1)⟩:ap) (⟨r.ae,r.af,7,0,0⟩:aj) p).ae),iV ((aW (⟨r.ai,(r.Things++([(⟨r.af,kind,⟨#[]⟩⟩:ah)])),r.Held,r.Notes,r.ae,(r.af+1)⟩:ap) (⟨r.ae,r.af,7,0,0⟩:aj) p).af)]) (cs':=[z7,z8,z9,nf,iV ((aW (⟨r.ai,(r.Things++([(⟨r.af,kind,⟨#[]⟩⟩:ah)])),r.Held,r.Notes,r.ae,(r.af+1)⟩:ap) (⟨r.ae,r.af,7,0,0⟩:aj) p).ae),iV ((aW (⟨r.ai,(r.Things++([(⟨r.af,kind,⟨#[]⟩⟩:ah)])),r.Held,r.Notes,r.ae,(r.af+1)⟩:ap) (⟨r.ae,r.af,7,0,0⟩:aj) p).af)]) 1 _ rfl rfl rfl (fun _ _=>rfl) (.inl ar) (fun w hw=>(ak (Sl.one (hw.aT 0 rfl)) (ak (Sl.one (hw.aT 1 rfl)) (ak (Sl.one (hw.aT 2 rfl)) (ak (Sl.one (hw.aT 3 rfl)) (ak rfl (ak rfl aS))))))) rfl rfl rfl) fun _=>R.u 1 rfl<|R.nil ?_
       have hz:bC r p kind=((aW (⟨r.ai,(r.Things++([(⟨r.af,kind,⟨#[]⟩⟩:ah)])),r.Held,r.Notes,r.ae,(r.af+1)⟩:ap) (⟨r.ae,r.af,7,0,0⟩:aj) p),0):=by (unfold bC;(repeat' split) <;> first|rfl|(exfalso;omega)|(simp_all;done))
       rw [hz]
       exact R.w2 (z7,z8,z9,nf) [4] [0,1,2,3] rfl Tryz.results30 (RV.cell 1 rfl rfl ar) (RV.tmp rfl) rfl rfl rfl (cL rfl (gO rfl))
   ·
    refine R.q (q.fw rfl rfl Tryz.underlying35 (by omega)) rfl<|R.nil ?_
    refine R.aD rfl rfl ?_
    refine R.reg rfl<|R.q (q.build (cs:=aJ) cY rfl rfl) rfl<|R.u 1 rfl<|R.s rfl (s.st (us:=aJ) (cs':=aJ) 0 _ rfl rfl rfl rfl (.inl ar) rfl rfl rfl rfl) fun _=>R.u 1 rfl<|R.nil ?_
    refine R.mp (fun _ hw=>hw.bg (α:=aj)) ?_
    refine R.mp (fun _ hw=>hw.bg (α:=ah)) ?_
    refine R.mp (fun _ hw=>hw.bg (α:=Held)) ?_
    refine R.mp (fun _ hw=>hw.bg (α:=Note)) ?_
    have hz:bC r p kind=((⟨[],[],[],[],0,0⟩:ap),eX r p):=by (unfold bC;(repeat' split) <;> first|rfl|(exfalso;omega)|(simp_all;done))
    rw [hz]
    exact R.w2 ((nS),(nS),(nS),(nS)) [3] [3,2,1,0] rfl Tryz.results30 (RV.cell 0 rfl rfl ar) (RV.tmp rfl) rfl rfl rfl (cL rfl rfl)
  ·
   refine R.qg rfl (q.neq rfl rfl (bne_iff_ne.2 (by omega))) rfl<|R.u 1 rfl<|R.nil ?_
   refine R.aD rfl rfl ?_
   refine R.reg rfl<|R.q (q.build (cs:=aJ) cY rfl rfl) rfl<|R.q (q.iface rfl bI) rfl<|R.s rfl (s.st (us:=aJ) (cs':=aJ) 0 _ rfl rfl rfl rfl (.inl ar) rfl rfl rfl rfl) fun _=>R.u 1 rfl<|R.nil ?_
   refine R.mp (fun _ hw=>hw.bg (α:=aj)) ?_
   refine R.mp (fun _ hw=>hw.bg (α:=ah)) ?_
   refine R.mp (fun _ hw=>hw.bg (α:=Held)) ?_
   refine R.mp (fun _ hw=>hw.bg (α:=Note)) ?_
   have hz:bC r p kind=((⟨[],[],[],[],0,0⟩:ap),8):=by (unfold bC;(repeat' split) <;> first|rfl|(exfalso;omega)|(simp_all;done))
   rw [hz]
   exact R.w2 ((nS),(nS),(nS),(nS)) [3] [3,2,1,0] rfl Tryz.results30 (RV.cell 0 rfl rfl ar) (RV.tmp rfl) rfl rfl rfl (cL rfl (dP (by decide) rfl))
theorem uV (aF az aC aB:Value)(r:ap)(p:Place)(t:Place)(rights:Int)(bB:Int)(w:World)(own:List Nat)(H:Wd w (blks []++own) ([]++[ag.held w own]) [ag.ls aF (r.ai:List aj),ag.ls az (r.Things:List ah),ag.ls aC (r.Held:List Held),ag.ls aB (r.Notes:List Note)] w)(hk:Ok r):Calls Tryz.prog 31 #[.agg #[aF,az,aC,aB,iV r.ae,iV r.af],.agg #[iV p.ao,iV p.Slot],.agg #[iV t.ao,iV t.Slot],iV rights,iV bB] w fun e w' => ∃z:Value×Value×Value×Value,e = .returned (.tuple #[.agg #[z.1,z.2.1,z.2.2.1,z.2.2.2,iV ((((cr r p t rights bB)).1).ae),iV ((((cr r p t rights bB)).1).af)],e6 (((cr r p t rights bB)).2)])∧Wd w (blks []++own) ([]++[ag.held w own]) [ag.ls z.1 ((((cr r p t rights bB)).1).ai:List aj),ag.ls z.2.1 ((((cr r p t rights bB)).1).Things:List ah),ag.ls z.2.2.1 ((((cr r p t rights bB)).1).Held:List Held),ag.ls z.2.2.2 ((((cr r p t rights bB)).1).Notes:List Note)] w':=by
 have dR:=H.cX 0 rfl
 have dq:=H.cX 1 rfl
 have eK:=H.cX 2 rfl
 have dS:=H.cX 3 rfl
 have bw:=hk.wl;have bt:=hk.tl;have bh:=hk.hl;have bn:=hk.nl;have xF:=hk.w0;have xG:=hk.w1;have xH:=hk.t0;have xI:=hk.t1
 refine R.dc (n:=67) (vs:=[.agg #[aF,az,aC,aB,iV r.ae,iV r.af],.agg #[iV p.ao,iV p.Slot],.agg #[iV t.ao,iV t.Slot],iV rights,iV bB]) (B:=[ag.held w own]) [(0,.agg #[aF,az,aC,aB,iV r.ae,iV r.af]),(1,.agg #[iV p.ao,iV p.Slot]),(2,.agg #[iV t.ao,iV t.Slot]),(3,iV rights),(4,iV bB)] Tryz.func31 rfl rfl rfl rfl H ?_
 refine R.reg rfl<|R.s rfl (s.box (cs:=[aF,az,aC,aB,iV r.ae,iV r.af]) rfl rfl rfl) fun b1=>R.s rfl (s.box (cs:=aE p) rfl rfl rfl) fun b2=>R.s rfl (s.box (cs:=aE t) rfl rfl rfl) fun b3=>R.s rfl (s.alloc (cs:=aJ) cD rfl rfl) fun b4=>R.u 1 rfl<|R.nil ?_
 refine R.reg rfl<|R.q (q.cT 3 rfl rfl ar) rfl<|R.q (q.cT 2 rfl rfl br) rfl<|R.c (q.call oq rfl rfl (fun w hw=>(jH _ _ _ _ (r) (p) w (hw.aT 0 rfl) (hw.aT 1 rfl) (hw.aT 2 rfl) (hw.aT 3 rfl) ‹_›))) rfl<|R.u 3 rfl<|R.s rfl (s.alloc (cs:=dw) bE rfl rfl) fun b5=>R.s rfl (s.st (us:=aA ((au r p).1)) (cs':=aA ((au r p).1)) 0 _ rfl rfl rfl rfl (.inl aQ) rfl rfl rfl rfl) fun _=>R.u 1 rfl<|R.nil ?_
 refine R.reg rfl<|R.u 1 rfl<|?_
 by_cases h1:(au r p).2=0
 ·
  have Es:=hk.get h1
  refine R.q (q.fr rfl rfl Tryz.underlying35 (by omega)) rfl<|R.nil ?_
  refine R.aI rfl rfl ?_
  refine R.reg rfl<|R.q (q.cT 4 rfl rfl ar) rfl<|R.q (q.cT 2 rfl rfl br) rfl<|R.c (q.call tN rfl rfl (fun w hw=>(kG _ _ _ _ (r) (t) w (hw.aT 0 rfl) (hw.aT 1 rfl) (hw.aT 2 rfl) (hw.aT 3 rfl) ‹_›))) rfl<|R.u 1 rfl<|R.nil ?_
  refine R.reg rfl<|R.u 1 rfl<|?_
  by_cases h2:eX r t=0
  ·
   refine R.q (q.fr rfl rfl Tryz.underlying35 (by omega)) rfl<|R.nil ?_
   refine R.aI rfl rfl ?_
   refine R.reg rfl<|R.q (q.a8 (off':=0) rfl bG rfl) rfl<|R.q (q.ld 3 rfl rfl av rfl) rfl<|R.q (q.a8 (off':=0) rfl bG rfl) rfl<|R.q (q.ld 2 rfl rfl av rfl) rfl<|?_
   by_cases h3:p.ao=t.ao
   ·
    refine R.q (q.neq rfl rfl (bne_eq_false_iff_eq.2 (by omega))) rfl<|R.u 6 rfl<|R.nil ?_
    refine R.aI rfl rfl ?_
    refine R.reg rfl<|R.q (q.a8 (off':=4) rfl bW rfl) rfl<|R.q (q.ld 4 rfl rfl av rfl) rfl<|?_
    by_cases h4:999<r.ae
    ·
     refine R.q (q.gtr rfl rfl (decide_eq_true (by omega))) rfl<|R.nil ?_
     refine R.aD rfl rfl ?_
     refine R.reg rfl<|R.q (q.build (cs:=aJ) cY rfl rfl) rfl<|R.q (q.iface rfl bI) rfl<|R.s rfl (s.st (us:=aJ) (cs':=aJ) 1 _ rfl rfl rfl rfl (.inl ar) rfl rfl rfl rfl) fun _=>R.u 1 rfl<|R.nil ?_
     refine R.mp (fun _ hw=>hw.bg (α:=aj)) ?_
     refine R.mp (fun _ hw=>hw.bg (α:=ah)) ?_
     refine R.mp (fun _ hw=>hw.bg (α:=Held)) ?_
     refine R.mp (fun _ hw=>hw.bg (α:=Note)) ?_
     have hz:cr r p t rights bB=((⟨[],[],[],[],0,0⟩:ap),9):=by (unfold cr;(repeat' split) <;> first|rfl|(exfalso;omega)|(simp_all;done))
     rw [hz]
     exact R.w2 ((nS),(nS),(nS),(nS)) [5] [3,2,1,0] rfl Tryz.results31 (RV.cell 1 rfl rfl ar) (RV.tmp rfl) rfl rfl rfl (cL rfl (dP (by decide) rfl))
    ·
     refine R.q (q.gtr rfl rfl (decide_eq_false (by omega))) rfl<|R.nil ?_
     refine R.aI rfl rfl ?_
     refine R.reg rfl<|R.q (q.cT 0 rfl rfl aQ) rfl<|R.q (q.a8 (off':=4) rfl bW rfl) rfl<|R.q (q.ld 4 rfl rfl av rfl) rfl<|R.u 2 rfl<|R.c (q.call qU rfl rfl (fun w hw=>(ic (((au r p).1)) (r.ae) (rights) (bB) w  (by omega)))) rfl<|R.u 3 rfl<|R.s rfl (s.alloc (cs:=dw) bE rfl rfl) fun b6=>R.s rfl (s.st (us:=aA ((derived ((au r p).1) r.ae rights bB).1)) (cs':=aA ((derived ((au r p).1) r.ae rights bB).1)) 0 _ rfl rfl rfl rfl (.inl aQ) rfl rfl rfl rfl) fun _=>R.u 1 rfl<|R.nil ?_
     refine R.reg rfl<|R.u 1 rfl<|?_
     by_cases h5:(derived ((au r p).1) r.ae rights bB).2=0
     ·
      refine R.q (q.fr rfl rfl Tryz.underlying35 (by omega)) rfl<|R.nil ?_
      refine R.aI rfl rfl ?_
      refine R.reg rfl<|R.q (q.cT 5 rfl rfl ar) rfl<|R.q (q.cT 0 rfl rfl aQ) rfl<|R.q (q.cT 3 rfl rfl br) rfl<|R.s (B':=(fun g_:Value×Value×Value×Value=>[ag.box b6 (aA ((derived ((au r p).1) r.ae rights bB).1)) 88,ag.box b5 (aA ((au r p).1)) 88,ag.box b4 aJ 32,ag.box b3 (aE t) 39,ag.box b2 (aE p) 39,ag.box b1 [aF,az,aC,aB,iV r.ae,iV r.af] 32,ag.held w own])) (F':=(fun g_:Value×Value×Value×Value=>[ag.ls g_.1 (((aW r ((derived ((au r p).1) r.ae rights bB).1) t)).ai:List aj),ag.ls g_.2.1 (((aW r ((derived ((au r p).1) r.ae rights bB).1) t)).Things:List ah),ag.ls g_.2.2.1 (((aW r ((derived ((au r p).1) r.ae rights bB).1) t)).Held:List Held),ag.ls g_.2.2.2 (((aW r ((derived ((au r p).1) r.ae rights bB).1) t)).Notes:List Note),ag.ls aF (r.ai:List aj),ag.ls az (r.Things:List ah),ag.ls aC (r.Held:List Held),ag.ls aB (r.Notes:List Note)])) rfl (s.bJ (B0:=[]) (Br:=[ag.box b6 (aA ((derived ((au r p).1) r.ae rights bB).1)) 88,ag.box b5 (aA ((au r p).1)) 88,ag.box b4 aJ 32,ag.box b3 (aE t) 39,ag.box b2 (aE p) 39,ag.box b1 [aF,az,aC,aB,iV r.ae,iV r.af] 32,ag.held w own]) (F0:=[ag.ls aF (r.ai:List aj),ag.ls az (r.Things:List ah),ag.ls aC (r.Held:List Held),ag.ls aB (r.Notes:List Note)]) [0,1,2,3,4,5,6] [0,1,2,3] (fun g_:Value×Value×Value×Value => .agg #[g_.1,g_.2.1,g_.2.2.1,g_.2.2.2,iV (((aW r ((derived ((au r p).1) r.ae rights bB).1) t)).ae),iV (((aW r ((derived ((au r p).1) r.ae rights bB).1) t)).af)]) (fun g_:Value×Value×Value×Value=>[]) (fun g_:Value×Value×Value×Value=>[ag.ls g_.1 (((aW r ((derived ((au r p).1) r.ae rights bB).1) t)).ai:List aj),ag.ls g_.2.1 (((aW r ((derived ((au r p).1) r.ae rights bB).1) t)).Things:List ah),ag.ls g_.2.2.1 (((aW r ((derived ((au r p).1) r.ae rights bB).1) t)).Held:List Held),ag.ls g_.2.2.2 (((aW r ((derived ((au r p).1) r.ae rights bB).1) t)).Notes:List Note)]) rfl rfl rfl qV rfl rfl (fun w own hw H=>ko aF az aC aB (r) (((derived ((au r p).1) r.ae rights bB).1)) (t) w own H (by first|omega|(dsimp only;omega))) rfl) ?_
      rintro ⟨z1,z2,z3,z4⟩
      dsimp only
      refine R.s rfl (s.e8 (us:=[z1,z2,z3,z4,iV ((aW r ((derived ((au r p).1) r.ae rights bB).1) t).ae),iV ((aW r ((derived ((au r p).1) r.ae rights bB).1) t).af)]) (cs':=[z1,z2,z3,z4,iV ((aW r ((derived ((au r p).1) r.ae rights bB).1) t).ae),iV ((aW r ((derived ((au r p).1) r.ae rights bB).1) t).af)]) 2 _ rfl rfl rfl (fun _ _=>rfl) (.inl ar) (fun w hw=>(ak (Sl.one (hw.aT 0 rfl)) (ak (Sl.one (hw.aT 1 rfl)) (ak (Sl.one (hw.aT 2 rfl)) (ak (Sl.one (hw.aT 3 rfl)) (ak rfl (ak rfl aS))))))) rfl rfl rfl) fun _=>R.u 1 rfl<|R.nil ?_
      have hz:cr r p t rights bB=((aW r ((derived ((au r p).1) r.ae rights bB).1) t),0):=by (unfold cr;(repeat' split) <;> first|rfl|(exfalso;omega)|(simp_all;done))
      rw [hz]
      exact R.w2 (z1,z2,z3,z4) [6] [0,1,2,3] rfl Tryz.results31 (RV.cell 2 rfl rfl ar) (RV.tmp rfl) rfl rfl rfl (cL rfl (gO rfl))
     ·
      refine R.q (q.fw rfl rfl Tryz.underlying35 (by omega)) rfl<|R.nil ?_
      refine R.aD rfl rfl ?_
      refine R.reg rfl<|R.q (q.build (cs:=aJ) cY rfl rfl) rfl<|R.u 1 rfl<|R.s rfl (s.st (us:=aJ) (cs':=aJ) 2 _ rfl rfl rfl rfl (.inl ar) rfl rfl rfl rfl) fun _=>R.u 1 rfl<|R.nil ?_
      refine R.mp (fun _ hw=>hw.bg (α:=aj)) ?_
      refine R.mp (fun _ hw=>hw.bg (α:=ah)) ?_
      refine R.mp (fun _ hw=>hw.bg (α:=Held)) ?_
      refine R.mp (fun _ hw=>hw.bg (α:=Note)) ?_
      have hz:cr r p t rights bB=((⟨[],[],[],[],0,0⟩:ap),(derived ((au r p).1) r.ae rights bB).2):=by (unfold cr;(repeat' split) <;> first|rfl|(exfalso;omega)|(simp_all;done))
      rw [hz]
      exact R.w2 ((nS),(nS),(nS),(nS)) [6] [3,2,1,0] rfl Tryz.results31 (RV.cell 2 rfl rfl ar) (RV.tmp rfl) rfl rfl rfl (cL rfl rfl)
   ·
    refine R.q (q.neq rfl rfl (bne_iff_ne.2 (by omega))) rfl<|R.u 1 rfl<|R.qg rfl (q.a8 (off':=2) rfl f6 rfl) rfl<|R.qg rfl (q.ld 0 rfl rfl av rfl) rfl<|?_
    rcases Bool.eq_false_or_eq_true (fB (((au r p).1).Rights) 4) with h6|h6
    ·
     refine R.cg rfl (q.call mX rfl rfl (fun w hw=>(cv (congrArg Value.bool h6) (eI (((au r p).1).Rights) (4) w  (by omega) (by omega))))) rfl<|R.u 2 rfl<|R.nil ?_
     refine R.aI rfl rfl ?_
     refine R.reg rfl<|R.q (q.a8 (off':=4) rfl bW rfl) rfl<|R.q (q.ld 4 rfl rfl av rfl) rfl<|?_
     by_cases h7:999<r.ae
     ·
      refine R.q (q.gtr rfl rfl (decide_eq_true (by omega))) rfl<|R.nil ?_
      refine R.aD rfl rfl ?_
      refine R.reg rfl<|R.q (q.build (cs:=aJ) cY rfl rfl) rfl<|R.q (q.iface rfl bI) rfl<|R.s rfl (s.st (us:=aJ) (cs':=aJ) 1 _ rfl rfl rfl rfl (.inl ar) rfl rfl rfl rfl) fun _=>R.u 1 rfl<|R.nil ?_
      refine R.mp (fun _ hw=>hw.bg (α:=aj)) ?_
      refine R.mp (fun _ hw=>hw.bg (α:=ah)) ?_
      refine R.mp (fun _ hw=>hw.bg (α:=Held)) ?_
      refine R.mp (fun _ hw=>hw.bg (α:=Note)) ?_
      have hz:cr r p t rights bB=((⟨[],[],[],[],0,0⟩:ap),9):=by (unfold cr;(repeat' split) <;> first|rfl|(exfalso;omega)|(simp_all;done))
      rw [hz]
      exact R.w2 ((nS),(nS),(nS),(nS)) [5] [3,2,1,0] rfl Tryz.results31 (RV.cell 1 rfl rfl ar) (RV.tmp rfl) rfl rfl rfl (cL rfl (dP (by decide) rfl))
     ·
      refine R.q (q.gtr rfl rfl (decide_eq_false (by omega))) rfl<|R.nil ?_
      refine R.aI rfl rfl ?_
      refine R.reg rfl<|R.q (q.cT 0 rfl rfl aQ) rfl<|R.q (q.a8 (off':=4) rfl bW rfl) rfl<|R.q (q.ld 4 rfl rfl av rfl) rfl<|R.u 2 rfl<|R.c (q.call qU rfl rfl (fun w hw=>(ic (((au r p).1)) (r.ae) (rights) (bB) w  (by omega)))) rfl<|R.u 3 rfl<|R.s rfl (s.alloc (cs:=dw) bE rfl rfl) fun b7=>R.s rfl (s.st (us:=aA ((derived ((au r p).1) r.ae rights bB).1)) (cs':=aA ((derived ((au r p).1) r.ae rights bB).1)) 0 _ rfl rfl rfl rfl (.inl aQ) rfl rfl rfl rfl) fun _=>R.u 1 rfl<|R.nil ?_
      refine R.reg rfl<|R.u 1 rfl<|?_
      by_cases h8:(derived ((au r p).1) r.ae rights bB).2=0
      ·
       refine R.q (q.fr rfl rfl Tryz.underlying35 (by omega)) rfl<|R.nil ?_
       refine R.aI rfl rfl ?_
       refine R.reg rfl<|R.q (q.cT 5 rfl rfl ar) rfl<|R.q (q.cT 0 rfl rfl aQ) rfl<|R.q (q.cT 3 rfl rfl br) rfl<|R.s (B':=(fun g_:Value×Value×Value×Value=>[ag.box b7 (aA ((derived ((au r p).1) r.ae rights bB).1)) 88,ag.box b5 (aA ((au r p).1)) 88,ag.box b4 aJ 32,ag.box b3 (aE t) 39,ag.box b2 (aE p) 39,ag.box b1 [aF,az,aC,aB,iV r.ae,iV r.af] 32,ag.held w own])) (F':=(fun g_:Value×Value×Value×Value=>[ag.ls g_.1 (((aW r ((derived ((au r p).1) r.ae rights bB).1) t)).ai:List aj),ag.ls g_.2.1 (((aW r ((derived ((au r p).1) r.ae rights bB).1) t)).Things:List ah),ag.ls g_.2.2.1 (((aW r ((derived ((au r p).1) r.ae rights bB).1) t)).Held:List Held),ag.ls g_.2.2.2 (((aW r ((derived ((au r p).1) r.ae rights bB).1) t)).Notes:List Note),ag.ls aF (r.ai:List aj),ag.ls az (r.Things:List ah),ag.ls aC (r.Held:List Held),ag.ls aB (r.Notes:List Note)])) rfl (s.bJ (B0:=[]) (Br:=[ag.box b7 (aA ((derived ((au r p).1) r.ae rights bB).1)) 88,ag.box b5 (aA ((au r p).1)) 88,ag.box b4 aJ 32,ag.box b3 (aE t) 39,ag.box b2 (aE p) 39,ag.box b1 [aF,az,aC,aB,iV r.ae,iV r.af] 32,ag.held w own]) (F0:=[ag.ls aF (r.ai:List aj),ag.ls az (r.Things:List ah),ag.ls aC (r.Held:List Held),ag.ls aB (r.Notes:List Note)]) [0,1,2,3,4,5,6] [0,1,2,3] (fun g_:Value×Value×Value×Value => .agg #[g_.1,g_.2.1,g_.2.2.1,g_.2.2.2,iV (((aW r ((derived ((au r p).1) r.ae rights bB).1) t)).ae),iV (((aW r ((derived ((au r p).1) r.ae rights bB).1) t)).af)]) (fun g_:Value×Value×Value×Value=>[]) (fun g_:Value×Value×Value×Value=>[ag.ls g_.1 (((aW r ((derived ((au r p).1) r.ae rights bB).1) t)).ai:List aj),ag.ls g_.2.1 (((aW r ((derived ((au r p).1) r.ae rights bB).1) t)).Things:List ah),ag.ls g_.2.2.1 (((aW r ((derived ((au r p).1) r.ae rights bB).1) t)).Held:List Held),ag.ls g_.2.2.2 (((aW r ((derived ((au r p).1) r.ae rights bB).1) t)).Notes:List Note)]) rfl rfl rfl qV rfl rfl (fun w own hw H=>ko aF az aC aB (r) (((derived ((au r p).1) r.ae rights bB).1)) (t) w own H (by first|omega|(dsimp only;omega))) rfl) ?_
       rintro ⟨z5,z6,z7,z8⟩
       dsimp only
       refine R.s rfl (s.e8 (us:=[z5,z6,z7,z8,iV ((aW r ((derived ((au r p).1) r.ae rights bB).1) t).ae),iV ((aW r ((derived ((au r p).1) r.ae rights bB).1) t).af)]) (cs':=[z5,z6,z7,z8,iV ((aW r ((derived ((au r p).1) r.ae rights bB).1) t).ae),iV ((aW r ((derived ((au r p).1) r.ae rights bB).1) t).af)]) 2 _ rfl rfl rfl (fun _ _=>rfl) (.inl ar) (fun w hw=>(ak (Sl.one (hw.aT 0 rfl)) (ak (Sl.one (hw.aT 1 rfl)) (ak (Sl.one (hw.aT 2 rfl)) (ak (Sl.one (hw.aT 3 rfl)) (ak rfl (ak rfl aS))))))) rfl rfl rfl) fun _=>R.u 1 rfl<|R.nil ?_
       have hz:cr r p t rights bB=((aW r ((derived ((au r p).1) r.ae rights bB).1) t),0):=by (unfold cr;(repeat' split) <;> first|rfl|(exfalso;omega)|(simp_all;done))
       rw [hz]
       exact R.w2 (z5,z6,z7,z8) [6] [0,1,2,3] rfl Tryz.results31 (RV.cell 2 rfl rfl ar) (RV.tmp rfl) rfl rfl rfl (cL rfl (gO rfl))
      ·
       refine R.q (q.fw rfl rfl Tryz.underlying35 (by omega)) rfl<|R.nil ?_
       refine R.aD rfl rfl ?_
       refine R.reg rfl<|R.q (q.build (cs:=aJ) cY rfl rfl) rfl<|R.u 1 rfl<|R.s rfl (s.st (us:=aJ) (cs':=aJ) 2 _ rfl rfl rfl rfl (.inl ar) rfl rfl rfl rfl) fun _=>R.u 1 rfl<|R.nil ?_
       refine R.mp (fun _ hw=>hw.bg (α:=aj)) ?_
       refine R.mp (fun _ hw=>hw.bg (α:=ah)) ?_
       refine R.mp (fun _ hw=>hw.bg (α:=Held)) ?_
       refine R.mp (fun _ hw=>hw.bg (α:=Note)) ?_
       have hz:cr r p t rights bB=((⟨[],[],[],[],0,0⟩:ap),(derived ((au r p).1) r.ae rights bB).2):=by (unfold cr;(repeat' split) <;> first|rfl|(exfalso;omega)|(simp_all;done))
       rw [hz]
       exact R.w2 ((nS),(nS),(nS),(nS)) [6] [3,2,1,0] rfl Tryz.results31 (RV.cell 2 rfl rfl ar) (RV.tmp rfl) rfl rfl rfl (cL rfl rfl)
    ·
     refine R.cg rfl (q.call mX rfl rfl (fun w hw=>(cv (congrArg Value.bool h6) (eI (((au r p).1).Rights) (4) w  (by omega) (by omega))))) rfl<|R.u 2 rfl<|R.nil ?_
     refine R.aD rfl rfl ?_
     refine R.reg rfl<|R.q (q.build (cs:=aJ) cY rfl rfl) rfl<|R.q (q.iface rfl bI) rfl<|R.s rfl (s.st (us:=aJ) (cs':=aJ) 1 _ rfl rfl rfl rfl (.inl ar) rfl rfl rfl rfl) fun _=>R.u 1 rfl<|R.nil ?_
     refine R.mp (fun _ hw=>hw.bg (α:=aj)) ?_
     refine R.mp (fun _ hw=>hw.bg (α:=ah)) ?_
     refine R.mp (fun _ hw=>hw.bg (α:=Held)) ?_
     refine R.mp (fun _ hw=>hw.bg (α:=Note)) ?_
     have hz:cr r p t rights bB=((⟨[],[],[],[],0,0⟩:ap),7):=by (unfold cr;(repeat' split) <;> first|rfl|(exfalso;omega)|(simp_all;done))
     rw [hz]
     exact R.w2 ((nS),(nS),(nS),(nS)) [5] [3,2,1,0] rfl Tryz.results31 (RV.cell 1 rfl rfl ar) (RV.tmp rfl) rfl rfl rfl (cL rfl (dP (by decide) rfl))
  ·
   refine R.q (q.fw rfl rfl Tryz.underlying35 (by omega)) rfl<|R.nil ?_
   refine R.aD rfl rfl ?_
   refine R.reg rfl<|R.q (q.build (cs:=aJ) cY rfl rfl) rfl<|R.u 1 rfl<|R.s rfl (s.st (us:=aJ) (cs':=aJ) 1 _ rfl rfl rfl rfl (.inl ar) rfl rfl rfl rfl) fun _=>R.u 1 rfl<|R.nil ?_
   refine R.mp (fun _ hw=>hw.bg (α:=aj)) ?_
   refine R.mp (fun _ hw=>hw.bg (α:=ah)) ?_
   refine R.mp (fun _ hw=>hw.bg (α:=Held)) ?_
   refine R.mp (fun _ hw=>hw.bg (α:=Note)) ?_
   have hz:cr r p t rights bB=((⟨[],[],[],[],0,0⟩:ap),eX r t):=by (unfold cr;(repeat' split) <;> first|rfl|(exfalso;omega)|(simp_all;done))
   rw [hz]
   exact R.w2 ((nS),(nS),(nS),(nS)) [5] [3,2,1,0] rfl Tryz.results31 (RV.cell 1 rfl rfl ar) (RV.tmp rfl) rfl rfl rfl (cL rfl rfl)
 ·
  refine R.q (q.fw rfl rfl Tryz.underlying35 (by omega)) rfl<|R.nil ?_
  refine R.aD rfl rfl ?_
  refine R.reg rfl<|R.q (q.build (cs:=aJ) cY rfl rfl) rfl<|R.u 1 rfl<|R.s rfl (s.st (us:=aJ) (cs':=aJ) 1 _ rfl rfl rfl rfl (.inl ar) rfl rfl rfl rfl) fun _=>R.u 1 rfl<|R.nil ?_
  refine R.mp (fun _ hw=>hw.bg (α:=aj)) ?_
  refine R.mp (fun _ hw=>hw.bg (α:=ah)) ?_
  refine R.mp (fun _ hw=>hw.bg (α:=Held)) ?_
  refine R.mp (fun _ hw=>hw.bg (α:=Note)) ?_
  have hz:cr r p t rights bB=((⟨[],[],[],[],0,0⟩:ap),(au r p).2):=by (unfold cr;(repeat' split) <;> first|rfl|(exfalso;omega)|(simp_all;done))
  rw [hz]
  exact R.w2 ((nS),(nS),(nS),(nS)) [5] [3,2,1,0] rfl Tryz.results31 (RV.cell 1 rfl rfl ar) (RV.tmp rfl) rfl rfl rfl (cL rfl rfl)
theorem uW (aF az aC aB:Value)(r:ap)(p:Place)(slot:Int)(w:World)(own:List Nat)(H:Wd w (blks []++own) ([]++[ag.held w own]) [ag.ls aF (r.ai:List aj),ag.ls az (r.Things:List ah),ag.ls aC (r.Held:List Held),ag.ls aB (r.Notes:List Note)] w)(hk:Ok r):Calls Tryz.prog 32 #[.agg #[aF,az,aC,aB,iV r.ae,iV r.af],.agg #[iV p.ao,iV p.Slot],iV slot] w fun e w' => ∃z:Value×Value×Value×Value,e = .returned (.tuple #[.agg #[z.1,z.2.1,z.2.2.1,z.2.2.2,iV ((((dx r p slot)).1).ae),iV ((((dx r p slot)).1).af)],e6 (((dx r p slot)).2)])∧Wd w (blks []++own) ([]++[ag.held w own]) [ag.ls z.1 ((((dx r p slot)).1).ai:List aj),ag.ls z.2.1 ((((dx r p slot)).1).Things:List ah),ag.ls z.2.2.1 ((((dx r p slot)).1).Held:List Held),ag.ls z.2.2.2 ((((dx r p slot)).1).Notes:List Note)] w':=by
 have dR:=H.cX 0 rfl
 have dq:=H.cX 1 rfl
 have eK:=H.cX 2 rfl
 have dS:=H.cX 3 rfl
 have bw:=hk.wl;have bt:=hk.tl;have bh:=hk.hl;have bn:=hk.nl;have xF:=hk.w0;have xG:=hk.w1;have xH:=hk.t0;have xI:=hk.t1
 have bp:=i7 r.Held p 0
 refine R.dc (n:=42) (vs:=[.agg #[aF,az,aC,aB,iV r.ae,iV r.af],.agg #[iV p.ao,iV p.Slot],iV slot]) (B:=[ag.held w own]) [(0,.agg #[aF,az,aC,aB,iV r.ae,iV r.af]),(1,.agg #[iV p.ao,iV p.Slot]),(2,iV slot)] Tryz.func32 rfl rfl rfl rfl H ?_
 refine R.reg rfl<|R.s rfl (s.box (cs:=[aF,az,aC,aB,iV r.ae,iV r.af]) rfl rfl rfl) fun b1=>R.s rfl (s.box (cs:=aE p) rfl rfl rfl) fun b2=>R.s rfl (s.alloc (cs:=aJ) cD rfl rfl) fun b3=>R.u 1 rfl<|R.nil ?_
 refine R.reg rfl<|R.q (q.cT 2 rfl rfl ar) rfl<|R.q (q.cT 1 rfl rfl br) rfl<|R.c (q.call oq rfl rfl (fun w hw=>(jH _ _ _ _ (r) (p) w (hw.aT 0 rfl) (hw.aT 1 rfl) (hw.aT 2 rfl) (hw.aT 3 rfl) ‹_›))) rfl<|R.u 3 rfl<|R.s rfl (s.alloc (cs:=dw) bE rfl rfl) fun b4=>R.s rfl (s.st (us:=aA ((au r p).1)) (cs':=aA ((au r p).1)) 0 _ rfl rfl rfl rfl (.inl aQ) rfl rfl rfl rfl) fun _=>R.u 1 rfl<|R.nil ?_
 refine R.reg rfl<|R.u 1 rfl<|?_
 by_cases h1:(au r p).2=0
 ·
  refine R.q (q.fr rfl rfl Tryz.underlying35 (by omega)) rfl<|R.nil ?_
  refine R.aI rfl rfl ?_
  refine R.reg rfl<|R.q (q.a8 (off':=0) rfl bG rfl) rfl<|R.q (q.ld 2 rfl rfl av rfl) rfl<|R.u 1 rfl<|R.q (q.build (cs:=[iV p.ao,iV slot]) mW rfl rfl) rfl<|R.s rfl (s.alloc (cs:=[iV 0,iV 0]) oo rfl rfl) fun b5=>R.s rfl (s.st (us:=[iV p.ao,iV slot]) (cs':=[iV p.ao,iV slot]) 0 _ rfl rfl rfl rfl (.inl br) rfl rfl rfl rfl) fun _=>R.nil ?_
  refine R.reg rfl<|R.q (q.cT 4 rfl rfl ar) rfl<|R.q (q.cT 0 rfl rfl br) rfl<|R.c (q.call tN rfl rfl (fun w hw=>(kG _ _ _ _ (r) ((⟨p.ao,slot⟩:Place)) w (hw.aT 0 rfl) (hw.aT 1 rfl) (hw.aT 2 rfl) (hw.aT 3 rfl) ‹_›))) rfl<|R.u 1 rfl<|R.nil ?_
  refine R.reg rfl<|R.u 1 rfl<|?_
  by_cases h2:eX r (⟨p.ao,slot⟩:Place)=0
  ·
   refine R.q (q.fr rfl rfl Tryz.underlying35 (by omega)) rfl<|R.nil ?_
   refine R.aI rfl rfl ?_
   refine R.gN (fuel:=10) (Wd w (blks []++own) [ag.box b5 [iV p.ao,iV slot] 39,ag.box b4 (aA ((au r p).1)) 88,ag.box b3 aJ 32,ag.box b2 (aE p) 39,ag.held w own] [ag.ls aF (r.ai:List aj),ag.ls az (r.Things:List ah),ag.ls aC (r.Held:List Held),ag.ls aB (r.Notes:List Note)]) rfl mixed rfl ?_
   refine D.q (i:=0) rfl (by kernel_rfl) (fun _=>Wd.aM [0,1,2,3,5] [0,1,2,3] rfl rfl rfl) rfl (q.a8 (off':=2) rfl bP rfl) rfl<|D.q (i:=2) rfl (by kernel_rfl) (fun _=>Wd.aM [0,1,2,3,5] [0,1,2,3] rfl rfl rfl) rfl (q.cT 3 rfl rfl br) rfl<|D.q (i:=4) rfl (by kernel_rfl) (fun _=>Wd.aM [0,1,2,3,5] [0,1,2,3] rfl rfl rfl) rfl (q.cT 0 rfl rfl br) rfl<|D.q (i:=5) rfl (by kernel_rfl) (fun _=>Wd.aM [0,1,2,3,5] [0,1,2,3] rfl rfl rfl) rfl (q.a8 (off':=0) rfl bH rfl) rfl<|D.q (i:=6) rfl (by kernel_rfl) (fun _=>Wd.aM [0,1,2,3,5] [0,1,2,3] rfl rfl rfl) rfl (q.ld 1 rfl rfl av rfl) rfl<|D.one (i:=1) (by kernel_rfl) rfl ?_
   refine Do.s (s.c (Qt.a (q.ld 4 rfl rfl cx rfl)) rfl) (fun _=>(fun _=>Wd.aM [0,1,2,3,5] [0,1,2,3] rfl rfl rfl)) rfl fun _=>D.one (i:=3) (by kernel_rfl) rfl ?_
   refine Do.s (B':=(fun aH:Value=>[ag.row 85 aH ((cE r.Held p 0):List Held),ag.box b5 [iV p.ao,iV slot] 39,ag.box b4 (aA ((au r p).1)) 88,ag.box b3 aJ 32,ag.box b2 (aE p) 39,ag.box b1 [aF,az,aC,aB,iV r.ae,iV r.af] 32,ag.held w own])) (F':=(fun aH:Value=>[ag.ls aF (r.ai:List aj),ag.ls az (r.Things:List ah),ag.ls aC (r.Held:List Held),ag.ls aB (r.Notes:List Note)])) (s.bJ (B0:=[]) (Br:=[ag.box b5 [iV p.ao,iV slot] 39,ag.box b4 (aA ((au r p).1)) 88,ag.box b3 aJ 32,ag.box b2 (aE p) 39,ag.box b1 [aF,az,aC,aB,iV r.ae,iV r.af] 32,ag.held w own]) (F0:=[ag.ls aC (r.Held:List Held)]) [0,1,2,3,4,5] [2] (fun aH:Value=>aH) (fun aH:Value=>[ag.row 85 aH ((cE r.Held p 0):List Held)]) (fun aH:Value=>[]) rfl rfl rfl pI rfl rfl (fun w own hw H=>kB aC (r.Held) (p) (0) w own H (by first|omega|assumption|(simp;done)|(simp;omega))) rfl) (fun _=>(fun _=>Wd.aM [1,2,3,4,6] [0,1,2,3] rfl rfl rfl)) rfl fun z3=>D.one (i:=7) (by kernel_rfl) rfl ?_
   refine Do.s (B':=(fun aH:Value=>[ag.row 85 aH ((cE (cE r.Held p 0) (⟨p.ao,slot⟩:Place) (((au r p).1).ID)):List Held),ag.box b5 [iV p.ao,iV slot] 39,ag.box b4 (aA ((au r p).1)) 88,ag.box b3 aJ 32,ag.box b2 (aE p) 39,ag.box b1 [aF,az,aC,aB,iV r.ae,iV r.af] 32,ag.held w own])) (F':=(fun aH:Value=>[ag.ls z3 (cE r.Held p 0:List Held),ag.ls aF (r.ai:List aj),ag.ls az (r.Things:List ah),ag.ls aC (r.Held:List Held),ag.ls aB (r.Notes:List Note)])) (s.pre (B2:=[ag.box b5 [iV p.ao,iV slot] 39,ag.box b4 (aA ((au r p).1)) 88,ag.box b3 aJ 32,ag.box b2 (aE p) 39,ag.box b1 [aF,az,aC,aB,iV r.ae,iV r.af] 32,ag.held w own]) (F2:=[ag.ls z3 (cE r.Held p 0:List Held),ag.ls aF (r.ai:List aj),ag.ls az (r.Things:List ah),ag.ls aC (r.Held:List Held),ag.ls aB (r.Notes:List Note)]) (fun _ hw=>hw.di 0 _ rfl rfl) (s.bJ (B0:=[]) (Br:=[ag.box b5 [iV p.ao,iV slot] 39,ag.box b4 (aA ((au r p).1)) 88,ag.box b3 aJ 32,ag.box b2 (aE p) 39,ag.box b1 [aF,az,aC,aB,iV r.ae,iV r.af] 32,ag.held w own]) (F0:=[ag.ls z3 (cE r.Held p 0:List Held)]) [0,1,2,3,4,5] [0] (fun aH:Value=>aH) (fun aH:Value=>[ag.row 85 aH ((cE (cE r.Held p 0) (⟨p.ao,slot⟩:Place) (((au r p).1).ID)):List Held)]) (fun aH:Value=>[]) rfl rfl rfl pI rfl rfl (fun w own hw H=>kB z3 (cE r.Held p 0) ((⟨p.ao,slot⟩:Place)) (((au r p).1).ID) w own H (by first|omega|assumption|(simp;done)|(simp;omega))) rfl)) (fun _=>(fun _=>Wd.aM [1,2,3,4,6] [1,2,3,4] rfl rfl rfl)) rfl fun z4=>D.q (i:=8) rfl (by kernel_rfl) (fun _=>Wd.aM [1,2,3,4,6] [1,2,3,4] rfl rfl rfl) rfl (q.a8 (off':=2) rfl bP rfl) rfl<|D.one (i:=9) (by kernel_rfl) rfl ?_
   refine Do.s (s.e8 (us:=[z4]) (cs':=[aF,az,z4,aB,iV r.ae,iV r.af]) 5 _ rfl rfl rfl (fun w hw=>Sl.cJ (hw.row 0 rfl)) (.inr ⟨cx,rfl⟩) (fun w hw=>(ak (Sl.one (hw.row 0 rfl)) aS)) rfl rfl rfl) (fun _=>(fun _=>Wd.aM [1,2,3,4,6] [1,2,3,4] rfl rfl rfl)) rfl fun _=>D.done (by kernel_rfl)<|R.reg rfl<|R.q (q.cT 5 rfl rfl ar) rfl<|R.s rfl (s.e8 (us:=[aF,az,z4,aB,iV r.ae,iV r.af]) (cs':=[aF,az,z4,aB,iV r.ae,iV r.af]) 3 _ rfl rfl rfl (fun _ _=>rfl) (.inl ar) (fun w hw=>(ak (Sl.one (hw.aT 1 rfl)) (ak (Sl.one (hw.aT 2 rfl)) (ak (Sl.one (hw.row 0 rfl)) (ak (Sl.one (hw.aT 4 rfl)) (ak rfl (ak rfl aS))))))) rfl rfl rfl) fun _=>R.u 1 rfl<|R.nil ?_
   refine R.mp (B':=[ag.box b5 [iV p.ao,iV slot] 39,ag.box b4 (aA ((au r p).1)) 88,ag.box b3 [aF,az,z4,aB,iV r.ae,iV r.af] 32,ag.box b2 (aE p) 39,ag.box b1 [aF,az,z4,aB,iV r.ae,iV r.af] 32,ag.held w own]) (fun _ hw=>hw.di 0 _ rfl rfl) ?_
   have hz:dx r p slot=((⟨r.ai,r.Things,cE (cE r.Held p 0) (⟨p.ao,slot⟩:Place) (((au r p).1).ID),r.Notes,r.ae,r.af⟩:ap),0):=by (unfold dx;(repeat' split) <;> first|rfl|(exfalso;omega)|(simp_all;done))
   rw [hz]
   exact R.w2 (aF,az,z4,aB) [5] [2,3,0,5] rfl Tryz.results32 (RV.cell 2 rfl rfl ar) (RV.tmp rfl) rfl rfl rfl (cL rfl (gO rfl))
  ·
   refine R.q (q.fw rfl rfl Tryz.underlying35 (by omega)) rfl<|R.nil ?_
   refine R.aD rfl rfl ?_
   refine R.reg rfl<|R.q (q.build (cs:=aJ) cY rfl rfl) rfl<|R.u 1 rfl<|R.s rfl (s.st (us:=aJ) (cs':=aJ) 2 _ rfl rfl rfl rfl (.inl ar) rfl rfl rfl rfl) fun _=>R.u 1 rfl<|R.nil ?_
   refine R.mp (fun _ hw=>hw.bg (α:=aj)) ?_
   refine R.mp (fun _ hw=>hw.bg (α:=ah)) ?_
   refine R.mp (fun _ hw=>hw.bg (α:=Held)) ?_
   refine R.mp (fun _ hw=>hw.bg (α:=Note)) ?_
   have hz:dx r p slot=((⟨[],[],[],[],0,0⟩:ap),eX r (⟨p.ao,slot⟩:Place)):=by (unfold dx;(repeat' split) <;> first|rfl|(exfalso;omega)|(simp_all;done))
   rw [hz]
   exact R.w2 ((nS),(nS),(nS),(nS)) [5] [3,2,1,0] rfl Tryz.results32 (RV.cell 2 rfl rfl ar) (RV.tmp rfl) rfl rfl rfl (cL rfl rfl)
 ·
  refine R.q (q.fw rfl rfl Tryz.underlying35 (by omega)) rfl<|R.nil ?_
  refine R.aD rfl rfl ?_
  refine R.reg rfl<|R.q (q.build (cs:=aJ) cY rfl rfl) rfl<|R.u 1 rfl<|R.s rfl (s.st (us:=aJ) (cs':=aJ) 1 _ rfl rfl rfl rfl (.inl ar) rfl rfl rfl rfl) fun _=>R.u 1 rfl<|R.nil ?_
  refine R.mp (fun _ hw=>hw.bg (α:=aj)) ?_
  refine R.mp (fun _ hw=>hw.bg (α:=ah)) ?_
  refine R.mp (fun _ hw=>hw.bg (α:=Held)) ?_
  refine R.mp (fun _ hw=>hw.bg (α:=Note)) ?_
  have hz:dx r p slot=((⟨[],[],[],[],0,0⟩:ap),(au r p).2):=by (unfold dx;(repeat' split) <;> first|rfl|(exfalso;omega)|(simp_all;done))
  rw [hz]
  exact R.w2 ((nS),(nS),(nS),(nS)) [4] [3,2,1,0] rfl Tryz.results32 (RV.cell 1 rfl rfl ar) (RV.tmp rfl) rfl rfl rfl (cL rfl rfl)
theorem uX (aF az aC aB:Value)(r:ap)(p:Place)(w:World)(own:List Nat)(H:Wd w (blks []++own) ([]++[ag.held w own]) [ag.ls aF (r.ai:List aj),ag.ls az (r.Things:List ah),ag.ls aC (r.Held:List Held),ag.ls aB (r.Notes:List Note)] w)(hk:Ok r):Calls Tryz.prog 33 #[.agg #[aF,az,aC,aB,iV r.ae,iV r.af],.agg #[iV p.ao,iV p.Slot]] w fun e w' => ∃z:Value×Value×Value×Value,e = .returned (.tuple #[.agg #[z.1,z.2.1,z.2.2.1,z.2.2.2,iV ((((dJ r p)).1).ae),iV ((((dJ r p)).1).af)],e6 (((dJ r p)).2)])∧Wd w (blks []++own) ([]++[ag.held w own]) [ag.ls z.1 ((((dJ r p)).1).ai:List aj),ag.ls z.2.1 ((((dJ r p)).1).Things:List ah),ag.ls z.2.2.1 ((((dJ r p)).1).Held:List Held),ag.ls z.2.2.2 ((((dJ r p)).1).Notes:List Note)] w':=by
 have dR:=H.cX 0 rfl
 have dq:=H.cX 1 rfl
 have eK:=H.cX 2 rfl
 have dS:=H.cX 3 rfl
 have bw:=hk.wl;have bt:=hk.tl;have bh:=hk.hl;have bn:=hk.nl;have xF:=hk.w0;have xG:=hk.w1;have xH:=hk.t0;have xI:=hk.t1
 have hkd:=hk.wo (au r p).1.ID
 refine R.dc (n:=26) (vs:=[.agg #[aF,az,aC,aB,iV r.ae,iV r.af],.agg #[iV p.ao,iV p.Slot]]) (B:=[ag.held w own]) [(0,.agg #[aF,az,aC,aB,iV r.ae,iV r.af]),(1,.agg #[iV p.ao,iV p.Slot])] Tryz.func33 rfl rfl rfl rfl H ?_
 refine R.reg rfl<|R.s rfl (s.box (cs:=[aF,az,aC,aB,iV r.ae,iV r.af]) rfl rfl rfl) fun b1=>R.s rfl (s.box (cs:=aE p) rfl rfl rfl) fun b2=>R.s rfl (s.alloc (cs:=aJ) cD rfl rfl) fun b3=>R.u 1 rfl<|R.nil ?_
 refine R.reg rfl<|R.q (q.cT 2 rfl rfl ar) rfl<|R.q (q.cT 1 rfl rfl br) rfl<|R.c (q.call oq rfl rfl (fun w hw=>(jH _ _ _ _ (r) (p) w (hw.aT 0 rfl) (hw.aT 1 rfl) (hw.aT 2 rfl) (hw.aT 3 rfl) ‹_›))) rfl<|R.u 3 rfl<|R.s rfl (s.alloc (cs:=dw) bE rfl rfl) fun b4=>R.s rfl (s.st (us:=aA ((au r p).1)) (cs':=aA ((au r p).1)) 0 _ rfl rfl rfl rfl (.inl aQ) rfl rfl rfl rfl) fun _=>R.u 1 rfl<|R.nil ?_
 refine R.reg rfl<|R.u 1 rfl<|?_
 by_cases h1:(au r p).2=0
 ·
  refine R.q (q.fr rfl rfl Tryz.underlying35 (by omega)) rfl<|R.nil ?_
  refine R.aI rfl rfl ?_
  refine R.reg rfl<|R.q (q.a8 (off':=0) rfl bj rfl) rfl<|R.q (q.ld 3 rfl rfl bA rfl) rfl<|R.q (q.a8 (off':=0) rfl bH rfl) rfl<|R.q (q.ld 0 rfl rfl av rfl) rfl<|R.s rfl (s.nT vT rfl rfl (fun w hw=>ke _ (r.ai) (((au r p).1).ID) w (hw.aT 0 rfl) (by first|omega|assumption)) rfl) fun v1=>R.q (q.a8 (off':=0) rfl bj rfl) rfl<|R.s rfl (s.e8 (us:=[v1]) (cs':=[v1,az,aC,aB,iV r.ae,iV r.af]) 4 _ rfl rfl rfl (fun w hw=>Sl.cJ (hw.row 0 rfl)) (.inr ⟨bA,rfl⟩) (fun w hw=>(ak (Sl.one (hw.row 0 rfl)) aS)) rfl rfl rfl) fun _=>R.nil ?_
  refine R.reg rfl<|R.q (q.cT 4 rfl rfl ar) rfl<|R.s (B':=(fun g_:Value×Value×Value×Value=>[ag.box b4 (aA ((au r p).1)) 88,ag.box b3 aJ 32,ag.box b2 (aE p) 39,ag.box b1 [v1,az,aC,aB,iV r.ae,iV r.af] 32,ag.held w own])) (F':=(fun g_:Value×Value×Value×Value=>[ag.ls g_.1 (((bq (⟨(without r.ai (((au r p).1).ID)),r.Things,r.Held,r.Notes,r.ae,r.af⟩:ap))).ai:List aj),ag.ls g_.2.1 (((bq (⟨(without r.ai (((au r p).1).ID)),r.Things,r.Held,r.Notes,r.ae,r.af⟩:ap))).Things:List ah),ag.ls g_.2.2.1 (((bq (⟨(without r.ai (((au r p).1).ID)),r.Things,r.Held,r.Notes,r.ae,r.af⟩:ap))).Held:List Held),ag.ls g_.2.2.2 (((bq (⟨(without r.ai (((au r p).1).ID)),r.Things,r.Held,r.Notes,r.ae,r.af⟩:ap))).Notes:List Note),ag.ls v1 ((without r.ai (((au r p).1).ID)):List aj),ag.ls aF (r.ai:List aj),ag.ls az (r.Things:List ah),ag.ls aC (r.Held:List Held),ag.ls aB (r.Notes:List Note)])) rfl (s.pre (B2:=[ag.box b4 (aA ((au r p).1)) 88,ag.box b3 aJ 32,ag.box b2 (aE p) 39,ag.box b1 [v1,az,aC,aB,iV r.ae,iV r.af] 32,ag.held w own]) (F2:=[ag.ls v1 ((without r.ai (((au r p).1).ID)):List aj),ag.ls aF (r.ai:List aj),ag.ls az (r.Things:List ah),ag.ls aC (r.Held:List Held),ag.ls aB (r.Notes:List Note)]) (fun _ hw=>hw.di 0 _ rfl rfl) (s.bJ (B0:=[]) (Br:=[ag.box b4 (aA ((au r p).1)) 88,ag.box b3 aJ 32,ag.box b2 (aE p) 39,ag.box b1 [v1,az,aC,aB,iV r.ae,iV r.af] 32,ag.held w own]) (F0:=[ag.ls v1 ((without r.ai (((au r p).1).ID)):List aj),ag.ls az (r.Things:List ah),ag.ls aC (r.Held:List Held),ag.ls aB (r.Notes:List Note)]) [0,1,2,3,4] [0,2,3,4] (fun g_:Value×Value×Value×Value => .agg #[g_.1,g_.2.1,g_.2.2.1,g_.2.2.2,iV (((bq (⟨(without r.ai (((au r p).1).ID)),r.Things,r.Held,r.Notes,r.ae,r.af⟩:ap))).ae),iV (((bq (⟨(without r.ai (((au r p).1).ID)),r.Things,r.Held,r.Notes,r.ae,r.af⟩:ap))).af)]) (fun g_:Value×Value×Value×Value=>[]) (fun g_:Value×Value×Value×Value=>[ag.ls g_.1 (((bq (⟨(without r.ai (((au r p).1).ID)),r.Things,r.Held,r.Notes,r.ae,r.af⟩:ap))).ai:List aj),ag.ls g_.2.1 (((bq (⟨(without r.ai (((au r p).1).ID)),r.Things,r.Held,r.Notes,r.ae,r.af⟩:ap))).Things:List ah),ag.ls g_.2.2.1 (((bq (⟨(without r.ai (((au r p).1).ID)),r.Things,r.Held,r.Notes,r.ae,r.af⟩:ap))).Held:List Held),ag.ls g_.2.2.2 (((bq (⟨(without r.ai (((au r p).1).ID)),r.Things,r.Held,r.Notes,r.ae,r.af⟩:ap))).Notes:List Note)]) rfl rfl rfl vU rfl rfl (fun w own hw H=>lr v1 az aC aB ((⟨(without r.ai (((au r p).1).ID)),r.Things,r.Held,r.Notes,r.ae,r.af⟩:ap)) w own H ‹_›) rfl)) ?_
  rintro ⟨z1,z2,z3,z4⟩
  dsimp only
  refine R.s rfl (s.e8 (us:=[z1,z2,z3,z4,iV ((bq (⟨(without r.ai (((au r p).1).ID)),r.Things,r.Held,r.Notes,r.ae,r.af⟩:ap)).ae),iV ((bq (⟨(without r.ai (((au r p).1).ID)),r.Things,r.Held,r.Notes,r.ae,r.af⟩:ap)).af)]) (cs':=[z1,z2,z3,z4,iV ((bq (⟨(without r.ai (((au r p).1).ID)),r.Things,r.Held,r.Notes,r.ae,r.af⟩:ap)).ae),iV ((bq (⟨(without r.ai (((au r p).1).ID)),r.Things,r.Held,r.Notes,r.ae,r.af⟩:ap)).af)]) 1 _ rfl rfl rfl (fun _ _=>rfl) (.inl ar) (fun w hw=>(ak (Sl.one (hw.aT 0 rfl)) (ak (Sl.one (hw.aT 1 rfl)) (ak (Sl.one (hw.aT 2 rfl)) (ak (Sl.one (hw.aT 3 rfl)) (ak rfl (ak rfl aS))))))) rfl rfl rfl) fun _=>R.u 1 rfl<|R.nil ?_
  have hz:dJ r p=((bq (⟨(without r.ai (((au r p).1).ID)),r.Things,r.Held,r.Notes,r.ae,r.af⟩:ap)),0):=by (unfold dJ;(repeat' split) <;> first|rfl|(exfalso;omega)|(simp_all;done))
  rw [hz]
  exact R.w2 (z1,z2,z3,z4) [4] [0,1,2,3] rfl Tryz.results33 (RV.cell 1 rfl rfl ar) (RV.tmp rfl) rfl rfl rfl (cL rfl (gO rfl))
 ·
  refine R.q (q.fw rfl rfl Tryz.underlying35 (by omega)) rfl<|R.nil ?_
  refine R.aD rfl rfl ?_
  refine R.reg rfl<|R.q (q.build (cs:=aJ) cY rfl rfl) rfl<|R.u 1 rfl<|R.s rfl (s.st (us:=aJ) (cs':=aJ) 1 _ rfl rfl rfl rfl (.inl ar) rfl rfl rfl rfl) fun _=>R.u 1 rfl<|R.nil ?_
  refine R.mp (fun _ hw=>hw.bg (α:=aj)) ?_
  refine R.mp (fun _ hw=>hw.bg (α:=ah)) ?_
  refine R.mp (fun _ hw=>hw.bg (α:=Held)) ?_
  refine R.mp (fun _ hw=>hw.bg (α:=Note)) ?_
  have hz:dJ r p=((⟨[],[],[],[],0,0⟩:ap),(au r p).2):=by (unfold dJ;(repeat' split) <;> first|rfl|(exfalso;omega)|(simp_all;done))
  rw [hz]
  exact R.w2 ((nS),(nS),(nS),(nS)) [4] [3,2,1,0] rfl Tryz.results33 (RV.cell 1 rfl rfl ar) (RV.tmp rfl) rfl rfl rfl (cL rfl rfl)
set_option maxHeartbeats 1000000 in
theorem rx (aF az aC aB:Value)(r:ap)(p:Place)(w:World)(own:List Nat)(H:Wd w (blks []++own) ([]++[ag.held w own]) [ag.ls aF (r.ai:List aj),ag.ls az (r.Things:List ah),ag.ls aC (r.Held:List Held),ag.ls aB (r.Notes:List Note)] w)(hk:Ok r):Calls Tryz.prog 34 #[.agg #[aF,az,aC,aB,iV r.ae,iV r.af],.agg #[iV p.ao,iV p.Slot]] w fun e w' => ∃z:Value×Value×Value×Value,e = .returned (.tuple #[.agg #[z.1,z.2.1,z.2.2.1,z.2.2.2,iV ((((bY r p)).1).ae),iV ((((bY r p)).1).af)],e6 (((bY r p)).2)])∧Wd w (blks []++own) ([]++[ag.held w own]) [ag.ls z.1 ((((bY r p)).1).ai:List aj),ag.ls z.2.1 ((((bY r p)).1).Things:List ah),ag.ls z.2.2.1 ((((bY r p)).1).Held:List Held),ag.ls z.2.2.2 ((((bY r p)).1).Notes:List Note)] w':=by
 have dR:=H.cX 0 rfl
 have dq:=H.cX 1 rfl
 have eK:=H.cX 2 rfl
 have dS:=H.cX 3 rfl
 have bw:=hk.wl;have bt:=hk.tl;have bh:=hk.hl;have bn:=hk.nl;have xF:=hk.w0;have xG:=hk.w1;have xH:=hk.t0;have xI:=hk.t1
 have hkd:Ok (⟨r.ai.filter (fun x => !(fun (x:aj)=>decide (x.ID∈(dG (((au r p).1).ID) r.ai))) x),r.Things,r.Held,r.Notes,r.ae,r.af⟩:ap):=hk.cut (au r p).1.ID
 refine R.dc (n:=32) (vs:=[.agg #[aF,az,aC,aB,iV r.ae,iV r.af],.agg #[iV p.ao,iV p.Slot]]) (B:=[ag.held w own]) [(0,.agg #[aF,az,aC,aB,iV r.ae,iV r.af]),(1,.agg #[iV p.ao,iV p.Slot])] Tryz.func34 rfl rfl rfl rfl H ?_
 refine R.reg rfl<|R.s rfl (s.box (cs:=[aF,az,aC,aB,iV r.ae,iV r.af]) rfl rfl rfl) fun b1=>R.s rfl (s.box (cs:=aE p) rfl rfl rfl) fun b2=>R.s rfl (s.alloc (cs:=aJ) cD rfl rfl) fun b3=>R.u 1 rfl<|R.nil ?_
 refine R.reg rfl<|R.q (q.cT 2 rfl rfl ar) rfl<|R.q (q.cT 1 rfl rfl br) rfl<|R.c (q.call oq rfl rfl (fun w hw=>(jH _ _ _ _ (r) (p) w (hw.aT 0 rfl) (hw.aT 1 rfl) (hw.aT 2 rfl) (hw.aT 3 rfl) ‹_›))) rfl<|R.u 3 rfl<|R.s rfl (s.alloc (cs:=dw) bE rfl rfl) fun b4=>R.s rfl (s.st (us:=aA ((au r p).1)) (cs':=aA ((au r p).1)) 0 _ rfl rfl rfl rfl (.inl aQ) rfl rfl rfl rfl) fun _=>R.u 1 rfl<|R.nil ?_
 refine R.reg rfl<|R.u 1 rfl<|?_
 by_cases h1:(au r p).2=0
 ·
  refine R.q (q.fr rfl rfl Tryz.underlying35 (by omega)) rfl<|R.nil ?_
  refine R.aI rfl rfl ?_
  refine R.reg rfl<|R.q (q.a8 (off':=0) rfl bj rfl) rfl<|R.q (q.ld 3 rfl rfl bA rfl) rfl<|R.q (q.a8 (off':=0) rfl bH rfl) rfl<|R.q (q.ld 0 rfl rfl av rfl) rfl<|R.s rfl (s.nT Cj rfl rfl (fun w hw=>qu _ (r.ai) (((au r p).1).ID) w (hw.aT 0 rfl) (by first|omega|assumption)) rfl) fun v1=>R.s rfl (s.alloc (cs:=[nS]) qT rfl rfl) fun b5=>R.s rfl (s.e8 (us:=[v1]) (cs':=[v1]) 0 _ rfl rfl rfl (fun w hw=>Sl.cJ (hw.row 1 rfl)) (.inr ⟨ky,rfl⟩) (fun w hw=>(ak (Sl.one (hw.row 1 rfl)) aS)) rfl rfl rfl) fun _=>R.nil ?_
  refine R.reg rfl<|R.q (q.a8 (off':=0) rfl bj rfl) rfl<|R.q (q.ld 5 rfl rfl bA rfl) rfl<|R.s (B':=(fun aH:Value=>[ag.row 88 aH (r.ai:List aj),ag.box b5 [v1] 60,ag.row 3 v1 ((dG (((au r p).1).ID) r.ai):List Int),ag.box b4 (aA ((au r p).1)) 88,ag.box b3 aJ 32,ag.box b2 (aE p) 39,ag.box b1 [aF,az,aC,aB,iV r.ae,iV r.af] 32,ag.held w own])) (F':=(fun aH:Value=>[ag.ls aF (r.ai:List aj),ag.ls az (r.Things:List ah),ag.ls aC (r.Held:List Held),ag.ls aB (r.Notes:List Note)])) rfl (s.bJ (B0:=[]) (Br:=[ag.box b5 [v1] 60,ag.row 3 v1 ((dG (((au r p).1).ID) r.ai):List Int),ag.box b4 (aA ((au r p).1)) 88,ag.box b3 aJ 32,ag.box b2 (aE p) 39,ag.box b1 [aF,az,aC,aB,iV r.ae,iV r.af] 32,ag.held w own]) (F0:=[ag.ls aF (r.ai:List aj)]) [0,1,2,3,4,5,6] [0] (fun aH:Value=>aH) (fun aH:Value=>[ag.row 88 aH (r.ai:List aj)]) (fun aH:Value=>[]) rfl rfl rfl tP rfl rfl (fun w own hw H=>gK aF (r.ai) w own H (by first|omega|assumption|(simp;done)|(simp;omega))) rfl) fun z1=>R.q (q.AZ (cap:=[.pointer (some ⟨b5,0,none⟩)]) rfl rfl) rfl<|R.s (B':=(fun aH:Value=>[ag.row 88 aH ((r.ai.filter (fun x => !(fun (x:aj)=>decide (x.ID∈(dG (((au r p).1).ID) r.ai))) x)):List aj),ag.box b5 [v1] 60,ag.row 3 v1 ((dG (((au r p).1).ID) r.ai):List Int),ag.box b4 (aA ((au r p).1)) 88,ag.box b3 aJ 32,ag.box b2 (aE p) 39,ag.box b1 [aF,az,aC,aB,iV r.ae,iV r.af] 32,ag.held w own])) (F':=(fun aH:Value=>[ag.ls aF (r.ai:List aj),ag.ls az (r.Things:List ah),ag.ls aC (r.Held:List Held),ag.ls aB (r.Notes:List Note)])) rfl (s.bJ (B0:=[ag.row 88 z1 (r.ai:List aj)]) (Br:=[ag.box b5 [v1] 60,ag.row 3 v1 ((dG (((au r p).1).ID) r.ai):List Int),ag.box b4 (aA ((au r p).1)) 88,ag.box b3 aJ 32,ag.box b2 (aE p) 39,ag.box b1 [aF,az,aC,aB,iV r.ae,iV r.af] 32,ag.held w own]) (F0:=[]) [0,1,2,3,4,5,6,7] [] (fun aH:Value=>aH) (fun aH:Value=>[ag.row 88 aH ((r.ai.filter (fun x => !(fun (x:aj)=>decide (x.ID∈(dG (((au r p).1).ID) r.ai))) x)):List aj)]) (fun aH:Value=>[]) rfl rfl rfl Ck rfl rfl (fun w own hw H=>nA z1 (r.ai) (fun (x:aj)=>decide (x.ID∈(dG (((au r p).1).ID) r.ai))) _ _ Cl w own H (fun W x hU=>po x _ ((dG (((au r p).1).ID) r.ai)) _ W (hw.og 1 0 rfl rfl (by decide) hU) (Own.sl (hw.og 2 0 rfl rfl (by decide) hU)) ) (by first|omega|assumption|(simp;done)|(simp;omega))) rfl) fun z2=>R.q (q.a8 (off':=0) rfl bj rfl) rfl<|R.s rfl (s.e8 (us:=[z2]) (cs':=[z2,az,aC,aB,iV r.ae,iV r.af]) 6 _ rfl rfl rfl (fun w hw=>Sl.cJ (hw.row 0 rfl)) (.inr ⟨bA,rfl⟩) (fun w hw=>(ak (Sl.one (hw.row 0 rfl)) aS)) rfl rfl rfl) fun _=>R.nil ?_
  refine R.reg rfl<|R.q (q.cT 6 rfl rfl ar) rfl<|R.s (B':=(fun g_:Value×Value×Value×Value=>[ag.box b5 [v1] 60,ag.row 3 v1 ((dG (((au r p).1).ID) r.ai):List Int),ag.box b4 (aA ((au r p).1)) 88,ag.box b3 aJ 32,ag.box b2 (aE p) 39,ag.box b1 [z2,az,aC,aB,iV r.ae,iV r.af] 32,ag.held w own])) (F':=(fun g_:Value×Value×Value×Value=>[ag.ls g_.1 (((bq (⟨r.ai.filter (fun x => !(fun (x:aj)=>decide (x.ID∈(dG (((au r p).1).ID) r.ai))) x),r.Things,r.Held,r.Notes,r.ae,r.af⟩:ap))).ai:List aj),ag.ls g_.2.1 (((bq (⟨r.ai.filter (fun x => !(fun (x:aj)=>decide (x.ID∈(dG (((au r p).1).ID) r.ai))) x),r.Things,r.Held,r.Notes,r.ae,r.af⟩:ap))).Things:List ah),ag.ls g_.2.2.1 (((bq (⟨r.ai.filter (fun x => !(fun (x:aj)=>decide (x.ID∈(dG (((au r p).1).ID) r.ai))) x),r.Things,r.Held,r.Notes,r.ae,r.af⟩:ap))).Held:List Held),ag.ls g_.2.2.2 (((bq (⟨r.ai.filter (fun x => !(fun (x:aj)=>decide (x.ID∈(dG (((au r p).1).ID) r.ai))) x),r.Things,r.Held,r.Notes,r.ae,r.af⟩:ap))).Notes:List Note),ag.ls z2 (r.ai.filter (fun x => !(fun (x:aj)=>decide (x.ID∈(dG (((au r p).1).ID) r.ai))) x):List aj),ag.ls aF (r.ai:List aj),ag.ls az (r.Things:List ah),ag.ls aC (r.Held:List Held),ag.ls aB (r.Notes:List Note)])) rfl (s.pre (B2:=[ag.box b5 [v1] 60,ag.row 3 v1 ((dG (((au r p).1).ID) r.ai):List Int),ag.box b4 (aA ((au r p).1)) 88,ag.box b3 aJ 32,ag.box b2 (aE p) 39,ag.box b1 [z2,az,aC,aB,iV r.ae,iV r.af] 32,ag.held w own]) (F2:=[ag.ls z2 (r.ai.filter (fun x => !(fun (x:aj)=>decide (x.ID∈(dG (((au r p).1).ID) r.ai))) x):List aj),ag.ls aF (r.ai:List aj),ag.ls az (r.Things:List ah),ag.ls aC (r.Held:List Held),ag.ls aB (r.Notes:List Note)]) (fun _ hw=>hw.di 0 _ rfl rfl) (s.bJ (B0:=[]) (Br:=[ag.box b5 [v1] 60,ag.row 3 v1 ((dG (((au r p).1).ID) r.ai):List Int),ag.box b4 (aA ((au r p).1)) 88,ag.box b3 aJ 32,ag.box b2 (aE p) 39,ag.box b1 [z2,az,aC,aB,iV r.ae,iV r.af] 32,ag.held w own]) (F0:=[ag.ls z2 (r.ai.filter (fun x => !(fun (x:aj)=>decide (x.ID∈(dG (((au r p).1).ID) r.ai))) x):List aj),ag.ls az (r.Things:List ah),ag.ls aC (r.Held:List Held),ag.ls aB (r.Notes:List Note)]) [0,1,2,3,4,5,6] [0,2,3,4] (fun g_:Value×Value×Value×Value => .agg #[g_.1,g_.2.1,g_.2.2.1,g_.2.2.2,iV (((bq (⟨r.ai.filter (fun x => !(fun (x:aj)=>decide (x.ID∈(dG (((au r p).1).ID) r.ai))) x),r.Things,r.Held,r.Notes,r.ae,r.af⟩:ap))).ae),iV (((bq (⟨r.ai.filter (fun x => !(fun (x:aj)=>decide (x.ID∈(dG (((au r p).1).ID) r.ai))) x),r.Things,r.Held,r.Notes,r.ae,r.af⟩:ap))).af)]) (fun g_:Value×Value×Value×Value=>[]) (fun g_:Value×Value×Value×Value=>[ag.ls g_.1 (((bq (⟨r.ai.filter (fun x => !(fun (x:aj)=>decide (x.ID∈(dG (((au r p).1).ID) r.ai))) x),r.Things,r.Held,r.Notes,r.ae,r.af⟩:ap))).ai:List aj),ag.ls g_.2.1 (((bq (⟨r.ai.filter (fun x => !(fun (x:aj)=>decide (x.ID∈(dG (((au r p).1).ID) r.ai))) x),r.Things,r.Held,r.Notes,r.ae,r.af⟩:ap))).Things:List ah),ag.ls g_.2.2.1 (((bq (⟨r.ai.filter (fun x => !(fun (x:aj)=>decide (x.ID∈(dG (((au r p).1).ID) r.ai))) x),r.Things,r.Held,r.Notes,r.ae,r.af⟩:ap))).Held:List Held),ag.ls g_.2.2.2 (((bq (⟨r.ai.filter (fun x => !(fun (x:aj)=>decide (x.ID∈(dG (((au r p).1).ID) r.ai))) x),r.Things,r.Held,r.Notes,r.ae,r.af⟩:ap))).Notes:List Note)]) rfl rfl rfl vU rfl rfl (fun w own hw H=>by have DY:=lr z2 az aC aB ((⟨r.ai.filter (fun x => !(fun (x:aj)=>decide (x.ID∈(dG (((au r p).1).ID) r.ai))) x),r.Things,r.Held,r.Notes,r.ae,r.af⟩:ap)) w own H ‹_›;exact DY) rfl)) ?_
  rintro ⟨z3,z4,z5,z6⟩
  dsimp only
  refine R.s rfl (s.e8 (us:=[z3,z4,z5,z6,iV ((bq (⟨r.ai.filter (fun x => !(fun (x:aj)=>decide (x.ID∈(dG (((au r p).1).ID) r.ai))) x),r.Things,r.Held,r.Notes,r.ae,r.af⟩:ap)).ae),iV ((bq (⟨r.ai.filter (fun x => !(fun (x:aj)=>decide (x.ID∈(dG (((au r p).1).ID) r.ai))) x),r.Things,r.Held,r.Notes,r.ae,r.af⟩:ap)).af)]) (cs':=[z3,z4,z5,z6,iV ((bq (⟨r.ai.filter (fun x => !(fun (x:aj)=>decide (x.ID∈(dG (((au r p).1).ID) r.ai))) x),r.Things,r.Held,r.Notes,r.ae,r.af⟩:ap)).ae),iV ((bq (⟨r.ai.filter (fun x => !(fun (x:aj)=>decide (x.ID∈(dG (((au r p).1).ID) r.ai))) x),r.Things,r.Held,r.Notes,r.ae,r.af⟩:ap)).af)]) 3 _ rfl rfl rfl (fun _ _=>rfl) (.inl ar) (fun w hw=>(ak (Sl.one (hw.aT 0 rfl)) (ak (Sl.one (hw.aT 1 rfl)) (ak (Sl.one (hw.aT 2 rfl)) (ak (Sl.one (hw.aT 3 rfl)) (ak rfl (ak rfl aS))))))) rfl rfl rfl) fun _=>R.u 1 rfl<|R.nil ?_
  have hz:bY r p=((bq (⟨r.ai.filter (fun x => !(fun (x:aj)=>decide (x.ID∈(dG (((au r p).1).ID) r.ai))) x),r.Things,r.Held,r.Notes,r.ae,r.af⟩:ap)),0):=by (unfold bY;(repeat' split) <;> first|rfl|(exfalso;omega)|(simp_all;done))
  rw [hz]
  exact R.w2 (z3,z4,z5,z6) [6] [0,1,2,3] rfl Tryz.results34 (RV.cell 3 rfl rfl ar) (RV.tmp rfl) rfl rfl rfl (cL rfl (gO rfl))
 ·
  refine R.q (q.fw rfl rfl Tryz.underlying35 (by omega)) rfl<|R.nil ?_
  refine R.aD rfl rfl ?_
  refine R.reg rfl<|R.q (q.build (cs:=aJ) cY rfl rfl) rfl<|R.u 1 rfl<|R.s rfl (s.st (us:=aJ) (cs':=aJ) 1 _ rfl rfl rfl rfl (.inl ar) rfl rfl rfl rfl) fun _=>R.u 1 rfl<|R.nil ?_
  refine R.mp (fun _ hw=>hw.bg (α:=aj)) ?_
  refine R.mp (fun _ hw=>hw.bg (α:=ah)) ?_
  refine R.mp (fun _ hw=>hw.bg (α:=Held)) ?_
  refine R.mp (fun _ hw=>hw.bg (α:=Note)) ?_
  have hz:bY r p=((⟨[],[],[],[],0,0⟩:ap),(au r p).2):=by (unfold bY;(repeat' split) <;> first|rfl|(exfalso;omega)|(simp_all;done))
  rw [hz]
  exact R.w2 ((nS),(nS),(nS),(nS)) [4] [3,2,1,0] rfl Tryz.results34 (RV.cell 1 rfl rfl ar) (RV.tmp rfl) rfl rfl rfl (cL rfl rfl)
theorem oG (aF az aC aB:Value)(r:ap)(p:Place)(kind:Int)(rights:Int)(w:World)(pj:Sl w aF r.ai)(qw:Sl w az r.Things)(sK:Sl w aC r.Held)(ym:Sl w aB r.Notes)(hk:Ok r)(hr:0≤rights∧rights≤7):Calls Tryz.prog 80 #[.agg #[aF,az,aC,aB,iV r.ae,iV r.af],.agg #[iV p.ao,iV p.Slot],iV kind,iV rights] w fun e w'=>e = .returned (.tuple #[aj.val ((aO r p kind rights).1),iV ((aO r p kind rights).2.1),e6 ((aO r p kind rights).2.2)])∧Ext w w':=by
 have bw:=hk.wl;have bt:=hk.tl;have bh:=hk.hl;have bn:=hk.nl;have xF:=hk.w0;have xG:=hk.w1;have xH:=hk.t0;have xI:=hk.t1
 refine R.enter (n:=51) (vs:=[.agg #[aF,az,aC,aB,iV r.ae,iV r.af],.agg #[iV p.ao,iV p.Slot],iV kind,iV rights]) [] [(0,.agg #[aF,az,aC,aB,iV r.ae,iV r.af]),(1,.agg #[iV p.ao,iV p.Slot]),(2,iV kind),(3,iV rights)] Tryz.func80 rfl rfl rfl rfl ?_
 refine R.reg rfl<|R.s rfl (s.box (cs:=[aF,az,aC,aB,iV r.ae,iV r.af]) rfl rfl rfl) fun b1=>R.s rfl (s.box (cs:=aE p) rfl rfl rfl) fun b2=>R.s rfl (s.alloc (cs:=dw) bE rfl rfl) fun b3=>R.u 2 rfl<|R.nil ?_
 refine R.reg rfl<|R.q (q.cT 2 rfl rfl ar) rfl<|R.q (q.cT 1 rfl rfl br) rfl<|R.c (q.call oq rfl rfl (fun w hw=>(jH _ _ _ _ (r) (p) w ((fun _=>Wd.old pj) w hw) ((fun _=>Wd.old qw) w hw) ((fun _=>Wd.old sK) w hw) ((fun _=>Wd.old ym) w hw) ‹_›))) rfl<|R.u 3 rfl<|R.s rfl (s.alloc (cs:=dw) bE rfl rfl) fun b4=>R.s rfl (s.st (us:=aA ((au r p).1)) (cs':=aA ((au r p).1)) 0 _ rfl rfl rfl rfl (.inl aQ) rfl rfl rfl rfl) fun _=>R.u 1 rfl<|R.nil ?_
 refine R.reg rfl<|R.u 1 rfl<|?_
 by_cases h1:(au r p).2=0
 ·
  have Es:=hk.get h1
  refine R.q (q.fr rfl rfl Tryz.underlying35 (by omega)) rfl<|R.nil ?_
  refine R.aI rfl rfl ?_
  refine R.reg rfl<|R.q (q.a8 (off':=1) rfl bO rfl) rfl<|R.q (q.ld 3 rfl rfl cw rfl) rfl<|R.q (q.AZ (cap:=[.pointer (some ⟨b4,0,none⟩)]) rfl rfl) rfl<|?_
  rcases f8 (fun (t:ah)=>t.ID==((au r p).1).ah) r.Things with ⟨dF,lp⟩ | ⟨ij,iA,dF,eC,fU,gJ,C8⟩
  ·
   refine R.c (q.call qj rfl rfl (fun w hw=>(cv (congrArg (Value.int .i64) dF) (fc _ (r.Things) (fun (t:ah)=>t.ID==((au r p).1).ah) _ _ vZ w ((fun _=>Wd.old qw) w hw) (fun W t hW=>oE t (((au r p).1)) _ W (lM (hw.b 0 rfl) hW) ) )))) rfl<|R.u 1 rfl<|R.nil ?_
   refine R.reg rfl<|R.u 1 rfl<|R.q (q.lss (b:=true) rfl rfl (by decide)) rfl<|R.u 10 rfl<|R.nil ?_
   refine R.aD rfl rfl ?_
   refine R.reg rfl<|R.q (q.build (cs:=dw) gQ rfl rfl) rfl<|R.q (q.iface rfl bI) rfl<|R.s rfl (s.st (us:=dw) (cs':=dw) 1 _ rfl rfl rfl rfl (.inl aQ) rfl rfl rfl rfl) fun _=>R.u 2 rfl<|R.nil ?_
   exact R.Bv rfl Tryz.results80 (RV.cell 1 rfl rfl aQ) (RV.tmp rfl) (RV.tmp rfl) (congrArg aj.val (show (⟨0,0,0,0,0⟩:aj)=(aO r p kind rights).1 from by (first|(rw [dX ‹_›];first|done|rfl)|(rw [du ‹_› lp];first|done|rfl)|(rw [dv ‹_› eC fU gJ ‹_›];first|done|rfl)|(rw [cR ‹_› eC fU gJ ‹_› ‹_›];first|done|rfl)|(rw [eO ‹_› eC fU gJ ‹_› ‹_›];first|done|rfl)))) (rI (by (first|(rw [dX ‹_›];first|done|rfl)|(rw [du ‹_› lp];first|done|rfl)|(rw [dv ‹_› eC fU gJ ‹_›];first|done|rfl)|(rw [cR ‹_› eC fU gJ ‹_› ‹_›];first|done|rfl)|(rw [eO ‹_› eC fU gJ ‹_› ‹_›];first|done|rfl)))) (dP (by decide) (by (first|(rw [dX ‹_›];first|done|rfl)|(rw [du ‹_› lp];first|done|rfl)|(rw [dv ‹_› eC fU gJ ‹_›];first|done|rfl)|(rw [cR ‹_› eC fU gJ ‹_› ‹_›];first|done|rfl)|(rw [eO ‹_› eC fU gJ ‹_› ‹_›];first|done|rfl))))
  ·
   refine R.c (q.call qj rfl rfl (fun w hw=>(cv (congrArg (Value.int .i64) dF) (fc _ (r.Things) (fun (t:ah)=>t.ID==((au r p).1).ah) _ _ vZ w ((fun _=>Wd.old qw) w hw) (fun W t hW=>oE t (((au r p).1)) _ W (lM (hw.b 0 rfl) hW) ) )))) rfl<|R.u 1 rfl<|R.nil ?_
   refine R.reg rfl<|R.u 1 rfl<|R.q (q.lss rfl rfl (decide_eq_false (by omega))) rfl<|R.u 1 rfl<|R.qg rfl (q.a8 (off':=1) rfl bO rfl) rfl<|R.qg rfl (q.ld 3 rfl rfl cw rfl) rfl<|R.u 1 rfl<|R.qg rfl (q.idx (i:=ij) (fun _=>Wd.old qw) rfl rfl fb rfl eC) rfl<|R.qg rfl (q.dm (j':=1) (fun _=>Wd.old qw) eC rfl pG rfl) rfl<|R.qg rfl (q.fk (fun _=>Wd.old qw) eC rfl av rfl) rfl<|R.u 1 rfl<|?_
   by_cases h2:iA.Kind=kind
   ·
    refine R.qg rfl (q.neq rfl rfl (bne_eq_false_iff_eq.2 (by omega))) rfl<|R.u 1 rfl<|R.nil ?_
    refine R.aI rfl rfl ?_
    refine R.reg rfl<|R.q (q.a8 (off':=2) rfl f6 rfl) rfl<|R.q (q.ld 0 rfl rfl av rfl) rfl<|R.u 1 rfl<|?_
    rcases Bool.eq_false_or_eq_true (fB (((au r p).1).Rights) rights) with h3|h3
    ·
     refine R.c (q.call mX rfl rfl (fun w hw=>(cv (congrArg Value.bool h3) (eI (((au r p).1).Rights) (rights) w  (by omega) (by omega))))) rfl<|R.u 1 rfl<|R.nil ?_
     refine R.aI rfl rfl ?_
     refine R.reg rfl<|R.q (q.cT 0 rfl rfl aQ) rfl<|R.u 1 rfl<|R.s rfl (s.st (us:=aA ((au r p).1)) (cs':=aA ((au r p).1)) 1 _ rfl rfl rfl rfl (.inl aQ) rfl rfl rfl rfl) fun _=>R.u 2 rfl<|R.nil ?_
     exact R.Bv rfl Tryz.results80 (RV.cell 1 rfl rfl aQ) (RV.tmp rfl) (RV.tmp rfl) (congrArg aj.val (show ((au r p).1)=(aO r p kind rights).1 from by (first|(rw [dX ‹_›];first|done|rfl)|(rw [du ‹_› lp];first|done|rfl)|(rw [dv ‹_› eC fU gJ ‹_›];first|done|rfl)|(rw [cR ‹_› eC fU gJ ‹_› ‹_›];first|done|rfl)|(rw [eO ‹_› eC fU gJ ‹_› ‹_›];first|done|rfl)))) (rI (by (first|(rw [dX ‹_›];first|done|rfl)|(rw [du ‹_› lp];first|done|rfl)|(rw [dv ‹_› eC fU gJ ‹_›];first|done|rfl)|(rw [cR ‹_› eC fU gJ ‹_› ‹_›];first|done|rfl)|(rw [eO ‹_› eC fU gJ ‹_› ‹_›];first|done|rfl)))) (gO (by (first|(rw [dX ‹_›];first|done|rfl)|(rw [du ‹_› lp];first|done|rfl)|(rw [dv ‹_› eC fU gJ ‹_›];first|done|rfl)|(rw [cR ‹_› eC fU gJ ‹_› ‹_›];first|done|rfl)|(rw [eO ‹_› eC fU gJ ‹_› ‹_›];first|done|rfl))))
    ·
     refine R.c (q.call mX rfl rfl (fun w hw=>(cv (congrArg Value.bool h3) (eI (((au r p).1).Rights) (rights) w  (by omega) (by omega))))) rfl<|R.u 1 rfl<|R.nil ?_
     refine R.aD rfl rfl ?_
     refine R.reg rfl<|R.q (q.build (cs:=dw) gQ rfl rfl) rfl<|R.q (q.iface rfl bI) rfl<|R.s rfl (s.st (us:=dw) (cs':=dw) 1 _ rfl rfl rfl rfl (.inl aQ) rfl rfl rfl rfl) fun _=>R.u 2 rfl<|R.nil ?_
     exact R.Bv rfl Tryz.results80 (RV.cell 1 rfl rfl aQ) (RV.tmp rfl) (RV.tmp rfl) (congrArg aj.val (show (⟨0,0,0,0,0⟩:aj)=(aO r p kind rights).1 from by (first|(rw [dX ‹_›];first|done|rfl)|(rw [du ‹_› lp];first|done|rfl)|(rw [dv ‹_› eC fU gJ ‹_›];first|done|rfl)|(rw [cR ‹_› eC fU gJ ‹_› ‹_›];first|done|rfl)|(rw [eO ‹_› eC fU gJ ‹_› ‹_›];first|done|rfl)))) (rI (by (first|(rw [dX ‹_›];first|done|rfl)|(rw [du ‹_› lp];first|done|rfl)|(rw [dv ‹_› eC fU gJ ‹_›];first|done|rfl)|(rw [cR ‹_› eC fU gJ ‹_› ‹_›];first|done|rfl)|(rw [eO ‹_› eC fU gJ ‹_› ‹_›];first|done|rfl)))) (dP (by decide) (by (first|(rw [dX ‹_›];first|done|rfl)|(rw [du ‹_› lp];first|done|rfl)|(rw [dv ‹_› eC fU gJ ‹_›];first|done|rfl)|(rw [cR ‹_› eC fU gJ ‹_› ‹_›];first|done|rfl)|(rw [eO ‹_› eC fU gJ ‹_› ‹_›];first|done|rfl))))
   ·
    refine R.qg rfl (q.neq rfl rfl (bne_iff_ne.2 (by omega))) rfl<|R.u 1 rfl<|R.nil ?_
    refine R.aD rfl rfl ?_
    refine R.reg rfl<|R.q (q.build (cs:=dw) gQ rfl rfl) rfl<|R.q (q.iface rfl bI) rfl<|R.s rfl (s.st (us:=dw) (cs':=dw) 1 _ rfl rfl rfl rfl (.inl aQ) rfl rfl rfl rfl) fun _=>R.u 2 rfl<|R.nil ?_
    exact R.Bv rfl Tryz.results80 (RV.cell 1 rfl rfl aQ) (RV.tmp rfl) (RV.tmp rfl) (congrArg aj.val (show (⟨0,0,0,0,0⟩:aj)=(aO r p kind rights).1 from by (first|(rw [dX ‹_›];first|done|rfl)|(rw [du ‹_› lp];first|done|rfl)|(rw [dv ‹_› eC fU gJ ‹_›];first|done|rfl)|(rw [cR ‹_› eC fU gJ ‹_› ‹_›];first|done|rfl)|(rw [eO ‹_› eC fU gJ ‹_› ‹_›];first|done|rfl)))) (rI (by (first|(rw [dX ‹_›];first|done|rfl)|(rw [du ‹_› lp];first|done|rfl)|(rw [dv ‹_› eC fU gJ ‹_›];first|done|rfl)|(rw [cR ‹_› eC fU gJ ‹_› ‹_›];first|done|rfl)|(rw [eO ‹_› eC fU gJ ‹_› ‹_›];first|done|rfl)))) (dP (by decide) (by (first|(rw [dX ‹_›];first|done|rfl)|(rw [du ‹_› lp];first|done|rfl)|(rw [dv ‹_› eC fU gJ ‹_›];first|done|rfl)|(rw [cR ‹_› eC fU gJ ‹_› ‹_›];first|done|rfl)|(rw [eO ‹_› eC fU gJ ‹_› ‹_›];first|done|rfl))))
 ·
  refine R.q (q.fw rfl rfl Tryz.underlying35 (by omega)) rfl<|R.nil ?_
  refine R.aD rfl rfl ?_
  refine R.reg rfl<|R.q (q.build (cs:=dw) gQ rfl rfl) rfl<|R.u 1 rfl<|R.s rfl (s.st (us:=dw) (cs':=dw) 1 _ rfl rfl rfl rfl (.inl aQ) rfl rfl rfl rfl) fun _=>R.u 2 rfl<|R.nil ?_
  exact R.Bv rfl Tryz.results80 (RV.cell 1 rfl rfl aQ) (RV.tmp rfl) (RV.tmp rfl) (congrArg aj.val (show (⟨0,0,0,0,0⟩:aj)=(aO r p kind rights).1 from by (first|(rw [dX ‹_›];first|done|rfl)|(rw [du ‹_› lp];first|done|rfl)|(rw [dv ‹_› eC fU gJ ‹_›];first|done|rfl)|(rw [cR ‹_› eC fU gJ ‹_› ‹_›];first|done|rfl)|(rw [eO ‹_› eC fU gJ ‹_› ‹_›];first|done|rfl)))) (rI (by (first|(rw [dX ‹_›];first|done|rfl)|(rw [du ‹_› lp];first|done|rfl)|(rw [dv ‹_› eC fU gJ ‹_›];first|done|rfl)|(rw [cR ‹_› eC fU gJ ‹_› ‹_›];first|done|rfl)|(rw [eO ‹_› eC fU gJ ‹_› ‹_›];first|done|rfl)))) (rE (by (first|(rw [dX ‹_›];first|done|rfl)|(rw [du ‹_› lp];first|done|rfl)|(rw [dv ‹_› eC fU gJ ‹_›];first|done|rfl)|(rw [cR ‹_› eC fU gJ ‹_› ‹_›];first|done|rfl)|(rw [eO ‹_› eC fU gJ ‹_› ‹_›];first|done|rfl))))
theorem sL (aF az aC aB:Value)(r:ap)(p:Place)(d:ByteArray)(w:World)(own:List Nat)(H:Wd w (blks []++own) ([]++[ag.held w own]) [ag.ls aF (r.ai:List aj),ag.ls az (r.Things:List ah),ag.ls aC (r.Held:List Held),ag.ls aB (r.Notes:List Note)] w)(hk:Ok r):Calls Tryz.prog 35 #[.agg #[aF,az,aC,aB,iV r.ae,iV r.af],.agg #[iV p.ao,iV p.Slot],.string d] w fun e w' => ∃z:Value×Value×Value×Value,e = .returned (.tuple #[.agg #[z.1,z.2.1,z.2.2.1,z.2.2.2,iV ((((cq r p d)).1).ae),iV ((((cq r p d)).1).af)],e6 (((cq r p d)).2)])∧Wd w (blks []++own) ([]++[ag.held w own]) [ag.ls z.1 ((((cq r p d)).1).ai:List aj),ag.ls z.2.1 ((((cq r p d)).1).Things:List ah),ag.ls z.2.2.1 ((((cq r p d)).1).Held:List Held),ag.ls z.2.2.2 ((((cq r p d)).1).Notes:List Note)] w':=by
 have dR:=H.cX 0 rfl
 have dq:=H.cX 1 rfl
 have eK:=H.cX 2 rfl
 have dS:=H.cX 3 rfl
 have bw:=hk.wl;have bt:=hk.tl;have bh:=hk.hl;have bn:=hk.nl;have xF:=hk.w0;have xG:=hk.w1;have xH:=hk.t0;have xI:=hk.t1
 refine R.dc (n:=38) (vs:=[.agg #[aF,az,aC,aB,iV r.ae,iV r.af],.agg #[iV p.ao,iV p.Slot],.string d]) (B:=[ag.held w own]) [(0,.agg #[aF,az,aC,aB,iV r.ae,iV r.af]),(1,.agg #[iV p.ao,iV p.Slot]),(2,.string d)] Tryz.func35 rfl rfl rfl rfl H ?_
 refine R.reg rfl<|R.s rfl (s.box (cs:=[aF,az,aC,aB,iV r.ae,iV r.af]) rfl rfl rfl) fun b1=>R.s rfl (s.box (cs:=aE p) rfl rfl rfl) fun b2=>R.s rfl (s.alloc (cs:=aJ) cD rfl rfl) fun b3=>R.u 1 rfl<|R.nil ?_
 refine R.reg rfl<|R.q (q.cT 2 rfl rfl ar) rfl<|R.q (q.cT 1 rfl rfl br) rfl<|R.c (q.call vV rfl rfl (fun w hw=>(oG _ _ _ _ (r) (p) (1) (2) w (hw.aT 0 rfl) (hw.aT 1 rfl) (hw.aT 2 rfl) (hw.aT 3 rfl) ‹_› (by omega)))) rfl<|R.u 4 rfl<|R.s rfl (s.alloc (cs:=dw) bE rfl rfl) fun b4=>R.s rfl (s.st (us:=aA ((aO r p 1 2).1)) (cs':=aA ((aO r p 1 2).1)) 0 _ rfl rfl rfl rfl (.inl aQ) rfl rfl rfl rfl) fun _=>R.u 2 rfl<|R.nil ?_
 refine R.reg rfl<|R.u 1 rfl<|?_
 by_cases h1:(aO r p 1 2).2.2=0
 ·
  obtain ⟨m1,m2,m3,i,ix,ik,ih,ii,id,ib⟩:=kD h1;have iB:=(List.getElem?_eq_some_iff.1 ih).1
  refine R.q (q.fr rfl rfl Tryz.underlying35 (by omega)) rfl<|R.nil ?_
  refine R.aI rfl rfl ?_
  refine R.reg rfl<|R.u 1 rfl<|R.q (q.lh rfl Tryz.underlying9) rfl<|?_
  by_cases h2:8<d.size
  ·
   refine R.q (q.gtr rfl rfl (decide_eq_true (by omega))) rfl<|R.nil ?_
   refine R.aD rfl rfl ?_
   refine R.reg rfl<|R.q (q.build (cs:=aJ) cY rfl rfl) rfl<|R.q (q.iface rfl bI) rfl<|R.s rfl (s.st (us:=aJ) (cs':=aJ) 1 _ rfl rfl rfl rfl (.inl ar) rfl rfl rfl rfl) fun _=>R.u 1 rfl<|R.nil ?_
   refine R.mp (fun _ hw=>hw.bg (α:=aj)) ?_
   refine R.mp (fun _ hw=>hw.bg (α:=ah)) ?_
   refine R.mp (fun _ hw=>hw.bg (α:=Held)) ?_
   refine R.mp (fun _ hw=>hw.bg (α:=Note)) ?_
   have hz:cq r p d=((⟨[],[],[],[],0,0⟩:ap),2):=by (unfold cq eP;(repeat' split) <;> first|rfl|(exfalso;omega)|(simp_all;done))
   rw [hz]
   exact R.w2 ((nS),(nS),(nS),(nS)) [4] [3,2,1,0] rfl Tryz.results35 (RV.cell 1 rfl rfl ar) (RV.tmp rfl) rfl rfl rfl (cL rfl (dP (by decide) rfl))
  ·
   refine R.q (q.gtr rfl rfl (decide_eq_false (by omega))) rfl<|R.nil ?_
   refine R.aI rfl rfl ?_
   refine R.reg rfl<|R.q (q.a8 (off':=1) rfl bO rfl) rfl<|R.q (q.ld 3 rfl rfl cw rfl) rfl<|R.s (B':=(fun aH:Value=>[ag.row 62 aH (r.Things:List ah),ag.box b4 (aA ((aO r p 1 2).1)) 88,ag.box b3 aJ 32,ag.box b2 (aE p) 39,ag.box b1 [aF,az,aC,aB,iV r.ae,iV r.af] 32,ag.held w own])) (F':=(fun aH:Value=>[ag.ls aF (r.ai:List aj),ag.ls az (r.Things:List ah),ag.ls aC (r.Held:List Held),ag.ls aB (r.Notes:List Note)])) rfl (s.bJ (B0:=[]) (Br:=[ag.box b4 (aA ((aO r p 1 2).1)) 88,ag.box b3 aJ 32,ag.box b2 (aE p) 39,ag.box b1 [aF,az,aC,aB,iV r.ae,iV r.af] 32,ag.held w own]) (F0:=[ag.ls az (r.Things:List ah)]) [0,1,2,3,4] [1] (fun aH:Value=>aH) (fun aH:Value=>[ag.row 62 aH (r.Things:List ah)]) (fun aH:Value=>[]) rfl rfl rfl tO rfl rfl (fun w own hw H=>gx az (r.Things) w own H (by first|omega|assumption|(simp;done)|(simp;omega))) rfl) fun z1=>R.q (q.a8 (off':=1) rfl bO rfl) rfl<|R.s rfl (s.e8 (us:=[z1]) (cs':=[aF,z1,aC,aB,iV r.ae,iV r.af]) 4 _ rfl rfl rfl (fun w hw=>Sl.cJ (hw.row 0 rfl)) (.inr ⟨cw,rfl⟩) (fun w hw=>(ak (Sl.one (hw.row 0 rfl)) aS)) rfl rfl rfl) fun _=>R.nil ?_
   refine R.reg rfl<|R.q (q.a8 (off':=1) rfl bO rfl) rfl<|R.q (q.ld 4 rfl rfl cw rfl) rfl<|R.u 2 rfl<|?_
   obtain ⟨x1,hx1⟩:∃z,r.Things[((aO r p 1 2).2.1).toNat]? = some z:=⟨_,List.getElem?_eq_getElem (by omega)⟩
   refine R.q (q.idx (i:=((aO r p 1 2).2.1).toNat) (fun _=>Wd.row 0 rfl) rfl rfl fb (by omega) hx1) rfl<|R.q (q.dm (j':=2) (fun _=>Wd.row 0 rfl) hx1 rfl pH rfl) rfl<|R.s rfl (s.stP (o:=2) (z:=(⟨x1.ID,x1.Kind,d⟩:ah)) (us:=[.string d]) 0 _ rfl hx1 rfl rfl rfl rfl rfl (by simp [Value.oneCell']) (.inr ⟨bF,rfl⟩) rfl) fun _=>R.nil ?_
   refine R.reg rfl<|R.q (q.cT 4 rfl rfl ar) rfl<|R.s rfl (s.e8 (us:=[aF,z1,aC,aB,iV r.ae,iV r.af]) (cs':=[aF,z1,aC,aB,iV r.ae,iV r.af]) 2 _ rfl rfl rfl (fun _ _=>rfl) (.inl ar) (fun w hw=>(ak (Sl.one (hw.aT 0 rfl)) (ak (Sl.one (hw.row 0 rfl)) (ak (Sl.one (hw.aT 2 rfl)) (ak (Sl.one (hw.aT 3 rfl)) (ak rfl (ak rfl aS))))))) rfl rfl rfl) fun _=>R.u 1 rfl<|R.nil ?_
   refine R.mp (B':=[ag.box b4 (aA ((aO r p 1 2).1)) 88,ag.box b3 [aF,z1,aC,aB,iV r.ae,iV r.af] 32,ag.box b2 (aE p) 39,ag.box b1 [aF,z1,aC,aB,iV r.ae,iV r.af] 32,ag.held w own]) (fun _ hw=>hw.di 0 _ rfl rfl) ?_
   have hz:cq r p d=((⟨r.ai,(r.Things.set (((aO r p 1 2).2.1).toNat) (⟨x1.ID,x1.Kind,d⟩:ah)),r.Held,r.Notes,r.ae,r.af⟩:ap),0):=by (unfold cq eP;(repeat' split) <;> first|rfl|(exfalso;omega)|(simp_all;done))
   rw [hz]
   exact R.w2 (aF,z1,aC,aB) [4] [1,0,3,4] rfl Tryz.results35 (RV.cell 1 rfl rfl ar) (RV.tmp rfl) rfl rfl rfl (cL rfl (gO rfl))
 ·
  refine R.q (q.fw rfl rfl Tryz.underlying35 (by omega)) rfl<|R.nil ?_
  refine R.aD rfl rfl ?_
  refine R.reg rfl<|R.q (q.build (cs:=aJ) cY rfl rfl) rfl<|R.u 1 rfl<|R.s rfl (s.st (us:=aJ) (cs':=aJ) 1 _ rfl rfl rfl rfl (.inl ar) rfl rfl rfl rfl) fun _=>R.u 1 rfl<|R.nil ?_
  refine R.mp (fun _ hw=>hw.bg (α:=aj)) ?_
  refine R.mp (fun _ hw=>hw.bg (α:=ah)) ?_
  refine R.mp (fun _ hw=>hw.bg (α:=Held)) ?_
  refine R.mp (fun _ hw=>hw.bg (α:=Note)) ?_
  have hz:cq r p d=((⟨[],[],[],[],0,0⟩:ap),(aO r p 1 2).2.2):=by (unfold cq eP;(repeat' split) <;> first|rfl|(exfalso;omega)|(simp_all;done))
  rw [hz]
  exact R.w2 ((nS),(nS),(nS),(nS)) [4] [3,2,1,0] rfl Tryz.results35 (RV.cell 1 rfl rfl ar) (RV.tmp rfl) rfl rfl rfl (cL rfl rfl)
set_option maxRecDepth 100000 in
theorem uY (aF az aC aB:Value)(r:ap)(p:Place)(d:ByteArray)(slot:Int)(rights:Int)(w:World)(own:List Nat)(H:Wd w (blks []++own) ([]++[ag.held w own]) [ag.ls aF (r.ai:List aj),ag.ls az (r.Things:List ah),ag.ls aC (r.Held:List Held),ag.ls aB (r.Notes:List Note)] w)(hk:Ok r):Calls Tryz.prog 36 #[.agg #[aF,az,aC,aB,iV r.ae,iV r.af],.agg #[iV p.ao,iV p.Slot],.string d,iV slot,iV rights] w fun e w' => ∃z:Value×Value×Value×Value,e = .returned (.tuple #[.agg #[z.1,z.2.1,z.2.2.1,z.2.2.2,iV ((((bZ r p d slot rights)).1).ae),iV ((((bZ r p d slot rights)).1).af)],e6 (((bZ r p d slot rights)).2)])∧Wd w (blks []++own) ([]++[ag.held w own]) [ag.ls z.1 ((((bZ r p d slot rights)).1).ai:List aj),ag.ls z.2.1 ((((bZ r p d slot rights)).1).Things:List ah),ag.ls z.2.2.1 ((((bZ r p d slot rights)).1).Held:List Held),ag.ls z.2.2.2 ((((bZ r p d slot rights)).1).Notes:List Note)] w':=by
 have dR:=H.cX 0 rfl
 have dq:=H.cX 1 rfl
 have eK:=H.cX 2 rfl
 have dS:=H.cX 3 rfl
 have bw:=hk.wl;have bt:=hk.tl;have bh:=hk.hl;have bn:=hk.nl;have xF:=hk.w0;have xG:=hk.w1;have xH:=hk.t0;have xI:=hk.t1
 refine R.dc (n:=116) (vs:=[.agg #[aF,az,aC,aB,iV r.ae,iV r.af],.agg #[iV p.ao,iV p.Slot],.string d,iV slot,iV rights]) (B:=[ag.held w own]) [(0,.agg #[aF,az,aC,aB,iV r.ae,iV r.af]),(1,.agg #[iV p.ao,iV p.Slot]),(2,.string d),(3,iV slot),(4,iV rights)] Tryz.func36 rfl rfl rfl rfl H ?_
 refine R.reg rfl<|R.s rfl (s.box (cs:=[aF,az,aC,aB,iV r.ae,iV r.af]) rfl rfl rfl) fun b1=>R.s rfl (s.box (cs:=aE p) rfl rfl rfl) fun b2=>R.s rfl (s.alloc (cs:=aJ) cD rfl rfl) fun b3=>R.u 1 rfl<|R.nil ?_
 refine R.reg rfl<|R.q (q.cT 2 rfl rfl ar) rfl<|R.q (q.cT 1 rfl rfl br) rfl<|R.c (q.call vV rfl rfl (fun w hw=>(oG _ _ _ _ (r) (p) (2) (2) w (hw.aT 0 rfl) (hw.aT 1 rfl) (hw.aT 2 rfl) (hw.aT 3 rfl) ‹_› (by omega)))) rfl<|R.u 4 rfl<|R.s rfl (s.alloc (cs:=dw) bE rfl rfl) fun b4=>R.s rfl (s.st (us:=aA ((aO r p 2 2).1)) (cs':=aA ((aO r p 2 2).1)) 0 _ rfl rfl rfl rfl (.inl aQ) rfl rfl rfl rfl) fun _=>R.u 2 rfl<|R.nil ?_
 refine R.reg rfl<|R.u 1 rfl<|?_
 by_cases h1:(aO r p 2 2).2.2=0
 ·
  have mz:=kD h1;have mr:=hk.get mz.1;rw [← mz.2.1] at mr
  refine R.q (q.fr rfl rfl Tryz.underlying35 (by omega)) rfl<|R.nil ?_
  refine R.aI rfl rfl ?_
  refine R.reg rfl<|R.u 1 rfl<|R.q (q.lh rfl Tryz.underlying9) rfl<|?_
  by_cases h2:8<d.size
  ·
   refine R.q (q.gtr rfl rfl (decide_eq_true (by omega))) rfl<|R.nil ?_
   refine R.aD rfl rfl ?_
   refine R.reg rfl<|R.q (q.build (cs:=aJ) cY rfl rfl) rfl<|R.q (q.iface rfl bI) rfl<|R.s rfl (s.st (us:=aJ) (cs':=aJ) 1 _ rfl rfl rfl rfl (.inl ar) rfl rfl rfl rfl) fun _=>R.u 1 rfl<|R.nil ?_
   refine R.mp (fun _ hw=>hw.bg (α:=aj)) ?_
   refine R.mp (fun _ hw=>hw.bg (α:=ah)) ?_
   refine R.mp (fun _ hw=>hw.bg (α:=Held)) ?_
   refine R.mp (fun _ hw=>hw.bg (α:=Note)) ?_
   have hz:bZ r p d slot rights=((⟨[],[],[],[],0,0⟩:ap),2):=by (unfold bZ;(repeat' split) <;> first|rfl|(exfalso;omega)|(simp_all;done))
   rw [hz]
   exact R.w2 ((nS),(nS),(nS),(nS)) [4] [3,2,1,0] rfl Tryz.results36 (RV.cell 1 rfl rfl ar) (RV.tmp rfl) rfl rfl rfl (cL rfl (dP (by decide) rfl))
  ·
   refine R.q (q.gtr rfl rfl (decide_eq_false (by omega))) rfl<|R.nil ?_
   refine R.aI rfl rfl ?_
   refine R.reg rfl<|R.u 1 rfl<|R.nil ?_
   refine R.reg rfl<|R.q (q.a8 (off':=3) rfl bR rfl) rfl<|R.q (q.ld 3 rfl rfl cy rfl) rfl<|R.q (q.len' (fun _=>Wd.aT 3 rfl) rfl Tryz.underlying30) rfl<|R.u 1 rfl<|R.nil ?_
   refine R.loop (fun g_:Nat×Nat=>[(2,.string d),(3,iV slot),(4,iV rights),(5,.pointer (some ⟨b1,0,none⟩)),(6,.pointer (some ⟨b2,0,none⟩)),(10,.pointer (some ⟨b3,0,none⟩)),(12,.pointer (some ⟨b4,0,none⟩)),(15,iV (g_.2:Int)),(39,aB),(40,iV (r.Notes.length:Int)),(41,iV (g_.1:Int))]) (fun g_:Nat×Nat=>[ag.box b4 (aA ((aO r p 2 2).1)) 88,ag.box b3 aJ 32,ag.box b2 (aE p) 39,ag.box b1 [aF,az,aC,aB,iV r.ae,iV r.af] 32,ag.held w own]) (fun g_:Nat×Nat=>[ag.ls aF (r.ai:List aj),ag.ls az (r.Things:List ah),ag.ls aC (r.Held:List Held),ag.ls aB (r.Notes:List Note)]) (fun g_:Nat×Nat=>g_.1≤r.Notes.length∧g_.2=ey (r.Notes.take g_.1) (aO r p 2 2).1.ah) (fun g_:Nat×Nat=>r.Notes.length-g_.1) (0,0) rfl (by exact ⟨by omega,by simp [ey]⟩) ⟨rfl,rfl,rfl,rfl,rfl,rfl,rfl,rfl,rfl,rfl,rfl,trivial⟩ (fun _=>Wd.pick [0,1,2,3,4] [0,1,2,3] rfl rfl rfl) ?_
   rintro ⟨k,c⟩ ⟨hk1,HC⟩
   dsimp only at *
   have hc1:c≤k:=by rw [HC];exact yk
   refine R.reg rfl<|?_
   by_cases h3:k<r.Notes.length
   ·
    refine R.q (q.lss rfl rfl (decide_eq_true (by omega))) rfl<|R.nil ?_
    refine R.aD rfl rfl ?_
    refine R.reg rfl<|?_
    obtain ⟨x1,hx1⟩:∃z,r.Notes[k]? = some z:=⟨_,List.getElem?_eq_getElem (by omega)⟩
    refine R.q (q.idx (i:=k) (fun _=>Wd.aT 3 rfl) rfl rfl dW rfl hx1) rfl<|R.q (q.dD (ds:=cb x1) (fun _=>Wd.aT 3 rfl) hx1 rfl cm rfl) rfl<|R.s rfl (s.alloc (cs:=[iV 0,.string (⟨#[]⟩),iV 0,iV 0]) dC rfl rfl) fun b5=>R.s rfl (s.st (us:=cb x1) (cs':=cb x1) 0 _ rfl rfl rfl rfl (.inl cm) rfl rfl rfl rfl) fun _=>R.nil ?_
    refine R.reg rfl<|R.q (q.a8 (off':=0) rfl kz rfl) rfl<|R.q (q.ld 0 rfl rfl av rfl) rfl<|R.q (q.a8 (off':=1) rfl eU rfl) rfl<|R.q (q.ld 1 rfl rfl av rfl) rfl<|?_
    by_cases h4:x1.Port=((aO r p 2 2).1).ah
    ·
     refine R.q (q.eql rfl rfl (beq_iff_eq.2 (by omega))) rfl<|R.nil ?_
     refine R.aD rfl rfl ?_
     refine R.reg rfl<|R.u 1 rfl<|R.q (q.add (r:=((c+1:Nat):Int)) rfl rfl (wr (by omega))) rfl<|R.u 1 rfl<|R.nil ?_
     refine R.reg rfl<|R.q (q.add (r:=((k+1:Nat):Int)) rfl rfl (wr (by omega))) rfl<|R.u 1 rfl<|R.nil ?_
     refine R.back ((k+1),(c+1)) rfl (by (exact ⟨by omega,by rw [wH hx1 ‹_›,HC]⟩)) (by dsimp only;omega) ⟨rfl,rfl,rfl,rfl,rfl,rfl,rfl,rfl,rfl,rfl,rfl,trivial⟩ (fun _=>Wd.aM [1,2,3,4,5] [0,1,2,3] rfl rfl rfl)
    ·
     refine R.q (q.eql rfl rfl (beq_eq_false_iff_ne.2 (by omega))) rfl<|R.nil ?_
     refine R.aI rfl rfl ?_
     refine R.reg rfl<|R.q (q.add (r:=((k+1:Nat):Int)) rfl rfl (wr (by omega))) rfl<|R.u 1 rfl<|R.nil ?_
     refine R.back ((k+1),c) rfl (by (exact ⟨by omega,by rw [uT hx1 ‹_›,HC]⟩)) (by dsimp only;omega) ⟨rfl,rfl,rfl,rfl,rfl,rfl,rfl,rfl,rfl,rfl,rfl,trivial⟩ (fun _=>Wd.aM [1,2,3,4,5] [0,1,2,3] rfl rfl rfl)
   ·
    refine R.q (q.lss rfl rfl (decide_eq_false (by omega))) rfl<|R.nil ?_
    refine R.aI rfl rfl ?_
    refine R.reg rfl<|R.u 1 rfl<|?_
    by_cases h5:c=3
    ·
     refine R.q (q.eql rfl rfl (beq_iff_eq.2 (by omega))) rfl<|R.nil ?_
     refine R.aD rfl rfl ?_
     refine R.reg rfl<|R.q (q.build (cs:=aJ) cY rfl rfl) rfl<|R.q (q.iface rfl bI) rfl<|R.s rfl (s.st (us:=aJ) (cs':=aJ) 1 _ rfl rfl rfl rfl (.inl ar) rfl rfl rfl rfl) fun _=>R.u 1 rfl<|R.nil ?_
     refine R.mp (fun _ hw=>hw.bg (α:=aj)) ?_
     refine R.mp (fun _ hw=>hw.bg (α:=ah)) ?_
     refine R.mp (fun _ hw=>hw.bg (α:=Held)) ?_
     refine R.mp (fun _ hw=>hw.bg (α:=Note)) ?_
     have hz:bZ r p d slot rights=((⟨[],[],[],[],0,0⟩:ap),9):=by (rw [List.take_of_length_le (by omega)] at HC;subst HC;unfold bZ;(repeat' split) <;> first|rfl|(exfalso;omega)|(simp_all;done))
     rw [hz]
     exact R.w2 ((nS),(nS),(nS),(nS)) [4] [3,2,1,0] rfl Tryz.results36 (RV.cell 1 rfl rfl ar) (RV.tmp rfl) rfl rfl rfl (cL rfl (dP (by decide) rfl))
    ·
     refine R.q (q.eql rfl rfl (beq_eq_false_iff_ne.2 (by omega))) rfl<|R.nil ?_
     refine R.aI rfl rfl ?_
     refine R.reg rfl<|R.q (q.a8 (off':=1) rfl eU rfl) rfl<|R.q (q.ld 0 rfl rfl av rfl) rfl<|R.u 1 rfl<|R.q (q.a8 (off':=3) rfl f7 rfl) rfl<|R.q (q.ld 0 rfl rfl av rfl) rfl<|R.q (q.build (cs:=[iV (((aO r p 2 2).1).ah),.string d,iV (((aO r p 2 2).1).aG),iV 0]) tJ rfl rfl) rfl<|R.s rfl (s.alloc (cs:=[iV 0,.string (⟨#[]⟩),iV 0,iV 0]) dC rfl rfl) fun b6=>R.s rfl (s.st (us:=[iV (((aO r p 2 2).1).ah),.string d,iV (((aO r p 2 2).1).aG),iV 0]) (cs':=[iV (((aO r p 2 2).1).ah),.string d,iV (((aO r p 2 2).1).aG),iV 0]) 0 _ rfl rfl rfl rfl (.inl cm) rfl rfl rfl rfl) fun _=>R.nil ?_
     refine R.reg rfl<|R.u 1 rfl<|?_
     by_cases h6:slot<0
     ·
      refine R.q (q.geq rfl rfl (decide_eq_false (by omega))) rfl<|R.nil ?_
      refine R.aI rfl rfl ?_
      refine R.gN (fuel:=8) (Wd w (blks []++own) [ag.box b6 [iV (((aO r p 2 2).1).ah),.string d,iV (((aO r p 2 2).1).aG),iV 0] 72,ag.box b4 (aA ((aO r p 2 2).1)) 88,ag.box b3 aJ 32,ag.box b2 (aE p) 39,ag.held w own] [ag.ls aF (r.ai:List aj),ag.ls az (r.Things:List ah),ag.ls aC (r.Held:List Held),ag.ls aB (r.Notes:List Note)]) rfl mixed rfl ?_
      refine D.q (i:=0) rfl (by kernel_rfl) (fun _=>Wd.aM [0,1,2,3,5] [0,1,2,3] rfl rfl rfl) rfl (q.a8 (off':=3) rfl bR rfl) rfl<|D.q (i:=3) rfl (by kernel_rfl) (fun _=>Wd.aM [0,1,2,3,5] [0,1,2,3] rfl rfl rfl) rfl (q.cT 0 rfl rfl cm) rfl<|D.two (i:=1) (j:=4) (by kernel_rfl) rfl rfl ?_ ?_
      ·
       refine Do.s (s.c (Qt.a (q.ld 4 rfl rfl cy rfl)) rfl) (fun _=>(fun _=>Wd.aM [0,1,2,3,5] [0,1,2,3] rfl rfl rfl)) rfl fun _=>D.two (i:=2) (j:=4) (by kernel_rfl) rfl rfl ?_ ?_
       ·
        refine Do.s (B':=(fun aH:Value=>[ag.row 72 aH (r.Notes:List Note),ag.box b6 [iV (((aO r p 2 2).1).ah),.string d,iV (((aO r p 2 2).1).aG),iV 0] 72,ag.box b4 (aA ((aO r p 2 2).1)) 88,ag.box b3 aJ 32,ag.box b2 (aE p) 39,ag.box b1 [aF,az,aC,aB,iV r.ae,iV r.af] 32,ag.held w own])) (F':=(fun aH:Value=>[ag.ls aF (r.ai:List aj),ag.ls az (r.Things:List ah),ag.ls aC (r.Held:List Held),ag.ls aB (r.Notes:List Note)])) (s.bJ (B0:=[]) (Br:=[ag.box b6 [iV (((aO r p 2 2).1).ah),.string d,iV (((aO r p 2 2).1).aG),iV 0] 72,ag.box b4 (aA ((aO r p 2 2).1)) 88,ag.box b3 aJ 32,ag.box b2 (aE p) 39,ag.box b1 [aF,az,aC,aB,iV r.ae,iV r.af] 32,ag.held w own]) (F0:=[ag.ls aB (r.Notes:List Note)]) [0,1,2,3,4,5] [3] (fun aH:Value=>aH) (fun aH:Value=>[ag.row 72 aH (r.Notes:List Note)]) (fun aH:Value=>[]) rfl rfl rfl mZ rfl rfl (fun w own hw H=>ea aB (r.Notes) w own H (by first|omega|assumption|(simp;done)|(simp;omega))) rfl) (fun _=>(fun _=>Wd.aM [1,2,3,4,6] [0,1,2,3] rfl rfl rfl)) rfl fun z2=>D.one (i:=4) (by kernel_rfl) rfl ?_
        refine Do.s (s.bs (l:=([(⟨((aO r p 2 2).1).ah,d,((aO r p 2 2).1).aG,0⟩:Note)]:List Note)) dW dC rfl rfl rfl rfl rfl rfl rfl) (fun _=>(fun _=>Wd.aM [2,3,4,5,7] [0,1,2,3] rfl rfl rfl)) rfl fun b7=>D.one (i:=5) (by kernel_rfl) rfl ?_
        refine Do.s (s.app (l2:=[(⟨((aO r p 2 2).1).ah,d,((aO r p 2 2).1).aG,0⟩:Note)]) 1 _ rfl rfl rfl (fun _=>Wd.row 0 rfl) gj (by first|omega|(simp;omega)) (by first|omega|(simp;omega)) (fun _=>rfl) rfl) (fun _=>(fun _=>Wd.aM [2,3,4,5,7] [0,1,2,3] rfl rfl rfl)) rfl fun v1=>D.q (i:=6) rfl (by kernel_rfl) (fun _=>Wd.aM [2,3,4,5,7] [0,1,2,3] rfl rfl rfl) rfl (q.a8 (off':=3) rfl bR rfl) rfl<|D.one (i:=7) (by kernel_rfl) rfl ?_
        refine Do.s (s.e8 (us:=[v1]) (cs':=[aF,az,aC,v1,iV r.ae,iV r.af]) 6 _ rfl rfl rfl (fun w hw=>Sl.cJ (hw.row 1 rfl)) (.inr ⟨cy,rfl⟩) (fun w hw=>(ak (Sl.one (hw.row 1 rfl)) aS)) rfl rfl rfl) (fun _=>(fun _=>Wd.aM [2,3,4,5,7] [0,1,2,3] rfl rfl rfl)) rfl fun _=>D.done (by kernel_rfl)<|R.reg rfl<|R.q (q.cT 6 rfl rfl ar) rfl<|R.s rfl (s.e8 (us:=[aF,az,aC,v1,iV r.ae,iV r.af]) (cs':=[aF,az,aC,v1,iV r.ae,iV r.af]) 4 _ rfl rfl rfl (fun _ _=>rfl) (.inl ar) (fun w hw=>(ak (Sl.one (hw.aT 0 rfl)) (ak (Sl.one (hw.aT 1 rfl)) (ak (Sl.one (hw.aT 2 rfl)) (ak (Sl.one (hw.row 1 rfl)) (ak rfl (ak rfl aS))))))) rfl rfl rfl) fun _=>R.u 1 rfl<|R.nil ?_
        refine R.mp (B':=[ag.row 72 (.slice (some ⟨b7,0,none⟩) 1 1) ([(⟨((aO r p 2 2).1).ah,d,((aO r p 2 2).1).aG,0⟩:Note)]:List Note),ag.box b6 [iV (((aO r p 2 2).1).ah),.string d,iV (((aO r p 2 2).1).aG),iV 0] 72,ag.box b4 (aA ((aO r p 2 2).1)) 88,ag.box b3 [aF,az,aC,v1,iV r.ae,iV r.af] 32,ag.box b2 (aE p) 39,ag.box b1 [aF,az,aC,v1,iV r.ae,iV r.af] 32,ag.held w own]) (fun _ hw=>hw.di 1 _ rfl rfl) ?_
        have hz:bZ r p d slot rights=((⟨r.ai,r.Things,r.Held,(r.Notes++([(⟨((aO r p 2 2).1).ah,d,((aO r p 2 2).1).aG,0⟩:Note)])),r.ae,r.af⟩:ap),0):=by (rw [List.take_of_length_le (by omega)] at HC;subst HC;unfold bZ;(repeat' split) <;> first|rfl|(exfalso;omega)|(simp_all;done))
        rw [hz]
        exact R.w2 (aF,az,aC,v1) [6] [1,2,3,0] rfl Tryz.results36 (RV.cell 3 rfl rfl ar) (RV.tmp rfl) rfl rfl rfl (cL rfl (gO rfl))
       ·
        refine Do.s (s.bs (l:=([(⟨((aO r p 2 2).1).ah,d,((aO r p 2 2).1).aG,0⟩:Note)]:List Note)) dW dC rfl rfl rfl rfl rfl rfl rfl) (fun _=>(fun _=>Wd.aM [1,2,3,4,6] [0,1,2,3] rfl rfl rfl)) rfl fun b8=>D.one (i:=2) (by kernel_rfl) rfl ?_
        refine Do.s (B':=(fun aH:Value=>[ag.row 72 aH (r.Notes:List Note),ag.row 72 (.slice (some ⟨b8,0,none⟩) 1 1) ([(⟨((aO r p 2 2).1).ah,d,((aO r p 2 2).1).aG,0⟩:Note)]:List Note),ag.box b6 [iV (((aO r p 2 2).1).ah),.string d,iV (((aO r p 2 2).1).aG),iV 0] 72,ag.box b4 (aA ((aO r p 2 2).1)) 88,ag.box b3 aJ 32,ag.box b2 (aE p) 39,ag.box b1 [aF,az,aC,aB,iV r.ae,iV r.af] 32,ag.held w own])) (F':=(fun aH:Value=>[ag.ls aF (r.ai:List aj),ag.ls az (r.Things:List ah),ag.ls aC (r.Held:List Held),ag.ls aB (r.Notes:List Note)])) (s.bJ (B0:=[]) (Br:=[ag.row 72 (.slice (some ⟨b8,0,none⟩) 1 1) ([(⟨((aO r p 2 2).1).ah,d,((aO r p 2 2).1).aG,0⟩:Note)]:List Note),ag.box b6 [iV (((aO r p 2 2).1).ah),.string d,iV (((aO r p 2 2).1).aG),iV 0] 72,ag.box b4 (aA ((aO r p 2 2).1)) 88,ag.box b3 aJ 32,ag.box b2 (aE p) 39,ag.box b1 [aF,az,aC,aB,iV r.ae,iV r.af] 32,ag.held w own]) (F0:=[ag.ls aB (r.Notes:List Note)]) [0,1,2,3,4,5,6] [3] (fun aH:Value=>aH) (fun aH:Value=>[ag.row 72 aH (r.Notes:List Note)]) (fun aH:Value=>[]) rfl rfl rfl mZ rfl rfl (fun w own hw H=>ea aB (r.Notes) w own H (by first|omega|assumption|(simp;done)|(simp;omega))) rfl) (fun _=>(fun _=>Wd.aM [2,3,4,5,7] [0,1,2,3] rfl rfl rfl)) rfl fun z3=>D.one (i:=5) (by kernel_rfl) rfl ?_
        refine Do.s (s.app (l2:=[(⟨((aO r p 2 2).1).ah,d,((aO r p 2 2).1).aG,0⟩:Note)]) 0 _ rfl rfl rfl (fun _=>Wd.row 1 rfl) gj (by first|omega|(simp;omega)) (by first|omega|(simp;omega)) (fun _=>rfl) rfl) (fun _=>(fun _=>Wd.aM [2,3,4,5,7] [0,1,2,3] rfl rfl rfl)) rfl fun v2=>D.q (i:=6) rfl (by kernel_rfl) (fun _=>Wd.aM [2,3,4,5,7] [0,1,2,3] rfl rfl rfl) rfl (q.a8 (off':=3) rfl bR rfl) rfl<|D.one (i:=7) (by kernel_rfl) rfl ?_
        refine Do.s (s.e8 (us:=[v2]) (cs':=[aF,az,aC,v2,iV r.ae,iV r.af]) 6 _ rfl rfl rfl (fun w hw=>Sl.cJ (hw.row 0 rfl)) (.inr ⟨cy,rfl⟩) (fun w hw=>(ak (Sl.one (hw.row 0 rfl)) aS)) rfl rfl rfl) (fun _=>(fun _=>Wd.aM [2,3,4,5,7] [0,1,2,3] rfl rfl rfl)) rfl fun _=>D.done (by kernel_rfl)<|R.reg rfl<|R.q (q.cT 6 rfl rfl ar) rfl<|R.s rfl (s.e8 (us:=[aF,az,aC,v2,iV r.ae,iV r.af]) (cs':=[aF,az,aC,v2,iV r.ae,iV r.af]) 4 _ rfl rfl rfl (fun _ _=>rfl) (.inl ar) (fun w hw=>(ak (Sl.one (hw.aT 0 rfl)) (ak (Sl.one (hw.aT 1 rfl)) (ak (Sl.one (hw.aT 2 rfl)) (ak (Sl.one (hw.row 0 rfl)) (ak rfl (ak rfl aS))))))) rfl rfl rfl) fun _=>R.u 1 rfl<|R.nil ?_
        refine R.mp (B':=[ag.row 72 (.slice (some ⟨b8,0,none⟩) 1 1) ([(⟨((aO r p 2 2).1).ah,d,((aO r p 2 2).1).aG,0⟩:Note)]:List Note),ag.box b6 [iV (((aO r p 2 2).1).ah),.string d,iV (((aO r p 2 2).1).aG),iV 0] 72,ag.box b4 (aA ((aO r p 2 2).1)) 88,ag.box b3 [aF,az,aC,v2,iV r.ae,iV r.af] 32,ag.box b2 (aE p) 39,ag.box b1 [aF,az,aC,v2,iV r.ae,iV r.af] 32,ag.held w own]) (fun _ hw=>hw.di 0 _ rfl rfl) ?_
        have hz:bZ r p d slot rights=((⟨r.ai,r.Things,r.Held,(r.Notes++([(⟨((aO r p 2 2).1).ah,d,((aO r p 2 2).1).aG,0⟩:Note)])),r.ae,r.af⟩:ap),0):=by (rw [List.take_of_length_le (by omega)] at HC;subst HC;unfold bZ;(repeat' split) <;> first|rfl|(exfalso;omega)|(simp_all;done))
        rw [hz]
        exact R.w2 (aF,az,aC,v2) [6] [1,2,3,0] rfl Tryz.results36 (RV.cell 3 rfl rfl ar) (RV.tmp rfl) rfl rfl rfl (cL rfl (gO rfl))
      ·
       refine Do.s (s.bs (l:=([(⟨((aO r p 2 2).1).ah,d,((aO r p 2 2).1).aG,0⟩:Note)]:List Note)) dW dC rfl rfl rfl rfl rfl rfl rfl) (fun _=>(fun _=>Wd.aM [1,2,3,4,6] [0,1,2,3] rfl rfl rfl)) rfl fun b9=>D.one (i:=1) (by kernel_rfl) rfl ?_
       refine Do.s (s.c (Qt.a (q.ld 5 rfl rfl cy rfl)) rfl) (fun _=>(fun _=>Wd.aM [1,2,3,4,6] [0,1,2,3] rfl rfl rfl)) rfl fun _=>D.one (i:=2) (by kernel_rfl) rfl ?_
       refine Do.s (B':=(fun aH:Value=>[ag.row 72 aH (r.Notes:List Note),ag.row 72 (.slice (some ⟨b9,0,none⟩) 1 1) ([(⟨((aO r p 2 2).1).ah,d,((aO r p 2 2).1).aG,0⟩:Note)]:List Note),ag.box b6 [iV (((aO r p 2 2).1).ah),.string d,iV (((aO r p 2 2).1).aG),iV 0] 72,ag.box b4 (aA ((aO r p 2 2).1)) 88,ag.box b3 aJ 32,ag.box b2 (aE p) 39,ag.box b1 [aF,az,aC,aB,iV r.ae,iV r.af] 32,ag.held w own])) (F':=(fun aH:Value=>[ag.ls aF (r.ai:List aj),ag.ls az (r.Things:List ah),ag.ls aC (r.Held:List Held),ag.ls aB (r.Notes:List Note)])) (s.bJ (B0:=[]) (Br:=[ag.row 72 (.slice (some ⟨b9,0,none⟩) 1 1) ([(⟨((aO r p 2 2).1).ah,d,((aO r p 2 2).1).aG,0⟩:Note)]:List Note),ag.box b6 [iV (((aO r p 2 2).1).ah),.string d,iV (((aO r p 2 2).1).aG),iV 0] 72,ag.box b4 (aA ((aO r p 2 2).1)) 88,ag.box b3 aJ 32,ag.box b2 (aE p) 39,ag.box b1 [aF,az,aC,aB,iV r.ae,iV r.af] 32,ag.held w own]) (F0:=[ag.ls aB (r.Notes:List Note)]) [0,1,2,3,4,5,6] [3] (fun aH:Value=>aH) (fun aH:Value=>[ag.row 72 aH (r.Notes:List Note)]) (fun aH:Value=>[]) rfl rfl rfl mZ rfl rfl (fun w own hw H=>ea aB (r.Notes) w own H (by first|omega|assumption|(simp;done)|(simp;omega))) rfl) (fun _=>(fun _=>Wd.aM [2,3,4,5,7] [0,1,2,3] rfl rfl rfl)) rfl fun z4=>D.one (i:=5) (by kernel_rfl) rfl ?_
       refine Do.s (s.app (l2:=[(⟨((aO r p 2 2).1).ah,d,((aO r p 2 2).1).aG,0⟩:Note)]) 0 _ rfl rfl rfl (fun _=>Wd.row 1 rfl) gj (by first|omega|(simp;omega)) (by first|omega|(simp;omega)) (fun _=>rfl) rfl) (fun _=>(fun _=>Wd.aM [2,3,4,5,7] [0,1,2,3] rfl rfl rfl)) rfl fun v3=>D.q (i:=6) rfl (by kernel_rfl) (fun _=>Wd.aM [2,3,4,5,7] [0,1,2,3] rfl rfl rfl) rfl (q.a8 (off':=3) rfl bR rfl) rfl<|D.one (i:=7) (by kernel_rfl) rfl ?_
       refine Do.s (s.e8 (us:=[v3]) (cs':=[aF,az,aC,v3,iV r.ae,iV r.af]) 6 _ rfl rfl rfl (fun w hw=>Sl.cJ (hw.row 0 rfl)) (.inr ⟨cy,rfl⟩) (fun w hw=>(ak (Sl.one (hw.row 0 rfl)) aS)) rfl rfl rfl) (fun _=>(fun _=>Wd.aM [2,3,4,5,7] [0,1,2,3] rfl rfl rfl)) rfl fun _=>D.done (by kernel_rfl)<|R.reg rfl<|R.q (q.cT 6 rfl rfl ar) rfl<|R.s rfl (s.e8 (us:=[aF,az,aC,v3,iV r.ae,iV r.af]) (cs':=[aF,az,aC,v3,iV r.ae,iV r.af]) 4 _ rfl rfl rfl (fun _ _=>rfl) (.inl ar) (fun w hw=>(ak (Sl.one (hw.aT 0 rfl)) (ak (Sl.one (hw.aT 1 rfl)) (ak (Sl.one (hw.aT 2 rfl)) (ak (Sl.one (hw.row 0 rfl)) (ak rfl (ak rfl aS))))))) rfl rfl rfl) fun _=>R.u 1 rfl<|R.nil ?_
       refine R.mp (B':=[ag.row 72 (.slice (some ⟨b9,0,none⟩) 1 1) ([(⟨((aO r p 2 2).1).ah,d,((aO r p 2 2).1).aG,0⟩:Note)]:List Note),ag.box b6 [iV (((aO r p 2 2).1).ah),.string d,iV (((aO r p 2 2).1).aG),iV 0] 72,ag.box b4 (aA ((aO r p 2 2).1)) 88,ag.box b3 [aF,az,aC,v3,iV r.ae,iV r.af] 32,ag.box b2 (aE p) 39,ag.box b1 [aF,az,aC,v3,iV r.ae,iV r.af] 32,ag.held w own]) (fun _ hw=>hw.di 0 _ rfl rfl) ?_
       have hz:bZ r p d slot rights=((⟨r.ai,r.Things,r.Held,(r.Notes++([(⟨((aO r p 2 2).1).ah,d,((aO r p 2 2).1).aG,0⟩:Note)])),r.ae,r.af⟩:ap),0):=by (rw [List.take_of_length_le (by omega)] at HC;subst HC;unfold bZ;(repeat' split) <;> first|rfl|(exfalso;omega)|(simp_all;done))
       rw [hz]
       exact R.w2 (aF,az,aC,v3) [6] [1,2,3,0] rfl Tryz.results36 (RV.cell 3 rfl rfl ar) (RV.tmp rfl) rfl rfl rfl (cL rfl (gO rfl))
     ·
      refine R.q (q.geq rfl rfl (decide_eq_true (by omega))) rfl<|R.nil ?_
      refine R.aD rfl rfl ?_
      refine R.reg rfl<|R.q (q.a8 (off':=2) rfl f6 rfl) rfl<|R.q (q.ld 1 rfl rfl av rfl) rfl<|?_
      rcases Bool.eq_false_or_eq_true (fB (((aO r p 2 2).1).Rights) 4) with h7|h7
      ·
       refine R.c (q.call mX rfl rfl (fun w hw=>(cv (congrArg Value.bool h7) (eI (((aO r p 2 2).1).Rights) (4) w  (by omega) (by omega))))) rfl<|R.u 1 rfl<|R.nil ?_
       refine R.aI rfl rfl ?_
       refine R.reg rfl<|R.q (q.cT 4 rfl rfl ar) rfl<|R.q (q.a8 (off':=0) rfl bG rfl) rfl<|R.q (q.ld 3 rfl rfl av rfl) rfl<|R.u 1 rfl<|R.q (q.build (cs:=[iV p.ao,iV slot]) mW rfl rfl) rfl<|R.c (q.call oq rfl rfl (fun w hw=>(jH _ _ _ _ (r) ((⟨p.ao,slot⟩:Place)) w (hw.aT 0 rfl) (hw.aT 1 rfl) (hw.aT 2 rfl) (hw.aT 3 rfl) ‹_›))) rfl<|R.u 3 rfl<|R.s rfl (s.alloc (cs:=dw) bE rfl rfl) fun b10=>R.s rfl (s.st (us:=aA ((au r (⟨p.ao,slot⟩:Place)).1)) (cs':=aA ((au r (⟨p.ao,slot⟩:Place)).1)) 0 _ rfl rfl rfl rfl (.inl aQ) rfl rfl rfl rfl) fun _=>R.u 1 rfl<|R.nil ?_
       refine R.reg rfl<|R.u 1 rfl<|?_
       by_cases h8:(au r (⟨p.ao,slot⟩:Place)).2=0
       ·
        have EO:=hk.get h8
        have hn0:∀x,(aW r x ⟨0,0⟩).Notes.length≤2000:=fun x=>hk.nl
        have hnz:=hn0 (derived (au r ⟨p.ao,slot⟩).1 r.ae rights 0).1
        refine R.q (q.fr rfl rfl Tryz.underlying35 (by omega)) rfl<|R.nil ?_
        refine R.aI rfl rfl ?_
        refine R.reg rfl<|R.q (q.a8 (off':=4) rfl bW rfl) rfl<|R.q (q.ld 5 rfl rfl av rfl) rfl<|?_
        by_cases h9:999<r.ae
        ·
         refine R.q (q.gtr rfl rfl (decide_eq_true (by omega))) rfl<|R.nil ?_
         refine R.aD rfl rfl ?_
         refine R.reg rfl<|R.q (q.build (cs:=aJ) cY rfl rfl) rfl<|R.q (q.iface rfl bI) rfl<|R.s rfl (s.st (us:=aJ) (cs':=aJ) 3 _ rfl rfl rfl rfl (.inl ar) rfl rfl rfl rfl) fun _=>R.u 1 rfl<|R.nil ?_
         refine R.mp (fun _ hw=>hw.bg (α:=aj)) ?_
         refine R.mp (fun _ hw=>hw.bg (α:=ah)) ?_
         refine R.mp (fun _ hw=>hw.bg (α:=Held)) ?_
         refine R.mp (fun _ hw=>hw.bg (α:=Note)) ?_
         have hz:bZ r p d slot rights=((⟨[],[],[],[],0,0⟩:ap),9):=by (rw [List.take_of_length_le (by omega)] at HC;subst HC;unfold bZ;(repeat' split) <;> first|rfl|(exfalso;omega)|(simp_all;done))
         rw [hz]
         exact R.w2 ((nS),(nS),(nS),(nS)) [6] [3,2,1,0] rfl Tryz.results36 (RV.cell 3 rfl rfl ar) (RV.tmp rfl) rfl rfl rfl (cL rfl (dP (by decide) rfl))
        ·
         refine R.q (q.gtr rfl rfl (decide_eq_false (by omega))) rfl<|R.nil ?_
         refine R.aI rfl rfl ?_
         refine R.reg rfl<|R.q (q.cT 0 rfl rfl aQ) rfl<|R.q (q.a8 (off':=4) rfl bW rfl) rfl<|R.q (q.ld 5 rfl rfl av rfl) rfl<|R.u 1 rfl<|R.c (q.call qU rfl rfl (fun w hw=>(ic (((au r (⟨p.ao,slot⟩:Place)).1)) (r.ae) (rights) (0) w  (by omega)))) rfl<|R.u 3 rfl<|R.s rfl (s.alloc (cs:=dw) bE rfl rfl) fun b11=>R.s rfl (s.st (us:=aA ((derived ((au r (⟨p.ao,slot⟩:Place)).1) r.ae rights 0).1)) (cs':=aA ((derived ((au r (⟨p.ao,slot⟩:Place)).1) r.ae rights 0).1)) 0 _ rfl rfl rfl rfl (.inl aQ) rfl rfl rfl rfl) fun _=>R.u 1 rfl<|R.nil ?_
         refine R.reg rfl<|R.u 1 rfl<|?_
         by_cases h10:(derived ((au r (⟨p.ao,slot⟩:Place)).1) r.ae rights 0).2=0
         ·
          refine R.q (q.fr rfl rfl Tryz.underlying35 (by omega)) rfl<|R.nil ?_
          refine R.aI rfl rfl ?_
          refine R.reg rfl<|R.q (q.cT 6 rfl rfl ar) rfl<|R.q (q.cT 0 rfl rfl aQ) rfl<|R.q (q.build (cs:=[iV 0,iV 0]) mW rfl rfl) rfl<|R.s (B':=(fun g_:Value×Value×Value×Value=>[ag.box b11 (aA ((derived ((au r (⟨p.ao,slot⟩:Place)).1) r.ae rights 0).1)) 88,ag.box b10 (aA ((au r (⟨p.ao,slot⟩:Place)).1)) 88,ag.box b6 [iV (((aO r p 2 2).1).ah),.string d,iV (((aO r p 2 2).1).aG),iV 0] 72,ag.box b4 (aA ((aO r p 2 2).1)) 88,ag.box b3 aJ 32,ag.box b2 (aE p) 39,ag.box b1 [aF,az,aC,aB,iV r.ae,iV r.af] 32,ag.held w own])) (F':=(fun g_:Value×Value×Value×Value=>[ag.ls g_.1 (((aW r ((derived ((au r (⟨p.ao,slot⟩:Place)).1) r.ae rights 0).1) (⟨0,0⟩:Place))).ai:List aj),ag.ls g_.2.1 (((aW r ((derived ((au r (⟨p.ao,slot⟩:Place)).1) r.ae rights 0).1) (⟨0,0⟩:Place))).Things:List ah),ag.ls g_.2.2.1 (((aW r ((derived ((au r (⟨p.ao,slot⟩:Place)).1) r.ae rights 0).1) (⟨0,0⟩:Place))).Held:List Held),ag.ls g_.2.2.2 (((aW r ((derived ((au r (⟨p.ao,slot⟩:Place)).1) r.ae rights 0).1) (⟨0,0⟩:Place))).Notes:List Note),ag.ls aF (r.ai:List aj),ag.ls az (r.Things:List ah),ag.ls aC (r.Held:List Held),ag.ls aB (r.Notes:List Note)])) rfl (s.bJ (B0:=[]) (Br:=[ag.box b11 (aA ((derived ((au r (⟨p.ao,slot⟩:Place)).1) r.ae rights 0).1)) 88,ag.box b10 (aA ((au r (⟨p.ao,slot⟩:Place)).1)) 88,ag.box b6 [iV (((aO r p 2 2).1).ah),.string d,iV (((aO r p 2 2).1).aG),iV 0] 72,ag.box b4 (aA ((aO r p 2 2).1)) 88,ag.box b3 aJ 32,ag.box b2 (aE p) 39,ag.box b1 [aF,az,aC,aB,iV r.ae,iV r.af] 32,ag.held w own]) (F0:=[ag.ls aF (r.ai:List aj),ag.ls az (r.Things:List ah),ag.ls aC (r.Held:List Held),ag.ls aB (r.Notes:List Note)]) [0,1,2,3,4,5,6,7] [0,1,2,3] (fun g_:Value×Value×Value×Value => .agg #[g_.1,g_.2.1,g_.2.2.1,g_.2.2.2,iV (((aW r ((derived ((au r (⟨p.ao,slot⟩:Place)).1) r.ae rights 0).1) (⟨0,0⟩:Place))).ae),iV (((aW r ((derived ((au r (⟨p.ao,slot⟩:Place)).1) r.ae rights 0).1) (⟨0,0⟩:Place))).af)]) (fun g_:Value×Value×Value×Value=>[]) (fun g_:Value×Value×Value×Value=>[ag.ls g_.1 (((aW r ((derived ((au r (⟨p.ao,slot⟩:Place)).1) r.ae rights 0).1) (⟨0,0⟩:Place))).ai:List aj),ag.ls g_.2.1 (((aW r ((derived ((au r (⟨p.ao,slot⟩:Place)).1) r.ae rights 0).1) (⟨0,0⟩:Place))).Things:List ah),ag.ls g_.2.2.1 (((aW r ((derived ((au r (⟨p.ao,slot⟩:Place)).1) r.ae rights 0).1) (⟨0,0⟩:Place))).Held:List Held),ag.ls g_.2.2.2 (((aW r ((derived ((au r (⟨p.ao,slot⟩:Place)).1) r.ae rights 0).1) (⟨0,0⟩:Place))).Notes:List Note)]) rfl rfl rfl qV rfl rfl (fun w own hw H=>ko aF az aC aB (r) (((derived ((au r (⟨p.ao,slot⟩:Place)).1) r.ae rights 0).1)) ((⟨0,0⟩:Place)) w own H (by first|omega|(dsimp only;omega))) rfl) ?_
          rintro ⟨z5,z6,z7,z8⟩
          dsimp only
          refine R.s rfl (s.e8 (us:=[z5,z6,z7,z8,iV ((aW r ((derived ((au r (⟨p.ao,slot⟩:Place)).1) r.ae rights 0).1) (⟨0,0⟩:Place)).ae),iV ((aW r ((derived ((au r (⟨p.ao,slot⟩:Place)).1) r.ae rights 0).1) (⟨0,0⟩:Place)).af)]) (cs':=[z5,z6,z7,z8,iV ((aW r ((derived ((au r (⟨p.ao,slot⟩:Place)).1) r.ae rights 0).1) (⟨0,0⟩:Place)).ae),iV ((aW r ((derived ((au r (⟨p.ao,slot⟩:Place)).1) r.ae rights 0).1) (⟨0,0⟩:Place)).af)]) 6 _ rfl rfl rfl (fun _ _=>rfl) (.inl ar) (fun w hw=>(ak (Sl.one (hw.aT 0 rfl)) (ak (Sl.one (hw.aT 1 rfl)) (ak (Sl.one (hw.aT 2 rfl)) (ak (Sl.one (hw.aT 3 rfl)) (ak rfl (ak rfl aS))))))) rfl rfl rfl) fun _=>R.nil ?_
          refine R.reg rfl<|R.q (q.a8 (off':=0) rfl bH rfl) rfl<|R.q (q.ld 0 rfl rfl av rfl) rfl<|R.q (q.a8 (off':=3) rfl fm rfl) rfl<|R.s rfl (s.st (us:=[iV (((derived ((au r (⟨p.ao,slot⟩:Place)).1) r.ae rights 0).1).ID)]) (cs':=[iV (((aO r p 2 2).1).ah),.string d,iV (((aO r p 2 2).1).aG),iV (((derived ((au r (⟨p.ao,slot⟩:Place)).1) r.ae rights 0).1).ID)]) 2 _ rfl rfl rfl rfl (.inr ⟨av,rfl⟩) rfl rfl rfl rfl) fun _=>R.nil ?_
          refine R.gN (fuel:=8) (Wd w (blks []++own) [ag.box b11 (aA ((derived ((au r (⟨p.ao,slot⟩:Place)).1) r.ae rights 0).1)) 88,ag.box b10 (aA ((au r (⟨p.ao,slot⟩:Place)).1)) 88,ag.box b6 [iV (((aO r p 2 2).1).ah),.string d,iV (((aO r p 2 2).1).aG),iV (((derived ((au r (⟨p.ao,slot⟩:Place)).1) r.ae rights 0).1).ID)] 72,ag.box b4 (aA ((aO r p 2 2).1)) 88,ag.box b3 aJ 32,ag.box b2 (aE p) 39,ag.held w own] [ag.ls z5 ((aW r ((derived ((au r (⟨p.ao,slot⟩:Place)).1) r.ae rights 0).1) (⟨0,0⟩:Place)).ai:List aj),ag.ls z6 ((aW r ((derived ((au r (⟨p.ao,slot⟩:Place)).1) r.ae rights 0).1) (⟨0,0⟩:Place)).Things:List ah),ag.ls z7 ((aW r ((derived ((au r (⟨p.ao,slot⟩:Place)).1) r.ae rights 0).1) (⟨0,0⟩:Place)).Held:List Held),ag.ls z8 ((aW r ((derived ((au r (⟨p.ao,slot⟩:Place)).1) r.ae rights 0).1) (⟨0,0⟩:Place)).Notes:List Note),ag.ls aF (r.ai:List aj),ag.ls az (r.Things:List ah),ag.ls aC (r.Held:List Held),ag.ls aB (r.Notes:List Note)]) rfl mixed rfl ?_
          refine D.q (i:=0) rfl (by kernel_rfl) (fun _=>Wd.aM [0,1,2,3,4,5,7] [0,1,2,3,4,5,6,7] rfl rfl rfl) rfl (q.a8 (off':=3) rfl bR rfl) rfl<|D.q (i:=3) rfl (by kernel_rfl) (fun _=>Wd.aM [0,1,2,3,4,5,7] [0,1,2,3,4,5,6,7] rfl rfl rfl) rfl (q.cT 2 rfl rfl cm) rfl<|D.two (i:=1) (j:=4) (by kernel_rfl) rfl rfl ?_ ?_
          ·
           refine Do.s (s.c (Qt.a (q.ld 6 rfl rfl cy rfl)) rfl) (fun _=>(fun _=>Wd.aM [0,1,2,3,4,5,7] [0,1,2,3,4,5,6,7] rfl rfl rfl)) rfl fun _=>D.two (i:=2) (j:=4) (by kernel_rfl) rfl rfl ?_ ?_
           ·
            refine Do.s (B':=(fun aH:Value=>[ag.row 72 aH (((aW r ((derived ((au r (⟨p.ao,slot⟩:Place)).1) r.ae rights 0).1) (⟨0,0⟩:Place)).Notes):List Note),ag.box b11 (aA ((derived ((au r (⟨p.ao,slot⟩:Place)).1) r.ae rights 0).1)) 88,ag.box b10 (aA ((au r (⟨p.ao,slot⟩:Place)).1)) 88,ag.box b6 [iV (((aO r p 2 2).1).ah),.string d,iV (((aO r p 2 2).1).aG),iV (((derived ((au r (⟨p.ao,slot⟩:Place)).1) r.ae rights 0).1).ID)] 72,ag.box b4 (aA ((aO r p 2 2).1)) 88,ag.box b3 aJ 32,ag.box b2 (aE p) 39,ag.box b1 [z5,z6,z7,z8,iV ((aW r ((derived ((au r (⟨p.ao,slot⟩:Place)).1) r.ae rights 0).1) (⟨0,0⟩:Place)).ae),iV ((aW r ((derived ((au r (⟨p.ao,slot⟩:Place)).1) r.ae rights 0).1) (⟨0,0⟩:Place)).af)] 32,ag.held w own])) (F':=(fun aH:Value=>[ag.ls z5 ((aW r ((derived ((au r (⟨p.ao,slot⟩:Place)).1) r.ae rights 0).1) (⟨0,0⟩:Place)).ai:List aj),ag.ls z6 ((aW r ((derived ((au r (⟨p.ao,slot⟩:Place)).1) r.ae rights 0).1) (⟨0,0⟩:Place)).Things:List ah),ag.ls z7 ((aW r ((derived ((au r (⟨p.ao,slot⟩:Place)).1) r.ae rights 0).1) (⟨0,0⟩:Place)).Held:List Held),ag.ls z8 ((aW r ((derived ((au r (⟨p.ao,slot⟩:Place)).1) r.ae rights 0).1) (⟨0,0⟩:Place)).Notes:List Note),ag.ls aF (r.ai:List aj),ag.ls az (r.Things:List ah),ag.ls aC (r.Held:List Held),ag.ls aB (r.Notes:List Note)])) (s.bJ (B0:=[]) (Br:=[ag.box b11 (aA ((derived ((au r (⟨p.ao,slot⟩:Place)).1) r.ae rights 0).1)) 88,ag.box b10 (aA ((au r (⟨p.ao,slot⟩:Place)).1)) 88,ag.box b6 [iV (((aO r p 2 2).1).ah),.string d,iV (((aO r p 2 2).1).aG),iV (((derived ((au r (⟨p.ao,slot⟩:Place)).1) r.ae rights 0).1).ID)] 72,ag.box b4 (aA ((aO r p 2 2).1)) 88,ag.box b3 aJ 32,ag.box b2 (aE p) 39,ag.box b1 [z5,z6,z7,z8,iV ((aW r ((derived ((au r (⟨p.ao,slot⟩:Place)).1) r.ae rights 0).1) (⟨0,0⟩:Place)).ae),iV ((aW r ((derived ((au r (⟨p.ao,slot⟩:Place)).1) r.ae rights 0).1) (⟨0,0⟩:Place)).af)] 32,ag.held w own]) (F0:=[ag.ls z8 ((aW r ((derived ((au r (⟨p.ao,slot⟩:Place)).1) r.ae rights 0).1) (⟨0,0⟩:Place)).Notes:List Note)]) [0,1,2,3,4,5,6,7] [3] (fun aH:Value=>aH) (fun aH:Value=>[ag.row 72 aH (((aW r ((derived ((au r (⟨p.ao,slot⟩:Place)).1) r.ae rights 0).1) (⟨0,0⟩:Place)).Notes):List Note)]) (fun aH:Value=>[]) rfl rfl rfl mZ rfl rfl (fun w own hw H=>ea z8 ((aW r ((derived ((au r (⟨p.ao,slot⟩:Place)).1) r.ae rights 0).1) (⟨0,0⟩:Place)).Notes) w own H (by first|omega|assumption|(simp;done)|(simp;omega))) rfl) (fun _=>(fun _=>Wd.aM [1,2,3,4,5,6,8] [0,1,2,3,4,5,6,7] rfl rfl rfl)) rfl fun nf=>D.one (i:=4) (by kernel_rfl) rfl ?_
            refine Do.s (s.bs (l:=([(⟨((aO r p 2 2).1).ah,d,((aO r p 2 2).1).aG,((derived ((au r (⟨p.ao,slot⟩:Place)).1) r.ae rights 0).1).ID⟩:Note)]:List Note)) dW dC rfl rfl rfl rfl rfl rfl rfl) (fun _=>(fun _=>Wd.aM [2,3,4,5,6,7,9] [0,1,2,3,4,5,6,7] rfl rfl rfl)) rfl fun b12=>D.one (i:=5) (by kernel_rfl) rfl ?_
            refine Do.s (s.app (l2:=[(⟨((aO r p 2 2).1).ah,d,((aO r p 2 2).1).aG,((derived ((au r (⟨p.ao,slot⟩:Place)).1) r.ae rights 0).1).ID⟩:Note)]) 1 _ rfl rfl rfl (fun _=>Wd.row 0 rfl) gj (by first|omega|(simp;omega)) (by first|omega|(simp;omega)) (fun _=>rfl) rfl) (fun _=>(fun _=>Wd.aM [2,3,4,5,6,7,9] [0,1,2,3,4,5,6,7] rfl rfl rfl)) rfl fun v4=>D.q (i:=6) rfl (by kernel_rfl) (fun _=>Wd.aM [2,3,4,5,6,7,9] [0,1,2,3,4,5,6,7] rfl rfl rfl) rfl (q.a8 (off':=3) rfl bR rfl) rfl<|D.one (i:=7) (by kernel_rfl) rfl ?_
            refine Do.s (s.e8 (us:=[v4]) (cs':=[z5,z6,z7,v4,iV ((aW r ((derived ((au r (⟨p.ao,slot⟩:Place)).1) r.ae rights 0).1) (⟨0,0⟩:Place)).ae),iV ((aW r ((derived ((au r (⟨p.ao,slot⟩:Place)).1) r.ae rights 0).1) (⟨0,0⟩:Place)).af)]) 8 _ rfl rfl rfl (fun w hw=>Sl.cJ (hw.row 1 rfl)) (.inr ⟨cy,rfl⟩) (fun w hw=>(ak (Sl.one (hw.row 1 rfl)) aS)) rfl rfl rfl) (fun _=>(fun _=>Wd.aM [2,3,4,5,6,7,9] [0,1,2,3,4,5,6,7] rfl rfl rfl)) rfl fun _=>D.done (by kernel_rfl)<|R.reg rfl<|R.q (q.cT 8 rfl rfl ar) rfl<|R.s rfl (s.e8 (us:=[z5,z6,z7,v4,iV ((aW r ((derived ((au r (⟨p.ao,slot⟩:Place)).1) r.ae rights 0).1) (⟨0,0⟩:Place)).ae),iV ((aW r ((derived ((au r (⟨p.ao,slot⟩:Place)).1) r.ae rights 0).1) (⟨0,0⟩:Place)).af)]) (cs':=[z5,z6,z7,v4,iV ((aW r ((derived ((au r (⟨p.ao,slot⟩:Place)).1) r.ae rights 0).1) (⟨0,0⟩:Place)).ae),iV ((aW r ((derived ((au r (⟨p.ao,slot⟩:Place)).1) r.ae rights 0).1) (⟨0,0⟩:Place)).af)]) 6 _ rfl rfl rfl (fun _ _=>rfl) (.inl ar) (fun w hw=>(ak (Sl.one (hw.aT 0 rfl)) (ak (Sl.one (hw.aT 1 rfl)) (ak (Sl.one (hw.aT 2 rfl)) (ak (Sl.one (hw.row 1 rfl)) (ak rfl (ak rfl aS))))))) rfl rfl rfl) fun _=>R.u 1 rfl<|R.nil ?_
            refine R.mp (B':=[ag.row 72 (.slice (some ⟨b12,0,none⟩) 1 1) ([(⟨((aO r p 2 2).1).ah,d,((aO r p 2 2).1).aG,((derived ((au r (⟨p.ao,slot⟩:Place)).1) r.ae rights 0).1).ID⟩:Note)]:List Note),ag.box b11 (aA ((derived ((au r (⟨p.ao,slot⟩:Place)).1) r.ae rights 0).1)) 88,ag.box b10 (aA ((au r (⟨p.ao,slot⟩:Place)).1)) 88,ag.box b6 [iV (((aO r p 2 2).1).ah),.string d,iV (((aO r p 2 2).1).aG),iV (((derived ((au r (⟨p.ao,slot⟩:Place)).1) r.ae rights 0).1).ID)] 72,ag.box b4 (aA ((aO r p 2 2).1)) 88,ag.box b3 [z5,z6,z7,v4,iV ((aW r ((derived ((au r (⟨p.ao,slot⟩:Place)).1) r.ae rights 0).1) (⟨0,0⟩:Place)).ae),iV ((aW r ((derived ((au r (⟨p.ao,slot⟩:Place)).1) r.ae rights 0).1) (⟨0,0⟩:Place)).af)] 32,ag.box b2 (aE p) 39,ag.box b1 [z5,z6,z7,v4,iV ((aW r ((derived ((au r (⟨p.ao,slot⟩:Place)).1) r.ae rights 0).1) (⟨0,0⟩:Place)).ae),iV ((aW r ((derived ((au r (⟨p.ao,slot⟩:Place)).1) r.ae rights 0).1) (⟨0,0⟩:Place)).af)] 32,ag.held w own]) (fun _ hw=>hw.di 1 _ rfl rfl) ?_
            have hz:bZ r p d slot rights=((⟨(aW r ((derived ((au r (⟨p.ao,slot⟩:Place)).1) r.ae rights 0).1) (⟨0,0⟩:Place)).ai,(aW r ((derived ((au r (⟨p.ao,slot⟩:Place)).1) r.ae rights 0).1) (⟨0,0⟩:Place)).Things,(aW r ((derived ((au r (⟨p.ao,slot⟩:Place)).1) r.ae rights 0).1) (⟨0,0⟩:Place)).Held,(((aW r ((derived ((au r (⟨p.ao,slot⟩:Place)).1) r.ae rights 0).1) (⟨0,0⟩:Place)).Notes)++([(⟨((aO r p 2 2).1).ah,d,((aO r p 2 2).1).aG,((derived ((au r (⟨p.ao,slot⟩:Place)).1) r.ae rights 0).1).ID⟩:Note)])),(aW r ((derived ((au r (⟨p.ao,slot⟩:Place)).1) r.ae rights 0).1) (⟨0,0⟩:Place)).ae,(aW r ((derived ((au r (⟨p.ao,slot⟩:Place)).1) r.ae rights 0).1) (⟨0,0⟩:Place)).af⟩:ap),0):=by (rw [List.take_of_length_le (by omega)] at HC;subst HC;unfold bZ;(repeat' split) <;> first|rfl|(exfalso;omega)|(simp_all;done))
            rw [hz]
            exact R.w2 (z5,z6,z7,v4) [8] [1,2,3,0] rfl Tryz.results36 (RV.cell 5 rfl rfl ar) (RV.tmp rfl) rfl rfl rfl (cL rfl (gO rfl))
           ·
            refine Do.s (s.bs (l:=([(⟨((aO r p 2 2).1).ah,d,((aO r p 2 2).1).aG,((derived ((au r (⟨p.ao,slot⟩:Place)).1) r.ae rights 0).1).ID⟩:Note)]:List Note)) dW dC rfl rfl rfl rfl rfl rfl rfl) (fun _=>(fun _=>Wd.aM [1,2,3,4,5,6,8] [0,1,2,3,4,5,6,7] rfl rfl rfl)) rfl fun b13=>D.one (i:=2) (by kernel_rfl) rfl ?_
            refine Do.s (B':=(fun aH:Value=>[ag.row 72 aH (((aW r ((derived ((au r (⟨p.ao,slot⟩:Place)).1) r.ae rights 0).1) (⟨0,0⟩:Place)).Notes):List Note),ag.row 72 (.slice (some ⟨b13,0,none⟩) 1 1) ([(⟨((aO r p 2 2).1).ah,d,((aO r p 2 2).1).aG,((derived ((au r (⟨p.ao,slot⟩:Place)).1) r.ae rights 0).1).ID⟩:Note)]:List Note),ag.box b11 (aA ((derived ((au r (⟨p.ao,slot⟩:Place)).1) r.ae rights 0).1)) 88,ag.box b10 (aA ((au r (⟨p.ao,slot⟩:Place)).1)) 88,ag.box b6 [iV (((aO r p 2 2).1).ah),.string d,iV (((aO r p 2 2).1).aG),iV (((derived ((au r (⟨p.ao,slot⟩:Place)).1) r.ae rights 0).1).ID)] 72,ag.box b4 (aA ((aO r p 2 2).1)) 88,ag.box b3 aJ 32,ag.box b2 (aE p) 39,ag.box b1 [z5,z6,z7,z8,iV ((aW r ((derived ((au r (⟨p.ao,slot⟩:Place)).1) r.ae rights 0).1) (⟨0,0⟩:Place)).ae),iV ((aW r ((derived ((au r (⟨p.ao,slot⟩:Place)).1) r.ae rights 0).1) (⟨0,0⟩:Place)).af)] 32,ag.held w own])) (F':=(fun aH:Value=>[ag.ls z5 ((aW r ((derived ((au r (⟨p.ao,slot⟩:Place)).1) r.ae rights 0).1) (⟨0,0⟩:Place)).ai:List aj),ag.ls z6 ((aW r ((derived ((au r (⟨p.ao,slot⟩:Place)).1) r.ae rights 0).1) (⟨0,0⟩:Place)).Things:List ah),ag.ls z7 ((aW r ((derived ((au r (⟨p.ao,slot⟩:Place)).1) r.ae rights 0).1) (⟨0,0⟩:Place)).Held:List Held),ag.ls z8 ((aW r ((derived ((au r (⟨p.ao,slot⟩:Place)).1) r.ae rights 0).1) (⟨0,0⟩:Place)).Notes:List Note),ag.ls aF (r.ai:List aj),ag.ls az (r.Things:List ah),ag.ls aC (r.Held:List Held),ag.ls aB (r.Notes:List Note)])) (s.bJ (B0:=[]) (Br:=[ag.row 72 (.slice (some ⟨b13,0,none⟩) 1 1) ([(⟨((aO r p 2 2).1).ah,d,((aO r p 2 2).1).aG,((derived ((au r (⟨p.ao,slot⟩:Place)).1) r.ae rights 0).1).ID⟩:Note)]:List Note),ag.box b11 (aA ((derived ((au r (⟨p.ao,slot⟩:Place)).1) r.ae rights 0).1)) 88,ag.box b10 (aA ((au r (⟨p.ao,slot⟩:Place)).1)) 88,ag.box b6 [iV (((aO r p 2 2).1).ah),.string d,iV (((aO r p 2 2).1).aG),iV (((derived ((au r (⟨p.ao,slot⟩:Place)).1) r.ae rights 0).1).ID)] 72,ag.box b4 (aA ((aO r p 2 2).1)) 88,ag.box b3 aJ 32,ag.box b2 (aE p) 39,ag.box b1 [z5,z6,z7,z8,iV ((aW r ((derived ((au r (⟨p.ao,slot⟩:Place)).1) r.ae rights 0).1) (⟨0,0⟩:Place)).ae),iV ((aW r ((derived ((au r (⟨p.ao,slot⟩:Place)).1) r.ae rights 0).1) (⟨0,0⟩:Place)).af)] 32,ag.held w own]) (F0:=[ag.ls z8 ((aW r ((derived ((au r (⟨p.ao,slot⟩:Place)).1) r.ae rights 0).1) (⟨0,0⟩:Place)).Notes:List Note)]) [0,1,2,3,4,5,6,7,8] [3] (fun aH:Value=>aH) (fun aH:Value=>[ag.row 72 aH (((aW r ((derived ((au r (⟨p.ao,slot⟩:Place)).1) r.ae rights 0).1) (⟨0,0⟩:Place)).Notes):List Note)]) (fun aH:Value=>[]) rfl rfl rfl mZ rfl rfl (fun w own hw H=>ea z8 ((aW r ((derived ((au r (⟨p.ao,slot⟩:Place)).1) r.ae rights 0).1) (⟨0,0⟩:Place)).Notes) w own H (by first|omega|assumption|(simp;done)|(simp;omega))) rfl) (fun _=>(fun _=>Wd.aM [2,3,4,5,6,7,9] [0,1,2,3,4,5,6,7] rfl rfl rfl)) rfl fun t7=>D.one (i:=5) (by kernel_rfl) rfl ?_
            refine Do.s (s.app (l2:=[(⟨((aO r p 2 2).1).ah,d,((aO r p 2 2).1).aG,((derived ((au r (⟨p.ao,slot⟩:Place)).1) r.ae rights 0).1).ID⟩:Note)]) 0 _ rfl rfl rfl (fun _=>Wd.row 1 rfl) gj (by first|omega|(simp;omega)) (by first|omega|(simp;omega)) (fun _=>rfl) rfl) (fun _=>(fun _=>Wd.aM [2,3,4,5,6,7,9] [0,1,2,3,4,5,6,7] rfl rfl rfl)) rfl fun v5=>D.q (i:=6) rfl (by kernel_rfl) (fun _=>Wd.aM [2,3,4,5,6,7,9] [0,1,2,3,4,5,6,7] rfl rfl rfl) rfl (q.a8 (off':=3) rfl bR rfl) rfl<|D.one (i:=7) (by kernel_rfl) rfl ?_
            refine Do.s (s.e8 (us:=[v5]) (cs':=[z5,z6,z7,v5,iV ((aW r ((derived ((au r (⟨p.ao,slot⟩:Place)).1) r.ae rights 0).1) (⟨0,0⟩:Place)).ae),iV ((aW r ((derived ((au r (⟨p.ao,slot⟩:Place)).1) r.ae rights 0).1) (⟨0,0⟩:Place)).af)]) 8 _ rfl rfl rfl (fun w hw=>Sl.cJ (hw.row 0 rfl)) (.inr ⟨cy,rfl⟩) (fun w hw=>(ak (Sl.one (hw.row 0 rfl)) aS)) rfl rfl rfl) (fun _=>(fun _=>Wd.aM [2,3,4,5,6,7,9] [0,1,2,3,4,5,6,7] rfl rfl rfl)) rfl fun _=>D.done (by kernel_rfl)<|R.reg rfl<|R.q (q.cT 8 rfl rfl ar) rfl<|R.s rfl (s.e8 (us:=[z5,z6,z7,v5,iV ((aW r ((derived ((au r (⟨p.ao,slot⟩:Place)).1) r.ae rights 0).1) (⟨0,0⟩:Place)).ae),iV ((aW r ((derived ((au r (⟨p.ao,slot⟩:Place)).1) r.ae rights 0).1) (⟨0,0⟩:Place)).af)]) (cs':=[z5,z6,z7,v5,iV ((aW r ((derived ((au r (⟨p.ao,slot⟩:Place)).1) r.ae rights 0).1) (⟨0,0⟩:Place)).ae),iV ((aW r ((derived ((au r (⟨p.ao,slot⟩:Place)).1) r.ae rights 0).1) (⟨0,0⟩:Place)).af)]) 6 _ rfl rfl rfl (fun _ _=>rfl) (.inl ar) (fun w hw=>(ak (Sl.one (hw.aT 0 rfl)) (ak (Sl.one (hw.aT 1 rfl)) (ak (Sl.one (hw.aT 2 rfl)) (ak (Sl.one (hw.row 0 rfl)) (ak rfl (ak rfl aS))))))) rfl rfl rfl) fun _=>R.u 1 rfl<|R.nil ?_
            refine R.mp (B':=[ag.row 72 (.slice (some ⟨b13,0,none⟩) 1 1) ([(⟨((aO r p 2 2).1).ah,d,((aO r p 2 2).1).aG,((derived ((au r (⟨p.ao,slot⟩:Place)).1) r.ae rights 0).1).ID⟩:Note)]:List Note),ag.box b11 (aA ((derived ((au r (⟨p.ao,slot⟩:Place)).1) r.ae rights 0).1)) 88,ag.box b10 (aA ((au r (⟨p.ao,slot⟩:Place)).1)) 88,ag.box b6 [iV (((aO r p 2 2).1).ah),.string d,iV (((aO r p 2 2).1).aG),iV (((derived ((au r (⟨p.ao,slot⟩:Place)).1) r.ae rights 0).1).ID)] 72,ag.box b4 (aA ((aO r p 2 2).1)) 88,ag.box b3 [z5,z6,z7,v5,iV ((aW r ((derived ((au r (⟨p.ao,slot⟩:Place)).1) r.ae rights 0).1) (⟨0,0⟩:Place)).ae),iV ((aW r ((derived ((au r (⟨p.ao,slot⟩:Place)).1) r.ae rights 0).1) (⟨0,0⟩:Place)).af)] 32,ag.box b2 (aE p) 39,ag.box b1 [z5,z6,z7,v5,iV ((aW r ((derived ((au r (⟨p.ao,slot⟩:Place)).1) r.ae rights 0).1) (⟨0,0⟩:Place)).ae),iV ((aW r ((derived ((au r (⟨p.ao,slot⟩:Place)).1) r.ae rights 0).1) (⟨0,0⟩:Place)).af)] 32,ag.held w own]) (fun _ hw=>hw.di 0 _ rfl rfl) ?_
            have hz:bZ r p d slot rights=((⟨(aW r ((derived ((au r (⟨p.ao,slot⟩:Place)).1) r.ae rights 0).1) (⟨0,0⟩:Place)).ai,(aW r ((derived ((au r (⟨p.ao,slot⟩:Place)).1) r.ae rights 0).1) (⟨0,0⟩:Place)).Things,(aW r ((derived ((au r (⟨p.ao,slot⟩:Place)).1) r.ae rights 0).1) (⟨0,0⟩:Place)).Held,(((aW r ((derived ((au r (⟨p.ao,slot⟩:Place)).1) r.ae rights 0).1) (⟨0,0⟩:Place)).Notes)++([(⟨((aO r p 2 2).1).ah,d,((aO r p 2 2).1).aG,((derived ((au r (⟨p.ao,slot⟩:Place)).1) r.ae rights 0).1).ID⟩:Note)])),(aW r ((derived ((au r (⟨p.ao,slot⟩:Place)).1) r.ae rights 0).1) (⟨0,0⟩:Place)).ae,(aW r ((derived ((au r (⟨p.ao,slot⟩:Place)).1) r.ae rights 0).1) (⟨0,0⟩:Place)).af⟩:ap),0):=by (rw [List.take_of_length_le (by omega)] at HC;subst HC;unfold bZ;(repeat' split) <;> first|rfl|(exfalso;omega)|(simp_all;done))
            rw [hz]
            exact R.w2 (z5,z6,z7,v5) [8] [1,2,3,0] rfl Tryz.results36 (RV.cell 5 rfl rfl ar) (RV.tmp rfl) rfl rfl rfl (cL rfl (gO rfl))
          ·
           refine Do.s (s.bs (l:=([(⟨((aO r p 2 2).1).ah,d,((aO r p 2 2).1).aG,((derived ((au r (⟨p.ao,slot⟩:Place)).1) r.ae rights 0).1).ID⟩:Note)]:List Note)) dW dC rfl rfl rfl rfl rfl rfl rfl) (fun _=>(fun _=>Wd.aM [1,2,3,4,5,6,8] [0,1,2,3,4,5,6,7] rfl rfl rfl)) rfl fun b14=>D.one (i:=1) (by kernel_rfl) rfl ?_
           refine Do.s (s.c (Qt.a (q.ld 7 rfl rfl cy rfl)) rfl) (fun _=>(fun _=>Wd.aM [1,2,3,4,5,6,8] [0,1,2,3,4,5,6,7] rfl rfl rfl)) rfl fun _=>D.one (i:=2) (by kernel_rfl) rfl ?_
           refine Do.s (B':=(fun aH:Value=>[ag.row 72 aH (((aW r ((derived ((au r (⟨p.ao,slot⟩:Place)).1) r.ae rights 0).1) (⟨0,0⟩:Place)).Notes):List Note),ag.row 72 (.slice (some ⟨b14,0,none⟩) 1 1) ([(⟨((aO r p 2 2).1).ah,d,((aO r p 2 2).1).aG,((derived ((au r (⟨p.ao,slot⟩:Place)).1) r.ae rights 0).1).ID⟩:Note)]:List Note),ag.box b11 (aA ((derived ((au r (⟨p.ao,slot⟩:Place)).1) r.ae rights 0).1)) 88,ag.box b10 (aA ((au r (⟨p.ao,slot⟩:Place)).1)) 88,ag.box b6 [iV (((aO r p 2 2).1).ah),.string d,iV (((aO r p 2 2).1).aG),iV (((derived ((au r (⟨p.ao,slot⟩:Place)).1) r.ae rights 0).1).ID)] 72,ag.box b4 (aA ((aO r p 2 2).1)) 88,ag.box b3 aJ 32,ag.box b2 (aE p) 39,ag.box b1 [z5,z6,z7,z8,iV ((aW r ((derived ((au r (⟨p.ao,slot⟩:Place)).1) r.ae rights 0).1) (⟨0,0⟩:Place)).ae),iV ((aW r ((derived ((au r (⟨p.ao,slot⟩:Place)).1) r.ae rights 0).1) (⟨0,0⟩:Place)).af)] 32,ag.held w own])) (F':=(fun aH:Value=>[ag.ls z5 ((aW r ((derived ((au r (⟨p.ao,slot⟩:Place)).1) r.ae rights 0).1) (⟨0,0⟩:Place)).ai:List aj),ag.ls z6 ((aW r ((derived ((au r (⟨p.ao,slot⟩:Place)).1) r.ae rights 0).1) (⟨0,0⟩:Place)).Things:List ah),ag.ls z7 ((aW r ((derived ((au r (⟨p.ao,slot⟩:Place)).1) r.ae rights 0).1) (⟨0,0⟩:Place)).Held:List Held),ag.ls z8 ((aW r ((derived ((au r (⟨p.ao,slot⟩:Place)).1) r.ae rights 0).1) (⟨0,0⟩:Place)).Notes:List Note),ag.ls aF (r.ai:List aj),ag.ls az (r.Things:List ah),ag.ls aC (r.Held:List Held),ag.ls aB (r.Notes:List Note)])) (s.bJ (B0:=[]) (Br:=[ag.row 72 (.slice (some ⟨b14,0,none⟩) 1 1) ([(⟨((aO r p 2 2).1).ah,d,((aO r p 2 2).1).aG,((derived ((au r (⟨p.ao,slot⟩:Place)).1) r.ae rights 0).1).ID⟩:Note)]:List Note),ag.box b11 (aA ((derived ((au r (⟨p.ao,slot⟩:Place)).1) r.ae rights 0).1)) 88,ag.box b10 (aA ((au r (⟨p.ao,slot⟩:Place)).1)) 88,ag.box b6 [iV (((aO r p 2 2).1).ah),.string d,iV (((aO r p 2 2).1).aG),iV (((derived ((au r (⟨p.ao,slot⟩:Place)).1) r.ae rights 0).1).ID)] 72,ag.box b4 (aA ((aO r p 2 2).1)) 88,ag.box b3 aJ 32,ag.box b2 (aE p) 39,ag.box b1 [z5,z6,z7,z8,iV ((aW r ((derived ((au r (⟨p.ao,slot⟩:Place)).1) r.ae rights 0).1) (⟨0,0⟩:Place)).ae),iV ((aW r ((derived ((au r (⟨p.ao,slot⟩:Place)).1) r.ae rights 0).1) (⟨0,0⟩:Place)).af)] 32,ag.held w own]) (F0:=[ag.ls z8 ((aW r ((derived ((au r (⟨p.ao,slot⟩:Place)).1) r.ae rights 0).1) (⟨0,0⟩:Place)).Notes:List Note)]) [0,1,2,3,4,5,6,7,8] [3] (fun aH:Value=>aH) (fun aH:Value=>[ag.row 72 aH (((aW r ((derived ((au r (⟨p.ao,slot⟩:Place)).1) r.ae rights 0).1) (⟨0,0⟩:Place)).Notes):List Note)]) (fun aH:Value=>[]) rfl rfl rfl mZ rfl rfl (fun w own hw H=>ea z8 ((aW r ((derived ((au r (⟨p.ao,slot⟩:Place)).1) r.ae rights 0).1) (⟨0,0⟩:Place)).Notes) w own H (by first|omega|assumption|(simp;done)|(simp;omega))) rfl) (fun _=>(fun _=>Wd.aM [2,3,4,5,6,7,9] [0,1,2,3,4,5,6,7] rfl rfl rfl)) rfl fun z12=>D.one (i:=5) (by kernel_rfl) rfl ?_
           refine Do.s (s.app (l2:=[(⟨((aO r p 2 2).1).ah,d,((aO r p 2 2).1).aG,((derived ((au r (⟨p.ao,slot⟩:Place)).1) r.ae rights 0).1).ID⟩:Note)]) 0 _ rfl rfl rfl (fun _=>Wd.row 1 rfl) gj (by first|omega|(simp;omega)) (by first|omega|(simp;omega)) (fun _=>rfl) rfl) (fun _=>(fun _=>Wd.aM [2,3,4,5,6,7,9] [0,1,2,3,4,5,6,7] rfl rfl rfl)) rfl fun v6=>D.q (i:=6) rfl (by kernel_rfl) (fun _=>Wd.aM [2,3,4,5,6,7,9] [0,1,2,3,4,5,6,7] rfl rfl rfl) rfl (q.a8 (off':=3) rfl bR rfl) rfl<|D.one (i:=7) (by kernel_rfl) rfl ?_
           refine Do.s (s.e8 (us:=[v6]) (cs':=[z5,z6,z7,v6,iV ((aW r ((derived ((au r (⟨p.ao,slot⟩:Place)).1) r.ae rights 0).1) (⟨0,0⟩:Place)).ae),iV ((aW r ((derived ((au r (⟨p.ao,slot⟩:Place)).1) r.ae rights 0).1) (⟨0,0⟩:Place)).af)]) 8 _ rfl rfl rfl (fun w hw=>Sl.cJ (hw.row 0 rfl)) (.inr ⟨cy,rfl⟩) (fun w hw=>(ak (Sl.one (hw.row 0 rfl)) aS)) rfl rfl rfl) (fun _=>(fun _=>Wd.aM [2,3,4,5,6,7,9] [0,1,2,3,4,5,6,7] rfl rfl rfl)) rfl fun _=>D.done (by kernel_rfl)<|R.reg rfl<|R.q (q.cT 8 rfl rfl ar) rfl<|R.s rfl (s.e8 (us:=[z5,z6,z7,v6,iV ((aW r ((derived ((au r (⟨p.ao,slot⟩:Place)).1) r.ae rights 0).1) (⟨0,0⟩:Place)).ae),iV ((aW r ((derived ((au r (⟨p.ao,slot⟩:Place)).1) r.ae rights 0).1) (⟨0,0⟩:Place)).af)]) (cs':=[z5,z6,z7,v6,iV ((aW r ((derived ((au r (⟨p.ao,slot⟩:Place)).1) r.ae rights 0).1) (⟨0,0⟩:Place)).ae),iV ((aW r ((derived ((au r (⟨p.ao,slot⟩:Place)).1) r.ae rights 0).1) (⟨0,0⟩:Place)).af)]) 6 _ rfl rfl rfl (fun _ _=>rfl) (.inl ar) (fun w hw=>(ak (Sl.one (hw.aT 0 rfl)) (ak (Sl.one (hw.aT 1 rfl)) (ak (Sl.one (hw.aT 2 rfl)) (ak (Sl.one (hw.row 0 rfl)) (ak rfl (ak rfl aS))))))) rfl rfl rfl) fun _=>R.u 1 rfl<|R.nil ?_
           refine R.mp (B':=[ag.row 72 (.slice (some ⟨b14,0,none⟩) 1 1) ([(⟨((aO r p 2 2).1).ah,d,((aO r p 2 2).1).aG,((derived ((au r (⟨p.ao,slot⟩:Place)).1) r.ae rights 0).1).ID⟩:Note)]:List Note),ag.box b11 (aA ((derived ((au r (⟨p.ao,slot⟩:Place)).1) r.ae rights 0).1)) 88,ag.box b10 (aA ((au r (⟨p.ao,slot⟩:Place)).1)) 88,ag.box b6 [iV (((aO r p 2 2).1).ah),.string d,iV (((aO r p 2 2).1).aG),iV (((derived ((au r (⟨p.ao,slot⟩:Place)).1) r.ae rights 0).1).ID)] 72,ag.box b4 (aA ((aO r p 2 2).1)) 88,ag.box b3 [z5,z6,z7,v6,iV ((aW r ((derived ((au r (⟨p.ao,slot⟩:Place)).1) r.ae rights 0).1) (⟨0,0⟩:Place)).ae),iV ((aW r ((derived ((au r (⟨p.ao,slot⟩:Place)).1) r.ae rights 0).1) (⟨0,0⟩:Place)).af)] 32,ag.box b2 (aE p) 39,ag.box b1 [z5,z6,z7,v6,iV ((aW r ((derived ((au r (⟨p.ao,slot⟩:Place)).1) r.ae rights 0).1) (⟨0,0⟩:Place)).ae),iV ((aW r ((derived ((au r (⟨p.ao,slot⟩:Place)).1) r.ae rights 0).1) (⟨0,0⟩:Place)).af)] 32,ag.held w own]) (fun _ hw=>hw.di 0 _ rfl rfl) ?_
           have hz:bZ r p d slot rights=((⟨(aW r ((derived ((au r (⟨p.ao,slot⟩:Place)).1) r.ae rights 0).1) (⟨0,0⟩:Place)).ai,(aW r ((derived ((au r (⟨p.ao,slot⟩:Place)).1) r.ae rights 0).1) (⟨0,0⟩:Place)).Things,(aW r ((derived ((au r (⟨p.ao,slot⟩:Place)).1) r.ae rights 0).1) (⟨0,0⟩:Place)).Held,(((aW r ((derived ((au r (⟨p.ao,slot⟩:Place)).1) r.ae rights 0).1) (⟨0,0⟩:Place)).Notes)++([(⟨((aO r p 2 2).1).ah,d,((aO r p 2 2).1).aG,((derived ((au r (⟨p.ao,slot⟩:Place)).1) r.ae rights 0).1).ID⟩:Note)])),(aW r ((derived ((au r (⟨p.ao,slot⟩:Place)).1) r.ae rights 0).1) (⟨0,0⟩:Place)).ae,(aW r ((derived ((au r (⟨p.ao,slot⟩:Place)).1) r.ae rights 0).1) (⟨0,0⟩:Place)).af⟩:ap),0):=by (rw [List.take_of_length_le (by omega)] at HC;subst HC;unfold bZ;(repeat' split) <;> first|rfl|(exfalso;omega)|(simp_all;done))
           rw [hz]
           exact R.w2 (z5,z6,z7,v6) [8] [1,2,3,0] rfl Tryz.results36 (RV.cell 5 rfl rfl ar) (RV.tmp rfl) rfl rfl rfl (cL rfl (gO rfl))
         ·
          refine R.q (q.fw rfl rfl Tryz.underlying35 (by omega)) rfl<|R.nil ?_
          refine R.aD rfl rfl ?_
          refine R.reg rfl<|R.q (q.build (cs:=aJ) cY rfl rfl) rfl<|R.u 1 rfl<|R.s rfl (s.st (us:=aJ) (cs':=aJ) 4 _ rfl rfl rfl rfl (.inl ar) rfl rfl rfl rfl) fun _=>R.u 1 rfl<|R.nil ?_
          refine R.mp (fun _ hw=>hw.bg (α:=aj)) ?_
          refine R.mp (fun _ hw=>hw.bg (α:=ah)) ?_
          refine R.mp (fun _ hw=>hw.bg (α:=Held)) ?_
          refine R.mp (fun _ hw=>hw.bg (α:=Note)) ?_
          have hz:bZ r p d slot rights=((⟨[],[],[],[],0,0⟩:ap),(derived ((au r (⟨p.ao,slot⟩:Place)).1) r.ae rights 0).2):=by (rw [List.take_of_length_le (by omega)] at HC;subst HC;unfold bZ;(repeat' split) <;> first|rfl|(exfalso;omega)|(simp_all;done))
          rw [hz]
          exact R.w2 ((nS),(nS),(nS),(nS)) [7] [3,2,1,0] rfl Tryz.results36 (RV.cell 4 rfl rfl ar) (RV.tmp rfl) rfl rfl rfl (cL rfl rfl)
       ·
        refine R.q (q.fw rfl rfl Tryz.underlying35 (by omega)) rfl<|R.nil ?_
        refine R.aD rfl rfl ?_
        refine R.reg rfl<|R.q (q.build (cs:=aJ) cY rfl rfl) rfl<|R.u 1 rfl<|R.s rfl (s.st (us:=aJ) (cs':=aJ) 3 _ rfl rfl rfl rfl (.inl ar) rfl rfl rfl rfl) fun _=>R.u 1 rfl<|R.nil ?_
        refine R.mp (fun _ hw=>hw.bg (α:=aj)) ?_
        refine R.mp (fun _ hw=>hw.bg (α:=ah)) ?_
        refine R.mp (fun _ hw=>hw.bg (α:=Held)) ?_
        refine R.mp (fun _ hw=>hw.bg (α:=Note)) ?_
        have hz:bZ r p d slot rights=((⟨[],[],[],[],0,0⟩:ap),(au r (⟨p.ao,slot⟩:Place)).2):=by (rw [List.take_of_length_le (by omega)] at HC;subst HC;unfold bZ;(repeat' split) <;> first|rfl|(exfalso;omega)|(simp_all;done))
        rw [hz]
        exact R.w2 ((nS),(nS),(nS),(nS)) [6] [3,2,1,0] rfl Tryz.results36 (RV.cell 3 rfl rfl ar) (RV.tmp rfl) rfl rfl rfl (cL rfl rfl)
      ·
       refine R.c (q.call mX rfl rfl (fun w hw=>(cv (congrArg Value.bool h7) (eI (((aO r p 2 2).1).Rights) (4) w  (by omega) (by omega))))) rfl<|R.u 1 rfl<|R.nil ?_
       refine R.aD rfl rfl ?_
       refine R.reg rfl<|R.q (q.build (cs:=aJ) cY rfl rfl) rfl<|R.q (q.iface rfl bI) rfl<|R.s rfl (s.st (us:=aJ) (cs':=aJ) 2 _ rfl rfl rfl rfl (.inl ar) rfl rfl rfl rfl) fun _=>R.u 1 rfl<|R.nil ?_
       refine R.mp (fun _ hw=>hw.bg (α:=aj)) ?_
       refine R.mp (fun _ hw=>hw.bg (α:=ah)) ?_
       refine R.mp (fun _ hw=>hw.bg (α:=Held)) ?_
       refine R.mp (fun _ hw=>hw.bg (α:=Note)) ?_
       have hz:bZ r p d slot rights=((⟨[],[],[],[],0,0⟩:ap),7):=by (rw [List.take_of_length_le (by omega)] at HC;subst HC;unfold bZ;(repeat' split) <;> first|rfl|(exfalso;omega)|(simp_all;done))
       rw [hz]
       exact R.w2 ((nS),(nS),(nS),(nS)) [5] [3,2,1,0] rfl Tryz.results36 (RV.cell 2 rfl rfl ar) (RV.tmp rfl) rfl rfl rfl (cL rfl (dP (by decide) rfl))
 ·
  refine R.q (q.fw rfl rfl Tryz.underlying35 (by omega)) rfl<|R.nil ?_
  refine R.aD rfl rfl ?_
  refine R.reg rfl<|R.q (q.build (cs:=aJ) cY rfl rfl) rfl<|R.u 1 rfl<|R.s rfl (s.st (us:=aJ) (cs':=aJ) 1 _ rfl rfl rfl rfl (.inl ar) rfl rfl rfl rfl) fun _=>R.u 1 rfl<|R.nil ?_
  refine R.mp (fun _ hw=>hw.bg (α:=aj)) ?_
  refine R.mp (fun _ hw=>hw.bg (α:=ah)) ?_
  refine R.mp (fun _ hw=>hw.bg (α:=Held)) ?_
  refine R.mp (fun _ hw=>hw.bg (α:=Note)) ?_
  have hz:bZ r p d slot rights=((⟨[],[],[],[],0,0⟩:ap),(aO r p 2 2).2.2):=by (unfold bZ;(repeat' split) <;> first|rfl|(exfalso;omega)|(simp_all;done))
  rw [hz]
  exact R.w2 ((nS),(nS),(nS),(nS)) [4] [3,2,1,0] rfl Tryz.results36 (RV.cell 1 rfl rfl ar) (RV.tmp rfl) rfl rfl rfl (cL rfl rfl)
theorem uZ (aF az aC aB:Value)(r:ap)(p:Place)(w:World)(own:List Nat)(H:Wd w (blks []++own) ([]++[ag.held w own]) [ag.ls aF (r.ai:List aj),ag.ls az (r.Things:List ah),ag.ls aC (r.Held:List Held),ag.ls aB (r.Notes:List Note)] w)(hk:Ok r):Calls Tryz.prog 37 #[.agg #[aF,az,aC,aB,iV r.ae,iV r.af],.agg #[iV p.ao,iV p.Slot]] w fun e w' => ∃z:Value×Value×Value×Value,e = .returned (.tuple #[.agg #[z.1,z.2.1,z.2.2.1,z.2.2.2,iV ((((bU r p)).1).ae),iV ((((bU r p)).1).af)],.agg #[iV ((((bU r p)).2.1).Port),.string ((((bU r p)).2.1).Data),iV ((((bU r p)).2.1).aG),iV ((((bU r p)).2.1).aj)],iV (((bU r p)).2.2.1),e6 (((bU r p)).2.2.2)])∧Wd w (blks []++own) ([]++[ag.held w own]) [ag.ls z.1 ((((bU r p)).1).ai:List aj),ag.ls z.2.1 ((((bU r p)).1).Things:List ah),ag.ls z.2.2.1 ((((bU r p)).1).Held:List Held),ag.ls z.2.2.2 ((((bU r p)).1).Notes:List Note)] w':=by
 have dR:=H.cX 0 rfl
 have dq:=H.cX 1 rfl
 have eK:=H.cX 2 rfl
 have dS:=H.cX 3 rfl
 have bw:=hk.wl;have bt:=hk.tl;have bh:=hk.hl;have bn:=hk.nl;have xF:=hk.w0;have xG:=hk.w1;have xH:=hk.t0;have xI:=hk.t1
 refine R.dc (n:=74) (vs:=[.agg #[aF,az,aC,aB,iV r.ae,iV r.af],.agg #[iV p.ao,iV p.Slot]]) (B:=[ag.held w own]) [(0,.agg #[aF,az,aC,aB,iV r.ae,iV r.af]),(1,.agg #[iV p.ao,iV p.Slot])] Tryz.func37 rfl rfl rfl rfl H ?_
 refine R.reg rfl<|R.s rfl (s.box (cs:=[aF,az,aC,aB,iV r.ae,iV r.af]) rfl rfl rfl) fun b1=>R.s rfl (s.box (cs:=aE p) rfl rfl rfl) fun b2=>R.s rfl (s.alloc (cs:=aJ) cD rfl rfl) fun b3=>R.s rfl (s.alloc (cs:=[iV 0,.string (⟨#[]⟩),iV 0,iV 0]) dC rfl rfl) fun b4=>R.u 2 rfl<|R.nil ?_
 refine R.reg rfl<|R.q (q.cT 3 rfl rfl ar) rfl<|R.q (q.cT 2 rfl rfl br) rfl<|R.c (q.call vV rfl rfl (fun w hw=>(oG _ _ _ _ (r) (p) (2) (1) w (hw.aT 0 rfl) (hw.aT 1 rfl) (hw.aT 2 rfl) (hw.aT 3 rfl) ‹_› (by omega)))) rfl<|R.u 4 rfl<|R.s rfl (s.alloc (cs:=dw) bE rfl rfl) fun b5=>R.s rfl (s.st (us:=aA ((aO r p 2 1).1)) (cs':=aA ((aO r p 2 1).1)) 0 _ rfl rfl rfl rfl (.inl aQ) rfl rfl rfl rfl) fun _=>R.u 2 rfl<|R.nil ?_
 refine R.reg rfl<|R.u 1 rfl<|?_
 by_cases h1:(aO r p 2 1).2.2=0
 ·
  refine R.q (q.fr rfl rfl Tryz.underlying35 (by omega)) rfl<|R.nil ?_
  refine R.aI rfl rfl ?_
  refine R.reg rfl<|R.q (q.a8 (off':=3) rfl bR rfl) rfl<|R.q (q.ld 4 rfl rfl cy rfl) rfl<|R.q (q.AZ (cap:=[.pointer (some ⟨b5,0,none⟩)]) rfl rfl) rfl<|?_
  rcases f8 (fun (t:Note)=>t.Port==((aO r p 2 1).1).ah) r.Notes with ⟨dF,lp⟩ | ⟨ij,iA,dF,eC,fU,gJ,C8⟩
  ·
   refine R.c (q.call zj rfl rfl (fun w hw=>(cv (congrArg (Value.int .i64) dF) (iN _ (r.Notes) (fun (t:Note)=>t.Port==((aO r p 2 1).1).ah) _ _ zm w (hw.aT 3 rfl) (fun W t hW=>m9 t (((aO r p 2 1).1)) _ W (lM (hw.b 0 rfl) hW) ) )))) rfl<|R.u 1 rfl<|R.nil ?_
   refine R.reg rfl<|R.u 1 rfl<|R.q (q.lss (b:=true) rfl rfl (by decide)) rfl<|R.nil ?_
   refine R.aD rfl rfl ?_
   refine R.reg rfl<|R.q (q.build (cs:=aJ) cY rfl rfl) rfl<|R.q (q.build (cs:=[iV 0,.string (⟨#[]⟩),iV 0,iV 0]) tJ rfl rfl) rfl<|R.q (q.iface rfl bI) rfl<|R.s rfl (s.st (us:=aJ) (cs':=aJ) 2 _ rfl rfl rfl rfl (.inl ar) rfl rfl rfl rfl) fun _=>R.s rfl (s.st (us:=[iV 0,.string (⟨#[]⟩),iV 0,iV 0]) (cs':=[iV 0,.string (⟨#[]⟩),iV 0,iV 0]) 1 _ rfl rfl rfl rfl (.inl cm) rfl rfl rfl rfl) fun _=>R.u 2 rfl<|R.nil ?_
   refine R.mp (fun _ hw=>hw.bg (α:=aj)) ?_
   refine R.mp (fun _ hw=>hw.bg (α:=ah)) ?_
   refine R.mp (fun _ hw=>hw.bg (α:=Held)) ?_
   refine R.mp (fun _ hw=>hw.bg (α:=Note)) ?_
   have hz:bU r p=((⟨[],[],[],[],0,0⟩:ap),(⟨0,⟨#[]⟩,0,0⟩:Note),0,5):=by (unfold bU;first|(rw [if_neg ‹_›];first|done|rfl)|(rw [if_pos ‹_›,dF,show decide ((0:Int) ≤ -1)=false from rfl];cases r.Notes[(-1:Int).toNat]? <;> rfl)|(rw [if_pos ‹_›,dF,Int.toNat_natCast,eC,decide_eq_true (by omega)];dsimp only;(repeat' split) <;> first|rfl|(exfalso;omega)))
   rw [hz]
   exact R.w4 ((nS),(nS),(nS),(nS)) [5] [3,2,1,0] rfl Tryz.results37 (RV.cell 2 rfl rfl ar) (RV.cell 1 rfl rfl cm) (RV.tmp rfl) (RV.tmp rfl) rfl rfl rfl (vI rfl rfl rfl (dP (by decide) rfl))
  ·
   refine R.c (q.call zj rfl rfl (fun w hw=>(cv (congrArg (Value.int .i64) dF) (iN _ (r.Notes) (fun (t:Note)=>t.Port==((aO r p 2 1).1).ah) _ _ zm w (hw.aT 3 rfl) (fun W t hW=>m9 t (((aO r p 2 1).1)) _ W (lM (hw.b 0 rfl) hW) ) )))) rfl<|R.u 1 rfl<|R.nil ?_
   refine R.reg rfl<|R.u 1 rfl<|R.q (q.lss rfl rfl (decide_eq_false (by omega))) rfl<|R.nil ?_
   refine R.aI rfl rfl ?_
   refine R.reg rfl<|R.q (q.a8 (off':=3) rfl bR rfl) rfl<|R.q (q.ld 4 rfl rfl cy rfl) rfl<|R.u 1 rfl<|R.q (q.idx (i:=ij) (fun _=>Wd.aT 3 rfl) rfl rfl dW rfl eC) rfl<|R.q (q.dD (ds:=cb iA) (fun _=>Wd.aT 3 rfl) eC rfl cm rfl) rfl<|R.s rfl (s.alloc (cs:=[iV 0,.string (⟨#[]⟩),iV 0,iV 0]) dC rfl rfl) fun b6=>R.s rfl (s.st (us:=cb iA) (cs':=cb iA) 0 _ rfl rfl rfl rfl (.inl cm) rfl rfl rfl rfl) fun _=>R.nil ?_
   refine R.reg rfl<|R.u 1 rfl<|R.nil ?_
   refine R.reg rfl<|R.q (q.a8 (off':=3) rfl fm rfl) rfl<|R.q (q.ld 0 rfl rfl av rfl) rfl<|?_
   by_cases h2:0<iA.aj
   ·
    refine R.q (q.gtr rfl rfl (decide_eq_true (by omega))) rfl<|R.nil ?_
    refine R.aD rfl rfl ?_
    refine R.reg rfl<|R.q (q.a8 (off':=2) rfl bP rfl) rfl<|R.q (q.ld 5 rfl rfl cx rfl) rfl<|R.q (q.a8 (off':=0) rfl bG rfl) rfl<|R.q (q.ld 4 rfl rfl av rfl) rfl<|R.c (q.call Cm rfl rfl (fun w hw=>(wq _ (r.Held) (p.ao) w (hw.aT 2 rfl) (by first|omega|assumption|(simp;done)|(simp;omega))))) rfl<|R.u 1 rfl<|R.nil ?_
    refine R.reg rfl<|R.u 1 rfl<|?_
    by_cases h3:eu r.Held p.ao<0
    ·
     refine R.q (q.lss rfl rfl (decide_eq_true (by omega))) rfl<|R.nil ?_
     refine R.aD rfl rfl ?_
     refine R.reg rfl<|R.q (q.build (cs:=aJ) cY rfl rfl) rfl<|R.q (q.build (cs:=[iV 0,.string (⟨#[]⟩),iV 0,iV 0]) tJ rfl rfl) rfl<|R.q (q.iface rfl bI) rfl<|R.s rfl (s.st (us:=aJ) (cs':=aJ) 3 _ rfl rfl rfl rfl (.inl ar) rfl rfl rfl rfl) fun _=>R.s rfl (s.st (us:=[iV 0,.string (⟨#[]⟩),iV 0,iV 0]) (cs':=[iV 0,.string (⟨#[]⟩),iV 0,iV 0]) 2 _ rfl rfl rfl rfl (.inl cm) rfl rfl rfl rfl) fun _=>R.u 2 rfl<|R.nil ?_
     refine R.mp (fun _ hw=>hw.bg (α:=aj)) ?_
     refine R.mp (fun _ hw=>hw.bg (α:=ah)) ?_
     refine R.mp (fun _ hw=>hw.bg (α:=Held)) ?_
     refine R.mp (fun _ hw=>hw.bg (α:=Note)) ?_
     have hz:bU r p=((⟨[],[],[],[],0,0⟩:ap),(⟨0,⟨#[]⟩,0,0⟩:Note),0,9):=by (unfold bU;first|(rw [if_neg ‹_›];first|done|rfl)|(rw [if_pos ‹_›,dF,show decide ((0:Int) ≤ -1)=false from rfl];cases r.Notes[(-1:Int).toNat]? <;> rfl)|(rw [if_pos ‹_›,dF,Int.toNat_natCast,eC,decide_eq_true (by omega)];dsimp only;(repeat' split) <;> first|rfl|(exfalso;omega)))
     rw [hz]
     exact R.w4 ((nS),(nS),(nS),(nS)) [6] [3,2,1,0] rfl Tryz.results37 (RV.cell 3 rfl rfl ar) (RV.cell 2 rfl rfl cm) (RV.tmp rfl) (RV.tmp rfl) rfl rfl rfl (vI rfl rfl rfl (dP (by decide) rfl))
    ·
     refine R.q (q.lss rfl rfl (decide_eq_false (by omega))) rfl<|R.nil ?_
     refine R.aI rfl rfl ?_
     refine R.reg rfl<|R.q (q.a8 (off':=2) rfl bP rfl) rfl<|R.q (q.ld 5 rfl rfl cx rfl) rfl<|R.q (q.a8 (off':=0) rfl bG rfl) rfl<|R.q (q.ld 4 rfl rfl av rfl) rfl<|R.u 1 rfl<|R.q (q.build (cs:=[iV p.ao,iV (eu r.Held p.ao)]) mW rfl rfl) rfl<|R.q (q.a8 (off':=3) rfl fm rfl) rfl<|R.q (q.ld 0 rfl rfl av rfl) rfl<|R.s (B':=(fun aH:Value=>[ag.row 85 aH ((cE r.Held (⟨p.ao,eu r.Held p.ao⟩:Place) iA.aj):List Held),ag.box b6 (cb iA) 72,ag.box b5 (aA ((aO r p 2 1).1)) 88,ag.box b4 [iV 0,.string (⟨#[]⟩),iV 0,iV 0] 72,ag.box b3 aJ 32,ag.box b2 (aE p) 39,ag.box b1 [aF,az,aC,aB,iV r.ae,iV r.af] 32,ag.held w own])) (F':=(fun aH:Value=>[ag.ls aF (r.ai:List aj),ag.ls az (r.Things:List ah),ag.ls aC (r.Held:List Held),ag.ls aB (r.Notes:List Note)])) rfl (s.bJ (B0:=[]) (Br:=[ag.box b6 (cb iA) 72,ag.box b5 (aA ((aO r p 2 1).1)) 88,ag.box b4 [iV 0,.string (⟨#[]⟩),iV 0,iV 0] 72,ag.box b3 aJ 32,ag.box b2 (aE p) 39,ag.box b1 [aF,az,aC,aB,iV r.ae,iV r.af] 32,ag.held w own]) (F0:=[ag.ls aC (r.Held:List Held)]) [0,1,2,3,4,5,6] [2] (fun aH:Value=>aH) (fun aH:Value=>[ag.row 85 aH ((cE r.Held (⟨p.ao,eu r.Held p.ao⟩:Place) iA.aj):List Held)]) (fun aH:Value=>[]) rfl rfl rfl pI rfl rfl (fun w own hw H=>kB aC (r.Held) ((⟨p.ao,eu r.Held p.ao⟩:Place)) (iA.aj) w own H (by first|omega|assumption|(simp;done)|(simp;omega))) rfl) fun z1=>R.q (q.a8 (off':=2) rfl bP rfl) rfl<|R.s rfl (s.e8 (us:=[z1]) (cs':=[aF,az,z1,aB,iV r.ae,iV r.af]) 6 _ rfl rfl rfl (fun w hw=>Sl.cJ (hw.row 0 rfl)) (.inr ⟨cx,rfl⟩) (fun w hw=>(ak (Sl.one (hw.row 0 rfl)) aS)) rfl rfl rfl) fun _=>R.nil ?_
     refine R.reg rfl<|R.q (q.a8 (off':=3) rfl bR rfl) rfl<|R.q (q.ld 6 rfl rfl cy rfl) rfl<|R.s (B':=(fun aH:Value=>[ag.row 72 aH (r.Notes:List Note),ag.row 85 z1 (cE r.Held (⟨p.ao,eu r.Held p.ao⟩:Place) iA.aj:List Held),ag.box b6 (cb iA) 72,ag.box b5 (aA ((aO r p 2 1).1)) 88,ag.box b4 [iV 0,.string (⟨#[]⟩),iV 0,iV 0] 72,ag.box b3 aJ 32,ag.box b2 (aE p) 39,ag.box b1 [aF,az,z1,aB,iV r.ae,iV r.af] 32,ag.held w own])) (F':=(fun aH:Value=>[ag.ls aF (r.ai:List aj),ag.ls az (r.Things:List ah),ag.ls aC (r.Held:List Held),ag.ls aB (r.Notes:List Note)])) rfl (s.bJ (B0:=[]) (Br:=[ag.row 85 z1 (cE r.Held (⟨p.ao,eu r.Held p.ao⟩:Place) iA.aj:List Held),ag.box b6 (cb iA) 72,ag.box b5 (aA ((aO r p 2 1).1)) 88,ag.box b4 [iV 0,.string (⟨#[]⟩),iV 0,iV 0] 72,ag.box b3 aJ 32,ag.box b2 (aE p) 39,ag.box b1 [aF,az,z1,aB,iV r.ae,iV r.af] 32,ag.held w own]) (F0:=[ag.ls aB (r.Notes:List Note)]) [0,1,2,3,4,5,6,7] [3] (fun aH:Value=>aH) (fun aH:Value=>[ag.row 72 aH (r.Notes:List Note)]) (fun aH:Value=>[]) rfl rfl rfl mZ rfl rfl (fun w own hw H=>ea aB (r.Notes) w own H (by first|omega|assumption|(simp;done)|(simp;omega))) rfl) fun z2=>R.u 2 rfl<|R.q (q.add (r:=((ij+1:Nat):Int)) rfl rfl (wr (by omega))) rfl<|R.s (B':=(fun aH:Value=>[ag.row 72 aH ((r.Notes.take ij++r.Notes.drop (ij+1)):List Note),ag.row 85 z1 (cE r.Held (⟨p.ao,eu r.Held p.ao⟩:Place) iA.aj:List Held),ag.box b6 (cb iA) 72,ag.box b5 (aA ((aO r p 2 1).1)) 88,ag.box b4 [iV 0,.string (⟨#[]⟩),iV 0,iV 0] 72,ag.box b3 aJ 32,ag.box b2 (aE p) 39,ag.box b1 [aF,az,z1,aB,iV r.ae,iV r.af] 32,ag.held w own])) (F':=(fun aH:Value=>[ag.ls aF (r.ai:List aj),ag.ls az (r.Things:List ah),ag.ls aC (r.Held:List Held),ag.ls aB (r.Notes:List Note)])) rfl (s.bJ (B0:=[ag.row 72 z2 (r.Notes:List Note)]) (Br:=[ag.row 85 z1 (cE r.Held (⟨p.ao,eu r.Held p.ao⟩:Place) iA.aj:List Held),ag.box b6 (cb iA) 72,ag.box b5 (aA ((aO r p 2 1).1)) 88,ag.box b4 [iV 0,.string (⟨#[]⟩),iV 0,iV 0] 72,ag.box b3 aJ 32,ag.box b2 (aE p) 39,ag.box b1 [aF,az,z1,aB,iV r.ae,iV r.af] 32,ag.held w own]) (F0:=[]) [0,1,2,3,4,5,6,7,8] [] (fun aH:Value=>aH) (fun aH:Value=>[ag.row 72 aH ((r.Notes.take ij++r.Notes.drop (ij+1)):List Note)]) (fun aH:Value=>[]) rfl rfl rfl zn rfl rfl (fun w own hw H=>kl z2 (r.Notes) (ij) ((ij+1)) w own H (by omega)) rfl) fun z3=>R.q (q.a8 (off':=3) rfl bR rfl) rfl<|R.s rfl (s.e8 (us:=[z3]) (cs':=[aF,az,z1,z3,iV r.ae,iV r.af]) 7 _ rfl rfl rfl (fun w hw=>Sl.cJ (hw.row 0 rfl)) (.inr ⟨cy,rfl⟩) (fun w hw=>(ak (Sl.one (hw.row 0 rfl)) aS)) rfl rfl rfl) fun _=>R.nil ?_
     refine R.gN (fuel:=7) (Wd w (blks []++own) [ag.row 72 z3 (r.Notes.take ij++r.Notes.drop (ij+1):List Note),ag.row 85 z1 (cE r.Held (⟨p.ao,eu r.Held p.ao⟩:Place) iA.aj:List Held),ag.box b6 (cb iA) 72,ag.box b5 (aA ((aO r p 2 1).1)) 88,ag.box b2 (aE p) 39,ag.box b1 [aF,az,z1,z3,iV r.ae,iV r.af] 32,ag.held w own] [ag.ls aF (r.ai:List aj),ag.ls az (r.Things:List ah),ag.ls aC (r.Held:List Held),ag.ls aB (r.Notes:List Note)]) rfl mixed rfl ?_
     refine D.q (i:=0) rfl (by kernel_rfl) (fun _=>Wd.aM [0,1,2,3,6,7,8] [0,1,2,3] rfl rfl rfl) rfl (q.cT 5 rfl rfl ar) rfl<|D.q (i:=1) rfl (by kernel_rfl) (fun _=>Wd.aM [0,1,2,3,6,7,8] [0,1,2,3] rfl rfl rfl) rfl (q.cT 2 rfl rfl cm) rfl<|D.q (i:=2) rfl (by kernel_rfl) (fun _=>Wd.aM [0,1,2,3,6,7,8] [0,1,2,3] rfl rfl rfl) rfl (q.mv rfl) rfl<|D.one (i:=3) (by kernel_rfl) rfl ?_
     refine Do.s (s.e8 (us:=[aF,az,z1,z3,iV r.ae,iV r.af]) (cs':=[aF,az,z1,z3,iV r.ae,iV r.af]) 5 _ rfl rfl rfl (fun _ _=>rfl) (.inl ar) (fun w hw=>(ak (Sl.one (hw.aT 0 rfl)) (ak (Sl.one (hw.aT 1 rfl)) (ak (Sl.one (hw.row 1 rfl)) (ak (Sl.one (hw.row 0 rfl)) (ak rfl (ak rfl aS))))))) rfl rfl rfl) (fun _=>(fun _=>Wd.aM [0,1,2,3,6,7,8] [0,1,2,3] rfl rfl rfl)) rfl fun _=>D.one (i:=4) (by kernel_rfl) rfl ?_
     refine Do.s (s.st (us:=cb iA) (cs':=cb iA) 4 _ rfl rfl rfl rfl (.inl cm) rfl rfl rfl rfl) (fun _=>(fun _=>Wd.aM [0,1,2,3,6,7,8] [0,1,2,3] rfl rfl rfl)) rfl fun _=>D.q (i:=5) rfl (by kernel_rfl) (fun _=>Wd.aM [0,1,2,3,6,7,8] [0,1,2,3] rfl rfl rfl) rfl (q.as rfl) rfl<|D.q (i:=6) rfl (by kernel_rfl) (fun _=>Wd.aM [0,1,2,3,6,7,8] [0,1,2,3] rfl rfl rfl) rfl (q.as rfl) rfl<|D.done (by kernel_rfl)<|R.mp (B':=[ag.row 72 z3 (r.Notes.take ij++r.Notes.drop (ij+1):List Note),ag.box b6 (cb iA) 72,ag.box b5 (aA ((aO r p 2 1).1)) 88,ag.box b4 (cb iA) 72,ag.box b3 [aF,az,z1,z3,iV r.ae,iV r.af] 32,ag.box b2 (aE p) 39,ag.box b1 [aF,az,z1,z3,iV r.ae,iV r.af] 32,ag.held w own]) (fun _ hw=>hw.di 1 _ rfl rfl) ?_
     refine R.mp (B':=[ag.box b6 (cb iA) 72,ag.box b5 (aA ((aO r p 2 1).1)) 88,ag.box b4 (cb iA) 72,ag.box b3 [aF,az,z1,z3,iV r.ae,iV r.af] 32,ag.box b2 (aE p) 39,ag.box b1 [aF,az,z1,z3,iV r.ae,iV r.af] 32,ag.held w own]) (fun _ hw=>hw.di 0 _ rfl rfl) ?_
     have hz:bU r p=((⟨r.ai,r.Things,cE r.Held (⟨p.ao,eu r.Held p.ao⟩:Place) iA.aj,r.Notes.take ij++r.Notes.drop (ij+1),r.ae,r.af⟩:ap),iA,eu r.Held p.ao,0):=by (unfold bU;first|(rw [if_neg ‹_›];first|done|rfl)|(rw [if_pos ‹_›,dF,show decide ((0:Int) ≤ -1)=false from rfl];cases r.Notes[(-1:Int).toNat]? <;> rfl)|(rw [if_pos ‹_›,dF,Int.toNat_natCast,eC,decide_eq_true (by omega)];dsimp only;(repeat' split) <;> first|rfl|(exfalso;omega)))
     rw [hz]
     exact R.w4 (aF,az,z1,z3) [6] [2,3,1,0] rfl Tryz.results37 (RV.cell 3 rfl rfl ar) (RV.cell 2 rfl rfl cm) (RV.tmp rfl) (RV.tmp rfl) rfl rfl rfl (vI rfl rfl rfl (gO rfl))
   ·
    refine R.q (q.gtr rfl rfl (decide_eq_false (by omega))) rfl<|R.nil ?_
    refine R.aI rfl rfl ?_
    refine R.reg rfl<|R.q (q.a8 (off':=3) rfl bR rfl) rfl<|R.q (q.ld 5 rfl rfl cy rfl) rfl<|R.s (B':=(fun aH:Value=>[ag.row 72 aH (r.Notes:List Note),ag.box b6 (cb iA) 72,ag.box b5 (aA ((aO r p 2 1).1)) 88,ag.box b4 [iV 0,.string (⟨#[]⟩),iV 0,iV 0] 72,ag.box b3 aJ 32,ag.box b2 (aE p) 39,ag.box b1 [aF,az,aC,aB,iV r.ae,iV r.af] 32,ag.held w own])) (F':=(fun aH:Value=>[ag.ls aF (r.ai:List aj),ag.ls az (r.Things:List ah),ag.ls aC (r.Held:List Held),ag.ls aB (r.Notes:List Note)])) rfl (s.bJ (B0:=[]) (Br:=[ag.box b6 (cb iA) 72,ag.box b5 (aA ((aO r p 2 1).1)) 88,ag.box b4 [iV 0,.string (⟨#[]⟩),iV 0,iV 0] 72,ag.box b3 aJ 32,ag.box b2 (aE p) 39,ag.box b1 [aF,az,aC,aB,iV r.ae,iV r.af] 32,ag.held w own]) (F0:=[ag.ls aB (r.Notes:List Note)]) [0,1,2,3,4,5,6] [3] (fun aH:Value=>aH) (fun aH:Value=>[ag.row 72 aH (r.Notes:List Note)]) (fun aH:Value=>[]) rfl rfl rfl mZ rfl rfl (fun w own hw H=>ea aB (r.Notes) w own H (by first|omega|assumption|(simp;done)|(simp;omega))) rfl) fun z4=>R.u 2 rfl<|R.q (q.add (r:=((ij+1:Nat):Int)) rfl rfl (wr (by omega))) rfl<|R.s (B':=(fun aH:Value=>[ag.row 72 aH ((r.Notes.take ij++r.Notes.drop (ij+1)):List Note),ag.box b6 (cb iA) 72,ag.box b5 (aA ((aO r p 2 1).1)) 88,ag.box b4 [iV 0,.string (⟨#[]⟩),iV 0,iV 0] 72,ag.box b3 aJ 32,ag.box b2 (aE p) 39,ag.box b1 [aF,az,aC,aB,iV r.ae,iV r.af] 32,ag.held w own])) (F':=(fun aH:Value=>[ag.ls aF (r.ai:List aj),ag.ls az (r.Things:List ah),ag.ls aC (r.Held:List Held),ag.ls aB (r.Notes:List Note)])) rfl (s.bJ (B0:=[ag.row 72 z4 (r.Notes:List Note)]) (Br:=[ag.box b6 (cb iA) 72,ag.box b5 (aA ((aO r p 2 1).1)) 88,ag.box b4 [iV 0,.string (⟨#[]⟩),iV 0,iV 0] 72,ag.box b3 aJ 32,ag.box b2 (aE p) 39,ag.box b1 [aF,az,aC,aB,iV r.ae,iV r.af] 32,ag.held w own]) (F0:=[]) [0,1,2,3,4,5,6,7] [] (fun aH:Value=>aH) (fun aH:Value=>[ag.row 72 aH ((r.Notes.take ij++r.Notes.drop (ij+1)):List Note)]) (fun aH:Value=>[]) rfl rfl rfl zn rfl rfl (fun w own hw H=>kl z4 (r.Notes) (ij) ((ij+1)) w own H (by omega)) rfl) fun z5=>R.q (q.a8 (off':=3) rfl bR rfl) rfl<|R.s rfl (s.e8 (us:=[z5]) (cs':=[aF,az,aC,z5,iV r.ae,iV r.af]) 6 _ rfl rfl rfl (fun w hw=>Sl.cJ (hw.row 0 rfl)) (.inr ⟨cy,rfl⟩) (fun w hw=>(ak (Sl.one (hw.row 0 rfl)) aS)) rfl rfl rfl) fun _=>R.nil ?_
    refine R.gN (fuel:=7) (Wd w (blks []++own) [ag.row 72 z5 (r.Notes.take ij++r.Notes.drop (ij+1):List Note),ag.box b6 (cb iA) 72,ag.box b5 (aA ((aO r p 2 1).1)) 88,ag.box b2 (aE p) 39,ag.box b1 [aF,az,aC,z5,iV r.ae,iV r.af] 32,ag.held w own] [ag.ls aF (r.ai:List aj),ag.ls az (r.Things:List ah),ag.ls aC (r.Held:List Held),ag.ls aB (r.Notes:List Note)]) rfl mixed rfl ?_
    refine D.q (i:=0) rfl (by kernel_rfl) (fun _=>Wd.aM [0,1,2,5,6,7] [0,1,2,3] rfl rfl rfl) rfl (q.cT 4 rfl rfl ar) rfl<|D.q (i:=1) rfl (by kernel_rfl) (fun _=>Wd.aM [0,1,2,5,6,7] [0,1,2,3] rfl rfl rfl) rfl (q.cT 1 rfl rfl cm) rfl<|D.q (i:=2) rfl (by kernel_rfl) (fun _=>Wd.aM [0,1,2,5,6,7] [0,1,2,3] rfl rfl rfl) rfl (q.mv rfl) rfl<|D.one (i:=3) (by kernel_rfl) rfl ?_
    refine Do.s (s.e8 (us:=[aF,az,aC,z5,iV r.ae,iV r.af]) (cs':=[aF,az,aC,z5,iV r.ae,iV r.af]) 4 _ rfl rfl rfl (fun _ _=>rfl) (.inl ar) (fun w hw=>(ak (Sl.one (hw.aT 0 rfl)) (ak (Sl.one (hw.aT 1 rfl)) (ak (Sl.one (hw.aT 2 rfl)) (ak (Sl.one (hw.row 0 rfl)) (ak rfl (ak rfl aS))))))) rfl rfl rfl) (fun _=>(fun _=>Wd.aM [0,1,2,5,6,7] [0,1,2,3] rfl rfl rfl)) rfl fun _=>D.one (i:=4) (by kernel_rfl) rfl ?_
    refine Do.s (s.st (us:=cb iA) (cs':=cb iA) 3 _ rfl rfl rfl rfl (.inl cm) rfl rfl rfl rfl) (fun _=>(fun _=>Wd.aM [0,1,2,5,6,7] [0,1,2,3] rfl rfl rfl)) rfl fun _=>D.q (i:=5) rfl (by kernel_rfl) (fun _=>Wd.aM [0,1,2,5,6,7] [0,1,2,3] rfl rfl rfl) rfl (q.as rfl) rfl<|D.q (i:=6) rfl (by kernel_rfl) (fun _=>Wd.aM [0,1,2,5,6,7] [0,1,2,3] rfl rfl rfl) rfl (q.as rfl) rfl<|D.done (by kernel_rfl)<|R.mp (B':=[ag.box b6 (cb iA) 72,ag.box b5 (aA ((aO r p 2 1).1)) 88,ag.box b4 (cb iA) 72,ag.box b3 [aF,az,aC,z5,iV r.ae,iV r.af] 32,ag.box b2 (aE p) 39,ag.box b1 [aF,az,aC,z5,iV r.ae,iV r.af] 32,ag.held w own]) (fun _ hw=>hw.di 0 _ rfl rfl) ?_
    have hz:bU r p=((⟨r.ai,r.Things,r.Held,r.Notes.take ij++r.Notes.drop (ij+1),r.ae,r.af⟩:ap),iA,-1,0):=by (unfold bU;first|(rw [if_neg ‹_›];first|done|rfl)|(rw [if_pos ‹_›,dF,show decide ((0:Int) ≤ -1)=false from rfl];cases r.Notes[(-1:Int).toNat]? <;> rfl)|(rw [if_pos ‹_›,dF,Int.toNat_natCast,eC,decide_eq_true (by omega)];dsimp only;(repeat' split) <;> first|rfl|(exfalso;omega)))
    rw [hz]
    exact R.w4 (aF,az,aC,z5) [6] [1,2,3,0] rfl Tryz.results37 (RV.cell 3 rfl rfl ar) (RV.cell 2 rfl rfl cm) (RV.tmp rfl) (RV.tmp rfl) rfl rfl rfl (vI rfl rfl rfl (gO rfl))
 ·
  refine R.q (q.fw rfl rfl Tryz.underlying35 (by omega)) rfl<|R.nil ?_
  refine R.aD rfl rfl ?_
  refine R.reg rfl<|R.q (q.build (cs:=aJ) cY rfl rfl) rfl<|R.q (q.build (cs:=[iV 0,.string (⟨#[]⟩),iV 0,iV 0]) tJ rfl rfl) rfl<|R.u 1 rfl<|R.s rfl (s.st (us:=aJ) (cs':=aJ) 2 _ rfl rfl rfl rfl (.inl ar) rfl rfl rfl rfl) fun _=>R.s rfl (s.st (us:=[iV 0,.string (⟨#[]⟩),iV 0,iV 0]) (cs':=[iV 0,.string (⟨#[]⟩),iV 0,iV 0]) 1 _ rfl rfl rfl rfl (.inl cm) rfl rfl rfl rfl) fun _=>R.u 2 rfl<|R.nil ?_
  refine R.mp (fun _ hw=>hw.bg (α:=aj)) ?_
  refine R.mp (fun _ hw=>hw.bg (α:=ah)) ?_
  refine R.mp (fun _ hw=>hw.bg (α:=Held)) ?_
  refine R.mp (fun _ hw=>hw.bg (α:=Note)) ?_
  have hz:bU r p=((⟨[],[],[],[],0,0⟩:ap),(⟨0,⟨#[]⟩,0,0⟩:Note),0,(aO r p 2 1).2.2):=by (unfold bU;first|(rw [if_neg ‹_›];first|done|rfl)|(rw [if_pos ‹_›,dF,show decide ((0:Int) ≤ -1)=false from rfl];cases r.Notes[(-1:Int).toNat]? <;> rfl)|(rw [if_pos ‹_›,dF,Int.toNat_natCast,eC,decide_eq_true (by omega)];dsimp only;(repeat' split) <;> first|rfl|(exfalso;omega)))
  rw [hz]
  exact R.w4 ((nS),(nS),(nS),(nS)) [5] [3,2,1,0] rfl Tryz.results37 (RV.cell 2 rfl rfl ar) (RV.cell 1 rfl rfl cm) (RV.tmp rfl) (RV.tmp rfl) rfl rfl rfl (vI rfl rfl rfl rfl)
end Go.Proofs.YtbkfhjaibhnkmaaGreatDoor
