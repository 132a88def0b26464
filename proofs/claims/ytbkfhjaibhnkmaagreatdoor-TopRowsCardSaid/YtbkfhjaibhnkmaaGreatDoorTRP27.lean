import Derived.Test.YtbkfhjaibhnkmaaGreatDoorTRP26
namespace Go.Proofs.YtbkfhjaibhnkmaaGreatDoor
open Go Go.RowKit
set_option linter.unusedVariables false
set_option linter.unusedSimpArgs false
set_option maxRecDepth 100000
theorem oG (aD az aC aB:Value)(r:au)(p:Place)(kind:Int)(w:World)(own:List Nat)(H:Wd w (blks []++own) ([]++[ah.held w own]) [ah.ls aD (r.aj:List ak),ah.ls az (r.Things:List ai),ah.ls aC (r.Held:List Held),ah.ls aB (r.Notes:List Note)] w)(hk:Ok r):Calls Tryz.prog 30 #[.agg #[aD,az,aC,aB,.int .i64 r.ae,.int .i64 r.af],.agg #[.int .i64 p.ag,.int .i64 p.Slot],.int .i64 kind] w fun e w' => ∃z:Value×Value×Value×Value,e = .returned (.tuple #[.agg #[z.1,z.2.1,z.2.2.1,z.2.2.2,.int .i64 ((((bg r p kind)).1).ae),.int .i64 ((((bg r p kind)).1).af)],eG (((bg r p kind)).2)])∧Wd w (blks []++own) ([]++[ah.held w own]) [ah.ls z.1 ((((bg r p kind)).1).aj:List ak),ah.ls z.2.1 ((((bg r p kind)).1).Things:List ai),ah.ls z.2.2.1 ((((bg r p kind)).1).Held:List Held),ah.ls z.2.2.2 ((((bg r p kind)).1).Notes:List Note)] w':=by
  have dF:=H.cL 0 rfl
  have cX:=H.cL 1 rfl
  have ej:=H.cL 2 rfl
  have dG:=H.cL 3 rfl
  have bw:=hk.wl;have bt:=hk.tl;have bh:=hk.hl;have bn:=hk.nl;have wi:=hk.w0;have wj:=hk.w1;have wk:=hk.t0;have wm:=hk.t1
  refine R.cQ (n:=63) (vs:=[.agg #[aD,az,aC,aB,.int .i64 r.ae,.int .i64 r.af],.agg #[.int .i64 p.ag,.int .i64 p.Slot],.int .i64 kind]) (B:=[ah.held w own]) [(0,.agg #[aD,az,aC,aB,.int .i64 r.ae,.int .i64 r.af]),(1,.agg #[.int .i64 p.ag,.int .i64 p.Slot]),(2,.int .i64 kind)] Tryz.func30 rfl rfl rfl rfl H ?_
  refine R.reg rfl<|?_
  refine R.s rfl (s.box (cs:=[aD,az,aC,aB,.int .i64 r.ae,.int .i64 r.af]) rfl rfl rfl) fun b1=>?_
  refine R.s rfl (s.box (cs:=[.int .i64 p.ag,.int .i64 p.Slot]) rfl rfl rfl) fun b2=>?_
  refine R.s rfl (s.alloc (cs:=[.slice none 0 0,.slice none 0 0,.slice none 0 0,.slice none 0 0,.int .i64 0,.int .i64 0]) cj rfl rfl) fun b3=>?_
  refine R.u 1 rfl<|R.nil ?_
  refine R.reg rfl<|R.u 1 rfl<|?_
  by_cases h1:kind=1
  ·
    refine R.q (q.neq rfl rfl (bne_eq_false_iff_eq.2 (by omega))) rfl<|R.u 4 rfl<|R.nil ?_
    refine R.aH rfl rfl ?_
    refine R.reg rfl<|R.q (q.cF 2 rfl rfl av) rfl<|R.q (q.cF 1 rfl rfl bk) rfl<|R.c (q.call sn rfl rfl (fun w hw=>(j0 _ _ _ _ (r) (p) w ((fun _=>Wd.aS 0 rfl) w hw) ((fun _=>Wd.aS 1 rfl) w hw) ((fun _=>Wd.aS 2 rfl) w hw) ((fun _=>Wd.aS 3 rfl) w hw) (by assumption)))) rfl<|R.u 1 rfl<|R.nil ?_
    refine R.reg rfl<|R.u 1 rfl<|?_
    by_cases h2:eE r p=0
    ·
      refine R.q (q.fa rfl rfl Tryz.underlying35 (by omega)) rfl<|R.nil ?_
      refine R.aH rfl rfl ?_
      refine R.reg rfl<|R.q (q.aX (off':=1) rfl bI rfl) rfl<|R.q (q.ld 2 rfl rfl cu rfl) rfl<|R.q (q.len' (fun _=>Wd.aS 1 rfl) rfl Tryz.underlying28) rfl<|?_
      by_cases h3:r.Things.length=10
      ·
        refine R.q (q.eql rfl rfl (beq_iff_eq.2 (by omega))) rfl<|R.u 10 rfl<|R.nil ?_
        refine R.aE rfl rfl ?_
        refine R.reg rfl<|R.q (q.build (cs:=[.slice none 0 0,.slice none 0 0,.slice none 0 0,.slice none 0 0,.int .i64 0,.int .i64 0]) cJ rfl rfl) rfl<|R.q (q.iface rfl bz) rfl<|?_
        refine R.s rfl (s.st (us:=[.slice none 0 0,.slice none 0 0,.slice none 0 0,.slice none 0 0,.int .i64 0,.int .i64 0]) (cs':=[.slice none 0 0,.slice none 0 0,.slice none 0 0,.slice none 0 0,.int .i64 0,.int .i64 0]) 0 _ rfl rfl rfl rfl (.inl av) rfl rfl rfl rfl) fun _=>?_
        refine R.u 1 rfl<|R.nil ?_
        refine R.mp (fun _ hw=>hw.aU (α:=ak)) ?_
        refine R.mp (fun _ hw=>hw.aU (α:=ai)) ?_
        refine R.mp (fun _ hw=>hw.aU (α:=Held)) ?_
        refine R.mp (fun _ hw=>hw.aU (α:=Note)) ?_
        have hz:bg r p kind=((⟨[],[],[],[],0,0⟩:au),9):=by (unfold bg;(repeat' split) <;> first|rfl|(exfalso;omega)|(simp_all;done))
        rw [hz]
        exact R.w2 ((.slice none 0 0),(.slice none 0 0),(.slice none 0 0),(.slice none 0 0)) [3] [3,2,1,0] rfl Tryz.results30 (RV.cell 0 rfl rfl av) (RV.tmp rfl) rfl rfl rfl (cx rfl (dC (by decide) rfl))
      ·
        refine R.q (q.eql rfl rfl (beq_eq_false_iff_ne.2 (by omega))) rfl<|R.u 1 rfl<|R.qg rfl (q.aX (off':=5) rfl cE rfl) rfl<|R.qg rfl (q.ld 2 rfl rfl aA rfl) rfl<|?_
        by_cases h4:999<r.af
        ·
          refine R.qg rfl (q.gtr rfl rfl (decide_eq_true (by omega))) rfl<|R.u 6 rfl<|R.nil ?_
          refine R.aE rfl rfl ?_
          refine R.reg rfl<|R.q (q.build (cs:=[.slice none 0 0,.slice none 0 0,.slice none 0 0,.slice none 0 0,.int .i64 0,.int .i64 0]) cJ rfl rfl) rfl<|R.q (q.iface rfl bz) rfl<|?_
          refine R.s rfl (s.st (us:=[.slice none 0 0,.slice none 0 0,.slice none 0 0,.slice none 0 0,.int .i64 0,.int .i64 0]) (cs':=[.slice none 0 0,.slice none 0 0,.slice none 0 0,.slice none 0 0,.int .i64 0,.int .i64 0]) 0 _ rfl rfl rfl rfl (.inl av) rfl rfl rfl rfl) fun _=>?_
          refine R.u 1 rfl<|R.nil ?_
          refine R.mp (fun _ hw=>hw.aU (α:=ak)) ?_
          refine R.mp (fun _ hw=>hw.aU (α:=ai)) ?_
          refine R.mp (fun _ hw=>hw.aU (α:=Held)) ?_
          refine R.mp (fun _ hw=>hw.aU (α:=Note)) ?_
          have hz:bg r p kind=((⟨[],[],[],[],0,0⟩:au),9):=by (unfold bg;(repeat' split) <;> first|rfl|(exfalso;omega)|(simp_all;done))
          rw [hz]
          exact R.w2 ((.slice none 0 0),(.slice none 0 0),(.slice none 0 0),(.slice none 0 0)) [3] [3,2,1,0] rfl Tryz.results30 (RV.cell 0 rfl rfl av) (RV.tmp rfl) rfl rfl rfl (cx rfl (dC (by decide) rfl))
        ·
          refine R.qg rfl (q.gtr rfl rfl (decide_eq_false (by omega))) rfl<|R.u 2 rfl<|R.qg rfl (q.aX (off':=4) rfl bL rfl) rfl<|R.qg rfl (q.ld 2 rfl rfl aA rfl) rfl<|?_
          by_cases h5:999<r.ae
          ·
            refine R.qg rfl (q.gtr rfl rfl (decide_eq_true (by omega))) rfl<|R.u 1 rfl<|R.nil ?_
            refine R.aE rfl rfl ?_
            refine R.reg rfl<|R.q (q.build (cs:=[.slice none 0 0,.slice none 0 0,.slice none 0 0,.slice none 0 0,.int .i64 0,.int .i64 0]) cJ rfl rfl) rfl<|R.q (q.iface rfl bz) rfl<|?_
            refine R.s rfl (s.st (us:=[.slice none 0 0,.slice none 0 0,.slice none 0 0,.slice none 0 0,.int .i64 0,.int .i64 0]) (cs':=[.slice none 0 0,.slice none 0 0,.slice none 0 0,.slice none 0 0,.int .i64 0,.int .i64 0]) 0 _ rfl rfl rfl rfl (.inl av) rfl rfl rfl rfl) fun _=>?_
            refine R.u 1 rfl<|R.nil ?_
            refine R.mp (fun _ hw=>hw.aU (α:=ak)) ?_
            refine R.mp (fun _ hw=>hw.aU (α:=ai)) ?_
            refine R.mp (fun _ hw=>hw.aU (α:=Held)) ?_
            refine R.mp (fun _ hw=>hw.aU (α:=Note)) ?_
            have hz:bg r p kind=((⟨[],[],[],[],0,0⟩:au),9):=by (unfold bg;(repeat' split) <;> first|rfl|(exfalso;omega)|(simp_all;done))
            rw [hz]
            exact R.w2 ((.slice none 0 0),(.slice none 0 0),(.slice none 0 0),(.slice none 0 0)) [3] [3,2,1,0] rfl Tryz.results30 (RV.cell 0 rfl rfl av) (RV.tmp rfl) rfl rfl rfl (cx rfl (dC (by decide) rfl))
          ·
            refine R.qg rfl (q.gtr rfl rfl (decide_eq_false (by omega))) rfl<|R.u 1 rfl<|R.nil ?_
            refine R.aH rfl rfl ?_
            refine R.reg rfl<|R.q (q.aX (off':=5) rfl cE rfl) rfl<|R.q (q.ld 2 rfl rfl aA rfl) rfl<|R.u 1 rfl<|R.nil ?_
            refine R.reg rfl<|R.q (q.aX (off':=1) rfl bI rfl) rfl<|R.q (q.ld 2 rfl rfl cu rfl) rfl<|?_
            refine R.s (B':=(fun aG:Value=>[ah.row 62 aG (r.Things:List ai),ah.box b3 [.slice none 0 0,.slice none 0 0,.slice none 0 0,.slice none 0 0,.int .i64 0,.int .i64 0] 32,ah.box b2 [.int .i64 p.ag,.int .i64 p.Slot] 39,ah.box b1 [aD,az,aC,aB,.int .i64 r.ae,.int .i64 r.af] 32,ah.held w own])) (F':=(fun aG:Value=>[ah.ls aD (r.aj:List ak),ah.ls az (r.Things:List ai),ah.ls aC (r.Held:List Held),ah.ls aB (r.Notes:List Note)])) rfl (s.bA (B0:=[]) (Br:=[ah.box b3 [.slice none 0 0,.slice none 0 0,.slice none 0 0,.slice none 0 0,.int .i64 0,.int .i64 0] 32,ah.box b2 [.int .i64 p.ag,.int .i64 p.Slot] 39,ah.box b1 [aD,az,aC,aB,.int .i64 r.ae,.int .i64 r.af] 32,ah.held w own]) (F0:=[ah.ls az (r.Things:List ai)]) [0,1,2,3] [1] (fun aG:Value=>aG) (fun aG:Value=>[ah.row 62 aG (r.Things:List ai)]) (fun aG:Value=>[]) rfl rfl rfl sq rfl rfl (fun w own hw H=>fO az (r.Things) w own H (by first|omega|assumption|(simp;done)|(simp;omega))) rfl) fun z1=>?_
            refine R.u 2 rfl<|R.q (q.build (cs:=[.int .i64 r.af,.int .i64 kind,.string (⟨#[]⟩)]) uA rfl rfl) rfl<|?_
            refine R.s rfl (s.bs (l:=([(⟨r.af,kind,⟨#[]⟩⟩:ai)]:List ai)) eQ fE rfl rfl rfl rfl rfl rfl rfl) fun b4=>?_
            refine R.s rfl (s.app (l2:=[(⟨r.af,kind,⟨#[]⟩⟩:ai)]) 1 _ rfl rfl rfl (fun _=>Wd.row 0 rfl) kZ (by first|omega|(simp;omega)) (by first|omega|(simp;omega)) (fun _=>rfl) rfl) fun v1=>?_
            refine R.q (q.aX (off':=1) rfl bI rfl) rfl<|?_
            refine R.s rfl (s.eH (us:=[v1]) (cs':=[aD,v1,aC,aB,.int .i64 r.ae,.int .i64 r.af]) 4 _ rfl rfl rfl (fun w hw=>Sl.cr ((fun _=>Wd.row 1 rfl) w hw)) (.inr ⟨cu,rfl⟩) (fun w hw=>(ao (Sl.one ((fun _=>Wd.row 1 rfl) w hw)) aO)) rfl rfl rfl) fun _=>?_
            refine R.nil ?_
            refine R.reg rfl<|R.q (q.aX (off':=5) rfl cE rfl) rfl<|R.q (q.ld 4 rfl rfl aA rfl) rfl<|R.q (q.add (r:=r.af+1) rfl rfl (wr (by omega))) rfl<|R.q (q.aX (off':=5) rfl cE rfl) rfl<|?_
            refine R.s rfl (s.st (us:=[.int .i64 (r.af+1)]) (cs':=[aD,v1,aC,aB,.int .i64 r.ae,.int .i64 (r.af+1)]) 4 _ rfl rfl rfl rfl (.inr ⟨aA,rfl⟩) rfl rfl rfl rfl) fun _=>?_
            refine R.nil ?_
            refine R.reg rfl<|R.q (q.cF 4 rfl rfl av) rfl<|R.q (q.aX (off':=4) rfl bL rfl) rfl<|R.q (q.ld 4 rfl rfl aA rfl) rfl<|R.u 1 rfl<|R.q (q.build (cs:=[.int .i64 r.ae,.int .i64 r.af,.int .i64 7,.int .i64 0,.int .i64 0]) gk rfl rfl) rfl<|R.q (q.cF 3 rfl rfl bk) rfl<|?_
            refine R.s (B':=(fun g_:Value×Value×Value×Value=>[ah.row 62 (.slice (some ⟨b4,0,none⟩) 1 1) ([(⟨r.af,kind,⟨#[]⟩⟩:ai)]:List ai),ah.box b3 [.slice none 0 0,.slice none 0 0,.slice none 0 0,.slice none 0 0,.int .i64 0,.int .i64 0] 32,ah.box b2 [.int .i64 p.ag,.int .i64 p.Slot] 39,ah.box b1 [aD,v1,aC,aB,.int .i64 r.ae,.int .i64 (r.af+1)] 32,ah.held w own])) (F':=(fun g_:Value×Value×Value×Value=>[ah.ls g_.1 (((aQ (⟨r.aj,(r.Things++([(⟨r.af,kind,⟨#[]⟩⟩:ai)])),r.Held,r.Notes,r.ae,(r.af+1)⟩:au) (⟨r.ae,r.af,7,0,0⟩:ak) p)).aj:List ak),ah.ls g_.2.1 (((aQ (⟨r.aj,(r.Things++([(⟨r.af,kind,⟨#[]⟩⟩:ai)])),r.Held,r.Notes,r.ae,(r.af+1)⟩:au) (⟨r.ae,r.af,7,0,0⟩:ak) p)).Things:List ai),ah.ls g_.2.2.1 (((aQ (⟨r.aj,(r.Things++([(⟨r.af,kind,⟨#[]⟩⟩:ai)])),r.Held,r.Notes,r.ae,(r.af+1)⟩:au) (⟨r.ae,r.af,7,0,0⟩:ak) p)).Held:List Held),ah.ls g_.2.2.2 (((aQ (⟨r.aj,(r.Things++([(⟨r.af,kind,⟨#[]⟩⟩:ai)])),r.Held,r.Notes,r.ae,(r.af+1)⟩:au) (⟨r.ae,r.af,7,0,0⟩:ak) p)).Notes:List Note),ah.ls v1 ((r.Things++([(⟨r.af,kind,⟨#[]⟩⟩:ai)])):List ai),ah.ls aD (r.aj:List ak),ah.ls az (r.Things:List ai),ah.ls aC (r.Held:List Held),ah.ls aB (r.Notes:List Note)])) rfl (s.pre (B2:=[ah.row 62 (.slice (some ⟨b4,0,none⟩) 1 1) ([(⟨r.af,kind,⟨#[]⟩⟩:ai)]:List ai),ah.box b3 [.slice none 0 0,.slice none 0 0,.slice none 0 0,.slice none 0 0,.int .i64 0,.int .i64 0] 32,ah.box b2 [.int .i64 p.ag,.int .i64 p.Slot] 39,ah.box b1 [aD,v1,aC,aB,.int .i64 r.ae,.int .i64 (r.af+1)] 32,ah.held w own]) (F2:=[ah.ls v1 ((r.Things++([(⟨r.af,kind,⟨#[]⟩⟩:ai)])):List ai),ah.ls aD (r.aj:List ak),ah.ls az (r.Things:List ai),ah.ls aC (r.Held:List Held),ah.ls aB (r.Notes:List Note)]) (fun _ hw=>hw.dh 1 _ rfl rfl) (s.bA (B0:=[]) (Br:=[ah.row 62 (.slice (some ⟨b4,0,none⟩) 1 1) ([(⟨r.af,kind,⟨#[]⟩⟩:ai)]:List ai),ah.box b3 [.slice none 0 0,.slice none 0 0,.slice none 0 0,.slice none 0 0,.int .i64 0,.int .i64 0] 32,ah.box b2 [.int .i64 p.ag,.int .i64 p.Slot] 39,ah.box b1 [aD,v1,aC,aB,.int .i64 r.ae,.int .i64 (r.af+1)] 32,ah.held w own]) (F0:=[ah.ls aD (r.aj:List ak),ah.ls v1 ((r.Things++([(⟨r.af,kind,⟨#[]⟩⟩:ai)])):List ai),ah.ls aC (r.Held:List Held),ah.ls aB (r.Notes:List Note)]) [0,1,2,3,4] [1,0,3,4] (fun g_:Value×Value×Value×Value => .agg #[g_.1,g_.2.1,g_.2.2.1,g_.2.2.2,.int .i64 (((aQ (⟨r.aj,(r.Things++([(⟨r.af,kind,⟨#[]⟩⟩:ai)])),r.Held,r.Notes,r.ae,(r.af+1)⟩:au) (⟨r.ae,r.af,7,0,0⟩:ak) p)).ae),.int .i64 (((aQ (⟨r.aj,(r.Things++([(⟨r.af,kind,⟨#[]⟩⟩:ai)])),r.Held,r.Notes,r.ae,(r.af+1)⟩:au) (⟨r.ae,r.af,7,0,0⟩:ak) p)).af)]) (fun g_:Value×Value×Value×Value=>[]) (fun g_:Value×Value×Value×Value=>[ah.ls g_.1 (((aQ (⟨r.aj,(r.Things++([(⟨r.af,kind,⟨#[]⟩⟩:ai)])),r.Held,r.Notes,r.ae,(r.af+1)⟩:au) (⟨r.ae,r.af,7,0,0⟩:ak) p)).aj:List ak),ah.ls g_.2.1 (((aQ (⟨r.aj,(r.Things++([(⟨r.af,kind,⟨#[]⟩⟩:ai)])),r.Held,r.Notes,r.ae,(r.af+1)⟩:au) (⟨r.ae,r.af,7,0,0⟩:ak) p)).Things:List ai),ah.ls g_.2.2.1 (((aQ (⟨r.aj,(r.Things++([(⟨r.af,kind,⟨#[]⟩⟩:ai)])),r.Held,r.Notes,r.ae,(r.af+1)⟩:au) (⟨r.ae,r.af,7,0,0⟩:ak) p)).Held:List Held),ah.ls g_.2.2.2 (((aQ (⟨r.aj,(r.Things++([(⟨r.af,kind,⟨#[]⟩⟩:ai)])),r.Held,r.Notes,r.ae,(r.af+1)⟩:au) (⟨r.ae,r.af,7,0,0⟩:ak) p)).Notes:List Note)]) rfl rfl rfl pO rfl rfl (fun w own hw H=>jK aD v1 aC aB ((⟨r.aj,(r.Things++([(⟨r.af,kind,⟨#[]⟩⟩:ai)])),r.Held,r.Notes,r.ae,(r.af+1)⟩:au)) ((⟨r.ae,r.af,7,0,0⟩:ak)) (p) w own H (by first|omega|(dsimp only;omega))) rfl)) ?_
            rintro ⟨z2,z3,z4,z5⟩
            dsimp only
            refine R.s rfl (s.eH (us:=[z2,z3,z4,z5,.int .i64 ((aQ (⟨r.aj,(r.Things++([(⟨r.af,kind,⟨#[]⟩⟩:ai)])),r.Held,r.Notes,r.ae,(r.af+1)⟩:au) (⟨r.ae,r.af,7,0,0⟩:ak) p).ae),.int .i64 ((aQ (⟨r.aj,(r.Things++([(⟨r.af,kind,⟨#[]⟩⟩:ai)])),r.Held,r.Notes,r.ae,(r.af+1)⟩:au) (⟨r.ae,r.af,7,0,0⟩:ak) p).af)]) (cs':=[z2,z3,z4,z5,.int .i64 ((aQ (⟨r.aj,(r.Things++([(⟨r.af,kind,⟨#[]⟩⟩:ai)])),r.Held,r.Notes,r.ae,(r.af+1)⟩:au) (⟨r.ae,r.af,7,0,0⟩:ak) p).ae),.int .i64 ((aQ (⟨r.aj,(r.Things++([(⟨r.af,kind,⟨#[]⟩⟩:ai)])),r.Held,r.Notes,r.ae,(r.af+1)⟩:au) (⟨r.ae,r.af,7,0,0⟩:ak) p).af)]) 1 _ rfl rfl rfl (fun _ _=>rfl) (.inl av) (fun w hw=>(ao (Sl.one ((fun _=>Wd.aS 0 rfl) w hw)) (ao (Sl.one ((fun _=>Wd.aS 1 rfl) w hw)) (ao (Sl.one ((fun _=>Wd.aS 2 rfl) w hw)) (ao (Sl.one ((fun _=>Wd.aS 3 rfl) w hw)) (ao rfl (ao rfl aO))))))) rfl rfl rfl) fun _=>?_
            refine R.u 1 rfl<|R.nil ?_
            have hz:bg r p kind=((aQ (⟨r.aj,(r.Things++([(⟨r.af,kind,⟨#[]⟩⟩:ai)])),r.Held,r.Notes,r.ae,(r.af+1)⟩:au) (⟨r.ae,r.af,7,0,0⟩:ak) p),0):=by (unfold bg;(repeat' split) <;> first|rfl|(exfalso;omega)|(simp_all;done))
            rw [hz]
            exact R.w2 (z2,z3,z4,z5) [4] [0,1,2,3] rfl Tryz.results30 (RV.cell 1 rfl rfl av) (RV.tmp rfl) rfl rfl rfl (cx rfl (gj rfl))
    ·
      refine R.q (q.fb rfl rfl Tryz.underlying35 (by omega)) rfl<|R.nil ?_
      refine R.aE rfl rfl ?_
      refine R.reg rfl<|R.q (q.build (cs:=[.slice none 0 0,.slice none 0 0,.slice none 0 0,.slice none 0 0,.int .i64 0,.int .i64 0]) cJ rfl rfl) rfl<|R.u 1 rfl<|?_
      refine R.s rfl (s.st (us:=[.slice none 0 0,.slice none 0 0,.slice none 0 0,.slice none 0 0,.int .i64 0,.int .i64 0]) (cs':=[.slice none 0 0,.slice none 0 0,.slice none 0 0,.slice none 0 0,.int .i64 0,.int .i64 0]) 0 _ rfl rfl rfl rfl (.inl av) rfl rfl rfl rfl) fun _=>?_
      refine R.u 1 rfl<|R.nil ?_
      refine R.mp (fun _ hw=>hw.aU (α:=ak)) ?_
      refine R.mp (fun _ hw=>hw.aU (α:=ai)) ?_
      refine R.mp (fun _ hw=>hw.aU (α:=Held)) ?_
      refine R.mp (fun _ hw=>hw.aU (α:=Note)) ?_
      have hz:bg r p kind=((⟨[],[],[],[],0,0⟩:au),eE r p):=by (unfold bg;(repeat' split) <;> first|rfl|(exfalso;omega)|(simp_all;done))
      rw [hz]
      exact R.w2 ((.slice none 0 0),(.slice none 0 0),(.slice none 0 0),(.slice none 0 0)) [3] [3,2,1,0] rfl Tryz.results30 (RV.cell 0 rfl rfl av) (RV.tmp rfl) rfl rfl rfl (cx rfl rfl)
  ·
    refine R.q (q.neq rfl rfl (bne_iff_ne.2 (by omega))) rfl<|R.u 2 rfl<|?_
    by_cases h6:kind=2
    ·
      refine R.qg rfl (q.neq rfl rfl (bne_eq_false_iff_eq.2 (by omega))) rfl<|R.u 1 rfl<|R.nil ?_
      refine R.aH rfl rfl ?_
      refine R.reg rfl<|R.q (q.cF 2 rfl rfl av) rfl<|R.q (q.cF 1 rfl rfl bk) rfl<|R.c (q.call sn rfl rfl (fun w hw=>(j0 _ _ _ _ (r) (p) w ((fun _=>Wd.aS 0 rfl) w hw) ((fun _=>Wd.aS 1 rfl) w hw) ((fun _=>Wd.aS 2 rfl) w hw) ((fun _=>Wd.aS 3 rfl) w hw) (by assumption)))) rfl<|R.u 1 rfl<|R.nil ?_
      refine R.reg rfl<|R.u 1 rfl<|?_
      by_cases h7:eE r p=0
      ·
        refine R.q (q.fa rfl rfl Tryz.underlying35 (by omega)) rfl<|R.nil ?_
        refine R.aH rfl rfl ?_
        refine R.reg rfl<|R.q (q.aX (off':=1) rfl bI rfl) rfl<|R.q (q.ld 2 rfl rfl cu rfl) rfl<|R.q (q.len' (fun _=>Wd.aS 1 rfl) rfl Tryz.underlying28) rfl<|?_
        by_cases h8:r.Things.length=10
        ·
          refine R.q (q.eql rfl rfl (beq_iff_eq.2 (by omega))) rfl<|R.u 10 rfl<|R.nil ?_
          refine R.aE rfl rfl ?_
          refine R.reg rfl<|R.q (q.build (cs:=[.slice none 0 0,.slice none 0 0,.slice none 0 0,.slice none 0 0,.int .i64 0,.int .i64 0]) cJ rfl rfl) rfl<|R.q (q.iface rfl bz) rfl<|?_
          refine R.s rfl (s.st (us:=[.slice none 0 0,.slice none 0 0,.slice none 0 0,.slice none 0 0,.int .i64 0,.int .i64 0]) (cs':=[.slice none 0 0,.slice none 0 0,.slice none 0 0,.slice none 0 0,.int .i64 0,.int .i64 0]) 0 _ rfl rfl rfl rfl (.inl av) rfl rfl rfl rfl) fun _=>?_
          refine R.u 1 rfl<|R.nil ?_
          refine R.mp (fun _ hw=>hw.aU (α:=ak)) ?_
          refine R.mp (fun _ hw=>hw.aU (α:=ai)) ?_
          refine R.mp (fun _ hw=>hw.aU (α:=Held)) ?_
          refine R.mp (fun _ hw=>hw.aU (α:=Note)) ?_
          have hz:bg r p kind=((⟨[],[],[],[],0,0⟩:au),9):=by (unfold bg;(repeat' split) <;> first|rfl|(exfalso;omega)|(simp_all;done))
          rw [hz]
          exact R.w2 ((.slice none 0 0),(.slice none 0 0),(.slice none 0 0),(.slice none 0 0)) [3] [3,2,1,0] rfl Tryz.results30 (RV.cell 0 rfl rfl av) (RV.tmp rfl) rfl rfl rfl (cx rfl (dC (by decide) rfl))
        ·
          refine R.q (q.eql rfl rfl (beq_eq_false_iff_ne.2 (by omega))) rfl<|R.u 1 rfl<|R.qg rfl (q.aX (off':=5) rfl cE rfl) rfl<|R.qg rfl (q.ld 2 rfl rfl aA rfl) rfl<|?_
          by_cases h9:999<r.af
          ·
            refine R.qg rfl (q.gtr rfl rfl (decide_eq_true (by omega))) rfl<|R.u 6 rfl<|R.nil ?_
            refine R.aE rfl rfl ?_
            refine R.reg rfl<|R.q (q.build (cs:=[.slice none 0 0,.slice none 0 0,.slice none 0 0,.slice none 0 0,.int .i64 0,.int .i64 0]) cJ rfl rfl) rfl<|R.q (q.iface rfl bz) rfl<|?_
            refine R.s rfl (s.st (us:=[.slice none 0 0,.slice none 0 0,.slice none 0 0,.slice none 0 0,.int .i64 0,.int .i64 0]) (cs':=[.slice none 0 0,.slice none 0 0,.slice none 0 0,.slice none 0 0,.int .i64 0,.int .i64 0]) 0 _ rfl rfl rfl rfl (.inl av) rfl rfl rfl rfl) fun _=>?_
            refine R.u 1 rfl<|R.nil ?_
            refine R.mp (fun _ hw=>hw.aU (α:=ak)) ?_
            refine R.mp (fun _ hw=>hw.aU (α:=ai)) ?_
            refine R.mp (fun _ hw=>hw.aU (α:=Held)) ?_
            refine R.mp (fun _ hw=>hw.aU (α:=Note)) ?_
            have hz:bg r p kind=((⟨[],[],[],[],0,0⟩:au),9):=by (unfold bg;(repeat' split) <;> first|rfl|(exfalso;omega)|(simp_all;done))
            rw [hz]
            exact R.w2 ((.slice none 0 0),(.slice none 0 0),(.slice none 0 0),(.slice none 0 0)) [3] [3,2,1,0] rfl Tryz.results30 (RV.cell 0 rfl rfl av) (RV.tmp rfl) rfl rfl rfl (cx rfl (dC (by decide) rfl))
          ·
            refine R.qg rfl (q.gtr rfl rfl (decide_eq_false (by omega))) rfl<|R.u 2 rfl<|R.qg rfl (q.aX (off':=4) rfl bL rfl) rfl<|R.qg rfl (q.ld 2 rfl rfl aA rfl) rfl<|?_
            by_cases h10:999<r.ae
            ·
              refine R.qg rfl (q.gtr rfl rfl (decide_eq_true (by omega))) rfl<|R.u 1 rfl<|R.nil ?_
              refine R.aE rfl rfl ?_
              refine R.reg rfl<|R.q (q.build (cs:=[.slice none 0 0,.slice none 0 0,.slice none 0 0,.slice none 0 0,.int .i64 0,.int .i64 0]) cJ rfl rfl) rfl<|R.q (q.iface rfl bz) rfl<|?_
              refine R.s rfl (s.st (us:=[.slice none 0 0,.slice none 0 0,.slice none 0 0,.slice none 0 0,.int .i64 0,.int .i64 0]) (cs':=[.slice none 0 0,.slice none 0 0,.slice none 0 0,.slice none 0 0,.int .i64 0,.int .i64 0]) 0 _ rfl rfl rfl rfl (.inl av) rfl rfl rfl rfl) fun _=>?_
              refine R.u 1 rfl<|R.nil ?_
              refine R.mp (fun _ hw=>hw.aU (α:=ak)) ?_
              refine R.mp (fun _ hw=>hw.aU (α:=ai)) ?_
              refine R.mp (fun _ hw=>hw.aU (α:=Held)) ?_
              refine R.mp (fun _ hw=>hw.aU (α:=Note)) ?_
              have hz:bg r p kind=((⟨[],[],[],[],0,0⟩:au),9):=by (unfold bg;(repeat' split) <;> first|rfl|(exfalso;omega)|(simp_all;done))
              rw [hz]
              exact R.w2 ((.slice none 0 0),(.slice none 0 0),(.slice none 0 0),(.slice none 0 0)) [3] [3,2,1,0] rfl Tryz.results30 (RV.cell 0 rfl rfl av) (RV.tmp rfl) rfl rfl rfl (cx rfl (dC (by decide) rfl))
            ·
              refine R.qg rfl (q.gtr rfl rfl (decide_eq_false (by omega))) rfl<|R.u 1 rfl<|R.nil ?_
              refine R.aH rfl rfl ?_
              refine R.reg rfl<|R.q (q.aX (off':=5) rfl cE rfl) rfl<|R.q (q.ld 2 rfl rfl aA rfl) rfl<|R.u 1 rfl<|R.nil ?_
              refine R.reg rfl<|R.q (q.aX (off':=1) rfl bI rfl) rfl<|R.q (q.ld 2 rfl rfl cu rfl) rfl<|?_
              refine R.s (B':=(fun aG:Value=>[ah.row 62 aG (r.Things:List ai),ah.box b3 [.slice none 0 0,.slice none 0 0,.slice none 0 0,.slice none 0 0,.int .i64 0,.int .i64 0] 32,ah.box b2 [.int .i64 p.ag,.int .i64 p.Slot] 39,ah.box b1 [aD,az,aC,aB,.int .i64 r.ae,.int .i64 r.af] 32,ah.held w own])) (F':=(fun aG:Value=>[ah.ls aD (r.aj:List ak),ah.ls az (r.Things:List ai),ah.ls aC (r.Held:List Held),ah.ls aB (r.Notes:List Note)])) rfl (s.bA (B0:=[]) (Br:=[ah.box b3 [.slice none 0 0,.slice none 0 0,.slice none 0 0,.slice none 0 0,.int .i64 0,.int .i64 0] 32,ah.box b2 [.int .i64 p.ag,.int .i64 p.Slot] 39,ah.box b1 [aD,az,aC,aB,.int .i64 r.ae,.int .i64 r.af] 32,ah.held w own]) (F0:=[ah.ls az (r.Things:List ai)]) [0,1,2,3] [1] (fun aG:Value=>aG) (fun aG:Value=>[ah.row 62 aG (r.Things:List ai)]) (fun aG:Value=>[]) rfl rfl rfl sq rfl rfl (fun w own hw H=>fO az (r.Things) w own H (by first|omega|assumption|(simp;done)|(simp;omega))) rfl) fun z6=>?_
              refine R.u 2 rfl<|R.q (q.build (cs:=[.int .i64 r.af,.int .i64 kind,.string (⟨#[]⟩)]) uA rfl rfl) rfl<|?_
              refine R.s rfl (s.bs (l:=([(⟨r.af,kind,⟨#[]⟩⟩:ai)]:List ai)) eQ fE rfl rfl rfl rfl rfl rfl rfl) fun b5=>?_
              refine R.s rfl (s.app (l2:=[(⟨r.af,kind,⟨#[]⟩⟩:ai)]) 1 _ rfl rfl rfl (fun _=>Wd.row 0 rfl) kZ (by first|omega|(simp;omega)) (by first|omega|(simp;omega)) (fun _=>rfl) rfl) fun v2=>?_
              refine R.q (q.aX (off':=1) rfl bI rfl) rfl<|?_
              refine R.s rfl (s.eH (us:=[v2]) (cs':=[aD,v2,aC,aB,.int .i64 r.ae,.int .i64 r.af]) 4 _ rfl rfl rfl (fun w hw=>Sl.cr ((fun _=>Wd.row 1 rfl) w hw)) (.inr ⟨cu,rfl⟩) (fun w hw=>(ao (Sl.one ((fun _=>Wd.row 1 rfl) w hw)) aO)) rfl rfl rfl) fun _=>?_
              refine R.nil ?_
              refine R.reg rfl<|R.q (q.aX (off':=5) rfl cE rfl) rfl<|R.q (q.ld 4 rfl rfl aA rfl) rfl<|R.q (q.add (r:=r.af+1) rfl rfl (wr (by omega))) rfl<|R.q (q.aX (off':=5) rfl cE rfl) rfl<|?_
              refine R.s rfl (s.st (us:=[.int .i64 (r.af+1)]) (cs':=[aD,v2,aC,aB,.int .i64 r.ae,.int .i64 (r.af+1)]) 4 _ rfl rfl rfl rfl (.inr ⟨aA,rfl⟩) rfl rfl rfl rfl) fun _=>?_
              refine R.nil ?_
              refine R.reg rfl<|R.q (q.cF 4 rfl rfl av) rfl<|R.q (q.aX (off':=4) rfl bL rfl) rfl<|R.q (q.ld 4 rfl rfl aA rfl) rfl<|R.u 1 rfl<|R.q (q.build (cs:=[.int .i64 r.ae,.int .i64 r.af,.int .i64 7,.int .i64 0,.int .i64 0]) gk rfl rfl) rfl<|R.q (q.cF 3 rfl rfl bk) rfl<|?_
              refine R.s (B':=(fun g_:Value×Value×Value×Value=>[ah.row 62 (.slice (some ⟨b5,0,none⟩) 1 1) ([(⟨r.af,kind,⟨#[]⟩⟩:ai)]:List ai),ah.box b3 [.slice none 0 0,.slice none 0 0,.slice none 0 0,.slice none 0 0,.int .i64 0,.int .i64 0] 32,ah.box b2 [.int .i64 p.ag,.int .i64 p.Slot] 39,ah.box b1 [aD,v2,aC,aB,.int .i64 r.ae,.int .i64 (r.af+1)] 32,ah.held w own])) (F':=(fun g_:Value×Value×Value×Value=>[ah.ls g_.1 (((aQ (⟨r.aj,(r.Things++([(⟨r.af,kind,⟨#[]⟩⟩:ai)])),r.Held,r.Notes,r.ae,(r.af+1)⟩:au) (⟨r.ae,r.af,7,0,0⟩:ak) p)).aj:List ak),ah.ls g_.2.1 (((aQ (⟨r.aj,(r.Things++([(⟨r.af,kind,⟨#[]⟩⟩:ai)])),r.Held,r.Notes,r.ae,(r.af+1)⟩:au) (⟨r.ae,r.af,7,0,0⟩:ak) p)).Things:List ai),ah.ls g_.2.2.1 (((aQ (⟨r.aj,(r.Things++([(⟨r.af,kind,⟨#[]⟩⟩:ai)])),r.Held,r.Notes,r.ae,(r.af+1)⟩:au) (⟨r.ae,r.af,7,0,0⟩:ak) p)).Held:List Held),ah.ls g_.2.2.2 (((aQ (⟨r.aj,(r.Things++([(⟨r.af,kind,⟨#[]⟩⟩:ai)])),r.Held,r.Notes,r.ae,(r.af+1)⟩:au) (⟨r.ae,r.af,7,0,0⟩:ak) p)).Notes:List Note),ah.ls v2 ((r.Things++([(⟨r.af,kind,⟨#[]⟩⟩:ai)])):List ai),ah.ls aD (r.aj:List ak),ah.ls az (r.Things:List ai),ah.ls aC (r.Held:List Held),ah.ls aB (r.Notes:List Note)])) rfl (s.pre (B2:=[ah.row 62 (.slice (some ⟨b5,0,none⟩) 1 1) ([(⟨r.af,kind,⟨#[]⟩⟩:ai)]:List ai),ah.box b3 [.slice none 0 0,.slice none 0 0,.slice none 0 0,.slice none 0 0,.int .i64 0,.int .i64 0] 32,ah.box b2 [.int .i64 p.ag,.int .i64 p.Slot] 39,ah.box b1 [aD,v2,aC,aB,.int .i64 r.ae,.int .i64 (r.af+1)] 32,ah.held w own]) (F2:=[ah.ls v2 ((r.Things++([(⟨r.af,kind,⟨#[]⟩⟩:ai)])):List ai),ah.ls aD (r.aj:List ak),ah.ls az (r.Things:List ai),ah.ls aC (r.Held:List Held),ah.ls aB (r.Notes:List Note)]) (fun _ hw=>hw.dh 1 _ rfl rfl) (s.bA (B0:=[]) (Br:=[ah.row 62 (.slice (some ⟨b5,0,none⟩) 1 1) ([(⟨r.af,kind,⟨#[]⟩⟩:ai)]:List ai),ah.box b3 [.slice none 0 0,.slice none 0 0,.slice none 0 0,.slice none 0 0,.int .i64 0,.int .i64 0] 32,ah.box b2 [.int .i64 p.ag,.int .i64 p.Slot] 39,ah.box b1 [aD,v2,aC,aB,.int .i64 r.ae,.int .i64 (r.af+1)] 32,ah.held w own]) (F0:=[ah.ls aD (r.aj:List ak),ah.ls v2 ((r.Things++([(⟨r.af,kind,⟨#[]⟩⟩:ai)])):List ai),ah.ls aC (r.Held:List Held),ah.ls aB (r.Notes:List Note)]) [0,1,2,3,4] [1,0,3,4] (fun g_:Value×Value×Value×Value => .agg #[g_.1,g_.2.1,g_.2.2.1,g_.2.2.2,.int .i64 (((aQ (⟨r.aj,(r.Things++([(⟨r.af,kind,⟨#[]⟩⟩:ai)])),r.Held,r.Notes,r.ae,(r.af+1)⟩:au) (⟨r.ae,r.af,7,0,0⟩:ak) p)).ae),.int .i64 (((aQ (⟨r.aj,(r.Things++([(⟨r.af,kind,⟨#[]⟩⟩:ai)])),r.Held,r.Notes,r.ae,(r.af+1)⟩:au) (⟨r.ae,r.af,7,0,0⟩:ak) p)).af)]) (fun g_:Value×Value×Value×Value=>[]) (fun g_:Value×Value×Value×Value=>[ah.ls g_.1 (((aQ (⟨r.aj,(r.Things++([(⟨r.af,kind,⟨#[]⟩⟩:ai)])),r.Held,r.Notes,r.ae,(r.af+1)⟩:au) (⟨r.ae,r.af,7,0,0⟩:ak) p)).aj:List ak),ah.ls g_.2.1 (((aQ (⟨r.aj,(r.Things++([(⟨r.af,kind,⟨#[]⟩⟩:ai)])),r.Held,r.Notes,r.ae,(r.af+1)⟩:au) (⟨r.ae,r.af,7,0,0⟩:ak) p)).Things:List ai),ah.ls g_.2.2.1 (((aQ (⟨r.aj,(r.Things++([(⟨r.af,kind,⟨#[]⟩⟩:ai)])),r.Held,r.Notes,r.ae,(r.af+1)⟩:au) (⟨r.ae,r.af,7,0,0⟩:ak) p)).Held:List Held),ah.ls g_.2.2.2 (((aQ (⟨r.aj,(r.Things++([(⟨r.af,kind,⟨#[]⟩⟩:ai)])),r.Held,r.Notes,r.ae,(r.af+1)⟩:au) (⟨r.ae,r.af,7,0,0⟩:ak) p)).Notes:List Note)]) rfl rfl rfl pO rfl rfl (fun w own hw H=>jK aD v2 aC aB ((⟨r.aj,(r.Things++([(⟨r.af,kind,⟨#[]⟩⟩:ai)])),r.Held,r.Notes,r.ae,(r.af+1)⟩:au)) ((⟨r.ae,r.af,7,0,0⟩:ak)) (p) w own H (by first|omega|(dsimp only;omega))) rfl)) ?_
              rintro ⟨z7,z8,z9,qH⟩
              dsimp only
              refine R.s rfl (s.eH (us:=[z7,z8,z9,qH,.int .i64 ((aQ (⟨r.aj,(r.Things++([(⟨r.af,kind,⟨#[]⟩⟩:ai)])),r.Held,r.Notes,r.ae,(r.af+1)⟩:au) (⟨r.ae,r.af,7,0,0⟩:ak) p).ae),.int .i64 ((aQ (⟨r.aj,(r.Things++([(⟨r.af,kind,⟨#[]⟩⟩:ai)])),r.Held,r.Notes,r.ae,(r.af+1)⟩:au) (⟨r.ae,r.af,7,0,0⟩:ak) p).af)]) (cs':=[z7,z8,z9,qH,.int .i64 ((aQ (⟨r.aj,(r.Things++([(⟨r.af,kind,⟨#[]⟩⟩:ai)])),r.Held,r.Notes,r.ae,(r.af+1)⟩:au) (⟨r.ae,r.af,7,0,0⟩:ak) p).ae),.int .i64 ((aQ (⟨r.aj,(r.Things++([(⟨r.af,kind,⟨#[]⟩⟩:ai)])),r.Held,r.Notes,r.ae,(r.af+1)⟩:au) (⟨r.ae,r.af,7,0,0⟩:ak) p).af)]) 1 _ rfl rfl rfl (fun _ _=>rfl) (.inl av) (fun w hw=>(ao (Sl.one ((fun _=>Wd.aS 0 rfl) w hw)) (ao (Sl.one ((fun _=>Wd.aS 1 rfl) w hw)) (ao (Sl.one ((fun _=>Wd.aS 2 rfl) w hw)) (ao (Sl.one ((fun _=>Wd.aS 3 rfl) w hw)) (ao rfl (ao rfl aO))))))) rfl rfl rfl) fun _=>?_
              refine R.u 1 rfl<|R.nil ?_
              have hz:bg r p kind=((aQ (⟨r.aj,(r.Things++([(⟨r.af,kind,⟨#[]⟩⟩:ai)])),r.Held,r.Notes,r.ae,(r.af+1)⟩:au) (⟨r.ae,r.af,7,0,0⟩:ak) p),0):=by (unfold bg;(repeat' split) <;> first|rfl|(exfalso;omega)|(simp_all;done))
              rw [hz]
              exact R.w2 (z7,z8,z9,qH) [4] [0,1,2,3] rfl Tryz.results30 (RV.cell 1 rfl rfl av) (RV.tmp rfl) rfl rfl rfl (cx rfl (gj rfl))
      ·
        refine R.q (q.fb rfl rfl Tryz.underlying35 (by omega)) rfl<|R.nil ?_
        refine R.aE rfl rfl ?_
        refine R.reg rfl<|R.q (q.build (cs:=[.slice none 0 0,.slice none 0 0,.slice none 0 0,.slice none 0 0,.int .i64 0,.int .i64 0]) cJ rfl rfl) rfl<|R.u 1 rfl<|?_
        refine R.s rfl (s.st (us:=[.slice none 0 0,.slice none 0 0,.slice none 0 0,.slice none 0 0,.int .i64 0,.int .i64 0]) (cs':=[.slice none 0 0,.slice none 0 0,.slice none 0 0,.slice none 0 0,.int .i64 0,.int .i64 0]) 0 _ rfl rfl rfl rfl (.inl av) rfl rfl rfl rfl) fun _=>?_
        refine R.u 1 rfl<|R.nil ?_
        refine R.mp (fun _ hw=>hw.aU (α:=ak)) ?_
        refine R.mp (fun _ hw=>hw.aU (α:=ai)) ?_
        refine R.mp (fun _ hw=>hw.aU (α:=Held)) ?_
        refine R.mp (fun _ hw=>hw.aU (α:=Note)) ?_
        have hz:bg r p kind=((⟨[],[],[],[],0,0⟩:au),eE r p):=by (unfold bg;(repeat' split) <;> first|rfl|(exfalso;omega)|(simp_all;done))
        rw [hz]
        exact R.w2 ((.slice none 0 0),(.slice none 0 0),(.slice none 0 0),(.slice none 0 0)) [3] [3,2,1,0] rfl Tryz.results30 (RV.cell 0 rfl rfl av) (RV.tmp rfl) rfl rfl rfl (cx rfl rfl)
    ·
      refine R.qg rfl (q.neq rfl rfl (bne_iff_ne.2 (by omega))) rfl<|R.u 1 rfl<|R.nil ?_
      refine R.aE rfl rfl ?_
      refine R.reg rfl<|R.q (q.build (cs:=[.slice none 0 0,.slice none 0 0,.slice none 0 0,.slice none 0 0,.int .i64 0,.int .i64 0]) cJ rfl rfl) rfl<|R.q (q.iface rfl bz) rfl<|?_
      refine R.s rfl (s.st (us:=[.slice none 0 0,.slice none 0 0,.slice none 0 0,.slice none 0 0,.int .i64 0,.int .i64 0]) (cs':=[.slice none 0 0,.slice none 0 0,.slice none 0 0,.slice none 0 0,.int .i64 0,.int .i64 0]) 0 _ rfl rfl rfl rfl (.inl av) rfl rfl rfl rfl) fun _=>?_
      refine R.u 1 rfl<|R.nil ?_
      refine R.mp (fun _ hw=>hw.aU (α:=ak)) ?_
      refine R.mp (fun _ hw=>hw.aU (α:=ai)) ?_
      refine R.mp (fun _ hw=>hw.aU (α:=Held)) ?_
      refine R.mp (fun _ hw=>hw.aU (α:=Note)) ?_
      have hz:bg r p kind=((⟨[],[],[],[],0,0⟩:au),8):=by (unfold bg;(repeat' split) <;> first|rfl|(exfalso;omega)|(simp_all;done))
      rw [hz]
      exact R.w2 ((.slice none 0 0),(.slice none 0 0),(.slice none 0 0),(.slice none 0 0)) [3] [3,2,1,0] rfl Tryz.results30 (RV.cell 0 rfl rfl av) (RV.tmp rfl) rfl rfl rfl (cx rfl (dC (by decide) rfl))
theorem tD (aD az aC aB:Value)(r:au)(p:Place)(t:Place)(rights:Int)(aT:Int)(w:World)(own:List Nat)(H:Wd w (blks []++own) ([]++[ah.held w own]) [ah.ls aD (r.aj:List ak),ah.ls az (r.Things:List ai),ah.ls aC (r.Held:List Held),ah.ls aB (r.Notes:List Note)] w)(hk:Ok r):Calls Tryz.prog 31 #[.agg #[aD,az,aC,aB,.int .i64 r.ae,.int .i64 r.af],.agg #[.int .i64 p.ag,.int .i64 p.Slot],.agg #[.int .i64 t.ag,.int .i64 t.Slot],.int .i64 rights,.int .i64 aT] w fun e w' => ∃z:Value×Value×Value×Value,e = .returned (.tuple #[.agg #[z.1,z.2.1,z.2.2.1,z.2.2.2,.int .i64 ((((bV r p t rights aT)).1).ae),.int .i64 ((((bV r p t rights aT)).1).af)],eG (((bV r p t rights aT)).2)])∧Wd w (blks []++own) ([]++[ah.held w own]) [ah.ls z.1 ((((bV r p t rights aT)).1).aj:List ak),ah.ls z.2.1 ((((bV r p t rights aT)).1).Things:List ai),ah.ls z.2.2.1 ((((bV r p t rights aT)).1).Held:List Held),ah.ls z.2.2.2 ((((bV r p t rights aT)).1).Notes:List Note)] w':=by
  have dF:=H.cL 0 rfl
  have cX:=H.cL 1 rfl
  have ej:=H.cL 2 rfl
  have dG:=H.cL 3 rfl
  have bw:=hk.wl;have bt:=hk.tl;have bh:=hk.hl;have bn:=hk.nl;have wi:=hk.w0;have wj:=hk.w1;have wk:=hk.t0;have wm:=hk.t1
  refine R.cQ (n:=67) (vs:=[.agg #[aD,az,aC,aB,.int .i64 r.ae,.int .i64 r.af],.agg #[.int .i64 p.ag,.int .i64 p.Slot],.agg #[.int .i64 t.ag,.int .i64 t.Slot],.int .i64 rights,.int .i64 aT]) (B:=[ah.held w own]) [(0,.agg #[aD,az,aC,aB,.int .i64 r.ae,.int .i64 r.af]),(1,.agg #[.int .i64 p.ag,.int .i64 p.Slot]),(2,.agg #[.int .i64 t.ag,.int .i64 t.Slot]),(3,.int .i64 rights),(4,.int .i64 aT)] Tryz.func31 rfl rfl rfl rfl H ?_
  refine R.reg rfl<|?_
  refine R.s rfl (s.box (cs:=[aD,az,aC,aB,.int .i64 r.ae,.int .i64 r.af]) rfl rfl rfl) fun b1=>?_
  refine R.s rfl (s.box (cs:=[.int .i64 p.ag,.int .i64 p.Slot]) rfl rfl rfl) fun b2=>?_
  refine R.s rfl (s.box (cs:=[.int .i64 t.ag,.int .i64 t.Slot]) rfl rfl rfl) fun b3=>?_
  refine R.s rfl (s.alloc (cs:=[.slice none 0 0,.slice none 0 0,.slice none 0 0,.slice none 0 0,.int .i64 0,.int .i64 0]) cj rfl rfl) fun b4=>?_
  refine R.u 1 rfl<|R.nil ?_
  refine R.reg rfl<|R.q (q.cF 3 rfl rfl av) rfl<|R.q (q.cF 2 rfl rfl bk) rfl<|R.c (q.call ng rfl rfl (fun w hw=>(i6 _ _ _ _ (r) (p) w ((fun _=>Wd.aS 0 rfl) w hw) ((fun _=>Wd.aS 1 rfl) w hw) ((fun _=>Wd.aS 2 rfl) w hw) ((fun _=>Wd.aS 3 rfl) w hw) (by assumption)))) rfl<|R.u 3 rfl<|?_
  refine R.s rfl (s.alloc (cs:=[.int .i64 0,.int .i64 0,.int .i64 0,.int .i64 0,.int .i64 0]) br rfl rfl) fun b5=>?_
  refine R.s rfl (s.st (us:=[.int .i64 (((ap r p).1).ID),.int .i64 (((ap r p).1).ai),.int .i64 (((ap r p).1).Rights),.int .i64 (((ap r p).1).ar),.int .i64 (((ap r p).1).From)]) (cs':=[.int .i64 (((ap r p).1).ID),.int .i64 (((ap r p).1).ai),.int .i64 (((ap r p).1).Rights),.int .i64 (((ap r p).1).ar),.int .i64 (((ap r p).1).From)]) 0 _ rfl rfl rfl rfl (.inl aN) rfl rfl rfl rfl) fun _=>?_
  refine R.u 1 rfl<|R.nil ?_
  refine R.reg rfl<|R.u 1 rfl<|?_
  by_cases h1:(ap r p).2=0
  ·
    have CG:=hk.get h1
    refine R.q (q.fa rfl rfl Tryz.underlying35 (by omega)) rfl<|R.nil ?_
    refine R.aH rfl rfl ?_
    refine R.reg rfl<|R.q (q.cF 4 rfl rfl av) rfl<|R.q (q.cF 2 rfl rfl bk) rfl<|R.c (q.call sn rfl rfl (fun w hw=>(j0 _ _ _ _ (r) (t) w ((fun _=>Wd.aS 0 rfl) w hw) ((fun _=>Wd.aS 1 rfl) w hw) ((fun _=>Wd.aS 2 rfl) w hw) ((fun _=>Wd.aS 3 rfl) w hw) (by assumption)))) rfl<|R.u 1 rfl<|R.nil ?_
    refine R.reg rfl<|R.u 1 rfl<|?_
    by_cases h2:eE r t=0
    ·
      refine R.q (q.fa rfl rfl Tryz.underlying35 (by omega)) rfl<|R.nil ?_
      refine R.aH rfl rfl ?_
      refine R.reg rfl<|R.q (q.aX (off':=0) rfl dE rfl) rfl<|R.q (q.ld 3 rfl rfl aA rfl) rfl<|R.q (q.aX (off':=0) rfl dE rfl) rfl<|R.q (q.ld 2 rfl rfl aA rfl) rfl<|?_
      by_cases h3:p.ag=t.ag
      ·
        refine R.q (q.neq rfl rfl (bne_eq_false_iff_eq.2 (by omega))) rfl<|R.u 6 rfl<|R.nil ?_
        refine R.aH rfl rfl ?_
        refine R.reg rfl<|R.q (q.aX (off':=4) rfl bL rfl) rfl<|R.q (q.ld 4 rfl rfl aA rfl) rfl<|?_
        by_cases h4:999<r.ae
        ·
          refine R.q (q.gtr rfl rfl (decide_eq_true (by omega))) rfl<|R.nil ?_
          refine R.aE rfl rfl ?_
          refine R.reg rfl<|R.q (q.build (cs:=[.slice none 0 0,.slice none 0 0,.slice none 0 0,.slice none 0 0,.int .i64 0,.int .i64 0]) cJ rfl rfl) rfl<|R.q (q.iface rfl bz) rfl<|?_
          refine R.s rfl (s.st (us:=[.slice none 0 0,.slice none 0 0,.slice none 0 0,.slice none 0 0,.int .i64 0,.int .i64 0]) (cs':=[.slice none 0 0,.slice none 0 0,.slice none 0 0,.slice none 0 0,.int .i64 0,.int .i64 0]) 1 _ rfl rfl rfl rfl (.inl av) rfl rfl rfl rfl) fun _=>?_
          refine R.u 1 rfl<|R.nil ?_
          refine R.mp (fun _ hw=>hw.aU (α:=ak)) ?_
          refine R.mp (fun _ hw=>hw.aU (α:=ai)) ?_
          refine R.mp (fun _ hw=>hw.aU (α:=Held)) ?_
          refine R.mp (fun _ hw=>hw.aU (α:=Note)) ?_
          have hz:bV r p t rights aT=((⟨[],[],[],[],0,0⟩:au),9):=by (unfold bV;(repeat' split) <;> first|rfl|(exfalso;omega)|(simp_all;done))
          rw [hz]
          exact R.w2 ((.slice none 0 0),(.slice none 0 0),(.slice none 0 0),(.slice none 0 0)) [5] [3,2,1,0] rfl Tryz.results31 (RV.cell 1 rfl rfl av) (RV.tmp rfl) rfl rfl rfl (cx rfl (dC (by decide) rfl))
        ·
          refine R.q (q.gtr rfl rfl (decide_eq_false (by omega))) rfl<|R.nil ?_
          refine R.aH rfl rfl ?_
          refine R.reg rfl<|R.q (q.cF 0 rfl rfl aN) rfl<|R.q (q.aX (off':=4) rfl bL rfl) rfl<|R.q (q.ld 4 rfl rfl aA rfl) rfl<|R.u 2 rfl<|R.c (q.call pN rfl rfl (fun w hw=>(gO (((ap r p).1)) (r.ae) (rights) (aT) w  (by omega)))) rfl<|R.u 3 rfl<|?_
          refine R.s rfl (s.alloc (cs:=[.int .i64 0,.int .i64 0,.int .i64 0,.int .i64 0,.int .i64 0]) br rfl rfl) fun b6=>?_
          refine R.s rfl (s.st (us:=[.int .i64 (((derived ((ap r p).1) r.ae rights aT).1).ID),.int .i64 (((derived ((ap r p).1) r.ae rights aT).1).ai),.int .i64 (((derived ((ap r p).1) r.ae rights aT).1).Rights),.int .i64 (((derived ((ap r p).1) r.ae rights aT).1).ar),.int .i64 (((derived ((ap r p).1) r.ae rights aT).1).From)]) (cs':=[.int .i64 (((derived ((ap r p).1) r.ae rights aT).1).ID),.int .i64 (((derived ((ap r p).1) r.ae rights aT).1).ai),.int .i64 (((derived ((ap r p).1) r.ae rights aT).1).Rights),.int .i64 (((derived ((ap r p).1) r.ae rights aT).1).ar),.int .i64 (((derived ((ap r p).1) r.ae rights aT).1).From)]) 0 _ rfl rfl rfl rfl (.inl aN) rfl rfl rfl rfl) fun _=>?_
          refine R.u 1 rfl<|R.nil ?_
          refine R.reg rfl<|R.u 1 rfl<|?_
          by_cases h5:(derived ((ap r p).1) r.ae rights aT).2=0
          ·
            refine R.q (q.fa rfl rfl Tryz.underlying35 (by omega)) rfl<|R.nil ?_
            refine R.aH rfl rfl ?_
            refine R.reg rfl<|R.q (q.cF 5 rfl rfl av) rfl<|R.q (q.cF 0 rfl rfl aN) rfl<|R.q (q.cF 3 rfl rfl bk) rfl<|?_
            refine R.s (B':=(fun g_:Value×Value×Value×Value=>[ah.box b6 [.int .i64 (((derived ((ap r p).1) r.ae rights aT).1).ID),.int .i64 (((derived ((ap r p).1) r.ae rights aT).1).ai),.int .i64 (((derived ((ap r p).1) r.ae rights aT).1).Rights),.int .i64 (((derived ((ap r p).1) r.ae rights aT).1).ar),.int .i64 (((derived ((ap r p).1) r.ae rights aT).1).From)] 88,ah.box b5 [.int .i64 (((ap r p).1).ID),.int .i64 (((ap r p).1).ai),.int .i64 (((ap r p).1).Rights),.int .i64 (((ap r p).1).ar),.int .i64 (((ap r p).1).From)] 88,ah.box b4 [.slice none 0 0,.slice none 0 0,.slice none 0 0,.slice none 0 0,.int .i64 0,.int .i64 0] 32,ah.box b3 [.int .i64 t.ag,.int .i64 t.Slot] 39,ah.box b2 [.int .i64 p.ag,.int .i64 p.Slot] 39,ah.box b1 [aD,az,aC,aB,.int .i64 r.ae,.int .i64 r.af] 32,ah.held w own])) (F':=(fun g_:Value×Value×Value×Value=>[ah.ls g_.1 (((aQ r ((derived ((ap r p).1) r.ae rights aT).1) t)).aj:List ak),ah.ls g_.2.1 (((aQ r ((derived ((ap r p).1) r.ae rights aT).1) t)).Things:List ai),ah.ls g_.2.2.1 (((aQ r ((derived ((ap r p).1) r.ae rights aT).1) t)).Held:List Held),ah.ls g_.2.2.2 (((aQ r ((derived ((ap r p).1) r.ae rights aT).1) t)).Notes:List Note),ah.ls aD (r.aj:List ak),ah.ls az (r.Things:List ai),ah.ls aC (r.Held:List Held),ah.ls aB (r.Notes:List Note)])) rfl (s.bA (B0:=[]) (Br:=[ah.box b6 [.int .i64 (((derived ((ap r p).1) r.ae rights aT).1).ID),.int .i64 (((derived ((ap r p).1) r.ae rights aT).1).ai),.int .i64 (((derived ((ap r p).1) r.ae rights aT).1).Rights),.int .i64 (((derived ((ap r p).1) r.ae rights aT).1).ar),.int .i64 (((derived ((ap r p).1) r.ae rights aT).1).From)] 88,ah.box b5 [.int .i64 (((ap r p).1).ID),.int .i64 (((ap r p).1).ai),.int .i64 (((ap r p).1).Rights),.int .i64 (((ap r p).1).ar),.int .i64 (((ap r p).1).From)] 88,ah.box b4 [.slice none 0 0,.slice none 0 0,.slice none 0 0,.slice none 0 0,.int .i64 0,.int .i64 0] 32,ah.box b3 [.int .i64 t.ag,.int .i64 t.Slot] 39,ah.box b2 [.int .i64 p.ag,.int .i64 p.Slot] 39,ah.box b1 [aD,az,aC,aB,.int .i64 r.ae,.int .i64 r.af] 32,ah.held w own]) (F0:=[ah.ls aD (r.aj:List ak),ah.ls az (r.Things:List ai),ah.ls aC (r.Held:List Held),ah.ls aB (r.Notes:List Note)]) [0,1,2,3,4,5,6] [0,1,2,3] (fun g_:Value×Value×Value×Value => .agg #[g_.1,g_.2.1,g_.2.2.1,g_.2.2.2,.int .i64 (((aQ r ((derived ((ap r p).1) r.ae rights aT).1) t)).ae),.int .i64 (((aQ r ((derived ((ap r p).1) r.ae rights aT).1) t)).af)]) (fun g_:Value×Value×Value×Value=>[]) (fun g_:Value×Value×Value×Value=>[ah.ls g_.1 (((aQ r ((derived ((ap r p).1) r.ae rights aT).1) t)).aj:List ak),ah.ls g_.2.1 (((aQ r ((derived ((ap r p).1) r.ae rights aT).1) t)).Things:List ai),ah.ls g_.2.2.1 (((aQ r ((derived ((ap r p).1) r.ae rights aT).1) t)).Held:List Held),ah.ls g_.2.2.2 (((aQ r ((derived ((ap r p).1) r.ae rights aT).1) t)).Notes:List Note)]) rfl rfl rfl pO rfl rfl (fun w own hw H=>jK aD az aC aB (r) (((derived ((ap r p).1) r.ae rights aT).1)) (t) w own H (by first|omega|(dsimp only;omega))) rfl) ?_
            rintro ⟨z1,z2,z3,z4⟩
            dsimp only
            refine R.s rfl (s.eH (us:=[z1,z2,z3,z4,.int .i64 ((aQ r ((derived ((ap r p).1) r.ae rights aT).1) t).ae),.int .i64 ((aQ r ((derived ((ap r p).1) r.ae rights aT).1) t).af)]) (cs':=[z1,z2,z3,z4,.int .i64 ((aQ r ((derived ((ap r p).1) r.ae rights aT).1) t).ae),.int .i64 ((aQ r ((derived ((ap r p).1) r.ae rights aT).1) t).af)]) 2 _ rfl rfl rfl (fun _ _=>rfl) (.inl av) (fun w hw=>(ao (Sl.one ((fun _=>Wd.aS 0 rfl) w hw)) (ao (Sl.one ((fun _=>Wd.aS 1 rfl) w hw)) (ao (Sl.one ((fun _=>Wd.aS 2 rfl) w hw)) (ao (Sl.one ((fun _=>Wd.aS 3 rfl) w hw)) (ao rfl (ao rfl aO))))))) rfl rfl rfl) fun _=>?_
            refine R.u 1 rfl<|R.nil ?_
            have hz:bV r p t rights aT=((aQ r ((derived ((ap r p).1) r.ae rights aT).1) t),0):=by (unfold bV;(repeat' split) <;> first|rfl|(exfalso;omega)|(simp_all;done))
            rw [hz]
            exact R.w2 (z1,z2,z3,z4) [6] [0,1,2,3] rfl Tryz.results31 (RV.cell 2 rfl rfl av) (RV.tmp rfl) rfl rfl rfl (cx rfl (gj rfl))
          ·
            refine R.q (q.fb rfl rfl Tryz.underlying35 (by omega)) rfl<|R.nil ?_
            refine R.aE rfl rfl ?_
            refine R.reg rfl<|R.q (q.build (cs:=[.slice none 0 0,.slice none 0 0,.slice none 0 0,.slice none 0 0,.int .i64 0,.int .i64 0]) cJ rfl rfl) rfl<|R.u 1 rfl<|?_
            refine R.s rfl (s.st (us:=[.slice none 0 0,.slice none 0 0,.slice none 0 0,.slice none 0 0,.int .i64 0,.int .i64 0]) (cs':=[.slice none 0 0,.slice none 0 0,.slice none 0 0,.slice none 0 0,.int .i64 0,.int .i64 0]) 2 _ rfl rfl rfl rfl (.inl av) rfl rfl rfl rfl) fun _=>?_
            refine R.u 1 rfl<|R.nil ?_
            refine R.mp (fun _ hw=>hw.aU (α:=ak)) ?_
            refine R.mp (fun _ hw=>hw.aU (α:=ai)) ?_
            refine R.mp (fun _ hw=>hw.aU (α:=Held)) ?_
            refine R.mp (fun _ hw=>hw.aU (α:=Note)) ?_
            have hz:bV r p t rights aT=((⟨[],[],[],[],0,0⟩:au),(derived ((ap r p).1) r.ae rights aT).2):=by (unfold bV;(repeat' split) <;> first|rfl|(exfalso;omega)|(simp_all;done))
            rw [hz]
            exact R.w2 ((.slice none 0 0),(.slice none 0 0),(.slice none 0 0),(.slice none 0 0)) [6] [3,2,1,0] rfl Tryz.results31 (RV.cell 2 rfl rfl av) (RV.tmp rfl) rfl rfl rfl (cx rfl rfl)
      ·
        refine R.q (q.neq rfl rfl (bne_iff_ne.2 (by omega))) rfl<|R.u 1 rfl<|R.qg rfl (q.aX (off':=2) rfl fy rfl) rfl<|R.qg rfl (q.ld 0 rfl rfl aA rfl) rfl<|?_
        rcases Bool.eq_false_or_eq_true (eY (((ap r p).1).Rights) 4) with h6|h6
        ·
          refine R.cg rfl (q.call lX rfl rfl (fun w hw=>(cv (congrArg Value.bool h6) (eh (((ap r p).1).Rights) (4) w  (by omega) (by omega))))) rfl<|R.u 2 rfl<|R.nil ?_
          refine R.aH rfl rfl ?_
          refine R.reg rfl<|R.q (q.aX (off':=4) rfl bL rfl) rfl<|R.q (q.ld 4 rfl rfl aA rfl) rfl<|?_
          by_cases h7:999<r.ae
          ·
            refine R.q (q.gtr rfl rfl (decide_eq_true (by omega))) rfl<|R.nil ?_
            refine R.aE rfl rfl ?_
            refine R.reg rfl<|R.q (q.build (cs:=[.slice none 0 0,.slice none 0 0,.slice none 0 0,.slice none 0 0,.int .i64 0,.int .i64 0]) cJ rfl rfl) rfl<|R.q (q.iface rfl bz) rfl<|?_
            refine R.s rfl (s.st (us:=[.slice none 0 0,.slice none 0 0,.slice none 0 0,.slice none 0 0,.int .i64 0,.int .i64 0]) (cs':=[.slice none 0 0,.slice none 0 0,.slice none 0 0,.slice none 0 0,.int .i64 0,.int .i64 0]) 1 _ rfl rfl rfl rfl (.inl av) rfl rfl rfl rfl) fun _=>?_
            refine R.u 1 rfl<|R.nil ?_
            refine R.mp (fun _ hw=>hw.aU (α:=ak)) ?_
            refine R.mp (fun _ hw=>hw.aU (α:=ai)) ?_
            refine R.mp (fun _ hw=>hw.aU (α:=Held)) ?_
            refine R.mp (fun _ hw=>hw.aU (α:=Note)) ?_
            have hz:bV r p t rights aT=((⟨[],[],[],[],0,0⟩:au),9):=by (unfold bV;(repeat' split) <;> first|rfl|(exfalso;omega)|(simp_all;done))
            rw [hz]
            exact R.w2 ((.slice none 0 0),(.slice none 0 0),(.slice none 0 0),(.slice none 0 0)) [5] [3,2,1,0] rfl Tryz.results31 (RV.cell 1 rfl rfl av) (RV.tmp rfl) rfl rfl rfl (cx rfl (dC (by decide) rfl))
          ·
            refine R.q (q.gtr rfl rfl (decide_eq_false (by omega))) rfl<|R.nil ?_
            refine R.aH rfl rfl ?_
            refine R.reg rfl<|R.q (q.cF 0 rfl rfl aN) rfl<|R.q (q.aX (off':=4) rfl bL rfl) rfl<|R.q (q.ld 4 rfl rfl aA rfl) rfl<|R.u 2 rfl<|R.c (q.call pN rfl rfl (fun w hw=>(gO (((ap r p).1)) (r.ae) (rights) (aT) w  (by omega)))) rfl<|R.u 3 rfl<|?_
            refine R.s rfl (s.alloc (cs:=[.int .i64 0,.int .i64 0,.int .i64 0,.int .i64 0,.int .i64 0]) br rfl rfl) fun b7=>?_
            refine R.s rfl (s.st (us:=[.int .i64 (((derived ((ap r p).1) r.ae rights aT).1).ID),.int .i64 (((derived ((ap r p).1) r.ae rights aT).1).ai),.int .i64 (((derived ((ap r p).1) r.ae rights aT).1).Rights),.int .i64 (((derived ((ap r p).1) r.ae rights aT).1).ar),.int .i64 (((derived ((ap r p).1) r.ae rights aT).1).From)]) (cs':=[.int .i64 (((derived ((ap r p).1) r.ae rights aT).1).ID),.int .i64 (((derived ((ap r p).1) r.ae rights aT).1).ai),.int .i64 (((derived ((ap r p).1) r.ae rights aT).1).Rights),.int .i64 (((derived ((ap r p).1) r.ae rights aT).1).ar),.int .i64 (((derived ((ap r p).1) r.ae rights aT).1).From)]) 0 _ rfl rfl rfl rfl (.inl aN) rfl rfl rfl rfl) fun _=>?_
            refine R.u 1 rfl<|R.nil ?_
            refine R.reg rfl<|R.u 1 rfl<|?_
            by_cases h8:(derived ((ap r p).1) r.ae rights aT).2=0
            ·
              refine R.q (q.fa rfl rfl Tryz.underlying35 (by omega)) rfl<|R.nil ?_
              refine R.aH rfl rfl ?_
              refine R.reg rfl<|R.q (q.cF 5 rfl rfl av) rfl<|R.q (q.cF 0 rfl rfl aN) rfl<|R.q (q.cF 3 rfl rfl bk) rfl<|?_
              refine R.s (B':=(fun g_:Value×Value×Value×Value=>[ah.box b7 [.int .i64 (((derived ((ap r p).1) r.ae rights aT).1).ID),.int .i64 (((derived ((ap r p).1) r.ae rights aT).1).ai),.int .i64 (((derived ((ap r p).1) r.ae rights aT).1).Rights),.int .i64 (((derived ((ap r p).1) r.ae rights aT).1).ar),.int .i64 (((derived ((ap r p).1) r.ae rights aT).1).From)] 88,ah.box b5 [.int .i64 (((ap r p).1).ID),.int .i64 (((ap r p).1).ai),.int .i64 (((ap r p).1).Rights),.int .i64 (((ap r p).1).ar),.int .i64 (((ap r p).1).From)] 88,ah.box b4 [.slice none 0 0,.slice none 0 0,.slice none 0 0,.slice none 0 0,.int .i64 0,.int .i64 0] 32,ah.box b3 [.int .i64 t.ag,.int .i64 t.Slot] 39,ah.box b2 [.int .i64 p.ag,.int .i64 p.Slot] 39,ah.box b1 [aD,az,aC,aB,.int .i64 r.ae,.int .i64 r.af] 32,ah.held w own])) (F':=(fun g_:Value×Value×Value×Value=>[ah.ls g_.1 (((aQ r ((derived ((ap r p).1) r.ae rights aT).1) t)).aj:List ak),ah.ls g_.2.1 (((aQ r ((derived ((ap r p).1) r.ae rights aT).1) t)).Things:List ai),ah.ls g_.2.2.1 (((aQ r ((derived ((ap r p).1) r.ae rights aT).1) t)).Held:List Held),ah.ls g_.2.2.2 (((aQ r ((derived ((ap r p).1) r.ae rights aT).1) t)).Notes:List Note),ah.ls aD (r.aj:List ak),ah.ls az (r.Things:List ai),ah.ls aC (r.Held:List Held),ah.ls aB (r.Notes:List Note)])) rfl (s.bA (B0:=[]) (Br:=[ah.box b7 [.int .i64 (((derived ((ap r p).1) r.ae rights aT).1).ID),.int .i64 (((derived ((ap r p).1) r.ae rights aT).1).ai),.int .i64 (((derived ((ap r p).1) r.ae rights aT).1).Rights),.int .i64 (((derived ((ap r p).1) r.ae rights aT).1).ar),.int .i64 (((derived ((ap r p).1) r.ae rights aT).1).From)] 88,ah.box b5 [.int .i64 (((ap r p).1).ID),.int .i64 (((ap r p).1).ai),.int .i64 (((ap r p).1).Rights),.int .i64 (((ap r p).1).ar),.int .i64 (((ap r p).1).From)] 88,ah.box b4 [.slice none 0 0,.slice none 0 0,.slice none 0 0,.slice none 0 0,.int .i64 0,.int .i64 0] 32,ah.box b3 [.int .i64 t.ag,.int .i64 t.Slot] 39,ah.box b2 [.int .i64 p.ag,.int .i64 p.Slot] 39,ah.box b1 [aD,az,aC,aB,.int .i64 r.ae,.int .i64 r.af] 32,ah.held w own]) (F0:=[ah.ls aD (r.aj:List ak),ah.ls az (r.Things:List ai),ah.ls aC (r.Held:List Held),ah.ls aB (r.Notes:List Note)]) [0,1,2,3,4,5,6] [0,1,2,3] (fun g_:Value×Value×Value×Value => .agg #[g_.1,g_.2.1,g_.2.2.1,g_.2.2.2,.int .i64 (((aQ r ((derived ((ap r p).1) r.ae rights aT).1) t)).ae),.int .i64 (((aQ r ((derived ((ap r p).1) r.ae rights aT).1) t)).af)]) (fun g_:Value×Value×Value×Value=>[]) (fun g_:Value×Value×Value×Value=>[ah.ls g_.1 (((aQ r ((derived ((ap r p).1) r.ae rights aT).1) t)).aj:List ak),ah.ls g_.2.1 (((aQ r ((derived ((ap r p).1) r.ae rights aT).1) t)).Things:List ai),ah.ls g_.2.2.1 (((aQ r ((derived ((ap r p).1) r.ae rights aT).1) t)).Held:List Held),ah.ls g_.2.2.2 (((aQ r ((derived ((ap r p).1) r.ae rights aT).1) t)).Notes:List Note)]) rfl rfl rfl pO rfl rfl (fun w own hw H=>jK aD az aC aB (r) (((derived ((ap r p).1) r.ae rights aT).1)) (t) w own H (by first|omega|(dsimp only;omega))) rfl) ?_
              rintro ⟨z5,z6,z7,z8⟩
              dsimp only
              refine R.s rfl (s.eH (us:=[z5,z6,z7,z8,.int .i64 ((aQ r ((derived ((ap r p).1) r.ae rights aT).1) t).ae),.int .i64 ((aQ r ((derived ((ap r p).1) r.ae rights aT).1) t).af)]) (cs':=[z5,z6,z7,z8,.int .i64 ((aQ r ((derived ((ap r p).1) r.ae rights aT).1) t).ae),.int .i64 ((aQ r ((derived ((ap r p).1) r.ae rights aT).1) t).af)]) 2 _ rfl rfl rfl (fun _ _=>rfl) (.inl av) (fun w hw=>(ao (Sl.one ((fun _=>Wd.aS 0 rfl) w hw)) (ao (Sl.one ((fun _=>Wd.aS 1 rfl) w hw)) (ao (Sl.one ((fun _=>Wd.aS 2 rfl) w hw)) (ao (Sl.one ((fun _=>Wd.aS 3 rfl) w hw)) (ao rfl (ao rfl aO))))))) rfl rfl rfl) fun _=>?_
              refine R.u 1 rfl<|R.nil ?_
              have hz:bV r p t rights aT=((aQ r ((derived ((ap r p).1) r.ae rights aT).1) t),0):=by (unfold bV;(repeat' split) <;> first|rfl|(exfalso;omega)|(simp_all;done))
              rw [hz]
              exact R.w2 (z5,z6,z7,z8) [6] [0,1,2,3] rfl Tryz.results31 (RV.cell 2 rfl rfl av) (RV.tmp rfl) rfl rfl rfl (cx rfl (gj rfl))
            ·
              refine R.q (q.fb rfl rfl Tryz.underlying35 (by omega)) rfl<|R.nil ?_
              refine R.aE rfl rfl ?_
              refine R.reg rfl<|R.q (q.build (cs:=[.slice none 0 0,.slice none 0 0,.slice none 0 0,.slice none 0 0,.int .i64 0,.int .i64 0]) cJ rfl rfl) rfl<|R.u 1 rfl<|?_
              refine R.s rfl (s.st (us:=[.slice none 0 0,.slice none 0 0,.slice none 0 0,.slice none 0 0,.int .i64 0,.int .i64 0]) (cs':=[.slice none 0 0,.slice none 0 0,.slice none 0 0,.slice none 0 0,.int .i64 0,.int .i64 0]) 2 _ rfl rfl rfl rfl (.inl av) rfl rfl rfl rfl) fun _=>?_
              refine R.u 1 rfl<|R.nil ?_
              refine R.mp (fun _ hw=>hw.aU (α:=ak)) ?_
              refine R.mp (fun _ hw=>hw.aU (α:=ai)) ?_
              refine R.mp (fun _ hw=>hw.aU (α:=Held)) ?_
              refine R.mp (fun _ hw=>hw.aU (α:=Note)) ?_
              have hz:bV r p t rights aT=((⟨[],[],[],[],0,0⟩:au),(derived ((ap r p).1) r.ae rights aT).2):=by (unfold bV;(repeat' split) <;> first|rfl|(exfalso;omega)|(simp_all;done))
              rw [hz]
              exact R.w2 ((.slice none 0 0),(.slice none 0 0),(.slice none 0 0),(.slice none 0 0)) [6] [3,2,1,0] rfl Tryz.results31 (RV.cell 2 rfl rfl av) (RV.tmp rfl) rfl rfl rfl (cx rfl rfl)
        ·
          refine R.cg rfl (q.call lX rfl rfl (fun w hw=>(cv (congrArg Value.bool h6) (eh (((ap r p).1).Rights) (4) w  (by omega) (by omega))))) rfl<|R.u 2 rfl<|R.nil ?_
          refine R.aE rfl rfl ?_
          refine R.reg rfl<|R.q (q.build (cs:=[.slice none 0 0,.slice none 0 0,.slice none 0 0,.slice none 0 0,.int .i64 0,.int .i64 0]) cJ rfl rfl) rfl<|R.q (q.iface rfl bz) rfl<|?_
          refine R.s rfl (s.st (us:=[.slice none 0 0,.slice none 0 0,.slice none 0 0,.slice none 0 0,.int .i64 0,.int .i64 0]) (cs':=[.slice none 0 0,.slice none 0 0,.slice none 0 0,.slice none 0 0,.int .i64 0,.int .i64 0]) 1 _ rfl rfl rfl rfl (.inl av) rfl rfl rfl rfl) fun _=>?_
          refine R.u 1 rfl<|R.nil ?_
          refine R.mp (fun _ hw=>hw.aU (α:=ak)) ?_
          refine R.mp (fun _ hw=>hw.aU (α:=ai)) ?_
          refine R.mp (fun _ hw=>hw.aU (α:=Held)) ?_
          refine R.mp (fun _ hw=>hw.aU (α:=Note)) ?_
          have hz:bV r p t rights aT=((⟨[],[],[],[],0,0⟩:au),7):=by (unfold bV;(repeat' split) <;> first|rfl|(exfalso;omega)|(simp_all;done))
          rw [hz]
          exact R.w2 ((.slice none 0 0),(.slice none 0 0),(.slice none 0 0),(.slice none 0 0)) [5] [3,2,1,0] rfl Tryz.results31 (RV.cell 1 rfl rfl av) (RV.tmp rfl) rfl rfl rfl (cx rfl (dC (by decide) rfl))
    ·
      refine R.q (q.fb rfl rfl Tryz.underlying35 (by omega)) rfl<|R.nil ?_
      refine R.aE rfl rfl ?_
      refine R.reg rfl<|R.q (q.build (cs:=[.slice none 0 0,.slice none 0 0,.slice none 0 0,.slice none 0 0,.int .i64 0,.int .i64 0]) cJ rfl rfl) rfl<|R.u 1 rfl<|?_
      refine R.s rfl (s.st (us:=[.slice none 0 0,.slice none 0 0,.slice none 0 0,.slice none 0 0,.int .i64 0,.int .i64 0]) (cs':=[.slice none 0 0,.slice none 0 0,.slice none 0 0,.slice none 0 0,.int .i64 0,.int .i64 0]) 1 _ rfl rfl rfl rfl (.inl av) rfl rfl rfl rfl) fun _=>?_
      refine R.u 1 rfl<|R.nil ?_
      refine R.mp (fun _ hw=>hw.aU (α:=ak)) ?_
      refine R.mp (fun _ hw=>hw.aU (α:=ai)) ?_
      refine R.mp (fun _ hw=>hw.aU (α:=Held)) ?_
      refine R.mp (fun _ hw=>hw.aU (α:=Note)) ?_
      have hz:bV r p t rights aT=((⟨[],[],[],[],0,0⟩:au),eE r t):=by (unfold bV;(repeat' split) <;> first|rfl|(exfalso;omega)|(simp_all;done))
      rw [hz]
      exact R.w2 ((.slice none 0 0),(.slice none 0 0),(.slice none 0 0),(.slice none 0 0)) [5] [3,2,1,0] rfl Tryz.results31 (RV.cell 1 rfl rfl av) (RV.tmp rfl) rfl rfl rfl (cx rfl rfl)
  ·
    refine R.q (q.fb rfl rfl Tryz.underlying35 (by omega)) rfl<|R.nil ?_
    refine R.aE rfl rfl ?_
    refine R.reg rfl<|R.q (q.build (cs:=[.slice none 0 0,.slice none 0 0,.slice none 0 0,.slice none 0 0,.int .i64 0,.int .i64 0]) cJ rfl rfl) rfl<|R.u 1 rfl<|?_
    refine R.s rfl (s.st (us:=[.slice none 0 0,.slice none 0 0,.slice none 0 0,.slice none 0 0,.int .i64 0,.int .i64 0]) (cs':=[.slice none 0 0,.slice none 0 0,.slice none 0 0,.slice none 0 0,.int .i64 0,.int .i64 0]) 1 _ rfl rfl rfl rfl (.inl av) rfl rfl rfl rfl) fun _=>?_
    refine R.u 1 rfl<|R.nil ?_
    refine R.mp (fun _ hw=>hw.aU (α:=ak)) ?_
    refine R.mp (fun _ hw=>hw.aU (α:=ai)) ?_
    refine R.mp (fun _ hw=>hw.aU (α:=Held)) ?_
    refine R.mp (fun _ hw=>hw.aU (α:=Note)) ?_
    have hz:bV r p t rights aT=((⟨[],[],[],[],0,0⟩:au),(ap r p).2):=by (unfold bV;(repeat' split) <;> first|rfl|(exfalso;omega)|(simp_all;done))
    rw [hz]
    exact R.w2 ((.slice none 0 0),(.slice none 0 0),(.slice none 0 0),(.slice none 0 0)) [5] [3,2,1,0] rfl Tryz.results31 (RV.cell 1 rfl rfl av) (RV.tmp rfl) rfl rfl rfl (cx rfl rfl)
theorem tE (aD az aC aB:Value)(r:au)(p:Place)(slot:Int)(w:World)(own:List Nat)(H:Wd w (blks []++own) ([]++[ah.held w own]) [ah.ls aD (r.aj:List ak),ah.ls az (r.Things:List ai),ah.ls aC (r.Held:List Held),ah.ls aB (r.Notes:List Note)] w)(hk:Ok r):Calls Tryz.prog 32 #[.agg #[aD,az,aC,aB,.int .i64 r.ae,.int .i64 r.af],.agg #[.int .i64 p.ag,.int .i64 p.Slot],.int .i64 slot] w fun e w' => ∃z:Value×Value×Value×Value,e = .returned (.tuple #[.agg #[z.1,z.2.1,z.2.2.1,z.2.2.2,.int .i64 ((((di r p slot)).1).ae),.int .i64 ((((di r p slot)).1).af)],eG (((di r p slot)).2)])∧Wd w (blks []++own) ([]++[ah.held w own]) [ah.ls z.1 ((((di r p slot)).1).aj:List ak),ah.ls z.2.1 ((((di r p slot)).1).Things:List ai),ah.ls z.2.2.1 ((((di r p slot)).1).Held:List Held),ah.ls z.2.2.2 ((((di r p slot)).1).Notes:List Note)] w':=by
  have dF:=H.cL 0 rfl
  have cX:=H.cL 1 rfl
  have ej:=H.cL 2 rfl
  have dG:=H.cL 3 rfl
  have bw:=hk.wl;have bt:=hk.tl;have bh:=hk.hl;have bn:=hk.nl;have wi:=hk.w0;have wj:=hk.w1;have wk:=hk.t0;have wm:=hk.t1
  have bp:=iy r.Held p 0
  refine R.cQ (n:=42) (vs:=[.agg #[aD,az,aC,aB,.int .i64 r.ae,.int .i64 r.af],.agg #[.int .i64 p.ag,.int .i64 p.Slot],.int .i64 slot]) (B:=[ah.held w own]) [(0,.agg #[aD,az,aC,aB,.int .i64 r.ae,.int .i64 r.af]),(1,.agg #[.int .i64 p.ag,.int .i64 p.Slot]),(2,.int .i64 slot)] Tryz.func32 rfl rfl rfl rfl H ?_
  refine R.reg rfl<|?_
  refine R.s rfl (s.box (cs:=[aD,az,aC,aB,.int .i64 r.ae,.int .i64 r.af]) rfl rfl rfl) fun b1=>?_
  refine R.s rfl (s.box (cs:=[.int .i64 p.ag,.int .i64 p.Slot]) rfl rfl rfl) fun b2=>?_
  refine R.s rfl (s.alloc (cs:=[.slice none 0 0,.slice none 0 0,.slice none 0 0,.slice none 0 0,.int .i64 0,.int .i64 0]) cj rfl rfl) fun b3=>?_
  refine R.u 1 rfl<|R.nil ?_
  refine R.reg rfl<|R.q (q.cF 2 rfl rfl av) rfl<|R.q (q.cF 1 rfl rfl bk) rfl<|R.c (q.call ng rfl rfl (fun w hw=>(i6 _ _ _ _ (r) (p) w ((fun _=>Wd.aS 0 rfl) w hw) ((fun _=>Wd.aS 1 rfl) w hw) ((fun _=>Wd.aS 2 rfl) w hw) ((fun _=>Wd.aS 3 rfl) w hw) (by assumption)))) rfl<|R.u 3 rfl<|?_
  refine R.s rfl (s.alloc (cs:=[.int .i64 0,.int .i64 0,.int .i64 0,.int .i64 0,.int .i64 0]) br rfl rfl) fun b4=>?_
  refine R.s rfl (s.st (us:=[.int .i64 (((ap r p).1).ID),.int .i64 (((ap r p).1).ai),.int .i64 (((ap r p).1).Rights),.int .i64 (((ap r p).1).ar),.int .i64 (((ap r p).1).From)]) (cs':=[.int .i64 (((ap r p).1).ID),.int .i64 (((ap r p).1).ai),.int .i64 (((ap r p).1).Rights),.int .i64 (((ap r p).1).ar),.int .i64 (((ap r p).1).From)]) 0 _ rfl rfl rfl rfl (.inl aN) rfl rfl rfl rfl) fun _=>?_
  refine R.u 1 rfl<|R.nil ?_
  refine R.reg rfl<|R.u 1 rfl<|?_
  by_cases h1:(ap r p).2=0
  ·
    refine R.q (q.fa rfl rfl Tryz.underlying35 (by omega)) rfl<|R.nil ?_
    refine R.aH rfl rfl ?_
    refine R.reg rfl<|R.q (q.aX (off':=0) rfl dE rfl) rfl<|R.q (q.ld 2 rfl rfl aA rfl) rfl<|R.u 1 rfl<|R.q (q.build (cs:=[.int .i64 p.ag,.int .i64 slot]) lW rfl rfl) rfl<|?_
    refine R.s rfl (s.alloc (cs:=[.int .i64 0,.int .i64 0]) pK rfl rfl) fun b5=>?_
    refine R.s rfl (s.st (us:=[.int .i64 p.ag,.int .i64 slot]) (cs':=[.int .i64 p.ag,.int .i64 slot]) 0 _ rfl rfl rfl rfl (.inl bk) rfl rfl rfl rfl) fun _=>?_
    refine R.nil ?_
    refine R.reg rfl<|R.q (q.cF 4 rfl rfl av) rfl<|R.q (q.cF 0 rfl rfl bk) rfl<|R.c (q.call sn rfl rfl (fun w hw=>(j0 _ _ _ _ (r) ((⟨p.ag,slot⟩:Place)) w ((fun _=>Wd.aS 0 rfl) w hw) ((fun _=>Wd.aS 1 rfl) w hw) ((fun _=>Wd.aS 2 rfl) w hw) ((fun _=>Wd.aS 3 rfl) w hw) (by assumption)))) rfl<|R.u 1 rfl<|R.nil ?_
    refine R.reg rfl<|R.u 1 rfl<|?_
    by_cases h2:eE r (⟨p.ag,slot⟩:Place)=0
    ·
      refine R.q (q.fa rfl rfl Tryz.underlying35 (by omega)) rfl<|R.nil ?_
      refine R.aH rfl rfl ?_
      refine R.fT (fuel:=10) (Wd w (blks []++own) [ah.box b5 [.int .i64 p.ag,.int .i64 slot] 39,ah.box b4 [.int .i64 (((ap r p).1).ID),.int .i64 (((ap r p).1).ai),.int .i64 (((ap r p).1).Rights),.int .i64 (((ap r p).1).ar),.int .i64 (((ap r p).1).From)] 88,ah.box b3 [.slice none 0 0,.slice none 0 0,.slice none 0 0,.slice none 0 0,.int .i64 0,.int .i64 0] 32,ah.box b2 [.int .i64 p.ag,.int .i64 p.Slot] 39,ah.held w own] [ah.ls aD (r.aj:List ak),ah.ls az (r.Things:List ai),ah.ls aC (r.Held:List Held),ah.ls aB (r.Notes:List Note)]) rfl mixed rfl ?_
      refine D.q (i:=0) rfl (by kernel_rfl) (fun _=>Wd.aK [0,1,2,3,5] [0,1,2,3] rfl rfl rfl) rfl (q.aX (off':=2) rfl bJ rfl) rfl<|D.q (i:=2) rfl (by kernel_rfl) (fun _=>Wd.aK [0,1,2,3,5] [0,1,2,3] rfl rfl rfl) rfl (q.cF 3 rfl rfl bk) rfl<|D.q (i:=4) rfl (by kernel_rfl) (fun _=>Wd.aK [0,1,2,3,5] [0,1,2,3] rfl rfl rfl) rfl (q.cF 0 rfl rfl bk) rfl<|D.q (i:=5) rfl (by kernel_rfl) (fun _=>Wd.aK [0,1,2,3,5] [0,1,2,3] rfl rfl rfl) rfl (q.aX (off':=0) rfl bu rfl) rfl<|D.q (i:=6) rfl (by kernel_rfl) (fun _=>Wd.aK [0,1,2,3,5] [0,1,2,3] rfl rfl rfl) rfl (q.ld 1 rfl rfl aA rfl) rfl<|?_
      refine D.one (i:=1) (by kernel_rfl) rfl ?_
      refine Do.s (s.c (Qt.a (q.ld 4 rfl rfl cw rfl)) rfl) (fun _=>(fun _=>Wd.aK [0,1,2,3,5] [0,1,2,3] rfl rfl rfl)) rfl fun _=>?_
      refine D.one (i:=3) (by kernel_rfl) rfl ?_
      refine Do.s (B':=(fun aG:Value=>[ah.row 85 aG ((ck r.Held p 0):List Held),ah.box b5 [.int .i64 p.ag,.int .i64 slot] 39,ah.box b4 [.int .i64 (((ap r p).1).ID),.int .i64 (((ap r p).1).ai),.int .i64 (((ap r p).1).Rights),.int .i64 (((ap r p).1).ar),.int .i64 (((ap r p).1).From)] 88,ah.box b3 [.slice none 0 0,.slice none 0 0,.slice none 0 0,.slice none 0 0,.int .i64 0,.int .i64 0] 32,ah.box b2 [.int .i64 p.ag,.int .i64 p.Slot] 39,ah.box b1 [aD,az,aC,aB,.int .i64 r.ae,.int .i64 r.af] 32,ah.held w own])) (F':=(fun aG:Value=>[ah.ls aD (r.aj:List ak),ah.ls az (r.Things:List ai),ah.ls aC (r.Held:List Held),ah.ls aB (r.Notes:List Note)])) (s.bA (B0:=[]) (Br:=[ah.box b5 [.int .i64 p.ag,.int .i64 slot] 39,ah.box b4 [.int .i64 (((ap r p).1).ID),.int .i64 (((ap r p).1).ai),.int .i64 (((ap r p).1).Rights),.int .i64 (((ap r p).1).ar),.int .i64 (((ap r p).1).From)] 88,ah.box b3 [.slice none 0 0,.slice none 0 0,.slice none 0 0,.slice none 0 0,.int .i64 0,.int .i64 0] 32,ah.box b2 [.int .i64 p.ag,.int .i64 p.Slot] 39,ah.box b1 [aD,az,aC,aB,.int .i64 r.ae,.int .i64 r.af] 32,ah.held w own]) (F0:=[ah.ls aC (r.Held:List Held)]) [0,1,2,3,4,5] [2] (fun aG:Value=>aG) (fun aG:Value=>[ah.row 85 aG ((ck r.Held p 0):List Held)]) (fun aG:Value=>[]) rfl rfl rfl ow rfl rfl (fun w own hw H=>jU aC (r.Held) (p) (0) w own H (by first|omega|assumption|(simp;done)|(simp;omega))) rfl) (fun _=>(fun _=>Wd.aK [1,2,3,4,6] [0,1,2,3] rfl rfl rfl)) rfl fun z3=>?_
      refine D.one (i:=7) (by kernel_rfl) rfl ?_
      refine Do.s (B':=(fun aG:Value=>[ah.row 85 aG ((ck (ck r.Held p 0) (⟨p.ag,slot⟩:Place) (((ap r p).1).ID)):List Held),ah.box b5 [.int .i64 p.ag,.int .i64 slot] 39,ah.box b4 [.int .i64 (((ap r p).1).ID),.int .i64 (((ap r p).1).ai),.int .i64 (((ap r p).1).Rights),.int .i64 (((ap r p).1).ar),.int .i64 (((ap r p).1).From)] 88,ah.box b3 [.slice none 0 0,.slice none 0 0,.slice none 0 0,.slice none 0 0,.int .i64 0,.int .i64 0] 32,ah.box b2 [.int .i64 p.ag,.int .i64 p.Slot] 39,ah.box b1 [aD,az,aC,aB,.int .i64 r.ae,.int .i64 r.af] 32,ah.held w own])) (F':=(fun aG:Value=>[ah.ls z3 (ck r.Held p 0:List Held),ah.ls aD (r.aj:List ak),ah.ls az (r.Things:List ai),ah.ls aC (r.Held:List Held),ah.ls aB (r.Notes:List Note)])) (s.pre (B2:=[ah.box b5 [.int .i64 p.ag,.int .i64 slot] 39,ah.box b4 [.int .i64 (((ap r p).1).ID),.int .i64 (((ap r p).1).ai),.int .i64 (((ap r p).1).Rights),.int .i64 (((ap r p).1).ar),.int .i64 (((ap r p).1).From)] 88,ah.box b3 [.slice none 0 0,.slice none 0 0,.slice none 0 0,.slice none 0 0,.int .i64 0,.int .i64 0] 32,ah.box b2 [.int .i64 p.ag,.int .i64 p.Slot] 39,ah.box b1 [aD,az,aC,aB,.int .i64 r.ae,.int .i64 r.af] 32,ah.held w own]) (F2:=[ah.ls z3 (ck r.Held p 0:List Held),ah.ls aD (r.aj:List ak),ah.ls az (r.Things:List ai),ah.ls aC (r.Held:List Held),ah.ls aB (r.Notes:List Note)]) (fun _ hw=>hw.dh 0 _ rfl rfl) (s.bA (B0:=[]) (Br:=[ah.box b5 [.int .i64 p.ag,.int .i64 slot] 39,ah.box b4 [.int .i64 (((ap r p).1).ID),.int .i64 (((ap r p).1).ai),.int .i64 (((ap r p).1).Rights),.int .i64 (((ap r p).1).ar),.int .i64 (((ap r p).1).From)] 88,ah.box b3 [.slice none 0 0,.slice none 0 0,.slice none 0 0,.slice none 0 0,.int .i64 0,.int .i64 0] 32,ah.box b2 [.int .i64 p.ag,.int .i64 p.Slot] 39,ah.box b1 [aD,az,aC,aB,.int .i64 r.ae,.int .i64 r.af] 32,ah.held w own]) (F0:=[ah.ls z3 (ck r.Held p 0:List Held)]) [0,1,2,3,4,5] [0] (fun aG:Value=>aG) (fun aG:Value=>[ah.row 85 aG ((ck (ck r.Held p 0) (⟨p.ag,slot⟩:Place) (((ap r p).1).ID)):List Held)]) (fun aG:Value=>[]) rfl rfl rfl ow rfl rfl (fun w own hw H=>jU z3 (ck r.Held p 0) ((⟨p.ag,slot⟩:Place)) (((ap r p).1).ID) w own H (by first|omega|assumption|(simp;done)|(simp;omega))) rfl)) (fun _=>(fun _=>Wd.aK [1,2,3,4,6] [1,2,3,4] rfl rfl rfl)) rfl fun z4=>?_
      refine D.q (i:=8) rfl (by kernel_rfl) (fun _=>Wd.aK [1,2,3,4,6] [1,2,3,4] rfl rfl rfl) rfl (q.aX (off':=2) rfl bJ rfl) rfl<|?_
      refine D.one (i:=9) (by kernel_rfl) rfl ?_
      refine Do.s (s.eH (us:=[z4]) (cs':=[aD,az,z4,aB,.int .i64 r.ae,.int .i64 r.af]) 5 _ rfl rfl rfl (fun w hw=>Sl.cr ((fun _=>Wd.row 0 rfl) w hw)) (.inr ⟨cw,rfl⟩) (fun w hw=>(ao (Sl.one ((fun _=>Wd.row 0 rfl) w hw)) aO)) rfl rfl rfl) (fun _=>(fun _=>Wd.aK [1,2,3,4,6] [1,2,3,4] rfl rfl rfl)) rfl fun _=>?_
      refine D.done (by kernel_rfl)<|?_
      refine R.reg rfl<|R.q (q.cF 5 rfl rfl av) rfl<|?_
      refine R.s rfl (s.eH (us:=[aD,az,z4,aB,.int .i64 r.ae,.int .i64 r.af]) (cs':=[aD,az,z4,aB,.int .i64 r.ae,.int .i64 r.af]) 3 _ rfl rfl rfl (fun _ _=>rfl) (.inl av) (fun w hw=>(ao (Sl.one ((fun _=>Wd.aS 1 rfl) w hw)) (ao (Sl.one ((fun _=>Wd.aS 2 rfl) w hw)) (ao (Sl.one ((fun _=>Wd.row 0 rfl) w hw)) (ao (Sl.one ((fun _=>Wd.aS 4 rfl) w hw)) (ao rfl (ao rfl aO))))))) rfl rfl rfl) fun _=>?_
      refine R.u 1 rfl<|R.nil ?_
      refine R.mp (B':=[ah.box b5 [.int .i64 p.ag,.int .i64 slot] 39,ah.box b4 [.int .i64 (((ap r p).1).ID),.int .i64 (((ap r p).1).ai),.int .i64 (((ap r p).1).Rights),.int .i64 (((ap r p).1).ar),.int .i64 (((ap r p).1).From)] 88,ah.box b3 [aD,az,z4,aB,.int .i64 r.ae,.int .i64 r.af] 32,ah.box b2 [.int .i64 p.ag,.int .i64 p.Slot] 39,ah.box b1 [aD,az,z4,aB,.int .i64 r.ae,.int .i64 r.af] 32,ah.held w own]) (fun _ hw=>hw.dh 0 _ rfl rfl) ?_
      have hz:di r p slot=((⟨r.aj,r.Things,ck (ck r.Held p 0) (⟨p.ag,slot⟩:Place) (((ap r p).1).ID),r.Notes,r.ae,r.af⟩:au),0):=by (unfold di;(repeat' split) <;> first|rfl|(exfalso;omega)|(simp_all;done))
      rw [hz]
      exact R.w2 (aD,az,z4,aB) [5] [2,3,0,5] rfl Tryz.results32 (RV.cell 2 rfl rfl av) (RV.tmp rfl) rfl rfl rfl (cx rfl (gj rfl))
    ·
      refine R.q (q.fb rfl rfl Tryz.underlying35 (by omega)) rfl<|R.nil ?_
      refine R.aE rfl rfl ?_
      refine R.reg rfl<|R.q (q.build (cs:=[.slice none 0 0,.slice none 0 0,.slice none 0 0,.slice none 0 0,.int .i64 0,.int .i64 0]) cJ rfl rfl) rfl<|R.u 1 rfl<|?_
      refine R.s rfl (s.st (us:=[.slice none 0 0,.slice none 0 0,.slice none 0 0,.slice none 0 0,.int .i64 0,.int .i64 0]) (cs':=[.slice none 0 0,.slice none 0 0,.slice none 0 0,.slice none 0 0,.int .i64 0,.int .i64 0]) 2 _ rfl rfl rfl rfl (.inl av) rfl rfl rfl rfl) fun _=>?_
      refine R.u 1 rfl<|R.nil ?_
      refine R.mp (fun _ hw=>hw.aU (α:=ak)) ?_
      refine R.mp (fun _ hw=>hw.aU (α:=ai)) ?_
      refine R.mp (fun _ hw=>hw.aU (α:=Held)) ?_
      refine R.mp (fun _ hw=>hw.aU (α:=Note)) ?_
      have hz:di r p slot=((⟨[],[],[],[],0,0⟩:au),eE r (⟨p.ag,slot⟩:Place)):=by (unfold di;(repeat' split) <;> first|rfl|(exfalso;omega)|(simp_all;done))
      rw [hz]
      exact R.w2 ((.slice none 0 0),(.slice none 0 0),(.slice none 0 0),(.slice none 0 0)) [5] [3,2,1,0] rfl Tryz.results32 (RV.cell 2 rfl rfl av) (RV.tmp rfl) rfl rfl rfl (cx rfl rfl)
  ·
    refine R.q (q.fb rfl rfl Tryz.underlying35 (by omega)) rfl<|R.nil ?_
    refine R.aE rfl rfl ?_
    refine R.reg rfl<|R.q (q.build (cs:=[.slice none 0 0,.slice none 0 0,.slice none 0 0,.slice none 0 0,.int .i64 0,.int .i64 0]) cJ rfl rfl) rfl<|R.u 1 rfl<|?_
    refine R.s rfl (s.st (us:=[.slice none 0 0,.slice none 0 0,.slice none 0 0,.slice none 0 0,.int .i64 0,.int .i64 0]) (cs':=[.slice none 0 0,.slice none 0 0,.slice none 0 0,.slice none 0 0,.int .i64 0,.int .i64 0]) 1 _ rfl rfl rfl rfl (.inl av) rfl rfl rfl rfl) fun _=>?_
    refine R.u 1 rfl<|R.nil ?_
    refine R.mp (fun _ hw=>hw.aU (α:=ak)) ?_
    refine R.mp (fun _ hw=>hw.aU (α:=ai)) ?_
    refine R.mp (fun _ hw=>hw.aU (α:=Held)) ?_
    refine R.mp (fun _ hw=>hw.aU (α:=Note)) ?_
    have hz:di r p slot=((⟨[],[],[],[],0,0⟩:au),(ap r p).2):=by (unfold di;(repeat' split) <;> first|rfl|(exfalso;omega)|(simp_all;done))
    rw [hz]
    exact R.w2 ((.slice none 0 0),(.slice none 0 0),(.slice none 0 0),(.slice none 0 0)) [4] [3,2,1,0] rfl Tryz.results32 (RV.cell 1 rfl rfl av) (RV.tmp rfl) rfl rfl rfl (cx rfl rfl)
theorem tF (aD az aC aB:Value)(r:au)(p:Place)(w:World)(own:List Nat)(H:Wd w (blks []++own) ([]++[ah.held w own]) [ah.ls aD (r.aj:List ak),ah.ls az (r.Things:List ai),ah.ls aC (r.Held:List Held),ah.ls aB (r.Notes:List Note)] w)(hk:Ok r):Calls Tryz.prog 33 #[.agg #[aD,az,aC,aB,.int .i64 r.ae,.int .i64 r.af],.agg #[.int .i64 p.ag,.int .i64 p.Slot]] w fun e w' => ∃z:Value×Value×Value×Value,e = .returned (.tuple #[.agg #[z.1,z.2.1,z.2.2.1,z.2.2.2,.int .i64 ((((dy r p)).1).ae),.int .i64 ((((dy r p)).1).af)],eG (((dy r p)).2)])∧Wd w (blks []++own) ([]++[ah.held w own]) [ah.ls z.1 ((((dy r p)).1).aj:List ak),ah.ls z.2.1 ((((dy r p)).1).Things:List ai),ah.ls z.2.2.1 ((((dy r p)).1).Held:List Held),ah.ls z.2.2.2 ((((dy r p)).1).Notes:List Note)] w':=by
  have dF:=H.cL 0 rfl
  have cX:=H.cL 1 rfl
  have ej:=H.cL 2 rfl
  have dG:=H.cL 3 rfl
  have bw:=hk.wl;have bt:=hk.tl;have bh:=hk.hl;have bn:=hk.nl;have wi:=hk.w0;have wj:=hk.w1;have wk:=hk.t0;have wm:=hk.t1
  have hkd:=hk.wo (ap r p).1.ID
  refine R.cQ (n:=26) (vs:=[.agg #[aD,az,aC,aB,.int .i64 r.ae,.int .i64 r.af],.agg #[.int .i64 p.ag,.int .i64 p.Slot]]) (B:=[ah.held w own]) [(0,.agg #[aD,az,aC,aB,.int .i64 r.ae,.int .i64 r.af]),(1,.agg #[.int .i64 p.ag,.int .i64 p.Slot])] Tryz.func33 rfl rfl rfl rfl H ?_
  refine R.reg rfl<|?_
  refine R.s rfl (s.box (cs:=[aD,az,aC,aB,.int .i64 r.ae,.int .i64 r.af]) rfl rfl rfl) fun b1=>?_
  refine R.s rfl (s.box (cs:=[.int .i64 p.ag,.int .i64 p.Slot]) rfl rfl rfl) fun b2=>?_
  refine R.s rfl (s.alloc (cs:=[.slice none 0 0,.slice none 0 0,.slice none 0 0,.slice none 0 0,.int .i64 0,.int .i64 0]) cj rfl rfl) fun b3=>?_
  refine R.u 1 rfl<|R.nil ?_
  refine R.reg rfl<|R.q (q.cF 2 rfl rfl av) rfl<|R.q (q.cF 1 rfl rfl bk) rfl<|R.c (q.call ng rfl rfl (fun w hw=>(i6 _ _ _ _ (r) (p) w ((fun _=>Wd.aS 0 rfl) w hw) ((fun _=>Wd.aS 1 rfl) w hw) ((fun _=>Wd.aS 2 rfl) w hw) ((fun _=>Wd.aS 3 rfl) w hw) (by assumption)))) rfl<|R.u 3 rfl<|?_
  refine R.s rfl (s.alloc (cs:=[.int .i64 0,.int .i64 0,.int .i64 0,.int .i64 0,.int .i64 0]) br rfl rfl) fun b4=>?_
  refine R.s rfl (s.st (us:=[.int .i64 (((ap r p).1).ID),.int .i64 (((ap r p).1).ai),.int .i64 (((ap r p).1).Rights),.int .i64 (((ap r p).1).ar),.int .i64 (((ap r p).1).From)]) (cs':=[.int .i64 (((ap r p).1).ID),.int .i64 (((ap r p).1).ai),.int .i64 (((ap r p).1).Rights),.int .i64 (((ap r p).1).ar),.int .i64 (((ap r p).1).From)]) 0 _ rfl rfl rfl rfl (.inl aN) rfl rfl rfl rfl) fun _=>?_
  refine R.u 1 rfl<|R.nil ?_
  refine R.reg rfl<|R.u 1 rfl<|?_
  by_cases h1:(ap r p).2=0
  ·
    refine R.q (q.fa rfl rfl Tryz.underlying35 (by omega)) rfl<|R.nil ?_
    refine R.aH rfl rfl ?_
    refine R.reg rfl<|R.q (q.aX (off':=0) rfl aY rfl) rfl<|R.q (q.ld 3 rfl rfl bq rfl) rfl<|R.q (q.aX (off':=0) rfl bu rfl) rfl<|R.q (q.ld 0 rfl rfl aA rfl) rfl<|?_
    refine R.s rfl (s.od uC rfl rfl (fun w hw=>jE _ (r.aj) (((ap r p).1).ID) w ((fun _=>Wd.aS 0 rfl) w hw) (by first|omega|assumption)) rfl) fun v1=>?_
    refine R.q (q.aX (off':=0) rfl aY rfl) rfl<|?_
    refine R.s rfl (s.eH (us:=[v1]) (cs':=[v1,az,aC,aB,.int .i64 r.ae,.int .i64 r.af]) 4 _ rfl rfl rfl (fun w hw=>Sl.cr ((fun _=>Wd.row 0 rfl) w hw)) (.inr ⟨bq,rfl⟩) (fun w hw=>(ao (Sl.one ((fun _=>Wd.row 0 rfl) w hw)) aO)) rfl rfl rfl) fun _=>?_
    refine R.nil ?_
    refine R.reg rfl<|R.q (q.cF 4 rfl rfl av) rfl<|?_
    refine R.s (B':=(fun g_:Value×Value×Value×Value=>[ah.box b4 [.int .i64 (((ap r p).1).ID),.int .i64 (((ap r p).1).ai),.int .i64 (((ap r p).1).Rights),.int .i64 (((ap r p).1).ar),.int .i64 (((ap r p).1).From)] 88,ah.box b3 [.slice none 0 0,.slice none 0 0,.slice none 0 0,.slice none 0 0,.int .i64 0,.int .i64 0] 32,ah.box b2 [.int .i64 p.ag,.int .i64 p.Slot] 39,ah.box b1 [v1,az,aC,aB,.int .i64 r.ae,.int .i64 r.af] 32,ah.held w own])) (F':=(fun g_:Value×Value×Value×Value=>[ah.ls g_.1 (((a8 (⟨(without r.aj (((ap r p).1).ID)),r.Things,r.Held,r.Notes,r.ae,r.af⟩:au))).aj:List ak),ah.ls g_.2.1 (((a8 (⟨(without r.aj (((ap r p).1).ID)),r.Things,r.Held,r.Notes,r.ae,r.af⟩:au))).Things:List ai),ah.ls g_.2.2.1 (((a8 (⟨(without r.aj (((ap r p).1).ID)),r.Things,r.Held,r.Notes,r.ae,r.af⟩:au))).Held:List Held),ah.ls g_.2.2.2 (((a8 (⟨(without r.aj (((ap r p).1).ID)),r.Things,r.Held,r.Notes,r.ae,r.af⟩:au))).Notes:List Note),ah.ls v1 ((without r.aj (((ap r p).1).ID)):List ak),ah.ls aD (r.aj:List ak),ah.ls az (r.Things:List ai),ah.ls aC (r.Held:List Held),ah.ls aB (r.Notes:List Note)])) rfl (s.pre (B2:=[ah.box b4 [.int .i64 (((ap r p).1).ID),.int .i64 (((ap r p).1).ai),.int .i64 (((ap r p).1).Rights),.int .i64 (((ap r p).1).ar),.int .i64 (((ap r p).1).From)] 88,ah.box b3 [.slice none 0 0,.slice none 0 0,.slice none 0 0,.slice none 0 0,.int .i64 0,.int .i64 0] 32,ah.box b2 [.int .i64 p.ag,.int .i64 p.Slot] 39,ah.box b1 [v1,az,aC,aB,.int .i64 r.ae,.int .i64 r.af] 32,ah.held w own]) (F2:=[ah.ls v1 ((without r.aj (((ap r p).1).ID)):List ak),ah.ls aD (r.aj:List ak),ah.ls az (r.Things:List ai),ah.ls aC (r.Held:List Held),ah.ls aB (r.Notes:List Note)]) (fun _ hw=>hw.dh 0 _ rfl rfl) (s.bA (B0:=[]) (Br:=[ah.box b4 [.int .i64 (((ap r p).1).ID),.int .i64 (((ap r p).1).ai),.int .i64 (((ap r p).1).Rights),.int .i64 (((ap r p).1).ar),.int .i64 (((ap r p).1).From)] 88,ah.box b3 [.slice none 0 0,.slice none 0 0,.slice none 0 0,.slice none 0 0,.int .i64 0,.int .i64 0] 32,ah.box b2 [.int .i64 p.ag,.int .i64 p.Slot] 39,ah.box b1 [v1,az,aC,aB,.int .i64 r.ae,.int .i64 r.af] 32,ah.held w own]) (F0:=[ah.ls v1 ((without r.aj (((ap r p).1).ID)):List ak),ah.ls az (r.Things:List ai),ah.ls aC (r.Held:List Held),ah.ls aB (r.Notes:List Note)]) [0,1,2,3,4] [0,2,3,4] (fun g_:Value×Value×Value×Value => .agg #[g_.1,g_.2.1,g_.2.2.1,g_.2.2.2,.int .i64 (((a8 (⟨(without r.aj (((ap r p).1).ID)),r.Things,r.Held,r.Notes,r.ae,r.af⟩:au))).ae),.int .i64 (((a8 (⟨(without r.aj (((ap r p).1).ID)),r.Things,r.Held,r.Notes,r.ae,r.af⟩:au))).af)]) (fun g_:Value×Value×Value×Value=>[]) (fun g_:Value×Value×Value×Value=>[ah.ls g_.1 (((a8 (⟨(without r.aj (((ap r p).1).ID)),r.Things,r.Held,r.Notes,r.ae,r.af⟩:au))).aj:List ak),ah.ls g_.2.1 (((a8 (⟨(without r.aj (((ap r p).1).ID)),r.Things,r.Held,r.Notes,r.ae,r.af⟩:au))).Things:List ai),ah.ls g_.2.2.1 (((a8 (⟨(without r.aj (((ap r p).1).ID)),r.Things,r.Held,r.Notes,r.ae,r.af⟩:au))).Held:List Held),ah.ls g_.2.2.2 (((a8 (⟨(without r.aj (((ap r p).1).ID)),r.Things,r.Held,r.Notes,r.ae,r.af⟩:au))).Notes:List Note)]) rfl rfl rfl uD rfl rfl (fun w own hw H=>kz v1 az aC aB ((⟨(without r.aj (((ap r p).1).ID)),r.Things,r.Held,r.Notes,r.ae,r.af⟩:au)) w own H (by assumption)) rfl)) ?_
    rintro ⟨z1,z2,z3,z4⟩
    dsimp only
    refine R.s rfl (s.eH (us:=[z1,z2,z3,z4,.int .i64 ((a8 (⟨(without r.aj (((ap r p).1).ID)),r.Things,r.Held,r.Notes,r.ae,r.af⟩:au)).ae),.int .i64 ((a8 (⟨(without r.aj (((ap r p).1).ID)),r.Things,r.Held,r.Notes,r.ae,r.af⟩:au)).af)]) (cs':=[z1,z2,z3,z4,.int .i64 ((a8 (⟨(without r.aj (((ap r p).1).ID)),r.Things,r.Held,r.Notes,r.ae,r.af⟩:au)).ae),.int .i64 ((a8 (⟨(without r.aj (((ap r p).1).ID)),r.Things,r.Held,r.Notes,r.ae,r.af⟩:au)).af)]) 1 _ rfl rfl rfl (fun _ _=>rfl) (.inl av) (fun w hw=>(ao (Sl.one ((fun _=>Wd.aS 0 rfl) w hw)) (ao (Sl.one ((fun _=>Wd.aS 1 rfl) w hw)) (ao (Sl.one ((fun _=>Wd.aS 2 rfl) w hw)) (ao (Sl.one ((fun _=>Wd.aS 3 rfl) w hw)) (ao rfl (ao rfl aO))))))) rfl rfl rfl) fun _=>?_
    refine R.u 1 rfl<|R.nil ?_
    have hz:dy r p=((a8 (⟨(without r.aj (((ap r p).1).ID)),r.Things,r.Held,r.Notes,r.ae,r.af⟩:au)),0):=by (unfold dy;(repeat' split) <;> first|rfl|(exfalso;omega)|(simp_all;done))
    rw [hz]
    exact R.w2 (z1,z2,z3,z4) [4] [0,1,2,3] rfl Tryz.results33 (RV.cell 1 rfl rfl av) (RV.tmp rfl) rfl rfl rfl (cx rfl (gj rfl))
  ·
    refine R.q (q.fb rfl rfl Tryz.underlying35 (by omega)) rfl<|R.nil ?_
    refine R.aE rfl rfl ?_
    refine R.reg rfl<|R.q (q.build (cs:=[.slice none 0 0,.slice none 0 0,.slice none 0 0,.slice none 0 0,.int .i64 0,.int .i64 0]) cJ rfl rfl) rfl<|R.u 1 rfl<|?_
    refine R.s rfl (s.st (us:=[.slice none 0 0,.slice none 0 0,.slice none 0 0,.slice none 0 0,.int .i64 0,.int .i64 0]) (cs':=[.slice none 0 0,.slice none 0 0,.slice none 0 0,.slice none 0 0,.int .i64 0,.int .i64 0]) 1 _ rfl rfl rfl rfl (.inl av) rfl rfl rfl rfl) fun _=>?_
    refine R.u 1 rfl<|R.nil ?_
    refine R.mp (fun _ hw=>hw.aU (α:=ak)) ?_
    refine R.mp (fun _ hw=>hw.aU (α:=ai)) ?_
    refine R.mp (fun _ hw=>hw.aU (α:=Held)) ?_
    refine R.mp (fun _ hw=>hw.aU (α:=Note)) ?_
    have hz:dy r p=((⟨[],[],[],[],0,0⟩:au),(ap r p).2):=by (unfold dy;(repeat' split) <;> first|rfl|(exfalso;omega)|(simp_all;done))
    rw [hz]
    exact R.w2 ((.slice none 0 0),(.slice none 0 0),(.slice none 0 0),(.slice none 0 0)) [4] [3,2,1,0] rfl Tryz.results33 (RV.cell 1 rfl rfl av) (RV.tmp rfl) rfl rfl rfl (cx rfl rfl)
set_option maxHeartbeats 1000000 in
theorem p8 (aD az aC aB:Value)(r:au)(p:Place)(w:World)(own:List Nat)(H:Wd w (blks []++own) ([]++[ah.held w own]) [ah.ls aD (r.aj:List ak),ah.ls az (r.Things:List ai),ah.ls aC (r.Held:List Held),ah.ls aB (r.Notes:List Note)] w)(hk:Ok r):Calls Tryz.prog 34 #[.agg #[aD,az,aC,aB,.int .i64 r.ae,.int .i64 r.af],.agg #[.int .i64 p.ag,.int .i64 p.Slot]] w fun e w' => ∃z:Value×Value×Value×Value,e = .returned (.tuple #[.agg #[z.1,z.2.1,z.2.2.1,z.2.2.2,.int .i64 ((((bN r p)).1).ae),.int .i64 ((((bN r p)).1).af)],eG (((bN r p)).2)])∧Wd w (blks []++own) ([]++[ah.held w own]) [ah.ls z.1 ((((bN r p)).1).aj:List ak),ah.ls z.2.1 ((((bN r p)).1).Things:List ai),ah.ls z.2.2.1 ((((bN r p)).1).Held:List Held),ah.ls z.2.2.2 ((((bN r p)).1).Notes:List Note)] w':=by
  have dF:=H.cL 0 rfl
  have cX:=H.cL 1 rfl
  have ej:=H.cL 2 rfl
  have dG:=H.cL 3 rfl
  have bw:=hk.wl;have bt:=hk.tl;have bh:=hk.hl;have bn:=hk.nl;have wi:=hk.w0;have wj:=hk.w1;have wk:=hk.t0;have wm:=hk.t1
  have hkd:Ok (⟨r.aj.filter (fun x => !(fun (x:ak)=>decide (x.ID∈(dv (((ap r p).1).ID) r.aj))) x),r.Things,r.Held,r.Notes,r.ae,r.af⟩:au):=hk.cut (ap r p).1.ID
  refine R.cQ (n:=32) (vs:=[.agg #[aD,az,aC,aB,.int .i64 r.ae,.int .i64 r.af],.agg #[.int .i64 p.ag,.int .i64 p.Slot]]) (B:=[ah.held w own]) [(0,.agg #[aD,az,aC,aB,.int .i64 r.ae,.int .i64 r.af]),(1,.agg #[.int .i64 p.ag,.int .i64 p.Slot])] Tryz.func34 rfl rfl rfl rfl H ?_
  refine R.reg rfl<|?_
  refine R.s rfl (s.box (cs:=[aD,az,aC,aB,.int .i64 r.ae,.int .i64 r.af]) rfl rfl rfl) fun b1=>?_
  refine R.s rfl (s.box (cs:=[.int .i64 p.ag,.int .i64 p.Slot]) rfl rfl rfl) fun b2=>?_
  refine R.s rfl (s.alloc (cs:=[.slice none 0 0,.slice none 0 0,.slice none 0 0,.slice none 0 0,.int .i64 0,.int .i64 0]) cj rfl rfl) fun b3=>?_
  refine R.u 1 rfl<|R.nil ?_
  refine R.reg rfl<|R.q (q.cF 2 rfl rfl av) rfl<|R.q (q.cF 1 rfl rfl bk) rfl<|R.c (q.call ng rfl rfl (fun w hw=>(i6 _ _ _ _ (r) (p) w ((fun _=>Wd.aS 0 rfl) w hw) ((fun _=>Wd.aS 1 rfl) w hw) ((fun _=>Wd.aS 2 rfl) w hw) ((fun _=>Wd.aS 3 rfl) w hw) (by assumption)))) rfl<|R.u 3 rfl<|?_
  refine R.s rfl (s.alloc (cs:=[.int .i64 0,.int .i64 0,.int .i64 0,.int .i64 0,.int .i64 0]) br rfl rfl) fun b4=>?_
  refine R.s rfl (s.st (us:=[.int .i64 (((ap r p).1).ID),.int .i64 (((ap r p).1).ai),.int .i64 (((ap r p).1).Rights),.int .i64 (((ap r p).1).ar),.int .i64 (((ap r p).1).From)]) (cs':=[.int .i64 (((ap r p).1).ID),.int .i64 (((ap r p).1).ai),.int .i64 (((ap r p).1).Rights),.int .i64 (((ap r p).1).ar),.int .i64 (((ap r p).1).From)]) 0 _ rfl rfl rfl rfl (.inl aN) rfl rfl rfl rfl) fun _=>?_
  refine R.u 1 rfl<|R.nil ?_
  refine R.reg rfl<|R.u 1 rfl<|?_
  by_cases h1:(ap r p).2=0
  ·
    refine R.q (q.fa rfl rfl Tryz.underlying35 (by omega)) rfl<|R.nil ?_
    refine R.aH rfl rfl ?_
    refine R.reg rfl<|R.q (q.aX (off':=0) rfl aY rfl) rfl<|R.q (q.ld 3 rfl rfl bq rfl) rfl<|R.q (q.aX (off':=0) rfl bu rfl) rfl<|R.q (q.ld 0 rfl rfl aA rfl) rfl<|?_
    refine R.s rfl (s.od Ap rfl rfl (fun w hw=>pe _ (r.aj) (((ap r p).1).ID) w ((fun _=>Wd.aS 0 rfl) w hw) (by first|omega|assumption)) rfl) fun v1=>?_
    refine R.s rfl (s.alloc (cs:=[.slice none 0 0]) pL rfl rfl) fun b5=>?_
    refine R.s rfl (s.eH (us:=[v1]) (cs':=[v1]) 0 _ rfl rfl rfl (fun w hw=>Sl.cr ((fun _=>Wd.row 1 rfl) w hw)) (.inr ⟨jQ,rfl⟩) (fun w hw=>(ao (Sl.one ((fun _=>Wd.row 1 rfl) w hw)) aO)) rfl rfl rfl) fun _=>?_
    refine R.nil ?_
    refine R.reg rfl<|R.q (q.aX (off':=0) rfl aY rfl) rfl<|R.q (q.ld 5 rfl rfl bq rfl) rfl<|?_
    refine R.s (B':=(fun aG:Value=>[ah.row 88 aG (r.aj:List ak),ah.box b5 [v1] 60,ah.row 3 v1 ((dv (((ap r p).1).ID) r.aj):List Int),ah.box b4 [.int .i64 (((ap r p).1).ID),.int .i64 (((ap r p).1).ai),.int .i64 (((ap r p).1).Rights),.int .i64 (((ap r p).1).ar),.int .i64 (((ap r p).1).From)] 88,ah.box b3 [.slice none 0 0,.slice none 0 0,.slice none 0 0,.slice none 0 0,.int .i64 0,.int .i64 0] 32,ah.box b2 [.int .i64 p.ag,.int .i64 p.Slot] 39,ah.box b1 [aD,az,aC,aB,.int .i64 r.ae,.int .i64 r.af] 32,ah.held w own])) (F':=(fun aG:Value=>[ah.ls aD (r.aj:List ak),ah.ls az (r.Things:List ai),ah.ls aC (r.Held:List Held),ah.ls aB (r.Notes:List Note)])) rfl (s.bA (B0:=[]) (Br:=[ah.box b5 [v1] 60,ah.row 3 v1 ((dv (((ap r p).1).ID) r.aj):List Int),ah.box b4 [.int .i64 (((ap r p).1).ID),.int .i64 (((ap r p).1).ai),.int .i64 (((ap r p).1).Rights),.int .i64 (((ap r p).1).ar),.int .i64 (((ap r p).1).From)] 88,ah.box b3 [.slice none 0 0,.slice none 0 0,.slice none 0 0,.slice none 0 0,.int .i64 0,.int .i64 0] 32,ah.box b2 [.int .i64 p.ag,.int .i64 p.Slot] 39,ah.box b1 [aD,az,aC,aB,.int .i64 r.ae,.int .i64 r.af] 32,ah.held w own]) (F0:=[ah.ls aD (r.aj:List ak)]) [0,1,2,3,4,5,6] [0] (fun aG:Value=>aG) (fun aG:Value=>[ah.row 88 aG (r.aj:List ak)]) (fun aG:Value=>[]) rfl rfl rfl sr rfl rfl (fun w own hw H=>f9 aD (r.aj) w own H (by first|omega|assumption|(simp;done)|(simp;omega))) rfl) fun z1=>?_
    refine R.q (q.zq (cap:=[.pointer (some ⟨b5,0,none⟩)]) rfl rfl) rfl<|?_
    refine R.s (B':=(fun aG:Value=>[ah.row 88 aG ((r.aj.filter (fun x => !(fun (x:ak)=>decide (x.ID∈(dv (((ap r p).1).ID) r.aj))) x)):List ak),ah.box b5 [v1] 60,ah.row 3 v1 ((dv (((ap r p).1).ID) r.aj):List Int),ah.box b4 [.int .i64 (((ap r p).1).ID),.int .i64 (((ap r p).1).ai),.int .i64 (((ap r p).1).Rights),.int .i64 (((ap r p).1).ar),.int .i64 (((ap r p).1).From)] 88,ah.box b3 [.slice none 0 0,.slice none 0 0,.slice none 0 0,.slice none 0 0,.int .i64 0,.int .i64 0] 32,ah.box b2 [.int .i64 p.ag,.int .i64 p.Slot] 39,ah.box b1 [aD,az,aC,aB,.int .i64 r.ae,.int .i64 r.af] 32,ah.held w own])) (F':=(fun aG:Value=>[ah.ls aD (r.aj:List ak),ah.ls az (r.Things:List ai),ah.ls aC (r.Held:List Held),ah.ls aB (r.Notes:List Note)])) rfl (s.bA (B0:=[ah.row 88 z1 (r.aj:List ak)]) (Br:=[ah.box b5 [v1] 60,ah.row 3 v1 ((dv (((ap r p).1).ID) r.aj):List Int),ah.box b4 [.int .i64 (((ap r p).1).ID),.int .i64 (((ap r p).1).ai),.int .i64 (((ap r p).1).Rights),.int .i64 (((ap r p).1).ar),.int .i64 (((ap r p).1).From)] 88,ah.box b3 [.slice none 0 0,.slice none 0 0,.slice none 0 0,.slice none 0 0,.int .i64 0,.int .i64 0] 32,ah.box b2 [.int .i64 p.ag,.int .i64 p.Slot] 39,ah.box b1 [aD,az,aC,aB,.int .i64 r.ae,.int .i64 r.af] 32,ah.held w own]) (F0:=[]) [0,1,2,3,4,5,6,7] [] (fun aG:Value=>aG) (fun aG:Value=>[ah.row 88 aG ((r.aj.filter (fun x => !(fun (x:ak)=>decide (x.ID∈(dv (((ap r p).1).ID) r.aj))) x)):List ak)]) (fun aG:Value=>[]) rfl rfl rfl Aq rfl rfl (fun w own hw H=>mB z1 (r.aj) (fun (x:ak)=>decide (x.ID∈(dv (((ap r p).1).ID) r.aj))) _ _ Ar w own H (fun W x hU=>nY x _ ((dv (((ap r p).1).ID) r.aj)) _ W (hw.m8 1 0 rfl rfl (by decide) hU) (Own.sl (hw.m8 2 0 rfl rfl (by decide) hU)) ) (by first|omega|assumption|(simp;done)|(simp;omega))) rfl) fun z2=>?_
    refine R.q (q.aX (off':=0) rfl aY rfl) rfl<|?_
    refine R.s rfl (s.eH (us:=[z2]) (cs':=[z2,az,aC,aB,.int .i64 r.ae,.int .i64 r.af]) 6 _ rfl rfl rfl (fun w hw=>Sl.cr ((fun _=>Wd.row 0 rfl) w hw)) (.inr ⟨bq,rfl⟩) (fun w hw=>(ao (Sl.one ((fun _=>Wd.row 0 rfl) w hw)) aO)) rfl rfl rfl) fun _=>?_
    refine R.nil ?_
    refine R.reg rfl<|R.q (q.cF 6 rfl rfl av) rfl<|?_
    refine R.s (B':=(fun g_:Value×Value×Value×Value=>[ah.box b5 [v1] 60,ah.row 3 v1 ((dv (((ap r p).1).ID) r.aj):List Int),ah.box b4 [.int .i64 (((ap r p).1).ID),.int .i64 (((ap r p).1).ai),.int .i64 (((ap r p).1).Rights),.int .i64 (((ap r p).1).ar),.int .i64 (((ap r p).1).From)] 88,ah.box b3 [.slice none 0 0,.slice none 0 0,.slice none 0 0,.slice none 0 0,.int .i64 0,.int .i64 0] 32,ah.box b2 [.int .i64 p.ag,.int .i64 p.Slot] 39,ah.box b1 [z2,az,aC,aB,.int .i64 r.ae,.int .i64 r.af] 32,ah.held w own])) (F':=(fun g_:Value×Value×Value×Value=>[ah.ls g_.1 (((a8 (⟨r.aj.filter (fun x => !(fun (x:ak)=>decide (x.ID∈(dv (((ap r p).1).ID) r.aj))) x),r.Things,r.Held,r.Notes,r.ae,r.af⟩:au))).aj:List ak),ah.ls g_.2.1 (((a8 (⟨r.aj.filter (fun x => !(fun (x:ak)=>decide (x.ID∈(dv (((ap r p).1).ID) r.aj))) x),r.Things,r.Held,r.Notes,r.ae,r.af⟩:au))).Things:List ai),ah.ls g_.2.2.1 (((a8 (⟨r.aj.filter (fun x => !(fun (x:ak)=>decide (x.ID∈(dv (((ap r p).1).ID) r.aj))) x),r.Things,r.Held,r.Notes,r.ae,r.af⟩:au))).Held:List Held),ah.ls g_.2.2.2 (((a8 (⟨r.aj.filter (fun x => !(fun (x:ak)=>decide (x.ID∈(dv (((ap r p).1).ID) r.aj))) x),r.Things,r.Held,r.Notes,r.ae,r.af⟩:au))).Notes:List Note),ah.ls z2 (r.aj.filter (fun x => !(fun (x:ak)=>decide (x.ID∈(dv (((ap r p).1).ID) r.aj))) x):List ak),ah.ls aD (r.aj:List ak),ah.ls az (r.Things:List ai),ah.ls aC (r.Held:List Held),ah.ls aB (r.Notes:List Note)])) rfl (s.pre (B2:=[ah.box b5 [v1] 60,ah.row 3 v1 ((dv (((ap r p).1).ID) r.aj):List Int),ah.box b4 [.int .i64 (((ap r p).1).ID),.int .i64 (((ap r p).1).ai),.int .i64 (((ap r p).1).Rights),.int .i64 (((ap r p).1).ar),.int .i64 (((ap r p).1).From)] 88,ah.box b3 [.slice none 0 0,.slice none 0 0,.slice none 0 0,.slice none 0 0,.int .i64 0,.int .i64 0] 32,ah.box b2 [.int .i64 p.ag,.int .i64 p.Slot] 39,ah.box b1 [z2,az,aC,aB,.int .i64 r.ae,.int .i64 r.af] 32,ah.held w own]) (F2:=[ah.ls z2 (r.aj.filter (fun x => !(fun (x:ak)=>decide (x.ID∈(dv (((ap r p).1).ID) r.aj))) x):List ak),ah.ls aD (r.aj:List ak),ah.ls az (r.Things:List ai),ah.ls aC (r.Held:List Held),ah.ls aB (r.Notes:List Note)]) (fun _ hw=>hw.dh 0 _ rfl rfl) (s.bA (B0:=[]) (Br:=[ah.box b5 [v1] 60,ah.row 3 v1 ((dv (((ap r p).1).ID) r.aj):List Int),ah.box b4 [.int .i64 (((ap r p).1).ID),.int .i64 (((ap r p).1).ai),.int .i64 (((ap r p).1).Rights),.int .i64 (((ap r p).1).ar),.int .i64 (((ap r p).1).From)] 88,ah.box b3 [.slice none 0 0,.slice none 0 0,.slice none 0 0,.slice none 0 0,.int .i64 0,.int .i64 0] 32,ah.box b2 [.int .i64 p.ag,.int .i64 p.Slot] 39,ah.box b1 [z2,az,aC,aB,.int .i64 r.ae,.int .i64 r.af] 32,ah.held w own]) (F0:=[ah.ls z2 (r.aj.filter (fun x => !(fun (x:ak)=>decide (x.ID∈(dv (((ap r p).1).ID) r.aj))) x):List ak),ah.ls az (r.Things:List ai),ah.ls aC (r.Held:List Held),ah.ls aB (r.Notes:List Note)]) [0,1,2,3,4,5,6] [0,2,3,4] (fun g_:Value×Value×Value×Value => .agg #[g_.1,g_.2.1,g_.2.2.1,g_.2.2.2,.int .i64 (((a8 (⟨r.aj.filter (fun x => !(fun (x:ak)=>decide (x.ID∈(dv (((ap r p).1).ID) r.aj))) x),r.Things,r.Held,r.Notes,r.ae,r.af⟩:au))).ae),.int .i64 (((a8 (⟨r.aj.filter (fun x => !(fun (x:ak)=>decide (x.ID∈(dv (((ap r p).1).ID) r.aj))) x),r.Things,r.Held,r.Notes,r.ae,r.af⟩:au))).af)]) (fun g_:Value×Value×Value×Value=>[]) (fun g_:Value×Value×Value×Value=>[ah.ls g_.1 (((a8 (⟨r.aj.filter (fun x => !(fun (x:ak)=>decide (x.ID∈(dv (((ap r p).1).ID) r.aj))) x),r.Things,r.Held,r.Notes,r.ae,r.af⟩:au))).aj:List ak),ah.ls g_.2.1 (((a8 (⟨r.aj.filter (fun x => !(fun (x:ak)=>decide (x.ID∈(dv (((ap r p).1).ID) r.aj))) x),r.Things,r.Held,r.Notes,r.ae,r.af⟩:au))).Things:List ai),ah.ls g_.2.2.1 (((a8 (⟨r.aj.filter (fun x => !(fun (x:ak)=>decide (x.ID∈(dv (((ap r p).1).ID) r.aj))) x),r.Things,r.Held,r.Notes,r.ae,r.af⟩:au))).Held:List Held),ah.ls g_.2.2.2 (((a8 (⟨r.aj.filter (fun x => !(fun (x:ak)=>decide (x.ID∈(dv (((ap r p).1).ID) r.aj))) x),r.Things,r.Held,r.Notes,r.ae,r.af⟩:au))).Notes:List Note)]) rfl rfl rfl uD rfl rfl (fun w own hw H=>by have Ca:=kz z2 az aC aB ((⟨r.aj.filter (fun x => !(fun (x:ak)=>decide (x.ID∈(dv (((ap r p).1).ID) r.aj))) x),r.Things,r.Held,r.Notes,r.ae,r.af⟩:au)) w own H (by assumption);exact Ca) rfl)) ?_
    rintro ⟨z3,z4,z5,z6⟩
    dsimp only
    refine R.s rfl (s.eH (us:=[z3,z4,z5,z6,.int .i64 ((a8 (⟨r.aj.filter (fun x => !(fun (x:ak)=>decide (x.ID∈(dv (((ap r p).1).ID) r.aj))) x),r.Things,r.Held,r.Notes,r.ae,r.af⟩:au)).ae),.int .i64 ((a8 (⟨r.aj.filter (fun x => !(fun (x:ak)=>decide (x.ID∈(dv (((ap r p).1).ID) r.aj))) x),r.Things,r.Held,r.Notes,r.ae,r.af⟩:au)).af)]) (cs':=[z3,z4,z5,z6,.int .i64 ((a8 (⟨r.aj.filter (fun x => !(fun (x:ak)=>decide (x.ID∈(dv (((ap r p).1).ID) r.aj))) x),r.Things,r.Held,r.Notes,r.ae,r.af⟩:au)).ae),.int .i64 ((a8 (⟨r.aj.filter (fun x => !(fun (x:ak)=>decide (x.ID∈(dv (((ap r p).1).ID) r.aj))) x),r.Things,r.Held,r.Notes,r.ae,r.af⟩:au)).af)]) 3 _ rfl rfl rfl (fun _ _=>rfl) (.inl av) (fun w hw=>(ao (Sl.one ((fun _=>Wd.aS 0 rfl) w hw)) (ao (Sl.one ((fun _=>Wd.aS 1 rfl) w hw)) (ao (Sl.one ((fun _=>Wd.aS 2 rfl) w hw)) (ao (Sl.one ((fun _=>Wd.aS 3 rfl) w hw)) (ao rfl (ao rfl aO))))))) rfl rfl rfl) fun _=>?_
    refine R.u 1 rfl<|R.nil ?_
    have hz:bN r p=((a8 (⟨r.aj.filter (fun x => !(fun (x:ak)=>decide (x.ID∈(dv (((ap r p).1).ID) r.aj))) x),r.Things,r.Held,r.Notes,r.ae,r.af⟩:au)),0):=by (unfold bN;(repeat' split) <;> first|rfl|(exfalso;omega)|(simp_all;done))
    rw [hz]
    exact R.w2 (z3,z4,z5,z6) [6] [0,1,2,3] rfl Tryz.results34 (RV.cell 3 rfl rfl av) (RV.tmp rfl) rfl rfl rfl (cx rfl (gj rfl))
  ·
    refine R.q (q.fb rfl rfl Tryz.underlying35 (by omega)) rfl<|R.nil ?_
    refine R.aE rfl rfl ?_
    refine R.reg rfl<|R.q (q.build (cs:=[.slice none 0 0,.slice none 0 0,.slice none 0 0,.slice none 0 0,.int .i64 0,.int .i64 0]) cJ rfl rfl) rfl<|R.u 1 rfl<|?_
    refine R.s rfl (s.st (us:=[.slice none 0 0,.slice none 0 0,.slice none 0 0,.slice none 0 0,.int .i64 0,.int .i64 0]) (cs':=[.slice none 0 0,.slice none 0 0,.slice none 0 0,.slice none 0 0,.int .i64 0,.int .i64 0]) 1 _ rfl rfl rfl rfl (.inl av) rfl rfl rfl rfl) fun _=>?_
    refine R.u 1 rfl<|R.nil ?_
    refine R.mp (fun _ hw=>hw.aU (α:=ak)) ?_
    refine R.mp (fun _ hw=>hw.aU (α:=ai)) ?_
    refine R.mp (fun _ hw=>hw.aU (α:=Held)) ?_
    refine R.mp (fun _ hw=>hw.aU (α:=Note)) ?_
    have hz:bN r p=((⟨[],[],[],[],0,0⟩:au),(ap r p).2):=by (unfold bN;(repeat' split) <;> first|rfl|(exfalso;omega)|(simp_all;done))
    rw [hz]
    exact R.w2 ((.slice none 0 0),(.slice none 0 0),(.slice none 0 0),(.slice none 0 0)) [4] [3,2,1,0] rfl Tryz.results34 (RV.cell 1 rfl rfl av) (RV.tmp rfl) rfl rfl rfl (cx rfl rfl)
theorem nz (aD az aC aB:Value)(r:au)(p:Place)(kind:Int)(rights:Int)(w:World)(nV:Sl w aD r.aj)(pj:Sl w az r.Things)(qZ:Sl w aC r.Held)(wU:Sl w aB r.Notes)(hk:Ok r)(hr:0≤rights∧rights≤7):Calls Tryz.prog 80 #[.agg #[aD,az,aC,aB,.int .i64 r.ae,.int .i64 r.af],.agg #[.int .i64 p.ag,.int .i64 p.Slot],.int .i64 kind,.int .i64 rights] w fun e w'=>e = .returned (.tuple #[ak.val ((ay r p kind rights).1),.int .i64 ((ay r p kind rights).2.1),eG ((ay r p kind rights).2.2)])∧Ext w w':=by
  have bw:=hk.wl;have bt:=hk.tl;have bh:=hk.hl;have bn:=hk.nl;have wi:=hk.w0;have wj:=hk.w1;have wk:=hk.t0;have wm:=hk.t1
  refine R.enter (n:=51) (vs:=[.agg #[aD,az,aC,aB,.int .i64 r.ae,.int .i64 r.af],.agg #[.int .i64 p.ag,.int .i64 p.Slot],.int .i64 kind,.int .i64 rights]) [] [(0,.agg #[aD,az,aC,aB,.int .i64 r.ae,.int .i64 r.af]),(1,.agg #[.int .i64 p.ag,.int .i64 p.Slot]),(2,.int .i64 kind),(3,.int .i64 rights)] Tryz.func80 rfl rfl rfl rfl ?_
  refine R.reg rfl<|?_
  refine R.s rfl (s.box (cs:=[aD,az,aC,aB,.int .i64 r.ae,.int .i64 r.af]) rfl rfl rfl) fun b1=>?_
  refine R.s rfl (s.box (cs:=[.int .i64 p.ag,.int .i64 p.Slot]) rfl rfl rfl) fun b2=>?_
  refine R.s rfl (s.alloc (cs:=[.int .i64 0,.int .i64 0,.int .i64 0,.int .i64 0,.int .i64 0]) br rfl rfl) fun b3=>?_
  refine R.u 2 rfl<|R.nil ?_
  refine R.reg rfl<|R.q (q.cF 2 rfl rfl av) rfl<|R.q (q.cF 1 rfl rfl bk) rfl<|R.c (q.call ng rfl rfl (fun w hw=>(i6 _ _ _ _ (r) (p) w ((fun _=>Wd.old nV) w hw) ((fun _=>Wd.old pj) w hw) ((fun _=>Wd.old qZ) w hw) ((fun _=>Wd.old wU) w hw) (by assumption)))) rfl<|R.u 3 rfl<|?_
  refine R.s rfl (s.alloc (cs:=[.int .i64 0,.int .i64 0,.int .i64 0,.int .i64 0,.int .i64 0]) br rfl rfl) fun b4=>?_
  refine R.s rfl (s.st (us:=[.int .i64 (((ap r p).1).ID),.int .i64 (((ap r p).1).ai),.int .i64 (((ap r p).1).Rights),.int .i64 (((ap r p).1).ar),.int .i64 (((ap r p).1).From)]) (cs':=[.int .i64 (((ap r p).1).ID),.int .i64 (((ap r p).1).ai),.int .i64 (((ap r p).1).Rights),.int .i64 (((ap r p).1).ar),.int .i64 (((ap r p).1).From)]) 0 _ rfl rfl rfl rfl (.inl aN) rfl rfl rfl rfl) fun _=>?_
  refine R.u 1 rfl<|R.nil ?_
  refine R.reg rfl<|R.u 1 rfl<|?_
  by_cases h1:(ap r p).2=0
  ·
    have CG:=hk.get h1
    refine R.q (q.fa rfl rfl Tryz.underlying35 (by omega)) rfl<|R.nil ?_
    refine R.aH rfl rfl ?_
    refine R.reg rfl<|R.q (q.aX (off':=1) rfl bI rfl) rfl<|R.q (q.ld 3 rfl rfl cu rfl) rfl<|R.q (q.zq (cap:=[.pointer (some ⟨b4,0,none⟩)]) rfl rfl) rfl<|?_
    rcases fB (fun (t:ai)=>t.ID==((ap r p).1).ai) r.Things with ⟨du,kx⟩ | ⟨gQ,cR,du,dZ,fr,f8,Bi⟩
    ·
      refine R.c (q.call o0 rfl rfl (fun w hw=>(cv (congrArg (Value.int .i64) du) (eJ _ (r.Things) (fun (t:ai)=>t.ID==((ap r p).1).ai) _ _ uI w ((fun _=>Wd.old pj) w hw) (fun W t hW=>nx t (((ap r p).1)) _ W (kU (hw.b 0 rfl) hW) ) )))) rfl<|R.u 1 rfl<|R.nil ?_
      refine R.reg rfl<|R.u 1 rfl<|R.q (q.lss (b:=true) rfl rfl (by decide)) rfl<|R.u 10 rfl<|R.nil ?_
      refine R.aE rfl rfl ?_
      refine R.reg rfl<|R.q (q.build (cs:=[.int .i64 0,.int .i64 0,.int .i64 0,.int .i64 0,.int .i64 0]) gk rfl rfl) rfl<|R.q (q.iface rfl bz) rfl<|?_
      refine R.s rfl (s.st (us:=[.int .i64 0,.int .i64 0,.int .i64 0,.int .i64 0,.int .i64 0]) (cs':=[.int .i64 0,.int .i64 0,.int .i64 0,.int .i64 0,.int .i64 0]) 1 _ rfl rfl rfl rfl (.inl aN) rfl rfl rfl rfl) fun _=>?_
      refine R.u 2 rfl<|R.nil ?_
      exact R.zK rfl Tryz.results80 (RV.cell 1 rfl rfl aN) (RV.tmp rfl) (RV.tmp rfl) (congrArg ak.val (show (⟨0,0,0,0,0⟩:ak)=(ay r p kind rights).1 from by (first|(rw [dI (by assumption)];first|done|rfl)|(rw [da (by assumption) kx];first|done|rfl)|(rw [dc (by assumption) dZ fr f8 (by assumption)];first|done|rfl)|(rw [cC (by assumption) dZ fr f8 (by assumption) (by assumption)];first|done|rfl)|(rw [ew (by assumption) dZ fr f8 (by assumption) (by assumption)];first|done|rfl)))) (rI (by (first|(rw [dI (by assumption)];first|done|rfl)|(rw [da (by assumption) kx];first|done|rfl)|(rw [dc (by assumption) dZ fr f8 (by assumption)];first|done|rfl)|(rw [cC (by assumption) dZ fr f8 (by assumption) (by assumption)];first|done|rfl)|(rw [ew (by assumption) dZ fr f8 (by assumption) (by assumption)];first|done|rfl)))) (dC (by decide) (by (first|(rw [dI (by assumption)];first|done|rfl)|(rw [da (by assumption) kx];first|done|rfl)|(rw [dc (by assumption) dZ fr f8 (by assumption)];first|done|rfl)|(rw [cC (by assumption) dZ fr f8 (by assumption) (by assumption)];first|done|rfl)|(rw [ew (by assumption) dZ fr f8 (by assumption) (by assumption)];first|done|rfl))))
    ·
      refine R.c (q.call o0 rfl rfl (fun w hw=>(cv (congrArg (Value.int .i64) du) (eJ _ (r.Things) (fun (t:ai)=>t.ID==((ap r p).1).ai) _ _ uI w ((fun _=>Wd.old pj) w hw) (fun W t hW=>nx t (((ap r p).1)) _ W (kU (hw.b 0 rfl) hW) ) )))) rfl<|R.u 1 rfl<|R.nil ?_
      refine R.reg rfl<|R.u 1 rfl<|R.q (q.lss rfl rfl (decide_eq_false (by omega))) rfl<|R.u 1 rfl<|R.qg rfl (q.aX (off':=1) rfl bI rfl) rfl<|R.qg rfl (q.ld 3 rfl rfl cu rfl) rfl<|R.u 1 rfl<|R.qg rfl (q.idx (i:=gQ) (fun _=>Wd.old pj) rfl rfl eQ rfl dZ) rfl<|R.qg rfl (q.iO (j':=1) (fun _=>Wd.old pj) dZ rfl ou rfl) rfl<|R.qg rfl (q.hZ (fun _=>Wd.old pj) dZ rfl aA rfl) rfl<|R.u 1 rfl<|?_
      by_cases h2:cR.Kind=kind
      ·
        refine R.qg rfl (q.neq rfl rfl (bne_eq_false_iff_eq.2 (by omega))) rfl<|R.u 1 rfl<|R.nil ?_
        refine R.aH rfl rfl ?_
        refine R.reg rfl<|R.q (q.aX (off':=2) rfl fy rfl) rfl<|R.q (q.ld 0 rfl rfl aA rfl) rfl<|R.u 1 rfl<|?_
        rcases Bool.eq_false_or_eq_true (eY (((ap r p).1).Rights) rights) with h3|h3
        ·
          refine R.c (q.call lX rfl rfl (fun w hw=>(cv (congrArg Value.bool h3) (eh (((ap r p).1).Rights) (rights) w  (by omega) (by omega))))) rfl<|R.u 1 rfl<|R.nil ?_
          refine R.aH rfl rfl ?_
          refine R.reg rfl<|R.q (q.cF 0 rfl rfl aN) rfl<|R.u 1 rfl<|?_
          refine R.s rfl (s.st (us:=[.int .i64 (((ap r p).1).ID),.int .i64 (((ap r p).1).ai),.int .i64 (((ap r p).1).Rights),.int .i64 (((ap r p).1).ar),.int .i64 (((ap r p).1).From)]) (cs':=[.int .i64 (((ap r p).1).ID),.int .i64 (((ap r p).1).ai),.int .i64 (((ap r p).1).Rights),.int .i64 (((ap r p).1).ar),.int .i64 (((ap r p).1).From)]) 1 _ rfl rfl rfl rfl (.inl aN) rfl rfl rfl rfl) fun _=>?_
          refine R.u 2 rfl<|R.nil ?_
          exact R.zK rfl Tryz.results80 (RV.cell 1 rfl rfl aN) (RV.tmp rfl) (RV.tmp rfl) (congrArg ak.val (show ((ap r p).1)=(ay r p kind rights).1 from by (first|(rw [dI (by assumption)];first|done|rfl)|(rw [da (by assumption) kx];first|done|rfl)|(rw [dc (by assumption) dZ fr f8 (by assumption)];first|done|rfl)|(rw [cC (by assumption) dZ fr f8 (by assumption) (by assumption)];first|done|rfl)|(rw [ew (by assumption) dZ fr f8 (by assumption) (by assumption)];first|done|rfl)))) (rI (by (first|(rw [dI (by assumption)];first|done|rfl)|(rw [da (by assumption) kx];first|done|rfl)|(rw [dc (by assumption) dZ fr f8 (by assumption)];first|done|rfl)|(rw [cC (by assumption) dZ fr f8 (by assumption) (by assumption)];first|done|rfl)|(rw [ew (by assumption) dZ fr f8 (by assumption) (by assumption)];first|done|rfl)))) (gj (by (first|(rw [dI (by assumption)];first|done|rfl)|(rw [da (by assumption) kx];first|done|rfl)|(rw [dc (by assumption) dZ fr f8 (by assumption)];first|done|rfl)|(rw [cC (by assumption) dZ fr f8 (by assumption) (by assumption)];first|done|rfl)|(rw [ew (by assumption) dZ fr f8 (by assumption) (by assumption)];first|done|rfl))))
        ·
          refine R.c (q.call lX rfl rfl (fun w hw=>(cv (congrArg Value.bool h3) (eh (((ap r p).1).Rights) (rights) w  (by omega) (by omega))))) rfl<|R.u 1 rfl<|R.nil ?_
          refine R.aE rfl rfl ?_
          refine R.reg rfl<|R.q (q.build (cs:=[.int .i64 0,.int .i64 0,.int .i64 0,.int .i64 0,.int .i64 0]) gk rfl rfl) rfl<|R.q (q.iface rfl bz) rfl<|?_
          refine R.s rfl (s.st (us:=[.int .i64 0,.int .i64 0,.int .i64 0,.int .i64 0,.int .i64 0]) (cs':=[.int .i64 0,.int .i64 0,.int .i64 0,.int .i64 0,.int .i64 0]) 1 _ rfl rfl rfl rfl (.inl aN) rfl rfl rfl rfl) fun _=>?_
          refine R.u 2 rfl<|R.nil ?_
          exact R.zK rfl Tryz.results80 (RV.cell 1 rfl rfl aN) (RV.tmp rfl) (RV.tmp rfl) (congrArg ak.val (show (⟨0,0,0,0,0⟩:ak)=(ay r p kind rights).1 from by (first|(rw [dI (by assumption)];first|done|rfl)|(rw [da (by assumption) kx];first|done|rfl)|(rw [dc (by assumption) dZ fr f8 (by assumption)];first|done|rfl)|(rw [cC (by assumption) dZ fr f8 (by assumption) (by assumption)];first|done|rfl)|(rw [ew (by assumption) dZ fr f8 (by assumption) (by assumption)];first|done|rfl)))) (rI (by (first|(rw [dI (by assumption)];first|done|rfl)|(rw [da (by assumption) kx];first|done|rfl)|(rw [dc (by assumption) dZ fr f8 (by assumption)];first|done|rfl)|(rw [cC (by assumption) dZ fr f8 (by assumption) (by assumption)];first|done|rfl)|(rw [ew (by assumption) dZ fr f8 (by assumption) (by assumption)];first|done|rfl)))) (dC (by decide) (by (first|(rw [dI (by assumption)];first|done|rfl)|(rw [da (by assumption) kx];first|done|rfl)|(rw [dc (by assumption) dZ fr f8 (by assumption)];first|done|rfl)|(rw [cC (by assumption) dZ fr f8 (by assumption) (by assumption)];first|done|rfl)|(rw [ew (by assumption) dZ fr f8 (by assumption) (by assumption)];first|done|rfl))))
      ·
        refine R.qg rfl (q.neq rfl rfl (bne_iff_ne.2 (by omega))) rfl<|R.u 1 rfl<|R.nil ?_
        refine R.aE rfl rfl ?_
        refine R.reg rfl<|R.q (q.build (cs:=[.int .i64 0,.int .i64 0,.int .i64 0,.int .i64 0,.int .i64 0]) gk rfl rfl) rfl<|R.q (q.iface rfl bz) rfl<|?_
        refine R.s rfl (s.st (us:=[.int .i64 0,.int .i64 0,.int .i64 0,.int .i64 0,.int .i64 0]) (cs':=[.int .i64 0,.int .i64 0,.int .i64 0,.int .i64 0,.int .i64 0]) 1 _ rfl rfl rfl rfl (.inl aN) rfl rfl rfl rfl) fun _=>?_
        refine R.u 2 rfl<|R.nil ?_
        exact R.zK rfl Tryz.results80 (RV.cell 1 rfl rfl aN) (RV.tmp rfl) (RV.tmp rfl) (congrArg ak.val (show (⟨0,0,0,0,0⟩:ak)=(ay r p kind rights).1 from by (first|(rw [dI (by assumption)];first|done|rfl)|(rw [da (by assumption) kx];first|done|rfl)|(rw [dc (by assumption) dZ fr f8 (by assumption)];first|done|rfl)|(rw [cC (by assumption) dZ fr f8 (by assumption) (by assumption)];first|done|rfl)|(rw [ew (by assumption) dZ fr f8 (by assumption) (by assumption)];first|done|rfl)))) (rI (by (first|(rw [dI (by assumption)];first|done|rfl)|(rw [da (by assumption) kx];first|done|rfl)|(rw [dc (by assumption) dZ fr f8 (by assumption)];first|done|rfl)|(rw [cC (by assumption) dZ fr f8 (by assumption) (by assumption)];first|done|rfl)|(rw [ew (by assumption) dZ fr f8 (by assumption) (by assumption)];first|done|rfl)))) (dC (by decide) (by (first|(rw [dI (by assumption)];first|done|rfl)|(rw [da (by assumption) kx];first|done|rfl)|(rw [dc (by assumption) dZ fr f8 (by assumption)];first|done|rfl)|(rw [cC (by assumption) dZ fr f8 (by assumption) (by assumption)];first|done|rfl)|(rw [ew (by assumption) dZ fr f8 (by assumption) (by assumption)];first|done|rfl))))
  ·
    refine R.q (q.fb rfl rfl Tryz.underlying35 (by omega)) rfl<|R.nil ?_
    refine R.aE rfl rfl ?_
    refine R.reg rfl<|R.q (q.build (cs:=[.int .i64 0,.int .i64 0,.int .i64 0,.int .i64 0,.int .i64 0]) gk rfl rfl) rfl<|R.u 1 rfl<|?_
    refine R.s rfl (s.st (us:=[.int .i64 0,.int .i64 0,.int .i64 0,.int .i64 0,.int .i64 0]) (cs':=[.int .i64 0,.int .i64 0,.int .i64 0,.int .i64 0,.int .i64 0]) 1 _ rfl rfl rfl rfl (.inl aN) rfl rfl rfl rfl) fun _=>?_
    refine R.u 2 rfl<|R.nil ?_
    exact R.zK rfl Tryz.results80 (RV.cell 1 rfl rfl aN) (RV.tmp rfl) (RV.tmp rfl) (congrArg ak.val (show (⟨0,0,0,0,0⟩:ak)=(ay r p kind rights).1 from by (first|(rw [dI (by assumption)];first|done|rfl)|(rw [da (by assumption) kx];first|done|rfl)|(rw [dc (by assumption) dZ fr f8 (by assumption)];first|done|rfl)|(rw [cC (by assumption) dZ fr f8 (by assumption) (by assumption)];first|done|rfl)|(rw [ew (by assumption) dZ fr f8 (by assumption) (by assumption)];first|done|rfl)))) (rI (by (first|(rw [dI (by assumption)];first|done|rfl)|(rw [da (by assumption) kx];first|done|rfl)|(rw [dc (by assumption) dZ fr f8 (by assumption)];first|done|rfl)|(rw [cC (by assumption) dZ fr f8 (by assumption) (by assumption)];first|done|rfl)|(rw [ew (by assumption) dZ fr f8 (by assumption) (by assumption)];first|done|rfl)))) (rE (by (first|(rw [dI (by assumption)];first|done|rfl)|(rw [da (by assumption) kx];first|done|rfl)|(rw [dc (by assumption) dZ fr f8 (by assumption)];first|done|rfl)|(rw [cC (by assumption) dZ fr f8 (by assumption) (by assumption)];first|done|rfl)|(rw [ew (by assumption) dZ fr f8 (by assumption) (by assumption)];first|done|rfl))))
theorem q8 (aD az aC aB:Value)(r:au)(p:Place)(d:ByteArray)(w:World)(own:List Nat)(H:Wd w (blks []++own) ([]++[ah.held w own]) [ah.ls aD (r.aj:List ak),ah.ls az (r.Things:List ai),ah.ls aC (r.Held:List Held),ah.ls aB (r.Notes:List Note)] w)(hk:Ok r):Calls Tryz.prog 35 #[.agg #[aD,az,aC,aB,.int .i64 r.ae,.int .i64 r.af],.agg #[.int .i64 p.ag,.int .i64 p.Slot],.string d] w fun e w' => ∃z:Value×Value×Value×Value,e = .returned (.tuple #[.agg #[z.1,z.2.1,z.2.2.1,z.2.2.2,.int .i64 ((((bU r p d)).1).ae),.int .i64 ((((bU r p d)).1).af)],eG (((bU r p d)).2)])∧Wd w (blks []++own) ([]++[ah.held w own]) [ah.ls z.1 ((((bU r p d)).1).aj:List ak),ah.ls z.2.1 ((((bU r p d)).1).Things:List ai),ah.ls z.2.2.1 ((((bU r p d)).1).Held:List Held),ah.ls z.2.2.2 ((((bU r p d)).1).Notes:List Note)] w':=by
  have dF:=H.cL 0 rfl
  have cX:=H.cL 1 rfl
  have ej:=H.cL 2 rfl
  have dG:=H.cL 3 rfl
  have bw:=hk.wl;have bt:=hk.tl;have bh:=hk.hl;have bn:=hk.nl;have wi:=hk.w0;have wj:=hk.w1;have wk:=hk.t0;have wm:=hk.t1
  refine R.cQ (n:=38) (vs:=[.agg #[aD,az,aC,aB,.int .i64 r.ae,.int .i64 r.af],.agg #[.int .i64 p.ag,.int .i64 p.Slot],.string d]) (B:=[ah.held w own]) [(0,.agg #[aD,az,aC,aB,.int .i64 r.ae,.int .i64 r.af]),(1,.agg #[.int .i64 p.ag,.int .i64 p.Slot]),(2,.string d)] Tryz.func35 rfl rfl rfl rfl H ?_
  refine R.reg rfl<|?_
  refine R.s rfl (s.box (cs:=[aD,az,aC,aB,.int .i64 r.ae,.int .i64 r.af]) rfl rfl rfl) fun b1=>?_
  refine R.s rfl (s.box (cs:=[.int .i64 p.ag,.int .i64 p.Slot]) rfl rfl rfl) fun b2=>?_
  refine R.s rfl (s.alloc (cs:=[.slice none 0 0,.slice none 0 0,.slice none 0 0,.slice none 0 0,.int .i64 0,.int .i64 0]) cj rfl rfl) fun b3=>?_
  refine R.u 1 rfl<|R.nil ?_
  refine R.reg rfl<|R.q (q.cF 2 rfl rfl av) rfl<|R.q (q.cF 1 rfl rfl bk) rfl<|R.c (q.call uE rfl rfl (fun w hw=>(nz _ _ _ _ (r) (p) (1) (2) w ((fun _=>Wd.aS 0 rfl) w hw) ((fun _=>Wd.aS 1 rfl) w hw) ((fun _=>Wd.aS 2 rfl) w hw) ((fun _=>Wd.aS 3 rfl) w hw) (by assumption) (by omega)))) rfl<|R.u 4 rfl<|?_
  refine R.s rfl (s.alloc (cs:=[.int .i64 0,.int .i64 0,.int .i64 0,.int .i64 0,.int .i64 0]) br rfl rfl) fun b4=>?_
  refine R.s rfl (s.st (us:=[.int .i64 (((ay r p 1 2).1).ID),.int .i64 (((ay r p 1 2).1).ai),.int .i64 (((ay r p 1 2).1).Rights),.int .i64 (((ay r p 1 2).1).ar),.int .i64 (((ay r p 1 2).1).From)]) (cs':=[.int .i64 (((ay r p 1 2).1).ID),.int .i64 (((ay r p 1 2).1).ai),.int .i64 (((ay r p 1 2).1).Rights),.int .i64 (((ay r p 1 2).1).ar),.int .i64 (((ay r p 1 2).1).From)]) 0 _ rfl rfl rfl rfl (.inl aN) rfl rfl rfl rfl) fun _=>?_
  refine R.u 2 rfl<|R.nil ?_
  refine R.reg rfl<|R.u 1 rfl<|?_
  by_cases h1:(ay r p 1 2).2.2=0
  ·
    obtain ⟨m1,m2,m3,i,ix,ik,ih,ii,id,ib⟩:=jX h1;have iB:=(List.getElem?_eq_some_iff.1 ih).1
    refine R.q (q.fa rfl rfl Tryz.underlying35 (by omega)) rfl<|R.nil ?_
    refine R.aH rfl rfl ?_
    refine R.reg rfl<|R.u 1 rfl<|R.q (q.kr rfl Tryz.underlying9) rfl<|?_
    by_cases h2:8<d.size
    ·
      refine R.q (q.gtr rfl rfl (decide_eq_true (by omega))) rfl<|R.nil ?_
      refine R.aE rfl rfl ?_
      refine R.reg rfl<|R.q (q.build (cs:=[.slice none 0 0,.slice none 0 0,.slice none 0 0,.slice none 0 0,.int .i64 0,.int .i64 0]) cJ rfl rfl) rfl<|R.q (q.iface rfl bz) rfl<|?_
      refine R.s rfl (s.st (us:=[.slice none 0 0,.slice none 0 0,.slice none 0 0,.slice none 0 0,.int .i64 0,.int .i64 0]) (cs':=[.slice none 0 0,.slice none 0 0,.slice none 0 0,.slice none 0 0,.int .i64 0,.int .i64 0]) 1 _ rfl rfl rfl rfl (.inl av) rfl rfl rfl rfl) fun _=>?_
      refine R.u 1 rfl<|R.nil ?_
      refine R.mp (fun _ hw=>hw.aU (α:=ak)) ?_
      refine R.mp (fun _ hw=>hw.aU (α:=ai)) ?_
      refine R.mp (fun _ hw=>hw.aU (α:=Held)) ?_
      refine R.mp (fun _ hw=>hw.aU (α:=Note)) ?_
      have hz:bU r p d=((⟨[],[],[],[],0,0⟩:au),2):=by (unfold bU ey;(repeat' split) <;> first|rfl|(exfalso;omega)|(simp_all;done))
      rw [hz]
      exact R.w2 ((.slice none 0 0),(.slice none 0 0),(.slice none 0 0),(.slice none 0 0)) [4] [3,2,1,0] rfl Tryz.results35 (RV.cell 1 rfl rfl av) (RV.tmp rfl) rfl rfl rfl (cx rfl (dC (by decide) rfl))
    ·
      refine R.q (q.gtr rfl rfl (decide_eq_false (by omega))) rfl<|R.nil ?_
      refine R.aH rfl rfl ?_
      refine R.reg rfl<|R.q (q.aX (off':=1) rfl bI rfl) rfl<|R.q (q.ld 3 rfl rfl cu rfl) rfl<|?_
      refine R.s (B':=(fun aG:Value=>[ah.row 62 aG (r.Things:List ai),ah.box b4 [.int .i64 (((ay r p 1 2).1).ID),.int .i64 (((ay r p 1 2).1).ai),.int .i64 (((ay r p 1 2).1).Rights),.int .i64 (((ay r p 1 2).1).ar),.int .i64 (((ay r p 1 2).1).From)] 88,ah.box b3 [.slice none 0 0,.slice none 0 0,.slice none 0 0,.slice none 0 0,.int .i64 0,.int .i64 0] 32,ah.box b2 [.int .i64 p.ag,.int .i64 p.Slot] 39,ah.box b1 [aD,az,aC,aB,.int .i64 r.ae,.int .i64 r.af] 32,ah.held w own])) (F':=(fun aG:Value=>[ah.ls aD (r.aj:List ak),ah.ls az (r.Things:List ai),ah.ls aC (r.Held:List Held),ah.ls aB (r.Notes:List Note)])) rfl (s.bA (B0:=[]) (Br:=[ah.box b4 [.int .i64 (((ay r p 1 2).1).ID),.int .i64 (((ay r p 1 2).1).ai),.int .i64 (((ay r p 1 2).1).Rights),.int .i64 (((ay r p 1 2).1).ar),.int .i64 (((ay r p 1 2).1).From)] 88,ah.box b3 [.slice none 0 0,.slice none 0 0,.slice none 0 0,.slice none 0 0,.int .i64 0,.int .i64 0] 32,ah.box b2 [.int .i64 p.ag,.int .i64 p.Slot] 39,ah.box b1 [aD,az,aC,aB,.int .i64 r.ae,.int .i64 r.af] 32,ah.held w own]) (F0:=[ah.ls az (r.Things:List ai)]) [0,1,2,3,4] [1] (fun aG:Value=>aG) (fun aG:Value=>[ah.row 62 aG (r.Things:List ai)]) (fun aG:Value=>[]) rfl rfl rfl sq rfl rfl (fun w own hw H=>fO az (r.Things) w own H (by first|omega|assumption|(simp;done)|(simp;omega))) rfl) fun z1=>?_
      refine R.q (q.aX (off':=1) rfl bI rfl) rfl<|?_
      refine R.s rfl (s.eH (us:=[z1]) (cs':=[aD,z1,aC,aB,.int .i64 r.ae,.int .i64 r.af]) 4 _ rfl rfl rfl (fun w hw=>Sl.cr ((fun _=>Wd.row 0 rfl) w hw)) (.inr ⟨cu,rfl⟩) (fun w hw=>(ao (Sl.one ((fun _=>Wd.row 0 rfl) w hw)) aO)) rfl rfl rfl) fun _=>?_
      refine R.nil ?_
      refine R.reg rfl<|R.q (q.aX (off':=1) rfl bI rfl) rfl<|R.q (q.ld 4 rfl rfl cu rfl) rfl<|R.u 2 rfl<|?_
      obtain ⟨x1,hx1⟩:∃z,r.Things[((ay r p 1 2).2.1).toNat]? = some z:=⟨_,List.getElem?_eq_getElem (by omega)⟩
      refine R.q (q.idx (i:=((ay r p 1 2).2.1).toNat) (fun _=>Wd.row 0 rfl) rfl rfl eQ (by omega) hx1) rfl<|R.q (q.iO (j':=2) (fun _=>Wd.row 0 rfl) hx1 rfl ov rfl) rfl<|?_
      refine R.s rfl (s.stP (o:=2) (z:=(⟨x1.ID,x1.Kind,d⟩:ai)) (us:=[.string d]) 0 _ rfl hx1 rfl rfl rfl rfl rfl (by simp [Value.oneCell']) (.inr ⟨cd,rfl⟩) rfl) fun _=>?_
      refine R.nil ?_
      refine R.reg rfl<|R.q (q.cF 4 rfl rfl av) rfl<|?_
      refine R.s rfl (s.eH (us:=[aD,z1,aC,aB,.int .i64 r.ae,.int .i64 r.af]) (cs':=[aD,z1,aC,aB,.int .i64 r.ae,.int .i64 r.af]) 2 _ rfl rfl rfl (fun _ _=>rfl) (.inl av) (fun w hw=>(ao (Sl.one ((fun _=>Wd.aS 0 rfl) w hw)) (ao (Sl.one ((fun _=>Wd.row 0 rfl) w hw)) (ao (Sl.one ((fun _=>Wd.aS 2 rfl) w hw)) (ao (Sl.one ((fun _=>Wd.aS 3 rfl) w hw)) (ao rfl (ao rfl aO))))))) rfl rfl rfl) fun _=>?_
      refine R.u 1 rfl<|R.nil ?_
      refine R.mp (B':=[ah.box b4 [.int .i64 (((ay r p 1 2).1).ID),.int .i64 (((ay r p 1 2).1).ai),.int .i64 (((ay r p 1 2).1).Rights),.int .i64 (((ay r p 1 2).1).ar),.int .i64 (((ay r p 1 2).1).From)] 88,ah.box b3 [aD,z1,aC,aB,.int .i64 r.ae,.int .i64 r.af] 32,ah.box b2 [.int .i64 p.ag,.int .i64 p.Slot] 39,ah.box b1 [aD,z1,aC,aB,.int .i64 r.ae,.int .i64 r.af] 32,ah.held w own]) (fun _ hw=>hw.dh 0 _ rfl rfl) ?_
      have hz:bU r p d=((⟨r.aj,(r.Things.set (((ay r p 1 2).2.1).toNat) (⟨x1.ID,x1.Kind,d⟩:ai)),r.Held,r.Notes,r.ae,r.af⟩:au),0):=by (unfold bU ey;(repeat' split) <;> first|rfl|(exfalso;omega)|(simp_all;done))
      rw [hz]
      exact R.w2 (aD,z1,aC,aB) [4] [1,0,3,4] rfl Tryz.results35 (RV.cell 1 rfl rfl av) (RV.tmp rfl) rfl rfl rfl (cx rfl (gj rfl))
  ·
    refine R.q (q.fb rfl rfl Tryz.underlying35 (by omega)) rfl<|R.nil ?_
    refine R.aE rfl rfl ?_
    refine R.reg rfl<|R.q (q.build (cs:=[.slice none 0 0,.slice none 0 0,.slice none 0 0,.slice none 0 0,.int .i64 0,.int .i64 0]) cJ rfl rfl) rfl<|R.u 1 rfl<|?_
    refine R.s rfl (s.st (us:=[.slice none 0 0,.slice none 0 0,.slice none 0 0,.slice none 0 0,.int .i64 0,.int .i64 0]) (cs':=[.slice none 0 0,.slice none 0 0,.slice none 0 0,.slice none 0 0,.int .i64 0,.int .i64 0]) 1 _ rfl rfl rfl rfl (.inl av) rfl rfl rfl rfl) fun _=>?_
    refine R.u 1 rfl<|R.nil ?_
    refine R.mp (fun _ hw=>hw.aU (α:=ak)) ?_
    refine R.mp (fun _ hw=>hw.aU (α:=ai)) ?_
    refine R.mp (fun _ hw=>hw.aU (α:=Held)) ?_
    refine R.mp (fun _ hw=>hw.aU (α:=Note)) ?_
    have hz:bU r p d=((⟨[],[],[],[],0,0⟩:au),(ay r p 1 2).2.2):=by (unfold bU ey;(repeat' split) <;> first|rfl|(exfalso;omega)|(simp_all;done))
    rw [hz]
    exact R.w2 ((.slice none 0 0),(.slice none 0 0),(.slice none 0 0),(.slice none 0 0)) [4] [3,2,1,0] rfl Tryz.results35 (RV.cell 1 rfl rfl av) (RV.tmp rfl) rfl rfl rfl (cx rfl rfl)
set_option maxRecDepth 100000 in
theorem tG (aD az aC aB:Value)(r:au)(p:Place)(d:ByteArray)(slot:Int)(rights:Int)(w:World)(own:List Nat)(H:Wd w (blks []++own) ([]++[ah.held w own]) [ah.ls aD (r.aj:List ak),ah.ls az (r.Things:List ai),ah.ls aC (r.Held:List Held),ah.ls aB (r.Notes:List Note)] w)(hk:Ok r):Calls Tryz.prog 36 #[.agg #[aD,az,aC,aB,.int .i64 r.ae,.int .i64 r.af],.agg #[.int .i64 p.ag,.int .i64 p.Slot],.string d,.int .i64 slot,.int .i64 rights] w fun e w' => ∃z:Value×Value×Value×Value,e = .returned (.tuple #[.agg #[z.1,z.2.1,z.2.2.1,z.2.2.2,.int .i64 ((((bO r p d slot rights)).1).ae),.int .i64 ((((bO r p d slot rights)).1).af)],eG (((bO r p d slot rights)).2)])∧Wd w (blks []++own) ([]++[ah.held w own]) [ah.ls z.1 ((((bO r p d slot rights)).1).aj:List ak),ah.ls z.2.1 ((((bO r p d slot rights)).1).Things:List ai),ah.ls z.2.2.1 ((((bO r p d slot rights)).1).Held:List Held),ah.ls z.2.2.2 ((((bO r p d slot rights)).1).Notes:List Note)] w':=by
  have dF:=H.cL 0 rfl
  have cX:=H.cL 1 rfl
  have ej:=H.cL 2 rfl
  have dG:=H.cL 3 rfl
  have bw:=hk.wl;have bt:=hk.tl;have bh:=hk.hl;have bn:=hk.nl;have wi:=hk.w0;have wj:=hk.w1;have wk:=hk.t0;have wm:=hk.t1
  refine R.cQ (n:=116) (vs:=[.agg #[aD,az,aC,aB,.int .i64 r.ae,.int .i64 r.af],.agg #[.int .i64 p.ag,.int .i64 p.Slot],.string d,.int .i64 slot,.int .i64 rights]) (B:=[ah.held w own]) [(0,.agg #[aD,az,aC,aB,.int .i64 r.ae,.int .i64 r.af]),(1,.agg #[.int .i64 p.ag,.int .i64 p.Slot]),(2,.string d),(3,.int .i64 slot),(4,.int .i64 rights)] Tryz.func36 rfl rfl rfl rfl H ?_
  refine R.reg rfl<|?_
  refine R.s rfl (s.box (cs:=[aD,az,aC,aB,.int .i64 r.ae,.int .i64 r.af]) rfl rfl rfl) fun b1=>?_
  refine R.s rfl (s.box (cs:=[.int .i64 p.ag,.int .i64 p.Slot]) rfl rfl rfl) fun b2=>?_
  refine R.s rfl (s.alloc (cs:=[.slice none 0 0,.slice none 0 0,.slice none 0 0,.slice none 0 0,.int .i64 0,.int .i64 0]) cj rfl rfl) fun b3=>?_
  refine R.u 1 rfl<|R.nil ?_
  refine R.reg rfl<|R.q (q.cF 2 rfl rfl av) rfl<|R.q (q.cF 1 rfl rfl bk) rfl<|R.c (q.call uE rfl rfl (fun w hw=>(nz _ _ _ _ (r) (p) (2) (2) w ((fun _=>Wd.aS 0 rfl) w hw) ((fun _=>Wd.aS 1 rfl) w hw) ((fun _=>Wd.aS 2 rfl) w hw) ((fun _=>Wd.aS 3 rfl) w hw) (by assumption) (by omega)))) rfl<|R.u 4 rfl<|?_
  refine R.s rfl (s.alloc (cs:=[.int .i64 0,.int .i64 0,.int .i64 0,.int .i64 0,.int .i64 0]) br rfl rfl) fun b4=>?_
  refine R.s rfl (s.st (us:=[.int .i64 (((ay r p 2 2).1).ID),.int .i64 (((ay r p 2 2).1).ai),.int .i64 (((ay r p 2 2).1).Rights),.int .i64 (((ay r p 2 2).1).ar),.int .i64 (((ay r p 2 2).1).From)]) (cs':=[.int .i64 (((ay r p 2 2).1).ID),.int .i64 (((ay r p 2 2).1).ai),.int .i64 (((ay r p 2 2).1).Rights),.int .i64 (((ay r p 2 2).1).ar),.int .i64 (((ay r p 2 2).1).From)]) 0 _ rfl rfl rfl rfl (.inl aN) rfl rfl rfl rfl) fun _=>?_
  refine R.u 2 rfl<|R.nil ?_
  refine R.reg rfl<|R.u 1 rfl<|?_
  by_cases h1:(ay r p 2 2).2.2=0
  ·
    have mz:=jX h1;have mr:=hk.get mz.1;rw [← mz.2.1] at mr
    refine R.q (q.fa rfl rfl Tryz.underlying35 (by omega)) rfl<|R.nil ?_
    refine R.aH rfl rfl ?_
    refine R.reg rfl<|R.u 1 rfl<|R.q (q.kr rfl Tryz.underlying9) rfl<|?_
    by_cases h2:8<d.size
    ·
      refine R.q (q.gtr rfl rfl (decide_eq_true (by omega))) rfl<|R.nil ?_
      refine R.aE rfl rfl ?_
      refine R.reg rfl<|R.q (q.build (cs:=[.slice none 0 0,.slice none 0 0,.slice none 0 0,.slice none 0 0,.int .i64 0,.int .i64 0]) cJ rfl rfl) rfl<|R.q (q.iface rfl bz) rfl<|?_
      refine R.s rfl (s.st (us:=[.slice none 0 0,.slice none 0 0,.slice none 0 0,.slice none 0 0,.int .i64 0,.int .i64 0]) (cs':=[.slice none 0 0,.slice none 0 0,.slice none 0 0,.slice none 0 0,.int .i64 0,.int .i64 0]) 1 _ rfl rfl rfl rfl (.inl av) rfl rfl rfl rfl) fun _=>?_
      refine R.u 1 rfl<|R.nil ?_
      refine R.mp (fun _ hw=>hw.aU (α:=ak)) ?_
      refine R.mp (fun _ hw=>hw.aU (α:=ai)) ?_
      refine R.mp (fun _ hw=>hw.aU (α:=Held)) ?_
      refine R.mp (fun _ hw=>hw.aU (α:=Note)) ?_
      have hz:bO r p d slot rights=((⟨[],[],[],[],0,0⟩:au),2):=by (unfold bO;(repeat' split) <;> first|rfl|(exfalso;omega)|(simp_all;done))
      rw [hz]
      exact R.w2 ((.slice none 0 0),(.slice none 0 0),(.slice none 0 0),(.slice none 0 0)) [4] [3,2,1,0] rfl Tryz.results36 (RV.cell 1 rfl rfl av) (RV.tmp rfl) rfl rfl rfl (cx rfl (dC (by decide) rfl))
    ·
      refine R.q (q.gtr rfl rfl (decide_eq_false (by omega))) rfl<|R.nil ?_
      refine R.aH rfl rfl ?_
      refine R.reg rfl<|R.u 1 rfl<|R.nil ?_
      refine R.reg rfl<|R.q (q.aX (off':=3) rfl bK rfl) rfl<|R.q (q.ld 3 rfl rfl bX rfl) rfl<|R.q (q.len' (fun _=>Wd.aS 3 rfl) rfl Tryz.underlying30) rfl<|R.u 1 rfl<|R.nil ?_
      refine R.loop (fun g_:Nat×Nat=>[(2,.string d),(3,.int .i64 slot),(4,.int .i64 rights),(5,.pointer (some ⟨b1,0,none⟩)),(6,.pointer (some ⟨b2,0,none⟩)),(10,.pointer (some ⟨b3,0,none⟩)),(12,.pointer (some ⟨b4,0,none⟩)),(15,.int .i64 (g_.2:Int)),(39,aB),(40,.int .i64 (r.Notes.length:Int)),(41,.int .i64 (g_.1:Int))]) (fun g_:Nat×Nat=>[ah.box b4 [.int .i64 (((ay r p 2 2).1).ID),.int .i64 (((ay r p 2 2).1).ai),.int .i64 (((ay r p 2 2).1).Rights),.int .i64 (((ay r p 2 2).1).ar),.int .i64 (((ay r p 2 2).1).From)] 88,ah.box b3 [.slice none 0 0,.slice none 0 0,.slice none 0 0,.slice none 0 0,.int .i64 0,.int .i64 0] 32,ah.box b2 [.int .i64 p.ag,.int .i64 p.Slot] 39,ah.box b1 [aD,az,aC,aB,.int .i64 r.ae,.int .i64 r.af] 32,ah.held w own]) (fun g_:Nat×Nat=>[ah.ls aD (r.aj:List ak),ah.ls az (r.Things:List ai),ah.ls aC (r.Held:List Held),ah.ls aB (r.Notes:List Note)]) (fun g_:Nat×Nat=>g_.1≤r.Notes.length∧g_.2=dX (r.Notes.take g_.1) (ay r p 2 2).1.ai) (fun g_:Nat×Nat=>r.Notes.length-g_.1) (0,0) rfl (by exact ⟨by omega,by simp [dX]⟩) ⟨rfl,rfl,rfl,rfl,rfl,rfl,rfl,rfl,rfl,rfl,rfl,trivial⟩ (fun _=>Wd.pick [0,1,2,3,4] [0,1,2,3] rfl rfl rfl) ?_
      rintro ⟨k,c⟩ ⟨hk1,HC⟩
      dsimp only at *
      have hc1:c≤k:=by rw [HC];exact wT
      refine R.reg rfl<|?_
      by_cases h3:k<r.Notes.length
      ·
        refine R.q (q.lss rfl rfl (decide_eq_true (by omega))) rfl<|R.nil ?_
        refine R.aE rfl rfl ?_
        refine R.reg rfl<|?_
        obtain ⟨x1,hx1⟩:∃z,r.Notes[k]? = some z:=⟨_,List.getElem?_eq_getElem (by omega)⟩
        refine R.q (q.idx (i:=k) (fun _=>Wd.aS 3 rfl) rfl rfl dH rfl hx1) rfl<|R.q (q.dY (ds:=[.int .i64 x1.Port,.string x1.Data,.int .i64 x1.ar,.int .i64 x1.ak]) (fun _=>Wd.aS 3 rfl) hx1 rfl bT rfl) rfl<|?_
        refine R.s rfl (s.alloc (cs:=[.int .i64 0,.string (⟨#[]⟩),.int .i64 0,.int .i64 0]) dq rfl rfl) fun b5=>?_
        refine R.s rfl (s.st (us:=[.int .i64 x1.Port,.string x1.Data,.int .i64 x1.ar,.int .i64 x1.ak]) (cs':=[.int .i64 x1.Port,.string x1.Data,.int .i64 x1.ar,.int .i64 x1.ak]) 0 _ rfl rfl rfl rfl (.inl bT) rfl rfl rfl rfl) fun _=>?_
        refine R.nil ?_
        refine R.reg rfl<|R.q (q.aX (off':=0) rfl jS rfl) rfl<|R.q (q.ld 0 rfl rfl aA rfl) rfl<|R.q (q.aX (off':=1) rfl eB rfl) rfl<|R.q (q.ld 1 rfl rfl aA rfl) rfl<|?_
        by_cases h4:x1.Port=((ay r p 2 2).1).ai
        ·
          refine R.q (q.eql rfl rfl (beq_iff_eq.2 (by omega))) rfl<|R.nil ?_
          refine R.aE rfl rfl ?_
          refine R.reg rfl<|R.u 1 rfl<|R.q (q.add (r:=((c+1:Nat):Int)) rfl rfl (wr (by omega))) rfl<|R.u 1 rfl<|R.nil ?_
          refine R.reg rfl<|R.q (q.add (r:=((k+1:Nat):Int)) rfl rfl (wr (by omega))) rfl<|R.u 1 rfl<|R.nil ?_
          refine R.back ((k+1),(c+1)) rfl (by (exact ⟨by omega,by rw [vj hx1 (by assumption),HC]⟩)) (by dsimp only;omega) ⟨rfl,rfl,rfl,rfl,rfl,rfl,rfl,rfl,rfl,rfl,rfl,trivial⟩ (fun _=>Wd.aK [1,2,3,4,5] [0,1,2,3] rfl rfl rfl)
        ·
          refine R.q (q.eql rfl rfl (beq_eq_false_iff_ne.2 (by omega))) rfl<|R.nil ?_
          refine R.aH rfl rfl ?_
          refine R.reg rfl<|R.q (q.add (r:=((k+1:Nat):Int)) rfl rfl (wr (by omega))) rfl<|R.u 1 rfl<|R.nil ?_
          refine R.back ((k+1),c) rfl (by (exact ⟨by omega,by rw [tA hx1 (by assumption),HC]⟩)) (by dsimp only;omega) ⟨rfl,rfl,rfl,rfl,rfl,rfl,rfl,rfl,rfl,rfl,rfl,trivial⟩ (fun _=>Wd.aK [1,2,3,4,5] [0,1,2,3] rfl rfl rfl)
      ·
        refine R.q (q.lss rfl rfl (decide_eq_false (by omega))) rfl<|R.nil ?_
        refine R.aH rfl rfl ?_
        refine R.reg rfl<|R.u 1 rfl<|?_
        by_cases h5:c=3
        ·
          refine R.q (q.eql rfl rfl (beq_iff_eq.2 (by omega))) rfl<|R.nil ?_
          refine R.aE rfl rfl ?_
          refine R.reg rfl<|R.q (q.build (cs:=[.slice none 0 0,.slice none 0 0,.slice none 0 0,.slice none 0 0,.int .i64 0,.int .i64 0]) cJ rfl rfl) rfl<|R.q (q.iface rfl bz) rfl<|?_
          refine R.s rfl (s.st (us:=[.slice none 0 0,.slice none 0 0,.slice none 0 0,.slice none 0 0,.int .i64 0,.int .i64 0]) (cs':=[.slice none 0 0,.slice none 0 0,.slice none 0 0,.slice none 0 0,.int .i64 0,.int .i64 0]) 1 _ rfl rfl rfl rfl (.inl av) rfl rfl rfl rfl) fun _=>?_
          refine R.u 1 rfl<|R.nil ?_
          refine R.mp (fun _ hw=>hw.aU (α:=ak)) ?_
          refine R.mp (fun _ hw=>hw.aU (α:=ai)) ?_
          refine R.mp (fun _ hw=>hw.aU (α:=Held)) ?_
          refine R.mp (fun _ hw=>hw.aU (α:=Note)) ?_
          have hz:bO r p d slot rights=((⟨[],[],[],[],0,0⟩:au),9):=by (rw [List.take_of_length_le (by omega)] at HC;subst HC;unfold bO;(repeat' split) <;> first|rfl|(exfalso;omega)|(simp_all;done))
          rw [hz]
          exact R.w2 ((.slice none 0 0),(.slice none 0 0),(.slice none 0 0),(.slice none 0 0)) [4] [3,2,1,0] rfl Tryz.results36 (RV.cell 1 rfl rfl av) (RV.tmp rfl) rfl rfl rfl (cx rfl (dC (by decide) rfl))
        ·
          refine R.q (q.eql rfl rfl (beq_eq_false_iff_ne.2 (by omega))) rfl<|R.nil ?_
          refine R.aH rfl rfl ?_
          refine R.reg rfl<|R.q (q.aX (off':=1) rfl eB rfl) rfl<|R.q (q.ld 0 rfl rfl aA rfl) rfl<|R.u 1 rfl<|R.q (q.aX (off':=3) rfl fA rfl) rfl<|R.q (q.ld 0 rfl rfl aA rfl) rfl<|R.q (q.build (cs:=[.int .i64 (((ay r p 2 2).1).ai),.string d,.int .i64 (((ay r p 2 2).1).ar),.int .i64 0]) sh rfl rfl) rfl<|?_
          refine R.s rfl (s.alloc (cs:=[.int .i64 0,.string (⟨#[]⟩),.int .i64 0,.int .i64 0]) dq rfl rfl) fun b6=>?_
          refine R.s rfl (s.st (us:=[.int .i64 (((ay r p 2 2).1).ai),.string d,.int .i64 (((ay r p 2 2).1).ar),.int .i64 0]) (cs':=[.int .i64 (((ay r p 2 2).1).ai),.string d,.int .i64 (((ay r p 2 2).1).ar),.int .i64 0]) 0 _ rfl rfl rfl rfl (.inl bT) rfl rfl rfl rfl) fun _=>?_
          refine R.nil ?_
          refine R.reg rfl<|R.u 1 rfl<|?_
          by_cases h6:slot<0
          ·
            refine R.q (q.geq rfl rfl (decide_eq_false (by omega))) rfl<|R.nil ?_
            refine R.aH rfl rfl ?_
            refine R.fT (fuel:=8) (Wd w (blks []++own) [ah.box b6 [.int .i64 (((ay r p 2 2).1).ai),.string d,.int .i64 (((ay r p 2 2).1).ar),.int .i64 0] 72,ah.box b4 [.int .i64 (((ay r p 2 2).1).ID),.int .i64 (((ay r p 2 2).1).ai),.int .i64 (((ay r p 2 2).1).Rights),.int .i64 (((ay r p 2 2).1).ar),.int .i64 (((ay r p 2 2).1).From)] 88,ah.box b3 [.slice none 0 0,.slice none 0 0,.slice none 0 0,.slice none 0 0,.int .i64 0,.int .i64 0] 32,ah.box b2 [.int .i64 p.ag,.int .i64 p.Slot] 39,ah.held w own] [ah.ls aD (r.aj:List ak),ah.ls az (r.Things:List ai),ah.ls aC (r.Held:List Held),ah.ls aB (r.Notes:List Note)]) rfl mixed rfl ?_
            refine D.q (i:=0) rfl (by kernel_rfl) (fun _=>Wd.aK [0,1,2,3,5] [0,1,2,3] rfl rfl rfl) rfl (q.aX (off':=3) rfl bK rfl) rfl<|D.q (i:=3) rfl (by kernel_rfl) (fun _=>Wd.aK [0,1,2,3,5] [0,1,2,3] rfl rfl rfl) rfl (q.cF 0 rfl rfl bT) rfl<|?_
            refine D.two (i:=1) (j:=4) (by kernel_rfl) rfl rfl ?_ ?_
            ·
              refine Do.s (s.c (Qt.a (q.ld 4 rfl rfl bX rfl)) rfl) (fun _=>(fun _=>Wd.aK [0,1,2,3,5] [0,1,2,3] rfl rfl rfl)) rfl fun _=>?_
              refine D.two (i:=2) (j:=4) (by kernel_rfl) rfl rfl ?_ ?_
              ·
                refine Do.s (B':=(fun aG:Value=>[ah.row 72 aG (r.Notes:List Note),ah.box b6 [.int .i64 (((ay r p 2 2).1).ai),.string d,.int .i64 (((ay r p 2 2).1).ar),.int .i64 0] 72,ah.box b4 [.int .i64 (((ay r p 2 2).1).ID),.int .i64 (((ay r p 2 2).1).ai),.int .i64 (((ay r p 2 2).1).Rights),.int .i64 (((ay r p 2 2).1).ar),.int .i64 (((ay r p 2 2).1).From)] 88,ah.box b3 [.slice none 0 0,.slice none 0 0,.slice none 0 0,.slice none 0 0,.int .i64 0,.int .i64 0] 32,ah.box b2 [.int .i64 p.ag,.int .i64 p.Slot] 39,ah.box b1 [aD,az,aC,aB,.int .i64 r.ae,.int .i64 r.af] 32,ah.held w own])) (F':=(fun aG:Value=>[ah.ls aD (r.aj:List ak),ah.ls az (r.Things:List ai),ah.ls aC (r.Held:List Held),ah.ls aB (r.Notes:List Note)])) (s.bA (B0:=[]) (Br:=[ah.box b6 [.int .i64 (((ay r p 2 2).1).ai),.string d,.int .i64 (((ay r p 2 2).1).ar),.int .i64 0] 72,ah.box b4 [.int .i64 (((ay r p 2 2).1).ID),.int .i64 (((ay r p 2 2).1).ai),.int .i64 (((ay r p 2 2).1).Rights),.int .i64 (((ay r p 2 2).1).ar),.int .i64 (((ay r p 2 2).1).From)] 88,ah.box b3 [.slice none 0 0,.slice none 0 0,.slice none 0 0,.slice none 0 0,.int .i64 0,.int .i64 0] 32,ah.box b2 [.int .i64 p.ag,.int .i64 p.Slot] 39,ah.box b1 [aD,az,aC,aB,.int .i64 r.ae,.int .i64 r.af] 32,ah.held w own]) (F0:=[ah.ls aB (r.Notes:List Note)]) [0,1,2,3,4,5] [3] (fun aG:Value=>aG) (fun aG:Value=>[ah.row 72 aG (r.Notes:List Note)]) (fun aG:Value=>[]) rfl rfl rfl lZ rfl rfl (fun w own hw H=>dN aB (r.Notes) w own H (by first|omega|assumption|(simp;done)|(simp;omega))) rfl) (fun _=>(fun _=>Wd.aK [1,2,3,4,6] [0,1,2,3] rfl rfl rfl)) rfl fun z2=>?_
                refine D.one (i:=4) (by kernel_rfl) rfl ?_
                refine Do.s (s.bs (l:=([(⟨((ay r p 2 2).1).ai,d,((ay r p 2 2).1).ar,0⟩:Note)]:List Note)) dH dq rfl rfl rfl rfl rfl rfl rfl) (fun _=>(fun _=>Wd.aK [2,3,4,5,7] [0,1,2,3] rfl rfl rfl)) rfl fun b7=>?_
                refine D.one (i:=5) (by kernel_rfl) rfl ?_
                refine Do.s (s.app (l2:=[(⟨((ay r p 2 2).1).ai,d,((ay r p 2 2).1).ar,0⟩:Note)]) 1 _ rfl rfl rfl (fun _=>Wd.row 0 rfl) fF (by first|omega|(simp;omega)) (by first|omega|(simp;omega)) (fun _=>rfl) rfl) (fun _=>(fun _=>Wd.aK [2,3,4,5,7] [0,1,2,3] rfl rfl rfl)) rfl fun v1=>?_
                refine D.q (i:=6) rfl (by kernel_rfl) (fun _=>Wd.aK [2,3,4,5,7] [0,1,2,3] rfl rfl rfl) rfl (q.aX (off':=3) rfl bK rfl) rfl<|?_
                refine D.one (i:=7) (by kernel_rfl) rfl ?_
                refine Do.s (s.eH (us:=[v1]) (cs':=[aD,az,aC,v1,.int .i64 r.ae,.int .i64 r.af]) 6 _ rfl rfl rfl (fun w hw=>Sl.cr ((fun _=>Wd.row 1 rfl) w hw)) (.inr ⟨bX,rfl⟩) (fun w hw=>(ao (Sl.one ((fun _=>Wd.row 1 rfl) w hw)) aO)) rfl rfl rfl) (fun _=>(fun _=>Wd.aK [2,3,4,5,7] [0,1,2,3] rfl rfl rfl)) rfl fun _=>?_
                refine D.done (by kernel_rfl)<|?_
                refine R.reg rfl<|R.q (q.cF 6 rfl rfl av) rfl<|?_
                refine R.s rfl (s.eH (us:=[aD,az,aC,v1,.int .i64 r.ae,.int .i64 r.af]) (cs':=[aD,az,aC,v1,.int .i64 r.ae,.int .i64 r.af]) 4 _ rfl rfl rfl (fun _ _=>rfl) (.inl av) (fun w hw=>(ao (Sl.one ((fun _=>Wd.aS 0 rfl) w hw)) (ao (Sl.one ((fun _=>Wd.aS 1 rfl) w hw)) (ao (Sl.one ((fun _=>Wd.aS 2 rfl) w hw)) (ao (Sl.one ((fun _=>Wd.row 1 rfl) w hw)) (ao rfl (ao rfl aO))))))) rfl rfl rfl) fun _=>?_
                refine R.u 1 rfl<|R.nil ?_
                refine R.mp (B':=[ah.row 72 (.slice (some ⟨b7,0,none⟩) 1 1) ([(⟨((ay r p 2 2).1).ai,d,((ay r p 2 2).1).ar,0⟩:Note)]:List Note),ah.box b6 [.int .i64 (((ay r p 2 2).1).ai),.string d,.int .i64 (((ay r p 2 2).1).ar),.int .i64 0] 72,ah.box b4 [.int .i64 (((ay r p 2 2).1).ID),.int .i64 (((ay r p 2 2).1).ai),.int .i64 (((ay r p 2 2).1).Rights),.int .i64 (((ay r p 2 2).1).ar),.int .i64 (((ay r p 2 2).1).From)] 88,ah.box b3 [aD,az,aC,v1,.int .i64 r.ae,.int .i64 r.af] 32,ah.box b2 [.int .i64 p.ag,.int .i64 p.Slot] 39,ah.box b1 [aD,az,aC,v1,.int .i64 r.ae,.int .i64 r.af] 32,ah.held w own]) (fun _ hw=>hw.dh 1 _ rfl rfl) ?_
                have hz:bO r p d slot rights=((⟨r.aj,r.Things,r.Held,(r.Notes++([(⟨((ay r p 2 2).1).ai,d,((ay r p 2 2).1).ar,0⟩:Note)])),r.ae,r.af⟩:au),0):=by (rw [List.take_of_length_le (by omega)] at HC;subst HC;unfold bO;(repeat' split) <;> first|rfl|(exfalso;omega)|(simp_all;done))
                rw [hz]
                exact R.w2 (aD,az,aC,v1) [6] [1,2,3,0] rfl Tryz.results36 (RV.cell 3 rfl rfl av) (RV.tmp rfl) rfl rfl rfl (cx rfl (gj rfl))
              ·
                refine Do.s (s.bs (l:=([(⟨((ay r p 2 2).1).ai,d,((ay r p 2 2).1).ar,0⟩:Note)]:List Note)) dH dq rfl rfl rfl rfl rfl rfl rfl) (fun _=>(fun _=>Wd.aK [1,2,3,4,6] [0,1,2,3] rfl rfl rfl)) rfl fun b8=>?_
                refine D.one (i:=2) (by kernel_rfl) rfl ?_
                refine Do.s (B':=(fun aG:Value=>[ah.row 72 aG (r.Notes:List Note),ah.row 72 (.slice (some ⟨b8,0,none⟩) 1 1) ([(⟨((ay r p 2 2).1).ai,d,((ay r p 2 2).1).ar,0⟩:Note)]:List Note),ah.box b6 [.int .i64 (((ay r p 2 2).1).ai),.string d,.int .i64 (((ay r p 2 2).1).ar),.int .i64 0] 72,ah.box b4 [.int .i64 (((ay r p 2 2).1).ID),.int .i64 (((ay r p 2 2).1).ai),.int .i64 (((ay r p 2 2).1).Rights),.int .i64 (((ay r p 2 2).1).ar),.int .i64 (((ay r p 2 2).1).From)] 88,ah.box b3 [.slice none 0 0,.slice none 0 0,.slice none 0 0,.slice none 0 0,.int .i64 0,.int .i64 0] 32,ah.box b2 [.int .i64 p.ag,.int .i64 p.Slot] 39,ah.box b1 [aD,az,aC,aB,.int .i64 r.ae,.int .i64 r.af] 32,ah.held w own])) (F':=(fun aG:Value=>[ah.ls aD (r.aj:List ak),ah.ls az (r.Things:List ai),ah.ls aC (r.Held:List Held),ah.ls aB (r.Notes:List Note)])) (s.bA (B0:=[]) (Br:=[ah.row 72 (.slice (some ⟨b8,0,none⟩) 1 1) ([(⟨((ay r p 2 2).1).ai,d,((ay r p 2 2).1).ar,0⟩:Note)]:List Note),ah.box b6 [.int .i64 (((ay r p 2 2).1).ai),.string d,.int .i64 (((ay r p 2 2).1).ar),.int .i64 0] 72,ah.box b4 [.int .i64 (((ay r p 2 2).1).ID),.int .i64 (((ay r p 2 2).1).ai),.int .i64 (((ay r p 2 2).1).Rights),.int .i64 (((ay r p 2 2).1).ar),.int .i64 (((ay r p 2 2).1).From)] 88,ah.box b3 [.slice none 0 0,.slice none 0 0,.slice none 0 0,.slice none 0 0,.int .i64 0,.int .i64 0] 32,ah.box b2 [.int .i64 p.ag,.int .i64 p.Slot] 39,ah.box b1 [aD,az,aC,aB,.int .i64 r.ae,.int .i64 r.af] 32,ah.held w own]) (F0:=[ah.ls aB (r.Notes:List Note)]) [0,1,2,3,4,5,6] [3] (fun aG:Value=>aG) (fun aG:Value=>[ah.row 72 aG (r.Notes:List Note)]) (fun aG:Value=>[]) rfl rfl rfl lZ rfl rfl (fun w own hw H=>dN aB (r.Notes) w own H (by first|omega|assumption|(simp;done)|(simp;omega))) rfl) (fun _=>(fun _=>Wd.aK [2,3,4,5,7] [0,1,2,3] rfl rfl rfl)) rfl fun z3=>?_
                refine D.one (i:=5) (by kernel_rfl) rfl ?_
                refine Do.s (s.app (l2:=[(⟨((ay r p 2 2).1).ai,d,((ay r p 2 2).1).ar,0⟩:Note)]) 0 _ rfl rfl rfl (fun _=>Wd.row 1 rfl) fF (by first|omega|(simp;omega)) (by first|omega|(simp;omega)) (fun _=>rfl) rfl) (fun _=>(fun _=>Wd.aK [2,3,4,5,7] [0,1,2,3] rfl rfl rfl)) rfl fun v2=>?_
                refine D.q (i:=6) rfl (by kernel_rfl) (fun _=>Wd.aK [2,3,4,5,7] [0,1,2,3] rfl rfl rfl) rfl (q.aX (off':=3) rfl bK rfl) rfl<|?_
                refine D.one (i:=7) (by kernel_rfl) rfl ?_
                refine Do.s (s.eH (us:=[v2]) (cs':=[aD,az,aC,v2,.int .i64 r.ae,.int .i64 r.af]) 6 _ rfl rfl rfl (fun w hw=>Sl.cr ((fun _=>Wd.row 0 rfl) w hw)) (.inr ⟨bX,rfl⟩) (fun w hw=>(ao (Sl.one ((fun _=>Wd.row 0 rfl) w hw)) aO)) rfl rfl rfl) (fun _=>(fun _=>Wd.aK [2,3,4,5,7] [0,1,2,3] rfl rfl rfl)) rfl fun _=>?_
                refine D.done (by kernel_rfl)<|?_
                refine R.reg rfl<|R.q (q.cF 6 rfl rfl av) rfl<|?_
                refine R.s rfl (s.eH (us:=[aD,az,aC,v2,.int .i64 r.ae,.int .i64 r.af]) (cs':=[aD,az,aC,v2,.int .i64 r.ae,.int .i64 r.af]) 4 _ rfl rfl rfl (fun _ _=>rfl) (.inl av) (fun w hw=>(ao (Sl.one ((fun _=>Wd.aS 0 rfl) w hw)) (ao (Sl.one ((fun _=>Wd.aS 1 rfl) w hw)) (ao (Sl.one ((fun _=>Wd.aS 2 rfl) w hw)) (ao (Sl.one ((fun _=>Wd.row 0 rfl) w hw)) (ao rfl (ao rfl aO))))))) rfl rfl rfl) fun _=>?_
                refine R.u 1 rfl<|R.nil ?_
                refine R.mp (B':=[ah.row 72 (.slice (some ⟨b8,0,none⟩) 1 1) ([(⟨((ay r p 2 2).1).ai,d,((ay r p 2 2).1).ar,0⟩:Note)]:List Note),ah.box b6 [.int .i64 (((ay r p 2 2).1).ai),.string d,.int .i64 (((ay r p 2 2).1).ar),.int .i64 0] 72,ah.box b4 [.int .i64 (((ay r p 2 2).1).ID),.int .i64 (((ay r p 2 2).1).ai),.int .i64 (((ay r p 2 2).1).Rights),.int .i64 (((ay r p 2 2).1).ar),.int .i64 (((ay r p 2 2).1).From)] 88,ah.box b3 [aD,az,aC,v2,.int .i64 r.ae,.int .i64 r.af] 32,ah.box b2 [.int .i64 p.ag,.int .i64 p.Slot] 39,ah.box b1 [aD,az,aC,v2,.int .i64 r.ae,.int .i64 r.af] 32,ah.held w own]) (fun _ hw=>hw.dh 0 _ rfl rfl) ?_
                have hz:bO r p d slot rights=((⟨r.aj,r.Things,r.Held,(r.Notes++([(⟨((ay r p 2 2).1).ai,d,((ay r p 2 2).1).ar,0⟩:Note)])),r.ae,r.af⟩:au),0):=by (rw [List.take_of_length_le (by omega)] at HC;subst HC;unfold bO;(repeat' split) <;> first|rfl|(exfalso;omega)|(simp_all;done))
                rw [hz]
                exact R.w2 (aD,az,aC,v2) [6] [1,2,3,0] rfl Tryz.results36 (RV.cell 3 rfl rfl av) (RV.tmp rfl) rfl rfl rfl (cx rfl (gj rfl))
            ·
              refine Do.s (s.bs (l:=([(⟨((ay r p 2 2).1).ai,d,((ay r p 2 2).1).ar,0⟩:Note)]:List Note)) dH dq rfl rfl rfl rfl rfl rfl rfl) (fun _=>(fun _=>Wd.aK [1,2,3,4,6] [0,1,2,3] rfl rfl rfl)) rfl fun b9=>?_
              refine D.one (i:=1) (by kernel_rfl) rfl ?_
              refine Do.s (s.c (Qt.a (q.ld 5 rfl rfl bX rfl)) rfl) (fun _=>(fun _=>Wd.aK [1,2,3,4,6] [0,1,2,3] rfl rfl rfl)) rfl fun _=>?_
              refine D.one (i:=2) (by kernel_rfl) rfl ?_
              refine Do.s (B':=(fun aG:Value=>[ah.row 72 aG (r.Notes:List Note),ah.row 72 (.slice (some ⟨b9,0,none⟩) 1 1) ([(⟨((ay r p 2 2).1).ai,d,((ay r p 2 2).1).ar,0⟩:Note)]:List Note),ah.box b6 [.int .i64 (((ay r p 2 2).1).ai),.string d,.int .i64 (((ay r p 2 2).1).ar),.int .i64 0] 72,ah.box b4 [.int .i64 (((ay r p 2 2).1).ID),.int .i64 (((ay r p 2 2).1).ai),.int .i64 (((ay r p 2 2).1).Rights),.int .i64 (((ay r p 2 2).1).ar),.int .i64 (((ay r p 2 2).1).From)] 88,ah.box b3 [.slice none 0 0,.slice none 0 0,.slice none 0 0,.slice none 0 0,.int .i64 0,.int .i64 0] 32,ah.box b2 [.int .i64 p.ag,.int .i64 p.Slot] 39,ah.box b1 [aD,az,aC,aB,.int .i64 r.ae,.int .i64 r.af] 32,ah.held w own])) (F':=(fun aG:Value=>[ah.ls aD (r.aj:List ak),ah.ls az (r.Things:List ai),ah.ls aC (r.Held:List Held),ah.ls aB (r.Notes:List Note)])) (s.bA (B0:=[]) (Br:=[ah.row 72 (.slice (some ⟨b9,0,none⟩) 1 1) ([(⟨((ay r p 2 2).1).ai,d,((ay r p 2 2).1).ar,0⟩:Note)]:List Note),ah.box b6 [.int .i64 (((ay r p 2 2).1).ai),.string d,.int .i64 (((ay r p 2 2).1).ar),.int .i64 0] 72,ah.box b4 [.int .i64 (((ay r p 2 2).1).ID),.int .i64 (((ay r p 2 2).1).ai),.int .i64 (((ay r p 2 2).1).Rights),.int .i64 (((ay r p 2 2).1).ar),.int .i64 (((ay r p 2 2).1).From)] 88,ah.box b3 [.slice none 0 0,.slice none 0 0,.slice none 0 0,.slice none 0 0,.int .i64 0,.int .i64 0] 32,ah.box b2 [.int .i64 p.ag,.int .i64 p.Slot] 39,ah.box b1 [aD,az,aC,aB,.int .i64 r.ae,.int .i64 r.af] 32,ah.held w own]) (F0:=[ah.ls aB (r.Notes:List Note)]) [0,1,2,3,4,5,6] [3] (fun aG:Value=>aG) (fun aG:Value=>[ah.row 72 aG (r.Notes:List Note)]) (fun aG:Value=>[]) rfl rfl rfl lZ rfl rfl (fun w own hw H=>dN aB (r.Notes) w own H (by first|omega|assumption|(simp;done)|(simp;omega))) rfl) (fun _=>(fun _=>Wd.aK [2,3,4,5,7] [0,1,2,3] rfl rfl rfl)) rfl fun z4=>?_
              refine D.one (i:=5) (by kernel_rfl) rfl ?_
              refine Do.s (s.app (l2:=[(⟨((ay r p 2 2).1).ai,d,((ay r p 2 2).1).ar,0⟩:Note)]) 0 _ rfl rfl rfl (fun _=>Wd.row 1 rfl) fF (by first|omega|(simp;omega)) (by first|omega|(simp;omega)) (fun _=>rfl) rfl) (fun _=>(fun _=>Wd.aK [2,3,4,5,7] [0,1,2,3] rfl rfl rfl)) rfl fun v3=>?_
              refine D.q (i:=6) rfl (by kernel_rfl) (fun _=>Wd.aK [2,3,4,5,7] [0,1,2,3] rfl rfl rfl) rfl (q.aX (off':=3) rfl bK rfl) rfl<|?_
              refine D.one (i:=7) (by kernel_rfl) rfl ?_
              refine Do.s (s.eH (us:=[v3]) (cs':=[aD,az,aC,v3,.int .i64 r.ae,.int .i64 r.af]) 6 _ rfl rfl rfl (fun w hw=>Sl.cr ((fun _=>Wd.row 0 rfl) w hw)) (.inr ⟨bX,rfl⟩) (fun w hw=>(ao (Sl.one ((fun _=>Wd.row 0 rfl) w hw)) aO)) rfl rfl rfl) (fun _=>(fun _=>Wd.aK [2,3,4,5,7] [0,1,2,3] rfl rfl rfl)) rfl fun _=>?_
              refine D.done (by kernel_rfl)<|?_
              refine R.reg rfl<|R.q (q.cF 6 rfl rfl av) rfl<|?_
              refine R.s rfl (s.eH (us:=[aD,az,aC,v3,.int .i64 r.ae,.int .i64 r.af]) (cs':=[aD,az,aC,v3,.int .i64 r.ae,.int .i64 r.af]) 4 _ rfl rfl rfl (fun _ _=>rfl) (.inl av) (fun w hw=>(ao (Sl.one ((fun _=>Wd.aS 0 rfl) w hw)) (ao (Sl.one ((fun _=>Wd.aS 1 rfl) w hw)) (ao (Sl.one ((fun _=>Wd.aS 2 rfl) w hw)) (ao (Sl.one ((fun _=>Wd.row 0 rfl) w hw)) (ao rfl (ao rfl aO))))))) rfl rfl rfl) fun _=>?_
              refine R.u 1 rfl<|R.nil ?_
              refine R.mp (B':=[ah.row 72 (.slice (some ⟨b9,0,none⟩) 1 1) ([(⟨((ay r p 2 2).1).ai,d,((ay r p 2 2).1).ar,0⟩:Note)]:List Note),ah.box b6 [.int .i64 (((ay r p 2 2).1).ai),.string d,.int .i64 (((ay r p 2 2).1).ar),.int .i64 0] 72,ah.box b4 [.int .i64 (((ay r p 2 2).1).ID),.int .i64 (((ay r p 2 2).1).ai),.int .i64 (((ay r p 2 2).1).Rights),.int .i64 (((ay r p 2 2).1).ar),.int .i64 (((ay r p 2 2).1).From)] 88,ah.box b3 [aD,az,aC,v3,.int .i64 r.ae,.int .i64 r.af] 32,ah.box b2 [.int .i64 p.ag,.int .i64 p.Slot] 39,ah.box b1 [aD,az,aC,v3,.int .i64 r.ae,.int .i64 r.af] 32,ah.held w own]) (fun _ hw=>hw.dh 0 _ rfl rfl) ?_
              have hz:bO r p d slot rights=((⟨r.aj,r.Things,r.Held,(r.Notes++([(⟨((ay r p 2 2).1).ai,d,((ay r p 2 2).1).ar,0⟩:Note)])),r.ae,r.af⟩:au),0):=by (rw [List.take_of_length_le (by omega)] at HC;subst HC;unfold bO;(repeat' split) <;> first|rfl|(exfalso;omega)|(simp_all;done))
              rw [hz]
              exact R.w2 (aD,az,aC,v3) [6] [1,2,3,0] rfl Tryz.results36 (RV.cell 3 rfl rfl av) (RV.tmp rfl) rfl rfl rfl (cx rfl (gj rfl))
          ·
            refine R.q (q.geq rfl rfl (decide_eq_true (by omega))) rfl<|R.nil ?_
            refine R.aE rfl rfl ?_
            refine R.reg rfl<|R.q (q.aX (off':=2) rfl fy rfl) rfl<|R.q (q.ld 1 rfl rfl aA rfl) rfl<|?_
            rcases Bool.eq_false_or_eq_true (eY (((ay r p 2 2).1).Rights) 4) with h7|h7
            ·
              refine R.c (q.call lX rfl rfl (fun w hw=>(cv (congrArg Value.bool h7) (eh (((ay r p 2 2).1).Rights) (4) w  (by omega) (by omega))))) rfl<|R.u 1 rfl<|R.nil ?_
              refine R.aH rfl rfl ?_
              refine R.reg rfl<|R.q (q.cF 4 rfl rfl av) rfl<|R.q (q.aX (off':=0) rfl dE rfl) rfl<|R.q (q.ld 3 rfl rfl aA rfl) rfl<|R.u 1 rfl<|R.q (q.build (cs:=[.int .i64 p.ag,.int .i64 slot]) lW rfl rfl) rfl<|R.c (q.call ng rfl rfl (fun w hw=>(i6 _ _ _ _ (r) ((⟨p.ag,slot⟩:Place)) w ((fun _=>Wd.aS 0 rfl) w hw) ((fun _=>Wd.aS 1 rfl) w hw) ((fun _=>Wd.aS 2 rfl) w hw) ((fun _=>Wd.aS 3 rfl) w hw) (by assumption)))) rfl<|R.u 3 rfl<|?_
              refine R.s rfl (s.alloc (cs:=[.int .i64 0,.int .i64 0,.int .i64 0,.int .i64 0,.int .i64 0]) br rfl rfl) fun b10=>?_
              refine R.s rfl (s.st (us:=[.int .i64 (((ap r (⟨p.ag,slot⟩:Place)).1).ID),.int .i64 (((ap r (⟨p.ag,slot⟩:Place)).1).ai),.int .i64 (((ap r (⟨p.ag,slot⟩:Place)).1).Rights),.int .i64 (((ap r (⟨p.ag,slot⟩:Place)).1).ar),.int .i64 (((ap r (⟨p.ag,slot⟩:Place)).1).From)]) (cs':=[.int .i64 (((ap r (⟨p.ag,slot⟩:Place)).1).ID),.int .i64 (((ap r (⟨p.ag,slot⟩:Place)).1).ai),.int .i64 (((ap r (⟨p.ag,slot⟩:Place)).1).Rights),.int .i64 (((ap r (⟨p.ag,slot⟩:Place)).1).ar),.int .i64 (((ap r (⟨p.ag,slot⟩:Place)).1).From)]) 0 _ rfl rfl rfl rfl (.inl aN) rfl rfl rfl rfl) fun _=>?_
              refine R.u 1 rfl<|R.nil ?_
              refine R.reg rfl<|R.u 1 rfl<|?_
              by_cases h8:(ap r (⟨p.ag,slot⟩:Place)).2=0
              ·
                have C5:=hk.get h8
                have hn0:∀x,(aQ r x ⟨0,0⟩).Notes.length≤2000:=fun x=>hk.nl
                have hnz:=hn0 (derived (ap r ⟨p.ag,slot⟩).1 r.ae rights 0).1
                refine R.q (q.fa rfl rfl Tryz.underlying35 (by omega)) rfl<|R.nil ?_
                refine R.aH rfl rfl ?_
                refine R.reg rfl<|R.q (q.aX (off':=4) rfl bL rfl) rfl<|R.q (q.ld 5 rfl rfl aA rfl) rfl<|?_
                by_cases h9:999<r.ae
                ·
                  refine R.q (q.gtr rfl rfl (decide_eq_true (by omega))) rfl<|R.nil ?_
                  refine R.aE rfl rfl ?_
                  refine R.reg rfl<|R.q (q.build (cs:=[.slice none 0 0,.slice none 0 0,.slice none 0 0,.slice none 0 0,.int .i64 0,.int .i64 0]) cJ rfl rfl) rfl<|R.q (q.iface rfl bz) rfl<|?_
                  refine R.s rfl (s.st (us:=[.slice none 0 0,.slice none 0 0,.slice none 0 0,.slice none 0 0,.int .i64 0,.int .i64 0]) (cs':=[.slice none 0 0,.slice none 0 0,.slice none 0 0,.slice none 0 0,.int .i64 0,.int .i64 0]) 3 _ rfl rfl rfl rfl (.inl av) rfl rfl rfl rfl) fun _=>?_
                  refine R.u 1 rfl<|R.nil ?_
                  refine R.mp (fun _ hw=>hw.aU (α:=ak)) ?_
                  refine R.mp (fun _ hw=>hw.aU (α:=ai)) ?_
                  refine R.mp (fun _ hw=>hw.aU (α:=Held)) ?_
                  refine R.mp (fun _ hw=>hw.aU (α:=Note)) ?_
                  have hz:bO r p d slot rights=((⟨[],[],[],[],0,0⟩:au),9):=by (rw [List.take_of_length_le (by omega)] at HC;subst HC;unfold bO;(repeat' split) <;> first|rfl|(exfalso;omega)|(simp_all;done))
                  rw [hz]
                  exact R.w2 ((.slice none 0 0),(.slice none 0 0),(.slice none 0 0),(.slice none 0 0)) [6] [3,2,1,0] rfl Tryz.results36 (RV.cell 3 rfl rfl av) (RV.tmp rfl) rfl rfl rfl (cx rfl (dC (by decide) rfl))
                ·
                  refine R.q (q.gtr rfl rfl (decide_eq_false (by omega))) rfl<|R.nil ?_
                  refine R.aH rfl rfl ?_
                  refine R.reg rfl<|R.q (q.cF 0 rfl rfl aN) rfl<|R.q (q.aX (off':=4) rfl bL rfl) rfl<|R.q (q.ld 5 rfl rfl aA rfl) rfl<|R.u 1 rfl<|R.c (q.call pN rfl rfl (fun w hw=>(gO (((ap r (⟨p.ag,slot⟩:Place)).1)) (r.ae) (rights) (0) w  (by omega)))) rfl<|R.u 3 rfl<|?_
                  refine R.s rfl (s.alloc (cs:=[.int .i64 0,.int .i64 0,.int .i64 0,.int .i64 0,.int .i64 0]) br rfl rfl) fun b11=>?_
                  refine R.s rfl (s.st (us:=[.int .i64 (((derived ((ap r (⟨p.ag,slot⟩:Place)).1) r.ae rights 0).1).ID),.int .i64 (((derived ((ap r (⟨p.ag,slot⟩:Place)).1) r.ae rights 0).1).ai),.int .i64 (((derived ((ap r (⟨p.ag,slot⟩:Place)).1) r.ae rights 0).1).Rights),.int .i64 (((derived ((ap r (⟨p.ag,slot⟩:Place)).1) r.ae rights 0).1).ar),.int .i64 (((derived ((ap r (⟨p.ag,slot⟩:Place)).1) r.ae rights 0).1).From)]) (cs':=[.int .i64 (((derived ((ap r (⟨p.ag,slot⟩:Place)).1) r.ae rights 0).1).ID),.int .i64 (((derived ((ap r (⟨p.ag,slot⟩:Place)).1) r.ae rights 0).1).ai),.int .i64 (((derived ((ap r (⟨p.ag,slot⟩:Place)).1) r.ae rights 0).1).Rights),.int .i64 (((derived ((ap r (⟨p.ag,slot⟩:Place)).1) r.ae rights 0).1).ar),.int .i64 (((derived ((ap r (⟨p.ag,slot⟩:Place)).1) r.ae rights 0).1).From)]) 0 _ rfl rfl rfl rfl (.inl aN) rfl rfl rfl rfl) fun _=>?_
                  refine R.u 1 rfl<|R.nil ?_
                  refine R.reg rfl<|R.u 1 rfl<|?_
                  by_cases h10:(derived ((ap r (⟨p.ag,slot⟩:Place)).1) r.ae rights 0).2=0
                  ·
                    refine R.q (q.fa rfl rfl Tryz.underlying35 (by omega)) rfl<|R.nil ?_
                    refine R.aH rfl rfl ?_
                    refine R.reg rfl<|R.q (q.cF 6 rfl rfl av) rfl<|R.q (q.cF 0 rfl rfl aN) rfl<|R.q (q.build (cs:=[.int .i64 0,.int .i64 0]) lW rfl rfl) rfl<|?_
                    refine R.s (B':=(fun g_:Value×Value×Value×Value=>[ah.box b11 [.int .i64 (((derived ((ap r (⟨p.ag,slot⟩:Place)).1) r.ae rights 0).1).ID),.int .i64 (((derived ((ap r (⟨p.ag,slot⟩:Place)).1) r.ae rights 0).1).ai),.int .i64 (((derived ((ap r (⟨p.ag,slot⟩:Place)).1) r.ae rights 0).1).Rights),.int .i64 (((derived ((ap r (⟨p.ag,slot⟩:Place)).1) r.ae rights 0).1).ar),.int .i64 (((derived ((ap r (⟨p.ag,slot⟩:Place)).1) r.ae rights 0).1).From)] 88,ah.box b10 [.int .i64 (((ap r (⟨p.ag,slot⟩:Place)).1).ID),.int .i64 (((ap r (⟨p.ag,slot⟩:Place)).1).ai),.int .i64 (((ap r (⟨p.ag,slot⟩:Place)).1).Rights),.int .i64 (((ap r (⟨p.ag,slot⟩:Place)).1).ar),.int .i64 (((ap r (⟨p.ag,slot⟩:Place)).1).From)] 88,ah.box b6 [.int .i64 (((ay r p 2 2).1).ai),.string d,.int .i64 (((ay r p 2 2).1).ar),.int .i64 0] 72,ah.box b4 [.int .i64 (((ay r p 2 2).1).ID),.int .i64 (((ay r p 2 2).1).ai),.int .i64 (((ay r p 2 2).1).Rights),.int .i64 (((ay r p 2 2).1).ar),.int .i64 (((ay r p 2 2).1).From)] 88,ah.box b3 [.slice none 0 0,.slice none 0 0,.slice none 0 0,.slice none 0 0,.int .i64 0,.int .i64 0] 32,ah.box b2 [.int .i64 p.ag,.int .i64 p.Slot] 39,ah.box b1 [aD,az,aC,aB,.int .i64 r.ae,.int .i64 r.af] 32,ah.held w own])) (F':=(fun g_:Value×Value×Value×Value=>[ah.ls g_.1 (((aQ r ((derived ((ap r (⟨p.ag,slot⟩:Place)).1) r.ae rights 0).1) (⟨0,0⟩:Place))).aj:List ak),ah.ls g_.2.1 (((aQ r ((derived ((ap r (⟨p.ag,slot⟩:Place)).1) r.ae rights 0).1) (⟨0,0⟩:Place))).Things:List ai),ah.ls g_.2.2.1 (((aQ r ((derived ((ap r (⟨p.ag,slot⟩:Place)).1) r.ae rights 0).1) (⟨0,0⟩:Place))).Held:List Held),ah.ls g_.2.2.2 (((aQ r ((derived ((ap r (⟨p.ag,slot⟩:Place)).1) r.ae rights 0).1) (⟨0,0⟩:Place))).Notes:List Note),ah.ls aD (r.aj:List ak),ah.ls az (r.Things:List ai),ah.ls aC (r.Held:List Held),ah.ls aB (r.Notes:List Note)])) rfl (s.bA (B0:=[]) (Br:=[ah.box b11 [.int .i64 (((derived ((ap r (⟨p.ag,slot⟩:Place)).1) r.ae rights 0).1).ID),.int .i64 (((derived ((ap r (⟨p.ag,slot⟩:Place)).1) r.ae rights 0).1).ai),.int .i64 (((derived ((ap r (⟨p.ag,slot⟩:Place)).1) r.ae rights 0).1).Rights),.int .i64 (((derived ((ap r (⟨p.ag,slot⟩:Place)).1) r.ae rights 0).1).ar),.int .i64 (((derived ((ap r (⟨p.ag,slot⟩:Place)).1) r.ae rights 0).1).From)] 88,ah.box b10 [.int .i64 (((ap r (⟨p.ag,slot⟩:Place)).1).ID),.int .i64 (((ap r (⟨p.ag,slot⟩:Place)).1).ai),.int .i64 (((ap r (⟨p.ag,slot⟩:Place)).1).Rights),.int .i64 (((ap r (⟨p.ag,slot⟩:Place)).1).ar),.int .i64 (((ap r (⟨p.ag,slot⟩:Place)).1).From)] 88,ah.box b6 [.int .i64 (((ay r p 2 2).1).ai),.string d,.int .i64 (((ay r p 2 2).1).ar),.int .i64 0] 72,ah.box b4 [.int .i64 (((ay r p 2 2).1).ID),.int .i64 (((ay r p 2 2).1).ai),.int .i64 (((ay r p 2 2).1).Rights),.int .i64 (((ay r p 2 2).1).ar),.int .i64 (((ay r p 2 2).1).From)] 88,ah.box b3 [.slice none 0 0,.slice none 0 0,.slice none 0 0,.slice none 0 0,.int .i64 0,.int .i64 0] 32,ah.box b2 [.int .i64 p.ag,.int .i64 p.Slot] 39,ah.box b1 [aD,az,aC,aB,.int .i64 r.ae,.int .i64 r.af] 32,ah.held w own]) (F0:=[ah.ls aD (r.aj:List ak),ah.ls az (r.Things:List ai),ah.ls aC (r.Held:List Held),ah.ls aB (r.Notes:List Note)]) [0,1,2,3,4,5,6,7] [0,1,2,3] (fun g_:Value×Value×Value×Value => .agg #[g_.1,g_.2.1,g_.2.2.1,g_.2.2.2,.int .i64 (((aQ r ((derived ((ap r (⟨p.ag,slot⟩:Place)).1) r.ae rights 0).1) (⟨0,0⟩:Place))).ae),.int .i64 (((aQ r ((derived ((ap r (⟨p.ag,slot⟩:Place)).1) r.ae rights 0).1) (⟨0,0⟩:Place))).af)]) (fun g_:Value×Value×Value×Value=>[]) (fun g_:Value×Value×Value×Value=>[ah.ls g_.1 (((aQ r ((derived ((ap r (⟨p.ag,slot⟩:Place)).1) r.ae rights 0).1) (⟨0,0⟩:Place))).aj:List ak),ah.ls g_.2.1 (((aQ r ((derived ((ap r (⟨p.ag,slot⟩:Place)).1) r.ae rights 0).1) (⟨0,0⟩:Place))).Things:List ai),ah.ls g_.2.2.1 (((aQ r ((derived ((ap r (⟨p.ag,slot⟩:Place)).1) r.ae rights 0).1) (⟨0,0⟩:Place))).Held:List Held),ah.ls g_.2.2.2 (((aQ r ((derived ((ap r (⟨p.ag,slot⟩:Place)).1) r.ae rights 0).1) (⟨0,0⟩:Place))).Notes:List Note)]) rfl rfl rfl pO rfl rfl (fun w own hw H=>jK aD az aC aB (r) (((derived ((ap r (⟨p.ag,slot⟩:Place)).1) r.ae rights 0).1)) ((⟨0,0⟩:Place)) w own H (by first|omega|(dsimp only;omega))) rfl) ?_
                    rintro ⟨z5,z6,z7,z8⟩
                    dsimp only
                    refine R.s rfl (s.eH (us:=[z5,z6,z7,z8,.int .i64 ((aQ r ((derived ((ap r (⟨p.ag,slot⟩:Place)).1) r.ae rights 0).1) (⟨0,0⟩:Place)).ae),.int .i64 ((aQ r ((derived ((ap r (⟨p.ag,slot⟩:Place)).1) r.ae rights 0).1) (⟨0,0⟩:Place)).af)]) (cs':=[z5,z6,z7,z8,.int .i64 ((aQ r ((derived ((ap r (⟨p.ag,slot⟩:Place)).1) r.ae rights 0).1) (⟨0,0⟩:Place)).ae),.int .i64 ((aQ r ((derived ((ap r (⟨p.ag,slot⟩:Place)).1) r.ae rights 0).1) (⟨0,0⟩:Place)).af)]) 6 _ rfl rfl rfl (fun _ _=>rfl) (.inl av) (fun w hw=>(ao (Sl.one ((fun _=>Wd.aS 0 rfl) w hw)) (ao (Sl.one ((fun _=>Wd.aS 1 rfl) w hw)) (ao (Sl.one ((fun _=>Wd.aS 2 rfl) w hw)) (ao (Sl.one ((fun _=>Wd.aS 3 rfl) w hw)) (ao rfl (ao rfl aO))))))) rfl rfl rfl) fun _=>?_
                    refine R.nil ?_
                    refine R.reg rfl<|R.q (q.aX (off':=0) rfl bu rfl) rfl<|R.q (q.ld 0 rfl rfl aA rfl) rfl<|R.q (q.aX (off':=3) rfl eP rfl) rfl<|?_
                    refine R.s rfl (s.st (us:=[.int .i64 (((derived ((ap r (⟨p.ag,slot⟩:Place)).1) r.ae rights 0).1).ID)]) (cs':=[.int .i64 (((ay r p 2 2).1).ai),.string d,.int .i64 (((ay r p 2 2).1).ar),.int .i64 (((derived ((ap r (⟨p.ag,slot⟩:Place)).1) r.ae rights 0).1).ID)]) 2 _ rfl rfl rfl rfl (.inr ⟨aA,rfl⟩) rfl rfl rfl rfl) fun _=>?_
                    refine R.nil ?_
                    refine R.fT (fuel:=8) (Wd w (blks []++own) [ah.box b11 [.int .i64 (((derived ((ap r (⟨p.ag,slot⟩:Place)).1) r.ae rights 0).1).ID),.int .i64 (((derived ((ap r (⟨p.ag,slot⟩:Place)).1) r.ae rights 0).1).ai),.int .i64 (((derived ((ap r (⟨p.ag,slot⟩:Place)).1) r.ae rights 0).1).Rights),.int .i64 (((derived ((ap r (⟨p.ag,slot⟩:Place)).1) r.ae rights 0).1).ar),.int .i64 (((derived ((ap r (⟨p.ag,slot⟩:Place)).1) r.ae rights 0).1).From)] 88,ah.box b10 [.int .i64 (((ap r (⟨p.ag,slot⟩:Place)).1).ID),.int .i64 (((ap r (⟨p.ag,slot⟩:Place)).1).ai),.int .i64 (((ap r (⟨p.ag,slot⟩:Place)).1).Rights),.int .i64 (((ap r (⟨p.ag,slot⟩:Place)).1).ar),.int .i64 (((ap r (⟨p.ag,slot⟩:Place)).1).From)] 88,ah.box b6 [.int .i64 (((ay r p 2 2).1).ai),.string d,.int .i64 (((ay r p 2 2).1).ar),.int .i64 (((derived ((ap r (⟨p.ag,slot⟩:Place)).1) r.ae rights 0).1).ID)] 72,ah.box b4 [.int .i64 (((ay r p 2 2).1).ID),.int .i64 (((ay r p 2 2).1).ai),.int .i64 (((ay r p 2 2).1).Rights),.int .i64 (((ay r p 2 2).1).ar),.int .i64 (((ay r p 2 2).1).From)] 88,ah.box b3 [.slice none 0 0,.slice none 0 0,.slice none 0 0,.slice none 0 0,.int .i64 0,.int .i64 0] 32,ah.box b2 [.int .i64 p.ag,.int .i64 p.Slot] 39,ah.held w own] [ah.ls z5 ((aQ r ((derived ((ap r (⟨p.ag,slot⟩:Place)).1) r.ae rights 0).1) (⟨0,0⟩:Place)).aj:List ak),ah.ls z6 ((aQ r ((derived ((ap r (⟨p.ag,slot⟩:Place)).1) r.ae rights 0).1) (⟨0,0⟩:Place)).Things:List ai),ah.ls z7 ((aQ r ((derived ((ap r (⟨p.ag,slot⟩:Place)).1) r.ae rights 0).1) (⟨0,0⟩:Place)).Held:List Held),ah.ls z8 ((aQ r ((derived ((ap r (⟨p.ag,slot⟩:Place)).1) r.ae rights 0).1) (⟨0,0⟩:Place)).Notes:List Note),ah.ls aD (r.aj:List ak),ah.ls az (r.Things:List ai),ah.ls aC (r.Held:List Held),ah.ls aB (r.Notes:List Note)]) rfl mixed rfl ?_
                    refine D.q (i:=0) rfl (by kernel_rfl) (fun _=>Wd.aK [0,1,2,3,4,5,7] [0,1,2,3,4,5,6,7] rfl rfl rfl) rfl (q.aX (off':=3) rfl bK rfl) rfl<|D.q (i:=3) rfl (by kernel_rfl) (fun _=>Wd.aK [0,1,2,3,4,5,7] [0,1,2,3,4,5,6,7] rfl rfl rfl) rfl (q.cF 2 rfl rfl bT) rfl<|?_
                    refine D.two (i:=1) (j:=4) (by kernel_rfl) rfl rfl ?_ ?_
                    ·
                      refine Do.s (s.c (Qt.a (q.ld 6 rfl rfl bX rfl)) rfl) (fun _=>(fun _=>Wd.aK [0,1,2,3,4,5,7] [0,1,2,3,4,5,6,7] rfl rfl rfl)) rfl fun _=>?_
                      refine D.two (i:=2) (j:=4) (by kernel_rfl) rfl rfl ?_ ?_
                      ·
                        refine Do.s (B':=(fun aG:Value=>[ah.row 72 aG (((aQ r ((derived ((ap r (⟨p.ag,slot⟩:Place)).1) r.ae rights 0).1) (⟨0,0⟩:Place)).Notes):List Note),ah.box b11 [.int .i64 (((derived ((ap r (⟨p.ag,slot⟩:Place)).1) r.ae rights 0).1).ID),.int .i64 (((derived ((ap r (⟨p.ag,slot⟩:Place)).1) r.ae rights 0).1).ai),.int .i64 (((derived ((ap r (⟨p.ag,slot⟩:Place)).1) r.ae rights 0).1).Rights),.int .i64 (((derived ((ap r (⟨p.ag,slot⟩:Place)).1) r.ae rights 0).1).ar),.int .i64 (((derived ((ap r (⟨p.ag,slot⟩:Place)).1) r.ae rights 0).1).From)] 88,ah.box b10 [.int .i64 (((ap r (⟨p.ag,slot⟩:Place)).1).ID),.int .i64 (((ap r (⟨p.ag,slot⟩:Place)).1).ai),.int .i64 (((ap r (⟨p.ag,slot⟩:Place)).1).Rights),.int .i64 (((ap r (⟨p.ag,slot⟩:Place)).1).ar),.int .i64 (((ap r (⟨p.ag,slot⟩:Place)).1).From)] 88,ah.box b6 [.int .i64 (((ay r p 2 2).1).ai),.string d,.int .i64 (((ay r p 2 2).1).ar),.int .i64 (((derived ((ap r (⟨p.ag,slot⟩:Place)).1) r.ae rights 0).1).ID)] 72,ah.box b4 [.int .i64 (((ay r p 2 2).1).ID),.int .i64 (((ay r p 2 2).1).ai),.int .i64 (((ay r p 2 2).1).Rights),.int .i64 (((ay r p 2 2).1).ar),.int .i64 (((ay r p 2 2).1).From)] 88,ah.box b3 [.slice none 0 0,.slice none 0 0,.slice none 0 0,.slice none 0 0,.int .i64 0,.int .i64 0] 32,ah.box b2 [.int .i64 p.ag,.int .i64 p.Slot] 39,ah.box b1 [z5,z6,z7,z8,.int .i64 ((aQ r ((derived ((ap r (⟨p.ag,slot⟩:Place)).1) r.ae rights 0).1) (⟨0,0⟩:Place)).ae),.int .i64 ((aQ r ((derived ((ap r (⟨p.ag,slot⟩:Place)).1) r.ae rights 0).1) (⟨0,0⟩:Place)).af)] 32,ah.held w own])) (F':=(fun aG:Value=>[ah.ls z5 ((aQ r ((derived ((ap r (⟨p.ag,slot⟩:Place)).1) r.ae rights 0).1) (⟨0,0⟩:Place)).aj:List ak),ah.ls z6 ((aQ r ((derived ((ap r (⟨p.ag,slot⟩:Place)).1) r.ae rights 0).1) (⟨0,0⟩:Place)).Things:List ai),ah.ls z7 ((aQ r ((derived ((ap r (⟨p.ag,slot⟩:Place)).1) r.ae rights 0).1) (⟨0,0⟩:Place)).Held:List Held),ah.ls z8 ((aQ r ((derived ((ap r (⟨p.ag,slot⟩:Place)).1) r.ae rights 0).1) (⟨0,0⟩:Place)).Notes:List Note),ah.ls aD (r.aj:List ak),ah.ls az (r.Things:List ai),ah.ls aC (r.Held:List Held),ah.ls aB (r.Notes:List Note)])) (s.bA (B0:=[]) (Br:=[ah.box b11 [.int .i64 (((derived ((ap r (⟨p.ag,slot⟩:Place)).1) r.ae rights 0).1).ID),.int .i64 (((derived ((ap r (⟨p.ag,slot⟩:Place)).1) r.ae rights 0).1).ai),.int .i64 (((derived ((ap r (⟨p.ag,slot⟩:Place)).1) r.ae rights 0).1).Rights),.int .i64 (((derived ((ap r (⟨p.ag,slot⟩:Place)).1) r.ae rights 0).1).ar),.int .i64 (((derived ((ap r (⟨p.ag,slot⟩:Place)).1) r.ae rights 0).1).From)] 88,ah.box b10 [.int .i64 (((ap r (⟨p.ag,slot⟩:Place)).1).ID),.int .i64 (((ap r (⟨p.ag,slot⟩:Place)).1).ai),.int .i64 (((ap r (⟨p.ag,slot⟩:Place)).1).Rights),.int .i64 (((ap r (⟨p.ag,slot⟩:Place)).1).ar),.int .i64 (((ap r (⟨p.ag,slot⟩:Place)).1).From)] 88,ah.box b6 [.int .i64 (((ay r p 2 2).1).ai),.string d,.int .i64 (((ay r p 2 2).1).ar),.int .i64 (((derived ((ap r (⟨p.ag,slot⟩:Place)).1) r.ae rights 0).1).ID)] 72,ah.box b4 [.int .i64 (((ay r p 2 2).1).ID),.int .i64 (((ay r p 2 2).1).ai),.int .i64 (((ay r p 2 2).1).Rights),.int .i64 (((ay r p 2 2).1).ar),.int .i64 (((ay r p 2 2).1).From)] 88,ah.box b3 [.slice none 0 0,.slice none 0 0,.slice none 0 0,.slice none 0 0,.int .i64 0,.int .i64 0] 32,ah.box b2 [.int .i64 p.ag,.int .i64 p.Slot] 39,ah.box b1 [z5,z6,z7,z8,.int .i64 ((aQ r ((derived ((ap r (⟨p.ag,slot⟩:Place)).1) r.ae rights 0).1) (⟨0,0⟩:Place)).ae),.int .i64 ((aQ r ((derived ((ap r (⟨p.ag,slot⟩:Place)).1) r.ae rights 0).1) (⟨0,0⟩:Place)).af)] 32,ah.held w own]) (F0:=[ah.ls z8 ((aQ r ((derived ((ap r (⟨p.ag,slot⟩:Place)).1) r.ae rights 0).1) (⟨0,0⟩:Place)).Notes:List Note)]) [0,1,2,3,4,5,6,7] [3] (fun aG:Value=>aG) (fun aG:Value=>[ah.row 72 aG (((aQ r ((derived ((ap r (⟨p.ag,slot⟩:Place)).1) r.ae rights 0).1) (⟨0,0⟩:Place)).Notes):List Note)]) (fun aG:Value=>[]) rfl rfl rfl lZ rfl rfl (fun w own hw H=>dN z8 ((aQ r ((derived ((ap r (⟨p.ag,slot⟩:Place)).1) r.ae rights 0).1) (⟨0,0⟩:Place)).Notes) w own H (by first|omega|assumption|(simp;done)|(simp;omega))) rfl) (fun _=>(fun _=>Wd.aK [1,2,3,4,5,6,8] [0,1,2,3,4,5,6,7] rfl rfl rfl)) rfl fun qH=>?_
                        refine D.one (i:=4) (by kernel_rfl) rfl ?_
                        refine Do.s (s.bs (l:=([(⟨((ay r p 2 2).1).ai,d,((ay r p 2 2).1).ar,((derived ((ap r (⟨p.ag,slot⟩:Place)).1) r.ae rights 0).1).ID⟩:Note)]:List Note)) dH dq rfl rfl rfl rfl rfl rfl rfl) (fun _=>(fun _=>Wd.aK [2,3,4,5,6,7,9] [0,1,2,3,4,5,6,7] rfl rfl rfl)) rfl fun b12=>?_
                        refine D.one (i:=5) (by kernel_rfl) rfl ?_
                        refine Do.s (s.app (l2:=[(⟨((ay r p 2 2).1).ai,d,((ay r p 2 2).1).ar,((derived ((ap r (⟨p.ag,slot⟩:Place)).1) r.ae rights 0).1).ID⟩:Note)]) 1 _ rfl rfl rfl (fun _=>Wd.row 0 rfl) fF (by first|omega|(simp;omega)) (by first|omega|(simp;omega)) (fun _=>rfl) rfl) (fun _=>(fun _=>Wd.aK [2,3,4,5,6,7,9] [0,1,2,3,4,5,6,7] rfl rfl rfl)) rfl fun v4=>?_
                        refine D.q (i:=6) rfl (by kernel_rfl) (fun _=>Wd.aK [2,3,4,5,6,7,9] [0,1,2,3,4,5,6,7] rfl rfl rfl) rfl (q.aX (off':=3) rfl bK rfl) rfl<|?_
                        refine D.one (i:=7) (by kernel_rfl) rfl ?_
                        refine Do.s (s.eH (us:=[v4]) (cs':=[z5,z6,z7,v4,.int .i64 ((aQ r ((derived ((ap r (⟨p.ag,slot⟩:Place)).1) r.ae rights 0).1) (⟨0,0⟩:Place)).ae),.int .i64 ((aQ r ((derived ((ap r (⟨p.ag,slot⟩:Place)).1) r.ae rights 0).1) (⟨0,0⟩:Place)).af)]) 8 _ rfl rfl rfl (fun w hw=>Sl.cr ((fun _=>Wd.row 1 rfl) w hw)) (.inr ⟨bX,rfl⟩) (fun w hw=>(ao (Sl.one ((fun _=>Wd.row 1 rfl) w hw)) aO)) rfl rfl rfl) (fun _=>(fun _=>Wd.aK [2,3,4,5,6,7,9] [0,1,2,3,4,5,6,7] rfl rfl rfl)) rfl fun _=>?_
                        refine D.done (by kernel_rfl)<|?_
                        refine R.reg rfl<|R.q (q.cF 8 rfl rfl av) rfl<|?_
                        refine R.s rfl (s.eH (us:=[z5,z6,z7,v4,.int .i64 ((aQ r ((derived ((ap r (⟨p.ag,slot⟩:Place)).1) r.ae rights 0).1) (⟨0,0⟩:Place)).ae),.int .i64 ((aQ r ((derived ((ap r (⟨p.ag,slot⟩:Place)).1) r.ae rights 0).1) (⟨0,0⟩:Place)).af)]) (cs':=[z5,z6,z7,v4,.int .i64 ((aQ r ((derived ((ap r (⟨p.ag,slot⟩:Place)).1) r.ae rights 0).1) (⟨0,0⟩:Place)).ae),.int .i64 ((aQ r ((derived ((ap r (⟨p.ag,slot⟩:Place)).1) r.ae rights 0).1) (⟨0,0⟩:Place)).af)]) 6 _ rfl rfl rfl (fun _ _=>rfl) (.inl av) (fun w hw=>(ao (Sl.one ((fun _=>Wd.aS 0 rfl) w hw)) (ao (Sl.one ((fun _=>Wd.aS 1 rfl) w hw)) (ao (Sl.one ((fun _=>Wd.aS 2 rfl) w hw)) (ao (Sl.one ((fun _=>Wd.row 1 rfl) w hw)) (ao rfl (ao rfl aO))))))) rfl rfl rfl) fun _=>?_
                        refine R.u 1 rfl<|R.nil ?_
                        refine R.mp (B':=[ah.row 72 (.slice (some ⟨b12,0,none⟩) 1 1) ([(⟨((ay r p 2 2).1).ai,d,((ay r p 2 2).1).ar,((derived ((ap r (⟨p.ag,slot⟩:Place)).1) r.ae rights 0).1).ID⟩:Note)]:List Note),ah.box b11 [.int .i64 (((derived ((ap r (⟨p.ag,slot⟩:Place)).1) r.ae rights 0).1).ID),.int .i64 (((derived ((ap r (⟨p.ag,slot⟩:Place)).1) r.ae rights 0).1).ai),.int .i64 (((derived ((ap r (⟨p.ag,slot⟩:Place)).1) r.ae rights 0).1).Rights),.int .i64 (((derived ((ap r (⟨p.ag,slot⟩:Place)).1) r.ae rights 0).1).ar),.int .i64 (((derived ((ap r (⟨p.ag,slot⟩:Place)).1) r.ae rights 0).1).From)] 88,ah.box b10 [.int .i64 (((ap r (⟨p.ag,slot⟩:Place)).1).ID),.int .i64 (((ap r (⟨p.ag,slot⟩:Place)).1).ai),.int .i64 (((ap r (⟨p.ag,slot⟩:Place)).1).Rights),.int .i64 (((ap r (⟨p.ag,slot⟩:Place)).1).ar),.int .i64 (((ap r (⟨p.ag,slot⟩:Place)).1).From)] 88,ah.box b6 [.int .i64 (((ay r p 2 2).1).ai),.string d,.int .i64 (((ay r p 2 2).1).ar),.int .i64 (((derived ((ap r (⟨p.ag,slot⟩:Place)).1) r.ae rights 0).1).ID)] 72,ah.box b4 [.int .i64 (((ay r p 2 2).1).ID),.int .i64 (((ay r p 2 2).1).ai),.int .i64 (((ay r p 2 2).1).Rights),.int .i64 (((ay r p 2 2).1).ar),.int .i64 (((ay r p 2 2).1).From)] 88,ah.box b3 [z5,z6,z7,v4,.int .i64 ((aQ r ((derived ((ap r (⟨p.ag,slot⟩:Place)).1) r.ae rights 0).1) (⟨0,0⟩:Place)).ae),.int .i64 ((aQ r ((derived ((ap r (⟨p.ag,slot⟩:Place)).1) r.ae rights 0).1) (⟨0,0⟩:Place)).af)] 32,ah.box b2 [.int .i64 p.ag,.int .i64 p.Slot] 39,ah.box b1 [z5,z6,z7,v4,.int .i64 ((aQ r ((derived ((ap r (⟨p.ag,slot⟩:Place)).1) r.ae rights 0).1) (⟨0,0⟩:Place)).ae),.int .i64 ((aQ r ((derived ((ap r (⟨p.ag,slot⟩:Place)).1) r.ae rights 0).1) (⟨0,0⟩:Place)).af)] 32,ah.held w own]) (fun _ hw=>hw.dh 1 _ rfl rfl) ?_
                        have hz:bO r p d slot rights=((⟨(aQ r ((derived ((ap r (⟨p.ag,slot⟩:Place)).1) r.ae rights 0).1) (⟨0,0⟩:Place)).aj,(aQ r ((derived ((ap r (⟨p.ag,slot⟩:Place)).1) r.ae rights 0).1) (⟨0,0⟩:Place)).Things,(aQ r ((derived ((ap r (⟨p.ag,slot⟩:Place)).1) r.ae rights 0).1) (⟨0,0⟩:Place)).Held,(((aQ r ((derived ((ap r (⟨p.ag,slot⟩:Place)).1) r.ae rights 0).1) (⟨0,0⟩:Place)).Notes)++([(⟨((ay r p 2 2).1).ai,d,((ay r p 2 2).1).ar,((derived ((ap r (⟨p.ag,slot⟩:Place)).1) r.ae rights 0).1).ID⟩:Note)])),(aQ r ((derived ((ap r (⟨p.ag,slot⟩:Place)).1) r.ae rights 0).1) (⟨0,0⟩:Place)).ae,(aQ r ((derived ((ap r (⟨p.ag,slot⟩:Place)).1) r.ae rights 0).1) (⟨0,0⟩:Place)).af⟩:au),0):=by (rw [List.take_of_length_le (by omega)] at HC;subst HC;unfold bO;(repeat' split) <;> first|rfl|(exfalso;omega)|(simp_all;done))
                        rw [hz]
                        exact R.w2 (z5,z6,z7,v4) [8] [1,2,3,0] rfl Tryz.results36 (RV.cell 5 rfl rfl av) (RV.tmp rfl) rfl rfl rfl (cx rfl (gj rfl))
                      ·
                        refine Do.s (s.bs (l:=([(⟨((ay r p 2 2).1).ai,d,((ay r p 2 2).1).ar,((derived ((ap r (⟨p.ag,slot⟩:Place)).1) r.ae rights 0).1).ID⟩:Note)]:List Note)) dH dq rfl rfl rfl rfl rfl rfl rfl) (fun _=>(fun _=>Wd.aK [1,2,3,4,5,6,8] [0,1,2,3,4,5,6,7] rfl rfl rfl)) rfl fun b13=>?_
                        refine D.one (i:=2) (by kernel_rfl) rfl ?_
                        refine Do.s (B':=(fun aG:Value=>[ah.row 72 aG (((aQ r ((derived ((ap r (⟨p.ag,slot⟩:Place)).1) r.ae rights 0).1) (⟨0,0⟩:Place)).Notes):List Note),ah.row 72 (.slice (some ⟨b13,0,none⟩) 1 1) ([(⟨((ay r p 2 2).1).ai,d,((ay r p 2 2).1).ar,((derived ((ap r (⟨p.ag,slot⟩:Place)).1) r.ae rights 0).1).ID⟩:Note)]:List Note),ah.box b11 [.int .i64 (((derived ((ap r (⟨p.ag,slot⟩:Place)).1) r.ae rights 0).1).ID),.int .i64 (((derived ((ap r (⟨p.ag,slot⟩:Place)).1) r.ae rights 0).1).ai),.int .i64 (((derived ((ap r (⟨p.ag,slot⟩:Place)).1) r.ae rights 0).1).Rights),.int .i64 (((derived ((ap r (⟨p.ag,slot⟩:Place)).1) r.ae rights 0).1).ar),.int .i64 (((derived ((ap r (⟨p.ag,slot⟩:Place)).1) r.ae rights 0).1).From)] 88,ah.box b10 [.int .i64 (((ap r (⟨p.ag,slot⟩:Place)).1).ID),.int .i64 (((ap r (⟨p.ag,slot⟩:Place)).1).ai),.int .i64 (((ap r (⟨p.ag,slot⟩:Place)).1).Rights),.int .i64 (((ap r (⟨p.ag,slot⟩:Place)).1).ar),.int .i64 (((ap r (⟨p.ag,slot⟩:Place)).1).From)] 88,ah.box b6 [.int .i64 (((ay r p 2 2).1).ai),.string d,.int .i64 (((ay r p 2 2).1).ar),.int .i64 (((derived ((ap r (⟨p.ag,slot⟩:Place)).1) r.ae rights 0).1).ID)] 72,ah.box b4 [.int .i64 (((ay r p 2 2).1).ID),.int .i64 (((ay r p 2 2).1).ai),.int .i64 (((ay r p 2 2).1).Rights),.int .i64 (((ay r p 2 2).1).ar),.int .i64 (((ay r p 2 2).1).From)] 88,ah.box b3 [.slice none 0 0,.slice none 0 0,.slice none 0 0,.slice none 0 0,.int .i64 0,.int .i64 0] 32,ah.box b2 [.int .i64 p.ag,.int .i64 p.Slot] 39,ah.box b1 [z5,z6,z7,z8,.int .i64 ((aQ r ((derived ((ap r (⟨p.ag,slot⟩:Place)).1) r.ae rights 0).1) (⟨0,0⟩:Place)).ae),.int .i64 ((aQ r ((derived ((ap r (⟨p.ag,slot⟩:Place)).1) r.ae rights 0).1) (⟨0,0⟩:Place)).af)] 32,ah.held w own])) (F':=(fun aG:Value=>[ah.ls z5 ((aQ r ((derived ((ap r (⟨p.ag,slot⟩:Place)).1) r.ae rights 0).1) (⟨0,0⟩:Place)).aj:List ak),ah.ls z6 ((aQ r ((derived ((ap r (⟨p.ag,slot⟩:Place)).1) r.ae rights 0).1) (⟨0,0⟩:Place)).Things:List ai),ah.ls z7 ((aQ r ((derived ((ap r (⟨p.ag,slot⟩:Place)).1) r.ae rights 0).1) (⟨0,0⟩:Place)).Held:List Held),ah.ls z8 ((aQ r ((derived ((ap r (⟨p.ag,slot⟩:Place)).1) r.ae rights 0).1) (⟨0,0⟩:Place)).Notes:List Note),ah.ls aD (r.aj:List ak),ah.ls az (r.Things:List ai),ah.ls aC (r.Held:List Held),ah.ls aB (r.Notes:List Note)])) (s.bA (B0:=[]) (Br:=[ah.row 72 (.slice (some ⟨b13,0,none⟩) 1 1) ([(⟨((ay r p 2 2).1).ai,d,((ay r p 2 2).1).ar,((derived ((ap r (⟨p.ag,slot⟩:Place)).1) r.ae rights 0).1).ID⟩:Note)]:List Note),ah.box b11 [.int .i64 (((derived ((ap r (⟨p.ag,slot⟩:Place)).1) r.ae rights 0).1).ID),.int .i64 (((derived ((ap r (⟨p.ag,slot⟩:Place)).1) r.ae rights 0).1).ai),.int .i64 (((derived ((ap r (⟨p.ag,slot⟩:Place)).1) r.ae rights 0).1).Rights),.int .i64 (((derived ((ap r (⟨p.ag,slot⟩:Place)).1) r.ae rights 0).1).ar),.int .i64 (((derived ((ap r (⟨p.ag,slot⟩:Place)).1) r.ae rights 0).1).From)] 88,ah.box b10 [.int .i64 (((ap r (⟨p.ag,slot⟩:Place)).1).ID),.int .i64 (((ap r (⟨p.ag,slot⟩:Place)).1).ai),.int .i64 (((ap r (⟨p.ag,slot⟩:Place)).1).Rights),.int .i64 (((ap r (⟨p.ag,slot⟩:Place)).1).ar),.int .i64 (((ap r (⟨p.ag,slot⟩:Place)).1).From)] 88,ah.box b6 [.int .i64 (((ay r p 2 2).1).ai),.string d,.int .i64 (((ay r p 2 2).1).ar),.int .i64 (((derived ((ap r (⟨p.ag,slot⟩:Place)).1) r.ae rights 0).1).ID)] 72,ah.box b4 [.int .i64 (((ay r p 2 2).1).ID),.int .i64 (((ay r p 2 2).1).ai),.int .i64 (((ay r p 2 2).1).Rights),.int .i64 (((ay r p 2 2).1).ar),.int .i64 (((ay r p 2 2).1).From)] 88,ah.box b3 [.slice none 0 0,.slice none 0 0,.slice none 0 0,.slice none 0 0,.int .i64 0,.int .i64 0] 32,ah.box b2 [.int .i64 p.ag,.int .i64 p.Slot] 39,ah.box b1 [z5,z6,z7,z8,.int .i64 ((aQ r ((derived ((ap r (⟨p.ag,slot⟩:Place)).1) r.ae rights 0).1) (⟨0,0⟩:Place)).ae),.int .i64 ((aQ r ((derived ((ap r (⟨p.ag,slot⟩:Place)).1) r.ae rights 0).1) (⟨0,0⟩:Place)).af)] 32,ah.held w own]) (F0:=[ah.ls z8 ((aQ r ((derived ((ap r (⟨p.ag,slot⟩:Place)).1) r.ae rights 0).1) (⟨0,0⟩:Place)).Notes:List Note)]) [0,1,2,3,4,5,6,7,8] [3] (fun aG:Value=>aG) (fun aG:Value=>[ah.row 72 aG (((aQ r ((derived ((ap r (⟨p.ag,slot⟩:Place)).1) r.ae rights 0).1) (⟨0,0⟩:Place)).Notes):List Note)]) (fun aG:Value=>[]) rfl rfl rfl lZ rfl rfl (fun w own hw H=>dN z8 ((aQ r ((derived ((ap r (⟨p.ag,slot⟩:Place)).1) r.ae rights 0).1) (⟨0,0⟩:Place)).Notes) w own H (by first|omega|assumption|(simp;done)|(simp;omega))) rfl) (fun _=>(fun _=>Wd.aK [2,3,4,5,6,7,9] [0,1,2,3,4,5,6,7] rfl rfl rfl)) rfl fun ui=>?_
                        refine D.one (i:=5) (by kernel_rfl) rfl ?_
                        refine Do.s (s.app (l2:=[(⟨((ay r p 2 2).1).ai,d,((ay r p 2 2).1).ar,((derived ((ap r (⟨p.ag,slot⟩:Place)).1) r.ae rights 0).1).ID⟩:Note)]) 0 _ rfl rfl rfl (fun _=>Wd.row 1 rfl) fF (by first|omega|(simp;omega)) (by first|omega|(simp;omega)) (fun _=>rfl) rfl) (fun _=>(fun _=>Wd.aK [2,3,4,5,6,7,9] [0,1,2,3,4,5,6,7] rfl rfl rfl)) rfl fun v5=>?_
                        refine D.q (i:=6) rfl (by kernel_rfl) (fun _=>Wd.aK [2,3,4,5,6,7,9] [0,1,2,3,4,5,6,7] rfl rfl rfl) rfl (q.aX (off':=3) rfl bK rfl) rfl<|?_
                        refine D.one (i:=7) (by kernel_rfl) rfl ?_
                        refine Do.s (s.eH (us:=[v5]) (cs':=[z5,z6,z7,v5,.int .i64 ((aQ r ((derived ((ap r (⟨p.ag,slot⟩:Place)).1) r.ae rights 0).1) (⟨0,0⟩:Place)).ae),.int .i64 ((aQ r ((derived ((ap r (⟨p.ag,slot⟩:Place)).1) r.ae rights 0).1) (⟨0,0⟩:Place)).af)]) 8 _ rfl rfl rfl (fun w hw=>Sl.cr ((fun _=>Wd.row 0 rfl) w hw)) (.inr ⟨bX,rfl⟩) (fun w hw=>(ao (Sl.one ((fun _=>Wd.row 0 rfl) w hw)) aO)) rfl rfl rfl) (fun _=>(fun _=>Wd.aK [2,3,4,5,6,7,9] [0,1,2,3,4,5,6,7] rfl rfl rfl)) rfl fun _=>?_
                        refine D.done (by kernel_rfl)<|?_
                        refine R.reg rfl<|R.q (q.cF 8 rfl rfl av) rfl<|?_
                        refine R.s rfl (s.eH (us:=[z5,z6,z7,v5,.int .i64 ((aQ r ((derived ((ap r (⟨p.ag,slot⟩:Place)).1) r.ae rights 0).1) (⟨0,0⟩:Place)).ae),.int .i64 ((aQ r ((derived ((ap r (⟨p.ag,slot⟩:Place)).1) r.ae rights 0).1) (⟨0,0⟩:Place)).af)]) (cs':=[z5,z6,z7,v5,.int .i64 ((aQ r ((derived ((ap r (⟨p.ag,slot⟩:Place)).1) r.ae rights 0).1) (⟨0,0⟩:Place)).ae),.int .i64 ((aQ r ((derived ((ap r (⟨p.ag,slot⟩:Place)).1) r.ae rights 0).1) (⟨0,0⟩:Place)).af)]) 6 _ rfl rfl rfl (fun _ _=>rfl) (.inl av) (fun w hw=>(ao (Sl.one ((fun _=>Wd.aS 0 rfl) w hw)) (ao (Sl.one ((fun _=>Wd.aS 1 rfl) w hw)) (ao (Sl.one ((fun _=>Wd.aS 2 rfl) w hw)) (ao (Sl.one ((fun _=>Wd.row 0 rfl) w hw)) (ao rfl (ao rfl aO))))))) rfl rfl rfl) fun _=>?_
                        refine R.u 1 rfl<|R.nil ?_
                        refine R.mp (B':=[ah.row 72 (.slice (some ⟨b13,0,none⟩) 1 1) ([(⟨((ay r p 2 2).1).ai,d,((ay r p 2 2).1).ar,((derived ((ap r (⟨p.ag,slot⟩:Place)).1) r.ae rights 0).1).ID⟩:Note)]:List Note),ah.box b11 [.int .i64 (((derived ((ap r (⟨p.ag,slot⟩:Place)).1) r.ae rights 0).1).ID),.int .i64 (((derived ((ap r (⟨p.ag,slot⟩:Place)).1) r.ae rights 0).1).ai),.int .i64 (((derived ((ap r (⟨p.ag,slot⟩:Place)).1) r.ae rights 0).1).Rights),.int .i64 (((derived ((ap r (⟨p.ag,slot⟩:Place)).1) r.ae rights 0).1).ar),.int .i64 (((derived ((ap r (⟨p.ag,slot⟩:Place)).1) r.ae rights 0).1).From)] 88,ah.box b10 [.int .i64 (((ap r (⟨p.ag,slot⟩:Place)).1).ID),.int .i64 (((ap r (⟨p.ag,slot⟩:Place)).1).ai),.int .i64 (((ap r (⟨p.ag,slot⟩:Place)).1).Rights),.int .i64 (((ap r (⟨p.ag,slot⟩:Place)).1).ar),.int .i64 (((ap r (⟨p.ag,slot⟩:Place)).1).From)] 88,ah.box b6 [.int .i64 (((ay r p 2 2).1).ai),.string d,.int .i64 (((ay r p 2 2).1).ar),.int .i64 (((derived ((ap r (⟨p.ag,slot⟩:Place)).1) r.ae rights 0).1).ID)] 72,ah.box b4 [.int .i64 (((ay r p 2 2).1).ID),.int .i64 (((ay r p 2 2).1).ai),.int .i64 (((ay r p 2 2).1).Rights),.int .i64 (((ay r p 2 2).1).ar),.int .i64 (((ay r p 2 2).1).From)] 88,ah.box b3 [z5,z6,z7,v5,.int .i64 ((aQ r ((derived ((ap r (⟨p.ag,slot⟩:Place)).1) r.ae rights 0).1) (⟨0,0⟩:Place)).ae),.int .i64 ((aQ r ((derived ((ap r (⟨p.ag,slot⟩:Place)).1) r.ae rights 0).1) (⟨0,0⟩:Place)).af)] 32,ah.box b2 [.int .i64 p.ag,.int .i64 p.Slot] 39,ah.box b1 [z5,z6,z7,v5,.int .i64 ((aQ r ((derived ((ap r (⟨p.ag,slot⟩:Place)).1) r.ae rights 0).1) (⟨0,0⟩:Place)).ae),.int .i64 ((aQ r ((derived ((ap r (⟨p.ag,slot⟩:Place)).1) r.ae rights 0).1) (⟨0,0⟩:Place)).af)] 32,ah.held w own]) (fun _ hw=>hw.dh 0 _ rfl rfl) ?_
                        have hz:bO r p d slot rights=((⟨(aQ r ((derived ((ap r (⟨p.ag,slot⟩:Place)).1) r.ae rights 0).1) (⟨0,0⟩:Place)).aj,(aQ r ((derived ((ap r (⟨p.ag,slot⟩:Place)).1) r.ae rights 0).1) (⟨0,0⟩:Place)).Things,(aQ r ((derived ((ap r (⟨p.ag,slot⟩:Place)).1) r.ae rights 0).1) (⟨0,0⟩:Place)).Held,(((aQ r ((derived ((ap r (⟨p.ag,slot⟩:Place)).1) r.ae rights 0).1) (⟨0,0⟩:Place)).Notes)++([(⟨((ay r p 2 2).1).ai,d,((ay r p 2 2).1).ar,((derived ((ap r (⟨p.ag,slot⟩:Place)).1) r.ae rights 0).1).ID⟩:Note)])),(aQ r ((derived ((ap r (⟨p.ag,slot⟩:Place)).1) r.ae rights 0).1) (⟨0,0⟩:Place)).ae,(aQ r ((derived ((ap r (⟨p.ag,slot⟩:Place)).1) r.ae rights 0).1) (⟨0,0⟩:Place)).af⟩:au),0):=by (rw [List.take_of_length_le (by omega)] at HC;subst HC;unfold bO;(repeat' split) <;> first|rfl|(exfalso;omega)|(simp_all;done))
                        rw [hz]
                        exact R.w2 (z5,z6,z7,v5) [8] [1,2,3,0] rfl Tryz.results36 (RV.cell 5 rfl rfl av) (RV.tmp rfl) rfl rfl rfl (cx rfl (gj rfl))
                    ·
                      refine Do.s (s.bs (l:=([(⟨((ay r p 2 2).1).ai,d,((ay r p 2 2).1).ar,((derived ((ap r (⟨p.ag,slot⟩:Place)).1) r.ae rights 0).1).ID⟩:Note)]:List Note)) dH dq rfl rfl rfl rfl rfl rfl rfl) (fun _=>(fun _=>Wd.aK [1,2,3,4,5,6,8] [0,1,2,3,4,5,6,7] rfl rfl rfl)) rfl fun b14=>?_
                      refine D.one (i:=1) (by kernel_rfl) rfl ?_
                      refine Do.s (s.c (Qt.a (q.ld 7 rfl rfl bX rfl)) rfl) (fun _=>(fun _=>Wd.aK [1,2,3,4,5,6,8] [0,1,2,3,4,5,6,7] rfl rfl rfl)) rfl fun _=>?_
                      refine D.one (i:=2) (by kernel_rfl) rfl ?_
                      refine Do.s (B':=(fun aG:Value=>[ah.row 72 aG (((aQ r ((derived ((ap r (⟨p.ag,slot⟩:Place)).1) r.ae rights 0).1) (⟨0,0⟩:Place)).Notes):List Note),ah.row 72 (.slice (some ⟨b14,0,none⟩) 1 1) ([(⟨((ay r p 2 2).1).ai,d,((ay r p 2 2).1).ar,((derived ((ap r (⟨p.ag,slot⟩:Place)).1) r.ae rights 0).1).ID⟩:Note)]:List Note),ah.box b11 [.int .i64 (((derived ((ap r (⟨p.ag,slot⟩:Place)).1) r.ae rights 0).1).ID),.int .i64 (((derived ((ap r (⟨p.ag,slot⟩:Place)).1) r.ae rights 0).1).ai),.int .i64 (((derived ((ap r (⟨p.ag,slot⟩:Place)).1) r.ae rights 0).1).Rights),.int .i64 (((derived ((ap r (⟨p.ag,slot⟩:Place)).1) r.ae rights 0).1).ar),.int .i64 (((derived ((ap r (⟨p.ag,slot⟩:Place)).1) r.ae rights 0).1).From)] 88,ah.box b10 [.int .i64 (((ap r (⟨p.ag,slot⟩:Place)).1).ID),.int .i64 (((ap r (⟨p.ag,slot⟩:Place)).1).ai),.int .i64 (((ap r (⟨p.ag,slot⟩:Place)).1).Rights),.int .i64 (((ap r (⟨p.ag,slot⟩:Place)).1).ar),.int .i64 (((ap r (⟨p.ag,slot⟩:Place)).1).From)] 88,ah.box b6 [.int .i64 (((ay r p 2 2).1).ai),.string d,.int .i64 (((ay r p 2 2).1).ar),.int .i64 (((derived ((ap r (⟨p.ag,slot⟩:Place)).1) r.ae rights 0).1).ID)] 72,ah.box b4 [.int .i64 (((ay r p 2 2).1).ID),.int .i64 (((ay r p 2 2).1).ai),.int .i64 (((ay r p 2 2).1).Rights),.int .i64 (((ay r p 2 2).1).ar),.int .i64 (((ay r p 2 2).1).From)] 88,ah.box b3 [.slice none 0 0,.slice none 0 0,.slice none 0 0,.slice none 0 0,.int .i64 0,.int .i64 0] 32,ah.box b2 [.int .i64 p.ag,.int .i64 p.Slot] 39,ah.box b1 [z5,z6,z7,z8,.int .i64 ((aQ r ((derived ((ap r (⟨p.ag,slot⟩:Place)).1) r.ae rights 0).1) (⟨0,0⟩:Place)).ae),.int .i64 ((aQ r ((derived ((ap r (⟨p.ag,slot⟩:Place)).1) r.ae rights 0).1) (⟨0,0⟩:Place)).af)] 32,ah.held w own])) (F':=(fun aG:Value=>[ah.ls z5 ((aQ r ((derived ((ap r (⟨p.ag,slot⟩:Place)).1) r.ae rights 0).1) (⟨0,0⟩:Place)).aj:List ak),ah.ls z6 ((aQ r ((derived ((ap r (⟨p.ag,slot⟩:Place)).1) r.ae rights 0).1) (⟨0,0⟩:Place)).Things:List ai),ah.ls z7 ((aQ r ((derived ((ap r (⟨p.ag,slot⟩:Place)).1) r.ae rights 0).1) (⟨0,0⟩:Place)).Held:List Held),ah.ls z8 ((aQ r ((derived ((ap r (⟨p.ag,slot⟩:Place)).1) r.ae rights 0).1) (⟨0,0⟩:Place)).Notes:List Note),ah.ls aD (r.aj:List ak),ah.ls az (r.Things:List ai),ah.ls aC (r.Held:List Held),ah.ls aB (r.Notes:List Note)])) (s.bA (B0:=[]) (Br:=[ah.row 72 (.slice (some ⟨b14,0,none⟩) 1 1) ([(⟨((ay r p 2 2).1).ai,d,((ay r p 2 2).1).ar,((derived ((ap r (⟨p.ag,slot⟩:Place)).1) r.ae rights 0).1).ID⟩:Note)]:List Note),ah.box b11 [.int .i64 (((derived ((ap r (⟨p.ag,slot⟩:Place)).1) r.ae rights 0).1).ID),.int .i64 (((derived ((ap r (⟨p.ag,slot⟩:Place)).1) r.ae rights 0).1).ai),.int .i64 (((derived ((ap r (⟨p.ag,slot⟩:Place)).1) r.ae rights 0).1).Rights),.int .i64 (((derived ((ap r (⟨p.ag,slot⟩:Place)).1) r.ae rights 0).1).ar),.int .i64 (((derived ((ap r (⟨p.ag,slot⟩:Place)).1) r.ae rights 0).1).From)] 88,ah.box b10 [.int .i64 (((ap r (⟨p.ag,slot⟩:Place)).1).ID),.int .i64 (((ap r (⟨p.ag,slot⟩:Place)).1).ai),.int .i64 (((ap r (⟨p.ag,slot⟩:Place)).1).Rights),.int .i64 (((ap r (⟨p.ag,slot⟩:Place)).1).ar),.int .i64 (((ap r (⟨p.ag,slot⟩:Place)).1).From)] 88,ah.box b6 [.int .i64 (((ay r p 2 2).1).ai),.string d,.int .i64 (((ay r p 2 2).1).ar),.int .i64 (((derived ((ap r (⟨p.ag,slot⟩:Place)).1) r.ae rights 0).1).ID)] 72,ah.box b4 [.int .i64 (((ay r p 2 2).1).ID),.int .i64 (((ay r p 2 2).1).ai),.int .i64 (((ay r p 2 2).1).Rights),.int .i64 (((ay r p 2 2).1).ar),.int .i64 (((ay r p 2 2).1).From)] 88,ah.box b3 [.slice none 0 0,.slice none 0 0,.slice none 0 0,.slice none 0 0,.int .i64 0,.int .i64 0] 32,ah.box b2 [.int .i64 p.ag,.int .i64 p.Slot] 39,ah.box b1 [z5,z6,z7,z8,.int .i64 ((aQ r ((derived ((ap r (⟨p.ag,slot⟩:Place)).1) r.ae rights 0).1) (⟨0,0⟩:Place)).ae),.int .i64 ((aQ r ((derived ((ap r (⟨p.ag,slot⟩:Place)).1) r.ae rights 0).1) (⟨0,0⟩:Place)).af)] 32,ah.held w own]) (F0:=[ah.ls z8 ((aQ r ((derived ((ap r (⟨p.ag,slot⟩:Place)).1) r.ae rights 0).1) (⟨0,0⟩:Place)).Notes:List Note)]) [0,1,2,3,4,5,6,7,8] [3] (fun aG:Value=>aG) (fun aG:Value=>[ah.row 72 aG (((aQ r ((derived ((ap r (⟨p.ag,slot⟩:Place)).1) r.ae rights 0).1) (⟨0,0⟩:Place)).Notes):List Note)]) (fun aG:Value=>[]) rfl rfl rfl lZ rfl rfl (fun w own hw H=>dN z8 ((aQ r ((derived ((ap r (⟨p.ag,slot⟩:Place)).1) r.ae rights 0).1) (⟨0,0⟩:Place)).Notes) w own H (by first|omega|assumption|(simp;done)|(simp;omega))) rfl) (fun _=>(fun _=>Wd.aK [2,3,4,5,6,7,9] [0,1,2,3,4,5,6,7] rfl rfl rfl)) rfl fun z12=>?_
                      refine D.one (i:=5) (by kernel_rfl) rfl ?_
                      refine Do.s (s.app (l2:=[(⟨((ay r p 2 2).1).ai,d,((ay r p 2 2).1).ar,((derived ((ap r (⟨p.ag,slot⟩:Place)).1) r.ae rights 0).1).ID⟩:Note)]) 0 _ rfl rfl rfl (fun _=>Wd.row 1 rfl) fF (by first|omega|(simp;omega)) (by first|omega|(simp;omega)) (fun _=>rfl) rfl) (fun _=>(fun _=>Wd.aK [2,3,4,5,6,7,9] [0,1,2,3,4,5,6,7] rfl rfl rfl)) rfl fun v6=>?_
                      refine D.q (i:=6) rfl (by kernel_rfl) (fun _=>Wd.aK [2,3,4,5,6,7,9] [0,1,2,3,4,5,6,7] rfl rfl rfl) rfl (q.aX (off':=3) rfl bK rfl) rfl<|?_
                      refine D.one (i:=7) (by kernel_rfl) rfl ?_
                      refine Do.s (s.eH (us:=[v6]) (cs':=[z5,z6,z7,v6,.int .i64 ((aQ r ((derived ((ap r (⟨p.ag,slot⟩:Place)).1) r.ae rights 0).1) (⟨0,0⟩:Place)).ae),.int .i64 ((aQ r ((derived ((ap r (⟨p.ag,slot⟩:Place)).1) r.ae rights 0).1) (⟨0,0⟩:Place)).af)]) 8 _ rfl rfl rfl (fun w hw=>Sl.cr ((fun _=>Wd.row 0 rfl) w hw)) (.inr ⟨bX,rfl⟩) (fun w hw=>(ao (Sl.one ((fun _=>Wd.row 0 rfl) w hw)) aO)) rfl rfl rfl) (fun _=>(fun _=>Wd.aK [2,3,4,5,6,7,9] [0,1,2,3,4,5,6,7] rfl rfl rfl)) rfl fun _=>?_
                      refine D.done (by kernel_rfl)<|?_
                      refine R.reg rfl<|R.q (q.cF 8 rfl rfl av) rfl<|?_
                      refine R.s rfl (s.eH (us:=[z5,z6,z7,v6,.int .i64 ((aQ r ((derived ((ap r (⟨p.ag,slot⟩:Place)).1) r.ae rights 0).1) (⟨0,0⟩:Place)).ae),.int .i64 ((aQ r ((derived ((ap r (⟨p.ag,slot⟩:Place)).1) r.ae rights 0).1) (⟨0,0⟩:Place)).af)]) (cs':=[z5,z6,z7,v6,.int .i64 ((aQ r ((derived ((ap r (⟨p.ag,slot⟩:Place)).1) r.ae rights 0).1) (⟨0,0⟩:Place)).ae),.int .i64 ((aQ r ((derived ((ap r (⟨p.ag,slot⟩:Place)).1) r.ae rights 0).1) (⟨0,0⟩:Place)).af)]) 6 _ rfl rfl rfl (fun _ _=>rfl) (.inl av) (fun w hw=>(ao (Sl.one ((fun _=>Wd.aS 0 rfl) w hw)) (ao (Sl.one ((fun _=>Wd.aS 1 rfl) w hw)) (ao (Sl.one ((fun _=>Wd.aS 2 rfl) w hw)) (ao (Sl.one ((fun _=>Wd.row 0 rfl) w hw)) (ao rfl (ao rfl aO))))))) rfl rfl rfl) fun _=>?_
                      refine R.u 1 rfl<|R.nil ?_
                      refine R.mp (B':=[ah.row 72 (.slice (some ⟨b14,0,none⟩) 1 1) ([(⟨((ay r p 2 2).1).ai,d,((ay r p 2 2).1).ar,((derived ((ap r (⟨p.ag,slot⟩:Place)).1) r.ae rights 0).1).ID⟩:Note)]:List Note),ah.box b11 [.int .i64 (((derived ((ap r (⟨p.ag,slot⟩:Place)).1) r.ae rights 0).1).ID),.int .i64 (((derived ((ap r (⟨p.ag,slot⟩:Place)).1) r.ae rights 0).1).ai),.int .i64 (((derived ((ap r (⟨p.ag,slot⟩:Place)).1) r.ae rights 0).1).Rights),.int .i64 (((derived ((ap r (⟨p.ag,slot⟩:Place)).1) r.ae rights 0).1).ar),.int .i64 (((derived ((ap r (⟨p.ag,slot⟩:Place)).1) r.ae rights 0).1).From)] 88,ah.box b10 [.int .i64 (((ap r (⟨p.ag,slot⟩:Place)).1).ID),.int .i64 (((ap r (⟨p.ag,slot⟩:Place)).1).ai),.int .i64 (((ap r (⟨p.ag,slot⟩:Place)).1).Rights),.int .i64 (((ap r (⟨p.ag,slot⟩:Place)).1).ar),.int .i64 (((ap r (⟨p.ag,slot⟩:Place)).1).From)] 88,ah.box b6 [.int .i64 (((ay r p 2 2).1).ai),.string d,.int .i64 (((ay r p 2 2).1).ar),.int .i64 (((derived ((ap r (⟨p.ag,slot⟩:Place)).1) r.ae rights 0).1).ID)] 72,ah.box b4 [.int .i64 (((ay r p 2 2).1).ID),.int .i64 (((ay r p 2 2).1).ai),.int .i64 (((ay r p 2 2).1).Rights),.int .i64 (((ay r p 2 2).1).ar),.int .i64 (((ay r p 2 2).1).From)] 88,ah.box b3 [z5,z6,z7,v6,.int .i64 ((aQ r ((derived ((ap r (⟨p.ag,slot⟩:Place)).1) r.ae rights 0).1) (⟨0,0⟩:Place)).ae),.int .i64 ((aQ r ((derived ((ap r (⟨p.ag,slot⟩:Place)).1) r.ae rights 0).1) (⟨0,0⟩:Place)).af)] 32,ah.box b2 [.int .i64 p.ag,.int .i64 p.Slot] 39,ah.box b1 [z5,z6,z7,v6,.int .i64 ((aQ r ((derived ((ap r (⟨p.ag,slot⟩:Place)).1) r.ae rights 0).1) (⟨0,0⟩:Place)).ae),.int .i64 ((aQ r ((derived ((ap r (⟨p.ag,slot⟩:Place)).1) r.ae rights 0).1) (⟨0,0⟩:Place)).af)] 32,ah.held w own]) (fun _ hw=>hw.dh 0 _ rfl rfl) ?_
                      have hz:bO r p d slot rights=((⟨(aQ r ((derived ((ap r (⟨p.ag,slot⟩:Place)).1) r.ae rights 0).1) (⟨0,0⟩:Place)).aj,(aQ r ((derived ((ap r (⟨p.ag,slot⟩:Place)).1) r.ae rights 0).1) (⟨0,0⟩:Place)).Things,(aQ r ((derived ((ap r (⟨p.ag,slot⟩:Place)).1) r.ae rights 0).1) (⟨0,0⟩:Place)).Held,(((aQ r ((derived ((ap r (⟨p.ag,slot⟩:Place)).1) r.ae rights 0).1) (⟨0,0⟩:Place)).Notes)++([(⟨((ay r p 2 2).1).ai,d,((ay r p 2 2).1).ar,((derived ((ap r (⟨p.ag,slot⟩:Place)).1) r.ae rights 0).1).ID⟩:Note)])),(aQ r ((derived ((ap r (⟨p.ag,slot⟩:Place)).1) r.ae rights 0).1) (⟨0,0⟩:Place)).ae,(aQ r ((derived ((ap r (⟨p.ag,slot⟩:Place)).1) r.ae rights 0).1) (⟨0,0⟩:Place)).af⟩:au),0):=by (rw [List.take_of_length_le (by omega)] at HC;subst HC;unfold bO;(repeat' split) <;> first|rfl|(exfalso;omega)|(simp_all;done))
                      rw [hz]
                      exact R.w2 (z5,z6,z7,v6) [8] [1,2,3,0] rfl Tryz.results36 (RV.cell 5 rfl rfl av) (RV.tmp rfl) rfl rfl rfl (cx rfl (gj rfl))
                  ·
                    refine R.q (q.fb rfl rfl Tryz.underlying35 (by omega)) rfl<|R.nil ?_
                    refine R.aE rfl rfl ?_
                    refine R.reg rfl<|R.q (q.build (cs:=[.slice none 0 0,.slice none 0 0,.slice none 0 0,.slice none 0 0,.int .i64 0,.int .i64 0]) cJ rfl rfl) rfl<|R.u 1 rfl<|?_
                    refine R.s rfl (s.st (us:=[.slice none 0 0,.slice none 0 0,.slice none 0 0,.slice none 0 0,.int .i64 0,.int .i64 0]) (cs':=[.slice none 0 0,.slice none 0 0,.slice none 0 0,.slice none 0 0,.int .i64 0,.int .i64 0]) 4 _ rfl rfl rfl rfl (.inl av) rfl rfl rfl rfl) fun _=>?_
                    refine R.u 1 rfl<|R.nil ?_
                    refine R.mp (fun _ hw=>hw.aU (α:=ak)) ?_
                    refine R.mp (fun _ hw=>hw.aU (α:=ai)) ?_
                    refine R.mp (fun _ hw=>hw.aU (α:=Held)) ?_
                    refine R.mp (fun _ hw=>hw.aU (α:=Note)) ?_
                    have hz:bO r p d slot rights=((⟨[],[],[],[],0,0⟩:au),(derived ((ap r (⟨p.ag,slot⟩:Place)).1) r.ae rights 0).2):=by (rw [List.take_of_length_le (by omega)] at HC;subst HC;unfold bO;(repeat' split) <;> first|rfl|(exfalso;omega)|(simp_all;done))
                    rw [hz]
                    exact R.w2 ((.slice none 0 0),(.slice none 0 0),(.slice none 0 0),(.slice none 0 0)) [7] [3,2,1,0] rfl Tryz.results36 (RV.cell 4 rfl rfl av) (RV.tmp rfl) rfl rfl rfl (cx rfl rfl)
              ·
                refine R.q (q.fb rfl rfl Tryz.underlying35 (by omega)) rfl<|R.nil ?_
                refine R.aE rfl rfl ?_
                refine R.reg rfl<|R.q (q.build (cs:=[.slice none 0 0,.slice none 0 0,.slice none 0 0,.slice none 0 0,.int .i64 0,.int .i64 0]) cJ rfl rfl) rfl<|R.u 1 rfl<|?_
                refine R.s rfl (s.st (us:=[.slice none 0 0,.slice none 0 0,.slice none 0 0,.slice none 0 0,.int .i64 0,.int .i64 0]) (cs':=[.slice none 0 0,.slice none 0 0,.slice none 0 0,.slice none 0 0,.int .i64 0,.int .i64 0]) 3 _ rfl rfl rfl rfl (.inl av) rfl rfl rfl rfl) fun _=>?_
                refine R.u 1 rfl<|R.nil ?_
                refine R.mp (fun _ hw=>hw.aU (α:=ak)) ?_
                refine R.mp (fun _ hw=>hw.aU (α:=ai)) ?_
                refine R.mp (fun _ hw=>hw.aU (α:=Held)) ?_
                refine R.mp (fun _ hw=>hw.aU (α:=Note)) ?_
                have hz:bO r p d slot rights=((⟨[],[],[],[],0,0⟩:au),(ap r (⟨p.ag,slot⟩:Place)).2):=by (rw [List.take_of_length_le (by omega)] at HC;subst HC;unfold bO;(repeat' split) <;> first|rfl|(exfalso;omega)|(simp_all;done))
                rw [hz]
                exact R.w2 ((.slice none 0 0),(.slice none 0 0),(.slice none 0 0),(.slice none 0 0)) [6] [3,2,1,0] rfl Tryz.results36 (RV.cell 3 rfl rfl av) (RV.tmp rfl) rfl rfl rfl (cx rfl rfl)
            ·
              refine R.c (q.call lX rfl rfl (fun w hw=>(cv (congrArg Value.bool h7) (eh (((ay r p 2 2).1).Rights) (4) w  (by omega) (by omega))))) rfl<|R.u 1 rfl<|R.nil ?_
              refine R.aE rfl rfl ?_
              refine R.reg rfl<|R.q (q.build (cs:=[.slice none 0 0,.slice none 0 0,.slice none 0 0,.slice none 0 0,.int .i64 0,.int .i64 0]) cJ rfl rfl) rfl<|R.q (q.iface rfl bz) rfl<|?_
              refine R.s rfl (s.st (us:=[.slice none 0 0,.slice none 0 0,.slice none 0 0,.slice none 0 0,.int .i64 0,.int .i64 0]) (cs':=[.slice none 0 0,.slice none 0 0,.slice none 0 0,.slice none 0 0,.int .i64 0,.int .i64 0]) 2 _ rfl rfl rfl rfl (.inl av) rfl rfl rfl rfl) fun _=>?_
              refine R.u 1 rfl<|R.nil ?_
              refine R.mp (fun _ hw=>hw.aU (α:=ak)) ?_
              refine R.mp (fun _ hw=>hw.aU (α:=ai)) ?_
              refine R.mp (fun _ hw=>hw.aU (α:=Held)) ?_
              refine R.mp (fun _ hw=>hw.aU (α:=Note)) ?_
              have hz:bO r p d slot rights=((⟨[],[],[],[],0,0⟩:au),7):=by (rw [List.take_of_length_le (by omega)] at HC;subst HC;unfold bO;(repeat' split) <;> first|rfl|(exfalso;omega)|(simp_all;done))
              rw [hz]
              exact R.w2 ((.slice none 0 0),(.slice none 0 0),(.slice none 0 0),(.slice none 0 0)) [5] [3,2,1,0] rfl Tryz.results36 (RV.cell 2 rfl rfl av) (RV.tmp rfl) rfl rfl rfl (cx rfl (dC (by decide) rfl))
  ·
    refine R.q (q.fb rfl rfl Tryz.underlying35 (by omega)) rfl<|R.nil ?_
    refine R.aE rfl rfl ?_
    refine R.reg rfl<|R.q (q.build (cs:=[.slice none 0 0,.slice none 0 0,.slice none 0 0,.slice none 0 0,.int .i64 0,.int .i64 0]) cJ rfl rfl) rfl<|R.u 1 rfl<|?_
    refine R.s rfl (s.st (us:=[.slice none 0 0,.slice none 0 0,.slice none 0 0,.slice none 0 0,.int .i64 0,.int .i64 0]) (cs':=[.slice none 0 0,.slice none 0 0,.slice none 0 0,.slice none 0 0,.int .i64 0,.int .i64 0]) 1 _ rfl rfl rfl rfl (.inl av) rfl rfl rfl rfl) fun _=>?_
    refine R.u 1 rfl<|R.nil ?_
    refine R.mp (fun _ hw=>hw.aU (α:=ak)) ?_
    refine R.mp (fun _ hw=>hw.aU (α:=ai)) ?_
    refine R.mp (fun _ hw=>hw.aU (α:=Held)) ?_
    refine R.mp (fun _ hw=>hw.aU (α:=Note)) ?_
    have hz:bO r p d slot rights=((⟨[],[],[],[],0,0⟩:au),(ay r p 2 2).2.2):=by (unfold bO;(repeat' split) <;> first|rfl|(exfalso;omega)|(simp_all;done))
    rw [hz]
    exact R.w2 ((.slice none 0 0),(.slice none 0 0),(.slice none 0 0),(.slice none 0 0)) [4] [3,2,1,0] rfl Tryz.results36 (RV.cell 1 rfl rfl av) (RV.tmp rfl) rfl rfl rfl (cx rfl rfl)
theorem tH (aD az aC aB:Value)(r:au)(p:Place)(w:World)(own:List Nat)(H:Wd w (blks []++own) ([]++[ah.held w own]) [ah.ls aD (r.aj:List ak),ah.ls az (r.Things:List ai),ah.ls aC (r.Held:List Held),ah.ls aB (r.Notes:List Note)] w)(hk:Ok r):Calls Tryz.prog 37 #[.agg #[aD,az,aC,aB,.int .i64 r.ae,.int .i64 r.af],.agg #[.int .i64 p.ag,.int .i64 p.Slot]] w fun e w' => ∃z:Value×Value×Value×Value,e = .returned (.tuple #[.agg #[z.1,z.2.1,z.2.2.1,z.2.2.2,.int .i64 ((((bD r p)).1).ae),.int .i64 ((((bD r p)).1).af)],.agg #[.int .i64 ((((bD r p)).2.1).Port),.string ((((bD r p)).2.1).Data),.int .i64 ((((bD r p)).2.1).ar),.int .i64 ((((bD r p)).2.1).ak)],.int .i64 (((bD r p)).2.2.1),eG (((bD r p)).2.2.2)])∧Wd w (blks []++own) ([]++[ah.held w own]) [ah.ls z.1 ((((bD r p)).1).aj:List ak),ah.ls z.2.1 ((((bD r p)).1).Things:List ai),ah.ls z.2.2.1 ((((bD r p)).1).Held:List Held),ah.ls z.2.2.2 ((((bD r p)).1).Notes:List Note)] w':=by
  have dF:=H.cL 0 rfl
  have cX:=H.cL 1 rfl
  have ej:=H.cL 2 rfl
  have dG:=H.cL 3 rfl
  have bw:=hk.wl;have bt:=hk.tl;have bh:=hk.hl;have bn:=hk.nl;have wi:=hk.w0;have wj:=hk.w1;have wk:=hk.t0;have wm:=hk.t1
  refine R.cQ (n:=74) (vs:=[.agg #[aD,az,aC,aB,.int .i64 r.ae,.int .i64 r.af],.agg #[.int .i64 p.ag,.int .i64 p.Slot]]) (B:=[ah.held w own]) [(0,.agg #[aD,az,aC,aB,.int .i64 r.ae,.int .i64 r.af]),(1,.agg #[.int .i64 p.ag,.int .i64 p.Slot])] Tryz.func37 rfl rfl rfl rfl H ?_
  refine R.reg rfl<|?_
  refine R.s rfl (s.box (cs:=[aD,az,aC,aB,.int .i64 r.ae,.int .i64 r.af]) rfl rfl rfl) fun b1=>?_
  refine R.s rfl (s.box (cs:=[.int .i64 p.ag,.int .i64 p.Slot]) rfl rfl rfl) fun b2=>?_
  refine R.s rfl (s.alloc (cs:=[.slice none 0 0,.slice none 0 0,.slice none 0 0,.slice none 0 0,.int .i64 0,.int .i64 0]) cj rfl rfl) fun b3=>?_
  refine R.s rfl (s.alloc (cs:=[.int .i64 0,.string (⟨#[]⟩),.int .i64 0,.int .i64 0]) dq rfl rfl) fun b4=>?_
  refine R.u 2 rfl<|R.nil ?_
  refine R.reg rfl<|R.q (q.cF 3 rfl rfl av) rfl<|R.q (q.cF 2 rfl rfl bk) rfl<|R.c (q.call uE rfl rfl (fun w hw=>(nz _ _ _ _ (r) (p) (2) (1) w ((fun _=>Wd.aS 0 rfl) w hw) ((fun _=>Wd.aS 1 rfl) w hw) ((fun _=>Wd.aS 2 rfl) w hw) ((fun _=>Wd.aS 3 rfl) w hw) (by assumption) (by omega)))) rfl<|R.u 4 rfl<|?_
  refine R.s rfl (s.alloc (cs:=[.int .i64 0,.int .i64 0,.int .i64 0,.int .i64 0,.int .i64 0]) br rfl rfl) fun b5=>?_
  refine R.s rfl (s.st (us:=[.int .i64 (((ay r p 2 1).1).ID),.int .i64 (((ay r p 2 1).1).ai),.int .i64 (((ay r p 2 1).1).Rights),.int .i64 (((ay r p 2 1).1).ar),.int .i64 (((ay r p 2 1).1).From)]) (cs':=[.int .i64 (((ay r p 2 1).1).ID),.int .i64 (((ay r p 2 1).1).ai),.int .i64 (((ay r p 2 1).1).Rights),.int .i64 (((ay r p 2 1).1).ar),.int .i64 (((ay r p 2 1).1).From)]) 0 _ rfl rfl rfl rfl (.inl aN) rfl rfl rfl rfl) fun _=>?_
  refine R.u 2 rfl<|R.nil ?_
  refine R.reg rfl<|R.u 1 rfl<|?_
  by_cases h1:(ay r p 2 1).2.2=0
  ·
    refine R.q (q.fa rfl rfl Tryz.underlying35 (by omega)) rfl<|R.nil ?_
    refine R.aH rfl rfl ?_
    refine R.reg rfl<|R.q (q.aX (off':=3) rfl bK rfl) rfl<|R.q (q.ld 4 rfl rfl bX rfl) rfl<|R.q (q.zq (cap:=[.pointer (some ⟨b5,0,none⟩)]) rfl rfl) rfl<|?_
    rcases fB (fun (t:Note)=>t.Port==((ay r p 2 1).1).ai) r.Notes with ⟨du,kx⟩ | ⟨gQ,cR,du,dZ,fr,f8,Bi⟩
    ·
      refine R.c (q.call xP rfl rfl (fun w hw=>(cv (congrArg (Value.int .i64) du) (hM _ (r.Notes) (fun (t:Note)=>t.Port==((ay r p 2 1).1).ai) _ _ xQ w ((fun _=>Wd.aS 3 rfl) w hw) (fun W t hW=>ma t (((ay r p 2 1).1)) _ W (kU (hw.b 0 rfl) hW) ) )))) rfl<|R.u 1 rfl<|R.nil ?_
      refine R.reg rfl<|R.u 1 rfl<|R.q (q.lss (b:=true) rfl rfl (by decide)) rfl<|R.nil ?_
      refine R.aE rfl rfl ?_
      refine R.reg rfl<|R.q (q.build (cs:=[.slice none 0 0,.slice none 0 0,.slice none 0 0,.slice none 0 0,.int .i64 0,.int .i64 0]) cJ rfl rfl) rfl<|R.q (q.build (cs:=[.int .i64 0,.string (⟨#[]⟩),.int .i64 0,.int .i64 0]) sh rfl rfl) rfl<|R.q (q.iface rfl bz) rfl<|?_
      refine R.s rfl (s.st (us:=[.slice none 0 0,.slice none 0 0,.slice none 0 0,.slice none 0 0,.int .i64 0,.int .i64 0]) (cs':=[.slice none 0 0,.slice none 0 0,.slice none 0 0,.slice none 0 0,.int .i64 0,.int .i64 0]) 2 _ rfl rfl rfl rfl (.inl av) rfl rfl rfl rfl) fun _=>?_
      refine R.s rfl (s.st (us:=[.int .i64 0,.string (⟨#[]⟩),.int .i64 0,.int .i64 0]) (cs':=[.int .i64 0,.string (⟨#[]⟩),.int .i64 0,.int .i64 0]) 1 _ rfl rfl rfl rfl (.inl bT) rfl rfl rfl rfl) fun _=>?_
      refine R.u 2 rfl<|R.nil ?_
      refine R.mp (fun _ hw=>hw.aU (α:=ak)) ?_
      refine R.mp (fun _ hw=>hw.aU (α:=ai)) ?_
      refine R.mp (fun _ hw=>hw.aU (α:=Held)) ?_
      refine R.mp (fun _ hw=>hw.aU (α:=Note)) ?_
      have hz:bD r p=((⟨[],[],[],[],0,0⟩:au),(⟨0,⟨#[]⟩,0,0⟩:Note),0,5):=by (unfold bD;first|(rw [if_neg (by assumption)];first|done|rfl)|(rw [if_pos (by assumption),du,show decide ((0:Int) ≤ -1)=false from rfl];cases r.Notes[(-1:Int).toNat]? <;> rfl)|(rw [if_pos (by assumption),du,Int.toNat_natCast,dZ,decide_eq_true (by omega)];dsimp only;(repeat' split) <;> first|rfl|(exfalso;omega)))
      rw [hz]
      exact R.w4 ((.slice none 0 0),(.slice none 0 0),(.slice none 0 0),(.slice none 0 0)) [5] [3,2,1,0] rfl Tryz.results37 (RV.cell 2 rfl rfl av) (RV.cell 1 rfl rfl bT) (RV.tmp rfl) (RV.tmp rfl) rfl rfl rfl (uq rfl rfl rfl (dC (by decide) rfl))
    ·
      refine R.c (q.call xP rfl rfl (fun w hw=>(cv (congrArg (Value.int .i64) du) (hM _ (r.Notes) (fun (t:Note)=>t.Port==((ay r p 2 1).1).ai) _ _ xQ w ((fun _=>Wd.aS 3 rfl) w hw) (fun W t hW=>ma t (((ay r p 2 1).1)) _ W (kU (hw.b 0 rfl) hW) ) )))) rfl<|R.u 1 rfl<|R.nil ?_
      refine R.reg rfl<|R.u 1 rfl<|R.q (q.lss rfl rfl (decide_eq_false (by omega))) rfl<|R.nil ?_
      refine R.aH rfl rfl ?_
      refine R.reg rfl<|R.q (q.aX (off':=3) rfl bK rfl) rfl<|R.q (q.ld 4 rfl rfl bX rfl) rfl<|R.u 1 rfl<|R.q (q.idx (i:=gQ) (fun _=>Wd.aS 3 rfl) rfl rfl dH rfl dZ) rfl<|R.q (q.dY (ds:=[.int .i64 cR.Port,.string cR.Data,.int .i64 cR.ar,.int .i64 cR.ak]) (fun _=>Wd.aS 3 rfl) dZ rfl bT rfl) rfl<|?_
      refine R.s rfl (s.alloc (cs:=[.int .i64 0,.string (⟨#[]⟩),.int .i64 0,.int .i64 0]) dq rfl rfl) fun b6=>?_
      refine R.s rfl (s.st (us:=[.int .i64 cR.Port,.string cR.Data,.int .i64 cR.ar,.int .i64 cR.ak]) (cs':=[.int .i64 cR.Port,.string cR.Data,.int .i64 cR.ar,.int .i64 cR.ak]) 0 _ rfl rfl rfl rfl (.inl bT) rfl rfl rfl rfl) fun _=>?_
      refine R.nil ?_
      refine R.reg rfl<|R.u 1 rfl<|R.nil ?_
      refine R.reg rfl<|R.q (q.aX (off':=3) rfl eP rfl) rfl<|R.q (q.ld 0 rfl rfl aA rfl) rfl<|?_
      by_cases h2:0<cR.ak
      ·
        refine R.q (q.gtr rfl rfl (decide_eq_true (by omega))) rfl<|R.nil ?_
        refine R.aE rfl rfl ?_
        refine R.reg rfl<|R.q (q.aX (off':=2) rfl bJ rfl) rfl<|R.q (q.ld 5 rfl rfl cw rfl) rfl<|R.q (q.aX (off':=0) rfl dE rfl) rfl<|R.q (q.ld 4 rfl rfl aA rfl) rfl<|R.c (q.call Au rfl rfl (fun w hw=>(uU _ (r.Held) (p.ag) w ((fun _=>Wd.aS 2 rfl) w hw) (by first|omega|assumption|(simp;done)|(simp;omega))))) rfl<|R.u 1 rfl<|R.nil ?_
        refine R.reg rfl<|R.u 1 rfl<|?_
        by_cases h3:dR r.Held p.ag<0
        ·
          refine R.q (q.lss rfl rfl (decide_eq_true (by omega))) rfl<|R.nil ?_
          refine R.aE rfl rfl ?_
          refine R.reg rfl<|R.q (q.build (cs:=[.slice none 0 0,.slice none 0 0,.slice none 0 0,.slice none 0 0,.int .i64 0,.int .i64 0]) cJ rfl rfl) rfl<|R.q (q.build (cs:=[.int .i64 0,.string (⟨#[]⟩),.int .i64 0,.int .i64 0]) sh rfl rfl) rfl<|R.q (q.iface rfl bz) rfl<|?_
          refine R.s rfl (s.st (us:=[.slice none 0 0,.slice none 0 0,.slice none 0 0,.slice none 0 0,.int .i64 0,.int .i64 0]) (cs':=[.slice none 0 0,.slice none 0 0,.slice none 0 0,.slice none 0 0,.int .i64 0,.int .i64 0]) 3 _ rfl rfl rfl rfl (.inl av) rfl rfl rfl rfl) fun _=>?_
          refine R.s rfl (s.st (us:=[.int .i64 0,.string (⟨#[]⟩),.int .i64 0,.int .i64 0]) (cs':=[.int .i64 0,.string (⟨#[]⟩),.int .i64 0,.int .i64 0]) 2 _ rfl rfl rfl rfl (.inl bT) rfl rfl rfl rfl) fun _=>?_
          refine R.u 2 rfl<|R.nil ?_
          refine R.mp (fun _ hw=>hw.aU (α:=ak)) ?_
          refine R.mp (fun _ hw=>hw.aU (α:=ai)) ?_
          refine R.mp (fun _ hw=>hw.aU (α:=Held)) ?_
          refine R.mp (fun _ hw=>hw.aU (α:=Note)) ?_
          have hz:bD r p=((⟨[],[],[],[],0,0⟩:au),(⟨0,⟨#[]⟩,0,0⟩:Note),0,9):=by (unfold bD;first|(rw [if_neg (by assumption)];first|done|rfl)|(rw [if_pos (by assumption),du,show decide ((0:Int) ≤ -1)=false from rfl];cases r.Notes[(-1:Int).toNat]? <;> rfl)|(rw [if_pos (by assumption),du,Int.toNat_natCast,dZ,decide_eq_true (by omega)];dsimp only;(repeat' split) <;> first|rfl|(exfalso;omega)))
          rw [hz]
          exact R.w4 ((.slice none 0 0),(.slice none 0 0),(.slice none 0 0),(.slice none 0 0)) [6] [3,2,1,0] rfl Tryz.results37 (RV.cell 3 rfl rfl av) (RV.cell 2 rfl rfl bT) (RV.tmp rfl) (RV.tmp rfl) rfl rfl rfl (uq rfl rfl rfl (dC (by decide) rfl))
        ·
          refine R.q (q.lss rfl rfl (decide_eq_false (by omega))) rfl<|R.nil ?_
          refine R.aH rfl rfl ?_
          refine R.reg rfl<|R.q (q.aX (off':=2) rfl bJ rfl) rfl<|R.q (q.ld 5 rfl rfl cw rfl) rfl<|R.q (q.aX (off':=0) rfl dE rfl) rfl<|R.q (q.ld 4 rfl rfl aA rfl) rfl<|R.u 1 rfl<|R.q (q.build (cs:=[.int .i64 p.ag,.int .i64 (dR r.Held p.ag)]) lW rfl rfl) rfl<|R.q (q.aX (off':=3) rfl eP rfl) rfl<|R.q (q.ld 0 rfl rfl aA rfl) rfl<|?_
          refine R.s (B':=(fun aG:Value=>[ah.row 85 aG ((ck r.Held (⟨p.ag,dR r.Held p.ag⟩:Place) cR.ak):List Held),ah.box b6 [.int .i64 cR.Port,.string cR.Data,.int .i64 cR.ar,.int .i64 cR.ak] 72,ah.box b5 [.int .i64 (((ay r p 2 1).1).ID),.int .i64 (((ay r p 2 1).1).ai),.int .i64 (((ay r p 2 1).1).Rights),.int .i64 (((ay r p 2 1).1).ar),.int .i64 (((ay r p 2 1).1).From)] 88,ah.box b4 [.int .i64 0,.string (⟨#[]⟩),.int .i64 0,.int .i64 0] 72,ah.box b3 [.slice none 0 0,.slice none 0 0,.slice none 0 0,.slice none 0 0,.int .i64 0,.int .i64 0] 32,ah.box b2 [.int .i64 p.ag,.int .i64 p.Slot] 39,ah.box b1 [aD,az,aC,aB,.int .i64 r.ae,.int .i64 r.af] 32,ah.held w own])) (F':=(fun aG:Value=>[ah.ls aD (r.aj:List ak),ah.ls az (r.Things:List ai),ah.ls aC (r.Held:List Held),ah.ls aB (r.Notes:List Note)])) rfl (s.bA (B0:=[]) (Br:=[ah.box b6 [.int .i64 cR.Port,.string cR.Data,.int .i64 cR.ar,.int .i64 cR.ak] 72,ah.box b5 [.int .i64 (((ay r p 2 1).1).ID),.int .i64 (((ay r p 2 1).1).ai),.int .i64 (((ay r p 2 1).1).Rights),.int .i64 (((ay r p 2 1).1).ar),.int .i64 (((ay r p 2 1).1).From)] 88,ah.box b4 [.int .i64 0,.string (⟨#[]⟩),.int .i64 0,.int .i64 0] 72,ah.box b3 [.slice none 0 0,.slice none 0 0,.slice none 0 0,.slice none 0 0,.int .i64 0,.int .i64 0] 32,ah.box b2 [.int .i64 p.ag,.int .i64 p.Slot] 39,ah.box b1 [aD,az,aC,aB,.int .i64 r.ae,.int .i64 r.af] 32,ah.held w own]) (F0:=[ah.ls aC (r.Held:List Held)]) [0,1,2,3,4,5,6] [2] (fun aG:Value=>aG) (fun aG:Value=>[ah.row 85 aG ((ck r.Held (⟨p.ag,dR r.Held p.ag⟩:Place) cR.ak):List Held)]) (fun aG:Value=>[]) rfl rfl rfl ow rfl rfl (fun w own hw H=>jU aC (r.Held) ((⟨p.ag,dR r.Held p.ag⟩:Place)) (cR.ak) w own H (by first|omega|assumption|(simp;done)|(simp;omega))) rfl) fun z1=>?_
          refine R.q (q.aX (off':=2) rfl bJ rfl) rfl<|?_
          refine R.s rfl (s.eH (us:=[z1]) (cs':=[aD,az,z1,aB,.int .i64 r.ae,.int .i64 r.af]) 6 _ rfl rfl rfl (fun w hw=>Sl.cr ((fun _=>Wd.row 0 rfl) w hw)) (.inr ⟨cw,rfl⟩) (fun w hw=>(ao (Sl.one ((fun _=>Wd.row 0 rfl) w hw)) aO)) rfl rfl rfl) fun _=>?_
          refine R.nil ?_
          refine R.reg rfl<|R.q (q.aX (off':=3) rfl bK rfl) rfl<|R.q (q.ld 6 rfl rfl bX rfl) rfl<|?_
          refine R.s (B':=(fun aG:Value=>[ah.row 72 aG (r.Notes:List Note),ah.row 85 z1 (ck r.Held (⟨p.ag,dR r.Held p.ag⟩:Place) cR.ak:List Held),ah.box b6 [.int .i64 cR.Port,.string cR.Data,.int .i64 cR.ar,.int .i64 cR.ak] 72,ah.box b5 [.int .i64 (((ay r p 2 1).1).ID),.int .i64 (((ay r p 2 1).1).ai),.int .i64 (((ay r p 2 1).1).Rights),.int .i64 (((ay r p 2 1).1).ar),.int .i64 (((ay r p 2 1).1).From)] 88,ah.box b4 [.int .i64 0,.string (⟨#[]⟩),.int .i64 0,.int .i64 0] 72,ah.box b3 [.slice none 0 0,.slice none 0 0,.slice none 0 0,.slice none 0 0,.int .i64 0,.int .i64 0] 32,ah.box b2 [.int .i64 p.ag,.int .i64 p.Slot] 39,ah.box b1 [aD,az,z1,aB,.int .i64 r.ae,.int .i64 r.af] 32,ah.held w own])) (F':=(fun aG:Value=>[ah.ls aD (r.aj:List ak),ah.ls az (r.Things:List ai),ah.ls aC (r.Held:List Held),ah.ls aB (r.Notes:List Note)])) rfl (s.bA (B0:=[]) (Br:=[ah.row 85 z1 (ck r.Held (⟨p.ag,dR r.Held p.ag⟩:Place) cR.ak:List Held),ah.box b6 [.int .i64 cR.Port,.string cR.Data,.int .i64 cR.ar,.int .i64 cR.ak] 72,ah.box b5 [.int .i64 (((ay r p 2 1).1).ID),.int .i64 (((ay r p 2 1).1).ai),.int .i64 (((ay r p 2 1).1).Rights),.int .i64 (((ay r p 2 1).1).ar),.int .i64 (((ay r p 2 1).1).From)] 88,ah.box b4 [.int .i64 0,.string (⟨#[]⟩),.int .i64 0,.int .i64 0] 72,ah.box b3 [.slice none 0 0,.slice none 0 0,.slice none 0 0,.slice none 0 0,.int .i64 0,.int .i64 0] 32,ah.box b2 [.int .i64 p.ag,.int .i64 p.Slot] 39,ah.box b1 [aD,az,z1,aB,.int .i64 r.ae,.int .i64 r.af] 32,ah.held w own]) (F0:=[ah.ls aB (r.Notes:List Note)]) [0,1,2,3,4,5,6,7] [3] (fun aG:Value=>aG) (fun aG:Value=>[ah.row 72 aG (r.Notes:List Note)]) (fun aG:Value=>[]) rfl rfl rfl lZ rfl rfl (fun w own hw H=>dN aB (r.Notes) w own H (by first|omega|assumption|(simp;done)|(simp;omega))) rfl) fun z2=>?_
          refine R.u 2 rfl<|R.q (q.add (r:=((gQ+1:Nat):Int)) rfl rfl (wr (by omega))) rfl<|?_
          refine R.s (B':=(fun aG:Value=>[ah.row 72 aG ((r.Notes.take gQ++r.Notes.drop (gQ+1)):List Note),ah.row 85 z1 (ck r.Held (⟨p.ag,dR r.Held p.ag⟩:Place) cR.ak:List Held),ah.box b6 [.int .i64 cR.Port,.string cR.Data,.int .i64 cR.ar,.int .i64 cR.ak] 72,ah.box b5 [.int .i64 (((ay r p 2 1).1).ID),.int .i64 (((ay r p 2 1).1).ai),.int .i64 (((ay r p 2 1).1).Rights),.int .i64 (((ay r p 2 1).1).ar),.int .i64 (((ay r p 2 1).1).From)] 88,ah.box b4 [.int .i64 0,.string (⟨#[]⟩),.int .i64 0,.int .i64 0] 72,ah.box b3 [.slice none 0 0,.slice none 0 0,.slice none 0 0,.slice none 0 0,.int .i64 0,.int .i64 0] 32,ah.box b2 [.int .i64 p.ag,.int .i64 p.Slot] 39,ah.box b1 [aD,az,z1,aB,.int .i64 r.ae,.int .i64 r.af] 32,ah.held w own])) (F':=(fun aG:Value=>[ah.ls aD (r.aj:List ak),ah.ls az (r.Things:List ai),ah.ls aC (r.Held:List Held),ah.ls aB (r.Notes:List Note)])) rfl (s.bA (B0:=[ah.row 72 z2 (r.Notes:List Note)]) (Br:=[ah.row 85 z1 (ck r.Held (⟨p.ag,dR r.Held p.ag⟩:Place) cR.ak:List Held),ah.box b6 [.int .i64 cR.Port,.string cR.Data,.int .i64 cR.ar,.int .i64 cR.ak] 72,ah.box b5 [.int .i64 (((ay r p 2 1).1).ID),.int .i64 (((ay r p 2 1).1).ai),.int .i64 (((ay r p 2 1).1).Rights),.int .i64 (((ay r p 2 1).1).ar),.int .i64 (((ay r p 2 1).1).From)] 88,ah.box b4 [.int .i64 0,.string (⟨#[]⟩),.int .i64 0,.int .i64 0] 72,ah.box b3 [.slice none 0 0,.slice none 0 0,.slice none 0 0,.slice none 0 0,.int .i64 0,.int .i64 0] 32,ah.box b2 [.int .i64 p.ag,.int .i64 p.Slot] 39,ah.box b1 [aD,az,z1,aB,.int .i64 r.ae,.int .i64 r.af] 32,ah.held w own]) (F0:=[]) [0,1,2,3,4,5,6,7,8] [] (fun aG:Value=>aG) (fun aG:Value=>[ah.row 72 aG ((r.Notes.take gQ++r.Notes.drop (gQ+1)):List Note)]) (fun aG:Value=>[]) rfl rfl rfl xR rfl rfl (fun w own hw H=>jJ z2 (r.Notes) (gQ) ((gQ+1)) w own H (by omega)) rfl) fun z3=>?_
          refine R.q (q.aX (off':=3) rfl bK rfl) rfl<|?_
          refine R.s rfl (s.eH (us:=[z3]) (cs':=[aD,az,z1,z3,.int .i64 r.ae,.int .i64 r.af]) 7 _ rfl rfl rfl (fun w hw=>Sl.cr ((fun _=>Wd.row 0 rfl) w hw)) (.inr ⟨bX,rfl⟩) (fun w hw=>(ao (Sl.one ((fun _=>Wd.row 0 rfl) w hw)) aO)) rfl rfl rfl) fun _=>?_
          refine R.nil ?_
          refine R.fT (fuel:=7) (Wd w (blks []++own) [ah.row 72 z3 (r.Notes.take gQ++r.Notes.drop (gQ+1):List Note),ah.row 85 z1 (ck r.Held (⟨p.ag,dR r.Held p.ag⟩:Place) cR.ak:List Held),ah.box b6 [.int .i64 cR.Port,.string cR.Data,.int .i64 cR.ar,.int .i64 cR.ak] 72,ah.box b5 [.int .i64 (((ay r p 2 1).1).ID),.int .i64 (((ay r p 2 1).1).ai),.int .i64 (((ay r p 2 1).1).Rights),.int .i64 (((ay r p 2 1).1).ar),.int .i64 (((ay r p 2 1).1).From)] 88,ah.box b2 [.int .i64 p.ag,.int .i64 p.Slot] 39,ah.box b1 [aD,az,z1,z3,.int .i64 r.ae,.int .i64 r.af] 32,ah.held w own] [ah.ls aD (r.aj:List ak),ah.ls az (r.Things:List ai),ah.ls aC (r.Held:List Held),ah.ls aB (r.Notes:List Note)]) rfl mixed rfl ?_
          refine D.q (i:=0) rfl (by kernel_rfl) (fun _=>Wd.aK [0,1,2,3,6,7,8] [0,1,2,3] rfl rfl rfl) rfl (q.cF 5 rfl rfl av) rfl<|D.q (i:=1) rfl (by kernel_rfl) (fun _=>Wd.aK [0,1,2,3,6,7,8] [0,1,2,3] rfl rfl rfl) rfl (q.cF 2 rfl rfl bT) rfl<|D.q (i:=2) rfl (by kernel_rfl) (fun _=>Wd.aK [0,1,2,3,6,7,8] [0,1,2,3] rfl rfl rfl) rfl (q.mv rfl) rfl<|?_
          refine D.one (i:=3) (by kernel_rfl) rfl ?_
          refine Do.s (s.eH (us:=[aD,az,z1,z3,.int .i64 r.ae,.int .i64 r.af]) (cs':=[aD,az,z1,z3,.int .i64 r.ae,.int .i64 r.af]) 5 _ rfl rfl rfl (fun _ _=>rfl) (.inl av) (fun w hw=>(ao (Sl.one ((fun _=>Wd.aS 0 rfl) w hw)) (ao (Sl.one ((fun _=>Wd.aS 1 rfl) w hw)) (ao (Sl.one ((fun _=>Wd.row 1 rfl) w hw)) (ao (Sl.one ((fun _=>Wd.row 0 rfl) w hw)) (ao rfl (ao rfl aO))))))) rfl rfl rfl) (fun _=>(fun _=>Wd.aK [0,1,2,3,6,7,8] [0,1,2,3] rfl rfl rfl)) rfl fun _=>?_
          refine D.one (i:=4) (by kernel_rfl) rfl ?_
          refine Do.s (s.st (us:=[.int .i64 cR.Port,.string cR.Data,.int .i64 cR.ar,.int .i64 cR.ak]) (cs':=[.int .i64 cR.Port,.string cR.Data,.int .i64 cR.ar,.int .i64 cR.ak]) 4 _ rfl rfl rfl rfl (.inl bT) rfl rfl rfl rfl) (fun _=>(fun _=>Wd.aK [0,1,2,3,6,7,8] [0,1,2,3] rfl rfl rfl)) rfl fun _=>?_
          refine D.q (i:=5) rfl (by kernel_rfl) (fun _=>Wd.aK [0,1,2,3,6,7,8] [0,1,2,3] rfl rfl rfl) rfl (q.as rfl) rfl<|D.q (i:=6) rfl (by kernel_rfl) (fun _=>Wd.aK [0,1,2,3,6,7,8] [0,1,2,3] rfl rfl rfl) rfl (q.as rfl) rfl<|D.done (by kernel_rfl)<|?_
          refine R.mp (B':=[ah.row 72 z3 (r.Notes.take gQ++r.Notes.drop (gQ+1):List Note),ah.box b6 [.int .i64 cR.Port,.string cR.Data,.int .i64 cR.ar,.int .i64 cR.ak] 72,ah.box b5 [.int .i64 (((ay r p 2 1).1).ID),.int .i64 (((ay r p 2 1).1).ai),.int .i64 (((ay r p 2 1).1).Rights),.int .i64 (((ay r p 2 1).1).ar),.int .i64 (((ay r p 2 1).1).From)] 88,ah.box b4 [.int .i64 cR.Port,.string cR.Data,.int .i64 cR.ar,.int .i64 cR.ak] 72,ah.box b3 [aD,az,z1,z3,.int .i64 r.ae,.int .i64 r.af] 32,ah.box b2 [.int .i64 p.ag,.int .i64 p.Slot] 39,ah.box b1 [aD,az,z1,z3,.int .i64 r.ae,.int .i64 r.af] 32,ah.held w own]) (fun _ hw=>hw.dh 1 _ rfl rfl) ?_
          refine R.mp (B':=[ah.box b6 [.int .i64 cR.Port,.string cR.Data,.int .i64 cR.ar,.int .i64 cR.ak] 72,ah.box b5 [.int .i64 (((ay r p 2 1).1).ID),.int .i64 (((ay r p 2 1).1).ai),.int .i64 (((ay r p 2 1).1).Rights),.int .i64 (((ay r p 2 1).1).ar),.int .i64 (((ay r p 2 1).1).From)] 88,ah.box b4 [.int .i64 cR.Port,.string cR.Data,.int .i64 cR.ar,.int .i64 cR.ak] 72,ah.box b3 [aD,az,z1,z3,.int .i64 r.ae,.int .i64 r.af] 32,ah.box b2 [.int .i64 p.ag,.int .i64 p.Slot] 39,ah.box b1 [aD,az,z1,z3,.int .i64 r.ae,.int .i64 r.af] 32,ah.held w own]) (fun _ hw=>hw.dh 0 _ rfl rfl) ?_
          have hz:bD r p=((⟨r.aj,r.Things,ck r.Held (⟨p.ag,dR r.Held p.ag⟩:Place) cR.ak,r.Notes.take gQ++r.Notes.drop (gQ+1),r.ae,r.af⟩:au),cR,dR r.Held p.ag,0):=by (unfold bD;first|(rw [if_neg (by assumption)];first|done|rfl)|(rw [if_pos (by assumption),du,show decide ((0:Int) ≤ -1)=false from rfl];cases r.Notes[(-1:Int).toNat]? <;> rfl)|(rw [if_pos (by assumption),du,Int.toNat_natCast,dZ,decide_eq_true (by omega)];dsimp only;(repeat' split) <;> first|rfl|(exfalso;omega)))
          rw [hz]
          exact R.w4 (aD,az,z1,z3) [6] [2,3,1,0] rfl Tryz.results37 (RV.cell 3 rfl rfl av) (RV.cell 2 rfl rfl bT) (RV.tmp rfl) (RV.tmp rfl) rfl rfl rfl (uq rfl rfl rfl (gj rfl))
      ·
        refine R.q (q.gtr rfl rfl (decide_eq_false (by omega))) rfl<|R.nil ?_
        refine R.aH rfl rfl ?_
        refine R.reg rfl<|R.q (q.aX (off':=3) rfl bK rfl) rfl<|R.q (q.ld 5 rfl rfl bX rfl) rfl<|?_
        refine R.s (B':=(fun aG:Value=>[ah.row 72 aG (r.Notes:List Note),ah.box b6 [.int .i64 cR.Port,.string cR.Data,.int .i64 cR.ar,.int .i64 cR.ak] 72,ah.box b5 [.int .i64 (((ay r p 2 1).1).ID),.int .i64 (((ay r p 2 1).1).ai),.int .i64 (((ay r p 2 1).1).Rights),.int .i64 (((ay r p 2 1).1).ar),.int .i64 (((ay r p 2 1).1).From)] 88,ah.box b4 [.int .i64 0,.string (⟨#[]⟩),.int .i64 0,.int .i64 0] 72,ah.box b3 [.slice none 0 0,.slice none 0 0,.slice none 0 0,.slice none 0 0,.int .i64 0,.int .i64 0] 32,ah.box b2 [.int .i64 p.ag,.int .i64 p.Slot] 39,ah.box b1 [aD,az,aC,aB,.int .i64 r.ae,.int .i64 r.af] 32,ah.held w own])) (F':=(fun aG:Value=>[ah.ls aD (r.aj:List ak),ah.ls az (r.Things:List ai),ah.ls aC (r.Held:List Held),ah.ls aB (r.Notes:List Note)])) rfl (s.bA (B0:=[]) (Br:=[ah.box b6 [.int .i64 cR.Port,.string cR.Data,.int .i64 cR.ar,.int .i64 cR.ak] 72,ah.box b5 [.int .i64 (((ay r p 2 1).1).ID),.int .i64 (((ay r p 2 1).1).ai),.int .i64 (((ay r p 2 1).1).Rights),.int .i64 (((ay r p 2 1).1).ar),.int .i64 (((ay r p 2 1).1).From)] 88,ah.box b4 [.int .i64 0,.string (⟨#[]⟩),.int .i64 0,.int .i64 0] 72,ah.box b3 [.slice none 0 0,.slice none 0 0,.slice none 0 0,.slice none 0 0,.int .i64 0,.int .i64 0] 32,ah.box b2 [.int .i64 p.ag,.int .i64 p.Slot] 39,ah.box b1 [aD,az,aC,aB,.int .i64 r.ae,.int .i64 r.af] 32,ah.held w own]) (F0:=[ah.ls aB (r.Notes:List Note)]) [0,1,2,3,4,5,6] [3] (fun aG:Value=>aG) (fun aG:Value=>[ah.row 72 aG (r.Notes:List Note)]) (fun aG:Value=>[]) rfl rfl rfl lZ rfl rfl (fun w own hw H=>dN aB (r.Notes) w own H (by first|omega|assumption|(simp;done)|(simp;omega))) rfl) fun z4=>?_
        refine R.u 2 rfl<|R.q (q.add (r:=((gQ+1:Nat):Int)) rfl rfl (wr (by omega))) rfl<|?_
        refine R.s (B':=(fun aG:Value=>[ah.row 72 aG ((r.Notes.take gQ++r.Notes.drop (gQ+1)):List Note),ah.box b6 [.int .i64 cR.Port,.string cR.Data,.int .i64 cR.ar,.int .i64 cR.ak] 72,ah.box b5 [.int .i64 (((ay r p 2 1).1).ID),.int .i64 (((ay r p 2 1).1).ai),.int .i64 (((ay r p 2 1).1).Rights),.int .i64 (((ay r p 2 1).1).ar),.int .i64 (((ay r p 2 1).1).From)] 88,ah.box b4 [.int .i64 0,.string (⟨#[]⟩),.int .i64 0,.int .i64 0] 72,ah.box b3 [.slice none 0 0,.slice none 0 0,.slice none 0 0,.slice none 0 0,.int .i64 0,.int .i64 0] 32,ah.box b2 [.int .i64 p.ag,.int .i64 p.Slot] 39,ah.box b1 [aD,az,aC,aB,.int .i64 r.ae,.int .i64 r.af] 32,ah.held w own])) (F':=(fun aG:Value=>[ah.ls aD (r.aj:List ak),ah.ls az (r.Things:List ai),ah.ls aC (r.Held:List Held),ah.ls aB (r.Notes:List Note)])) rfl (s.bA (B0:=[ah.row 72 z4 (r.Notes:List Note)]) (Br:=[ah.box b6 [.int .i64 cR.Port,.string cR.Data,.int .i64 cR.ar,.int .i64 cR.ak] 72,ah.box b5 [.int .i64 (((ay r p 2 1).1).ID),.int .i64 (((ay r p 2 1).1).ai),.int .i64 (((ay r p 2 1).1).Rights),.int .i64 (((ay r p 2 1).1).ar),.int .i64 (((ay r p 2 1).1).From)] 88,ah.box b4 [.int .i64 0,.string (⟨#[]⟩),.int .i64 0,.int .i64 0] 72,ah.box b3 [.slice none 0 0,.slice none 0 0,.slice none 0 0,.slice none 0 0,.int .i64 0,.int .i64 0] 32,ah.box b2 [.int .i64 p.ag,.int .i64 p.Slot] 39,ah.box b1 [aD,az,aC,aB,.int .i64 r.ae,.int .i64 r.af] 32,ah.held w own]) (F0:=[]) [0,1,2,3,4,5,6,7] [] (fun aG:Value=>aG) (fun aG:Value=>[ah.row 72 aG ((r.Notes.take gQ++r.Notes.drop (gQ+1)):List Note)]) (fun aG:Value=>[]) rfl rfl rfl xR rfl rfl (fun w own hw H=>jJ z4 (r.Notes) (gQ) ((gQ+1)) w own H (by omega)) rfl) fun z5=>?_
        refine R.q (q.aX (off':=3) rfl bK rfl) rfl<|?_
        refine R.s rfl (s.eH (us:=[z5]) (cs':=[aD,az,aC,z5,.int .i64 r.ae,.int .i64 r.af]) 6 _ rfl rfl rfl (fun w hw=>Sl.cr ((fun _=>Wd.row 0 rfl) w hw)) (.inr ⟨bX,rfl⟩) (fun w hw=>(ao (Sl.one ((fun _=>Wd.row 0 rfl) w hw)) aO)) rfl rfl rfl) fun _=>?_
        refine R.nil ?_
        refine R.fT (fuel:=7) (Wd w (blks []++own) [ah.row 72 z5 (r.Notes.take gQ++r.Notes.drop (gQ+1):List Note),ah.box b6 [.int .i64 cR.Port,.string cR.Data,.int .i64 cR.ar,.int .i64 cR.ak] 72,ah.box b5 [.int .i64 (((ay r p 2 1).1).ID),.int .i64 (((ay r p 2 1).1).ai),.int .i64 (((ay r p 2 1).1).Rights),.int .i64 (((ay r p 2 1).1).ar),.int .i64 (((ay r p 2 1).1).From)] 88,ah.box b2 [.int .i64 p.ag,.int .i64 p.Slot] 39,ah.box b1 [aD,az,aC,z5,.int .i64 r.ae,.int .i64 r.af] 32,ah.held w own] [ah.ls aD (r.aj:List ak),ah.ls az (r.Things:List ai),ah.ls aC (r.Held:List Held),ah.ls aB (r.Notes:List Note)]) rfl mixed rfl ?_
        refine D.q (i:=0) rfl (by kernel_rfl) (fun _=>Wd.aK [0,1,2,5,6,7] [0,1,2,3] rfl rfl rfl) rfl (q.cF 4 rfl rfl av) rfl<|D.q (i:=1) rfl (by kernel_rfl) (fun _=>Wd.aK [0,1,2,5,6,7] [0,1,2,3] rfl rfl rfl) rfl (q.cF 1 rfl rfl bT) rfl<|D.q (i:=2) rfl (by kernel_rfl) (fun _=>Wd.aK [0,1,2,5,6,7] [0,1,2,3] rfl rfl rfl) rfl (q.mv rfl) rfl<|?_
        refine D.one (i:=3) (by kernel_rfl) rfl ?_
        refine Do.s (s.eH (us:=[aD,az,aC,z5,.int .i64 r.ae,.int .i64 r.af]) (cs':=[aD,az,aC,z5,.int .i64 r.ae,.int .i64 r.af]) 4 _ rfl rfl rfl (fun _ _=>rfl) (.inl av) (fun w hw=>(ao (Sl.one ((fun _=>Wd.aS 0 rfl) w hw)) (ao (Sl.one ((fun _=>Wd.aS 1 rfl) w hw)) (ao (Sl.one ((fun _=>Wd.aS 2 rfl) w hw)) (ao (Sl.one ((fun _=>Wd.row 0 rfl) w hw)) (ao rfl (ao rfl aO))))))) rfl rfl rfl) (fun _=>(fun _=>Wd.aK [0,1,2,5,6,7] [0,1,2,3] rfl rfl rfl)) rfl fun _=>?_
        refine D.one (i:=4) (by kernel_rfl) rfl ?_
        refine Do.s (s.st (us:=[.int .i64 cR.Port,.string cR.Data,.int .i64 cR.ar,.int .i64 cR.ak]) (cs':=[.int .i64 cR.Port,.string cR.Data,.int .i64 cR.ar,.int .i64 cR.ak]) 3 _ rfl rfl rfl rfl (.inl bT) rfl rfl rfl rfl) (fun _=>(fun _=>Wd.aK [0,1,2,5,6,7] [0,1,2,3] rfl rfl rfl)) rfl fun _=>?_
        refine D.q (i:=5) rfl (by kernel_rfl) (fun _=>Wd.aK [0,1,2,5,6,7] [0,1,2,3] rfl rfl rfl) rfl (q.as rfl) rfl<|D.q (i:=6) rfl (by kernel_rfl) (fun _=>Wd.aK [0,1,2,5,6,7] [0,1,2,3] rfl rfl rfl) rfl (q.as rfl) rfl<|D.done (by kernel_rfl)<|?_
        refine R.mp (B':=[ah.box b6 [.int .i64 cR.Port,.string cR.Data,.int .i64 cR.ar,.int .i64 cR.ak] 72,ah.box b5 [.int .i64 (((ay r p 2 1).1).ID),.int .i64 (((ay r p 2 1).1).ai),.int .i64 (((ay r p 2 1).1).Rights),.int .i64 (((ay r p 2 1).1).ar),.int .i64 (((ay r p 2 1).1).From)] 88,ah.box b4 [.int .i64 cR.Port,.string cR.Data,.int .i64 cR.ar,.int .i64 cR.ak] 72,ah.box b3 [aD,az,aC,z5,.int .i64 r.ae,.int .i64 r.af] 32,ah.box b2 [.int .i64 p.ag,.int .i64 p.Slot] 39,ah.box b1 [aD,az,aC,z5,.int .i64 r.ae,.int .i64 r.af] 32,ah.held w own]) (fun _ hw=>hw.dh 0 _ rfl rfl) ?_
        have hz:bD r p=((⟨r.aj,r.Things,r.Held,r.Notes.take gQ++r.Notes.drop (gQ+1),r.ae,r.af⟩:au),cR,-1,0):=by (unfold bD;first|(rw [if_neg (by assumption)];first|done|rfl)|(rw [if_pos (by assumption),du,show decide ((0:Int) ≤ -1)=false from rfl];cases r.Notes[(-1:Int).toNat]? <;> rfl)|(rw [if_pos (by assumption),du,Int.toNat_natCast,dZ,decide_eq_true (by omega)];dsimp only;(repeat' split) <;> first|rfl|(exfalso;omega)))
        rw [hz]
        exact R.w4 (aD,az,aC,z5) [6] [1,2,3,0] rfl Tryz.results37 (RV.cell 3 rfl rfl av) (RV.cell 2 rfl rfl bT) (RV.tmp rfl) (RV.tmp rfl) rfl rfl rfl (uq rfl rfl rfl (gj rfl))
  ·
    refine R.q (q.fb rfl rfl Tryz.underlying35 (by omega)) rfl<|R.nil ?_
    refine R.aE rfl rfl ?_
    refine R.reg rfl<|R.q (q.build (cs:=[.slice none 0 0,.slice none 0 0,.slice none 0 0,.slice none 0 0,.int .i64 0,.int .i64 0]) cJ rfl rfl) rfl<|R.q (q.build (cs:=[.int .i64 0,.string (⟨#[]⟩),.int .i64 0,.int .i64 0]) sh rfl rfl) rfl<|R.u 1 rfl<|?_
    refine R.s rfl (s.st (us:=[.slice none 0 0,.slice none 0 0,.slice none 0 0,.slice none 0 0,.int .i64 0,.int .i64 0]) (cs':=[.slice none 0 0,.slice none 0 0,.slice none 0 0,.slice none 0 0,.int .i64 0,.int .i64 0]) 2 _ rfl rfl rfl rfl (.inl av) rfl rfl rfl rfl) fun _=>?_
    refine R.s rfl (s.st (us:=[.int .i64 0,.string (⟨#[]⟩),.int .i64 0,.int .i64 0]) (cs':=[.int .i64 0,.string (⟨#[]⟩),.int .i64 0,.int .i64 0]) 1 _ rfl rfl rfl rfl (.inl bT) rfl rfl rfl rfl) fun _=>?_
    refine R.u 2 rfl<|R.nil ?_
    refine R.mp (fun _ hw=>hw.aU (α:=ak)) ?_
    refine R.mp (fun _ hw=>hw.aU (α:=ai)) ?_
    refine R.mp (fun _ hw=>hw.aU (α:=Held)) ?_
    refine R.mp (fun _ hw=>hw.aU (α:=Note)) ?_
    have hz:bD r p=((⟨[],[],[],[],0,0⟩:au),(⟨0,⟨#[]⟩,0,0⟩:Note),0,(ay r p 2 1).2.2):=by (unfold bD;first|(rw [if_neg (by assumption)];first|done|rfl)|(rw [if_pos (by assumption),du,show decide ((0:Int) ≤ -1)=false from rfl];cases r.Notes[(-1:Int).toNat]? <;> rfl)|(rw [if_pos (by assumption),du,Int.toNat_natCast,dZ,decide_eq_true (by omega)];dsimp only;(repeat' split) <;> first|rfl|(exfalso;omega)))
    rw [hz]
    exact R.w4 ((.slice none 0 0),(.slice none 0 0),(.slice none 0 0),(.slice none 0 0)) [5] [3,2,1,0] rfl Tryz.results37 (RV.cell 2 rfl rfl av) (RV.cell 1 rfl rfl bT) (RV.tmp rfl) (RV.tmp rfl) rfl rfl rfl (uq rfl rfl rfl rfl)
end Go.Proofs.YtbkfhjaibhnkmaaGreatDoor
