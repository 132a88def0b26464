import Derived.Test.YtpipachmngdegaaGreatRSP30
section
namespace Go.Proofs.YtpipachmngdegaaGreat
open Go Go.RowKit
set_option linter.unusedVariables false
set_option linter.unusedSimpArgs false
set_option maxRecDepth 100000
theorem nG (aD az aB aA:Value)(r:ay)(p:Place)(kind:Int)(w:World)(own:List Nat)(H:Wd w (blks []++own) ([]++[ah.held w own]) [ah.ls aD (r.ap:List ao),ah.ls az (r.Things:List ai),ah.ls aB (r.Held:List Held),ah.ls aA (r.Notes:List Note)] w)(hk:Ok r):Calls Tryz.prog 21 #[.agg #[aD,az,aB,aA,.int .i64 r.ae,.int .i64 r.af],.agg #[.int .i64 p.ag,.int .i64 p.Slot],.int .i64 kind] w fun e w' => ∃z:Value×Value×Value×Value,e = .returned (.tuple #[.agg #[z.1,z.2.1,z.2.2.1,z.2.2.2,.int .i64 ((((aU r p kind)).1).ae),.int .i64 ((((aU r p kind)).1).af)],ek (((aU r p kind)).2)])∧Wd w (blks []++own) ([]++[ah.held w own]) [ah.ls z.1 ((((aU r p kind)).1).ap:List ao),ah.ls z.2.1 ((((aU r p kind)).1).Things:List ai),ah.ls z.2.2.1 ((((aU r p kind)).1).Held:List Held),ah.ls z.2.2.2 ((((aU r p kind)).1).Notes:List Note)] w':=by
  have cw:=H.bS 0 rfl
  have bY:=H.bS 1 rfl
  have cI:=H.bS 2 rfl
  have cx:=H.bS 3 rfl
  have bw:=hk.wl;have bt:=hk.tl;have bh:=hk.hl;have bn:=hk.nl;have lS:=hk.w0;have lT:=hk.w1;have lU:=hk.t0;have lV:=hk.t1
  refine R.cC (n:=63) (vs:=[.agg #[aD,az,aB,aA,.int .i64 r.ae,.int .i64 r.af],.agg #[.int .i64 p.ag,.int .i64 p.Slot],.int .i64 kind]) (B:=[ah.held w own]) [(0,.agg #[aD,az,aB,aA,.int .i64 r.ae,.int .i64 r.af]),(1,.agg #[.int .i64 p.ag,.int .i64 p.Slot]),(2,.int .i64 kind)] Tryz.func21 rfl rfl rfl rfl H ?_
  refine R.reg rfl<|?_
  refine R.s rfl (s.box (cs:=[aD,az,aB,aA,.int .i64 r.ae,.int .i64 r.af]) rfl rfl rfl) fun b1=>?_
  refine R.s rfl (s.box (cs:=[.int .i64 p.ag,.int .i64 p.Slot]) rfl rfl rfl) fun b2=>?_
  refine R.s rfl (s.alloc (cs:=[.slice none 0 0,.slice none 0 0,.slice none 0 0,.slice none 0 0,.int .i64 0,.int .i64 0]) bR rfl rfl) fun b3=>?_
  refine R.u 1 rfl<|R.nil ?_
  refine R.reg rfl<|R.u 1 rfl<|?_
  by_cases h1:kind=1
  ·
    refine R.q (q.neq rfl rfl (bne_eq_false_iff_eq.2 (by omega))) rfl<|R.u 4 rfl<|R.nil ?_
    refine R.aH rfl rfl ?_
    refine R.reg rfl<|R.q (q.bI 2 rfl rfl au) rfl<|R.q (q.bI 1 rfl rfl aM) rfl<|R.c (q.call qQ rfl rfl (fun w hw=>(jO _ _ _ _ (r) (p) w ((fun _=>Wd.aO 0 rfl) w hw) ((fun _=>Wd.aO 1 rfl) w hw) ((fun _=>Wd.aO 2 rfl) w hw) ((fun _=>Wd.aO 3 rfl) w hw) (by assumption)))) rfl<|R.u 1 rfl<|R.nil ?_
    refine R.reg rfl<|R.u 1 rfl<|?_
    by_cases h2:cY r p=0
    ·
      refine R.q (q.fH rfl rfl Tryz.underlying41 (by omega)) rfl<|R.nil ?_
      refine R.aH rfl rfl ?_
      refine R.reg rfl<|R.q (q.aS (off':=1) rfl bm rfl) rfl<|R.q (q.ld 2 rfl rfl bT rfl) rfl<|R.q (q.len' (fun _=>Wd.aO 1 rfl) rfl Tryz.underlying26) rfl<|?_
      by_cases h3:r.Things.length=10
      ·
        refine R.q (q.eql rfl rfl (beq_iff_eq.2 (by omega))) rfl<|R.u 10 rfl<|R.nil ?_
        refine R.aI rfl rfl ?_
        refine R.reg rfl<|R.q (q.build (cs:=[.slice none 0 0,.slice none 0 0,.slice none 0 0,.slice none 0 0,.int .i64 0,.int .i64 0]) ck rfl rfl) rfl<|R.q (q.iface rfl da) rfl<|?_
        refine R.s rfl (s.st (us:=[.slice none 0 0,.slice none 0 0,.slice none 0 0,.slice none 0 0,.int .i64 0,.int .i64 0]) (cs':=[.slice none 0 0,.slice none 0 0,.slice none 0 0,.slice none 0 0,.int .i64 0,.int .i64 0]) 0 _ rfl rfl rfl rfl (.inl au) rfl rfl rfl rfl) fun _=>?_
        refine R.u 1 rfl<|R.nil ?_
        refine R.mp (fun _ hw=>hw.aN (α:=ao)) ?_
        refine R.mp (fun _ hw=>hw.aN (α:=ai)) ?_
        refine R.mp (fun _ hw=>hw.aN (α:=Held)) ?_
        refine R.mp (fun _ hw=>hw.aN (α:=Note)) ?_
        have hz:aU r p kind=((⟨[],[],[],[],0,0⟩:ay),9):=by (unfold aU;(repeat' split) <;> first|rfl|(exfalso;omega)|(simp_all;done))
        rw [hz]
        exact R.w2 ((.slice none 0 0),(.slice none 0 0),(.slice none 0 0),(.slice none 0 0)) [3] [3,2,1,0] rfl Tryz.results21 (RV.cell 0 rfl rfl au) (RV.tmp rfl) rfl rfl rfl (cm rfl (e5 (by decide) rfl))
      ·
        refine R.q (q.eql rfl rfl (beq_eq_false_iff_ne.2 (by omega))) rfl<|R.u 1 rfl<|R.qg rfl (q.aS (off':=5) rfl cQ rfl) rfl<|R.qg rfl (q.ld 2 rfl rfl aG rfl) rfl<|?_
        by_cases h4:999<r.af
        ·
          refine R.qg rfl (q.gtr rfl rfl (decide_eq_true (by omega))) rfl<|R.u 6 rfl<|R.nil ?_
          refine R.aI rfl rfl ?_
          refine R.reg rfl<|R.q (q.build (cs:=[.slice none 0 0,.slice none 0 0,.slice none 0 0,.slice none 0 0,.int .i64 0,.int .i64 0]) ck rfl rfl) rfl<|R.q (q.iface rfl da) rfl<|?_
          refine R.s rfl (s.st (us:=[.slice none 0 0,.slice none 0 0,.slice none 0 0,.slice none 0 0,.int .i64 0,.int .i64 0]) (cs':=[.slice none 0 0,.slice none 0 0,.slice none 0 0,.slice none 0 0,.int .i64 0,.int .i64 0]) 0 _ rfl rfl rfl rfl (.inl au) rfl rfl rfl rfl) fun _=>?_
          refine R.u 1 rfl<|R.nil ?_
          refine R.mp (fun _ hw=>hw.aN (α:=ao)) ?_
          refine R.mp (fun _ hw=>hw.aN (α:=ai)) ?_
          refine R.mp (fun _ hw=>hw.aN (α:=Held)) ?_
          refine R.mp (fun _ hw=>hw.aN (α:=Note)) ?_
          have hz:aU r p kind=((⟨[],[],[],[],0,0⟩:ay),9):=by (unfold aU;(repeat' split) <;> first|rfl|(exfalso;omega)|(simp_all;done))
          rw [hz]
          exact R.w2 ((.slice none 0 0),(.slice none 0 0),(.slice none 0 0),(.slice none 0 0)) [3] [3,2,1,0] rfl Tryz.results21 (RV.cell 0 rfl rfl au) (RV.tmp rfl) rfl rfl rfl (cm rfl (e5 (by decide) rfl))
        ·
          refine R.qg rfl (q.gtr rfl rfl (decide_eq_false (by omega))) rfl<|R.u 2 rfl<|R.qg rfl (q.aS (off':=4) rfl bU rfl) rfl<|R.qg rfl (q.ld 2 rfl rfl aG rfl) rfl<|?_
          by_cases h5:999<r.ae
          ·
            refine R.qg rfl (q.gtr rfl rfl (decide_eq_true (by omega))) rfl<|R.u 1 rfl<|R.nil ?_
            refine R.aI rfl rfl ?_
            refine R.reg rfl<|R.q (q.build (cs:=[.slice none 0 0,.slice none 0 0,.slice none 0 0,.slice none 0 0,.int .i64 0,.int .i64 0]) ck rfl rfl) rfl<|R.q (q.iface rfl da) rfl<|?_
            refine R.s rfl (s.st (us:=[.slice none 0 0,.slice none 0 0,.slice none 0 0,.slice none 0 0,.int .i64 0,.int .i64 0]) (cs':=[.slice none 0 0,.slice none 0 0,.slice none 0 0,.slice none 0 0,.int .i64 0,.int .i64 0]) 0 _ rfl rfl rfl rfl (.inl au) rfl rfl rfl rfl) fun _=>?_
            refine R.u 1 rfl<|R.nil ?_
            refine R.mp (fun _ hw=>hw.aN (α:=ao)) ?_
            refine R.mp (fun _ hw=>hw.aN (α:=ai)) ?_
            refine R.mp (fun _ hw=>hw.aN (α:=Held)) ?_
            refine R.mp (fun _ hw=>hw.aN (α:=Note)) ?_
            have hz:aU r p kind=((⟨[],[],[],[],0,0⟩:ay),9):=by (unfold aU;(repeat' split) <;> first|rfl|(exfalso;omega)|(simp_all;done))
            rw [hz]
            exact R.w2 ((.slice none 0 0),(.slice none 0 0),(.slice none 0 0),(.slice none 0 0)) [3] [3,2,1,0] rfl Tryz.results21 (RV.cell 0 rfl rfl au) (RV.tmp rfl) rfl rfl rfl (cm rfl (e5 (by decide) rfl))
          ·
            refine R.qg rfl (q.gtr rfl rfl (decide_eq_false (by omega))) rfl<|R.u 1 rfl<|R.nil ?_
            refine R.aH rfl rfl ?_
            refine R.reg rfl<|R.q (q.aS (off':=5) rfl cQ rfl) rfl<|R.q (q.ld 2 rfl rfl aG rfl) rfl<|R.u 1 rfl<|R.nil ?_
            refine R.reg rfl<|R.q (q.aS (off':=1) rfl bm rfl) rfl<|R.q (q.ld 2 rfl rfl bT rfl) rfl<|?_
            refine R.s (B':=(fun aL:Value=>[ah.row 74 aL (r.Things:List ai),ah.box b3 [.slice none 0 0,.slice none 0 0,.slice none 0 0,.slice none 0 0,.int .i64 0,.int .i64 0] 30,ah.box b2 [.int .i64 p.ag,.int .i64 p.Slot] 33,ah.box b1 [aD,az,aB,aA,.int .i64 r.ae,.int .i64 r.af] 30,ah.held w own])) (F':=(fun aL:Value=>[ah.ls aD (r.ap:List ao),ah.ls az (r.Things:List ai),ah.ls aB (r.Held:List Held),ah.ls aA (r.Notes:List Note)])) rfl (s.bE (B0:=[]) (Br:=[ah.box b3 [.slice none 0 0,.slice none 0 0,.slice none 0 0,.slice none 0 0,.int .i64 0,.int .i64 0] 30,ah.box b2 [.int .i64 p.ag,.int .i64 p.Slot] 33,ah.box b1 [aD,az,aB,aA,.int .i64 r.ae,.int .i64 r.af] 30,ah.held w own]) (F0:=[ah.ls az (r.Things:List ai)]) [0,1,2,3] [1] (fun aL:Value=>aL) (fun aL:Value=>[ah.row 74 aL (r.Things:List ai)]) (fun aL:Value=>[]) rfl rfl rfl oL rfl rfl (fun w own hw H=>eL az (r.Things) w own H (by first|omega|assumption|(simp;done)|(simp;omega))) rfl) fun z1=>?_
            refine R.u 2 rfl<|R.q (q.build (cs:=[.int .i64 r.af,.int .i64 kind,.string (⟨#[]⟩)]) qI rfl rfl) rfl<|?_
            refine R.s rfl (s.bs (l:=([(⟨r.af,kind,⟨#[]⟩⟩:ai)]:List ai)) dJ fK rfl rfl rfl rfl rfl rfl rfl) fun b4=>?_
            refine R.s rfl (s.app (l2:=[(⟨r.af,kind,⟨#[]⟩⟩:ai)]) 1 _ rfl rfl rfl (fun _=>Wd.row 0 rfl) hG (by first|omega|(simp;omega)) (by first|omega|(simp;omega)) (fun _=>rfl) rfl) fun v1=>?_
            refine R.q (q.aS (off':=1) rfl bm rfl) rfl<|?_
            refine R.s rfl (s.cS (us:=[v1]) (cs':=[aD,v1,aB,aA,.int .i64 r.ae,.int .i64 r.af]) 4 _ rfl rfl rfl (fun w hw=>Sl.bJ ((fun _=>Wd.row 1 rfl) w hw)) (.inr ⟨bT,rfl⟩) (fun w hw=>(aj (Sl.one ((fun _=>Wd.row 1 rfl) w hw)) aJ)) rfl rfl rfl) fun _=>?_
            refine R.nil ?_
            refine R.reg rfl<|R.q (q.aS (off':=5) rfl cQ rfl) rfl<|R.q (q.ld 4 rfl rfl aG rfl) rfl<|R.q (q.add (r:=r.af+1) rfl rfl (wr (by omega))) rfl<|R.q (q.aS (off':=5) rfl cQ rfl) rfl<|?_
            refine R.s rfl (s.st (us:=[.int .i64 (r.af+1)]) (cs':=[aD,v1,aB,aA,.int .i64 r.ae,.int .i64 (r.af+1)]) 4 _ rfl rfl rfl rfl (.inr ⟨aG,rfl⟩) rfl rfl rfl rfl) fun _=>?_
            refine R.nil ?_
            refine R.reg rfl<|R.q (q.bI 4 rfl rfl au) rfl<|R.q (q.aS (off':=4) rfl bU rfl) rfl<|R.q (q.ld 4 rfl rfl aG rfl) rfl<|R.u 1 rfl<|R.q (q.build (cs:=[.int .i64 r.ae,.int .i64 r.af,.int .i64 7,.int .i64 0,.int .i64 0]) dM rfl rfl) rfl<|R.q (q.bI 3 rfl rfl aM) rfl<|?_
            refine R.s (B':=(fun g_:Value×Value×Value×Value=>[ah.row 74 (.slice (some ⟨b4,0,none⟩) 1 1) ([(⟨r.af,kind,⟨#[]⟩⟩:ai)]:List ai),ah.box b3 [.slice none 0 0,.slice none 0 0,.slice none 0 0,.slice none 0 0,.int .i64 0,.int .i64 0] 30,ah.box b2 [.int .i64 p.ag,.int .i64 p.Slot] 33,ah.box b1 [aD,v1,aB,aA,.int .i64 r.ae,.int .i64 (r.af+1)] 30,ah.held w own])) (F':=(fun g_:Value×Value×Value×Value=>[ah.ls g_.1 (((aW (⟨r.ap,(r.Things++([(⟨r.af,kind,⟨#[]⟩⟩:ai)])),r.Held,r.Notes,r.ae,(r.af+1)⟩:ay) (⟨r.ae,r.af,7,0,0⟩:ao) p)).ap:List ao),ah.ls g_.2.1 (((aW (⟨r.ap,(r.Things++([(⟨r.af,kind,⟨#[]⟩⟩:ai)])),r.Held,r.Notes,r.ae,(r.af+1)⟩:ay) (⟨r.ae,r.af,7,0,0⟩:ao) p)).Things:List ai),ah.ls g_.2.2.1 (((aW (⟨r.ap,(r.Things++([(⟨r.af,kind,⟨#[]⟩⟩:ai)])),r.Held,r.Notes,r.ae,(r.af+1)⟩:ay) (⟨r.ae,r.af,7,0,0⟩:ao) p)).Held:List Held),ah.ls g_.2.2.2 (((aW (⟨r.ap,(r.Things++([(⟨r.af,kind,⟨#[]⟩⟩:ai)])),r.Held,r.Notes,r.ae,(r.af+1)⟩:ay) (⟨r.ae,r.af,7,0,0⟩:ao) p)).Notes:List Note),ah.ls v1 ((r.Things++([(⟨r.af,kind,⟨#[]⟩⟩:ai)])):List ai),ah.ls aD (r.ap:List ao),ah.ls az (r.Things:List ai),ah.ls aB (r.Held:List Held),ah.ls aA (r.Notes:List Note)])) rfl (s.pre (B2:=[ah.row 74 (.slice (some ⟨b4,0,none⟩) 1 1) ([(⟨r.af,kind,⟨#[]⟩⟩:ai)]:List ai),ah.box b3 [.slice none 0 0,.slice none 0 0,.slice none 0 0,.slice none 0 0,.int .i64 0,.int .i64 0] 30,ah.box b2 [.int .i64 p.ag,.int .i64 p.Slot] 33,ah.box b1 [aD,v1,aB,aA,.int .i64 r.ae,.int .i64 (r.af+1)] 30,ah.held w own]) (F2:=[ah.ls v1 ((r.Things++([(⟨r.af,kind,⟨#[]⟩⟩:ai)])):List ai),ah.ls aD (r.ap:List ao),ah.ls az (r.Things:List ai),ah.ls aB (r.Held:List Held),ah.ls aA (r.Notes:List Note)]) (fun _ hw=>hw.aZ 1 _ rfl rfl) (s.bE (B0:=[]) (Br:=[ah.row 74 (.slice (some ⟨b4,0,none⟩) 1 1) ([(⟨r.af,kind,⟨#[]⟩⟩:ai)]:List ai),ah.box b3 [.slice none 0 0,.slice none 0 0,.slice none 0 0,.slice none 0 0,.int .i64 0,.int .i64 0] 30,ah.box b2 [.int .i64 p.ag,.int .i64 p.Slot] 33,ah.box b1 [aD,v1,aB,aA,.int .i64 r.ae,.int .i64 (r.af+1)] 30,ah.held w own]) (F0:=[ah.ls aD (r.ap:List ao),ah.ls v1 ((r.Things++([(⟨r.af,kind,⟨#[]⟩⟩:ai)])):List ai),ah.ls aB (r.Held:List Held),ah.ls aA (r.Notes:List Note)]) [0,1,2,3,4] [1,0,3,4] (fun g_:Value×Value×Value×Value => .agg #[g_.1,g_.2.1,g_.2.2.1,g_.2.2.2,.int .i64 (((aW (⟨r.ap,(r.Things++([(⟨r.af,kind,⟨#[]⟩⟩:ai)])),r.Held,r.Notes,r.ae,(r.af+1)⟩:ay) (⟨r.ae,r.af,7,0,0⟩:ao) p)).ae),.int .i64 (((aW (⟨r.ap,(r.Things++([(⟨r.af,kind,⟨#[]⟩⟩:ai)])),r.Held,r.Notes,r.ae,(r.af+1)⟩:ay) (⟨r.ae,r.af,7,0,0⟩:ao) p)).af)]) (fun g_:Value×Value×Value×Value=>[]) (fun g_:Value×Value×Value×Value=>[ah.ls g_.1 (((aW (⟨r.ap,(r.Things++([(⟨r.af,kind,⟨#[]⟩⟩:ai)])),r.Held,r.Notes,r.ae,(r.af+1)⟩:ay) (⟨r.ae,r.af,7,0,0⟩:ao) p)).ap:List ao),ah.ls g_.2.1 (((aW (⟨r.ap,(r.Things++([(⟨r.af,kind,⟨#[]⟩⟩:ai)])),r.Held,r.Notes,r.ae,(r.af+1)⟩:ay) (⟨r.ae,r.af,7,0,0⟩:ao) p)).Things:List ai),ah.ls g_.2.2.1 (((aW (⟨r.ap,(r.Things++([(⟨r.af,kind,⟨#[]⟩⟩:ai)])),r.Held,r.Notes,r.ae,(r.af+1)⟩:ay) (⟨r.ae,r.af,7,0,0⟩:ao) p)).Held:List Held),ah.ls g_.2.2.2 (((aW (⟨r.ap,(r.Things++([(⟨r.af,kind,⟨#[]⟩⟩:ai)])),r.Held,r.Notes,r.ae,(r.af+1)⟩:ay) (⟨r.ae,r.af,7,0,0⟩:ao) p)).Notes:List Note)]) rfl rfl rfl oM rfl rfl (fun w own hw H=>jC aD v1 aB aA ((⟨r.ap,(r.Things++([(⟨r.af,kind,⟨#[]⟩⟩:ai)])),r.Held,r.Notes,r.ae,(r.af+1)⟩:ay)) ((⟨r.ae,r.af,7,0,0⟩:ao)) (p) w own H (by first|omega|(dsimp only;omega))) rfl)) ?_
            rintro ⟨z2,z3,z4,z5⟩
            dsimp only
            refine R.s rfl (s.cS (us:=[z2,z3,z4,z5,.int .i64 ((aW (⟨r.ap,(r.Things++([(⟨r.af,kind,⟨#[]⟩⟩:ai)])),r.Held,r.Notes,r.ae,(r.af+1)⟩:ay) (⟨r.ae,r.af,7,0,0⟩:ao) p).ae),.int .i64 ((aW (⟨r.ap,(r.Things++([(⟨r.af,kind,⟨#[]⟩⟩:ai)])),r.Held,r.Notes,r.ae,(r.af+1)⟩:ay) (⟨r.ae,r.af,7,0,0⟩:ao) p).af)]) (cs':=[z2,z3,z4,z5,.int .i64 ((aW (⟨r.ap,(r.Things++([(⟨r.af,kind,⟨#[]⟩⟩:ai)])),r.Held,r.Notes,r.ae,(r.af+1)⟩:ay) (⟨r.ae,r.af,7,0,0⟩:ao) p).ae),.int .i64 ((aW (⟨r.ap,(r.Things++([(⟨r.af,kind,⟨#[]⟩⟩:ai)])),r.Held,r.Notes,r.ae,(r.af+1)⟩:ay) (⟨r.ae,r.af,7,0,0⟩:ao) p).af)]) 1 _ rfl rfl rfl (fun _ _=>rfl) (.inl au) (fun w hw=>(aj (Sl.one ((fun _=>Wd.aO 0 rfl) w hw)) (aj (Sl.one ((fun _=>Wd.aO 1 rfl) w hw)) (aj (Sl.one ((fun _=>Wd.aO 2 rfl) w hw)) (aj (Sl.one ((fun _=>Wd.aO 3 rfl) w hw)) (aj rfl (aj rfl aJ))))))) rfl rfl rfl) fun _=>?_
            refine R.u 1 rfl<|R.nil ?_
            have hz:aU r p kind=((aW (⟨r.ap,(r.Things++([(⟨r.af,kind,⟨#[]⟩⟩:ai)])),r.Held,r.Notes,r.ae,(r.af+1)⟩:ay) (⟨r.ae,r.af,7,0,0⟩:ao) p),0):=by (unfold aU;(repeat' split) <;> first|rfl|(exfalso;omega)|(simp_all;done))
            rw [hz]
            exact R.w2 (z2,z3,z4,z5) [4] [0,1,2,3] rfl Tryz.results21 (RV.cell 1 rfl rfl au) (RV.tmp rfl) rfl rfl rfl (cm rfl (gu rfl))
    ·
      refine R.q (q.fI rfl rfl Tryz.underlying41 (by omega)) rfl<|R.nil ?_
      refine R.aI rfl rfl ?_
      refine R.reg rfl<|R.q (q.build (cs:=[.slice none 0 0,.slice none 0 0,.slice none 0 0,.slice none 0 0,.int .i64 0,.int .i64 0]) ck rfl rfl) rfl<|R.u 1 rfl<|?_
      refine R.s rfl (s.st (us:=[.slice none 0 0,.slice none 0 0,.slice none 0 0,.slice none 0 0,.int .i64 0,.int .i64 0]) (cs':=[.slice none 0 0,.slice none 0 0,.slice none 0 0,.slice none 0 0,.int .i64 0,.int .i64 0]) 0 _ rfl rfl rfl rfl (.inl au) rfl rfl rfl rfl) fun _=>?_
      refine R.u 1 rfl<|R.nil ?_
      refine R.mp (fun _ hw=>hw.aN (α:=ao)) ?_
      refine R.mp (fun _ hw=>hw.aN (α:=ai)) ?_
      refine R.mp (fun _ hw=>hw.aN (α:=Held)) ?_
      refine R.mp (fun _ hw=>hw.aN (α:=Note)) ?_
      have hz:aU r p kind=((⟨[],[],[],[],0,0⟩:ay),cY r p):=by (unfold aU;(repeat' split) <;> first|rfl|(exfalso;omega)|(simp_all;done))
      rw [hz]
      exact R.w2 ((.slice none 0 0),(.slice none 0 0),(.slice none 0 0),(.slice none 0 0)) [3] [3,2,1,0] rfl Tryz.results21 (RV.cell 0 rfl rfl au) (RV.tmp rfl) rfl rfl rfl (cm rfl rfl)
  ·
    refine R.q (q.neq rfl rfl (bne_iff_ne.2 (by omega))) rfl<|R.u 2 rfl<|?_
    by_cases h6:kind=2
    ·
      refine R.qg rfl (q.neq rfl rfl (bne_eq_false_iff_eq.2 (by omega))) rfl<|R.u 1 rfl<|R.nil ?_
      refine R.aH rfl rfl ?_
      refine R.reg rfl<|R.q (q.bI 2 rfl rfl au) rfl<|R.q (q.bI 1 rfl rfl aM) rfl<|R.c (q.call qQ rfl rfl (fun w hw=>(jO _ _ _ _ (r) (p) w ((fun _=>Wd.aO 0 rfl) w hw) ((fun _=>Wd.aO 1 rfl) w hw) ((fun _=>Wd.aO 2 rfl) w hw) ((fun _=>Wd.aO 3 rfl) w hw) (by assumption)))) rfl<|R.u 1 rfl<|R.nil ?_
      refine R.reg rfl<|R.u 1 rfl<|?_
      by_cases h7:cY r p=0
      ·
        refine R.q (q.fH rfl rfl Tryz.underlying41 (by omega)) rfl<|R.nil ?_
        refine R.aH rfl rfl ?_
        refine R.reg rfl<|R.q (q.aS (off':=1) rfl bm rfl) rfl<|R.q (q.ld 2 rfl rfl bT rfl) rfl<|R.q (q.len' (fun _=>Wd.aO 1 rfl) rfl Tryz.underlying26) rfl<|?_
        by_cases h8:r.Things.length=10
        ·
          refine R.q (q.eql rfl rfl (beq_iff_eq.2 (by omega))) rfl<|R.u 10 rfl<|R.nil ?_
          refine R.aI rfl rfl ?_
          refine R.reg rfl<|R.q (q.build (cs:=[.slice none 0 0,.slice none 0 0,.slice none 0 0,.slice none 0 0,.int .i64 0,.int .i64 0]) ck rfl rfl) rfl<|R.q (q.iface rfl da) rfl<|?_
          refine R.s rfl (s.st (us:=[.slice none 0 0,.slice none 0 0,.slice none 0 0,.slice none 0 0,.int .i64 0,.int .i64 0]) (cs':=[.slice none 0 0,.slice none 0 0,.slice none 0 0,.slice none 0 0,.int .i64 0,.int .i64 0]) 0 _ rfl rfl rfl rfl (.inl au) rfl rfl rfl rfl) fun _=>?_
          refine R.u 1 rfl<|R.nil ?_
          refine R.mp (fun _ hw=>hw.aN (α:=ao)) ?_
          refine R.mp (fun _ hw=>hw.aN (α:=ai)) ?_
          refine R.mp (fun _ hw=>hw.aN (α:=Held)) ?_
          refine R.mp (fun _ hw=>hw.aN (α:=Note)) ?_
          have hz:aU r p kind=((⟨[],[],[],[],0,0⟩:ay),9):=by (unfold aU;(repeat' split) <;> first|rfl|(exfalso;omega)|(simp_all;done))
          rw [hz]
          exact R.w2 ((.slice none 0 0),(.slice none 0 0),(.slice none 0 0),(.slice none 0 0)) [3] [3,2,1,0] rfl Tryz.results21 (RV.cell 0 rfl rfl au) (RV.tmp rfl) rfl rfl rfl (cm rfl (e5 (by decide) rfl))
        ·
          refine R.q (q.eql rfl rfl (beq_eq_false_iff_ne.2 (by omega))) rfl<|R.u 1 rfl<|R.qg rfl (q.aS (off':=5) rfl cQ rfl) rfl<|R.qg rfl (q.ld 2 rfl rfl aG rfl) rfl<|?_
          by_cases h9:999<r.af
          ·
            refine R.qg rfl (q.gtr rfl rfl (decide_eq_true (by omega))) rfl<|R.u 6 rfl<|R.nil ?_
            refine R.aI rfl rfl ?_
            refine R.reg rfl<|R.q (q.build (cs:=[.slice none 0 0,.slice none 0 0,.slice none 0 0,.slice none 0 0,.int .i64 0,.int .i64 0]) ck rfl rfl) rfl<|R.q (q.iface rfl da) rfl<|?_
            refine R.s rfl (s.st (us:=[.slice none 0 0,.slice none 0 0,.slice none 0 0,.slice none 0 0,.int .i64 0,.int .i64 0]) (cs':=[.slice none 0 0,.slice none 0 0,.slice none 0 0,.slice none 0 0,.int .i64 0,.int .i64 0]) 0 _ rfl rfl rfl rfl (.inl au) rfl rfl rfl rfl) fun _=>?_
            refine R.u 1 rfl<|R.nil ?_
            refine R.mp (fun _ hw=>hw.aN (α:=ao)) ?_
            refine R.mp (fun _ hw=>hw.aN (α:=ai)) ?_
            refine R.mp (fun _ hw=>hw.aN (α:=Held)) ?_
            refine R.mp (fun _ hw=>hw.aN (α:=Note)) ?_
            have hz:aU r p kind=((⟨[],[],[],[],0,0⟩:ay),9):=by (unfold aU;(repeat' split) <;> first|rfl|(exfalso;omega)|(simp_all;done))
            rw [hz]
            exact R.w2 ((.slice none 0 0),(.slice none 0 0),(.slice none 0 0),(.slice none 0 0)) [3] [3,2,1,0] rfl Tryz.results21 (RV.cell 0 rfl rfl au) (RV.tmp rfl) rfl rfl rfl (cm rfl (e5 (by decide) rfl))
          ·
            refine R.qg rfl (q.gtr rfl rfl (decide_eq_false (by omega))) rfl<|R.u 2 rfl<|R.qg rfl (q.aS (off':=4) rfl bU rfl) rfl<|R.qg rfl (q.ld 2 rfl rfl aG rfl) rfl<|?_
            by_cases h10:999<r.ae
            ·
              refine R.qg rfl (q.gtr rfl rfl (decide_eq_true (by omega))) rfl<|R.u 1 rfl<|R.nil ?_
              refine R.aI rfl rfl ?_
              refine R.reg rfl<|R.q (q.build (cs:=[.slice none 0 0,.slice none 0 0,.slice none 0 0,.slice none 0 0,.int .i64 0,.int .i64 0]) ck rfl rfl) rfl<|R.q (q.iface rfl da) rfl<|?_
              refine R.s rfl (s.st (us:=[.slice none 0 0,.slice none 0 0,.slice none 0 0,.slice none 0 0,.int .i64 0,.int .i64 0]) (cs':=[.slice none 0 0,.slice none 0 0,.slice none 0 0,.slice none 0 0,.int .i64 0,.int .i64 0]) 0 _ rfl rfl rfl rfl (.inl au) rfl rfl rfl rfl) fun _=>?_
              refine R.u 1 rfl<|R.nil ?_
              refine R.mp (fun _ hw=>hw.aN (α:=ao)) ?_
              refine R.mp (fun _ hw=>hw.aN (α:=ai)) ?_
              refine R.mp (fun _ hw=>hw.aN (α:=Held)) ?_
              refine R.mp (fun _ hw=>hw.aN (α:=Note)) ?_
              have hz:aU r p kind=((⟨[],[],[],[],0,0⟩:ay),9):=by (unfold aU;(repeat' split) <;> first|rfl|(exfalso;omega)|(simp_all;done))
              rw [hz]
              exact R.w2 ((.slice none 0 0),(.slice none 0 0),(.slice none 0 0),(.slice none 0 0)) [3] [3,2,1,0] rfl Tryz.results21 (RV.cell 0 rfl rfl au) (RV.tmp rfl) rfl rfl rfl (cm rfl (e5 (by decide) rfl))
            ·
              refine R.qg rfl (q.gtr rfl rfl (decide_eq_false (by omega))) rfl<|R.u 1 rfl<|R.nil ?_
              refine R.aH rfl rfl ?_
              refine R.reg rfl<|R.q (q.aS (off':=5) rfl cQ rfl) rfl<|R.q (q.ld 2 rfl rfl aG rfl) rfl<|R.u 1 rfl<|R.nil ?_
              refine R.reg rfl<|R.q (q.aS (off':=1) rfl bm rfl) rfl<|R.q (q.ld 2 rfl rfl bT rfl) rfl<|?_
              refine R.s (B':=(fun aL:Value=>[ah.row 74 aL (r.Things:List ai),ah.box b3 [.slice none 0 0,.slice none 0 0,.slice none 0 0,.slice none 0 0,.int .i64 0,.int .i64 0] 30,ah.box b2 [.int .i64 p.ag,.int .i64 p.Slot] 33,ah.box b1 [aD,az,aB,aA,.int .i64 r.ae,.int .i64 r.af] 30,ah.held w own])) (F':=(fun aL:Value=>[ah.ls aD (r.ap:List ao),ah.ls az (r.Things:List ai),ah.ls aB (r.Held:List Held),ah.ls aA (r.Notes:List Note)])) rfl (s.bE (B0:=[]) (Br:=[ah.box b3 [.slice none 0 0,.slice none 0 0,.slice none 0 0,.slice none 0 0,.int .i64 0,.int .i64 0] 30,ah.box b2 [.int .i64 p.ag,.int .i64 p.Slot] 33,ah.box b1 [aD,az,aB,aA,.int .i64 r.ae,.int .i64 r.af] 30,ah.held w own]) (F0:=[ah.ls az (r.Things:List ai)]) [0,1,2,3] [1] (fun aL:Value=>aL) (fun aL:Value=>[ah.row 74 aL (r.Things:List ai)]) (fun aL:Value=>[]) rfl rfl rfl oL rfl rfl (fun w own hw H=>eL az (r.Things) w own H (by first|omega|assumption|(simp;done)|(simp;omega))) rfl) fun z6=>?_
              refine R.u 2 rfl<|R.q (q.build (cs:=[.int .i64 r.af,.int .i64 kind,.string (⟨#[]⟩)]) qI rfl rfl) rfl<|?_
              refine R.s rfl (s.bs (l:=([(⟨r.af,kind,⟨#[]⟩⟩:ai)]:List ai)) dJ fK rfl rfl rfl rfl rfl rfl rfl) fun b5=>?_
              refine R.s rfl (s.app (l2:=[(⟨r.af,kind,⟨#[]⟩⟩:ai)]) 1 _ rfl rfl rfl (fun _=>Wd.row 0 rfl) hG (by first|omega|(simp;omega)) (by first|omega|(simp;omega)) (fun _=>rfl) rfl) fun v2=>?_
              refine R.q (q.aS (off':=1) rfl bm rfl) rfl<|?_
              refine R.s rfl (s.cS (us:=[v2]) (cs':=[aD,v2,aB,aA,.int .i64 r.ae,.int .i64 r.af]) 4 _ rfl rfl rfl (fun w hw=>Sl.bJ ((fun _=>Wd.row 1 rfl) w hw)) (.inr ⟨bT,rfl⟩) (fun w hw=>(aj (Sl.one ((fun _=>Wd.row 1 rfl) w hw)) aJ)) rfl rfl rfl) fun _=>?_
              refine R.nil ?_
              refine R.reg rfl<|R.q (q.aS (off':=5) rfl cQ rfl) rfl<|R.q (q.ld 4 rfl rfl aG rfl) rfl<|R.q (q.add (r:=r.af+1) rfl rfl (wr (by omega))) rfl<|R.q (q.aS (off':=5) rfl cQ rfl) rfl<|?_
              refine R.s rfl (s.st (us:=[.int .i64 (r.af+1)]) (cs':=[aD,v2,aB,aA,.int .i64 r.ae,.int .i64 (r.af+1)]) 4 _ rfl rfl rfl rfl (.inr ⟨aG,rfl⟩) rfl rfl rfl rfl) fun _=>?_
              refine R.nil ?_
              refine R.reg rfl<|R.q (q.bI 4 rfl rfl au) rfl<|R.q (q.aS (off':=4) rfl bU rfl) rfl<|R.q (q.ld 4 rfl rfl aG rfl) rfl<|R.u 1 rfl<|R.q (q.build (cs:=[.int .i64 r.ae,.int .i64 r.af,.int .i64 7,.int .i64 0,.int .i64 0]) dM rfl rfl) rfl<|R.q (q.bI 3 rfl rfl aM) rfl<|?_
              refine R.s (B':=(fun g_:Value×Value×Value×Value=>[ah.row 74 (.slice (some ⟨b5,0,none⟩) 1 1) ([(⟨r.af,kind,⟨#[]⟩⟩:ai)]:List ai),ah.box b3 [.slice none 0 0,.slice none 0 0,.slice none 0 0,.slice none 0 0,.int .i64 0,.int .i64 0] 30,ah.box b2 [.int .i64 p.ag,.int .i64 p.Slot] 33,ah.box b1 [aD,v2,aB,aA,.int .i64 r.ae,.int .i64 (r.af+1)] 30,ah.held w own])) (F':=(fun g_:Value×Value×Value×Value=>[ah.ls g_.1 (((aW (⟨r.ap,(r.Things++([(⟨r.af,kind,⟨#[]⟩⟩:ai)])),r.Held,r.Notes,r.ae,(r.af+1)⟩:ay) (⟨r.ae,r.af,7,0,0⟩:ao) p)).ap:List ao),ah.ls g_.2.1 (((aW (⟨r.ap,(r.Things++([(⟨r.af,kind,⟨#[]⟩⟩:ai)])),r.Held,r.Notes,r.ae,(r.af+1)⟩:ay) (⟨r.ae,r.af,7,0,0⟩:ao) p)).Things:List ai),ah.ls g_.2.2.1 (((aW (⟨r.ap,(r.Things++([(⟨r.af,kind,⟨#[]⟩⟩:ai)])),r.Held,r.Notes,r.ae,(r.af+1)⟩:ay) (⟨r.ae,r.af,7,0,0⟩:ao) p)).Held:List Held),ah.ls g_.2.2.2 (((aW (⟨r.ap,(r.Things++([(⟨r.af,kind,⟨#[]⟩⟩:ai)])),r.Held,r.Notes,r.ae,(r.af+1)⟩:ay) (⟨r.ae,r.af,7,0,0⟩:ao) p)).Notes:List Note),ah.ls v2 ((r.Things++([(⟨r.af,kind,⟨#[]⟩⟩:ai)])):List ai),ah.ls aD (r.ap:List ao),ah.ls az (r.Things:List ai),ah.ls aB (r.Held:List Held),ah.ls aA (r.Notes:List Note)])) rfl (s.pre (B2:=[ah.row 74 (.slice (some ⟨b5,0,none⟩) 1 1) ([(⟨r.af,kind,⟨#[]⟩⟩:ai)]:List ai),ah.box b3 [.slice none 0 0,.slice none 0 0,.slice none 0 0,.slice none 0 0,.int .i64 0,.int .i64 0] 30,ah.box b2 [.int .i64 p.ag,.int .i64 p.Slot] 33,ah.box b1 [aD,v2,aB,aA,.int .i64 r.ae,.int .i64 (r.af+1)] 30,ah.held w own]) (F2:=[ah.ls v2 ((r.Things++([(⟨r.af,kind,⟨#[]⟩⟩:ai)])):List ai),ah.ls aD (r.ap:List ao),ah.ls az (r.Things:List ai),ah.ls aB (r.Held:List Held),ah.ls aA (r.Notes:List Note)]) (fun _ hw=>hw.aZ 1 _ rfl rfl) (s.bE (B0:=[]) (Br:=[ah.row 74 (.slice (some ⟨b5,0,none⟩) 1 1) ([(⟨r.af,kind,⟨#[]⟩⟩:ai)]:List ai),ah.box b3 [.slice none 0 0,.slice none 0 0,.slice none 0 0,.slice none 0 0,.int .i64 0,.int .i64 0] 30,ah.box b2 [.int .i64 p.ag,.int .i64 p.Slot] 33,ah.box b1 [aD,v2,aB,aA,.int .i64 r.ae,.int .i64 (r.af+1)] 30,ah.held w own]) (F0:=[ah.ls aD (r.ap:List ao),ah.ls v2 ((r.Things++([(⟨r.af,kind,⟨#[]⟩⟩:ai)])):List ai),ah.ls aB (r.Held:List Held),ah.ls aA (r.Notes:List Note)]) [0,1,2,3,4] [1,0,3,4] (fun g_:Value×Value×Value×Value => .agg #[g_.1,g_.2.1,g_.2.2.1,g_.2.2.2,.int .i64 (((aW (⟨r.ap,(r.Things++([(⟨r.af,kind,⟨#[]⟩⟩:ai)])),r.Held,r.Notes,r.ae,(r.af+1)⟩:ay) (⟨r.ae,r.af,7,0,0⟩:ao) p)).ae),.int .i64 (((aW (⟨r.ap,(r.Things++([(⟨r.af,kind,⟨#[]⟩⟩:ai)])),r.Held,r.Notes,r.ae,(r.af+1)⟩:ay) (⟨r.ae,r.af,7,0,0⟩:ao) p)).af)]) (fun g_:Value×Value×Value×Value=>[]) (fun g_:Value×Value×Value×Value=>[ah.ls g_.1 (((aW (⟨r.ap,(r.Things++([(⟨r.af,kind,⟨#[]⟩⟩:ai)])),r.Held,r.Notes,r.ae,(r.af+1)⟩:ay) (⟨r.ae,r.af,7,0,0⟩:ao) p)).ap:List ao),ah.ls g_.2.1 (((aW (⟨r.ap,(r.Things++([(⟨r.af,kind,⟨#[]⟩⟩:ai)])),r.Held,r.Notes,r.ae,(r.af+1)⟩:ay) (⟨r.ae,r.af,7,0,0⟩:ao) p)).Things:List ai),ah.ls g_.2.2.1 (((aW (⟨r.ap,(r.Things++([(⟨r.af,kind,⟨#[]⟩⟩:ai)])),r.Held,r.Notes,r.ae,(r.af+1)⟩:ay) (⟨r.ae,r.af,7,0,0⟩:ao) p)).Held:List Held),ah.ls g_.2.2.2 (((aW (⟨r.ap,(r.Things++([(⟨r.af,kind,⟨#[]⟩⟩:ai)])),r.Held,r.Notes,r.ae,(r.af+1)⟩:ay) (⟨r.ae,r.af,7,0,0⟩:ao) p)).Notes:List Note)]) rfl rfl rfl oM rfl rfl (fun w own hw H=>jC aD v2 aB aA ((⟨r.ap,(r.Things++([(⟨r.af,kind,⟨#[]⟩⟩:ai)])),r.Held,r.Notes,r.ae,(r.af+1)⟩:ay)) ((⟨r.ae,r.af,7,0,0⟩:ao)) (p) w own H (by first|omega|(dsimp only;omega))) rfl)) ?_
              rintro ⟨z7,z8,z9,eY⟩
              dsimp only
              refine R.s rfl (s.cS (us:=[z7,z8,z9,eY,.int .i64 ((aW (⟨r.ap,(r.Things++([(⟨r.af,kind,⟨#[]⟩⟩:ai)])),r.Held,r.Notes,r.ae,(r.af+1)⟩:ay) (⟨r.ae,r.af,7,0,0⟩:ao) p).ae),.int .i64 ((aW (⟨r.ap,(r.Things++([(⟨r.af,kind,⟨#[]⟩⟩:ai)])),r.Held,r.Notes,r.ae,(r.af+1)⟩:ay) (⟨r.ae,r.af,7,0,0⟩:ao) p).af)]) (cs':=[z7,z8,z9,eY,.int .i64 ((aW (⟨r.ap,(r.Things++([(⟨r.af,kind,⟨#[]⟩⟩:ai)])),r.Held,r.Notes,r.ae,(r.af+1)⟩:ay) (⟨r.ae,r.af,7,0,0⟩:ao) p).ae),.int .i64 ((aW (⟨r.ap,(r.Things++([(⟨r.af,kind,⟨#[]⟩⟩:ai)])),r.Held,r.Notes,r.ae,(r.af+1)⟩:ay) (⟨r.ae,r.af,7,0,0⟩:ao) p).af)]) 1 _ rfl rfl rfl (fun _ _=>rfl) (.inl au) (fun w hw=>(aj (Sl.one ((fun _=>Wd.aO 0 rfl) w hw)) (aj (Sl.one ((fun _=>Wd.aO 1 rfl) w hw)) (aj (Sl.one ((fun _=>Wd.aO 2 rfl) w hw)) (aj (Sl.one ((fun _=>Wd.aO 3 rfl) w hw)) (aj rfl (aj rfl aJ))))))) rfl rfl rfl) fun _=>?_
              refine R.u 1 rfl<|R.nil ?_
              have hz:aU r p kind=((aW (⟨r.ap,(r.Things++([(⟨r.af,kind,⟨#[]⟩⟩:ai)])),r.Held,r.Notes,r.ae,(r.af+1)⟩:ay) (⟨r.ae,r.af,7,0,0⟩:ao) p),0):=by (unfold aU;(repeat' split) <;> first|rfl|(exfalso;omega)|(simp_all;done))
              rw [hz]
              exact R.w2 (z7,z8,z9,eY) [4] [0,1,2,3] rfl Tryz.results21 (RV.cell 1 rfl rfl au) (RV.tmp rfl) rfl rfl rfl (cm rfl (gu rfl))
      ·
        refine R.q (q.fI rfl rfl Tryz.underlying41 (by omega)) rfl<|R.nil ?_
        refine R.aI rfl rfl ?_
        refine R.reg rfl<|R.q (q.build (cs:=[.slice none 0 0,.slice none 0 0,.slice none 0 0,.slice none 0 0,.int .i64 0,.int .i64 0]) ck rfl rfl) rfl<|R.u 1 rfl<|?_
        refine R.s rfl (s.st (us:=[.slice none 0 0,.slice none 0 0,.slice none 0 0,.slice none 0 0,.int .i64 0,.int .i64 0]) (cs':=[.slice none 0 0,.slice none 0 0,.slice none 0 0,.slice none 0 0,.int .i64 0,.int .i64 0]) 0 _ rfl rfl rfl rfl (.inl au) rfl rfl rfl rfl) fun _=>?_
        refine R.u 1 rfl<|R.nil ?_
        refine R.mp (fun _ hw=>hw.aN (α:=ao)) ?_
        refine R.mp (fun _ hw=>hw.aN (α:=ai)) ?_
        refine R.mp (fun _ hw=>hw.aN (α:=Held)) ?_
        refine R.mp (fun _ hw=>hw.aN (α:=Note)) ?_
        have hz:aU r p kind=((⟨[],[],[],[],0,0⟩:ay),cY r p):=by (unfold aU;(repeat' split) <;> first|rfl|(exfalso;omega)|(simp_all;done))
        rw [hz]
        exact R.w2 ((.slice none 0 0),(.slice none 0 0),(.slice none 0 0),(.slice none 0 0)) [3] [3,2,1,0] rfl Tryz.results21 (RV.cell 0 rfl rfl au) (RV.tmp rfl) rfl rfl rfl (cm rfl rfl)
    ·
      refine R.qg rfl (q.neq rfl rfl (bne_iff_ne.2 (by omega))) rfl<|R.u 1 rfl<|R.nil ?_
      refine R.aI rfl rfl ?_
      refine R.reg rfl<|R.q (q.build (cs:=[.slice none 0 0,.slice none 0 0,.slice none 0 0,.slice none 0 0,.int .i64 0,.int .i64 0]) ck rfl rfl) rfl<|R.q (q.iface rfl da) rfl<|?_
      refine R.s rfl (s.st (us:=[.slice none 0 0,.slice none 0 0,.slice none 0 0,.slice none 0 0,.int .i64 0,.int .i64 0]) (cs':=[.slice none 0 0,.slice none 0 0,.slice none 0 0,.slice none 0 0,.int .i64 0,.int .i64 0]) 0 _ rfl rfl rfl rfl (.inl au) rfl rfl rfl rfl) fun _=>?_
      refine R.u 1 rfl<|R.nil ?_
      refine R.mp (fun _ hw=>hw.aN (α:=ao)) ?_
      refine R.mp (fun _ hw=>hw.aN (α:=ai)) ?_
      refine R.mp (fun _ hw=>hw.aN (α:=Held)) ?_
      refine R.mp (fun _ hw=>hw.aN (α:=Note)) ?_
      have hz:aU r p kind=((⟨[],[],[],[],0,0⟩:ay),8):=by (unfold aU;(repeat' split) <;> first|rfl|(exfalso;omega)|(simp_all;done))
      rw [hz]
      exact R.w2 ((.slice none 0 0),(.slice none 0 0),(.slice none 0 0),(.slice none 0 0)) [3] [3,2,1,0] rfl Tryz.results21 (RV.cell 0 rfl rfl au) (RV.tmp rfl) rfl rfl rfl (cm rfl (e5 (by decide) rfl))
theorem rP (aD az aB aA:Value)(r:ay)(p:Place)(t:Place)(rights:Int)(aC:Int)(w:World)(own:List Nat)(H:Wd w (blks []++own) ([]++[ah.held w own]) [ah.ls aD (r.ap:List ao),ah.ls az (r.Things:List ai),ah.ls aB (r.Held:List Held),ah.ls aA (r.Notes:List Note)] w)(hk:Ok r):Calls Tryz.prog 47 #[.agg #[aD,az,aB,aA,.int .i64 r.ae,.int .i64 r.af],.agg #[.int .i64 p.ag,.int .i64 p.Slot],.agg #[.int .i64 t.ag,.int .i64 t.Slot],.int .i64 rights,.int .i64 aC] w fun e w' => ∃z:Value×Value×Value×Value,e = .returned (.tuple #[.agg #[z.1,z.2.1,z.2.2.1,z.2.2.2,.int .i64 ((((bD r p t rights aC)).1).ae),.int .i64 ((((bD r p t rights aC)).1).af)],ek (((bD r p t rights aC)).2)])∧Wd w (blks []++own) ([]++[ah.held w own]) [ah.ls z.1 ((((bD r p t rights aC)).1).ap:List ao),ah.ls z.2.1 ((((bD r p t rights aC)).1).Things:List ai),ah.ls z.2.2.1 ((((bD r p t rights aC)).1).Held:List Held),ah.ls z.2.2.2 ((((bD r p t rights aC)).1).Notes:List Note)] w':=by
  have cw:=H.bS 0 rfl
  have bY:=H.bS 1 rfl
  have cI:=H.bS 2 rfl
  have cx:=H.bS 3 rfl
  have bw:=hk.wl;have bt:=hk.tl;have bh:=hk.hl;have bn:=hk.nl;have lS:=hk.w0;have lT:=hk.w1;have lU:=hk.t0;have lV:=hk.t1
  refine R.cC (n:=67) (vs:=[.agg #[aD,az,aB,aA,.int .i64 r.ae,.int .i64 r.af],.agg #[.int .i64 p.ag,.int .i64 p.Slot],.agg #[.int .i64 t.ag,.int .i64 t.Slot],.int .i64 rights,.int .i64 aC]) (B:=[ah.held w own]) [(0,.agg #[aD,az,aB,aA,.int .i64 r.ae,.int .i64 r.af]),(1,.agg #[.int .i64 p.ag,.int .i64 p.Slot]),(2,.agg #[.int .i64 t.ag,.int .i64 t.Slot]),(3,.int .i64 rights),(4,.int .i64 aC)] Tryz.func47 rfl rfl rfl rfl H ?_
  refine R.reg rfl<|?_
  refine R.s rfl (s.box (cs:=[aD,az,aB,aA,.int .i64 r.ae,.int .i64 r.af]) rfl rfl rfl) fun b1=>?_
  refine R.s rfl (s.box (cs:=[.int .i64 p.ag,.int .i64 p.Slot]) rfl rfl rfl) fun b2=>?_
  refine R.s rfl (s.box (cs:=[.int .i64 t.ag,.int .i64 t.Slot]) rfl rfl rfl) fun b3=>?_
  refine R.s rfl (s.alloc (cs:=[.slice none 0 0,.slice none 0 0,.slice none 0 0,.slice none 0 0,.int .i64 0,.int .i64 0]) bR rfl rfl) fun b4=>?_
  refine R.u 1 rfl<|R.nil ?_
  refine R.reg rfl<|R.q (q.bI 3 rfl rfl au) rfl<|R.q (q.bI 2 rfl rfl aM) rfl<|R.c (q.call oJ rfl rfl (fun w hw=>(ig _ _ _ _ (r) (p) w ((fun _=>Wd.aO 0 rfl) w hw) ((fun _=>Wd.aO 1 rfl) w hw) ((fun _=>Wd.aO 2 rfl) w hw) ((fun _=>Wd.aO 3 rfl) w hw) (by assumption)))) rfl<|R.u 3 rfl<|?_
  refine R.s rfl (s.alloc (cs:=[.int .i64 0,.int .i64 0,.int .i64 0,.int .i64 0,.int .i64 0]) aY rfl rfl) fun b5=>?_
  refine R.s rfl (s.st (us:=[.int .i64 (((ak r p).1).ID),.int .i64 (((ak r p).1).ai),.int .i64 (((ak r p).1).Rights),.int .i64 (((ak r p).1).ar),.int .i64 (((ak r p).1).From)]) (cs':=[.int .i64 (((ak r p).1).ID),.int .i64 (((ak r p).1).ai),.int .i64 (((ak r p).1).Rights),.int .i64 (((ak r p).1).ar),.int .i64 (((ak r p).1).From)]) 0 _ rfl rfl rfl rfl (.inl aK) rfl rfl rfl rfl) fun _=>?_
  refine R.u 1 rfl<|R.nil ?_
  refine R.reg rfl<|R.u 1 rfl<|?_
  by_cases h1:(ak r p).2=0
  ·
    have yQ:=hk.get h1
    refine R.q (q.fH rfl rfl Tryz.underlying41 (by omega)) rfl<|R.nil ?_
    refine R.aH rfl rfl ?_
    refine R.reg rfl<|R.q (q.bI 4 rfl rfl au) rfl<|R.q (q.bI 2 rfl rfl aM) rfl<|R.c (q.call qQ rfl rfl (fun w hw=>(jO _ _ _ _ (r) (t) w ((fun _=>Wd.aO 0 rfl) w hw) ((fun _=>Wd.aO 1 rfl) w hw) ((fun _=>Wd.aO 2 rfl) w hw) ((fun _=>Wd.aO 3 rfl) w hw) (by assumption)))) rfl<|R.u 1 rfl<|R.nil ?_
    refine R.reg rfl<|R.u 1 rfl<|?_
    by_cases h2:cY r t=0
    ·
      refine R.q (q.fH rfl rfl Tryz.underlying41 (by omega)) rfl<|R.nil ?_
      refine R.aH rfl rfl ?_
      refine R.reg rfl<|R.q (q.aS (off':=0) rfl bZ rfl) rfl<|R.q (q.ld 3 rfl rfl aG rfl) rfl<|R.q (q.aS (off':=0) rfl bZ rfl) rfl<|R.q (q.ld 2 rfl rfl aG rfl) rfl<|?_
      by_cases h3:p.ag=t.ag
      ·
        refine R.q (q.neq rfl rfl (bne_eq_false_iff_eq.2 (by omega))) rfl<|R.u 6 rfl<|R.nil ?_
        refine R.aH rfl rfl ?_
        refine R.reg rfl<|R.q (q.aS (off':=4) rfl bU rfl) rfl<|R.q (q.ld 4 rfl rfl aG rfl) rfl<|?_
        by_cases h4:999<r.ae
        ·
          refine R.q (q.gtr rfl rfl (decide_eq_true (by omega))) rfl<|R.nil ?_
          refine R.aI rfl rfl ?_
          refine R.reg rfl<|R.q (q.build (cs:=[.slice none 0 0,.slice none 0 0,.slice none 0 0,.slice none 0 0,.int .i64 0,.int .i64 0]) ck rfl rfl) rfl<|R.q (q.iface rfl da) rfl<|?_
          refine R.s rfl (s.st (us:=[.slice none 0 0,.slice none 0 0,.slice none 0 0,.slice none 0 0,.int .i64 0,.int .i64 0]) (cs':=[.slice none 0 0,.slice none 0 0,.slice none 0 0,.slice none 0 0,.int .i64 0,.int .i64 0]) 1 _ rfl rfl rfl rfl (.inl au) rfl rfl rfl rfl) fun _=>?_
          refine R.u 1 rfl<|R.nil ?_
          refine R.mp (fun _ hw=>hw.aN (α:=ao)) ?_
          refine R.mp (fun _ hw=>hw.aN (α:=ai)) ?_
          refine R.mp (fun _ hw=>hw.aN (α:=Held)) ?_
          refine R.mp (fun _ hw=>hw.aN (α:=Note)) ?_
          have hz:bD r p t rights aC=((⟨[],[],[],[],0,0⟩:ay),9):=by (unfold bD;(repeat' split) <;> first|rfl|(exfalso;omega)|(simp_all;done))
          rw [hz]
          exact R.w2 ((.slice none 0 0),(.slice none 0 0),(.slice none 0 0),(.slice none 0 0)) [5] [3,2,1,0] rfl Tryz.results47 (RV.cell 1 rfl rfl au) (RV.tmp rfl) rfl rfl rfl (cm rfl (e5 (by decide) rfl))
        ·
          refine R.q (q.gtr rfl rfl (decide_eq_false (by omega))) rfl<|R.nil ?_
          refine R.aH rfl rfl ?_
          refine R.reg rfl<|R.q (q.bI 0 rfl rfl aK) rfl<|R.q (q.aS (off':=4) rfl bU rfl) rfl<|R.q (q.ld 4 rfl rfl aG rfl) rfl<|R.u 2 rfl<|R.c (q.call sJ rfl rfl (fun w hw=>(j6 (((ak r p).1)) (r.ae) (rights) (aC) w  (by omega)))) rfl<|R.u 3 rfl<|?_
          refine R.s rfl (s.alloc (cs:=[.int .i64 0,.int .i64 0,.int .i64 0,.int .i64 0,.int .i64 0]) aY rfl rfl) fun b6=>?_
          refine R.s rfl (s.st (us:=[.int .i64 (((derived ((ak r p).1) r.ae rights aC).1).ID),.int .i64 (((derived ((ak r p).1) r.ae rights aC).1).ai),.int .i64 (((derived ((ak r p).1) r.ae rights aC).1).Rights),.int .i64 (((derived ((ak r p).1) r.ae rights aC).1).ar),.int .i64 (((derived ((ak r p).1) r.ae rights aC).1).From)]) (cs':=[.int .i64 (((derived ((ak r p).1) r.ae rights aC).1).ID),.int .i64 (((derived ((ak r p).1) r.ae rights aC).1).ai),.int .i64 (((derived ((ak r p).1) r.ae rights aC).1).Rights),.int .i64 (((derived ((ak r p).1) r.ae rights aC).1).ar),.int .i64 (((derived ((ak r p).1) r.ae rights aC).1).From)]) 0 _ rfl rfl rfl rfl (.inl aK) rfl rfl rfl rfl) fun _=>?_
          refine R.u 1 rfl<|R.nil ?_
          refine R.reg rfl<|R.u 1 rfl<|?_
          by_cases h5:(derived ((ak r p).1) r.ae rights aC).2=0
          ·
            refine R.q (q.fH rfl rfl Tryz.underlying41 (by omega)) rfl<|R.nil ?_
            refine R.aH rfl rfl ?_
            refine R.reg rfl<|R.q (q.bI 5 rfl rfl au) rfl<|R.q (q.bI 0 rfl rfl aK) rfl<|R.q (q.bI 3 rfl rfl aM) rfl<|?_
            refine R.s (B':=(fun g_:Value×Value×Value×Value=>[ah.box b6 [.int .i64 (((derived ((ak r p).1) r.ae rights aC).1).ID),.int .i64 (((derived ((ak r p).1) r.ae rights aC).1).ai),.int .i64 (((derived ((ak r p).1) r.ae rights aC).1).Rights),.int .i64 (((derived ((ak r p).1) r.ae rights aC).1).ar),.int .i64 (((derived ((ak r p).1) r.ae rights aC).1).From)] 39,ah.box b5 [.int .i64 (((ak r p).1).ID),.int .i64 (((ak r p).1).ai),.int .i64 (((ak r p).1).Rights),.int .i64 (((ak r p).1).ar),.int .i64 (((ak r p).1).From)] 39,ah.box b4 [.slice none 0 0,.slice none 0 0,.slice none 0 0,.slice none 0 0,.int .i64 0,.int .i64 0] 30,ah.box b3 [.int .i64 t.ag,.int .i64 t.Slot] 33,ah.box b2 [.int .i64 p.ag,.int .i64 p.Slot] 33,ah.box b1 [aD,az,aB,aA,.int .i64 r.ae,.int .i64 r.af] 30,ah.held w own])) (F':=(fun g_:Value×Value×Value×Value=>[ah.ls g_.1 (((aW r ((derived ((ak r p).1) r.ae rights aC).1) t)).ap:List ao),ah.ls g_.2.1 (((aW r ((derived ((ak r p).1) r.ae rights aC).1) t)).Things:List ai),ah.ls g_.2.2.1 (((aW r ((derived ((ak r p).1) r.ae rights aC).1) t)).Held:List Held),ah.ls g_.2.2.2 (((aW r ((derived ((ak r p).1) r.ae rights aC).1) t)).Notes:List Note),ah.ls aD (r.ap:List ao),ah.ls az (r.Things:List ai),ah.ls aB (r.Held:List Held),ah.ls aA (r.Notes:List Note)])) rfl (s.bE (B0:=[]) (Br:=[ah.box b6 [.int .i64 (((derived ((ak r p).1) r.ae rights aC).1).ID),.int .i64 (((derived ((ak r p).1) r.ae rights aC).1).ai),.int .i64 (((derived ((ak r p).1) r.ae rights aC).1).Rights),.int .i64 (((derived ((ak r p).1) r.ae rights aC).1).ar),.int .i64 (((derived ((ak r p).1) r.ae rights aC).1).From)] 39,ah.box b5 [.int .i64 (((ak r p).1).ID),.int .i64 (((ak r p).1).ai),.int .i64 (((ak r p).1).Rights),.int .i64 (((ak r p).1).ar),.int .i64 (((ak r p).1).From)] 39,ah.box b4 [.slice none 0 0,.slice none 0 0,.slice none 0 0,.slice none 0 0,.int .i64 0,.int .i64 0] 30,ah.box b3 [.int .i64 t.ag,.int .i64 t.Slot] 33,ah.box b2 [.int .i64 p.ag,.int .i64 p.Slot] 33,ah.box b1 [aD,az,aB,aA,.int .i64 r.ae,.int .i64 r.af] 30,ah.held w own]) (F0:=[ah.ls aD (r.ap:List ao),ah.ls az (r.Things:List ai),ah.ls aB (r.Held:List Held),ah.ls aA (r.Notes:List Note)]) [0,1,2,3,4,5,6] [0,1,2,3] (fun g_:Value×Value×Value×Value => .agg #[g_.1,g_.2.1,g_.2.2.1,g_.2.2.2,.int .i64 (((aW r ((derived ((ak r p).1) r.ae rights aC).1) t)).ae),.int .i64 (((aW r ((derived ((ak r p).1) r.ae rights aC).1) t)).af)]) (fun g_:Value×Value×Value×Value=>[]) (fun g_:Value×Value×Value×Value=>[ah.ls g_.1 (((aW r ((derived ((ak r p).1) r.ae rights aC).1) t)).ap:List ao),ah.ls g_.2.1 (((aW r ((derived ((ak r p).1) r.ae rights aC).1) t)).Things:List ai),ah.ls g_.2.2.1 (((aW r ((derived ((ak r p).1) r.ae rights aC).1) t)).Held:List Held),ah.ls g_.2.2.2 (((aW r ((derived ((ak r p).1) r.ae rights aC).1) t)).Notes:List Note)]) rfl rfl rfl oM rfl rfl (fun w own hw H=>jC aD az aB aA (r) (((derived ((ak r p).1) r.ae rights aC).1)) (t) w own H (by first|omega|(dsimp only;omega))) rfl) ?_
            rintro ⟨z1,z2,z3,z4⟩
            dsimp only
            refine R.s rfl (s.cS (us:=[z1,z2,z3,z4,.int .i64 ((aW r ((derived ((ak r p).1) r.ae rights aC).1) t).ae),.int .i64 ((aW r ((derived ((ak r p).1) r.ae rights aC).1) t).af)]) (cs':=[z1,z2,z3,z4,.int .i64 ((aW r ((derived ((ak r p).1) r.ae rights aC).1) t).ae),.int .i64 ((aW r ((derived ((ak r p).1) r.ae rights aC).1) t).af)]) 2 _ rfl rfl rfl (fun _ _=>rfl) (.inl au) (fun w hw=>(aj (Sl.one ((fun _=>Wd.aO 0 rfl) w hw)) (aj (Sl.one ((fun _=>Wd.aO 1 rfl) w hw)) (aj (Sl.one ((fun _=>Wd.aO 2 rfl) w hw)) (aj (Sl.one ((fun _=>Wd.aO 3 rfl) w hw)) (aj rfl (aj rfl aJ))))))) rfl rfl rfl) fun _=>?_
            refine R.u 1 rfl<|R.nil ?_
            have hz:bD r p t rights aC=((aW r ((derived ((ak r p).1) r.ae rights aC).1) t),0):=by (unfold bD;(repeat' split) <;> first|rfl|(exfalso;omega)|(simp_all;done))
            rw [hz]
            exact R.w2 (z1,z2,z3,z4) [6] [0,1,2,3] rfl Tryz.results47 (RV.cell 2 rfl rfl au) (RV.tmp rfl) rfl rfl rfl (cm rfl (gu rfl))
          ·
            refine R.q (q.fI rfl rfl Tryz.underlying41 (by omega)) rfl<|R.nil ?_
            refine R.aI rfl rfl ?_
            refine R.reg rfl<|R.q (q.build (cs:=[.slice none 0 0,.slice none 0 0,.slice none 0 0,.slice none 0 0,.int .i64 0,.int .i64 0]) ck rfl rfl) rfl<|R.u 1 rfl<|?_
            refine R.s rfl (s.st (us:=[.slice none 0 0,.slice none 0 0,.slice none 0 0,.slice none 0 0,.int .i64 0,.int .i64 0]) (cs':=[.slice none 0 0,.slice none 0 0,.slice none 0 0,.slice none 0 0,.int .i64 0,.int .i64 0]) 2 _ rfl rfl rfl rfl (.inl au) rfl rfl rfl rfl) fun _=>?_
            refine R.u 1 rfl<|R.nil ?_
            refine R.mp (fun _ hw=>hw.aN (α:=ao)) ?_
            refine R.mp (fun _ hw=>hw.aN (α:=ai)) ?_
            refine R.mp (fun _ hw=>hw.aN (α:=Held)) ?_
            refine R.mp (fun _ hw=>hw.aN (α:=Note)) ?_
            have hz:bD r p t rights aC=((⟨[],[],[],[],0,0⟩:ay),(derived ((ak r p).1) r.ae rights aC).2):=by (unfold bD;(repeat' split) <;> first|rfl|(exfalso;omega)|(simp_all;done))
            rw [hz]
            exact R.w2 ((.slice none 0 0),(.slice none 0 0),(.slice none 0 0),(.slice none 0 0)) [6] [3,2,1,0] rfl Tryz.results47 (RV.cell 2 rfl rfl au) (RV.tmp rfl) rfl rfl rfl (cm rfl rfl)
      ·
        refine R.q (q.neq rfl rfl (bne_iff_ne.2 (by omega))) rfl<|R.u 1 rfl<|R.qg rfl (q.aS (off':=2) rfl eP rfl) rfl<|R.qg rfl (q.ld 0 rfl rfl aG rfl) rfl<|?_
        rcases Bool.eq_false_or_eq_true (cT (((ak r p).1).Rights) 4) with h6|h6
        ·
          refine R.cg rfl (q.call lp rfl rfl (fun w hw=>(cv (congrArg Value.bool h6) (eh (((ak r p).1).Rights) (4) w  (by omega) (by omega))))) rfl<|R.u 2 rfl<|R.nil ?_
          refine R.aH rfl rfl ?_
          refine R.reg rfl<|R.q (q.aS (off':=4) rfl bU rfl) rfl<|R.q (q.ld 4 rfl rfl aG rfl) rfl<|?_
          by_cases h7:999<r.ae
          ·
            refine R.q (q.gtr rfl rfl (decide_eq_true (by omega))) rfl<|R.nil ?_
            refine R.aI rfl rfl ?_
            refine R.reg rfl<|R.q (q.build (cs:=[.slice none 0 0,.slice none 0 0,.slice none 0 0,.slice none 0 0,.int .i64 0,.int .i64 0]) ck rfl rfl) rfl<|R.q (q.iface rfl da) rfl<|?_
            refine R.s rfl (s.st (us:=[.slice none 0 0,.slice none 0 0,.slice none 0 0,.slice none 0 0,.int .i64 0,.int .i64 0]) (cs':=[.slice none 0 0,.slice none 0 0,.slice none 0 0,.slice none 0 0,.int .i64 0,.int .i64 0]) 1 _ rfl rfl rfl rfl (.inl au) rfl rfl rfl rfl) fun _=>?_
            refine R.u 1 rfl<|R.nil ?_
            refine R.mp (fun _ hw=>hw.aN (α:=ao)) ?_
            refine R.mp (fun _ hw=>hw.aN (α:=ai)) ?_
            refine R.mp (fun _ hw=>hw.aN (α:=Held)) ?_
            refine R.mp (fun _ hw=>hw.aN (α:=Note)) ?_
            have hz:bD r p t rights aC=((⟨[],[],[],[],0,0⟩:ay),9):=by (unfold bD;(repeat' split) <;> first|rfl|(exfalso;omega)|(simp_all;done))
            rw [hz]
            exact R.w2 ((.slice none 0 0),(.slice none 0 0),(.slice none 0 0),(.slice none 0 0)) [5] [3,2,1,0] rfl Tryz.results47 (RV.cell 1 rfl rfl au) (RV.tmp rfl) rfl rfl rfl (cm rfl (e5 (by decide) rfl))
          ·
            refine R.q (q.gtr rfl rfl (decide_eq_false (by omega))) rfl<|R.nil ?_
            refine R.aH rfl rfl ?_
            refine R.reg rfl<|R.q (q.bI 0 rfl rfl aK) rfl<|R.q (q.aS (off':=4) rfl bU rfl) rfl<|R.q (q.ld 4 rfl rfl aG rfl) rfl<|R.u 2 rfl<|R.c (q.call sJ rfl rfl (fun w hw=>(j6 (((ak r p).1)) (r.ae) (rights) (aC) w  (by omega)))) rfl<|R.u 3 rfl<|?_
            refine R.s rfl (s.alloc (cs:=[.int .i64 0,.int .i64 0,.int .i64 0,.int .i64 0,.int .i64 0]) aY rfl rfl) fun b7=>?_
            refine R.s rfl (s.st (us:=[.int .i64 (((derived ((ak r p).1) r.ae rights aC).1).ID),.int .i64 (((derived ((ak r p).1) r.ae rights aC).1).ai),.int .i64 (((derived ((ak r p).1) r.ae rights aC).1).Rights),.int .i64 (((derived ((ak r p).1) r.ae rights aC).1).ar),.int .i64 (((derived ((ak r p).1) r.ae rights aC).1).From)]) (cs':=[.int .i64 (((derived ((ak r p).1) r.ae rights aC).1).ID),.int .i64 (((derived ((ak r p).1) r.ae rights aC).1).ai),.int .i64 (((derived ((ak r p).1) r.ae rights aC).1).Rights),.int .i64 (((derived ((ak r p).1) r.ae rights aC).1).ar),.int .i64 (((derived ((ak r p).1) r.ae rights aC).1).From)]) 0 _ rfl rfl rfl rfl (.inl aK) rfl rfl rfl rfl) fun _=>?_
            refine R.u 1 rfl<|R.nil ?_
            refine R.reg rfl<|R.u 1 rfl<|?_
            by_cases h8:(derived ((ak r p).1) r.ae rights aC).2=0
            ·
              refine R.q (q.fH rfl rfl Tryz.underlying41 (by omega)) rfl<|R.nil ?_
              refine R.aH rfl rfl ?_
              refine R.reg rfl<|R.q (q.bI 5 rfl rfl au) rfl<|R.q (q.bI 0 rfl rfl aK) rfl<|R.q (q.bI 3 rfl rfl aM) rfl<|?_
              refine R.s (B':=(fun g_:Value×Value×Value×Value=>[ah.box b7 [.int .i64 (((derived ((ak r p).1) r.ae rights aC).1).ID),.int .i64 (((derived ((ak r p).1) r.ae rights aC).1).ai),.int .i64 (((derived ((ak r p).1) r.ae rights aC).1).Rights),.int .i64 (((derived ((ak r p).1) r.ae rights aC).1).ar),.int .i64 (((derived ((ak r p).1) r.ae rights aC).1).From)] 39,ah.box b5 [.int .i64 (((ak r p).1).ID),.int .i64 (((ak r p).1).ai),.int .i64 (((ak r p).1).Rights),.int .i64 (((ak r p).1).ar),.int .i64 (((ak r p).1).From)] 39,ah.box b4 [.slice none 0 0,.slice none 0 0,.slice none 0 0,.slice none 0 0,.int .i64 0,.int .i64 0] 30,ah.box b3 [.int .i64 t.ag,.int .i64 t.Slot] 33,ah.box b2 [.int .i64 p.ag,.int .i64 p.Slot] 33,ah.box b1 [aD,az,aB,aA,.int .i64 r.ae,.int .i64 r.af] 30,ah.held w own])) (F':=(fun g_:Value×Value×Value×Value=>[ah.ls g_.1 (((aW r ((derived ((ak r p).1) r.ae rights aC).1) t)).ap:List ao),ah.ls g_.2.1 (((aW r ((derived ((ak r p).1) r.ae rights aC).1) t)).Things:List ai),ah.ls g_.2.2.1 (((aW r ((derived ((ak r p).1) r.ae rights aC).1) t)).Held:List Held),ah.ls g_.2.2.2 (((aW r ((derived ((ak r p).1) r.ae rights aC).1) t)).Notes:List Note),ah.ls aD (r.ap:List ao),ah.ls az (r.Things:List ai),ah.ls aB (r.Held:List Held),ah.ls aA (r.Notes:List Note)])) rfl (s.bE (B0:=[]) (Br:=[ah.box b7 [.int .i64 (((derived ((ak r p).1) r.ae rights aC).1).ID),.int .i64 (((derived ((ak r p).1) r.ae rights aC).1).ai),.int .i64 (((derived ((ak r p).1) r.ae rights aC).1).Rights),.int .i64 (((derived ((ak r p).1) r.ae rights aC).1).ar),.int .i64 (((derived ((ak r p).1) r.ae rights aC).1).From)] 39,ah.box b5 [.int .i64 (((ak r p).1).ID),.int .i64 (((ak r p).1).ai),.int .i64 (((ak r p).1).Rights),.int .i64 (((ak r p).1).ar),.int .i64 (((ak r p).1).From)] 39,ah.box b4 [.slice none 0 0,.slice none 0 0,.slice none 0 0,.slice none 0 0,.int .i64 0,.int .i64 0] 30,ah.box b3 [.int .i64 t.ag,.int .i64 t.Slot] 33,ah.box b2 [.int .i64 p.ag,.int .i64 p.Slot] 33,ah.box b1 [aD,az,aB,aA,.int .i64 r.ae,.int .i64 r.af] 30,ah.held w own]) (F0:=[ah.ls aD (r.ap:List ao),ah.ls az (r.Things:List ai),ah.ls aB (r.Held:List Held),ah.ls aA (r.Notes:List Note)]) [0,1,2,3,4,5,6] [0,1,2,3] (fun g_:Value×Value×Value×Value => .agg #[g_.1,g_.2.1,g_.2.2.1,g_.2.2.2,.int .i64 (((aW r ((derived ((ak r p).1) r.ae rights aC).1) t)).ae),.int .i64 (((aW r ((derived ((ak r p).1) r.ae rights aC).1) t)).af)]) (fun g_:Value×Value×Value×Value=>[]) (fun g_:Value×Value×Value×Value=>[ah.ls g_.1 (((aW r ((derived ((ak r p).1) r.ae rights aC).1) t)).ap:List ao),ah.ls g_.2.1 (((aW r ((derived ((ak r p).1) r.ae rights aC).1) t)).Things:List ai),ah.ls g_.2.2.1 (((aW r ((derived ((ak r p).1) r.ae rights aC).1) t)).Held:List Held),ah.ls g_.2.2.2 (((aW r ((derived ((ak r p).1) r.ae rights aC).1) t)).Notes:List Note)]) rfl rfl rfl oM rfl rfl (fun w own hw H=>jC aD az aB aA (r) (((derived ((ak r p).1) r.ae rights aC).1)) (t) w own H (by first|omega|(dsimp only;omega))) rfl) ?_
              rintro ⟨z5,z6,z7,z8⟩
              dsimp only
              refine R.s rfl (s.cS (us:=[z5,z6,z7,z8,.int .i64 ((aW r ((derived ((ak r p).1) r.ae rights aC).1) t).ae),.int .i64 ((aW r ((derived ((ak r p).1) r.ae rights aC).1) t).af)]) (cs':=[z5,z6,z7,z8,.int .i64 ((aW r ((derived ((ak r p).1) r.ae rights aC).1) t).ae),.int .i64 ((aW r ((derived ((ak r p).1) r.ae rights aC).1) t).af)]) 2 _ rfl rfl rfl (fun _ _=>rfl) (.inl au) (fun w hw=>(aj (Sl.one ((fun _=>Wd.aO 0 rfl) w hw)) (aj (Sl.one ((fun _=>Wd.aO 1 rfl) w hw)) (aj (Sl.one ((fun _=>Wd.aO 2 rfl) w hw)) (aj (Sl.one ((fun _=>Wd.aO 3 rfl) w hw)) (aj rfl (aj rfl aJ))))))) rfl rfl rfl) fun _=>?_
              refine R.u 1 rfl<|R.nil ?_
              have hz:bD r p t rights aC=((aW r ((derived ((ak r p).1) r.ae rights aC).1) t),0):=by (unfold bD;(repeat' split) <;> first|rfl|(exfalso;omega)|(simp_all;done))
              rw [hz]
              exact R.w2 (z5,z6,z7,z8) [6] [0,1,2,3] rfl Tryz.results47 (RV.cell 2 rfl rfl au) (RV.tmp rfl) rfl rfl rfl (cm rfl (gu rfl))
            ·
              refine R.q (q.fI rfl rfl Tryz.underlying41 (by omega)) rfl<|R.nil ?_
              refine R.aI rfl rfl ?_
              refine R.reg rfl<|R.q (q.build (cs:=[.slice none 0 0,.slice none 0 0,.slice none 0 0,.slice none 0 0,.int .i64 0,.int .i64 0]) ck rfl rfl) rfl<|R.u 1 rfl<|?_
              refine R.s rfl (s.st (us:=[.slice none 0 0,.slice none 0 0,.slice none 0 0,.slice none 0 0,.int .i64 0,.int .i64 0]) (cs':=[.slice none 0 0,.slice none 0 0,.slice none 0 0,.slice none 0 0,.int .i64 0,.int .i64 0]) 2 _ rfl rfl rfl rfl (.inl au) rfl rfl rfl rfl) fun _=>?_
              refine R.u 1 rfl<|R.nil ?_
              refine R.mp (fun _ hw=>hw.aN (α:=ao)) ?_
              refine R.mp (fun _ hw=>hw.aN (α:=ai)) ?_
              refine R.mp (fun _ hw=>hw.aN (α:=Held)) ?_
              refine R.mp (fun _ hw=>hw.aN (α:=Note)) ?_
              have hz:bD r p t rights aC=((⟨[],[],[],[],0,0⟩:ay),(derived ((ak r p).1) r.ae rights aC).2):=by (unfold bD;(repeat' split) <;> first|rfl|(exfalso;omega)|(simp_all;done))
              rw [hz]
              exact R.w2 ((.slice none 0 0),(.slice none 0 0),(.slice none 0 0),(.slice none 0 0)) [6] [3,2,1,0] rfl Tryz.results47 (RV.cell 2 rfl rfl au) (RV.tmp rfl) rfl rfl rfl (cm rfl rfl)
        ·
          refine R.cg rfl (q.call lp rfl rfl (fun w hw=>(cv (congrArg Value.bool h6) (eh (((ak r p).1).Rights) (4) w  (by omega) (by omega))))) rfl<|R.u 2 rfl<|R.nil ?_
          refine R.aI rfl rfl ?_
          refine R.reg rfl<|R.q (q.build (cs:=[.slice none 0 0,.slice none 0 0,.slice none 0 0,.slice none 0 0,.int .i64 0,.int .i64 0]) ck rfl rfl) rfl<|R.q (q.iface rfl da) rfl<|?_
          refine R.s rfl (s.st (us:=[.slice none 0 0,.slice none 0 0,.slice none 0 0,.slice none 0 0,.int .i64 0,.int .i64 0]) (cs':=[.slice none 0 0,.slice none 0 0,.slice none 0 0,.slice none 0 0,.int .i64 0,.int .i64 0]) 1 _ rfl rfl rfl rfl (.inl au) rfl rfl rfl rfl) fun _=>?_
          refine R.u 1 rfl<|R.nil ?_
          refine R.mp (fun _ hw=>hw.aN (α:=ao)) ?_
          refine R.mp (fun _ hw=>hw.aN (α:=ai)) ?_
          refine R.mp (fun _ hw=>hw.aN (α:=Held)) ?_
          refine R.mp (fun _ hw=>hw.aN (α:=Note)) ?_
          have hz:bD r p t rights aC=((⟨[],[],[],[],0,0⟩:ay),7):=by (unfold bD;(repeat' split) <;> first|rfl|(exfalso;omega)|(simp_all;done))
          rw [hz]
          exact R.w2 ((.slice none 0 0),(.slice none 0 0),(.slice none 0 0),(.slice none 0 0)) [5] [3,2,1,0] rfl Tryz.results47 (RV.cell 1 rfl rfl au) (RV.tmp rfl) rfl rfl rfl (cm rfl (e5 (by decide) rfl))
    ·
      refine R.q (q.fI rfl rfl Tryz.underlying41 (by omega)) rfl<|R.nil ?_
      refine R.aI rfl rfl ?_
      refine R.reg rfl<|R.q (q.build (cs:=[.slice none 0 0,.slice none 0 0,.slice none 0 0,.slice none 0 0,.int .i64 0,.int .i64 0]) ck rfl rfl) rfl<|R.u 1 rfl<|?_
      refine R.s rfl (s.st (us:=[.slice none 0 0,.slice none 0 0,.slice none 0 0,.slice none 0 0,.int .i64 0,.int .i64 0]) (cs':=[.slice none 0 0,.slice none 0 0,.slice none 0 0,.slice none 0 0,.int .i64 0,.int .i64 0]) 1 _ rfl rfl rfl rfl (.inl au) rfl rfl rfl rfl) fun _=>?_
      refine R.u 1 rfl<|R.nil ?_
      refine R.mp (fun _ hw=>hw.aN (α:=ao)) ?_
      refine R.mp (fun _ hw=>hw.aN (α:=ai)) ?_
      refine R.mp (fun _ hw=>hw.aN (α:=Held)) ?_
      refine R.mp (fun _ hw=>hw.aN (α:=Note)) ?_
      have hz:bD r p t rights aC=((⟨[],[],[],[],0,0⟩:ay),cY r t):=by (unfold bD;(repeat' split) <;> first|rfl|(exfalso;omega)|(simp_all;done))
      rw [hz]
      exact R.w2 ((.slice none 0 0),(.slice none 0 0),(.slice none 0 0),(.slice none 0 0)) [5] [3,2,1,0] rfl Tryz.results47 (RV.cell 1 rfl rfl au) (RV.tmp rfl) rfl rfl rfl (cm rfl rfl)
  ·
    refine R.q (q.fI rfl rfl Tryz.underlying41 (by omega)) rfl<|R.nil ?_
    refine R.aI rfl rfl ?_
    refine R.reg rfl<|R.q (q.build (cs:=[.slice none 0 0,.slice none 0 0,.slice none 0 0,.slice none 0 0,.int .i64 0,.int .i64 0]) ck rfl rfl) rfl<|R.u 1 rfl<|?_
    refine R.s rfl (s.st (us:=[.slice none 0 0,.slice none 0 0,.slice none 0 0,.slice none 0 0,.int .i64 0,.int .i64 0]) (cs':=[.slice none 0 0,.slice none 0 0,.slice none 0 0,.slice none 0 0,.int .i64 0,.int .i64 0]) 1 _ rfl rfl rfl rfl (.inl au) rfl rfl rfl rfl) fun _=>?_
    refine R.u 1 rfl<|R.nil ?_
    refine R.mp (fun _ hw=>hw.aN (α:=ao)) ?_
    refine R.mp (fun _ hw=>hw.aN (α:=ai)) ?_
    refine R.mp (fun _ hw=>hw.aN (α:=Held)) ?_
    refine R.mp (fun _ hw=>hw.aN (α:=Note)) ?_
    have hz:bD r p t rights aC=((⟨[],[],[],[],0,0⟩:ay),(ak r p).2):=by (unfold bD;(repeat' split) <;> first|rfl|(exfalso;omega)|(simp_all;done))
    rw [hz]
    exact R.w2 ((.slice none 0 0),(.slice none 0 0),(.slice none 0 0),(.slice none 0 0)) [5] [3,2,1,0] rfl Tryz.results47 (RV.cell 1 rfl rfl au) (RV.tmp rfl) rfl rfl rfl (cm rfl rfl)
theorem rQ (aD az aB aA:Value)(r:ay)(p:Place)(slot:Int)(w:World)(own:List Nat)(H:Wd w (blks []++own) ([]++[ah.held w own]) [ah.ls aD (r.ap:List ao),ah.ls az (r.Things:List ai),ah.ls aB (r.Held:List Held),ah.ls aA (r.Notes:List Note)] w)(hk:Ok r):Calls Tryz.prog 48 #[.agg #[aD,az,aB,aA,.int .i64 r.ae,.int .i64 r.af],.agg #[.int .i64 p.ag,.int .i64 p.Slot],.int .i64 slot] w fun e w' => ∃z:Value×Value×Value×Value,e = .returned (.tuple #[.agg #[z.1,z.2.1,z.2.2.1,z.2.2.2,.int .i64 ((((cj r p slot)).1).ae),.int .i64 ((((cj r p slot)).1).af)],ek (((cj r p slot)).2)])∧Wd w (blks []++own) ([]++[ah.held w own]) [ah.ls z.1 ((((cj r p slot)).1).ap:List ao),ah.ls z.2.1 ((((cj r p slot)).1).Things:List ai),ah.ls z.2.2.1 ((((cj r p slot)).1).Held:List Held),ah.ls z.2.2.2 ((((cj r p slot)).1).Notes:List Note)] w':=by
  have cw:=H.bS 0 rfl
  have bY:=H.bS 1 rfl
  have cI:=H.bS 2 rfl
  have cx:=H.bS 3 rfl
  have bw:=hk.wl;have bt:=hk.tl;have bh:=hk.hl;have bn:=hk.nl;have lS:=hk.w0;have lT:=hk.w1;have lU:=hk.t0;have lV:=hk.t1
  have bp:=gO r.Held p 0
  refine R.cC (n:=42) (vs:=[.agg #[aD,az,aB,aA,.int .i64 r.ae,.int .i64 r.af],.agg #[.int .i64 p.ag,.int .i64 p.Slot],.int .i64 slot]) (B:=[ah.held w own]) [(0,.agg #[aD,az,aB,aA,.int .i64 r.ae,.int .i64 r.af]),(1,.agg #[.int .i64 p.ag,.int .i64 p.Slot]),(2,.int .i64 slot)] Tryz.func48 rfl rfl rfl rfl H ?_
  refine R.reg rfl<|?_
  refine R.s rfl (s.box (cs:=[aD,az,aB,aA,.int .i64 r.ae,.int .i64 r.af]) rfl rfl rfl) fun b1=>?_
  refine R.s rfl (s.box (cs:=[.int .i64 p.ag,.int .i64 p.Slot]) rfl rfl rfl) fun b2=>?_
  refine R.s rfl (s.alloc (cs:=[.slice none 0 0,.slice none 0 0,.slice none 0 0,.slice none 0 0,.int .i64 0,.int .i64 0]) bR rfl rfl) fun b3=>?_
  refine R.u 1 rfl<|R.nil ?_
  refine R.reg rfl<|R.q (q.bI 2 rfl rfl au) rfl<|R.q (q.bI 1 rfl rfl aM) rfl<|R.c (q.call oJ rfl rfl (fun w hw=>(ig _ _ _ _ (r) (p) w ((fun _=>Wd.aO 0 rfl) w hw) ((fun _=>Wd.aO 1 rfl) w hw) ((fun _=>Wd.aO 2 rfl) w hw) ((fun _=>Wd.aO 3 rfl) w hw) (by assumption)))) rfl<|R.u 3 rfl<|?_
  refine R.s rfl (s.alloc (cs:=[.int .i64 0,.int .i64 0,.int .i64 0,.int .i64 0,.int .i64 0]) aY rfl rfl) fun b4=>?_
  refine R.s rfl (s.st (us:=[.int .i64 (((ak r p).1).ID),.int .i64 (((ak r p).1).ai),.int .i64 (((ak r p).1).Rights),.int .i64 (((ak r p).1).ar),.int .i64 (((ak r p).1).From)]) (cs':=[.int .i64 (((ak r p).1).ID),.int .i64 (((ak r p).1).ai),.int .i64 (((ak r p).1).Rights),.int .i64 (((ak r p).1).ar),.int .i64 (((ak r p).1).From)]) 0 _ rfl rfl rfl rfl (.inl aK) rfl rfl rfl rfl) fun _=>?_
  refine R.u 1 rfl<|R.nil ?_
  refine R.reg rfl<|R.u 1 rfl<|?_
  by_cases h1:(ak r p).2=0
  ·
    refine R.q (q.fH rfl rfl Tryz.underlying41 (by omega)) rfl<|R.nil ?_
    refine R.aH rfl rfl ?_
    refine R.reg rfl<|R.q (q.aS (off':=0) rfl bZ rfl) rfl<|R.q (q.ld 2 rfl rfl aG rfl) rfl<|R.u 1 rfl<|R.q (q.build (cs:=[.int .i64 p.ag,.int .i64 slot]) jt rfl rfl) rfl<|?_
    refine R.s rfl (s.alloc (cs:=[.int .i64 0,.int .i64 0]) kE rfl rfl) fun b5=>?_
    refine R.s rfl (s.st (us:=[.int .i64 p.ag,.int .i64 slot]) (cs':=[.int .i64 p.ag,.int .i64 slot]) 0 _ rfl rfl rfl rfl (.inl aM) rfl rfl rfl rfl) fun _=>?_
    refine R.nil ?_
    refine R.reg rfl<|R.q (q.bI 4 rfl rfl au) rfl<|R.q (q.bI 0 rfl rfl aM) rfl<|R.c (q.call qQ rfl rfl (fun w hw=>(jO _ _ _ _ (r) ((⟨p.ag,slot⟩:Place)) w ((fun _=>Wd.aO 0 rfl) w hw) ((fun _=>Wd.aO 1 rfl) w hw) ((fun _=>Wd.aO 2 rfl) w hw) ((fun _=>Wd.aO 3 rfl) w hw) (by assumption)))) rfl<|R.u 1 rfl<|R.nil ?_
    refine R.reg rfl<|R.u 1 rfl<|?_
    by_cases h2:cY r (⟨p.ag,slot⟩:Place)=0
    ·
      refine R.q (q.fH rfl rfl Tryz.underlying41 (by omega)) rfl<|R.nil ?_
      refine R.aH rfl rfl ?_
      refine R.gD (fuel:=10) (Wd w (blks []++own) [ah.box b5 [.int .i64 p.ag,.int .i64 slot] 33,ah.box b4 [.int .i64 (((ak r p).1).ID),.int .i64 (((ak r p).1).ai),.int .i64 (((ak r p).1).Rights),.int .i64 (((ak r p).1).ar),.int .i64 (((ak r p).1).From)] 39,ah.box b3 [.slice none 0 0,.slice none 0 0,.slice none 0 0,.slice none 0 0,.int .i64 0,.int .i64 0] 30,ah.box b2 [.int .i64 p.ag,.int .i64 p.Slot] 33,ah.held w own] [ah.ls aD (r.ap:List ao),ah.ls az (r.Things:List ai),ah.ls aB (r.Held:List Held),ah.ls aA (r.Notes:List Note)]) rfl mixed rfl ?_
      refine D.q (i:=0) rfl (by kernel_rfl) (fun _=>Wd.aV [0,1,2,3,5] [0,1,2,3] rfl rfl rfl) rfl (q.aS (off':=2) rfl bf rfl) rfl<|D.q (i:=2) rfl (by kernel_rfl) (fun _=>Wd.aV [0,1,2,3,5] [0,1,2,3] rfl rfl rfl) rfl (q.bI 3 rfl rfl aM) rfl<|D.q (i:=4) rfl (by kernel_rfl) (fun _=>Wd.aV [0,1,2,3,5] [0,1,2,3] rfl rfl rfl) rfl (q.bI 0 rfl rfl aM) rfl<|D.q (i:=5) rfl (by kernel_rfl) (fun _=>Wd.aV [0,1,2,3,5] [0,1,2,3] rfl rfl rfl) rfl (q.aS (off':=0) rfl bK rfl) rfl<|D.q (i:=6) rfl (by kernel_rfl) (fun _=>Wd.aV [0,1,2,3,5] [0,1,2,3] rfl rfl rfl) rfl (q.ld 1 rfl rfl aG rfl) rfl<|?_
      refine D.one (i:=1) (by kernel_rfl) rfl ?_
      refine Do.s (s.c (Qt.a (q.ld 4 rfl rfl bQ rfl)) rfl) (fun _=>(fun _=>Wd.aV [0,1,2,3,5] [0,1,2,3] rfl rfl rfl)) rfl fun _=>?_
      refine D.one (i:=3) (by kernel_rfl) rfl ?_
      refine Do.s (B':=(fun aL:Value=>[ah.row 93 aL ((bO r.Held p 0):List Held),ah.box b5 [.int .i64 p.ag,.int .i64 slot] 33,ah.box b4 [.int .i64 (((ak r p).1).ID),.int .i64 (((ak r p).1).ai),.int .i64 (((ak r p).1).Rights),.int .i64 (((ak r p).1).ar),.int .i64 (((ak r p).1).From)] 39,ah.box b3 [.slice none 0 0,.slice none 0 0,.slice none 0 0,.slice none 0 0,.int .i64 0,.int .i64 0] 30,ah.box b2 [.int .i64 p.ag,.int .i64 p.Slot] 33,ah.box b1 [aD,az,aB,aA,.int .i64 r.ae,.int .i64 r.af] 30,ah.held w own])) (F':=(fun aL:Value=>[ah.ls aD (r.ap:List ao),ah.ls az (r.Things:List ai),ah.ls aB (r.Held:List Held),ah.ls aA (r.Notes:List Note)])) (s.bE (B0:=[]) (Br:=[ah.box b5 [.int .i64 p.ag,.int .i64 slot] 33,ah.box b4 [.int .i64 (((ak r p).1).ID),.int .i64 (((ak r p).1).ai),.int .i64 (((ak r p).1).Rights),.int .i64 (((ak r p).1).ar),.int .i64 (((ak r p).1).From)] 39,ah.box b3 [.slice none 0 0,.slice none 0 0,.slice none 0 0,.slice none 0 0,.int .i64 0,.int .i64 0] 30,ah.box b2 [.int .i64 p.ag,.int .i64 p.Slot] 33,ah.box b1 [aD,az,aB,aA,.int .i64 r.ae,.int .i64 r.af] 30,ah.held w own]) (F0:=[ah.ls aB (r.Held:List Held)]) [0,1,2,3,4,5] [2] (fun aL:Value=>aL) (fun aL:Value=>[ah.row 93 aL ((bO r.Held p 0):List Held)]) (fun aL:Value=>[]) rfl rfl rfl nr rfl rfl (fun w own hw H=>jL aB (r.Held) (p) (0) w own H (by first|omega|assumption|(simp;done)|(simp;omega))) rfl) (fun _=>(fun _=>Wd.aV [1,2,3,4,6] [0,1,2,3] rfl rfl rfl)) rfl fun z3=>?_
      refine D.one (i:=7) (by kernel_rfl) rfl ?_
      refine Do.s (B':=(fun aL:Value=>[ah.row 93 aL ((bO (bO r.Held p 0) (⟨p.ag,slot⟩:Place) (((ak r p).1).ID)):List Held),ah.box b5 [.int .i64 p.ag,.int .i64 slot] 33,ah.box b4 [.int .i64 (((ak r p).1).ID),.int .i64 (((ak r p).1).ai),.int .i64 (((ak r p).1).Rights),.int .i64 (((ak r p).1).ar),.int .i64 (((ak r p).1).From)] 39,ah.box b3 [.slice none 0 0,.slice none 0 0,.slice none 0 0,.slice none 0 0,.int .i64 0,.int .i64 0] 30,ah.box b2 [.int .i64 p.ag,.int .i64 p.Slot] 33,ah.box b1 [aD,az,aB,aA,.int .i64 r.ae,.int .i64 r.af] 30,ah.held w own])) (F':=(fun aL:Value=>[ah.ls z3 (bO r.Held p 0:List Held),ah.ls aD (r.ap:List ao),ah.ls az (r.Things:List ai),ah.ls aB (r.Held:List Held),ah.ls aA (r.Notes:List Note)])) (s.pre (B2:=[ah.box b5 [.int .i64 p.ag,.int .i64 slot] 33,ah.box b4 [.int .i64 (((ak r p).1).ID),.int .i64 (((ak r p).1).ai),.int .i64 (((ak r p).1).Rights),.int .i64 (((ak r p).1).ar),.int .i64 (((ak r p).1).From)] 39,ah.box b3 [.slice none 0 0,.slice none 0 0,.slice none 0 0,.slice none 0 0,.int .i64 0,.int .i64 0] 30,ah.box b2 [.int .i64 p.ag,.int .i64 p.Slot] 33,ah.box b1 [aD,az,aB,aA,.int .i64 r.ae,.int .i64 r.af] 30,ah.held w own]) (F2:=[ah.ls z3 (bO r.Held p 0:List Held),ah.ls aD (r.ap:List ao),ah.ls az (r.Things:List ai),ah.ls aB (r.Held:List Held),ah.ls aA (r.Notes:List Note)]) (fun _ hw=>hw.aZ 0 _ rfl rfl) (s.bE (B0:=[]) (Br:=[ah.box b5 [.int .i64 p.ag,.int .i64 slot] 33,ah.box b4 [.int .i64 (((ak r p).1).ID),.int .i64 (((ak r p).1).ai),.int .i64 (((ak r p).1).Rights),.int .i64 (((ak r p).1).ar),.int .i64 (((ak r p).1).From)] 39,ah.box b3 [.slice none 0 0,.slice none 0 0,.slice none 0 0,.slice none 0 0,.int .i64 0,.int .i64 0] 30,ah.box b2 [.int .i64 p.ag,.int .i64 p.Slot] 33,ah.box b1 [aD,az,aB,aA,.int .i64 r.ae,.int .i64 r.af] 30,ah.held w own]) (F0:=[ah.ls z3 (bO r.Held p 0:List Held)]) [0,1,2,3,4,5] [0] (fun aL:Value=>aL) (fun aL:Value=>[ah.row 93 aL ((bO (bO r.Held p 0) (⟨p.ag,slot⟩:Place) (((ak r p).1).ID)):List Held)]) (fun aL:Value=>[]) rfl rfl rfl nr rfl rfl (fun w own hw H=>jL z3 (bO r.Held p 0) ((⟨p.ag,slot⟩:Place)) (((ak r p).1).ID) w own H (by first|omega|assumption|(simp;done)|(simp;omega))) rfl)) (fun _=>(fun _=>Wd.aV [1,2,3,4,6] [1,2,3,4] rfl rfl rfl)) rfl fun z4=>?_
      refine D.q (i:=8) rfl (by kernel_rfl) (fun _=>Wd.aV [1,2,3,4,6] [1,2,3,4] rfl rfl rfl) rfl (q.aS (off':=2) rfl bf rfl) rfl<|?_
      refine D.one (i:=9) (by kernel_rfl) rfl ?_
      refine Do.s (s.cS (us:=[z4]) (cs':=[aD,az,z4,aA,.int .i64 r.ae,.int .i64 r.af]) 5 _ rfl rfl rfl (fun w hw=>Sl.bJ ((fun _=>Wd.row 0 rfl) w hw)) (.inr ⟨bQ,rfl⟩) (fun w hw=>(aj (Sl.one ((fun _=>Wd.row 0 rfl) w hw)) aJ)) rfl rfl rfl) (fun _=>(fun _=>Wd.aV [1,2,3,4,6] [1,2,3,4] rfl rfl rfl)) rfl fun _=>?_
      refine D.done (by kernel_rfl)<|?_
      refine R.reg rfl<|R.q (q.bI 5 rfl rfl au) rfl<|?_
      refine R.s rfl (s.cS (us:=[aD,az,z4,aA,.int .i64 r.ae,.int .i64 r.af]) (cs':=[aD,az,z4,aA,.int .i64 r.ae,.int .i64 r.af]) 3 _ rfl rfl rfl (fun _ _=>rfl) (.inl au) (fun w hw=>(aj (Sl.one ((fun _=>Wd.aO 1 rfl) w hw)) (aj (Sl.one ((fun _=>Wd.aO 2 rfl) w hw)) (aj (Sl.one ((fun _=>Wd.row 0 rfl) w hw)) (aj (Sl.one ((fun _=>Wd.aO 4 rfl) w hw)) (aj rfl (aj rfl aJ))))))) rfl rfl rfl) fun _=>?_
      refine R.u 1 rfl<|R.nil ?_
      refine R.mp (B':=[ah.box b5 [.int .i64 p.ag,.int .i64 slot] 33,ah.box b4 [.int .i64 (((ak r p).1).ID),.int .i64 (((ak r p).1).ai),.int .i64 (((ak r p).1).Rights),.int .i64 (((ak r p).1).ar),.int .i64 (((ak r p).1).From)] 39,ah.box b3 [aD,az,z4,aA,.int .i64 r.ae,.int .i64 r.af] 30,ah.box b2 [.int .i64 p.ag,.int .i64 p.Slot] 33,ah.box b1 [aD,az,z4,aA,.int .i64 r.ae,.int .i64 r.af] 30,ah.held w own]) (fun _ hw=>hw.aZ 0 _ rfl rfl) ?_
      have hz:cj r p slot=((⟨r.ap,r.Things,bO (bO r.Held p 0) (⟨p.ag,slot⟩:Place) (((ak r p).1).ID),r.Notes,r.ae,r.af⟩:ay),0):=by (unfold cj;(repeat' split) <;> first|rfl|(exfalso;omega)|(simp_all;done))
      rw [hz]
      exact R.w2 (aD,az,z4,aA) [5] [2,3,0,5] rfl Tryz.results48 (RV.cell 2 rfl rfl au) (RV.tmp rfl) rfl rfl rfl (cm rfl (gu rfl))
    ·
      refine R.q (q.fI rfl rfl Tryz.underlying41 (by omega)) rfl<|R.nil ?_
      refine R.aI rfl rfl ?_
      refine R.reg rfl<|R.q (q.build (cs:=[.slice none 0 0,.slice none 0 0,.slice none 0 0,.slice none 0 0,.int .i64 0,.int .i64 0]) ck rfl rfl) rfl<|R.u 1 rfl<|?_
      refine R.s rfl (s.st (us:=[.slice none 0 0,.slice none 0 0,.slice none 0 0,.slice none 0 0,.int .i64 0,.int .i64 0]) (cs':=[.slice none 0 0,.slice none 0 0,.slice none 0 0,.slice none 0 0,.int .i64 0,.int .i64 0]) 2 _ rfl rfl rfl rfl (.inl au) rfl rfl rfl rfl) fun _=>?_
      refine R.u 1 rfl<|R.nil ?_
      refine R.mp (fun _ hw=>hw.aN (α:=ao)) ?_
      refine R.mp (fun _ hw=>hw.aN (α:=ai)) ?_
      refine R.mp (fun _ hw=>hw.aN (α:=Held)) ?_
      refine R.mp (fun _ hw=>hw.aN (α:=Note)) ?_
      have hz:cj r p slot=((⟨[],[],[],[],0,0⟩:ay),cY r (⟨p.ag,slot⟩:Place)):=by (unfold cj;(repeat' split) <;> first|rfl|(exfalso;omega)|(simp_all;done))
      rw [hz]
      exact R.w2 ((.slice none 0 0),(.slice none 0 0),(.slice none 0 0),(.slice none 0 0)) [5] [3,2,1,0] rfl Tryz.results48 (RV.cell 2 rfl rfl au) (RV.tmp rfl) rfl rfl rfl (cm rfl rfl)
  ·
    refine R.q (q.fI rfl rfl Tryz.underlying41 (by omega)) rfl<|R.nil ?_
    refine R.aI rfl rfl ?_
    refine R.reg rfl<|R.q (q.build (cs:=[.slice none 0 0,.slice none 0 0,.slice none 0 0,.slice none 0 0,.int .i64 0,.int .i64 0]) ck rfl rfl) rfl<|R.u 1 rfl<|?_
    refine R.s rfl (s.st (us:=[.slice none 0 0,.slice none 0 0,.slice none 0 0,.slice none 0 0,.int .i64 0,.int .i64 0]) (cs':=[.slice none 0 0,.slice none 0 0,.slice none 0 0,.slice none 0 0,.int .i64 0,.int .i64 0]) 1 _ rfl rfl rfl rfl (.inl au) rfl rfl rfl rfl) fun _=>?_
    refine R.u 1 rfl<|R.nil ?_
    refine R.mp (fun _ hw=>hw.aN (α:=ao)) ?_
    refine R.mp (fun _ hw=>hw.aN (α:=ai)) ?_
    refine R.mp (fun _ hw=>hw.aN (α:=Held)) ?_
    refine R.mp (fun _ hw=>hw.aN (α:=Note)) ?_
    have hz:cj r p slot=((⟨[],[],[],[],0,0⟩:ay),(ak r p).2):=by (unfold cj;(repeat' split) <;> first|rfl|(exfalso;omega)|(simp_all;done))
    rw [hz]
    exact R.w2 ((.slice none 0 0),(.slice none 0 0),(.slice none 0 0),(.slice none 0 0)) [4] [3,2,1,0] rfl Tryz.results48 (RV.cell 1 rfl rfl au) (RV.tmp rfl) rfl rfl rfl (cm rfl rfl)
theorem rR (aD az aB aA:Value)(r:ay)(p:Place)(w:World)(own:List Nat)(H:Wd w (blks []++own) ([]++[ah.held w own]) [ah.ls aD (r.ap:List ao),ah.ls az (r.Things:List ai),ah.ls aB (r.Held:List Held),ah.ls aA (r.Notes:List Note)] w)(hk:Ok r):Calls Tryz.prog 49 #[.agg #[aD,az,aB,aA,.int .i64 r.ae,.int .i64 r.af],.agg #[.int .i64 p.ag,.int .i64 p.Slot]] w fun e w' => ∃z:Value×Value×Value×Value,e = .returned (.tuple #[.agg #[z.1,z.2.1,z.2.2.1,z.2.2.2,.int .i64 ((((cq r p)).1).ae),.int .i64 ((((cq r p)).1).af)],ek (((cq r p)).2)])∧Wd w (blks []++own) ([]++[ah.held w own]) [ah.ls z.1 ((((cq r p)).1).ap:List ao),ah.ls z.2.1 ((((cq r p)).1).Things:List ai),ah.ls z.2.2.1 ((((cq r p)).1).Held:List Held),ah.ls z.2.2.2 ((((cq r p)).1).Notes:List Note)] w':=by
  have cw:=H.bS 0 rfl
  have bY:=H.bS 1 rfl
  have cI:=H.bS 2 rfl
  have cx:=H.bS 3 rfl
  have bw:=hk.wl;have bt:=hk.tl;have bh:=hk.hl;have bn:=hk.nl;have lS:=hk.w0;have lT:=hk.w1;have lU:=hk.t0;have lV:=hk.t1
  have hkd:=hk.wo (ak r p).1.ID
  refine R.cC (n:=26) (vs:=[.agg #[aD,az,aB,aA,.int .i64 r.ae,.int .i64 r.af],.agg #[.int .i64 p.ag,.int .i64 p.Slot]]) (B:=[ah.held w own]) [(0,.agg #[aD,az,aB,aA,.int .i64 r.ae,.int .i64 r.af]),(1,.agg #[.int .i64 p.ag,.int .i64 p.Slot])] Tryz.func49 rfl rfl rfl rfl H ?_
  refine R.reg rfl<|?_
  refine R.s rfl (s.box (cs:=[aD,az,aB,aA,.int .i64 r.ae,.int .i64 r.af]) rfl rfl rfl) fun b1=>?_
  refine R.s rfl (s.box (cs:=[.int .i64 p.ag,.int .i64 p.Slot]) rfl rfl rfl) fun b2=>?_
  refine R.s rfl (s.alloc (cs:=[.slice none 0 0,.slice none 0 0,.slice none 0 0,.slice none 0 0,.int .i64 0,.int .i64 0]) bR rfl rfl) fun b3=>?_
  refine R.u 1 rfl<|R.nil ?_
  refine R.reg rfl<|R.q (q.bI 2 rfl rfl au) rfl<|R.q (q.bI 1 rfl rfl aM) rfl<|R.c (q.call oJ rfl rfl (fun w hw=>(ig _ _ _ _ (r) (p) w ((fun _=>Wd.aO 0 rfl) w hw) ((fun _=>Wd.aO 1 rfl) w hw) ((fun _=>Wd.aO 2 rfl) w hw) ((fun _=>Wd.aO 3 rfl) w hw) (by assumption)))) rfl<|R.u 3 rfl<|?_
  refine R.s rfl (s.alloc (cs:=[.int .i64 0,.int .i64 0,.int .i64 0,.int .i64 0,.int .i64 0]) aY rfl rfl) fun b4=>?_
  refine R.s rfl (s.st (us:=[.int .i64 (((ak r p).1).ID),.int .i64 (((ak r p).1).ai),.int .i64 (((ak r p).1).Rights),.int .i64 (((ak r p).1).ar),.int .i64 (((ak r p).1).From)]) (cs':=[.int .i64 (((ak r p).1).ID),.int .i64 (((ak r p).1).ai),.int .i64 (((ak r p).1).Rights),.int .i64 (((ak r p).1).ar),.int .i64 (((ak r p).1).From)]) 0 _ rfl rfl rfl rfl (.inl aK) rfl rfl rfl rfl) fun _=>?_
  refine R.u 1 rfl<|R.nil ?_
  refine R.reg rfl<|R.u 1 rfl<|?_
  by_cases h1:(ak r p).2=0
  ·
    refine R.q (q.fH rfl rfl Tryz.underlying41 (by omega)) rfl<|R.nil ?_
    refine R.aH rfl rfl ?_
    refine R.reg rfl<|R.q (q.aS (off':=0) rfl a8 rfl) rfl<|R.q (q.ld 3 rfl rfl bN rfl) rfl<|R.q (q.aS (off':=0) rfl bK rfl) rfl<|R.q (q.ld 0 rfl rfl aG rfl) rfl<|?_
    refine R.s rfl (s.jk sE rfl rfl (fun w hw=>jw _ (r.ap) (((ak r p).1).ID) w ((fun _=>Wd.aO 0 rfl) w hw) (by first|omega|assumption)) rfl) fun v1=>?_
    refine R.q (q.aS (off':=0) rfl a8 rfl) rfl<|?_
    refine R.s rfl (s.cS (us:=[v1]) (cs':=[v1,az,aB,aA,.int .i64 r.ae,.int .i64 r.af]) 4 _ rfl rfl rfl (fun w hw=>Sl.bJ ((fun _=>Wd.row 0 rfl) w hw)) (.inr ⟨bN,rfl⟩) (fun w hw=>(aj (Sl.one ((fun _=>Wd.row 0 rfl) w hw)) aJ)) rfl rfl rfl) fun _=>?_
    refine R.nil ?_
    refine R.reg rfl<|R.q (q.bI 4 rfl rfl au) rfl<|?_
    refine R.s (B':=(fun g_:Value×Value×Value×Value=>[ah.box b4 [.int .i64 (((ak r p).1).ID),.int .i64 (((ak r p).1).ai),.int .i64 (((ak r p).1).Rights),.int .i64 (((ak r p).1).ar),.int .i64 (((ak r p).1).From)] 39,ah.box b3 [.slice none 0 0,.slice none 0 0,.slice none 0 0,.slice none 0 0,.int .i64 0,.int .i64 0] 30,ah.box b2 [.int .i64 p.ag,.int .i64 p.Slot] 33,ah.box b1 [v1,az,aB,aA,.int .i64 r.ae,.int .i64 r.af] 30,ah.held w own])) (F':=(fun g_:Value×Value×Value×Value=>[ah.ls g_.1 (((aP (⟨(without r.ap (((ak r p).1).ID)),r.Things,r.Held,r.Notes,r.ae,r.af⟩:ay))).ap:List ao),ah.ls g_.2.1 (((aP (⟨(without r.ap (((ak r p).1).ID)),r.Things,r.Held,r.Notes,r.ae,r.af⟩:ay))).Things:List ai),ah.ls g_.2.2.1 (((aP (⟨(without r.ap (((ak r p).1).ID)),r.Things,r.Held,r.Notes,r.ae,r.af⟩:ay))).Held:List Held),ah.ls g_.2.2.2 (((aP (⟨(without r.ap (((ak r p).1).ID)),r.Things,r.Held,r.Notes,r.ae,r.af⟩:ay))).Notes:List Note),ah.ls v1 ((without r.ap (((ak r p).1).ID)):List ao),ah.ls aD (r.ap:List ao),ah.ls az (r.Things:List ai),ah.ls aB (r.Held:List Held),ah.ls aA (r.Notes:List Note)])) rfl (s.pre (B2:=[ah.box b4 [.int .i64 (((ak r p).1).ID),.int .i64 (((ak r p).1).ai),.int .i64 (((ak r p).1).Rights),.int .i64 (((ak r p).1).ar),.int .i64 (((ak r p).1).From)] 39,ah.box b3 [.slice none 0 0,.slice none 0 0,.slice none 0 0,.slice none 0 0,.int .i64 0,.int .i64 0] 30,ah.box b2 [.int .i64 p.ag,.int .i64 p.Slot] 33,ah.box b1 [v1,az,aB,aA,.int .i64 r.ae,.int .i64 r.af] 30,ah.held w own]) (F2:=[ah.ls v1 ((without r.ap (((ak r p).1).ID)):List ao),ah.ls aD (r.ap:List ao),ah.ls az (r.Things:List ai),ah.ls aB (r.Held:List Held),ah.ls aA (r.Notes:List Note)]) (fun _ hw=>hw.aZ 0 _ rfl rfl) (s.bE (B0:=[]) (Br:=[ah.box b4 [.int .i64 (((ak r p).1).ID),.int .i64 (((ak r p).1).ai),.int .i64 (((ak r p).1).Rights),.int .i64 (((ak r p).1).ar),.int .i64 (((ak r p).1).From)] 39,ah.box b3 [.slice none 0 0,.slice none 0 0,.slice none 0 0,.slice none 0 0,.int .i64 0,.int .i64 0] 30,ah.box b2 [.int .i64 p.ag,.int .i64 p.Slot] 33,ah.box b1 [v1,az,aB,aA,.int .i64 r.ae,.int .i64 r.af] 30,ah.held w own]) (F0:=[ah.ls v1 ((without r.ap (((ak r p).1).ID)):List ao),ah.ls az (r.Things:List ai),ah.ls aB (r.Held:List Held),ah.ls aA (r.Notes:List Note)]) [0,1,2,3,4] [0,2,3,4] (fun g_:Value×Value×Value×Value => .agg #[g_.1,g_.2.1,g_.2.2.1,g_.2.2.2,.int .i64 (((aP (⟨(without r.ap (((ak r p).1).ID)),r.Things,r.Held,r.Notes,r.ae,r.af⟩:ay))).ae),.int .i64 (((aP (⟨(without r.ap (((ak r p).1).ID)),r.Things,r.Held,r.Notes,r.ae,r.af⟩:ay))).af)]) (fun g_:Value×Value×Value×Value=>[]) (fun g_:Value×Value×Value×Value=>[ah.ls g_.1 (((aP (⟨(without r.ap (((ak r p).1).ID)),r.Things,r.Held,r.Notes,r.ae,r.af⟩:ay))).ap:List ao),ah.ls g_.2.1 (((aP (⟨(without r.ap (((ak r p).1).ID)),r.Things,r.Held,r.Notes,r.ae,r.af⟩:ay))).Things:List ai),ah.ls g_.2.2.1 (((aP (⟨(without r.ap (((ak r p).1).ID)),r.Things,r.Held,r.Notes,r.ae,r.af⟩:ay))).Held:List Held),ah.ls g_.2.2.2 (((aP (⟨(without r.ap (((ak r p).1).ID)),r.Things,r.Held,r.Notes,r.ae,r.af⟩:ay))).Notes:List Note)]) rfl rfl rfl sF rfl rfl (fun w own hw H=>j9 v1 az aB aA ((⟨(without r.ap (((ak r p).1).ID)),r.Things,r.Held,r.Notes,r.ae,r.af⟩:ay)) w own H (by assumption)) rfl)) ?_
    rintro ⟨z1,z2,z3,z4⟩
    dsimp only
    refine R.s rfl (s.cS (us:=[z1,z2,z3,z4,.int .i64 ((aP (⟨(without r.ap (((ak r p).1).ID)),r.Things,r.Held,r.Notes,r.ae,r.af⟩:ay)).ae),.int .i64 ((aP (⟨(without r.ap (((ak r p).1).ID)),r.Things,r.Held,r.Notes,r.ae,r.af⟩:ay)).af)]) (cs':=[z1,z2,z3,z4,.int .i64 ((aP (⟨(without r.ap (((ak r p).1).ID)),r.Things,r.Held,r.Notes,r.ae,r.af⟩:ay)).ae),.int .i64 ((aP (⟨(without r.ap (((ak r p).1).ID)),r.Things,r.Held,r.Notes,r.ae,r.af⟩:ay)).af)]) 1 _ rfl rfl rfl (fun _ _=>rfl) (.inl au) (fun w hw=>(aj (Sl.one ((fun _=>Wd.aO 0 rfl) w hw)) (aj (Sl.one ((fun _=>Wd.aO 1 rfl) w hw)) (aj (Sl.one ((fun _=>Wd.aO 2 rfl) w hw)) (aj (Sl.one ((fun _=>Wd.aO 3 rfl) w hw)) (aj rfl (aj rfl aJ))))))) rfl rfl rfl) fun _=>?_
    refine R.u 1 rfl<|R.nil ?_
    have hz:cq r p=((aP (⟨(without r.ap (((ak r p).1).ID)),r.Things,r.Held,r.Notes,r.ae,r.af⟩:ay)),0):=by (unfold cq;(repeat' split) <;> first|rfl|(exfalso;omega)|(simp_all;done))
    rw [hz]
    exact R.w2 (z1,z2,z3,z4) [4] [0,1,2,3] rfl Tryz.results49 (RV.cell 1 rfl rfl au) (RV.tmp rfl) rfl rfl rfl (cm rfl (gu rfl))
  ·
    refine R.q (q.fI rfl rfl Tryz.underlying41 (by omega)) rfl<|R.nil ?_
    refine R.aI rfl rfl ?_
    refine R.reg rfl<|R.q (q.build (cs:=[.slice none 0 0,.slice none 0 0,.slice none 0 0,.slice none 0 0,.int .i64 0,.int .i64 0]) ck rfl rfl) rfl<|R.u 1 rfl<|?_
    refine R.s rfl (s.st (us:=[.slice none 0 0,.slice none 0 0,.slice none 0 0,.slice none 0 0,.int .i64 0,.int .i64 0]) (cs':=[.slice none 0 0,.slice none 0 0,.slice none 0 0,.slice none 0 0,.int .i64 0,.int .i64 0]) 1 _ rfl rfl rfl rfl (.inl au) rfl rfl rfl rfl) fun _=>?_
    refine R.u 1 rfl<|R.nil ?_
    refine R.mp (fun _ hw=>hw.aN (α:=ao)) ?_
    refine R.mp (fun _ hw=>hw.aN (α:=ai)) ?_
    refine R.mp (fun _ hw=>hw.aN (α:=Held)) ?_
    refine R.mp (fun _ hw=>hw.aN (α:=Note)) ?_
    have hz:cq r p=((⟨[],[],[],[],0,0⟩:ay),(ak r p).2):=by (unfold cq;(repeat' split) <;> first|rfl|(exfalso;omega)|(simp_all;done))
    rw [hz]
    exact R.w2 ((.slice none 0 0),(.slice none 0 0),(.slice none 0 0),(.slice none 0 0)) [4] [3,2,1,0] rfl Tryz.results49 (RV.cell 1 rfl rfl au) (RV.tmp rfl) rfl rfl rfl (cm rfl rfl)
set_option maxHeartbeats 1000000 in
theorem pg (aD az aB aA:Value)(r:ay)(p:Place)(w:World)(own:List Nat)(H:Wd w (blks []++own) ([]++[ah.held w own]) [ah.ls aD (r.ap:List ao),ah.ls az (r.Things:List ai),ah.ls aB (r.Held:List Held),ah.ls aA (r.Notes:List Note)] w)(hk:Ok r):Calls Tryz.prog 50 #[.agg #[aD,az,aB,aA,.int .i64 r.ae,.int .i64 r.af],.agg #[.int .i64 p.ag,.int .i64 p.Slot]] w fun e w' => ∃z:Value×Value×Value×Value,e = .returned (.tuple #[.agg #[z.1,z.2.1,z.2.2.1,z.2.2.2,.int .i64 ((((bg r p)).1).ae),.int .i64 ((((bg r p)).1).af)],ek (((bg r p)).2)])∧Wd w (blks []++own) ([]++[ah.held w own]) [ah.ls z.1 ((((bg r p)).1).ap:List ao),ah.ls z.2.1 ((((bg r p)).1).Things:List ai),ah.ls z.2.2.1 ((((bg r p)).1).Held:List Held),ah.ls z.2.2.2 ((((bg r p)).1).Notes:List Note)] w':=by
  have cw:=H.bS 0 rfl
  have bY:=H.bS 1 rfl
  have cI:=H.bS 2 rfl
  have cx:=H.bS 3 rfl
  have bw:=hk.wl;have bt:=hk.tl;have bh:=hk.hl;have bn:=hk.nl;have lS:=hk.w0;have lT:=hk.w1;have lU:=hk.t0;have lV:=hk.t1
  have hkd:Ok (⟨r.ap.filter (fun x => !(fun (x:ao)=>decide (x.ID∈(cZ (((ak r p).1).ID) r.ap))) x),r.Things,r.Held,r.Notes,r.ae,r.af⟩:ay):=hk.cut (ak r p).1.ID
  refine R.cC (n:=32) (vs:=[.agg #[aD,az,aB,aA,.int .i64 r.ae,.int .i64 r.af],.agg #[.int .i64 p.ag,.int .i64 p.Slot]]) (B:=[ah.held w own]) [(0,.agg #[aD,az,aB,aA,.int .i64 r.ae,.int .i64 r.af]),(1,.agg #[.int .i64 p.ag,.int .i64 p.Slot])] Tryz.func50 rfl rfl rfl rfl H ?_
  refine R.reg rfl<|?_
  refine R.s rfl (s.box (cs:=[aD,az,aB,aA,.int .i64 r.ae,.int .i64 r.af]) rfl rfl rfl) fun b1=>?_
  refine R.s rfl (s.box (cs:=[.int .i64 p.ag,.int .i64 p.Slot]) rfl rfl rfl) fun b2=>?_
  refine R.s rfl (s.alloc (cs:=[.slice none 0 0,.slice none 0 0,.slice none 0 0,.slice none 0 0,.int .i64 0,.int .i64 0]) bR rfl rfl) fun b3=>?_
  refine R.u 1 rfl<|R.nil ?_
  refine R.reg rfl<|R.q (q.bI 2 rfl rfl au) rfl<|R.q (q.bI 1 rfl rfl aM) rfl<|R.c (q.call oJ rfl rfl (fun w hw=>(ig _ _ _ _ (r) (p) w ((fun _=>Wd.aO 0 rfl) w hw) ((fun _=>Wd.aO 1 rfl) w hw) ((fun _=>Wd.aO 2 rfl) w hw) ((fun _=>Wd.aO 3 rfl) w hw) (by assumption)))) rfl<|R.u 3 rfl<|?_
  refine R.s rfl (s.alloc (cs:=[.int .i64 0,.int .i64 0,.int .i64 0,.int .i64 0,.int .i64 0]) aY rfl rfl) fun b4=>?_
  refine R.s rfl (s.st (us:=[.int .i64 (((ak r p).1).ID),.int .i64 (((ak r p).1).ai),.int .i64 (((ak r p).1).Rights),.int .i64 (((ak r p).1).ar),.int .i64 (((ak r p).1).From)]) (cs':=[.int .i64 (((ak r p).1).ID),.int .i64 (((ak r p).1).ai),.int .i64 (((ak r p).1).Rights),.int .i64 (((ak r p).1).ar),.int .i64 (((ak r p).1).From)]) 0 _ rfl rfl rfl rfl (.inl aK) rfl rfl rfl rfl) fun _=>?_
  refine R.u 1 rfl<|R.nil ?_
  refine R.reg rfl<|R.u 1 rfl<|?_
  by_cases h1:(ak r p).2=0
  ·
    refine R.q (q.fH rfl rfl Tryz.underlying41 (by omega)) rfl<|R.nil ?_
    refine R.aH rfl rfl ?_
    refine R.reg rfl<|R.q (q.aS (off':=0) rfl a8 rfl) rfl<|R.q (q.ld 3 rfl rfl bN rfl) rfl<|R.q (q.aS (off':=0) rfl bK rfl) rfl<|R.q (q.ld 0 rfl rfl aG rfl) rfl<|?_
    refine R.s rfl (s.jk xo rfl rfl (fun w hw=>og _ (r.ap) (((ak r p).1).ID) w ((fun _=>Wd.aO 0 rfl) w hw) (by first|omega|assumption)) rfl) fun v1=>?_
    refine R.s rfl (s.alloc (cs:=[.slice none 0 0]) np rfl rfl) fun b5=>?_
    refine R.s rfl (s.cS (us:=[v1]) (cs':=[v1]) 0 _ rfl rfl rfl (fun w hw=>Sl.bJ ((fun _=>Wd.row 1 rfl) w hw)) (.inr ⟨iH,rfl⟩) (fun w hw=>(aj (Sl.one ((fun _=>Wd.row 1 rfl) w hw)) aJ)) rfl rfl rfl) fun _=>?_
    refine R.nil ?_
    refine R.reg rfl<|R.q (q.aS (off':=0) rfl a8 rfl) rfl<|R.q (q.ld 5 rfl rfl bN rfl) rfl<|?_
    refine R.s (B':=(fun aL:Value=>[ah.row 39 aL (r.ap:List ao),ah.box b5 [v1] 116,ah.row 3 v1 ((cZ (((ak r p).1).ID) r.ap):List Int),ah.box b4 [.int .i64 (((ak r p).1).ID),.int .i64 (((ak r p).1).ai),.int .i64 (((ak r p).1).Rights),.int .i64 (((ak r p).1).ar),.int .i64 (((ak r p).1).From)] 39,ah.box b3 [.slice none 0 0,.slice none 0 0,.slice none 0 0,.slice none 0 0,.int .i64 0,.int .i64 0] 30,ah.box b2 [.int .i64 p.ag,.int .i64 p.Slot] 33,ah.box b1 [aD,az,aB,aA,.int .i64 r.ae,.int .i64 r.af] 30,ah.held w own])) (F':=(fun aL:Value=>[ah.ls aD (r.ap:List ao),ah.ls az (r.Things:List ai),ah.ls aB (r.Held:List Held),ah.ls aA (r.Notes:List Note)])) rfl (s.bE (B0:=[]) (Br:=[ah.box b5 [v1] 116,ah.row 3 v1 ((cZ (((ak r p).1).ID) r.ap):List Int),ah.box b4 [.int .i64 (((ak r p).1).ID),.int .i64 (((ak r p).1).ai),.int .i64 (((ak r p).1).Rights),.int .i64 (((ak r p).1).ar),.int .i64 (((ak r p).1).From)] 39,ah.box b3 [.slice none 0 0,.slice none 0 0,.slice none 0 0,.slice none 0 0,.int .i64 0,.int .i64 0] 30,ah.box b2 [.int .i64 p.ag,.int .i64 p.Slot] 33,ah.box b1 [aD,az,aB,aA,.int .i64 r.ae,.int .i64 r.af] 30,ah.held w own]) (F0:=[ah.ls aD (r.ap:List ao)]) [0,1,2,3,4,5,6] [0] (fun aL:Value=>aL) (fun aL:Value=>[ah.row 39 aL (r.ap:List ao)]) (fun aL:Value=>[]) rfl rfl rfl oK rfl rfl (fun w own hw H=>fa aD (r.ap) w own H (by first|omega|assumption|(simp;done)|(simp;omega))) rfl) fun z1=>?_
    refine R.q (q.vT (cap:=[.pointer (some ⟨b5,0,none⟩)]) rfl rfl) rfl<|?_
    refine R.s (B':=(fun aL:Value=>[ah.row 39 aL ((r.ap.filter (fun x => !(fun (x:ao)=>decide (x.ID∈(cZ (((ak r p).1).ID) r.ap))) x)):List ao),ah.box b5 [v1] 116,ah.row 3 v1 ((cZ (((ak r p).1).ID) r.ap):List Int),ah.box b4 [.int .i64 (((ak r p).1).ID),.int .i64 (((ak r p).1).ai),.int .i64 (((ak r p).1).Rights),.int .i64 (((ak r p).1).ar),.int .i64 (((ak r p).1).From)] 39,ah.box b3 [.slice none 0 0,.slice none 0 0,.slice none 0 0,.slice none 0 0,.int .i64 0,.int .i64 0] 30,ah.box b2 [.int .i64 p.ag,.int .i64 p.Slot] 33,ah.box b1 [aD,az,aB,aA,.int .i64 r.ae,.int .i64 r.af] 30,ah.held w own])) (F':=(fun aL:Value=>[ah.ls aD (r.ap:List ao),ah.ls az (r.Things:List ai),ah.ls aB (r.Held:List Held),ah.ls aA (r.Notes:List Note)])) rfl (s.bE (B0:=[ah.row 39 z1 (r.ap:List ao)]) (Br:=[ah.box b5 [v1] 116,ah.row 3 v1 ((cZ (((ak r p).1).ID) r.ap):List Int),ah.box b4 [.int .i64 (((ak r p).1).ID),.int .i64 (((ak r p).1).ai),.int .i64 (((ak r p).1).Rights),.int .i64 (((ak r p).1).ar),.int .i64 (((ak r p).1).From)] 39,ah.box b3 [.slice none 0 0,.slice none 0 0,.slice none 0 0,.slice none 0 0,.int .i64 0,.int .i64 0] 30,ah.box b2 [.int .i64 p.ag,.int .i64 p.Slot] 33,ah.box b1 [aD,az,aB,aA,.int .i64 r.ae,.int .i64 r.af] 30,ah.held w own]) (F0:=[]) [0,1,2,3,4,5,6,7] [] (fun aL:Value=>aL) (fun aL:Value=>[ah.row 39 aL ((r.ap.filter (fun x => !(fun (x:ao)=>decide (x.ID∈(cZ (((ak r p).1).ID) r.ap))) x)):List ao)]) (fun aL:Value=>[]) rfl rfl rfl xp rfl rfl (fun w own hw H=>lJ z1 (r.ap) (fun (x:ao)=>decide (x.ID∈(cZ (((ak r p).1).ID) r.ap))) _ _ xq w own H (fun W x hU=>m6 x _ ((cZ (((ak r p).1).ID) r.ap)) _ W (hw.l8 1 0 rfl rfl (by decide) hU) (Own.sl (hw.l8 2 0 rfl rfl (by decide) hU)) ) (by first|omega|assumption|(simp;done)|(simp;omega))) rfl) fun z2=>?_
    refine R.q (q.aS (off':=0) rfl a8 rfl) rfl<|?_
    refine R.s rfl (s.cS (us:=[z2]) (cs':=[z2,az,aB,aA,.int .i64 r.ae,.int .i64 r.af]) 6 _ rfl rfl rfl (fun w hw=>Sl.bJ ((fun _=>Wd.row 0 rfl) w hw)) (.inr ⟨bN,rfl⟩) (fun w hw=>(aj (Sl.one ((fun _=>Wd.row 0 rfl) w hw)) aJ)) rfl rfl rfl) fun _=>?_
    refine R.nil ?_
    refine R.reg rfl<|R.q (q.bI 6 rfl rfl au) rfl<|?_
    refine R.s (B':=(fun g_:Value×Value×Value×Value=>[ah.box b5 [v1] 116,ah.row 3 v1 ((cZ (((ak r p).1).ID) r.ap):List Int),ah.box b4 [.int .i64 (((ak r p).1).ID),.int .i64 (((ak r p).1).ai),.int .i64 (((ak r p).1).Rights),.int .i64 (((ak r p).1).ar),.int .i64 (((ak r p).1).From)] 39,ah.box b3 [.slice none 0 0,.slice none 0 0,.slice none 0 0,.slice none 0 0,.int .i64 0,.int .i64 0] 30,ah.box b2 [.int .i64 p.ag,.int .i64 p.Slot] 33,ah.box b1 [z2,az,aB,aA,.int .i64 r.ae,.int .i64 r.af] 30,ah.held w own])) (F':=(fun g_:Value×Value×Value×Value=>[ah.ls g_.1 (((aP (⟨r.ap.filter (fun x => !(fun (x:ao)=>decide (x.ID∈(cZ (((ak r p).1).ID) r.ap))) x),r.Things,r.Held,r.Notes,r.ae,r.af⟩:ay))).ap:List ao),ah.ls g_.2.1 (((aP (⟨r.ap.filter (fun x => !(fun (x:ao)=>decide (x.ID∈(cZ (((ak r p).1).ID) r.ap))) x),r.Things,r.Held,r.Notes,r.ae,r.af⟩:ay))).Things:List ai),ah.ls g_.2.2.1 (((aP (⟨r.ap.filter (fun x => !(fun (x:ao)=>decide (x.ID∈(cZ (((ak r p).1).ID) r.ap))) x),r.Things,r.Held,r.Notes,r.ae,r.af⟩:ay))).Held:List Held),ah.ls g_.2.2.2 (((aP (⟨r.ap.filter (fun x => !(fun (x:ao)=>decide (x.ID∈(cZ (((ak r p).1).ID) r.ap))) x),r.Things,r.Held,r.Notes,r.ae,r.af⟩:ay))).Notes:List Note),ah.ls z2 (r.ap.filter (fun x => !(fun (x:ao)=>decide (x.ID∈(cZ (((ak r p).1).ID) r.ap))) x):List ao),ah.ls aD (r.ap:List ao),ah.ls az (r.Things:List ai),ah.ls aB (r.Held:List Held),ah.ls aA (r.Notes:List Note)])) rfl (s.pre (B2:=[ah.box b5 [v1] 116,ah.row 3 v1 ((cZ (((ak r p).1).ID) r.ap):List Int),ah.box b4 [.int .i64 (((ak r p).1).ID),.int .i64 (((ak r p).1).ai),.int .i64 (((ak r p).1).Rights),.int .i64 (((ak r p).1).ar),.int .i64 (((ak r p).1).From)] 39,ah.box b3 [.slice none 0 0,.slice none 0 0,.slice none 0 0,.slice none 0 0,.int .i64 0,.int .i64 0] 30,ah.box b2 [.int .i64 p.ag,.int .i64 p.Slot] 33,ah.box b1 [z2,az,aB,aA,.int .i64 r.ae,.int .i64 r.af] 30,ah.held w own]) (F2:=[ah.ls z2 (r.ap.filter (fun x => !(fun (x:ao)=>decide (x.ID∈(cZ (((ak r p).1).ID) r.ap))) x):List ao),ah.ls aD (r.ap:List ao),ah.ls az (r.Things:List ai),ah.ls aB (r.Held:List Held),ah.ls aA (r.Notes:List Note)]) (fun _ hw=>hw.aZ 0 _ rfl rfl) (s.bE (B0:=[]) (Br:=[ah.box b5 [v1] 116,ah.row 3 v1 ((cZ (((ak r p).1).ID) r.ap):List Int),ah.box b4 [.int .i64 (((ak r p).1).ID),.int .i64 (((ak r p).1).ai),.int .i64 (((ak r p).1).Rights),.int .i64 (((ak r p).1).ar),.int .i64 (((ak r p).1).From)] 39,ah.box b3 [.slice none 0 0,.slice none 0 0,.slice none 0 0,.slice none 0 0,.int .i64 0,.int .i64 0] 30,ah.box b2 [.int .i64 p.ag,.int .i64 p.Slot] 33,ah.box b1 [z2,az,aB,aA,.int .i64 r.ae,.int .i64 r.af] 30,ah.held w own]) (F0:=[ah.ls z2 (r.ap.filter (fun x => !(fun (x:ao)=>decide (x.ID∈(cZ (((ak r p).1).ID) r.ap))) x):List ao),ah.ls az (r.Things:List ai),ah.ls aB (r.Held:List Held),ah.ls aA (r.Notes:List Note)]) [0,1,2,3,4,5,6] [0,2,3,4] (fun g_:Value×Value×Value×Value => .agg #[g_.1,g_.2.1,g_.2.2.1,g_.2.2.2,.int .i64 (((aP (⟨r.ap.filter (fun x => !(fun (x:ao)=>decide (x.ID∈(cZ (((ak r p).1).ID) r.ap))) x),r.Things,r.Held,r.Notes,r.ae,r.af⟩:ay))).ae),.int .i64 (((aP (⟨r.ap.filter (fun x => !(fun (x:ao)=>decide (x.ID∈(cZ (((ak r p).1).ID) r.ap))) x),r.Things,r.Held,r.Notes,r.ae,r.af⟩:ay))).af)]) (fun g_:Value×Value×Value×Value=>[]) (fun g_:Value×Value×Value×Value=>[ah.ls g_.1 (((aP (⟨r.ap.filter (fun x => !(fun (x:ao)=>decide (x.ID∈(cZ (((ak r p).1).ID) r.ap))) x),r.Things,r.Held,r.Notes,r.ae,r.af⟩:ay))).ap:List ao),ah.ls g_.2.1 (((aP (⟨r.ap.filter (fun x => !(fun (x:ao)=>decide (x.ID∈(cZ (((ak r p).1).ID) r.ap))) x),r.Things,r.Held,r.Notes,r.ae,r.af⟩:ay))).Things:List ai),ah.ls g_.2.2.1 (((aP (⟨r.ap.filter (fun x => !(fun (x:ao)=>decide (x.ID∈(cZ (((ak r p).1).ID) r.ap))) x),r.Things,r.Held,r.Notes,r.ae,r.af⟩:ay))).Held:List Held),ah.ls g_.2.2.2 (((aP (⟨r.ap.filter (fun x => !(fun (x:ao)=>decide (x.ID∈(cZ (((ak r p).1).ID) r.ap))) x),r.Things,r.Held,r.Notes,r.ae,r.af⟩:ay))).Notes:List Note)]) rfl rfl rfl sF rfl rfl (fun w own hw H=>by have yM:=j9 z2 az aB aA ((⟨r.ap.filter (fun x => !(fun (x:ao)=>decide (x.ID∈(cZ (((ak r p).1).ID) r.ap))) x),r.Things,r.Held,r.Notes,r.ae,r.af⟩:ay)) w own H (by assumption);exact yM) rfl)) ?_
    rintro ⟨z3,z4,z5,z6⟩
    dsimp only
    refine R.s rfl (s.cS (us:=[z3,z4,z5,z6,.int .i64 ((aP (⟨r.ap.filter (fun x => !(fun (x:ao)=>decide (x.ID∈(cZ (((ak r p).1).ID) r.ap))) x),r.Things,r.Held,r.Notes,r.ae,r.af⟩:ay)).ae),.int .i64 ((aP (⟨r.ap.filter (fun x => !(fun (x:ao)=>decide (x.ID∈(cZ (((ak r p).1).ID) r.ap))) x),r.Things,r.Held,r.Notes,r.ae,r.af⟩:ay)).af)]) (cs':=[z3,z4,z5,z6,.int .i64 ((aP (⟨r.ap.filter (fun x => !(fun (x:ao)=>decide (x.ID∈(cZ (((ak r p).1).ID) r.ap))) x),r.Things,r.Held,r.Notes,r.ae,r.af⟩:ay)).ae),.int .i64 ((aP (⟨r.ap.filter (fun x => !(fun (x:ao)=>decide (x.ID∈(cZ (((ak r p).1).ID) r.ap))) x),r.Things,r.Held,r.Notes,r.ae,r.af⟩:ay)).af)]) 3 _ rfl rfl rfl (fun _ _=>rfl) (.inl au) (fun w hw=>(aj (Sl.one ((fun _=>Wd.aO 0 rfl) w hw)) (aj (Sl.one ((fun _=>Wd.aO 1 rfl) w hw)) (aj (Sl.one ((fun _=>Wd.aO 2 rfl) w hw)) (aj (Sl.one ((fun _=>Wd.aO 3 rfl) w hw)) (aj rfl (aj rfl aJ))))))) rfl rfl rfl) fun _=>?_
    refine R.u 1 rfl<|R.nil ?_
    have hz:bg r p=((aP (⟨r.ap.filter (fun x => !(fun (x:ao)=>decide (x.ID∈(cZ (((ak r p).1).ID) r.ap))) x),r.Things,r.Held,r.Notes,r.ae,r.af⟩:ay)),0):=by (unfold bg;(repeat' split) <;> first|rfl|(exfalso;omega)|(simp_all;done))
    rw [hz]
    exact R.w2 (z3,z4,z5,z6) [6] [0,1,2,3] rfl Tryz.results50 (RV.cell 3 rfl rfl au) (RV.tmp rfl) rfl rfl rfl (cm rfl (gu rfl))
  ·
    refine R.q (q.fI rfl rfl Tryz.underlying41 (by omega)) rfl<|R.nil ?_
    refine R.aI rfl rfl ?_
    refine R.reg rfl<|R.q (q.build (cs:=[.slice none 0 0,.slice none 0 0,.slice none 0 0,.slice none 0 0,.int .i64 0,.int .i64 0]) ck rfl rfl) rfl<|R.u 1 rfl<|?_
    refine R.s rfl (s.st (us:=[.slice none 0 0,.slice none 0 0,.slice none 0 0,.slice none 0 0,.int .i64 0,.int .i64 0]) (cs':=[.slice none 0 0,.slice none 0 0,.slice none 0 0,.slice none 0 0,.int .i64 0,.int .i64 0]) 1 _ rfl rfl rfl rfl (.inl au) rfl rfl rfl rfl) fun _=>?_
    refine R.u 1 rfl<|R.nil ?_
    refine R.mp (fun _ hw=>hw.aN (α:=ao)) ?_
    refine R.mp (fun _ hw=>hw.aN (α:=ai)) ?_
    refine R.mp (fun _ hw=>hw.aN (α:=Held)) ?_
    refine R.mp (fun _ hw=>hw.aN (α:=Note)) ?_
    have hz:bg r p=((⟨[],[],[],[],0,0⟩:ay),(ak r p).2):=by (unfold bg;(repeat' split) <;> first|rfl|(exfalso;omega)|(simp_all;done))
    rw [hz]
    exact R.w2 ((.slice none 0 0),(.slice none 0 0),(.slice none 0 0),(.slice none 0 0)) [4] [3,2,1,0] rfl Tryz.results50 (RV.cell 1 rfl rfl au) (RV.tmp rfl) rfl rfl rfl (cm rfl rfl)
theorem kO (aD az aB aA:Value)(r:ay)(p:Place)(kind:Int)(rights:Int)(w:World)(gX:Sl w aD r.ap)(eX:Sl w az r.Things)(jg:Sl w aB r.Held)(lK:Sl w aA r.Notes)(hk:Ok r)(hr:0≤rights∧rights≤7):Calls Tryz.prog 29 #[.agg #[aD,az,aB,aA,.int .i64 r.ae,.int .i64 r.af],.agg #[.int .i64 p.ag,.int .i64 p.Slot],.int .i64 kind,.int .i64 rights] w fun e w'=>e = .returned (.tuple #[ao.val ((av r p kind rights).1),.int .i64 ((av r p kind rights).2.1),ek ((av r p kind rights).2.2)])∧Ext w w':=by
  have bw:=hk.wl;have bt:=hk.tl;have bh:=hk.hl;have bn:=hk.nl;have lS:=hk.w0;have lT:=hk.w1;have lU:=hk.t0;have lV:=hk.t1
  refine R.enter (n:=51) (vs:=[.agg #[aD,az,aB,aA,.int .i64 r.ae,.int .i64 r.af],.agg #[.int .i64 p.ag,.int .i64 p.Slot],.int .i64 kind,.int .i64 rights]) [] [(0,.agg #[aD,az,aB,aA,.int .i64 r.ae,.int .i64 r.af]),(1,.agg #[.int .i64 p.ag,.int .i64 p.Slot]),(2,.int .i64 kind),(3,.int .i64 rights)] Tryz.func29 rfl rfl rfl rfl ?_
  refine R.reg rfl<|?_
  refine R.s rfl (s.box (cs:=[aD,az,aB,aA,.int .i64 r.ae,.int .i64 r.af]) rfl rfl rfl) fun b1=>?_
  refine R.s rfl (s.box (cs:=[.int .i64 p.ag,.int .i64 p.Slot]) rfl rfl rfl) fun b2=>?_
  refine R.s rfl (s.alloc (cs:=[.int .i64 0,.int .i64 0,.int .i64 0,.int .i64 0,.int .i64 0]) aY rfl rfl) fun b3=>?_
  refine R.u 2 rfl<|R.nil ?_
  refine R.reg rfl<|R.q (q.bI 2 rfl rfl au) rfl<|R.q (q.bI 1 rfl rfl aM) rfl<|R.c (q.call oJ rfl rfl (fun w hw=>(ig _ _ _ _ (r) (p) w ((fun _=>Wd.old gX) w hw) ((fun _=>Wd.old eX) w hw) ((fun _=>Wd.old jg) w hw) ((fun _=>Wd.old lK) w hw) (by assumption)))) rfl<|R.u 3 rfl<|?_
  refine R.s rfl (s.alloc (cs:=[.int .i64 0,.int .i64 0,.int .i64 0,.int .i64 0,.int .i64 0]) aY rfl rfl) fun b4=>?_
  refine R.s rfl (s.st (us:=[.int .i64 (((ak r p).1).ID),.int .i64 (((ak r p).1).ai),.int .i64 (((ak r p).1).Rights),.int .i64 (((ak r p).1).ar),.int .i64 (((ak r p).1).From)]) (cs':=[.int .i64 (((ak r p).1).ID),.int .i64 (((ak r p).1).ai),.int .i64 (((ak r p).1).Rights),.int .i64 (((ak r p).1).ar),.int .i64 (((ak r p).1).From)]) 0 _ rfl rfl rfl rfl (.inl aK) rfl rfl rfl rfl) fun _=>?_
  refine R.u 1 rfl<|R.nil ?_
  refine R.reg rfl<|R.u 1 rfl<|?_
  by_cases h1:(ak r p).2=0
  ·
    have yQ:=hk.get h1
    refine R.q (q.fH rfl rfl Tryz.underlying41 (by omega)) rfl<|R.nil ?_
    refine R.aH rfl rfl ?_
    refine R.reg rfl<|R.q (q.aS (off':=1) rfl bm rfl) rfl<|R.q (q.ld 3 rfl rfl bT rfl) rfl<|R.q (q.vT (cap:=[.pointer (some ⟨b4,0,none⟩)]) rfl rfl) rfl<|?_
    rcases fC (fun (t:ai)=>t.ID==((ak r p).1).ai) r.Things with ⟨dt,j2⟩ | ⟨i4,du,dt,dP,e6,fZ,ya⟩
    ·
      refine R.c (q.call qS rfl rfl (fun w hw=>(cv (congrArg (Value.int .i64) dt) (eA _ (r.Things) (fun (t:ai)=>t.ID==((ak r p).1).ai) _ _ uS w ((fun _=>Wd.old eX) w hw) (fun W t hW=>mM t (((ak r p).1)) _ W (kC (hw.b 0 rfl) hW) ) )))) rfl<|R.u 1 rfl<|R.nil ?_
      refine R.reg rfl<|R.u 1 rfl<|R.q (q.lss (b:=true) rfl rfl (by decide)) rfl<|R.u 10 rfl<|R.nil ?_
      refine R.aI rfl rfl ?_
      refine R.reg rfl<|R.q (q.build (cs:=[.int .i64 0,.int .i64 0,.int .i64 0,.int .i64 0,.int .i64 0]) dM rfl rfl) rfl<|R.q (q.iface rfl da) rfl<|?_
      refine R.s rfl (s.st (us:=[.int .i64 0,.int .i64 0,.int .i64 0,.int .i64 0,.int .i64 0]) (cs':=[.int .i64 0,.int .i64 0,.int .i64 0,.int .i64 0,.int .i64 0]) 1 _ rfl rfl rfl rfl (.inl aK) rfl rfl rfl rfl) fun _=>?_
      refine R.u 2 rfl<|R.nil ?_
      exact R.tI rfl Tryz.results29 (RV.cell 1 rfl rfl aK) (RV.tmp rfl) (RV.tmp rfl) (congrArg ao.val (show (⟨0,0,0,0,0⟩:ao)=(av r p kind rights).1 from by (first|(rw [cu (by assumption)];first|done|rfl)|(rw [bV (by assumption) j2];first|done|rfl)|(rw [bW (by assumption) dP e6 fZ (by assumption)];first|done|rfl)|(rw [bM (by assumption) dP e6 fZ (by assumption) (by assumption)];first|done|rfl)|(rw [cL (by assumption) dP e6 fZ (by assumption) (by assumption)];first|done|rfl)))) (rI (by (first|(rw [cu (by assumption)];first|done|rfl)|(rw [bV (by assumption) j2];first|done|rfl)|(rw [bW (by assumption) dP e6 fZ (by assumption)];first|done|rfl)|(rw [bM (by assumption) dP e6 fZ (by assumption) (by assumption)];first|done|rfl)|(rw [cL (by assumption) dP e6 fZ (by assumption) (by assumption)];first|done|rfl)))) (e5 (by decide) (by (first|(rw [cu (by assumption)];first|done|rfl)|(rw [bV (by assumption) j2];first|done|rfl)|(rw [bW (by assumption) dP e6 fZ (by assumption)];first|done|rfl)|(rw [bM (by assumption) dP e6 fZ (by assumption) (by assumption)];first|done|rfl)|(rw [cL (by assumption) dP e6 fZ (by assumption) (by assumption)];first|done|rfl))))
    ·
      refine R.c (q.call qS rfl rfl (fun w hw=>(cv (congrArg (Value.int .i64) dt) (eA _ (r.Things) (fun (t:ai)=>t.ID==((ak r p).1).ai) _ _ uS w ((fun _=>Wd.old eX) w hw) (fun W t hW=>mM t (((ak r p).1)) _ W (kC (hw.b 0 rfl) hW) ) )))) rfl<|R.u 1 rfl<|R.nil ?_
      refine R.reg rfl<|R.u 1 rfl<|R.q (q.lss rfl rfl (decide_eq_false (by omega))) rfl<|R.u 1 rfl<|R.qg rfl (q.aS (off':=1) rfl bm rfl) rfl<|R.qg rfl (q.ld 3 rfl rfl bT rfl) rfl<|R.u 1 rfl<|R.qg rfl (q.idx (i:=i4) (fun _=>Wd.old eX) rfl rfl dJ rfl dP) rfl<|R.qg rfl (q.eJ (j':=1) (fun _=>Wd.old eX) dP rfl nn rfl) rfl<|R.qg rfl (q.jU (fun _=>Wd.old eX) dP rfl aG rfl) rfl<|R.u 1 rfl<|?_
      by_cases h2:du.Kind=kind
      ·
        refine R.qg rfl (q.neq rfl rfl (bne_eq_false_iff_eq.2 (by omega))) rfl<|R.u 1 rfl<|R.nil ?_
        refine R.aH rfl rfl ?_
        refine R.reg rfl<|R.q (q.aS (off':=2) rfl eP rfl) rfl<|R.q (q.ld 0 rfl rfl aG rfl) rfl<|R.u 1 rfl<|?_
        rcases Bool.eq_false_or_eq_true (cT (((ak r p).1).Rights) rights) with h3|h3
        ·
          refine R.c (q.call lp rfl rfl (fun w hw=>(cv (congrArg Value.bool h3) (eh (((ak r p).1).Rights) (rights) w  (by omega) (by omega))))) rfl<|R.u 1 rfl<|R.nil ?_
          refine R.aH rfl rfl ?_
          refine R.reg rfl<|R.q (q.bI 0 rfl rfl aK) rfl<|R.u 1 rfl<|?_
          refine R.s rfl (s.st (us:=[.int .i64 (((ak r p).1).ID),.int .i64 (((ak r p).1).ai),.int .i64 (((ak r p).1).Rights),.int .i64 (((ak r p).1).ar),.int .i64 (((ak r p).1).From)]) (cs':=[.int .i64 (((ak r p).1).ID),.int .i64 (((ak r p).1).ai),.int .i64 (((ak r p).1).Rights),.int .i64 (((ak r p).1).ar),.int .i64 (((ak r p).1).From)]) 1 _ rfl rfl rfl rfl (.inl aK) rfl rfl rfl rfl) fun _=>?_
          refine R.u 2 rfl<|R.nil ?_
          exact R.tI rfl Tryz.results29 (RV.cell 1 rfl rfl aK) (RV.tmp rfl) (RV.tmp rfl) (congrArg ao.val (show ((ak r p).1)=(av r p kind rights).1 from by (first|(rw [cu (by assumption)];first|done|rfl)|(rw [bV (by assumption) j2];first|done|rfl)|(rw [bW (by assumption) dP e6 fZ (by assumption)];first|done|rfl)|(rw [bM (by assumption) dP e6 fZ (by assumption) (by assumption)];first|done|rfl)|(rw [cL (by assumption) dP e6 fZ (by assumption) (by assumption)];first|done|rfl)))) (rI (by (first|(rw [cu (by assumption)];first|done|rfl)|(rw [bV (by assumption) j2];first|done|rfl)|(rw [bW (by assumption) dP e6 fZ (by assumption)];first|done|rfl)|(rw [bM (by assumption) dP e6 fZ (by assumption) (by assumption)];first|done|rfl)|(rw [cL (by assumption) dP e6 fZ (by assumption) (by assumption)];first|done|rfl)))) (gu (by (first|(rw [cu (by assumption)];first|done|rfl)|(rw [bV (by assumption) j2];first|done|rfl)|(rw [bW (by assumption) dP e6 fZ (by assumption)];first|done|rfl)|(rw [bM (by assumption) dP e6 fZ (by assumption) (by assumption)];first|done|rfl)|(rw [cL (by assumption) dP e6 fZ (by assumption) (by assumption)];first|done|rfl))))
        ·
          refine R.c (q.call lp rfl rfl (fun w hw=>(cv (congrArg Value.bool h3) (eh (((ak r p).1).Rights) (rights) w  (by omega) (by omega))))) rfl<|R.u 1 rfl<|R.nil ?_
          refine R.aI rfl rfl ?_
          refine R.reg rfl<|R.q (q.build (cs:=[.int .i64 0,.int .i64 0,.int .i64 0,.int .i64 0,.int .i64 0]) dM rfl rfl) rfl<|R.q (q.iface rfl da) rfl<|?_
          refine R.s rfl (s.st (us:=[.int .i64 0,.int .i64 0,.int .i64 0,.int .i64 0,.int .i64 0]) (cs':=[.int .i64 0,.int .i64 0,.int .i64 0,.int .i64 0,.int .i64 0]) 1 _ rfl rfl rfl rfl (.inl aK) rfl rfl rfl rfl) fun _=>?_
          refine R.u 2 rfl<|R.nil ?_
          exact R.tI rfl Tryz.results29 (RV.cell 1 rfl rfl aK) (RV.tmp rfl) (RV.tmp rfl) (congrArg ao.val (show (⟨0,0,0,0,0⟩:ao)=(av r p kind rights).1 from by (first|(rw [cu (by assumption)];first|done|rfl)|(rw [bV (by assumption) j2];first|done|rfl)|(rw [bW (by assumption) dP e6 fZ (by assumption)];first|done|rfl)|(rw [bM (by assumption) dP e6 fZ (by assumption) (by assumption)];first|done|rfl)|(rw [cL (by assumption) dP e6 fZ (by assumption) (by assumption)];first|done|rfl)))) (rI (by (first|(rw [cu (by assumption)];first|done|rfl)|(rw [bV (by assumption) j2];first|done|rfl)|(rw [bW (by assumption) dP e6 fZ (by assumption)];first|done|rfl)|(rw [bM (by assumption) dP e6 fZ (by assumption) (by assumption)];first|done|rfl)|(rw [cL (by assumption) dP e6 fZ (by assumption) (by assumption)];first|done|rfl)))) (e5 (by decide) (by (first|(rw [cu (by assumption)];first|done|rfl)|(rw [bV (by assumption) j2];first|done|rfl)|(rw [bW (by assumption) dP e6 fZ (by assumption)];first|done|rfl)|(rw [bM (by assumption) dP e6 fZ (by assumption) (by assumption)];first|done|rfl)|(rw [cL (by assumption) dP e6 fZ (by assumption) (by assumption)];first|done|rfl))))
      ·
        refine R.qg rfl (q.neq rfl rfl (bne_iff_ne.2 (by omega))) rfl<|R.u 1 rfl<|R.nil ?_
        refine R.aI rfl rfl ?_
        refine R.reg rfl<|R.q (q.build (cs:=[.int .i64 0,.int .i64 0,.int .i64 0,.int .i64 0,.int .i64 0]) dM rfl rfl) rfl<|R.q (q.iface rfl da) rfl<|?_
        refine R.s rfl (s.st (us:=[.int .i64 0,.int .i64 0,.int .i64 0,.int .i64 0,.int .i64 0]) (cs':=[.int .i64 0,.int .i64 0,.int .i64 0,.int .i64 0,.int .i64 0]) 1 _ rfl rfl rfl rfl (.inl aK) rfl rfl rfl rfl) fun _=>?_
        refine R.u 2 rfl<|R.nil ?_
        exact R.tI rfl Tryz.results29 (RV.cell 1 rfl rfl aK) (RV.tmp rfl) (RV.tmp rfl) (congrArg ao.val (show (⟨0,0,0,0,0⟩:ao)=(av r p kind rights).1 from by (first|(rw [cu (by assumption)];first|done|rfl)|(rw [bV (by assumption) j2];first|done|rfl)|(rw [bW (by assumption) dP e6 fZ (by assumption)];first|done|rfl)|(rw [bM (by assumption) dP e6 fZ (by assumption) (by assumption)];first|done|rfl)|(rw [cL (by assumption) dP e6 fZ (by assumption) (by assumption)];first|done|rfl)))) (rI (by (first|(rw [cu (by assumption)];first|done|rfl)|(rw [bV (by assumption) j2];first|done|rfl)|(rw [bW (by assumption) dP e6 fZ (by assumption)];first|done|rfl)|(rw [bM (by assumption) dP e6 fZ (by assumption) (by assumption)];first|done|rfl)|(rw [cL (by assumption) dP e6 fZ (by assumption) (by assumption)];first|done|rfl)))) (e5 (by decide) (by (first|(rw [cu (by assumption)];first|done|rfl)|(rw [bV (by assumption) j2];first|done|rfl)|(rw [bW (by assumption) dP e6 fZ (by assumption)];first|done|rfl)|(rw [bM (by assumption) dP e6 fZ (by assumption) (by assumption)];first|done|rfl)|(rw [cL (by assumption) dP e6 fZ (by assumption) (by assumption)];first|done|rfl))))
  ·
    refine R.q (q.fI rfl rfl Tryz.underlying41 (by omega)) rfl<|R.nil ?_
    refine R.aI rfl rfl ?_
    refine R.reg rfl<|R.q (q.build (cs:=[.int .i64 0,.int .i64 0,.int .i64 0,.int .i64 0,.int .i64 0]) dM rfl rfl) rfl<|R.u 1 rfl<|?_
    refine R.s rfl (s.st (us:=[.int .i64 0,.int .i64 0,.int .i64 0,.int .i64 0,.int .i64 0]) (cs':=[.int .i64 0,.int .i64 0,.int .i64 0,.int .i64 0,.int .i64 0]) 1 _ rfl rfl rfl rfl (.inl aK) rfl rfl rfl rfl) fun _=>?_
    refine R.u 2 rfl<|R.nil ?_
    exact R.tI rfl Tryz.results29 (RV.cell 1 rfl rfl aK) (RV.tmp rfl) (RV.tmp rfl) (congrArg ao.val (show (⟨0,0,0,0,0⟩:ao)=(av r p kind rights).1 from by (first|(rw [cu (by assumption)];first|done|rfl)|(rw [bV (by assumption) j2];first|done|rfl)|(rw [bW (by assumption) dP e6 fZ (by assumption)];first|done|rfl)|(rw [bM (by assumption) dP e6 fZ (by assumption) (by assumption)];first|done|rfl)|(rw [cL (by assumption) dP e6 fZ (by assumption) (by assumption)];first|done|rfl)))) (rI (by (first|(rw [cu (by assumption)];first|done|rfl)|(rw [bV (by assumption) j2];first|done|rfl)|(rw [bW (by assumption) dP e6 fZ (by assumption)];first|done|rfl)|(rw [bM (by assumption) dP e6 fZ (by assumption) (by assumption)];first|done|rfl)|(rw [cL (by assumption) dP e6 fZ (by assumption) (by assumption)];first|done|rfl)))) (rE (by (first|(rw [cu (by assumption)];first|done|rfl)|(rw [bV (by assumption) j2];first|done|rfl)|(rw [bW (by assumption) dP e6 fZ (by assumption)];first|done|rfl)|(rw [bM (by assumption) dP e6 fZ (by assumption) (by assumption)];first|done|rfl)|(rw [cL (by assumption) dP e6 fZ (by assumption) (by assumption)];first|done|rfl))))
theorem rT (aD az aB aA:Value)(r:ay)(p:Place)(w:World)(gX:Sl w aD r.ap)(eX:Sl w az r.Things)(jg:Sl w aB r.Held)(lK:Sl w aA r.Notes)(hk:Ok r):Calls Tryz.prog 10 #[.agg #[aD,az,aB,aA,.int .i64 r.ae,.int .i64 r.af],.agg #[.int .i64 p.ag,.int .i64 p.Slot]] w fun e w'=>e = .returned (.tuple #[.string ((fD r p).1),ek ((fD r p).2)])∧Ext w w':=by
  have bw:=hk.wl;have bt:=hk.tl;have bh:=hk.hl;have bn:=hk.nl;have lS:=hk.w0;have lT:=hk.w1;have lU:=hk.t0;have lV:=hk.t1
  refine R.enter (n:=25) (vs:=[.agg #[aD,az,aB,aA,.int .i64 r.ae,.int .i64 r.af],.agg #[.int .i64 p.ag,.int .i64 p.Slot]]) [] [(0,.agg #[aD,az,aB,aA,.int .i64 r.ae,.int .i64 r.af]),(1,.agg #[.int .i64 p.ag,.int .i64 p.Slot])] Tryz.func10 rfl rfl rfl rfl ?_
  refine R.reg rfl<|?_
  refine R.s rfl (s.box (cs:=[aD,az,aB,aA,.int .i64 r.ae,.int .i64 r.af]) rfl rfl rfl) fun b1=>?_
  refine R.s rfl (s.box (cs:=[.int .i64 p.ag,.int .i64 p.Slot]) rfl rfl rfl) fun b2=>?_
  refine R.u 2 rfl<|R.nil ?_
  refine R.reg rfl<|R.q (q.bI 1 rfl rfl au) rfl<|R.q (q.bI 0 rfl rfl aM) rfl<|R.c (q.call qM rfl rfl (fun w hw=>(kO _ _ _ _ (r) (p) (1) (1) w ((fun _=>Wd.old gX) w hw) ((fun _=>Wd.old eX) w hw) ((fun _=>Wd.old jg) w hw) ((fun _=>Wd.old lK) w hw) (by assumption) (by omega)))) rfl<|R.u 4 rfl<|?_
  refine R.s rfl (s.alloc (cs:=[.int .i64 0,.int .i64 0,.int .i64 0,.int .i64 0,.int .i64 0]) aY rfl rfl) fun b3=>?_
  refine R.s rfl (s.st (us:=[.int .i64 (((av r p 1 1).1).ID),.int .i64 (((av r p 1 1).1).ai),.int .i64 (((av r p 1 1).1).Rights),.int .i64 (((av r p 1 1).1).ar),.int .i64 (((av r p 1 1).1).From)]) (cs':=[.int .i64 (((av r p 1 1).1).ID),.int .i64 (((av r p 1 1).1).ai),.int .i64 (((av r p 1 1).1).Rights),.int .i64 (((av r p 1 1).1).ar),.int .i64 (((av r p 1 1).1).From)]) 0 _ rfl rfl rfl rfl (.inl aK) rfl rfl rfl rfl) fun _=>?_
  refine R.u 2 rfl<|R.nil ?_
  refine R.reg rfl<|R.u 1 rfl<|?_
  by_cases h1:(av r p 1 1).2.2=0
  ·
    obtain ⟨m1,m2,m3,i,ix,ik,ih,ii,id,ib⟩:=eS h1;have iB:=(List.getElem?_eq_some_iff.1 ih).1
    refine R.q (q.fH rfl rfl Tryz.underlying41 (by omega)) rfl<|R.nil ?_
    refine R.aH rfl rfl ?_
    refine R.reg rfl<|R.q (q.aS (off':=1) rfl bm rfl) rfl<|R.q (q.ld 2 rfl rfl bT rfl) rfl<|R.u 1 rfl<|?_
    obtain ⟨x1,hx1⟩:∃z,r.Things[((av r p 1 1).2.1).toNat]? = some z:=⟨_,List.getElem?_eq_getElem (by omega)⟩
    refine R.q (q.idx (i:=((av r p 1 1).2.1).toNat) (fun _=>Wd.old eX) rfl rfl dJ (by omega) hx1) rfl<|R.q (q.eJ (j':=2) (fun _=>Wd.old eX) hx1 rfl jI rfl) rfl<|R.q (q.jU (fun _=>Wd.old eX) hx1 rfl fQ rfl) rfl<|R.u 2 rfl<|R.nil ?_
    exact R.uC rfl Tryz.results10 rfl rfl (rS (by (unfold fD;(repeat' split) <;> first|rfl|(exfalso;omega)|(simp_all;done)))) (gu (by (unfold fD;(repeat' split) <;> first|rfl|(exfalso;omega)|(simp_all;done))))
  ·
    refine R.q (q.fI rfl rfl Tryz.underlying41 (by omega)) rfl<|R.nil ?_
    refine R.aI rfl rfl ?_
    refine R.reg rfl<|R.u 3 rfl<|R.nil ?_
    exact R.uC rfl Tryz.results10 rfl rfl (rS (by (unfold fD;(repeat' split) <;> first|rfl|(exfalso;omega)|(simp_all;done)))) (rE (by (unfold fD;(repeat' split) <;> first|rfl|(exfalso;omega)|(simp_all;done))))
theorem p7 (aD az aB aA:Value)(r:ay)(p:Place)(d:ByteArray)(w:World)(own:List Nat)(H:Wd w (blks []++own) ([]++[ah.held w own]) [ah.ls aD (r.ap:List ao),ah.ls az (r.Things:List ai),ah.ls aB (r.Held:List Held),ah.ls aA (r.Notes:List Note)] w)(hk:Ok r):Calls Tryz.prog 51 #[.agg #[aD,az,aB,aA,.int .i64 r.ae,.int .i64 r.af],.agg #[.int .i64 p.ag,.int .i64 p.Slot],.string d] w fun e w' => ∃z:Value×Value×Value×Value,e = .returned (.tuple #[.agg #[z.1,z.2.1,z.2.2.1,z.2.2.2,.int .i64 ((((bF r p d)).1).ae),.int .i64 ((((bF r p d)).1).af)],ek (((bF r p d)).2)])∧Wd w (blks []++own) ([]++[ah.held w own]) [ah.ls z.1 ((((bF r p d)).1).ap:List ao),ah.ls z.2.1 ((((bF r p d)).1).Things:List ai),ah.ls z.2.2.1 ((((bF r p d)).1).Held:List Held),ah.ls z.2.2.2 ((((bF r p d)).1).Notes:List Note)] w':=by
  have cw:=H.bS 0 rfl
  have bY:=H.bS 1 rfl
  have cI:=H.bS 2 rfl
  have cx:=H.bS 3 rfl
  have bw:=hk.wl;have bt:=hk.tl;have bh:=hk.hl;have bn:=hk.nl;have lS:=hk.w0;have lT:=hk.w1;have lU:=hk.t0;have lV:=hk.t1
  refine R.cC (n:=38) (vs:=[.agg #[aD,az,aB,aA,.int .i64 r.ae,.int .i64 r.af],.agg #[.int .i64 p.ag,.int .i64 p.Slot],.string d]) (B:=[ah.held w own]) [(0,.agg #[aD,az,aB,aA,.int .i64 r.ae,.int .i64 r.af]),(1,.agg #[.int .i64 p.ag,.int .i64 p.Slot]),(2,.string d)] Tryz.func51 rfl rfl rfl rfl H ?_
  refine R.reg rfl<|?_
  refine R.s rfl (s.box (cs:=[aD,az,aB,aA,.int .i64 r.ae,.int .i64 r.af]) rfl rfl rfl) fun b1=>?_
  refine R.s rfl (s.box (cs:=[.int .i64 p.ag,.int .i64 p.Slot]) rfl rfl rfl) fun b2=>?_
  refine R.s rfl (s.alloc (cs:=[.slice none 0 0,.slice none 0 0,.slice none 0 0,.slice none 0 0,.int .i64 0,.int .i64 0]) bR rfl rfl) fun b3=>?_
  refine R.u 1 rfl<|R.nil ?_
  refine R.reg rfl<|R.q (q.bI 2 rfl rfl au) rfl<|R.q (q.bI 1 rfl rfl aM) rfl<|R.c (q.call qM rfl rfl (fun w hw=>(kO _ _ _ _ (r) (p) (1) (2) w ((fun _=>Wd.aO 0 rfl) w hw) ((fun _=>Wd.aO 1 rfl) w hw) ((fun _=>Wd.aO 2 rfl) w hw) ((fun _=>Wd.aO 3 rfl) w hw) (by assumption) (by omega)))) rfl<|R.u 4 rfl<|?_
  refine R.s rfl (s.alloc (cs:=[.int .i64 0,.int .i64 0,.int .i64 0,.int .i64 0,.int .i64 0]) aY rfl rfl) fun b4=>?_
  refine R.s rfl (s.st (us:=[.int .i64 (((av r p 1 2).1).ID),.int .i64 (((av r p 1 2).1).ai),.int .i64 (((av r p 1 2).1).Rights),.int .i64 (((av r p 1 2).1).ar),.int .i64 (((av r p 1 2).1).From)]) (cs':=[.int .i64 (((av r p 1 2).1).ID),.int .i64 (((av r p 1 2).1).ai),.int .i64 (((av r p 1 2).1).Rights),.int .i64 (((av r p 1 2).1).ar),.int .i64 (((av r p 1 2).1).From)]) 0 _ rfl rfl rfl rfl (.inl aK) rfl rfl rfl rfl) fun _=>?_
  refine R.u 2 rfl<|R.nil ?_
  refine R.reg rfl<|R.u 1 rfl<|?_
  by_cases h1:(av r p 1 2).2.2=0
  ·
    obtain ⟨m1,m2,m3,i,ix,ik,ih,ii,id,ib⟩:=eS h1;have iB:=(List.getElem?_eq_some_iff.1 ih).1
    refine R.q (q.fH rfl rfl Tryz.underlying41 (by omega)) rfl<|R.nil ?_
    refine R.aH rfl rfl ?_
    refine R.reg rfl<|R.u 1 rfl<|R.q (q.pI rfl Tryz.underlying9) rfl<|?_
    by_cases h2:8<d.size
    ·
      refine R.q (q.gtr rfl rfl (decide_eq_true (by omega))) rfl<|R.nil ?_
      refine R.aI rfl rfl ?_
      refine R.reg rfl<|R.q (q.build (cs:=[.slice none 0 0,.slice none 0 0,.slice none 0 0,.slice none 0 0,.int .i64 0,.int .i64 0]) ck rfl rfl) rfl<|R.q (q.iface rfl da) rfl<|?_
      refine R.s rfl (s.st (us:=[.slice none 0 0,.slice none 0 0,.slice none 0 0,.slice none 0 0,.int .i64 0,.int .i64 0]) (cs':=[.slice none 0 0,.slice none 0 0,.slice none 0 0,.slice none 0 0,.int .i64 0,.int .i64 0]) 1 _ rfl rfl rfl rfl (.inl au) rfl rfl rfl rfl) fun _=>?_
      refine R.u 1 rfl<|R.nil ?_
      refine R.mp (fun _ hw=>hw.aN (α:=ao)) ?_
      refine R.mp (fun _ hw=>hw.aN (α:=ai)) ?_
      refine R.mp (fun _ hw=>hw.aN (α:=Held)) ?_
      refine R.mp (fun _ hw=>hw.aN (α:=Note)) ?_
      have hz:bF r p d=((⟨[],[],[],[],0,0⟩:ay),2):=by (unfold bF dU;(repeat' split) <;> first|rfl|(exfalso;omega)|(simp_all;done))
      rw [hz]
      exact R.w2 ((.slice none 0 0),(.slice none 0 0),(.slice none 0 0),(.slice none 0 0)) [4] [3,2,1,0] rfl Tryz.results51 (RV.cell 1 rfl rfl au) (RV.tmp rfl) rfl rfl rfl (cm rfl (e5 (by decide) rfl))
    ·
      refine R.q (q.gtr rfl rfl (decide_eq_false (by omega))) rfl<|R.nil ?_
      refine R.aH rfl rfl ?_
      refine R.reg rfl<|R.q (q.aS (off':=1) rfl bm rfl) rfl<|R.q (q.ld 3 rfl rfl bT rfl) rfl<|?_
      refine R.s (B':=(fun aL:Value=>[ah.row 74 aL (r.Things:List ai),ah.box b4 [.int .i64 (((av r p 1 2).1).ID),.int .i64 (((av r p 1 2).1).ai),.int .i64 (((av r p 1 2).1).Rights),.int .i64 (((av r p 1 2).1).ar),.int .i64 (((av r p 1 2).1).From)] 39,ah.box b3 [.slice none 0 0,.slice none 0 0,.slice none 0 0,.slice none 0 0,.int .i64 0,.int .i64 0] 30,ah.box b2 [.int .i64 p.ag,.int .i64 p.Slot] 33,ah.box b1 [aD,az,aB,aA,.int .i64 r.ae,.int .i64 r.af] 30,ah.held w own])) (F':=(fun aL:Value=>[ah.ls aD (r.ap:List ao),ah.ls az (r.Things:List ai),ah.ls aB (r.Held:List Held),ah.ls aA (r.Notes:List Note)])) rfl (s.bE (B0:=[]) (Br:=[ah.box b4 [.int .i64 (((av r p 1 2).1).ID),.int .i64 (((av r p 1 2).1).ai),.int .i64 (((av r p 1 2).1).Rights),.int .i64 (((av r p 1 2).1).ar),.int .i64 (((av r p 1 2).1).From)] 39,ah.box b3 [.slice none 0 0,.slice none 0 0,.slice none 0 0,.slice none 0 0,.int .i64 0,.int .i64 0] 30,ah.box b2 [.int .i64 p.ag,.int .i64 p.Slot] 33,ah.box b1 [aD,az,aB,aA,.int .i64 r.ae,.int .i64 r.af] 30,ah.held w own]) (F0:=[ah.ls az (r.Things:List ai)]) [0,1,2,3,4] [1] (fun aL:Value=>aL) (fun aL:Value=>[ah.row 74 aL (r.Things:List ai)]) (fun aL:Value=>[]) rfl rfl rfl oL rfl rfl (fun w own hw H=>eL az (r.Things) w own H (by first|omega|assumption|(simp;done)|(simp;omega))) rfl) fun z1=>?_
      refine R.q (q.aS (off':=1) rfl bm rfl) rfl<|?_
      refine R.s rfl (s.cS (us:=[z1]) (cs':=[aD,z1,aB,aA,.int .i64 r.ae,.int .i64 r.af]) 4 _ rfl rfl rfl (fun w hw=>Sl.bJ ((fun _=>Wd.row 0 rfl) w hw)) (.inr ⟨bT,rfl⟩) (fun w hw=>(aj (Sl.one ((fun _=>Wd.row 0 rfl) w hw)) aJ)) rfl rfl rfl) fun _=>?_
      refine R.nil ?_
      refine R.reg rfl<|R.q (q.aS (off':=1) rfl bm rfl) rfl<|R.q (q.ld 4 rfl rfl bT rfl) rfl<|R.u 2 rfl<|?_
      obtain ⟨x1,hx1⟩:∃z,r.Things[((av r p 1 2).2.1).toNat]? = some z:=⟨_,List.getElem?_eq_getElem (by omega)⟩
      refine R.q (q.idx (i:=((av r p 1 2).2.1).toNat) (fun _=>Wd.row 0 rfl) rfl rfl dJ (by omega) hx1) rfl<|R.q (q.eJ (j':=2) (fun _=>Wd.row 0 rfl) hx1 rfl jI rfl) rfl<|?_
      refine R.s rfl (s.stP (o:=2) (z:=(⟨x1.ID,x1.Kind,d⟩:ai)) (us:=[.string d]) 0 _ rfl hx1 rfl rfl rfl rfl rfl (by simp [Value.oneCell']) (.inr ⟨fQ,rfl⟩) rfl) fun _=>?_
      refine R.nil ?_
      refine R.reg rfl<|R.q (q.bI 4 rfl rfl au) rfl<|?_
      refine R.s rfl (s.cS (us:=[aD,z1,aB,aA,.int .i64 r.ae,.int .i64 r.af]) (cs':=[aD,z1,aB,aA,.int .i64 r.ae,.int .i64 r.af]) 2 _ rfl rfl rfl (fun _ _=>rfl) (.inl au) (fun w hw=>(aj (Sl.one ((fun _=>Wd.aO 0 rfl) w hw)) (aj (Sl.one ((fun _=>Wd.row 0 rfl) w hw)) (aj (Sl.one ((fun _=>Wd.aO 2 rfl) w hw)) (aj (Sl.one ((fun _=>Wd.aO 3 rfl) w hw)) (aj rfl (aj rfl aJ))))))) rfl rfl rfl) fun _=>?_
      refine R.u 1 rfl<|R.nil ?_
      refine R.mp (B':=[ah.box b4 [.int .i64 (((av r p 1 2).1).ID),.int .i64 (((av r p 1 2).1).ai),.int .i64 (((av r p 1 2).1).Rights),.int .i64 (((av r p 1 2).1).ar),.int .i64 (((av r p 1 2).1).From)] 39,ah.box b3 [aD,z1,aB,aA,.int .i64 r.ae,.int .i64 r.af] 30,ah.box b2 [.int .i64 p.ag,.int .i64 p.Slot] 33,ah.box b1 [aD,z1,aB,aA,.int .i64 r.ae,.int .i64 r.af] 30,ah.held w own]) (fun _ hw=>hw.aZ 0 _ rfl rfl) ?_
      have hz:bF r p d=((⟨r.ap,(r.Things.set (((av r p 1 2).2.1).toNat) (⟨x1.ID,x1.Kind,d⟩:ai)),r.Held,r.Notes,r.ae,r.af⟩:ay),0):=by (unfold bF dU;(repeat' split) <;> first|rfl|(exfalso;omega)|(simp_all;done))
      rw [hz]
      exact R.w2 (aD,z1,aB,aA) [4] [1,0,3,4] rfl Tryz.results51 (RV.cell 1 rfl rfl au) (RV.tmp rfl) rfl rfl rfl (cm rfl (gu rfl))
  ·
    refine R.q (q.fI rfl rfl Tryz.underlying41 (by omega)) rfl<|R.nil ?_
    refine R.aI rfl rfl ?_
    refine R.reg rfl<|R.q (q.build (cs:=[.slice none 0 0,.slice none 0 0,.slice none 0 0,.slice none 0 0,.int .i64 0,.int .i64 0]) ck rfl rfl) rfl<|R.u 1 rfl<|?_
    refine R.s rfl (s.st (us:=[.slice none 0 0,.slice none 0 0,.slice none 0 0,.slice none 0 0,.int .i64 0,.int .i64 0]) (cs':=[.slice none 0 0,.slice none 0 0,.slice none 0 0,.slice none 0 0,.int .i64 0,.int .i64 0]) 1 _ rfl rfl rfl rfl (.inl au) rfl rfl rfl rfl) fun _=>?_
    refine R.u 1 rfl<|R.nil ?_
    refine R.mp (fun _ hw=>hw.aN (α:=ao)) ?_
    refine R.mp (fun _ hw=>hw.aN (α:=ai)) ?_
    refine R.mp (fun _ hw=>hw.aN (α:=Held)) ?_
    refine R.mp (fun _ hw=>hw.aN (α:=Note)) ?_
    have hz:bF r p d=((⟨[],[],[],[],0,0⟩:ay),(av r p 1 2).2.2):=by (unfold bF dU;(repeat' split) <;> first|rfl|(exfalso;omega)|(simp_all;done))
    rw [hz]
    exact R.w2 ((.slice none 0 0),(.slice none 0 0),(.slice none 0 0),(.slice none 0 0)) [4] [3,2,1,0] rfl Tryz.results51 (RV.cell 1 rfl rfl au) (RV.tmp rfl) rfl rfl rfl (cm rfl rfl)
set_option maxRecDepth 100000 in
theorem rU (aD az aB aA:Value)(r:ay)(p:Place)(d:ByteArray)(slot:Int)(rights:Int)(w:World)(own:List Nat)(H:Wd w (blks []++own) ([]++[ah.held w own]) [ah.ls aD (r.ap:List ao),ah.ls az (r.Things:List ai),ah.ls aB (r.Held:List Held),ah.ls aA (r.Notes:List Note)] w)(hk:Ok r):Calls Tryz.prog 52 #[.agg #[aD,az,aB,aA,.int .i64 r.ae,.int .i64 r.af],.agg #[.int .i64 p.ag,.int .i64 p.Slot],.string d,.int .i64 slot,.int .i64 rights] w fun e w' => ∃z:Value×Value×Value×Value,e = .returned (.tuple #[.agg #[z.1,z.2.1,z.2.2.1,z.2.2.2,.int .i64 ((((bq r p d slot rights)).1).ae),.int .i64 ((((bq r p d slot rights)).1).af)],ek (((bq r p d slot rights)).2)])∧Wd w (blks []++own) ([]++[ah.held w own]) [ah.ls z.1 ((((bq r p d slot rights)).1).ap:List ao),ah.ls z.2.1 ((((bq r p d slot rights)).1).Things:List ai),ah.ls z.2.2.1 ((((bq r p d slot rights)).1).Held:List Held),ah.ls z.2.2.2 ((((bq r p d slot rights)).1).Notes:List Note)] w':=by
  have cw:=H.bS 0 rfl
  have bY:=H.bS 1 rfl
  have cI:=H.bS 2 rfl
  have cx:=H.bS 3 rfl
  have bw:=hk.wl;have bt:=hk.tl;have bh:=hk.hl;have bn:=hk.nl;have lS:=hk.w0;have lT:=hk.w1;have lU:=hk.t0;have lV:=hk.t1
  refine R.cC (n:=116) (vs:=[.agg #[aD,az,aB,aA,.int .i64 r.ae,.int .i64 r.af],.agg #[.int .i64 p.ag,.int .i64 p.Slot],.string d,.int .i64 slot,.int .i64 rights]) (B:=[ah.held w own]) [(0,.agg #[aD,az,aB,aA,.int .i64 r.ae,.int .i64 r.af]),(1,.agg #[.int .i64 p.ag,.int .i64 p.Slot]),(2,.string d),(3,.int .i64 slot),(4,.int .i64 rights)] Tryz.func52 rfl rfl rfl rfl H ?_
  refine R.reg rfl<|?_
  refine R.s rfl (s.box (cs:=[aD,az,aB,aA,.int .i64 r.ae,.int .i64 r.af]) rfl rfl rfl) fun b1=>?_
  refine R.s rfl (s.box (cs:=[.int .i64 p.ag,.int .i64 p.Slot]) rfl rfl rfl) fun b2=>?_
  refine R.s rfl (s.alloc (cs:=[.slice none 0 0,.slice none 0 0,.slice none 0 0,.slice none 0 0,.int .i64 0,.int .i64 0]) bR rfl rfl) fun b3=>?_
  refine R.u 1 rfl<|R.nil ?_
  refine R.reg rfl<|R.q (q.bI 2 rfl rfl au) rfl<|R.q (q.bI 1 rfl rfl aM) rfl<|R.c (q.call qM rfl rfl (fun w hw=>(kO _ _ _ _ (r) (p) (2) (2) w ((fun _=>Wd.aO 0 rfl) w hw) ((fun _=>Wd.aO 1 rfl) w hw) ((fun _=>Wd.aO 2 rfl) w hw) ((fun _=>Wd.aO 3 rfl) w hw) (by assumption) (by omega)))) rfl<|R.u 4 rfl<|?_
  refine R.s rfl (s.alloc (cs:=[.int .i64 0,.int .i64 0,.int .i64 0,.int .i64 0,.int .i64 0]) aY rfl rfl) fun b4=>?_
  refine R.s rfl (s.st (us:=[.int .i64 (((av r p 2 2).1).ID),.int .i64 (((av r p 2 2).1).ai),.int .i64 (((av r p 2 2).1).Rights),.int .i64 (((av r p 2 2).1).ar),.int .i64 (((av r p 2 2).1).From)]) (cs':=[.int .i64 (((av r p 2 2).1).ID),.int .i64 (((av r p 2 2).1).ai),.int .i64 (((av r p 2 2).1).Rights),.int .i64 (((av r p 2 2).1).ar),.int .i64 (((av r p 2 2).1).From)]) 0 _ rfl rfl rfl rfl (.inl aK) rfl rfl rfl rfl) fun _=>?_
  refine R.u 2 rfl<|R.nil ?_
  refine R.reg rfl<|R.u 1 rfl<|?_
  by_cases h1:(av r p 2 2).2.2=0
  ·
    have mz:=eS h1;have mr:=hk.get mz.1;rw [← mz.2.1] at mr
    refine R.q (q.fH rfl rfl Tryz.underlying41 (by omega)) rfl<|R.nil ?_
    refine R.aH rfl rfl ?_
    refine R.reg rfl<|R.u 1 rfl<|R.q (q.pI rfl Tryz.underlying9) rfl<|?_
    by_cases h2:8<d.size
    ·
      refine R.q (q.gtr rfl rfl (decide_eq_true (by omega))) rfl<|R.nil ?_
      refine R.aI rfl rfl ?_
      refine R.reg rfl<|R.q (q.build (cs:=[.slice none 0 0,.slice none 0 0,.slice none 0 0,.slice none 0 0,.int .i64 0,.int .i64 0]) ck rfl rfl) rfl<|R.q (q.iface rfl da) rfl<|?_
      refine R.s rfl (s.st (us:=[.slice none 0 0,.slice none 0 0,.slice none 0 0,.slice none 0 0,.int .i64 0,.int .i64 0]) (cs':=[.slice none 0 0,.slice none 0 0,.slice none 0 0,.slice none 0 0,.int .i64 0,.int .i64 0]) 1 _ rfl rfl rfl rfl (.inl au) rfl rfl rfl rfl) fun _=>?_
      refine R.u 1 rfl<|R.nil ?_
      refine R.mp (fun _ hw=>hw.aN (α:=ao)) ?_
      refine R.mp (fun _ hw=>hw.aN (α:=ai)) ?_
      refine R.mp (fun _ hw=>hw.aN (α:=Held)) ?_
      refine R.mp (fun _ hw=>hw.aN (α:=Note)) ?_
      have hz:bq r p d slot rights=((⟨[],[],[],[],0,0⟩:ay),2):=by (unfold bq;(repeat' split) <;> first|rfl|(exfalso;omega)|(simp_all;done))
      rw [hz]
      exact R.w2 ((.slice none 0 0),(.slice none 0 0),(.slice none 0 0),(.slice none 0 0)) [4] [3,2,1,0] rfl Tryz.results52 (RV.cell 1 rfl rfl au) (RV.tmp rfl) rfl rfl rfl (cm rfl (e5 (by decide) rfl))
    ·
      refine R.q (q.gtr rfl rfl (decide_eq_false (by omega))) rfl<|R.nil ?_
      refine R.aH rfl rfl ?_
      refine R.reg rfl<|R.u 1 rfl<|R.nil ?_
      refine R.reg rfl<|R.q (q.aS (off':=3) rfl aT rfl) rfl<|R.q (q.ld 3 rfl rfl a6 rfl) rfl<|R.q (q.len' (fun _=>Wd.aO 3 rfl) rfl Tryz.underlying28) rfl<|R.u 1 rfl<|R.nil ?_
      refine R.loop (fun g_:Nat×Nat=>[(2,.string d),(3,.int .i64 slot),(4,.int .i64 rights),(5,.pointer (some ⟨b1,0,none⟩)),(6,.pointer (some ⟨b2,0,none⟩)),(10,.pointer (some ⟨b3,0,none⟩)),(12,.pointer (some ⟨b4,0,none⟩)),(15,.int .i64 (g_.2:Int)),(39,aA),(40,.int .i64 (r.Notes.length:Int)),(41,.int .i64 (g_.1:Int))]) (fun g_:Nat×Nat=>[ah.box b4 [.int .i64 (((av r p 2 2).1).ID),.int .i64 (((av r p 2 2).1).ai),.int .i64 (((av r p 2 2).1).Rights),.int .i64 (((av r p 2 2).1).ar),.int .i64 (((av r p 2 2).1).From)] 39,ah.box b3 [.slice none 0 0,.slice none 0 0,.slice none 0 0,.slice none 0 0,.int .i64 0,.int .i64 0] 30,ah.box b2 [.int .i64 p.ag,.int .i64 p.Slot] 33,ah.box b1 [aD,az,aB,aA,.int .i64 r.ae,.int .i64 r.af] 30,ah.held w own]) (fun g_:Nat×Nat=>[ah.ls aD (r.ap:List ao),ah.ls az (r.Things:List ai),ah.ls aB (r.Held:List Held),ah.ls aA (r.Notes:List Note)]) (fun g_:Nat×Nat=>g_.1≤r.Notes.length∧g_.2=dN (r.Notes.take g_.1) (av r p 2 2).1.ai) (fun g_:Nat×Nat=>r.Notes.length-g_.1) (0,0) rfl (by exact ⟨by omega,by simp [dN]⟩) ⟨rfl,rfl,rfl,rfl,rfl,rfl,rfl,rfl,rfl,rfl,rfl,trivial⟩ (fun _=>Wd.pick [0,1,2,3,4] [0,1,2,3] rfl rfl rfl) ?_
      rintro ⟨k,c⟩ ⟨hk1,HC⟩
      dsimp only at *
      have hc1:c≤k:=by rw [HC];exact q8
      refine R.reg rfl<|?_
      by_cases h3:k<r.Notes.length
      ·
        refine R.q (q.lss rfl rfl (decide_eq_true (by omega))) rfl<|R.nil ?_
        refine R.aI rfl rfl ?_
        refine R.reg rfl<|?_
        obtain ⟨x1,hx1⟩:∃z,r.Notes[k]? = some z:=⟨_,List.getElem?_eq_getElem (by omega)⟩
        refine R.q (q.idx (i:=k) (fun _=>Wd.aO 3 rfl) rfl rfl cB rfl hx1) rfl<|R.q (q.dx (ds:=[.int .i64 x1.Port,.string x1.Data,.int .i64 x1.ar,.int .i64 x1.ao]) (fun _=>Wd.aO 3 rfl) hx1 rfl aX rfl) rfl<|?_
        refine R.s rfl (s.alloc (cs:=[.int .i64 0,.string (⟨#[]⟩),.int .i64 0,.int .i64 0]) cr rfl rfl) fun b5=>?_
        refine R.s rfl (s.st (us:=[.int .i64 x1.Port,.string x1.Data,.int .i64 x1.ar,.int .i64 x1.ao]) (cs':=[.int .i64 x1.Port,.string x1.Data,.int .i64 x1.ar,.int .i64 x1.ao]) 0 _ rfl rfl rfl rfl (.inl aX) rfl rfl rfl rfl) fun _=>?_
        refine R.nil ?_
        refine R.reg rfl<|R.q (q.aS (off':=0) rfl eQ rfl) rfl<|R.q (q.ld 0 rfl rfl aG rfl) rfl<|R.q (q.aS (off':=1) rfl cX rfl) rfl<|R.q (q.ld 1 rfl rfl aG rfl) rfl<|?_
        by_cases h4:x1.Port=((av r p 2 2).1).ai
        ·
          refine R.q (q.eql rfl rfl (beq_iff_eq.2 (by omega))) rfl<|R.nil ?_
          refine R.aI rfl rfl ?_
          refine R.reg rfl<|R.u 1 rfl<|R.q (q.add (r:=((c+1:Nat):Int)) rfl rfl (wr (by omega))) rfl<|R.u 1 rfl<|R.nil ?_
          refine R.reg rfl<|R.q (q.add (r:=((k+1:Nat):Int)) rfl rfl (wr (by omega))) rfl<|R.u 1 rfl<|R.nil ?_
          refine R.back ((k+1),(c+1)) rfl (by (exact ⟨by omega,by rw [pb hx1 (by assumption),HC]⟩)) (by dsimp only;omega) ⟨rfl,rfl,rfl,rfl,rfl,rfl,rfl,rfl,rfl,rfl,rfl,trivial⟩ (fun _=>Wd.aV [1,2,3,4,5] [0,1,2,3] rfl rfl rfl)
        ·
          refine R.q (q.eql rfl rfl (beq_eq_false_iff_ne.2 (by omega))) rfl<|R.nil ?_
          refine R.aH rfl rfl ?_
          refine R.reg rfl<|R.q (q.add (r:=((k+1:Nat):Int)) rfl rfl (wr (by omega))) rfl<|R.u 1 rfl<|R.nil ?_
          refine R.back ((k+1),c) rfl (by (exact ⟨by omega,by rw [nE hx1 (by assumption),HC]⟩)) (by dsimp only;omega) ⟨rfl,rfl,rfl,rfl,rfl,rfl,rfl,rfl,rfl,rfl,rfl,trivial⟩ (fun _=>Wd.aV [1,2,3,4,5] [0,1,2,3] rfl rfl rfl)
      ·
        refine R.q (q.lss rfl rfl (decide_eq_false (by omega))) rfl<|R.nil ?_
        refine R.aH rfl rfl ?_
        refine R.reg rfl<|R.u 1 rfl<|?_
        by_cases h5:c=3
        ·
          refine R.q (q.eql rfl rfl (beq_iff_eq.2 (by omega))) rfl<|R.nil ?_
          refine R.aI rfl rfl ?_
          refine R.reg rfl<|R.q (q.build (cs:=[.slice none 0 0,.slice none 0 0,.slice none 0 0,.slice none 0 0,.int .i64 0,.int .i64 0]) ck rfl rfl) rfl<|R.q (q.iface rfl da) rfl<|?_
          refine R.s rfl (s.st (us:=[.slice none 0 0,.slice none 0 0,.slice none 0 0,.slice none 0 0,.int .i64 0,.int .i64 0]) (cs':=[.slice none 0 0,.slice none 0 0,.slice none 0 0,.slice none 0 0,.int .i64 0,.int .i64 0]) 1 _ rfl rfl rfl rfl (.inl au) rfl rfl rfl rfl) fun _=>?_
          refine R.u 1 rfl<|R.nil ?_
          refine R.mp (fun _ hw=>hw.aN (α:=ao)) ?_
          refine R.mp (fun _ hw=>hw.aN (α:=ai)) ?_
          refine R.mp (fun _ hw=>hw.aN (α:=Held)) ?_
          refine R.mp (fun _ hw=>hw.aN (α:=Note)) ?_
          have hz:bq r p d slot rights=((⟨[],[],[],[],0,0⟩:ay),9):=by (rw [List.take_of_length_le (by omega)] at HC;subst HC;unfold bq;(repeat' split) <;> first|rfl|(exfalso;omega)|(simp_all;done))
          rw [hz]
          exact R.w2 ((.slice none 0 0),(.slice none 0 0),(.slice none 0 0),(.slice none 0 0)) [4] [3,2,1,0] rfl Tryz.results52 (RV.cell 1 rfl rfl au) (RV.tmp rfl) rfl rfl rfl (cm rfl (e5 (by decide) rfl))
        ·
          refine R.q (q.eql rfl rfl (beq_eq_false_iff_ne.2 (by omega))) rfl<|R.nil ?_
          refine R.aH rfl rfl ?_
          refine R.reg rfl<|R.q (q.aS (off':=1) rfl cX rfl) rfl<|R.q (q.ld 0 rfl rfl aG rfl) rfl<|R.u 1 rfl<|R.q (q.aS (off':=3) rfl d8 rfl) rfl<|R.q (q.ld 0 rfl rfl aG rfl) rfl<|R.q (q.build (cs:=[.int .i64 (((av r p 2 2).1).ai),.string d,.int .i64 (((av r p 2 2).1).ar),.int .i64 0]) ll rfl rfl) rfl<|?_
          refine R.s rfl (s.alloc (cs:=[.int .i64 0,.string (⟨#[]⟩),.int .i64 0,.int .i64 0]) cr rfl rfl) fun b6=>?_
          refine R.s rfl (s.st (us:=[.int .i64 (((av r p 2 2).1).ai),.string d,.int .i64 (((av r p 2 2).1).ar),.int .i64 0]) (cs':=[.int .i64 (((av r p 2 2).1).ai),.string d,.int .i64 (((av r p 2 2).1).ar),.int .i64 0]) 0 _ rfl rfl rfl rfl (.inl aX) rfl rfl rfl rfl) fun _=>?_
          refine R.nil ?_
          refine R.reg rfl<|R.u 1 rfl<|?_
          by_cases h6:slot<0
          ·
            refine R.q (q.geq rfl rfl (decide_eq_false (by omega))) rfl<|R.nil ?_
            refine R.aH rfl rfl ?_
            refine R.gD (fuel:=8) (Wd w (blks []++own) [ah.box b6 [.int .i64 (((av r p 2 2).1).ai),.string d,.int .i64 (((av r p 2 2).1).ar),.int .i64 0] 52,ah.box b4 [.int .i64 (((av r p 2 2).1).ID),.int .i64 (((av r p 2 2).1).ai),.int .i64 (((av r p 2 2).1).Rights),.int .i64 (((av r p 2 2).1).ar),.int .i64 (((av r p 2 2).1).From)] 39,ah.box b3 [.slice none 0 0,.slice none 0 0,.slice none 0 0,.slice none 0 0,.int .i64 0,.int .i64 0] 30,ah.box b2 [.int .i64 p.ag,.int .i64 p.Slot] 33,ah.held w own] [ah.ls aD (r.ap:List ao),ah.ls az (r.Things:List ai),ah.ls aB (r.Held:List Held),ah.ls aA (r.Notes:List Note)]) rfl mixed rfl ?_
            refine D.q (i:=0) rfl (by kernel_rfl) (fun _=>Wd.aV [0,1,2,3,5] [0,1,2,3] rfl rfl rfl) rfl (q.aS (off':=3) rfl aT rfl) rfl<|D.q (i:=3) rfl (by kernel_rfl) (fun _=>Wd.aV [0,1,2,3,5] [0,1,2,3] rfl rfl rfl) rfl (q.bI 0 rfl rfl aX) rfl<|?_
            refine D.two (i:=1) (j:=4) (by kernel_rfl) rfl rfl ?_ ?_
            ·
              refine Do.s (s.c (Qt.a (q.ld 4 rfl rfl a6 rfl)) rfl) (fun _=>(fun _=>Wd.aV [0,1,2,3,5] [0,1,2,3] rfl rfl rfl)) rfl fun _=>?_
              refine D.two (i:=2) (j:=4) (by kernel_rfl) rfl rfl ?_ ?_
              ·
                refine Do.s (B':=(fun aL:Value=>[ah.row 52 aL (r.Notes:List Note),ah.box b6 [.int .i64 (((av r p 2 2).1).ai),.string d,.int .i64 (((av r p 2 2).1).ar),.int .i64 0] 52,ah.box b4 [.int .i64 (((av r p 2 2).1).ID),.int .i64 (((av r p 2 2).1).ai),.int .i64 (((av r p 2 2).1).Rights),.int .i64 (((av r p 2 2).1).ar),.int .i64 (((av r p 2 2).1).From)] 39,ah.box b3 [.slice none 0 0,.slice none 0 0,.slice none 0 0,.slice none 0 0,.int .i64 0,.int .i64 0] 30,ah.box b2 [.int .i64 p.ag,.int .i64 p.Slot] 33,ah.box b1 [aD,az,aB,aA,.int .i64 r.ae,.int .i64 r.af] 30,ah.held w own])) (F':=(fun aL:Value=>[ah.ls aD (r.ap:List ao),ah.ls az (r.Things:List ai),ah.ls aB (r.Held:List Held),ah.ls aA (r.Notes:List Note)])) (s.bE (B0:=[]) (Br:=[ah.box b6 [.int .i64 (((av r p 2 2).1).ai),.string d,.int .i64 (((av r p 2 2).1).ar),.int .i64 0] 52,ah.box b4 [.int .i64 (((av r p 2 2).1).ID),.int .i64 (((av r p 2 2).1).ai),.int .i64 (((av r p 2 2).1).Rights),.int .i64 (((av r p 2 2).1).ar),.int .i64 (((av r p 2 2).1).From)] 39,ah.box b3 [.slice none 0 0,.slice none 0 0,.slice none 0 0,.slice none 0 0,.int .i64 0,.int .i64 0] 30,ah.box b2 [.int .i64 p.ag,.int .i64 p.Slot] 33,ah.box b1 [aD,az,aB,aA,.int .i64 r.ae,.int .i64 r.af] 30,ah.held w own]) (F0:=[ah.ls aA (r.Notes:List Note)]) [0,1,2,3,4,5] [3] (fun aL:Value=>aL) (fun aL:Value=>[ah.row 52 aL (r.Notes:List Note)]) (fun aL:Value=>[]) rfl rfl rfl kH rfl rfl (fun w own hw H=>dH aA (r.Notes) w own H (by first|omega|assumption|(simp;done)|(simp;omega))) rfl) (fun _=>(fun _=>Wd.aV [1,2,3,4,6] [0,1,2,3] rfl rfl rfl)) rfl fun z2=>?_
                refine D.one (i:=4) (by kernel_rfl) rfl ?_
                refine Do.s (s.bs (l:=([(⟨((av r p 2 2).1).ai,d,((av r p 2 2).1).ar,0⟩:Note)]:List Note)) cB cr rfl rfl rfl rfl rfl rfl rfl) (fun _=>(fun _=>Wd.aV [2,3,4,5,7] [0,1,2,3] rfl rfl rfl)) rfl fun b7=>?_
                refine D.one (i:=5) (by kernel_rfl) rfl ?_
                refine Do.s (s.app (l2:=[(⟨((av r p 2 2).1).ai,d,((av r p 2 2).1).ar,0⟩:Note)]) 1 _ rfl rfl rfl (fun _=>Wd.row 0 rfl) cU (by first|omega|(simp;omega)) (by first|omega|(simp;omega)) (fun _=>rfl) rfl) (fun _=>(fun _=>Wd.aV [2,3,4,5,7] [0,1,2,3] rfl rfl rfl)) rfl fun v1=>?_
                refine D.q (i:=6) rfl (by kernel_rfl) (fun _=>Wd.aV [2,3,4,5,7] [0,1,2,3] rfl rfl rfl) rfl (q.aS (off':=3) rfl aT rfl) rfl<|?_
                refine D.one (i:=7) (by kernel_rfl) rfl ?_
                refine Do.s (s.cS (us:=[v1]) (cs':=[aD,az,aB,v1,.int .i64 r.ae,.int .i64 r.af]) 6 _ rfl rfl rfl (fun w hw=>Sl.bJ ((fun _=>Wd.row 1 rfl) w hw)) (.inr ⟨a6,rfl⟩) (fun w hw=>(aj (Sl.one ((fun _=>Wd.row 1 rfl) w hw)) aJ)) rfl rfl rfl) (fun _=>(fun _=>Wd.aV [2,3,4,5,7] [0,1,2,3] rfl rfl rfl)) rfl fun _=>?_
                refine D.done (by kernel_rfl)<|?_
                refine R.reg rfl<|R.q (q.bI 6 rfl rfl au) rfl<|?_
                refine R.s rfl (s.cS (us:=[aD,az,aB,v1,.int .i64 r.ae,.int .i64 r.af]) (cs':=[aD,az,aB,v1,.int .i64 r.ae,.int .i64 r.af]) 4 _ rfl rfl rfl (fun _ _=>rfl) (.inl au) (fun w hw=>(aj (Sl.one ((fun _=>Wd.aO 0 rfl) w hw)) (aj (Sl.one ((fun _=>Wd.aO 1 rfl) w hw)) (aj (Sl.one ((fun _=>Wd.aO 2 rfl) w hw)) (aj (Sl.one ((fun _=>Wd.row 1 rfl) w hw)) (aj rfl (aj rfl aJ))))))) rfl rfl rfl) fun _=>?_
                refine R.u 1 rfl<|R.nil ?_
                refine R.mp (B':=[ah.row 52 (.slice (some ⟨b7,0,none⟩) 1 1) ([(⟨((av r p 2 2).1).ai,d,((av r p 2 2).1).ar,0⟩:Note)]:List Note),ah.box b6 [.int .i64 (((av r p 2 2).1).ai),.string d,.int .i64 (((av r p 2 2).1).ar),.int .i64 0] 52,ah.box b4 [.int .i64 (((av r p 2 2).1).ID),.int .i64 (((av r p 2 2).1).ai),.int .i64 (((av r p 2 2).1).Rights),.int .i64 (((av r p 2 2).1).ar),.int .i64 (((av r p 2 2).1).From)] 39,ah.box b3 [aD,az,aB,v1,.int .i64 r.ae,.int .i64 r.af] 30,ah.box b2 [.int .i64 p.ag,.int .i64 p.Slot] 33,ah.box b1 [aD,az,aB,v1,.int .i64 r.ae,.int .i64 r.af] 30,ah.held w own]) (fun _ hw=>hw.aZ 1 _ rfl rfl) ?_
                have hz:bq r p d slot rights=((⟨r.ap,r.Things,r.Held,(r.Notes++([(⟨((av r p 2 2).1).ai,d,((av r p 2 2).1).ar,0⟩:Note)])),r.ae,r.af⟩:ay),0):=by (rw [List.take_of_length_le (by omega)] at HC;subst HC;unfold bq;(repeat' split) <;> first|rfl|(exfalso;omega)|(simp_all;done))
                rw [hz]
                exact R.w2 (aD,az,aB,v1) [6] [1,2,3,0] rfl Tryz.results52 (RV.cell 3 rfl rfl au) (RV.tmp rfl) rfl rfl rfl (cm rfl (gu rfl))
              ·
                refine Do.s (s.bs (l:=([(⟨((av r p 2 2).1).ai,d,((av r p 2 2).1).ar,0⟩:Note)]:List Note)) cB cr rfl rfl rfl rfl rfl rfl rfl) (fun _=>(fun _=>Wd.aV [1,2,3,4,6] [0,1,2,3] rfl rfl rfl)) rfl fun b8=>?_
                refine D.one (i:=2) (by kernel_rfl) rfl ?_
                refine Do.s (B':=(fun aL:Value=>[ah.row 52 aL (r.Notes:List Note),ah.row 52 (.slice (some ⟨b8,0,none⟩) 1 1) ([(⟨((av r p 2 2).1).ai,d,((av r p 2 2).1).ar,0⟩:Note)]:List Note),ah.box b6 [.int .i64 (((av r p 2 2).1).ai),.string d,.int .i64 (((av r p 2 2).1).ar),.int .i64 0] 52,ah.box b4 [.int .i64 (((av r p 2 2).1).ID),.int .i64 (((av r p 2 2).1).ai),.int .i64 (((av r p 2 2).1).Rights),.int .i64 (((av r p 2 2).1).ar),.int .i64 (((av r p 2 2).1).From)] 39,ah.box b3 [.slice none 0 0,.slice none 0 0,.slice none 0 0,.slice none 0 0,.int .i64 0,.int .i64 0] 30,ah.box b2 [.int .i64 p.ag,.int .i64 p.Slot] 33,ah.box b1 [aD,az,aB,aA,.int .i64 r.ae,.int .i64 r.af] 30,ah.held w own])) (F':=(fun aL:Value=>[ah.ls aD (r.ap:List ao),ah.ls az (r.Things:List ai),ah.ls aB (r.Held:List Held),ah.ls aA (r.Notes:List Note)])) (s.bE (B0:=[]) (Br:=[ah.row 52 (.slice (some ⟨b8,0,none⟩) 1 1) ([(⟨((av r p 2 2).1).ai,d,((av r p 2 2).1).ar,0⟩:Note)]:List Note),ah.box b6 [.int .i64 (((av r p 2 2).1).ai),.string d,.int .i64 (((av r p 2 2).1).ar),.int .i64 0] 52,ah.box b4 [.int .i64 (((av r p 2 2).1).ID),.int .i64 (((av r p 2 2).1).ai),.int .i64 (((av r p 2 2).1).Rights),.int .i64 (((av r p 2 2).1).ar),.int .i64 (((av r p 2 2).1).From)] 39,ah.box b3 [.slice none 0 0,.slice none 0 0,.slice none 0 0,.slice none 0 0,.int .i64 0,.int .i64 0] 30,ah.box b2 [.int .i64 p.ag,.int .i64 p.Slot] 33,ah.box b1 [aD,az,aB,aA,.int .i64 r.ae,.int .i64 r.af] 30,ah.held w own]) (F0:=[ah.ls aA (r.Notes:List Note)]) [0,1,2,3,4,5,6] [3] (fun aL:Value=>aL) (fun aL:Value=>[ah.row 52 aL (r.Notes:List Note)]) (fun aL:Value=>[]) rfl rfl rfl kH rfl rfl (fun w own hw H=>dH aA (r.Notes) w own H (by first|omega|assumption|(simp;done)|(simp;omega))) rfl) (fun _=>(fun _=>Wd.aV [2,3,4,5,7] [0,1,2,3] rfl rfl rfl)) rfl fun z3=>?_
                refine D.one (i:=5) (by kernel_rfl) rfl ?_
                refine Do.s (s.app (l2:=[(⟨((av r p 2 2).1).ai,d,((av r p 2 2).1).ar,0⟩:Note)]) 0 _ rfl rfl rfl (fun _=>Wd.row 1 rfl) cU (by first|omega|(simp;omega)) (by first|omega|(simp;omega)) (fun _=>rfl) rfl) (fun _=>(fun _=>Wd.aV [2,3,4,5,7] [0,1,2,3] rfl rfl rfl)) rfl fun v2=>?_
                refine D.q (i:=6) rfl (by kernel_rfl) (fun _=>Wd.aV [2,3,4,5,7] [0,1,2,3] rfl rfl rfl) rfl (q.aS (off':=3) rfl aT rfl) rfl<|?_
                refine D.one (i:=7) (by kernel_rfl) rfl ?_
                refine Do.s (s.cS (us:=[v2]) (cs':=[aD,az,aB,v2,.int .i64 r.ae,.int .i64 r.af]) 6 _ rfl rfl rfl (fun w hw=>Sl.bJ ((fun _=>Wd.row 0 rfl) w hw)) (.inr ⟨a6,rfl⟩) (fun w hw=>(aj (Sl.one ((fun _=>Wd.row 0 rfl) w hw)) aJ)) rfl rfl rfl) (fun _=>(fun _=>Wd.aV [2,3,4,5,7] [0,1,2,3] rfl rfl rfl)) rfl fun _=>?_
                refine D.done (by kernel_rfl)<|?_
                refine R.reg rfl<|R.q (q.bI 6 rfl rfl au) rfl<|?_
                refine R.s rfl (s.cS (us:=[aD,az,aB,v2,.int .i64 r.ae,.int .i64 r.af]) (cs':=[aD,az,aB,v2,.int .i64 r.ae,.int .i64 r.af]) 4 _ rfl rfl rfl (fun _ _=>rfl) (.inl au) (fun w hw=>(aj (Sl.one ((fun _=>Wd.aO 0 rfl) w hw)) (aj (Sl.one ((fun _=>Wd.aO 1 rfl) w hw)) (aj (Sl.one ((fun _=>Wd.aO 2 rfl) w hw)) (aj (Sl.one ((fun _=>Wd.row 0 rfl) w hw)) (aj rfl (aj rfl aJ))))))) rfl rfl rfl) fun _=>?_
                refine R.u 1 rfl<|R.nil ?_
                refine R.mp (B':=[ah.row 52 (.slice (some ⟨b8,0,none⟩) 1 1) ([(⟨((av r p 2 2).1).ai,d,((av r p 2 2).1).ar,0⟩:Note)]:List Note),ah.box b6 [.int .i64 (((av r p 2 2).1).ai),.string d,.int .i64 (((av r p 2 2).1).ar),.int .i64 0] 52,ah.box b4 [.int .i64 (((av r p 2 2).1).ID),.int .i64 (((av r p 2 2).1).ai),.int .i64 (((av r p 2 2).1).Rights),.int .i64 (((av r p 2 2).1).ar),.int .i64 (((av r p 2 2).1).From)] 39,ah.box b3 [aD,az,aB,v2,.int .i64 r.ae,.int .i64 r.af] 30,ah.box b2 [.int .i64 p.ag,.int .i64 p.Slot] 33,ah.box b1 [aD,az,aB,v2,.int .i64 r.ae,.int .i64 r.af] 30,ah.held w own]) (fun _ hw=>hw.aZ 0 _ rfl rfl) ?_
                have hz:bq r p d slot rights=((⟨r.ap,r.Things,r.Held,(r.Notes++([(⟨((av r p 2 2).1).ai,d,((av r p 2 2).1).ar,0⟩:Note)])),r.ae,r.af⟩:ay),0):=by (rw [List.take_of_length_le (by omega)] at HC;subst HC;unfold bq;(repeat' split) <;> first|rfl|(exfalso;omega)|(simp_all;done))
                rw [hz]
                exact R.w2 (aD,az,aB,v2) [6] [1,2,3,0] rfl Tryz.results52 (RV.cell 3 rfl rfl au) (RV.tmp rfl) rfl rfl rfl (cm rfl (gu rfl))
            ·
              refine Do.s (s.bs (l:=([(⟨((av r p 2 2).1).ai,d,((av r p 2 2).1).ar,0⟩:Note)]:List Note)) cB cr rfl rfl rfl rfl rfl rfl rfl) (fun _=>(fun _=>Wd.aV [1,2,3,4,6] [0,1,2,3] rfl rfl rfl)) rfl fun b9=>?_
              refine D.one (i:=1) (by kernel_rfl) rfl ?_
              refine Do.s (s.c (Qt.a (q.ld 5 rfl rfl a6 rfl)) rfl) (fun _=>(fun _=>Wd.aV [1,2,3,4,6] [0,1,2,3] rfl rfl rfl)) rfl fun _=>?_
              refine D.one (i:=2) (by kernel_rfl) rfl ?_
              refine Do.s (B':=(fun aL:Value=>[ah.row 52 aL (r.Notes:List Note),ah.row 52 (.slice (some ⟨b9,0,none⟩) 1 1) ([(⟨((av r p 2 2).1).ai,d,((av r p 2 2).1).ar,0⟩:Note)]:List Note),ah.box b6 [.int .i64 (((av r p 2 2).1).ai),.string d,.int .i64 (((av r p 2 2).1).ar),.int .i64 0] 52,ah.box b4 [.int .i64 (((av r p 2 2).1).ID),.int .i64 (((av r p 2 2).1).ai),.int .i64 (((av r p 2 2).1).Rights),.int .i64 (((av r p 2 2).1).ar),.int .i64 (((av r p 2 2).1).From)] 39,ah.box b3 [.slice none 0 0,.slice none 0 0,.slice none 0 0,.slice none 0 0,.int .i64 0,.int .i64 0] 30,ah.box b2 [.int .i64 p.ag,.int .i64 p.Slot] 33,ah.box b1 [aD,az,aB,aA,.int .i64 r.ae,.int .i64 r.af] 30,ah.held w own])) (F':=(fun aL:Value=>[ah.ls aD (r.ap:List ao),ah.ls az (r.Things:List ai),ah.ls aB (r.Held:List Held),ah.ls aA (r.Notes:List Note)])) (s.bE (B0:=[]) (Br:=[ah.row 52 (.slice (some ⟨b9,0,none⟩) 1 1) ([(⟨((av r p 2 2).1).ai,d,((av r p 2 2).1).ar,0⟩:Note)]:List Note),ah.box b6 [.int .i64 (((av r p 2 2).1).ai),.string d,.int .i64 (((av r p 2 2).1).ar),.int .i64 0] 52,ah.box b4 [.int .i64 (((av r p 2 2).1).ID),.int .i64 (((av r p 2 2).1).ai),.int .i64 (((av r p 2 2).1).Rights),.int .i64 (((av r p 2 2).1).ar),.int .i64 (((av r p 2 2).1).From)] 39,ah.box b3 [.slice none 0 0,.slice none 0 0,.slice none 0 0,.slice none 0 0,.int .i64 0,.int .i64 0] 30,ah.box b2 [.int .i64 p.ag,.int .i64 p.Slot] 33,ah.box b1 [aD,az,aB,aA,.int .i64 r.ae,.int .i64 r.af] 30,ah.held w own]) (F0:=[ah.ls aA (r.Notes:List Note)]) [0,1,2,3,4,5,6] [3] (fun aL:Value=>aL) (fun aL:Value=>[ah.row 52 aL (r.Notes:List Note)]) (fun aL:Value=>[]) rfl rfl rfl kH rfl rfl (fun w own hw H=>dH aA (r.Notes) w own H (by first|omega|assumption|(simp;done)|(simp;omega))) rfl) (fun _=>(fun _=>Wd.aV [2,3,4,5,7] [0,1,2,3] rfl rfl rfl)) rfl fun z4=>?_
              refine D.one (i:=5) (by kernel_rfl) rfl ?_
              refine Do.s (s.app (l2:=[(⟨((av r p 2 2).1).ai,d,((av r p 2 2).1).ar,0⟩:Note)]) 0 _ rfl rfl rfl (fun _=>Wd.row 1 rfl) cU (by first|omega|(simp;omega)) (by first|omega|(simp;omega)) (fun _=>rfl) rfl) (fun _=>(fun _=>Wd.aV [2,3,4,5,7] [0,1,2,3] rfl rfl rfl)) rfl fun v3=>?_
              refine D.q (i:=6) rfl (by kernel_rfl) (fun _=>Wd.aV [2,3,4,5,7] [0,1,2,3] rfl rfl rfl) rfl (q.aS (off':=3) rfl aT rfl) rfl<|?_
              refine D.one (i:=7) (by kernel_rfl) rfl ?_
              refine Do.s (s.cS (us:=[v3]) (cs':=[aD,az,aB,v3,.int .i64 r.ae,.int .i64 r.af]) 6 _ rfl rfl rfl (fun w hw=>Sl.bJ ((fun _=>Wd.row 0 rfl) w hw)) (.inr ⟨a6,rfl⟩) (fun w hw=>(aj (Sl.one ((fun _=>Wd.row 0 rfl) w hw)) aJ)) rfl rfl rfl) (fun _=>(fun _=>Wd.aV [2,3,4,5,7] [0,1,2,3] rfl rfl rfl)) rfl fun _=>?_
              refine D.done (by kernel_rfl)<|?_
              refine R.reg rfl<|R.q (q.bI 6 rfl rfl au) rfl<|?_
              refine R.s rfl (s.cS (us:=[aD,az,aB,v3,.int .i64 r.ae,.int .i64 r.af]) (cs':=[aD,az,aB,v3,.int .i64 r.ae,.int .i64 r.af]) 4 _ rfl rfl rfl (fun _ _=>rfl) (.inl au) (fun w hw=>(aj (Sl.one ((fun _=>Wd.aO 0 rfl) w hw)) (aj (Sl.one ((fun _=>Wd.aO 1 rfl) w hw)) (aj (Sl.one ((fun _=>Wd.aO 2 rfl) w hw)) (aj (Sl.one ((fun _=>Wd.row 0 rfl) w hw)) (aj rfl (aj rfl aJ))))))) rfl rfl rfl) fun _=>?_
              refine R.u 1 rfl<|R.nil ?_
              refine R.mp (B':=[ah.row 52 (.slice (some ⟨b9,0,none⟩) 1 1) ([(⟨((av r p 2 2).1).ai,d,((av r p 2 2).1).ar,0⟩:Note)]:List Note),ah.box b6 [.int .i64 (((av r p 2 2).1).ai),.string d,.int .i64 (((av r p 2 2).1).ar),.int .i64 0] 52,ah.box b4 [.int .i64 (((av r p 2 2).1).ID),.int .i64 (((av r p 2 2).1).ai),.int .i64 (((av r p 2 2).1).Rights),.int .i64 (((av r p 2 2).1).ar),.int .i64 (((av r p 2 2).1).From)] 39,ah.box b3 [aD,az,aB,v3,.int .i64 r.ae,.int .i64 r.af] 30,ah.box b2 [.int .i64 p.ag,.int .i64 p.Slot] 33,ah.box b1 [aD,az,aB,v3,.int .i64 r.ae,.int .i64 r.af] 30,ah.held w own]) (fun _ hw=>hw.aZ 0 _ rfl rfl) ?_
              have hz:bq r p d slot rights=((⟨r.ap,r.Things,r.Held,(r.Notes++([(⟨((av r p 2 2).1).ai,d,((av r p 2 2).1).ar,0⟩:Note)])),r.ae,r.af⟩:ay),0):=by (rw [List.take_of_length_le (by omega)] at HC;subst HC;unfold bq;(repeat' split) <;> first|rfl|(exfalso;omega)|(simp_all;done))
              rw [hz]
              exact R.w2 (aD,az,aB,v3) [6] [1,2,3,0] rfl Tryz.results52 (RV.cell 3 rfl rfl au) (RV.tmp rfl) rfl rfl rfl (cm rfl (gu rfl))
          ·
            refine R.q (q.geq rfl rfl (decide_eq_true (by omega))) rfl<|R.nil ?_
            refine R.aI rfl rfl ?_
            refine R.reg rfl<|R.q (q.aS (off':=2) rfl eP rfl) rfl<|R.q (q.ld 1 rfl rfl aG rfl) rfl<|?_
            rcases Bool.eq_false_or_eq_true (cT (((av r p 2 2).1).Rights) 4) with h7|h7
            ·
              refine R.c (q.call lp rfl rfl (fun w hw=>(cv (congrArg Value.bool h7) (eh (((av r p 2 2).1).Rights) (4) w  (by omega) (by omega))))) rfl<|R.u 1 rfl<|R.nil ?_
              refine R.aH rfl rfl ?_
              refine R.reg rfl<|R.q (q.bI 4 rfl rfl au) rfl<|R.q (q.aS (off':=0) rfl bZ rfl) rfl<|R.q (q.ld 3 rfl rfl aG rfl) rfl<|R.u 1 rfl<|R.q (q.build (cs:=[.int .i64 p.ag,.int .i64 slot]) jt rfl rfl) rfl<|R.c (q.call oJ rfl rfl (fun w hw=>(ig _ _ _ _ (r) ((⟨p.ag,slot⟩:Place)) w ((fun _=>Wd.aO 0 rfl) w hw) ((fun _=>Wd.aO 1 rfl) w hw) ((fun _=>Wd.aO 2 rfl) w hw) ((fun _=>Wd.aO 3 rfl) w hw) (by assumption)))) rfl<|R.u 3 rfl<|?_
              refine R.s rfl (s.alloc (cs:=[.int .i64 0,.int .i64 0,.int .i64 0,.int .i64 0,.int .i64 0]) aY rfl rfl) fun b10=>?_
              refine R.s rfl (s.st (us:=[.int .i64 (((ak r (⟨p.ag,slot⟩:Place)).1).ID),.int .i64 (((ak r (⟨p.ag,slot⟩:Place)).1).ai),.int .i64 (((ak r (⟨p.ag,slot⟩:Place)).1).Rights),.int .i64 (((ak r (⟨p.ag,slot⟩:Place)).1).ar),.int .i64 (((ak r (⟨p.ag,slot⟩:Place)).1).From)]) (cs':=[.int .i64 (((ak r (⟨p.ag,slot⟩:Place)).1).ID),.int .i64 (((ak r (⟨p.ag,slot⟩:Place)).1).ai),.int .i64 (((ak r (⟨p.ag,slot⟩:Place)).1).Rights),.int .i64 (((ak r (⟨p.ag,slot⟩:Place)).1).ar),.int .i64 (((ak r (⟨p.ag,slot⟩:Place)).1).From)]) 0 _ rfl rfl rfl rfl (.inl aK) rfl rfl rfl rfl) fun _=>?_
              refine R.u 1 rfl<|R.nil ?_
              refine R.reg rfl<|R.u 1 rfl<|?_
              by_cases h8:(ak r (⟨p.ag,slot⟩:Place)).2=0
              ·
                have zP:=hk.get h8
                have hn0:∀x,(aW r x ⟨0,0⟩).Notes.length≤2000:=fun x=>hk.nl
                have hnz:=hn0 (derived (ak r ⟨p.ag,slot⟩).1 r.ae rights 0).1
                refine R.q (q.fH rfl rfl Tryz.underlying41 (by omega)) rfl<|R.nil ?_
                refine R.aH rfl rfl ?_
                refine R.reg rfl<|R.q (q.aS (off':=4) rfl bU rfl) rfl<|R.q (q.ld 5 rfl rfl aG rfl) rfl<|?_
                by_cases h9:999<r.ae
                ·
                  refine R.q (q.gtr rfl rfl (decide_eq_true (by omega))) rfl<|R.nil ?_
                  refine R.aI rfl rfl ?_
                  refine R.reg rfl<|R.q (q.build (cs:=[.slice none 0 0,.slice none 0 0,.slice none 0 0,.slice none 0 0,.int .i64 0,.int .i64 0]) ck rfl rfl) rfl<|R.q (q.iface rfl da) rfl<|?_
                  refine R.s rfl (s.st (us:=[.slice none 0 0,.slice none 0 0,.slice none 0 0,.slice none 0 0,.int .i64 0,.int .i64 0]) (cs':=[.slice none 0 0,.slice none 0 0,.slice none 0 0,.slice none 0 0,.int .i64 0,.int .i64 0]) 3 _ rfl rfl rfl rfl (.inl au) rfl rfl rfl rfl) fun _=>?_
                  refine R.u 1 rfl<|R.nil ?_
                  refine R.mp (fun _ hw=>hw.aN (α:=ao)) ?_
                  refine R.mp (fun _ hw=>hw.aN (α:=ai)) ?_
                  refine R.mp (fun _ hw=>hw.aN (α:=Held)) ?_
                  refine R.mp (fun _ hw=>hw.aN (α:=Note)) ?_
                  have hz:bq r p d slot rights=((⟨[],[],[],[],0,0⟩:ay),9):=by (rw [List.take_of_length_le (by omega)] at HC;subst HC;unfold bq;(repeat' split) <;> first|rfl|(exfalso;omega)|(simp_all;done))
                  rw [hz]
                  exact R.w2 ((.slice none 0 0),(.slice none 0 0),(.slice none 0 0),(.slice none 0 0)) [6] [3,2,1,0] rfl Tryz.results52 (RV.cell 3 rfl rfl au) (RV.tmp rfl) rfl rfl rfl (cm rfl (e5 (by decide) rfl))
                ·
                  refine R.q (q.gtr rfl rfl (decide_eq_false (by omega))) rfl<|R.nil ?_
                  refine R.aH rfl rfl ?_
                  refine R.reg rfl<|R.q (q.bI 0 rfl rfl aK) rfl<|R.q (q.aS (off':=4) rfl bU rfl) rfl<|R.q (q.ld 5 rfl rfl aG rfl) rfl<|R.u 1 rfl<|R.c (q.call sJ rfl rfl (fun w hw=>(j6 (((ak r (⟨p.ag,slot⟩:Place)).1)) (r.ae) (rights) (0) w  (by omega)))) rfl<|R.u 3 rfl<|?_
                  refine R.s rfl (s.alloc (cs:=[.int .i64 0,.int .i64 0,.int .i64 0,.int .i64 0,.int .i64 0]) aY rfl rfl) fun b11=>?_
                  refine R.s rfl (s.st (us:=[.int .i64 (((derived ((ak r (⟨p.ag,slot⟩:Place)).1) r.ae rights 0).1).ID),.int .i64 (((derived ((ak r (⟨p.ag,slot⟩:Place)).1) r.ae rights 0).1).ai),.int .i64 (((derived ((ak r (⟨p.ag,slot⟩:Place)).1) r.ae rights 0).1).Rights),.int .i64 (((derived ((ak r (⟨p.ag,slot⟩:Place)).1) r.ae rights 0).1).ar),.int .i64 (((derived ((ak r (⟨p.ag,slot⟩:Place)).1) r.ae rights 0).1).From)]) (cs':=[.int .i64 (((derived ((ak r (⟨p.ag,slot⟩:Place)).1) r.ae rights 0).1).ID),.int .i64 (((derived ((ak r (⟨p.ag,slot⟩:Place)).1) r.ae rights 0).1).ai),.int .i64 (((derived ((ak r (⟨p.ag,slot⟩:Place)).1) r.ae rights 0).1).Rights),.int .i64 (((derived ((ak r (⟨p.ag,slot⟩:Place)).1) r.ae rights 0).1).ar),.int .i64 (((derived ((ak r (⟨p.ag,slot⟩:Place)).1) r.ae rights 0).1).From)]) 0 _ rfl rfl rfl rfl (.inl aK) rfl rfl rfl rfl) fun _=>?_
                  refine R.u 1 rfl<|R.nil ?_
                  refine R.reg rfl<|R.u 1 rfl<|?_
                  by_cases h10:(derived ((ak r (⟨p.ag,slot⟩:Place)).1) r.ae rights 0).2=0
                  ·
                    refine R.q (q.fH rfl rfl Tryz.underlying41 (by omega)) rfl<|R.nil ?_
                    refine R.aH rfl rfl ?_
                    refine R.reg rfl<|R.q (q.bI 6 rfl rfl au) rfl<|R.q (q.bI 0 rfl rfl aK) rfl<|R.q (q.build (cs:=[.int .i64 0,.int .i64 0]) jt rfl rfl) rfl<|?_
                    refine R.s (B':=(fun g_:Value×Value×Value×Value=>[ah.box b11 [.int .i64 (((derived ((ak r (⟨p.ag,slot⟩:Place)).1) r.ae rights 0).1).ID),.int .i64 (((derived ((ak r (⟨p.ag,slot⟩:Place)).1) r.ae rights 0).1).ai),.int .i64 (((derived ((ak r (⟨p.ag,slot⟩:Place)).1) r.ae rights 0).1).Rights),.int .i64 (((derived ((ak r (⟨p.ag,slot⟩:Place)).1) r.ae rights 0).1).ar),.int .i64 (((derived ((ak r (⟨p.ag,slot⟩:Place)).1) r.ae rights 0).1).From)] 39,ah.box b10 [.int .i64 (((ak r (⟨p.ag,slot⟩:Place)).1).ID),.int .i64 (((ak r (⟨p.ag,slot⟩:Place)).1).ai),.int .i64 (((ak r (⟨p.ag,slot⟩:Place)).1).Rights),.int .i64 (((ak r (⟨p.ag,slot⟩:Place)).1).ar),.int .i64 (((ak r (⟨p.ag,slot⟩:Place)).1).From)] 39,ah.box b6 [.int .i64 (((av r p 2 2).1).ai),.string d,.int .i64 (((av r p 2 2).1).ar),.int .i64 0] 52,ah.box b4 [.int .i64 (((av r p 2 2).1).ID),.int .i64 (((av r p 2 2).1).ai),.int .i64 (((av r p 2 2).1).Rights),.int .i64 (((av r p 2 2).1).ar),.int .i64 (((av r p 2 2).1).From)] 39,ah.box b3 [.slice none 0 0,.slice none 0 0,.slice none 0 0,.slice none 0 0,.int .i64 0,.int .i64 0] 30,ah.box b2 [.int .i64 p.ag,.int .i64 p.Slot] 33,ah.box b1 [aD,az,aB,aA,.int .i64 r.ae,.int .i64 r.af] 30,ah.held w own])) (F':=(fun g_:Value×Value×Value×Value=>[ah.ls g_.1 (((aW r ((derived ((ak r (⟨p.ag,slot⟩:Place)).1) r.ae rights 0).1) (⟨0,0⟩:Place))).ap:List ao),ah.ls g_.2.1 (((aW r ((derived ((ak r (⟨p.ag,slot⟩:Place)).1) r.ae rights 0).1) (⟨0,0⟩:Place))).Things:List ai),ah.ls g_.2.2.1 (((aW r ((derived ((ak r (⟨p.ag,slot⟩:Place)).1) r.ae rights 0).1) (⟨0,0⟩:Place))).Held:List Held),ah.ls g_.2.2.2 (((aW r ((derived ((ak r (⟨p.ag,slot⟩:Place)).1) r.ae rights 0).1) (⟨0,0⟩:Place))).Notes:List Note),ah.ls aD (r.ap:List ao),ah.ls az (r.Things:List ai),ah.ls aB (r.Held:List Held),ah.ls aA (r.Notes:List Note)])) rfl (s.bE (B0:=[]) (Br:=[ah.box b11 [.int .i64 (((derived ((ak r (⟨p.ag,slot⟩:Place)).1) r.ae rights 0).1).ID),.int .i64 (((derived ((ak r (⟨p.ag,slot⟩:Place)).1) r.ae rights 0).1).ai),.int .i64 (((derived ((ak r (⟨p.ag,slot⟩:Place)).1) r.ae rights 0).1).Rights),.int .i64 (((derived ((ak r (⟨p.ag,slot⟩:Place)).1) r.ae rights 0).1).ar),.int .i64 (((derived ((ak r (⟨p.ag,slot⟩:Place)).1) r.ae rights 0).1).From)] 39,ah.box b10 [.int .i64 (((ak r (⟨p.ag,slot⟩:Place)).1).ID),.int .i64 (((ak r (⟨p.ag,slot⟩:Place)).1).ai),.int .i64 (((ak r (⟨p.ag,slot⟩:Place)).1).Rights),.int .i64 (((ak r (⟨p.ag,slot⟩:Place)).1).ar),.int .i64 (((ak r (⟨p.ag,slot⟩:Place)).1).From)] 39,ah.box b6 [.int .i64 (((av r p 2 2).1).ai),.string d,.int .i64 (((av r p 2 2).1).ar),.int .i64 0] 52,ah.box b4 [.int .i64 (((av r p 2 2).1).ID),.int .i64 (((av r p 2 2).1).ai),.int .i64 (((av r p 2 2).1).Rights),.int .i64 (((av r p 2 2).1).ar),.int .i64 (((av r p 2 2).1).From)] 39,ah.box b3 [.slice none 0 0,.slice none 0 0,.slice none 0 0,.slice none 0 0,.int .i64 0,.int .i64 0] 30,ah.box b2 [.int .i64 p.ag,.int .i64 p.Slot] 33,ah.box b1 [aD,az,aB,aA,.int .i64 r.ae,.int .i64 r.af] 30,ah.held w own]) (F0:=[ah.ls aD (r.ap:List ao),ah.ls az (r.Things:List ai),ah.ls aB (r.Held:List Held),ah.ls aA (r.Notes:List Note)]) [0,1,2,3,4,5,6,7] [0,1,2,3] (fun g_:Value×Value×Value×Value => .agg #[g_.1,g_.2.1,g_.2.2.1,g_.2.2.2,.int .i64 (((aW r ((derived ((ak r (⟨p.ag,slot⟩:Place)).1) r.ae rights 0).1) (⟨0,0⟩:Place))).ae),.int .i64 (((aW r ((derived ((ak r (⟨p.ag,slot⟩:Place)).1) r.ae rights 0).1) (⟨0,0⟩:Place))).af)]) (fun g_:Value×Value×Value×Value=>[]) (fun g_:Value×Value×Value×Value=>[ah.ls g_.1 (((aW r ((derived ((ak r (⟨p.ag,slot⟩:Place)).1) r.ae rights 0).1) (⟨0,0⟩:Place))).ap:List ao),ah.ls g_.2.1 (((aW r ((derived ((ak r (⟨p.ag,slot⟩:Place)).1) r.ae rights 0).1) (⟨0,0⟩:Place))).Things:List ai),ah.ls g_.2.2.1 (((aW r ((derived ((ak r (⟨p.ag,slot⟩:Place)).1) r.ae rights 0).1) (⟨0,0⟩:Place))).Held:List Held),ah.ls g_.2.2.2 (((aW r ((derived ((ak r (⟨p.ag,slot⟩:Place)).1) r.ae rights 0).1) (⟨0,0⟩:Place))).Notes:List Note)]) rfl rfl rfl oM rfl rfl (fun w own hw H=>jC aD az aB aA (r) (((derived ((ak r (⟨p.ag,slot⟩:Place)).1) r.ae rights 0).1)) ((⟨0,0⟩:Place)) w own H (by first|omega|(dsimp only;omega))) rfl) ?_
                    rintro ⟨z5,z6,z7,z8⟩
                    dsimp only
                    refine R.s rfl (s.cS (us:=[z5,z6,z7,z8,.int .i64 ((aW r ((derived ((ak r (⟨p.ag,slot⟩:Place)).1) r.ae rights 0).1) (⟨0,0⟩:Place)).ae),.int .i64 ((aW r ((derived ((ak r (⟨p.ag,slot⟩:Place)).1) r.ae rights 0).1) (⟨0,0⟩:Place)).af)]) (cs':=[z5,z6,z7,z8,.int .i64 ((aW r ((derived ((ak r (⟨p.ag,slot⟩:Place)).1) r.ae rights 0).1) (⟨0,0⟩:Place)).ae),.int .i64 ((aW r ((derived ((ak r (⟨p.ag,slot⟩:Place)).1) r.ae rights 0).1) (⟨0,0⟩:Place)).af)]) 6 _ rfl rfl rfl (fun _ _=>rfl) (.inl au) (fun w hw=>(aj (Sl.one ((fun _=>Wd.aO 0 rfl) w hw)) (aj (Sl.one ((fun _=>Wd.aO 1 rfl) w hw)) (aj (Sl.one ((fun _=>Wd.aO 2 rfl) w hw)) (aj (Sl.one ((fun _=>Wd.aO 3 rfl) w hw)) (aj rfl (aj rfl aJ))))))) rfl rfl rfl) fun _=>?_
                    refine R.nil ?_
                    refine R.reg rfl<|R.q (q.aS (off':=0) rfl bK rfl) rfl<|R.q (q.ld 0 rfl rfl aG rfl) rfl<|R.q (q.aS (off':=3) rfl cR rfl) rfl<|?_
                    refine R.s rfl (s.st (us:=[.int .i64 (((derived ((ak r (⟨p.ag,slot⟩:Place)).1) r.ae rights 0).1).ID)]) (cs':=[.int .i64 (((av r p 2 2).1).ai),.string d,.int .i64 (((av r p 2 2).1).ar),.int .i64 (((derived ((ak r (⟨p.ag,slot⟩:Place)).1) r.ae rights 0).1).ID)]) 2 _ rfl rfl rfl rfl (.inr ⟨aG,rfl⟩) rfl rfl rfl rfl) fun _=>?_
                    refine R.nil ?_
                    refine R.gD (fuel:=8) (Wd w (blks []++own) [ah.box b11 [.int .i64 (((derived ((ak r (⟨p.ag,slot⟩:Place)).1) r.ae rights 0).1).ID),.int .i64 (((derived ((ak r (⟨p.ag,slot⟩:Place)).1) r.ae rights 0).1).ai),.int .i64 (((derived ((ak r (⟨p.ag,slot⟩:Place)).1) r.ae rights 0).1).Rights),.int .i64 (((derived ((ak r (⟨p.ag,slot⟩:Place)).1) r.ae rights 0).1).ar),.int .i64 (((derived ((ak r (⟨p.ag,slot⟩:Place)).1) r.ae rights 0).1).From)] 39,ah.box b10 [.int .i64 (((ak r (⟨p.ag,slot⟩:Place)).1).ID),.int .i64 (((ak r (⟨p.ag,slot⟩:Place)).1).ai),.int .i64 (((ak r (⟨p.ag,slot⟩:Place)).1).Rights),.int .i64 (((ak r (⟨p.ag,slot⟩:Place)).1).ar),.int .i64 (((ak r (⟨p.ag,slot⟩:Place)).1).From)] 39,ah.box b6 [.int .i64 (((av r p 2 2).1).ai),.string d,.int .i64 (((av r p 2 2).1).ar),.int .i64 (((derived ((ak r (⟨p.ag,slot⟩:Place)).1) r.ae rights 0).1).ID)] 52,ah.box b4 [.int .i64 (((av r p 2 2).1).ID),.int .i64 (((av r p 2 2).1).ai),.int .i64 (((av r p 2 2).1).Rights),.int .i64 (((av r p 2 2).1).ar),.int .i64 (((av r p 2 2).1).From)] 39,ah.box b3 [.slice none 0 0,.slice none 0 0,.slice none 0 0,.slice none 0 0,.int .i64 0,.int .i64 0] 30,ah.box b2 [.int .i64 p.ag,.int .i64 p.Slot] 33,ah.held w own] [ah.ls z5 ((aW r ((derived ((ak r (⟨p.ag,slot⟩:Place)).1) r.ae rights 0).1) (⟨0,0⟩:Place)).ap:List ao),ah.ls z6 ((aW r ((derived ((ak r (⟨p.ag,slot⟩:Place)).1) r.ae rights 0).1) (⟨0,0⟩:Place)).Things:List ai),ah.ls z7 ((aW r ((derived ((ak r (⟨p.ag,slot⟩:Place)).1) r.ae rights 0).1) (⟨0,0⟩:Place)).Held:List Held),ah.ls z8 ((aW r ((derived ((ak r (⟨p.ag,slot⟩:Place)).1) r.ae rights 0).1) (⟨0,0⟩:Place)).Notes:List Note),ah.ls aD (r.ap:List ao),ah.ls az (r.Things:List ai),ah.ls aB (r.Held:List Held),ah.ls aA (r.Notes:List Note)]) rfl mixed rfl ?_
                    refine D.q (i:=0) rfl (by kernel_rfl) (fun _=>Wd.aV [0,1,2,3,4,5,7] [0,1,2,3,4,5,6,7] rfl rfl rfl) rfl (q.aS (off':=3) rfl aT rfl) rfl<|D.q (i:=3) rfl (by kernel_rfl) (fun _=>Wd.aV [0,1,2,3,4,5,7] [0,1,2,3,4,5,6,7] rfl rfl rfl) rfl (q.bI 2 rfl rfl aX) rfl<|?_
                    refine D.two (i:=1) (j:=4) (by kernel_rfl) rfl rfl ?_ ?_
                    ·
                      refine Do.s (s.c (Qt.a (q.ld 6 rfl rfl a6 rfl)) rfl) (fun _=>(fun _=>Wd.aV [0,1,2,3,4,5,7] [0,1,2,3,4,5,6,7] rfl rfl rfl)) rfl fun _=>?_
                      refine D.two (i:=2) (j:=4) (by kernel_rfl) rfl rfl ?_ ?_
                      ·
                        refine Do.s (B':=(fun aL:Value=>[ah.row 52 aL (((aW r ((derived ((ak r (⟨p.ag,slot⟩:Place)).1) r.ae rights 0).1) (⟨0,0⟩:Place)).Notes):List Note),ah.box b11 [.int .i64 (((derived ((ak r (⟨p.ag,slot⟩:Place)).1) r.ae rights 0).1).ID),.int .i64 (((derived ((ak r (⟨p.ag,slot⟩:Place)).1) r.ae rights 0).1).ai),.int .i64 (((derived ((ak r (⟨p.ag,slot⟩:Place)).1) r.ae rights 0).1).Rights),.int .i64 (((derived ((ak r (⟨p.ag,slot⟩:Place)).1) r.ae rights 0).1).ar),.int .i64 (((derived ((ak r (⟨p.ag,slot⟩:Place)).1) r.ae rights 0).1).From)] 39,ah.box b10 [.int .i64 (((ak r (⟨p.ag,slot⟩:Place)).1).ID),.int .i64 (((ak r (⟨p.ag,slot⟩:Place)).1).ai),.int .i64 (((ak r (⟨p.ag,slot⟩:Place)).1).Rights),.int .i64 (((ak r (⟨p.ag,slot⟩:Place)).1).ar),.int .i64 (((ak r (⟨p.ag,slot⟩:Place)).1).From)] 39,ah.box b6 [.int .i64 (((av r p 2 2).1).ai),.string d,.int .i64 (((av r p 2 2).1).ar),.int .i64 (((derived ((ak r (⟨p.ag,slot⟩:Place)).1) r.ae rights 0).1).ID)] 52,ah.box b4 [.int .i64 (((av r p 2 2).1).ID),.int .i64 (((av r p 2 2).1).ai),.int .i64 (((av r p 2 2).1).Rights),.int .i64 (((av r p 2 2).1).ar),.int .i64 (((av r p 2 2).1).From)] 39,ah.box b3 [.slice none 0 0,.slice none 0 0,.slice none 0 0,.slice none 0 0,.int .i64 0,.int .i64 0] 30,ah.box b2 [.int .i64 p.ag,.int .i64 p.Slot] 33,ah.box b1 [z5,z6,z7,z8,.int .i64 ((aW r ((derived ((ak r (⟨p.ag,slot⟩:Place)).1) r.ae rights 0).1) (⟨0,0⟩:Place)).ae),.int .i64 ((aW r ((derived ((ak r (⟨p.ag,slot⟩:Place)).1) r.ae rights 0).1) (⟨0,0⟩:Place)).af)] 30,ah.held w own])) (F':=(fun aL:Value=>[ah.ls z5 ((aW r ((derived ((ak r (⟨p.ag,slot⟩:Place)).1) r.ae rights 0).1) (⟨0,0⟩:Place)).ap:List ao),ah.ls z6 ((aW r ((derived ((ak r (⟨p.ag,slot⟩:Place)).1) r.ae rights 0).1) (⟨0,0⟩:Place)).Things:List ai),ah.ls z7 ((aW r ((derived ((ak r (⟨p.ag,slot⟩:Place)).1) r.ae rights 0).1) (⟨0,0⟩:Place)).Held:List Held),ah.ls z8 ((aW r ((derived ((ak r (⟨p.ag,slot⟩:Place)).1) r.ae rights 0).1) (⟨0,0⟩:Place)).Notes:List Note),ah.ls aD (r.ap:List ao),ah.ls az (r.Things:List ai),ah.ls aB (r.Held:List Held),ah.ls aA (r.Notes:List Note)])) (s.bE (B0:=[]) (Br:=[ah.box b11 [.int .i64 (((derived ((ak r (⟨p.ag,slot⟩:Place)).1) r.ae rights 0).1).ID),.int .i64 (((derived ((ak r (⟨p.ag,slot⟩:Place)).1) r.ae rights 0).1).ai),.int .i64 (((derived ((ak r (⟨p.ag,slot⟩:Place)).1) r.ae rights 0).1).Rights),.int .i64 (((derived ((ak r (⟨p.ag,slot⟩:Place)).1) r.ae rights 0).1).ar),.int .i64 (((derived ((ak r (⟨p.ag,slot⟩:Place)).1) r.ae rights 0).1).From)] 39,ah.box b10 [.int .i64 (((ak r (⟨p.ag,slot⟩:Place)).1).ID),.int .i64 (((ak r (⟨p.ag,slot⟩:Place)).1).ai),.int .i64 (((ak r (⟨p.ag,slot⟩:Place)).1).Rights),.int .i64 (((ak r (⟨p.ag,slot⟩:Place)).1).ar),.int .i64 (((ak r (⟨p.ag,slot⟩:Place)).1).From)] 39,ah.box b6 [.int .i64 (((av r p 2 2).1).ai),.string d,.int .i64 (((av r p 2 2).1).ar),.int .i64 (((derived ((ak r (⟨p.ag,slot⟩:Place)).1) r.ae rights 0).1).ID)] 52,ah.box b4 [.int .i64 (((av r p 2 2).1).ID),.int .i64 (((av r p 2 2).1).ai),.int .i64 (((av r p 2 2).1).Rights),.int .i64 (((av r p 2 2).1).ar),.int .i64 (((av r p 2 2).1).From)] 39,ah.box b3 [.slice none 0 0,.slice none 0 0,.slice none 0 0,.slice none 0 0,.int .i64 0,.int .i64 0] 30,ah.box b2 [.int .i64 p.ag,.int .i64 p.Slot] 33,ah.box b1 [z5,z6,z7,z8,.int .i64 ((aW r ((derived ((ak r (⟨p.ag,slot⟩:Place)).1) r.ae rights 0).1) (⟨0,0⟩:Place)).ae),.int .i64 ((aW r ((derived ((ak r (⟨p.ag,slot⟩:Place)).1) r.ae rights 0).1) (⟨0,0⟩:Place)).af)] 30,ah.held w own]) (F0:=[ah.ls z8 ((aW r ((derived ((ak r (⟨p.ag,slot⟩:Place)).1) r.ae rights 0).1) (⟨0,0⟩:Place)).Notes:List Note)]) [0,1,2,3,4,5,6,7] [3] (fun aL:Value=>aL) (fun aL:Value=>[ah.row 52 aL (((aW r ((derived ((ak r (⟨p.ag,slot⟩:Place)).1) r.ae rights 0).1) (⟨0,0⟩:Place)).Notes):List Note)]) (fun aL:Value=>[]) rfl rfl rfl kH rfl rfl (fun w own hw H=>dH z8 ((aW r ((derived ((ak r (⟨p.ag,slot⟩:Place)).1) r.ae rights 0).1) (⟨0,0⟩:Place)).Notes) w own H (by first|omega|assumption|(simp;done)|(simp;omega))) rfl) (fun _=>(fun _=>Wd.aV [1,2,3,4,5,6,8] [0,1,2,3,4,5,6,7] rfl rfl rfl)) rfl fun eY=>?_
                        refine D.one (i:=4) (by kernel_rfl) rfl ?_
                        refine Do.s (s.bs (l:=([(⟨((av r p 2 2).1).ai,d,((av r p 2 2).1).ar,((derived ((ak r (⟨p.ag,slot⟩:Place)).1) r.ae rights 0).1).ID⟩:Note)]:List Note)) cB cr rfl rfl rfl rfl rfl rfl rfl) (fun _=>(fun _=>Wd.aV [2,3,4,5,6,7,9] [0,1,2,3,4,5,6,7] rfl rfl rfl)) rfl fun b12=>?_
                        refine D.one (i:=5) (by kernel_rfl) rfl ?_
                        refine Do.s (s.app (l2:=[(⟨((av r p 2 2).1).ai,d,((av r p 2 2).1).ar,((derived ((ak r (⟨p.ag,slot⟩:Place)).1) r.ae rights 0).1).ID⟩:Note)]) 1 _ rfl rfl rfl (fun _=>Wd.row 0 rfl) cU (by first|omega|(simp;omega)) (by first|omega|(simp;omega)) (fun _=>rfl) rfl) (fun _=>(fun _=>Wd.aV [2,3,4,5,6,7,9] [0,1,2,3,4,5,6,7] rfl rfl rfl)) rfl fun v4=>?_
                        refine D.q (i:=6) rfl (by kernel_rfl) (fun _=>Wd.aV [2,3,4,5,6,7,9] [0,1,2,3,4,5,6,7] rfl rfl rfl) rfl (q.aS (off':=3) rfl aT rfl) rfl<|?_
                        refine D.one (i:=7) (by kernel_rfl) rfl ?_
                        refine Do.s (s.cS (us:=[v4]) (cs':=[z5,z6,z7,v4,.int .i64 ((aW r ((derived ((ak r (⟨p.ag,slot⟩:Place)).1) r.ae rights 0).1) (⟨0,0⟩:Place)).ae),.int .i64 ((aW r ((derived ((ak r (⟨p.ag,slot⟩:Place)).1) r.ae rights 0).1) (⟨0,0⟩:Place)).af)]) 8 _ rfl rfl rfl (fun w hw=>Sl.bJ ((fun _=>Wd.row 1 rfl) w hw)) (.inr ⟨a6,rfl⟩) (fun w hw=>(aj (Sl.one ((fun _=>Wd.row 1 rfl) w hw)) aJ)) rfl rfl rfl) (fun _=>(fun _=>Wd.aV [2,3,4,5,6,7,9] [0,1,2,3,4,5,6,7] rfl rfl rfl)) rfl fun _=>?_
                        refine D.done (by kernel_rfl)<|?_
                        refine R.reg rfl<|R.q (q.bI 8 rfl rfl au) rfl<|?_
                        refine R.s rfl (s.cS (us:=[z5,z6,z7,v4,.int .i64 ((aW r ((derived ((ak r (⟨p.ag,slot⟩:Place)).1) r.ae rights 0).1) (⟨0,0⟩:Place)).ae),.int .i64 ((aW r ((derived ((ak r (⟨p.ag,slot⟩:Place)).1) r.ae rights 0).1) (⟨0,0⟩:Place)).af)]) (cs':=[z5,z6,z7,v4,.int .i64 ((aW r ((derived ((ak r (⟨p.ag,slot⟩:Place)).1) r.ae rights 0).1) (⟨0,0⟩:Place)).ae),.int .i64 ((aW r ((derived ((ak r (⟨p.ag,slot⟩:Place)).1) r.ae rights 0).1) (⟨0,0⟩:Place)).af)]) 6 _ rfl rfl rfl (fun _ _=>rfl) (.inl au) (fun w hw=>(aj (Sl.one ((fun _=>Wd.aO 0 rfl) w hw)) (aj (Sl.one ((fun _=>Wd.aO 1 rfl) w hw)) (aj (Sl.one ((fun _=>Wd.aO 2 rfl) w hw)) (aj (Sl.one ((fun _=>Wd.row 1 rfl) w hw)) (aj rfl (aj rfl aJ))))))) rfl rfl rfl) fun _=>?_
                        refine R.u 1 rfl<|R.nil ?_
                        refine R.mp (B':=[ah.row 52 (.slice (some ⟨b12,0,none⟩) 1 1) ([(⟨((av r p 2 2).1).ai,d,((av r p 2 2).1).ar,((derived ((ak r (⟨p.ag,slot⟩:Place)).1) r.ae rights 0).1).ID⟩:Note)]:List Note),ah.box b11 [.int .i64 (((derived ((ak r (⟨p.ag,slot⟩:Place)).1) r.ae rights 0).1).ID),.int .i64 (((derived ((ak r (⟨p.ag,slot⟩:Place)).1) r.ae rights 0).1).ai),.int .i64 (((derived ((ak r (⟨p.ag,slot⟩:Place)).1) r.ae rights 0).1).Rights),.int .i64 (((derived ((ak r (⟨p.ag,slot⟩:Place)).1) r.ae rights 0).1).ar),.int .i64 (((derived ((ak r (⟨p.ag,slot⟩:Place)).1) r.ae rights 0).1).From)] 39,ah.box b10 [.int .i64 (((ak r (⟨p.ag,slot⟩:Place)).1).ID),.int .i64 (((ak r (⟨p.ag,slot⟩:Place)).1).ai),.int .i64 (((ak r (⟨p.ag,slot⟩:Place)).1).Rights),.int .i64 (((ak r (⟨p.ag,slot⟩:Place)).1).ar),.int .i64 (((ak r (⟨p.ag,slot⟩:Place)).1).From)] 39,ah.box b6 [.int .i64 (((av r p 2 2).1).ai),.string d,.int .i64 (((av r p 2 2).1).ar),.int .i64 (((derived ((ak r (⟨p.ag,slot⟩:Place)).1) r.ae rights 0).1).ID)] 52,ah.box b4 [.int .i64 (((av r p 2 2).1).ID),.int .i64 (((av r p 2 2).1).ai),.int .i64 (((av r p 2 2).1).Rights),.int .i64 (((av r p 2 2).1).ar),.int .i64 (((av r p 2 2).1).From)] 39,ah.box b3 [z5,z6,z7,v4,.int .i64 ((aW r ((derived ((ak r (⟨p.ag,slot⟩:Place)).1) r.ae rights 0).1) (⟨0,0⟩:Place)).ae),.int .i64 ((aW r ((derived ((ak r (⟨p.ag,slot⟩:Place)).1) r.ae rights 0).1) (⟨0,0⟩:Place)).af)] 30,ah.box b2 [.int .i64 p.ag,.int .i64 p.Slot] 33,ah.box b1 [z5,z6,z7,v4,.int .i64 ((aW r ((derived ((ak r (⟨p.ag,slot⟩:Place)).1) r.ae rights 0).1) (⟨0,0⟩:Place)).ae),.int .i64 ((aW r ((derived ((ak r (⟨p.ag,slot⟩:Place)).1) r.ae rights 0).1) (⟨0,0⟩:Place)).af)] 30,ah.held w own]) (fun _ hw=>hw.aZ 1 _ rfl rfl) ?_
                        have hz:bq r p d slot rights=((⟨(aW r ((derived ((ak r (⟨p.ag,slot⟩:Place)).1) r.ae rights 0).1) (⟨0,0⟩:Place)).ap,(aW r ((derived ((ak r (⟨p.ag,slot⟩:Place)).1) r.ae rights 0).1) (⟨0,0⟩:Place)).Things,(aW r ((derived ((ak r (⟨p.ag,slot⟩:Place)).1) r.ae rights 0).1) (⟨0,0⟩:Place)).Held,(((aW r ((derived ((ak r (⟨p.ag,slot⟩:Place)).1) r.ae rights 0).1) (⟨0,0⟩:Place)).Notes)++([(⟨((av r p 2 2).1).ai,d,((av r p 2 2).1).ar,((derived ((ak r (⟨p.ag,slot⟩:Place)).1) r.ae rights 0).1).ID⟩:Note)])),(aW r ((derived ((ak r (⟨p.ag,slot⟩:Place)).1) r.ae rights 0).1) (⟨0,0⟩:Place)).ae,(aW r ((derived ((ak r (⟨p.ag,slot⟩:Place)).1) r.ae rights 0).1) (⟨0,0⟩:Place)).af⟩:ay),0):=by (rw [List.take_of_length_le (by omega)] at HC;subst HC;unfold bq;(repeat' split) <;> first|rfl|(exfalso;omega)|(simp_all;done))
                        rw [hz]
                        exact R.w2 (z5,z6,z7,v4) [8] [1,2,3,0] rfl Tryz.results52 (RV.cell 5 rfl rfl au) (RV.tmp rfl) rfl rfl rfl (cm rfl (gu rfl))
                      ·
                        refine Do.s (s.bs (l:=([(⟨((av r p 2 2).1).ai,d,((av r p 2 2).1).ar,((derived ((ak r (⟨p.ag,slot⟩:Place)).1) r.ae rights 0).1).ID⟩:Note)]:List Note)) cB cr rfl rfl rfl rfl rfl rfl rfl) (fun _=>(fun _=>Wd.aV [1,2,3,4,5,6,8] [0,1,2,3,4,5,6,7] rfl rfl rfl)) rfl fun b13=>?_
                        refine D.one (i:=2) (by kernel_rfl) rfl ?_
                        refine Do.s (B':=(fun aL:Value=>[ah.row 52 aL (((aW r ((derived ((ak r (⟨p.ag,slot⟩:Place)).1) r.ae rights 0).1) (⟨0,0⟩:Place)).Notes):List Note),ah.row 52 (.slice (some ⟨b13,0,none⟩) 1 1) ([(⟨((av r p 2 2).1).ai,d,((av r p 2 2).1).ar,((derived ((ak r (⟨p.ag,slot⟩:Place)).1) r.ae rights 0).1).ID⟩:Note)]:List Note),ah.box b11 [.int .i64 (((derived ((ak r (⟨p.ag,slot⟩:Place)).1) r.ae rights 0).1).ID),.int .i64 (((derived ((ak r (⟨p.ag,slot⟩:Place)).1) r.ae rights 0).1).ai),.int .i64 (((derived ((ak r (⟨p.ag,slot⟩:Place)).1) r.ae rights 0).1).Rights),.int .i64 (((derived ((ak r (⟨p.ag,slot⟩:Place)).1) r.ae rights 0).1).ar),.int .i64 (((derived ((ak r (⟨p.ag,slot⟩:Place)).1) r.ae rights 0).1).From)] 39,ah.box b10 [.int .i64 (((ak r (⟨p.ag,slot⟩:Place)).1).ID),.int .i64 (((ak r (⟨p.ag,slot⟩:Place)).1).ai),.int .i64 (((ak r (⟨p.ag,slot⟩:Place)).1).Rights),.int .i64 (((ak r (⟨p.ag,slot⟩:Place)).1).ar),.int .i64 (((ak r (⟨p.ag,slot⟩:Place)).1).From)] 39,ah.box b6 [.int .i64 (((av r p 2 2).1).ai),.string d,.int .i64 (((av r p 2 2).1).ar),.int .i64 (((derived ((ak r (⟨p.ag,slot⟩:Place)).1) r.ae rights 0).1).ID)] 52,ah.box b4 [.int .i64 (((av r p 2 2).1).ID),.int .i64 (((av r p 2 2).1).ai),.int .i64 (((av r p 2 2).1).Rights),.int .i64 (((av r p 2 2).1).ar),.int .i64 (((av r p 2 2).1).From)] 39,ah.box b3 [.slice none 0 0,.slice none 0 0,.slice none 0 0,.slice none 0 0,.int .i64 0,.int .i64 0] 30,ah.box b2 [.int .i64 p.ag,.int .i64 p.Slot] 33,ah.box b1 [z5,z6,z7,z8,.int .i64 ((aW r ((derived ((ak r (⟨p.ag,slot⟩:Place)).1) r.ae rights 0).1) (⟨0,0⟩:Place)).ae),.int .i64 ((aW r ((derived ((ak r (⟨p.ag,slot⟩:Place)).1) r.ae rights 0).1) (⟨0,0⟩:Place)).af)] 30,ah.held w own])) (F':=(fun aL:Value=>[ah.ls z5 ((aW r ((derived ((ak r (⟨p.ag,slot⟩:Place)).1) r.ae rights 0).1) (⟨0,0⟩:Place)).ap:List ao),ah.ls z6 ((aW r ((derived ((ak r (⟨p.ag,slot⟩:Place)).1) r.ae rights 0).1) (⟨0,0⟩:Place)).Things:List ai),ah.ls z7 ((aW r ((derived ((ak r (⟨p.ag,slot⟩:Place)).1) r.ae rights 0).1) (⟨0,0⟩:Place)).Held:List Held),ah.ls z8 ((aW r ((derived ((ak r (⟨p.ag,slot⟩:Place)).1) r.ae rights 0).1) (⟨0,0⟩:Place)).Notes:List Note),ah.ls aD (r.ap:List ao),ah.ls az (r.Things:List ai),ah.ls aB (r.Held:List Held),ah.ls aA (r.Notes:List Note)])) (s.bE (B0:=[]) (Br:=[ah.row 52 (.slice (some ⟨b13,0,none⟩) 1 1) ([(⟨((av r p 2 2).1).ai,d,((av r p 2 2).1).ar,((derived ((ak r (⟨p.ag,slot⟩:Place)).1) r.ae rights 0).1).ID⟩:Note)]:List Note),ah.box b11 [.int .i64 (((derived ((ak r (⟨p.ag,slot⟩:Place)).1) r.ae rights 0).1).ID),.int .i64 (((derived ((ak r (⟨p.ag,slot⟩:Place)).1) r.ae rights 0).1).ai),.int .i64 (((derived ((ak r (⟨p.ag,slot⟩:Place)).1) r.ae rights 0).1).Rights),.int .i64 (((derived ((ak r (⟨p.ag,slot⟩:Place)).1) r.ae rights 0).1).ar),.int .i64 (((derived ((ak r (⟨p.ag,slot⟩:Place)).1) r.ae rights 0).1).From)] 39,ah.box b10 [.int .i64 (((ak r (⟨p.ag,slot⟩:Place)).1).ID),.int .i64 (((ak r (⟨p.ag,slot⟩:Place)).1).ai),.int .i64 (((ak r (⟨p.ag,slot⟩:Place)).1).Rights),.int .i64 (((ak r (⟨p.ag,slot⟩:Place)).1).ar),.int .i64 (((ak r (⟨p.ag,slot⟩:Place)).1).From)] 39,ah.box b6 [.int .i64 (((av r p 2 2).1).ai),.string d,.int .i64 (((av r p 2 2).1).ar),.int .i64 (((derived ((ak r (⟨p.ag,slot⟩:Place)).1) r.ae rights 0).1).ID)] 52,ah.box b4 [.int .i64 (((av r p 2 2).1).ID),.int .i64 (((av r p 2 2).1).ai),.int .i64 (((av r p 2 2).1).Rights),.int .i64 (((av r p 2 2).1).ar),.int .i64 (((av r p 2 2).1).From)] 39,ah.box b3 [.slice none 0 0,.slice none 0 0,.slice none 0 0,.slice none 0 0,.int .i64 0,.int .i64 0] 30,ah.box b2 [.int .i64 p.ag,.int .i64 p.Slot] 33,ah.box b1 [z5,z6,z7,z8,.int .i64 ((aW r ((derived ((ak r (⟨p.ag,slot⟩:Place)).1) r.ae rights 0).1) (⟨0,0⟩:Place)).ae),.int .i64 ((aW r ((derived ((ak r (⟨p.ag,slot⟩:Place)).1) r.ae rights 0).1) (⟨0,0⟩:Place)).af)] 30,ah.held w own]) (F0:=[ah.ls z8 ((aW r ((derived ((ak r (⟨p.ag,slot⟩:Place)).1) r.ae rights 0).1) (⟨0,0⟩:Place)).Notes:List Note)]) [0,1,2,3,4,5,6,7,8] [3] (fun aL:Value=>aL) (fun aL:Value=>[ah.row 52 aL (((aW r ((derived ((ak r (⟨p.ag,slot⟩:Place)).1) r.ae rights 0).1) (⟨0,0⟩:Place)).Notes):List Note)]) (fun aL:Value=>[]) rfl rfl rfl kH rfl rfl (fun w own hw H=>dH z8 ((aW r ((derived ((ak r (⟨p.ag,slot⟩:Place)).1) r.ae rights 0).1) (⟨0,0⟩:Place)).Notes) w own H (by first|omega|assumption|(simp;done)|(simp;omega))) rfl) (fun _=>(fun _=>Wd.aV [2,3,4,5,6,7,9] [0,1,2,3,4,5,6,7] rfl rfl rfl)) rfl fun ka=>?_
                        refine D.one (i:=5) (by kernel_rfl) rfl ?_
                        refine Do.s (s.app (l2:=[(⟨((av r p 2 2).1).ai,d,((av r p 2 2).1).ar,((derived ((ak r (⟨p.ag,slot⟩:Place)).1) r.ae rights 0).1).ID⟩:Note)]) 0 _ rfl rfl rfl (fun _=>Wd.row 1 rfl) cU (by first|omega|(simp;omega)) (by first|omega|(simp;omega)) (fun _=>rfl) rfl) (fun _=>(fun _=>Wd.aV [2,3,4,5,6,7,9] [0,1,2,3,4,5,6,7] rfl rfl rfl)) rfl fun v5=>?_
                        refine D.q (i:=6) rfl (by kernel_rfl) (fun _=>Wd.aV [2,3,4,5,6,7,9] [0,1,2,3,4,5,6,7] rfl rfl rfl) rfl (q.aS (off':=3) rfl aT rfl) rfl<|?_
                        refine D.one (i:=7) (by kernel_rfl) rfl ?_
                        refine Do.s (s.cS (us:=[v5]) (cs':=[z5,z6,z7,v5,.int .i64 ((aW r ((derived ((ak r (⟨p.ag,slot⟩:Place)).1) r.ae rights 0).1) (⟨0,0⟩:Place)).ae),.int .i64 ((aW r ((derived ((ak r (⟨p.ag,slot⟩:Place)).1) r.ae rights 0).1) (⟨0,0⟩:Place)).af)]) 8 _ rfl rfl rfl (fun w hw=>Sl.bJ ((fun _=>Wd.row 0 rfl) w hw)) (.inr ⟨a6,rfl⟩) (fun w hw=>(aj (Sl.one ((fun _=>Wd.row 0 rfl) w hw)) aJ)) rfl rfl rfl) (fun _=>(fun _=>Wd.aV [2,3,4,5,6,7,9] [0,1,2,3,4,5,6,7] rfl rfl rfl)) rfl fun _=>?_
                        refine D.done (by kernel_rfl)<|?_
                        refine R.reg rfl<|R.q (q.bI 8 rfl rfl au) rfl<|?_
                        refine R.s rfl (s.cS (us:=[z5,z6,z7,v5,.int .i64 ((aW r ((derived ((ak r (⟨p.ag,slot⟩:Place)).1) r.ae rights 0).1) (⟨0,0⟩:Place)).ae),.int .i64 ((aW r ((derived ((ak r (⟨p.ag,slot⟩:Place)).1) r.ae rights 0).1) (⟨0,0⟩:Place)).af)]) (cs':=[z5,z6,z7,v5,.int .i64 ((aW r ((derived ((ak r (⟨p.ag,slot⟩:Place)).1) r.ae rights 0).1) (⟨0,0⟩:Place)).ae),.int .i64 ((aW r ((derived ((ak r (⟨p.ag,slot⟩:Place)).1) r.ae rights 0).1) (⟨0,0⟩:Place)).af)]) 6 _ rfl rfl rfl (fun _ _=>rfl) (.inl au) (fun w hw=>(aj (Sl.one ((fun _=>Wd.aO 0 rfl) w hw)) (aj (Sl.one ((fun _=>Wd.aO 1 rfl) w hw)) (aj (Sl.one ((fun _=>Wd.aO 2 rfl) w hw)) (aj (Sl.one ((fun _=>Wd.row 0 rfl) w hw)) (aj rfl (aj rfl aJ))))))) rfl rfl rfl) fun _=>?_
                        refine R.u 1 rfl<|R.nil ?_
                        refine R.mp (B':=[ah.row 52 (.slice (some ⟨b13,0,none⟩) 1 1) ([(⟨((av r p 2 2).1).ai,d,((av r p 2 2).1).ar,((derived ((ak r (⟨p.ag,slot⟩:Place)).1) r.ae rights 0).1).ID⟩:Note)]:List Note),ah.box b11 [.int .i64 (((derived ((ak r (⟨p.ag,slot⟩:Place)).1) r.ae rights 0).1).ID),.int .i64 (((derived ((ak r (⟨p.ag,slot⟩:Place)).1) r.ae rights 0).1).ai),.int .i64 (((derived ((ak r (⟨p.ag,slot⟩:Place)).1) r.ae rights 0).1).Rights),.int .i64 (((derived ((ak r (⟨p.ag,slot⟩:Place)).1) r.ae rights 0).1).ar),.int .i64 (((derived ((ak r (⟨p.ag,slot⟩:Place)).1) r.ae rights 0).1).From)] 39,ah.box b10 [.int .i64 (((ak r (⟨p.ag,slot⟩:Place)).1).ID),.int .i64 (((ak r (⟨p.ag,slot⟩:Place)).1).ai),.int .i64 (((ak r (⟨p.ag,slot⟩:Place)).1).Rights),.int .i64 (((ak r (⟨p.ag,slot⟩:Place)).1).ar),.int .i64 (((ak r (⟨p.ag,slot⟩:Place)).1).From)] 39,ah.box b6 [.int .i64 (((av r p 2 2).1).ai),.string d,.int .i64 (((av r p 2 2).1).ar),.int .i64 (((derived ((ak r (⟨p.ag,slot⟩:Place)).1) r.ae rights 0).1).ID)] 52,ah.box b4 [.int .i64 (((av r p 2 2).1).ID),.int .i64 (((av r p 2 2).1).ai),.int .i64 (((av r p 2 2).1).Rights),.int .i64 (((av r p 2 2).1).ar),.int .i64 (((av r p 2 2).1).From)] 39,ah.box b3 [z5,z6,z7,v5,.int .i64 ((aW r ((derived ((ak r (⟨p.ag,slot⟩:Place)).1) r.ae rights 0).1) (⟨0,0⟩:Place)).ae),.int .i64 ((aW r ((derived ((ak r (⟨p.ag,slot⟩:Place)).1) r.ae rights 0).1) (⟨0,0⟩:Place)).af)] 30,ah.box b2 [.int .i64 p.ag,.int .i64 p.Slot] 33,ah.box b1 [z5,z6,z7,v5,.int .i64 ((aW r ((derived ((ak r (⟨p.ag,slot⟩:Place)).1) r.ae rights 0).1) (⟨0,0⟩:Place)).ae),.int .i64 ((aW r ((derived ((ak r (⟨p.ag,slot⟩:Place)).1) r.ae rights 0).1) (⟨0,0⟩:Place)).af)] 30,ah.held w own]) (fun _ hw=>hw.aZ 0 _ rfl rfl) ?_
                        have hz:bq r p d slot rights=((⟨(aW r ((derived ((ak r (⟨p.ag,slot⟩:Place)).1) r.ae rights 0).1) (⟨0,0⟩:Place)).ap,(aW r ((derived ((ak r (⟨p.ag,slot⟩:Place)).1) r.ae rights 0).1) (⟨0,0⟩:Place)).Things,(aW r ((derived ((ak r (⟨p.ag,slot⟩:Place)).1) r.ae rights 0).1) (⟨0,0⟩:Place)).Held,(((aW r ((derived ((ak r (⟨p.ag,slot⟩:Place)).1) r.ae rights 0).1) (⟨0,0⟩:Place)).Notes)++([(⟨((av r p 2 2).1).ai,d,((av r p 2 2).1).ar,((derived ((ak r (⟨p.ag,slot⟩:Place)).1) r.ae rights 0).1).ID⟩:Note)])),(aW r ((derived ((ak r (⟨p.ag,slot⟩:Place)).1) r.ae rights 0).1) (⟨0,0⟩:Place)).ae,(aW r ((derived ((ak r (⟨p.ag,slot⟩:Place)).1) r.ae rights 0).1) (⟨0,0⟩:Place)).af⟩:ay),0):=by (rw [List.take_of_length_le (by omega)] at HC;subst HC;unfold bq;(repeat' split) <;> first|rfl|(exfalso;omega)|(simp_all;done))
                        rw [hz]
                        exact R.w2 (z5,z6,z7,v5) [8] [1,2,3,0] rfl Tryz.results52 (RV.cell 5 rfl rfl au) (RV.tmp rfl) rfl rfl rfl (cm rfl (gu rfl))
                    ·
                      refine Do.s (s.bs (l:=([(⟨((av r p 2 2).1).ai,d,((av r p 2 2).1).ar,((derived ((ak r (⟨p.ag,slot⟩:Place)).1) r.ae rights 0).1).ID⟩:Note)]:List Note)) cB cr rfl rfl rfl rfl rfl rfl rfl) (fun _=>(fun _=>Wd.aV [1,2,3,4,5,6,8] [0,1,2,3,4,5,6,7] rfl rfl rfl)) rfl fun b14=>?_
                      refine D.one (i:=1) (by kernel_rfl) rfl ?_
                      refine Do.s (s.c (Qt.a (q.ld 7 rfl rfl a6 rfl)) rfl) (fun _=>(fun _=>Wd.aV [1,2,3,4,5,6,8] [0,1,2,3,4,5,6,7] rfl rfl rfl)) rfl fun _=>?_
                      refine D.one (i:=2) (by kernel_rfl) rfl ?_
                      refine Do.s (B':=(fun aL:Value=>[ah.row 52 aL (((aW r ((derived ((ak r (⟨p.ag,slot⟩:Place)).1) r.ae rights 0).1) (⟨0,0⟩:Place)).Notes):List Note),ah.row 52 (.slice (some ⟨b14,0,none⟩) 1 1) ([(⟨((av r p 2 2).1).ai,d,((av r p 2 2).1).ar,((derived ((ak r (⟨p.ag,slot⟩:Place)).1) r.ae rights 0).1).ID⟩:Note)]:List Note),ah.box b11 [.int .i64 (((derived ((ak r (⟨p.ag,slot⟩:Place)).1) r.ae rights 0).1).ID),.int .i64 (((derived ((ak r (⟨p.ag,slot⟩:Place)).1) r.ae rights 0).1).ai),.int .i64 (((derived ((ak r (⟨p.ag,slot⟩:Place)).1) r.ae rights 0).1).Rights),.int .i64 (((derived ((ak r (⟨p.ag,slot⟩:Place)).1) r.ae rights 0).1).ar),.int .i64 (((derived ((ak r (⟨p.ag,slot⟩:Place)).1) r.ae rights 0).1).From)] 39,ah.box b10 [.int .i64 (((ak r (⟨p.ag,slot⟩:Place)).1).ID),.int .i64 (((ak r (⟨p.ag,slot⟩:Place)).1).ai),.int .i64 (((ak r (⟨p.ag,slot⟩:Place)).1).Rights),.int .i64 (((ak r (⟨p.ag,slot⟩:Place)).1).ar),.int .i64 (((ak r (⟨p.ag,slot⟩:Place)).1).From)] 39,ah.box b6 [.int .i64 (((av r p 2 2).1).ai),.string d,.int .i64 (((av r p 2 2).1).ar),.int .i64 (((derived ((ak r (⟨p.ag,slot⟩:Place)).1) r.ae rights 0).1).ID)] 52,ah.box b4 [.int .i64 (((av r p 2 2).1).ID),.int .i64 (((av r p 2 2).1).ai),.int .i64 (((av r p 2 2).1).Rights),.int .i64 (((av r p 2 2).1).ar),.int .i64 (((av r p 2 2).1).From)] 39,ah.box b3 [.slice none 0 0,.slice none 0 0,.slice none 0 0,.slice none 0 0,.int .i64 0,.int .i64 0] 30,ah.box b2 [.int .i64 p.ag,.int .i64 p.Slot] 33,ah.box b1 [z5,z6,z7,z8,.int .i64 ((aW r ((derived ((ak r (⟨p.ag,slot⟩:Place)).1) r.ae rights 0).1) (⟨0,0⟩:Place)).ae),.int .i64 ((aW r ((derived ((ak r (⟨p.ag,slot⟩:Place)).1) r.ae rights 0).1) (⟨0,0⟩:Place)).af)] 30,ah.held w own])) (F':=(fun aL:Value=>[ah.ls z5 ((aW r ((derived ((ak r (⟨p.ag,slot⟩:Place)).1) r.ae rights 0).1) (⟨0,0⟩:Place)).ap:List ao),ah.ls z6 ((aW r ((derived ((ak r (⟨p.ag,slot⟩:Place)).1) r.ae rights 0).1) (⟨0,0⟩:Place)).Things:List ai),ah.ls z7 ((aW r ((derived ((ak r (⟨p.ag,slot⟩:Place)).1) r.ae rights 0).1) (⟨0,0⟩:Place)).Held:List Held),ah.ls z8 ((aW r ((derived ((ak r (⟨p.ag,slot⟩:Place)).1) r.ae rights 0).1) (⟨0,0⟩:Place)).Notes:List Note),ah.ls aD (r.ap:List ao),ah.ls az (r.Things:List ai),ah.ls aB (r.Held:List Held),ah.ls aA (r.Notes:List Note)])) (s.bE (B0:=[]) (Br:=[ah.row 52 (.slice (some ⟨b14,0,none⟩) 1 1) ([(⟨((av r p 2 2).1).ai,d,((av r p 2 2).1).ar,((derived ((ak r (⟨p.ag,slot⟩:Place)).1) r.ae rights 0).1).ID⟩:Note)]:List Note),ah.box b11 [.int .i64 (((derived ((ak r (⟨p.ag,slot⟩:Place)).1) r.ae rights 0).1).ID),.int .i64 (((derived ((ak r (⟨p.ag,slot⟩:Place)).1) r.ae rights 0).1).ai),.int .i64 (((derived ((ak r (⟨p.ag,slot⟩:Place)).1) r.ae rights 0).1).Rights),.int .i64 (((derived ((ak r (⟨p.ag,slot⟩:Place)).1) r.ae rights 0).1).ar),.int .i64 (((derived ((ak r (⟨p.ag,slot⟩:Place)).1) r.ae rights 0).1).From)] 39,ah.box b10 [.int .i64 (((ak r (⟨p.ag,slot⟩:Place)).1).ID),.int .i64 (((ak r (⟨p.ag,slot⟩:Place)).1).ai),.int .i64 (((ak r (⟨p.ag,slot⟩:Place)).1).Rights),.int .i64 (((ak r (⟨p.ag,slot⟩:Place)).1).ar),.int .i64 (((ak r (⟨p.ag,slot⟩:Place)).1).From)] 39,ah.box b6 [.int .i64 (((av r p 2 2).1).ai),.string d,.int .i64 (((av r p 2 2).1).ar),.int .i64 (((derived ((ak r (⟨p.ag,slot⟩:Place)).1) r.ae rights 0).1).ID)] 52,ah.box b4 [.int .i64 (((av r p 2 2).1).ID),.int .i64 (((av r p 2 2).1).ai),.int .i64 (((av r p 2 2).1).Rights),.int .i64 (((av r p 2 2).1).ar),.int .i64 (((av r p 2 2).1).From)] 39,ah.box b3 [.slice none 0 0,.slice none 0 0,.slice none 0 0,.slice none 0 0,.int .i64 0,.int .i64 0] 30,ah.box b2 [.int .i64 p.ag,.int .i64 p.Slot] 33,ah.box b1 [z5,z6,z7,z8,.int .i64 ((aW r ((derived ((ak r (⟨p.ag,slot⟩:Place)).1) r.ae rights 0).1) (⟨0,0⟩:Place)).ae),.int .i64 ((aW r ((derived ((ak r (⟨p.ag,slot⟩:Place)).1) r.ae rights 0).1) (⟨0,0⟩:Place)).af)] 30,ah.held w own]) (F0:=[ah.ls z8 ((aW r ((derived ((ak r (⟨p.ag,slot⟩:Place)).1) r.ae rights 0).1) (⟨0,0⟩:Place)).Notes:List Note)]) [0,1,2,3,4,5,6,7,8] [3] (fun aL:Value=>aL) (fun aL:Value=>[ah.row 52 aL (((aW r ((derived ((ak r (⟨p.ag,slot⟩:Place)).1) r.ae rights 0).1) (⟨0,0⟩:Place)).Notes):List Note)]) (fun aL:Value=>[]) rfl rfl rfl kH rfl rfl (fun w own hw H=>dH z8 ((aW r ((derived ((ak r (⟨p.ag,slot⟩:Place)).1) r.ae rights 0).1) (⟨0,0⟩:Place)).Notes) w own H (by first|omega|assumption|(simp;done)|(simp;omega))) rfl) (fun _=>(fun _=>Wd.aV [2,3,4,5,6,7,9] [0,1,2,3,4,5,6,7] rfl rfl rfl)) rfl fun z12=>?_
                      refine D.one (i:=5) (by kernel_rfl) rfl ?_
                      refine Do.s (s.app (l2:=[(⟨((av r p 2 2).1).ai,d,((av r p 2 2).1).ar,((derived ((ak r (⟨p.ag,slot⟩:Place)).1) r.ae rights 0).1).ID⟩:Note)]) 0 _ rfl rfl rfl (fun _=>Wd.row 1 rfl) cU (by first|omega|(simp;omega)) (by first|omega|(simp;omega)) (fun _=>rfl) rfl) (fun _=>(fun _=>Wd.aV [2,3,4,5,6,7,9] [0,1,2,3,4,5,6,7] rfl rfl rfl)) rfl fun v6=>?_
                      refine D.q (i:=6) rfl (by kernel_rfl) (fun _=>Wd.aV [2,3,4,5,6,7,9] [0,1,2,3,4,5,6,7] rfl rfl rfl) rfl (q.aS (off':=3) rfl aT rfl) rfl<|?_
                      refine D.one (i:=7) (by kernel_rfl) rfl ?_
                      refine Do.s (s.cS (us:=[v6]) (cs':=[z5,z6,z7,v6,.int .i64 ((aW r ((derived ((ak r (⟨p.ag,slot⟩:Place)).1) r.ae rights 0).1) (⟨0,0⟩:Place)).ae),.int .i64 ((aW r ((derived ((ak r (⟨p.ag,slot⟩:Place)).1) r.ae rights 0).1) (⟨0,0⟩:Place)).af)]) 8 _ rfl rfl rfl (fun w hw=>Sl.bJ ((fun _=>Wd.row 0 rfl) w hw)) (.inr ⟨a6,rfl⟩) (fun w hw=>(aj (Sl.one ((fun _=>Wd.row 0 rfl) w hw)) aJ)) rfl rfl rfl) (fun _=>(fun _=>Wd.aV [2,3,4,5,6,7,9] [0,1,2,3,4,5,6,7] rfl rfl rfl)) rfl fun _=>?_
                      refine D.done (by kernel_rfl)<|?_
                      refine R.reg rfl<|R.q (q.bI 8 rfl rfl au) rfl<|?_
                      refine R.s rfl (s.cS (us:=[z5,z6,z7,v6,.int .i64 ((aW r ((derived ((ak r (⟨p.ag,slot⟩:Place)).1) r.ae rights 0).1) (⟨0,0⟩:Place)).ae),.int .i64 ((aW r ((derived ((ak r (⟨p.ag,slot⟩:Place)).1) r.ae rights 0).1) (⟨0,0⟩:Place)).af)]) (cs':=[z5,z6,z7,v6,.int .i64 ((aW r ((derived ((ak r (⟨p.ag,slot⟩:Place)).1) r.ae rights 0).1) (⟨0,0⟩:Place)).ae),.int .i64 ((aW r ((derived ((ak r (⟨p.ag,slot⟩:Place)).1) r.ae rights 0).1) (⟨0,0⟩:Place)).af)]) 6 _ rfl rfl rfl (fun _ _=>rfl) (.inl au) (fun w hw=>(aj (Sl.one ((fun _=>Wd.aO 0 rfl) w hw)) (aj (Sl.one ((fun _=>Wd.aO 1 rfl) w hw)) (aj (Sl.one ((fun _=>Wd.aO 2 rfl) w hw)) (aj (Sl.one ((fun _=>Wd.row 0 rfl) w hw)) (aj rfl (aj rfl aJ))))))) rfl rfl rfl) fun _=>?_
                      refine R.u 1 rfl<|R.nil ?_
                      refine R.mp (B':=[ah.row 52 (.slice (some ⟨b14,0,none⟩) 1 1) ([(⟨((av r p 2 2).1).ai,d,((av r p 2 2).1).ar,((derived ((ak r (⟨p.ag,slot⟩:Place)).1) r.ae rights 0).1).ID⟩:Note)]:List Note),ah.box b11 [.int .i64 (((derived ((ak r (⟨p.ag,slot⟩:Place)).1) r.ae rights 0).1).ID),.int .i64 (((derived ((ak r (⟨p.ag,slot⟩:Place)).1) r.ae rights 0).1).ai),.int .i64 (((derived ((ak r (⟨p.ag,slot⟩:Place)).1) r.ae rights 0).1).Rights),.int .i64 (((derived ((ak r (⟨p.ag,slot⟩:Place)).1) r.ae rights 0).1).ar),.int .i64 (((derived ((ak r (⟨p.ag,slot⟩:Place)).1) r.ae rights 0).1).From)] 39,ah.box b10 [.int .i64 (((ak r (⟨p.ag,slot⟩:Place)).1).ID),.int .i64 (((ak r (⟨p.ag,slot⟩:Place)).1).ai),.int .i64 (((ak r (⟨p.ag,slot⟩:Place)).1).Rights),.int .i64 (((ak r (⟨p.ag,slot⟩:Place)).1).ar),.int .i64 (((ak r (⟨p.ag,slot⟩:Place)).1).From)] 39,ah.box b6 [.int .i64 (((av r p 2 2).1).ai),.string d,.int .i64 (((av r p 2 2).1).ar),.int .i64 (((derived ((ak r (⟨p.ag,slot⟩:Place)).1) r.ae rights 0).1).ID)] 52,ah.box b4 [.int .i64 (((av r p 2 2).1).ID),.int .i64 (((av r p 2 2).1).ai),.int .i64 (((av r p 2 2).1).Rights),.int .i64 (((av r p 2 2).1).ar),.int .i64 (((av r p 2 2).1).From)] 39,ah.box b3 [z5,z6,z7,v6,.int .i64 ((aW r ((derived ((ak r (⟨p.ag,slot⟩:Place)).1) r.ae rights 0).1) (⟨0,0⟩:Place)).ae),.int .i64 ((aW r ((derived ((ak r (⟨p.ag,slot⟩:Place)).1) r.ae rights 0).1) (⟨0,0⟩:Place)).af)] 30,ah.box b2 [.int .i64 p.ag,.int .i64 p.Slot] 33,ah.box b1 [z5,z6,z7,v6,.int .i64 ((aW r ((derived ((ak r (⟨p.ag,slot⟩:Place)).1) r.ae rights 0).1) (⟨0,0⟩:Place)).ae),.int .i64 ((aW r ((derived ((ak r (⟨p.ag,slot⟩:Place)).1) r.ae rights 0).1) (⟨0,0⟩:Place)).af)] 30,ah.held w own]) (fun _ hw=>hw.aZ 0 _ rfl rfl) ?_
                      have hz:bq r p d slot rights=((⟨(aW r ((derived ((ak r (⟨p.ag,slot⟩:Place)).1) r.ae rights 0).1) (⟨0,0⟩:Place)).ap,(aW r ((derived ((ak r (⟨p.ag,slot⟩:Place)).1) r.ae rights 0).1) (⟨0,0⟩:Place)).Things,(aW r ((derived ((ak r (⟨p.ag,slot⟩:Place)).1) r.ae rights 0).1) (⟨0,0⟩:Place)).Held,(((aW r ((derived ((ak r (⟨p.ag,slot⟩:Place)).1) r.ae rights 0).1) (⟨0,0⟩:Place)).Notes)++([(⟨((av r p 2 2).1).ai,d,((av r p 2 2).1).ar,((derived ((ak r (⟨p.ag,slot⟩:Place)).1) r.ae rights 0).1).ID⟩:Note)])),(aW r ((derived ((ak r (⟨p.ag,slot⟩:Place)).1) r.ae rights 0).1) (⟨0,0⟩:Place)).ae,(aW r ((derived ((ak r (⟨p.ag,slot⟩:Place)).1) r.ae rights 0).1) (⟨0,0⟩:Place)).af⟩:ay),0):=by (rw [List.take_of_length_le (by omega)] at HC;subst HC;unfold bq;(repeat' split) <;> first|rfl|(exfalso;omega)|(simp_all;done))
                      rw [hz]
                      exact R.w2 (z5,z6,z7,v6) [8] [1,2,3,0] rfl Tryz.results52 (RV.cell 5 rfl rfl au) (RV.tmp rfl) rfl rfl rfl (cm rfl (gu rfl))
                  ·
                    refine R.q (q.fI rfl rfl Tryz.underlying41 (by omega)) rfl<|R.nil ?_
                    refine R.aI rfl rfl ?_
                    refine R.reg rfl<|R.q (q.build (cs:=[.slice none 0 0,.slice none 0 0,.slice none 0 0,.slice none 0 0,.int .i64 0,.int .i64 0]) ck rfl rfl) rfl<|R.u 1 rfl<|?_
                    refine R.s rfl (s.st (us:=[.slice none 0 0,.slice none 0 0,.slice none 0 0,.slice none 0 0,.int .i64 0,.int .i64 0]) (cs':=[.slice none 0 0,.slice none 0 0,.slice none 0 0,.slice none 0 0,.int .i64 0,.int .i64 0]) 4 _ rfl rfl rfl rfl (.inl au) rfl rfl rfl rfl) fun _=>?_
                    refine R.u 1 rfl<|R.nil ?_
                    refine R.mp (fun _ hw=>hw.aN (α:=ao)) ?_
                    refine R.mp (fun _ hw=>hw.aN (α:=ai)) ?_
                    refine R.mp (fun _ hw=>hw.aN (α:=Held)) ?_
                    refine R.mp (fun _ hw=>hw.aN (α:=Note)) ?_
                    have hz:bq r p d slot rights=((⟨[],[],[],[],0,0⟩:ay),(derived ((ak r (⟨p.ag,slot⟩:Place)).1) r.ae rights 0).2):=by (rw [List.take_of_length_le (by omega)] at HC;subst HC;unfold bq;(repeat' split) <;> first|rfl|(exfalso;omega)|(simp_all;done))
                    rw [hz]
                    exact R.w2 ((.slice none 0 0),(.slice none 0 0),(.slice none 0 0),(.slice none 0 0)) [7] [3,2,1,0] rfl Tryz.results52 (RV.cell 4 rfl rfl au) (RV.tmp rfl) rfl rfl rfl (cm rfl rfl)
              ·
                refine R.q (q.fI rfl rfl Tryz.underlying41 (by omega)) rfl<|R.nil ?_
                refine R.aI rfl rfl ?_
                refine R.reg rfl<|R.q (q.build (cs:=[.slice none 0 0,.slice none 0 0,.slice none 0 0,.slice none 0 0,.int .i64 0,.int .i64 0]) ck rfl rfl) rfl<|R.u 1 rfl<|?_
                refine R.s rfl (s.st (us:=[.slice none 0 0,.slice none 0 0,.slice none 0 0,.slice none 0 0,.int .i64 0,.int .i64 0]) (cs':=[.slice none 0 0,.slice none 0 0,.slice none 0 0,.slice none 0 0,.int .i64 0,.int .i64 0]) 3 _ rfl rfl rfl rfl (.inl au) rfl rfl rfl rfl) fun _=>?_
                refine R.u 1 rfl<|R.nil ?_
                refine R.mp (fun _ hw=>hw.aN (α:=ao)) ?_
                refine R.mp (fun _ hw=>hw.aN (α:=ai)) ?_
                refine R.mp (fun _ hw=>hw.aN (α:=Held)) ?_
                refine R.mp (fun _ hw=>hw.aN (α:=Note)) ?_
                have hz:bq r p d slot rights=((⟨[],[],[],[],0,0⟩:ay),(ak r (⟨p.ag,slot⟩:Place)).2):=by (rw [List.take_of_length_le (by omega)] at HC;subst HC;unfold bq;(repeat' split) <;> first|rfl|(exfalso;omega)|(simp_all;done))
                rw [hz]
                exact R.w2 ((.slice none 0 0),(.slice none 0 0),(.slice none 0 0),(.slice none 0 0)) [6] [3,2,1,0] rfl Tryz.results52 (RV.cell 3 rfl rfl au) (RV.tmp rfl) rfl rfl rfl (cm rfl rfl)
            ·
              refine R.c (q.call lp rfl rfl (fun w hw=>(cv (congrArg Value.bool h7) (eh (((av r p 2 2).1).Rights) (4) w  (by omega) (by omega))))) rfl<|R.u 1 rfl<|R.nil ?_
              refine R.aI rfl rfl ?_
              refine R.reg rfl<|R.q (q.build (cs:=[.slice none 0 0,.slice none 0 0,.slice none 0 0,.slice none 0 0,.int .i64 0,.int .i64 0]) ck rfl rfl) rfl<|R.q (q.iface rfl da) rfl<|?_
              refine R.s rfl (s.st (us:=[.slice none 0 0,.slice none 0 0,.slice none 0 0,.slice none 0 0,.int .i64 0,.int .i64 0]) (cs':=[.slice none 0 0,.slice none 0 0,.slice none 0 0,.slice none 0 0,.int .i64 0,.int .i64 0]) 2 _ rfl rfl rfl rfl (.inl au) rfl rfl rfl rfl) fun _=>?_
              refine R.u 1 rfl<|R.nil ?_
              refine R.mp (fun _ hw=>hw.aN (α:=ao)) ?_
              refine R.mp (fun _ hw=>hw.aN (α:=ai)) ?_
              refine R.mp (fun _ hw=>hw.aN (α:=Held)) ?_
              refine R.mp (fun _ hw=>hw.aN (α:=Note)) ?_
              have hz:bq r p d slot rights=((⟨[],[],[],[],0,0⟩:ay),7):=by (rw [List.take_of_length_le (by omega)] at HC;subst HC;unfold bq;(repeat' split) <;> first|rfl|(exfalso;omega)|(simp_all;done))
              rw [hz]
              exact R.w2 ((.slice none 0 0),(.slice none 0 0),(.slice none 0 0),(.slice none 0 0)) [5] [3,2,1,0] rfl Tryz.results52 (RV.cell 2 rfl rfl au) (RV.tmp rfl) rfl rfl rfl (cm rfl (e5 (by decide) rfl))
  ·
    refine R.q (q.fI rfl rfl Tryz.underlying41 (by omega)) rfl<|R.nil ?_
    refine R.aI rfl rfl ?_
    refine R.reg rfl<|R.q (q.build (cs:=[.slice none 0 0,.slice none 0 0,.slice none 0 0,.slice none 0 0,.int .i64 0,.int .i64 0]) ck rfl rfl) rfl<|R.u 1 rfl<|?_
    refine R.s rfl (s.st (us:=[.slice none 0 0,.slice none 0 0,.slice none 0 0,.slice none 0 0,.int .i64 0,.int .i64 0]) (cs':=[.slice none 0 0,.slice none 0 0,.slice none 0 0,.slice none 0 0,.int .i64 0,.int .i64 0]) 1 _ rfl rfl rfl rfl (.inl au) rfl rfl rfl rfl) fun _=>?_
    refine R.u 1 rfl<|R.nil ?_
    refine R.mp (fun _ hw=>hw.aN (α:=ao)) ?_
    refine R.mp (fun _ hw=>hw.aN (α:=ai)) ?_
    refine R.mp (fun _ hw=>hw.aN (α:=Held)) ?_
    refine R.mp (fun _ hw=>hw.aN (α:=Note)) ?_
    have hz:bq r p d slot rights=((⟨[],[],[],[],0,0⟩:ay),(av r p 2 2).2.2):=by (unfold bq;(repeat' split) <;> first|rfl|(exfalso;omega)|(simp_all;done))
    rw [hz]
    exact R.w2 ((.slice none 0 0),(.slice none 0 0),(.slice none 0 0),(.slice none 0 0)) [4] [3,2,1,0] rfl Tryz.results52 (RV.cell 1 rfl rfl au) (RV.tmp rfl) rfl rfl rfl (cm rfl rfl)
theorem nH (aD az aB aA:Value)(r:ay)(p:Place)(w:World)(own:List Nat)(H:Wd w (blks []++own) ([]++[ah.held w own]) [ah.ls aD (r.ap:List ao),ah.ls az (r.Things:List ai),ah.ls aB (r.Held:List Held),ah.ls aA (r.Notes:List Note)] w)(hk:Ok r):Calls Tryz.prog 13 #[.agg #[aD,az,aB,aA,.int .i64 r.ae,.int .i64 r.af],.agg #[.int .i64 p.ag,.int .i64 p.Slot]] w fun e w' => ∃z:Value×Value×Value×Value,e = .returned (.tuple #[.agg #[z.1,z.2.1,z.2.2.1,z.2.2.2,.int .i64 ((((aE r p)).1).ae),.int .i64 ((((aE r p)).1).af)],.agg #[.int .i64 ((((aE r p)).2.1).Port),.string ((((aE r p)).2.1).Data),.int .i64 ((((aE r p)).2.1).ar),.int .i64 ((((aE r p)).2.1).ao)],.int .i64 (((aE r p)).2.2.1),ek (((aE r p)).2.2.2)])∧Wd w (blks []++own) ([]++[ah.held w own]) [ah.ls z.1 ((((aE r p)).1).ap:List ao),ah.ls z.2.1 ((((aE r p)).1).Things:List ai),ah.ls z.2.2.1 ((((aE r p)).1).Held:List Held),ah.ls z.2.2.2 ((((aE r p)).1).Notes:List Note)] w':=by
  have cw:=H.bS 0 rfl
  have bY:=H.bS 1 rfl
  have cI:=H.bS 2 rfl
  have cx:=H.bS 3 rfl
  have bw:=hk.wl;have bt:=hk.tl;have bh:=hk.hl;have bn:=hk.nl;have lS:=hk.w0;have lT:=hk.w1;have lU:=hk.t0;have lV:=hk.t1
  refine R.cC (n:=74) (vs:=[.agg #[aD,az,aB,aA,.int .i64 r.ae,.int .i64 r.af],.agg #[.int .i64 p.ag,.int .i64 p.Slot]]) (B:=[ah.held w own]) [(0,.agg #[aD,az,aB,aA,.int .i64 r.ae,.int .i64 r.af]),(1,.agg #[.int .i64 p.ag,.int .i64 p.Slot])] Tryz.func13 rfl rfl rfl rfl H ?_
  refine R.reg rfl<|?_
  refine R.s rfl (s.box (cs:=[aD,az,aB,aA,.int .i64 r.ae,.int .i64 r.af]) rfl rfl rfl) fun b1=>?_
  refine R.s rfl (s.box (cs:=[.int .i64 p.ag,.int .i64 p.Slot]) rfl rfl rfl) fun b2=>?_
  refine R.s rfl (s.alloc (cs:=[.slice none 0 0,.slice none 0 0,.slice none 0 0,.slice none 0 0,.int .i64 0,.int .i64 0]) bR rfl rfl) fun b3=>?_
  refine R.s rfl (s.alloc (cs:=[.int .i64 0,.string (⟨#[]⟩),.int .i64 0,.int .i64 0]) cr rfl rfl) fun b4=>?_
  refine R.u 2 rfl<|R.nil ?_
  refine R.reg rfl<|R.q (q.bI 3 rfl rfl au) rfl<|R.q (q.bI 2 rfl rfl aM) rfl<|R.c (q.call qM rfl rfl (fun w hw=>(kO _ _ _ _ (r) (p) (2) (1) w ((fun _=>Wd.aO 0 rfl) w hw) ((fun _=>Wd.aO 1 rfl) w hw) ((fun _=>Wd.aO 2 rfl) w hw) ((fun _=>Wd.aO 3 rfl) w hw) (by assumption) (by omega)))) rfl<|R.u 4 rfl<|?_
  refine R.s rfl (s.alloc (cs:=[.int .i64 0,.int .i64 0,.int .i64 0,.int .i64 0,.int .i64 0]) aY rfl rfl) fun b5=>?_
  refine R.s rfl (s.st (us:=[.int .i64 (((av r p 2 1).1).ID),.int .i64 (((av r p 2 1).1).ai),.int .i64 (((av r p 2 1).1).Rights),.int .i64 (((av r p 2 1).1).ar),.int .i64 (((av r p 2 1).1).From)]) (cs':=[.int .i64 (((av r p 2 1).1).ID),.int .i64 (((av r p 2 1).1).ai),.int .i64 (((av r p 2 1).1).Rights),.int .i64 (((av r p 2 1).1).ar),.int .i64 (((av r p 2 1).1).From)]) 0 _ rfl rfl rfl rfl (.inl aK) rfl rfl rfl rfl) fun _=>?_
  refine R.u 2 rfl<|R.nil ?_
  refine R.reg rfl<|R.u 1 rfl<|?_
  by_cases h1:(av r p 2 1).2.2=0
  ·
    refine R.q (q.fH rfl rfl Tryz.underlying41 (by omega)) rfl<|R.nil ?_
    refine R.aH rfl rfl ?_
    refine R.reg rfl<|R.q (q.aS (off':=3) rfl aT rfl) rfl<|R.q (q.ld 4 rfl rfl a6 rfl) rfl<|R.q (q.vT (cap:=[.pointer (some ⟨b5,0,none⟩)]) rfl rfl) rfl<|?_
    rcases fC (fun (t:Note)=>t.Port==((av r p 2 1).1).ai) r.Notes with ⟨dt,j2⟩ | ⟨i4,du,dt,dP,e6,fZ,ya⟩
    ·
      refine R.c (q.call uN rfl rfl (fun w hw=>(cv (congrArg (Value.int .i64) dt) (ia _ (r.Notes) (fun (t:Note)=>t.Port==((av r p 2 1).1).ai) _ _ uO w ((fun _=>Wd.aO 3 rfl) w hw) (fun W t hW=>lz t (((av r p 2 1).1)) _ W (kC (hw.b 0 rfl) hW) ) )))) rfl<|R.u 1 rfl<|R.nil ?_
      refine R.reg rfl<|R.u 1 rfl<|R.q (q.lss (b:=true) rfl rfl (by decide)) rfl<|R.nil ?_
      refine R.aI rfl rfl ?_
      refine R.reg rfl<|R.q (q.build (cs:=[.slice none 0 0,.slice none 0 0,.slice none 0 0,.slice none 0 0,.int .i64 0,.int .i64 0]) ck rfl rfl) rfl<|R.q (q.build (cs:=[.int .i64 0,.string (⟨#[]⟩),.int .i64 0,.int .i64 0]) ll rfl rfl) rfl<|R.q (q.iface rfl da) rfl<|?_
      refine R.s rfl (s.st (us:=[.slice none 0 0,.slice none 0 0,.slice none 0 0,.slice none 0 0,.int .i64 0,.int .i64 0]) (cs':=[.slice none 0 0,.slice none 0 0,.slice none 0 0,.slice none 0 0,.int .i64 0,.int .i64 0]) 2 _ rfl rfl rfl rfl (.inl au) rfl rfl rfl rfl) fun _=>?_
      refine R.s rfl (s.st (us:=[.int .i64 0,.string (⟨#[]⟩),.int .i64 0,.int .i64 0]) (cs':=[.int .i64 0,.string (⟨#[]⟩),.int .i64 0,.int .i64 0]) 1 _ rfl rfl rfl rfl (.inl aX) rfl rfl rfl rfl) fun _=>?_
      refine R.u 2 rfl<|R.nil ?_
      refine R.mp (fun _ hw=>hw.aN (α:=ao)) ?_
      refine R.mp (fun _ hw=>hw.aN (α:=ai)) ?_
      refine R.mp (fun _ hw=>hw.aN (α:=Held)) ?_
      refine R.mp (fun _ hw=>hw.aN (α:=Note)) ?_
      have hz:aE r p=((⟨[],[],[],[],0,0⟩:ay),(⟨0,⟨#[]⟩,0,0⟩:Note),0,5):=by (unfold aE;first|(rw [if_neg (by assumption)];first|done|rfl)|(rw [if_pos (by assumption),dt,show decide ((0:Int) ≤ -1)=false from rfl];cases r.Notes[(-1:Int).toNat]? <;> rfl)|(rw [if_pos (by assumption),dt,Int.toNat_natCast,dP,decide_eq_true (by omega)];dsimp only;(repeat' split) <;> first|rfl|(exfalso;omega)))
      rw [hz]
      exact R.w4 ((.slice none 0 0),(.slice none 0 0),(.slice none 0 0),(.slice none 0 0)) [5] [3,2,1,0] rfl Tryz.results13 (RV.cell 2 rfl rfl au) (RV.cell 1 rfl rfl aX) (RV.tmp rfl) (RV.tmp rfl) rfl rfl rfl (kB rfl rfl rfl (e5 (by decide) rfl))
    ·
      refine R.c (q.call uN rfl rfl (fun w hw=>(cv (congrArg (Value.int .i64) dt) (ia _ (r.Notes) (fun (t:Note)=>t.Port==((av r p 2 1).1).ai) _ _ uO w ((fun _=>Wd.aO 3 rfl) w hw) (fun W t hW=>lz t (((av r p 2 1).1)) _ W (kC (hw.b 0 rfl) hW) ) )))) rfl<|R.u 1 rfl<|R.nil ?_
      refine R.reg rfl<|R.u 1 rfl<|R.q (q.lss rfl rfl (decide_eq_false (by omega))) rfl<|R.nil ?_
      refine R.aH rfl rfl ?_
      refine R.reg rfl<|R.q (q.aS (off':=3) rfl aT rfl) rfl<|R.q (q.ld 4 rfl rfl a6 rfl) rfl<|R.u 1 rfl<|R.q (q.idx (i:=i4) (fun _=>Wd.aO 3 rfl) rfl rfl cB rfl dP) rfl<|R.q (q.dx (ds:=[.int .i64 du.Port,.string du.Data,.int .i64 du.ar,.int .i64 du.ao]) (fun _=>Wd.aO 3 rfl) dP rfl aX rfl) rfl<|?_
      refine R.s rfl (s.alloc (cs:=[.int .i64 0,.string (⟨#[]⟩),.int .i64 0,.int .i64 0]) cr rfl rfl) fun b6=>?_
      refine R.s rfl (s.st (us:=[.int .i64 du.Port,.string du.Data,.int .i64 du.ar,.int .i64 du.ao]) (cs':=[.int .i64 du.Port,.string du.Data,.int .i64 du.ar,.int .i64 du.ao]) 0 _ rfl rfl rfl rfl (.inl aX) rfl rfl rfl rfl) fun _=>?_
      refine R.nil ?_
      refine R.reg rfl<|R.u 1 rfl<|R.nil ?_
      refine R.reg rfl<|R.q (q.aS (off':=3) rfl cR rfl) rfl<|R.q (q.ld 0 rfl rfl aG rfl) rfl<|?_
      by_cases h2:0<du.ao
      ·
        refine R.q (q.gtr rfl rfl (decide_eq_true (by omega))) rfl<|R.nil ?_
        refine R.aI rfl rfl ?_
        refine R.reg rfl<|R.q (q.aS (off':=2) rfl bf rfl) rfl<|R.q (q.ld 5 rfl rfl bQ rfl) rfl<|R.q (q.aS (off':=0) rfl bZ rfl) rfl<|R.q (q.ld 4 rfl rfl aG rfl) rfl<|R.c (q.call wQ rfl rfl (fun w hw=>(sY _ (r.Held) (p.ag) w ((fun _=>Wd.aO 2 rfl) w hw) (by first|omega|assumption|(simp;done)|(simp;omega))))) rfl<|R.u 1 rfl<|R.nil ?_
        refine R.reg rfl<|R.u 1 rfl<|?_
        by_cases h3:cE r.Held p.ag<0
        ·
          refine R.q (q.lss rfl rfl (decide_eq_true (by omega))) rfl<|R.nil ?_
          refine R.aI rfl rfl ?_
          refine R.reg rfl<|R.q (q.build (cs:=[.slice none 0 0,.slice none 0 0,.slice none 0 0,.slice none 0 0,.int .i64 0,.int .i64 0]) ck rfl rfl) rfl<|R.q (q.build (cs:=[.int .i64 0,.string (⟨#[]⟩),.int .i64 0,.int .i64 0]) ll rfl rfl) rfl<|R.q (q.iface rfl da) rfl<|?_
          refine R.s rfl (s.st (us:=[.slice none 0 0,.slice none 0 0,.slice none 0 0,.slice none 0 0,.int .i64 0,.int .i64 0]) (cs':=[.slice none 0 0,.slice none 0 0,.slice none 0 0,.slice none 0 0,.int .i64 0,.int .i64 0]) 3 _ rfl rfl rfl rfl (.inl au) rfl rfl rfl rfl) fun _=>?_
          refine R.s rfl (s.st (us:=[.int .i64 0,.string (⟨#[]⟩),.int .i64 0,.int .i64 0]) (cs':=[.int .i64 0,.string (⟨#[]⟩),.int .i64 0,.int .i64 0]) 2 _ rfl rfl rfl rfl (.inl aX) rfl rfl rfl rfl) fun _=>?_
          refine R.u 2 rfl<|R.nil ?_
          refine R.mp (fun _ hw=>hw.aN (α:=ao)) ?_
          refine R.mp (fun _ hw=>hw.aN (α:=ai)) ?_
          refine R.mp (fun _ hw=>hw.aN (α:=Held)) ?_
          refine R.mp (fun _ hw=>hw.aN (α:=Note)) ?_
          have hz:aE r p=((⟨[],[],[],[],0,0⟩:ay),(⟨0,⟨#[]⟩,0,0⟩:Note),0,9):=by (unfold aE;first|(rw [if_neg (by assumption)];first|done|rfl)|(rw [if_pos (by assumption),dt,show decide ((0:Int) ≤ -1)=false from rfl];cases r.Notes[(-1:Int).toNat]? <;> rfl)|(rw [if_pos (by assumption),dt,Int.toNat_natCast,dP,decide_eq_true (by omega)];dsimp only;(repeat' split) <;> first|rfl|(exfalso;omega)))
          rw [hz]
          exact R.w4 ((.slice none 0 0),(.slice none 0 0),(.slice none 0 0),(.slice none 0 0)) [6] [3,2,1,0] rfl Tryz.results13 (RV.cell 3 rfl rfl au) (RV.cell 2 rfl rfl aX) (RV.tmp rfl) (RV.tmp rfl) rfl rfl rfl (kB rfl rfl rfl (e5 (by decide) rfl))
        ·
          refine R.q (q.lss rfl rfl (decide_eq_false (by omega))) rfl<|R.nil ?_
          refine R.aH rfl rfl ?_
          refine R.reg rfl<|R.q (q.aS (off':=2) rfl bf rfl) rfl<|R.q (q.ld 5 rfl rfl bQ rfl) rfl<|R.q (q.aS (off':=0) rfl bZ rfl) rfl<|R.q (q.ld 4 rfl rfl aG rfl) rfl<|R.u 1 rfl<|R.q (q.build (cs:=[.int .i64 p.ag,.int .i64 (cE r.Held p.ag)]) jt rfl rfl) rfl<|R.q (q.aS (off':=3) rfl cR rfl) rfl<|R.q (q.ld 0 rfl rfl aG rfl) rfl<|?_
          refine R.s (B':=(fun aL:Value=>[ah.row 93 aL ((bO r.Held (⟨p.ag,cE r.Held p.ag⟩:Place) du.ao):List Held),ah.box b6 [.int .i64 du.Port,.string du.Data,.int .i64 du.ar,.int .i64 du.ao] 52,ah.box b5 [.int .i64 (((av r p 2 1).1).ID),.int .i64 (((av r p 2 1).1).ai),.int .i64 (((av r p 2 1).1).Rights),.int .i64 (((av r p 2 1).1).ar),.int .i64 (((av r p 2 1).1).From)] 39,ah.box b4 [.int .i64 0,.string (⟨#[]⟩),.int .i64 0,.int .i64 0] 52,ah.box b3 [.slice none 0 0,.slice none 0 0,.slice none 0 0,.slice none 0 0,.int .i64 0,.int .i64 0] 30,ah.box b2 [.int .i64 p.ag,.int .i64 p.Slot] 33,ah.box b1 [aD,az,aB,aA,.int .i64 r.ae,.int .i64 r.af] 30,ah.held w own])) (F':=(fun aL:Value=>[ah.ls aD (r.ap:List ao),ah.ls az (r.Things:List ai),ah.ls aB (r.Held:List Held),ah.ls aA (r.Notes:List Note)])) rfl (s.bE (B0:=[]) (Br:=[ah.box b6 [.int .i64 du.Port,.string du.Data,.int .i64 du.ar,.int .i64 du.ao] 52,ah.box b5 [.int .i64 (((av r p 2 1).1).ID),.int .i64 (((av r p 2 1).1).ai),.int .i64 (((av r p 2 1).1).Rights),.int .i64 (((av r p 2 1).1).ar),.int .i64 (((av r p 2 1).1).From)] 39,ah.box b4 [.int .i64 0,.string (⟨#[]⟩),.int .i64 0,.int .i64 0] 52,ah.box b3 [.slice none 0 0,.slice none 0 0,.slice none 0 0,.slice none 0 0,.int .i64 0,.int .i64 0] 30,ah.box b2 [.int .i64 p.ag,.int .i64 p.Slot] 33,ah.box b1 [aD,az,aB,aA,.int .i64 r.ae,.int .i64 r.af] 30,ah.held w own]) (F0:=[ah.ls aB (r.Held:List Held)]) [0,1,2,3,4,5,6] [2] (fun aL:Value=>aL) (fun aL:Value=>[ah.row 93 aL ((bO r.Held (⟨p.ag,cE r.Held p.ag⟩:Place) du.ao):List Held)]) (fun aL:Value=>[]) rfl rfl rfl nr rfl rfl (fun w own hw H=>jL aB (r.Held) ((⟨p.ag,cE r.Held p.ag⟩:Place)) (du.ao) w own H (by first|omega|assumption|(simp;done)|(simp;omega))) rfl) fun z1=>?_
          refine R.q (q.aS (off':=2) rfl bf rfl) rfl<|?_
          refine R.s rfl (s.cS (us:=[z1]) (cs':=[aD,az,z1,aA,.int .i64 r.ae,.int .i64 r.af]) 6 _ rfl rfl rfl (fun w hw=>Sl.bJ ((fun _=>Wd.row 0 rfl) w hw)) (.inr ⟨bQ,rfl⟩) (fun w hw=>(aj (Sl.one ((fun _=>Wd.row 0 rfl) w hw)) aJ)) rfl rfl rfl) fun _=>?_
          refine R.nil ?_
          refine R.reg rfl<|R.q (q.aS (off':=3) rfl aT rfl) rfl<|R.q (q.ld 6 rfl rfl a6 rfl) rfl<|?_
          refine R.s (B':=(fun aL:Value=>[ah.row 52 aL (r.Notes:List Note),ah.row 93 z1 (bO r.Held (⟨p.ag,cE r.Held p.ag⟩:Place) du.ao:List Held),ah.box b6 [.int .i64 du.Port,.string du.Data,.int .i64 du.ar,.int .i64 du.ao] 52,ah.box b5 [.int .i64 (((av r p 2 1).1).ID),.int .i64 (((av r p 2 1).1).ai),.int .i64 (((av r p 2 1).1).Rights),.int .i64 (((av r p 2 1).1).ar),.int .i64 (((av r p 2 1).1).From)] 39,ah.box b4 [.int .i64 0,.string (⟨#[]⟩),.int .i64 0,.int .i64 0] 52,ah.box b3 [.slice none 0 0,.slice none 0 0,.slice none 0 0,.slice none 0 0,.int .i64 0,.int .i64 0] 30,ah.box b2 [.int .i64 p.ag,.int .i64 p.Slot] 33,ah.box b1 [aD,az,z1,aA,.int .i64 r.ae,.int .i64 r.af] 30,ah.held w own])) (F':=(fun aL:Value=>[ah.ls aD (r.ap:List ao),ah.ls az (r.Things:List ai),ah.ls aB (r.Held:List Held),ah.ls aA (r.Notes:List Note)])) rfl (s.bE (B0:=[]) (Br:=[ah.row 93 z1 (bO r.Held (⟨p.ag,cE r.Held p.ag⟩:Place) du.ao:List Held),ah.box b6 [.int .i64 du.Port,.string du.Data,.int .i64 du.ar,.int .i64 du.ao] 52,ah.box b5 [.int .i64 (((av r p 2 1).1).ID),.int .i64 (((av r p 2 1).1).ai),.int .i64 (((av r p 2 1).1).Rights),.int .i64 (((av r p 2 1).1).ar),.int .i64 (((av r p 2 1).1).From)] 39,ah.box b4 [.int .i64 0,.string (⟨#[]⟩),.int .i64 0,.int .i64 0] 52,ah.box b3 [.slice none 0 0,.slice none 0 0,.slice none 0 0,.slice none 0 0,.int .i64 0,.int .i64 0] 30,ah.box b2 [.int .i64 p.ag,.int .i64 p.Slot] 33,ah.box b1 [aD,az,z1,aA,.int .i64 r.ae,.int .i64 r.af] 30,ah.held w own]) (F0:=[ah.ls aA (r.Notes:List Note)]) [0,1,2,3,4,5,6,7] [3] (fun aL:Value=>aL) (fun aL:Value=>[ah.row 52 aL (r.Notes:List Note)]) (fun aL:Value=>[]) rfl rfl rfl kH rfl rfl (fun w own hw H=>dH aA (r.Notes) w own H (by first|omega|assumption|(simp;done)|(simp;omega))) rfl) fun z2=>?_
          refine R.u 2 rfl<|R.q (q.add (r:=((i4+1:Nat):Int)) rfl rfl (wr (by omega))) rfl<|?_
          refine R.s (B':=(fun aL:Value=>[ah.row 52 aL ((r.Notes.take i4++r.Notes.drop (i4+1)):List Note),ah.row 93 z1 (bO r.Held (⟨p.ag,cE r.Held p.ag⟩:Place) du.ao:List Held),ah.box b6 [.int .i64 du.Port,.string du.Data,.int .i64 du.ar,.int .i64 du.ao] 52,ah.box b5 [.int .i64 (((av r p 2 1).1).ID),.int .i64 (((av r p 2 1).1).ai),.int .i64 (((av r p 2 1).1).Rights),.int .i64 (((av r p 2 1).1).ar),.int .i64 (((av r p 2 1).1).From)] 39,ah.box b4 [.int .i64 0,.string (⟨#[]⟩),.int .i64 0,.int .i64 0] 52,ah.box b3 [.slice none 0 0,.slice none 0 0,.slice none 0 0,.slice none 0 0,.int .i64 0,.int .i64 0] 30,ah.box b2 [.int .i64 p.ag,.int .i64 p.Slot] 33,ah.box b1 [aD,az,z1,aA,.int .i64 r.ae,.int .i64 r.af] 30,ah.held w own])) (F':=(fun aL:Value=>[ah.ls aD (r.ap:List ao),ah.ls az (r.Things:List ai),ah.ls aB (r.Held:List Held),ah.ls aA (r.Notes:List Note)])) rfl (s.bE (B0:=[ah.row 52 z2 (r.Notes:List Note)]) (Br:=[ah.row 93 z1 (bO r.Held (⟨p.ag,cE r.Held p.ag⟩:Place) du.ao:List Held),ah.box b6 [.int .i64 du.Port,.string du.Data,.int .i64 du.ar,.int .i64 du.ao] 52,ah.box b5 [.int .i64 (((av r p 2 1).1).ID),.int .i64 (((av r p 2 1).1).ai),.int .i64 (((av r p 2 1).1).Rights),.int .i64 (((av r p 2 1).1).ar),.int .i64 (((av r p 2 1).1).From)] 39,ah.box b4 [.int .i64 0,.string (⟨#[]⟩),.int .i64 0,.int .i64 0] 52,ah.box b3 [.slice none 0 0,.slice none 0 0,.slice none 0 0,.slice none 0 0,.int .i64 0,.int .i64 0] 30,ah.box b2 [.int .i64 p.ag,.int .i64 p.Slot] 33,ah.box b1 [aD,az,z1,aA,.int .i64 r.ae,.int .i64 r.af] 30,ah.held w own]) (F0:=[]) [0,1,2,3,4,5,6,7,8] [] (fun aL:Value=>aL) (fun aL:Value=>[ah.row 52 aL ((r.Notes.take i4++r.Notes.drop (i4+1)):List Note)]) (fun aL:Value=>[]) rfl rfl rfl uP rfl rfl (fun w own hw H=>jB z2 (r.Notes) (i4) ((i4+1)) w own H (by omega)) rfl) fun z3=>?_
          refine R.q (q.aS (off':=3) rfl aT rfl) rfl<|?_
          refine R.s rfl (s.cS (us:=[z3]) (cs':=[aD,az,z1,z3,.int .i64 r.ae,.int .i64 r.af]) 7 _ rfl rfl rfl (fun w hw=>Sl.bJ ((fun _=>Wd.row 0 rfl) w hw)) (.inr ⟨a6,rfl⟩) (fun w hw=>(aj (Sl.one ((fun _=>Wd.row 0 rfl) w hw)) aJ)) rfl rfl rfl) fun _=>?_
          refine R.nil ?_
          refine R.gD (fuel:=7) (Wd w (blks []++own) [ah.row 52 z3 (r.Notes.take i4++r.Notes.drop (i4+1):List Note),ah.row 93 z1 (bO r.Held (⟨p.ag,cE r.Held p.ag⟩:Place) du.ao:List Held),ah.box b6 [.int .i64 du.Port,.string du.Data,.int .i64 du.ar,.int .i64 du.ao] 52,ah.box b5 [.int .i64 (((av r p 2 1).1).ID),.int .i64 (((av r p 2 1).1).ai),.int .i64 (((av r p 2 1).1).Rights),.int .i64 (((av r p 2 1).1).ar),.int .i64 (((av r p 2 1).1).From)] 39,ah.box b2 [.int .i64 p.ag,.int .i64 p.Slot] 33,ah.box b1 [aD,az,z1,z3,.int .i64 r.ae,.int .i64 r.af] 30,ah.held w own] [ah.ls aD (r.ap:List ao),ah.ls az (r.Things:List ai),ah.ls aB (r.Held:List Held),ah.ls aA (r.Notes:List Note)]) rfl mixed rfl ?_
          refine D.q (i:=0) rfl (by kernel_rfl) (fun _=>Wd.aV [0,1,2,3,6,7,8] [0,1,2,3] rfl rfl rfl) rfl (q.bI 5 rfl rfl au) rfl<|D.q (i:=1) rfl (by kernel_rfl) (fun _=>Wd.aV [0,1,2,3,6,7,8] [0,1,2,3] rfl rfl rfl) rfl (q.bI 2 rfl rfl aX) rfl<|D.q (i:=2) rfl (by kernel_rfl) (fun _=>Wd.aV [0,1,2,3,6,7,8] [0,1,2,3] rfl rfl rfl) rfl (q.mv rfl) rfl<|?_
          refine D.one (i:=3) (by kernel_rfl) rfl ?_
          refine Do.s (s.cS (us:=[aD,az,z1,z3,.int .i64 r.ae,.int .i64 r.af]) (cs':=[aD,az,z1,z3,.int .i64 r.ae,.int .i64 r.af]) 5 _ rfl rfl rfl (fun _ _=>rfl) (.inl au) (fun w hw=>(aj (Sl.one ((fun _=>Wd.aO 0 rfl) w hw)) (aj (Sl.one ((fun _=>Wd.aO 1 rfl) w hw)) (aj (Sl.one ((fun _=>Wd.row 1 rfl) w hw)) (aj (Sl.one ((fun _=>Wd.row 0 rfl) w hw)) (aj rfl (aj rfl aJ))))))) rfl rfl rfl) (fun _=>(fun _=>Wd.aV [0,1,2,3,6,7,8] [0,1,2,3] rfl rfl rfl)) rfl fun _=>?_
          refine D.one (i:=4) (by kernel_rfl) rfl ?_
          refine Do.s (s.st (us:=[.int .i64 du.Port,.string du.Data,.int .i64 du.ar,.int .i64 du.ao]) (cs':=[.int .i64 du.Port,.string du.Data,.int .i64 du.ar,.int .i64 du.ao]) 4 _ rfl rfl rfl rfl (.inl aX) rfl rfl rfl rfl) (fun _=>(fun _=>Wd.aV [0,1,2,3,6,7,8] [0,1,2,3] rfl rfl rfl)) rfl fun _=>?_
          refine D.q (i:=5) rfl (by kernel_rfl) (fun _=>Wd.aV [0,1,2,3,6,7,8] [0,1,2,3] rfl rfl rfl) rfl (q.as rfl) rfl<|D.q (i:=6) rfl (by kernel_rfl) (fun _=>Wd.aV [0,1,2,3,6,7,8] [0,1,2,3] rfl rfl rfl) rfl (q.as rfl) rfl<|D.done (by kernel_rfl)<|?_
          refine R.mp (B':=[ah.row 52 z3 (r.Notes.take i4++r.Notes.drop (i4+1):List Note),ah.box b6 [.int .i64 du.Port,.string du.Data,.int .i64 du.ar,.int .i64 du.ao] 52,ah.box b5 [.int .i64 (((av r p 2 1).1).ID),.int .i64 (((av r p 2 1).1).ai),.int .i64 (((av r p 2 1).1).Rights),.int .i64 (((av r p 2 1).1).ar),.int .i64 (((av r p 2 1).1).From)] 39,ah.box b4 [.int .i64 du.Port,.string du.Data,.int .i64 du.ar,.int .i64 du.ao] 52,ah.box b3 [aD,az,z1,z3,.int .i64 r.ae,.int .i64 r.af] 30,ah.box b2 [.int .i64 p.ag,.int .i64 p.Slot] 33,ah.box b1 [aD,az,z1,z3,.int .i64 r.ae,.int .i64 r.af] 30,ah.held w own]) (fun _ hw=>hw.aZ 1 _ rfl rfl) ?_
          refine R.mp (B':=[ah.box b6 [.int .i64 du.Port,.string du.Data,.int .i64 du.ar,.int .i64 du.ao] 52,ah.box b5 [.int .i64 (((av r p 2 1).1).ID),.int .i64 (((av r p 2 1).1).ai),.int .i64 (((av r p 2 1).1).Rights),.int .i64 (((av r p 2 1).1).ar),.int .i64 (((av r p 2 1).1).From)] 39,ah.box b4 [.int .i64 du.Port,.string du.Data,.int .i64 du.ar,.int .i64 du.ao] 52,ah.box b3 [aD,az,z1,z3,.int .i64 r.ae,.int .i64 r.af] 30,ah.box b2 [.int .i64 p.ag,.int .i64 p.Slot] 33,ah.box b1 [aD,az,z1,z3,.int .i64 r.ae,.int .i64 r.af] 30,ah.held w own]) (fun _ hw=>hw.aZ 0 _ rfl rfl) ?_
          have hz:aE r p=((⟨r.ap,r.Things,bO r.Held (⟨p.ag,cE r.Held p.ag⟩:Place) du.ao,r.Notes.take i4++r.Notes.drop (i4+1),r.ae,r.af⟩:ay),du,cE r.Held p.ag,0):=by (unfold aE;first|(rw [if_neg (by assumption)];first|done|rfl)|(rw [if_pos (by assumption),dt,show decide ((0:Int) ≤ -1)=false from rfl];cases r.Notes[(-1:Int).toNat]? <;> rfl)|(rw [if_pos (by assumption),dt,Int.toNat_natCast,dP,decide_eq_true (by omega)];dsimp only;(repeat' split) <;> first|rfl|(exfalso;omega)))
          rw [hz]
          exact R.w4 (aD,az,z1,z3) [6] [2,3,1,0] rfl Tryz.results13 (RV.cell 3 rfl rfl au) (RV.cell 2 rfl rfl aX) (RV.tmp rfl) (RV.tmp rfl) rfl rfl rfl (kB rfl rfl rfl (gu rfl))
      ·
        refine R.q (q.gtr rfl rfl (decide_eq_false (by omega))) rfl<|R.nil ?_
        refine R.aH rfl rfl ?_
        refine R.reg rfl<|R.q (q.aS (off':=3) rfl aT rfl) rfl<|R.q (q.ld 5 rfl rfl a6 rfl) rfl<|?_
        refine R.s (B':=(fun aL:Value=>[ah.row 52 aL (r.Notes:List Note),ah.box b6 [.int .i64 du.Port,.string du.Data,.int .i64 du.ar,.int .i64 du.ao] 52,ah.box b5 [.int .i64 (((av r p 2 1).1).ID),.int .i64 (((av r p 2 1).1).ai),.int .i64 (((av r p 2 1).1).Rights),.int .i64 (((av r p 2 1).1).ar),.int .i64 (((av r p 2 1).1).From)] 39,ah.box b4 [.int .i64 0,.string (⟨#[]⟩),.int .i64 0,.int .i64 0] 52,ah.box b3 [.slice none 0 0,.slice none 0 0,.slice none 0 0,.slice none 0 0,.int .i64 0,.int .i64 0] 30,ah.box b2 [.int .i64 p.ag,.int .i64 p.Slot] 33,ah.box b1 [aD,az,aB,aA,.int .i64 r.ae,.int .i64 r.af] 30,ah.held w own])) (F':=(fun aL:Value=>[ah.ls aD (r.ap:List ao),ah.ls az (r.Things:List ai),ah.ls aB (r.Held:List Held),ah.ls aA (r.Notes:List Note)])) rfl (s.bE (B0:=[]) (Br:=[ah.box b6 [.int .i64 du.Port,.string du.Data,.int .i64 du.ar,.int .i64 du.ao] 52,ah.box b5 [.int .i64 (((av r p 2 1).1).ID),.int .i64 (((av r p 2 1).1).ai),.int .i64 (((av r p 2 1).1).Rights),.int .i64 (((av r p 2 1).1).ar),.int .i64 (((av r p 2 1).1).From)] 39,ah.box b4 [.int .i64 0,.string (⟨#[]⟩),.int .i64 0,.int .i64 0] 52,ah.box b3 [.slice none 0 0,.slice none 0 0,.slice none 0 0,.slice none 0 0,.int .i64 0,.int .i64 0] 30,ah.box b2 [.int .i64 p.ag,.int .i64 p.Slot] 33,ah.box b1 [aD,az,aB,aA,.int .i64 r.ae,.int .i64 r.af] 30,ah.held w own]) (F0:=[ah.ls aA (r.Notes:List Note)]) [0,1,2,3,4,5,6] [3] (fun aL:Value=>aL) (fun aL:Value=>[ah.row 52 aL (r.Notes:List Note)]) (fun aL:Value=>[]) rfl rfl rfl kH rfl rfl (fun w own hw H=>dH aA (r.Notes) w own H (by first|omega|assumption|(simp;done)|(simp;omega))) rfl) fun z4=>?_
        refine R.u 2 rfl<|R.q (q.add (r:=((i4+1:Nat):Int)) rfl rfl (wr (by omega))) rfl<|?_
        refine R.s (B':=(fun aL:Value=>[ah.row 52 aL ((r.Notes.take i4++r.Notes.drop (i4+1)):List Note),ah.box b6 [.int .i64 du.Port,.string du.Data,.int .i64 du.ar,.int .i64 du.ao] 52,ah.box b5 [.int .i64 (((av r p 2 1).1).ID),.int .i64 (((av r p 2 1).1).ai),.int .i64 (((av r p 2 1).1).Rights),.int .i64 (((av r p 2 1).1).ar),.int .i64 (((av r p 2 1).1).From)] 39,ah.box b4 [.int .i64 0,.string (⟨#[]⟩),.int .i64 0,.int .i64 0] 52,ah.box b3 [.slice none 0 0,.slice none 0 0,.slice none 0 0,.slice none 0 0,.int .i64 0,.int .i64 0] 30,ah.box b2 [.int .i64 p.ag,.int .i64 p.Slot] 33,ah.box b1 [aD,az,aB,aA,.int .i64 r.ae,.int .i64 r.af] 30,ah.held w own])) (F':=(fun aL:Value=>[ah.ls aD (r.ap:List ao),ah.ls az (r.Things:List ai),ah.ls aB (r.Held:List Held),ah.ls aA (r.Notes:List Note)])) rfl (s.bE (B0:=[ah.row 52 z4 (r.Notes:List Note)]) (Br:=[ah.box b6 [.int .i64 du.Port,.string du.Data,.int .i64 du.ar,.int .i64 du.ao] 52,ah.box b5 [.int .i64 (((av r p 2 1).1).ID),.int .i64 (((av r p 2 1).1).ai),.int .i64 (((av r p 2 1).1).Rights),.int .i64 (((av r p 2 1).1).ar),.int .i64 (((av r p 2 1).1).From)] 39,ah.box b4 [.int .i64 0,.string (⟨#[]⟩),.int .i64 0,.int .i64 0] 52,ah.box b3 [.slice none 0 0,.slice none 0 0,.slice none 0 0,.slice none 0 0,.int .i64 0,.int .i64 0] 30,ah.box b2 [.int .i64 p.ag,.int .i64 p.Slot] 33,ah.box b1 [aD,az,aB,aA,.int .i64 r.ae,.int .i64 r.af] 30,ah.held w own]) (F0:=[]) [0,1,2,3,4,5,6,7] [] (fun aL:Value=>aL) (fun aL:Value=>[ah.row 52 aL ((r.Notes.take i4++r.Notes.drop (i4+1)):List Note)]) (fun aL:Value=>[]) rfl rfl rfl uP rfl rfl (fun w own hw H=>jB z4 (r.Notes) (i4) ((i4+1)) w own H (by omega)) rfl) fun z5=>?_
        refine R.q (q.aS (off':=3) rfl aT rfl) rfl<|?_
        refine R.s rfl (s.cS (us:=[z5]) (cs':=[aD,az,aB,z5,.int .i64 r.ae,.int .i64 r.af]) 6 _ rfl rfl rfl (fun w hw=>Sl.bJ ((fun _=>Wd.row 0 rfl) w hw)) (.inr ⟨a6,rfl⟩) (fun w hw=>(aj (Sl.one ((fun _=>Wd.row 0 rfl) w hw)) aJ)) rfl rfl rfl) fun _=>?_
        refine R.nil ?_
        refine R.gD (fuel:=7) (Wd w (blks []++own) [ah.row 52 z5 (r.Notes.take i4++r.Notes.drop (i4+1):List Note),ah.box b6 [.int .i64 du.Port,.string du.Data,.int .i64 du.ar,.int .i64 du.ao] 52,ah.box b5 [.int .i64 (((av r p 2 1).1).ID),.int .i64 (((av r p 2 1).1).ai),.int .i64 (((av r p 2 1).1).Rights),.int .i64 (((av r p 2 1).1).ar),.int .i64 (((av r p 2 1).1).From)] 39,ah.box b2 [.int .i64 p.ag,.int .i64 p.Slot] 33,ah.box b1 [aD,az,aB,z5,.int .i64 r.ae,.int .i64 r.af] 30,ah.held w own] [ah.ls aD (r.ap:List ao),ah.ls az (r.Things:List ai),ah.ls aB (r.Held:List Held),ah.ls aA (r.Notes:List Note)]) rfl mixed rfl ?_
        refine D.q (i:=0) rfl (by kernel_rfl) (fun _=>Wd.aV [0,1,2,5,6,7] [0,1,2,3] rfl rfl rfl) rfl (q.bI 4 rfl rfl au) rfl<|D.q (i:=1) rfl (by kernel_rfl) (fun _=>Wd.aV [0,1,2,5,6,7] [0,1,2,3] rfl rfl rfl) rfl (q.bI 1 rfl rfl aX) rfl<|D.q (i:=2) rfl (by kernel_rfl) (fun _=>Wd.aV [0,1,2,5,6,7] [0,1,2,3] rfl rfl rfl) rfl (q.mv rfl) rfl<|?_
        refine D.one (i:=3) (by kernel_rfl) rfl ?_
        refine Do.s (s.cS (us:=[aD,az,aB,z5,.int .i64 r.ae,.int .i64 r.af]) (cs':=[aD,az,aB,z5,.int .i64 r.ae,.int .i64 r.af]) 4 _ rfl rfl rfl (fun _ _=>rfl) (.inl au) (fun w hw=>(aj (Sl.one ((fun _=>Wd.aO 0 rfl) w hw)) (aj (Sl.one ((fun _=>Wd.aO 1 rfl) w hw)) (aj (Sl.one ((fun _=>Wd.aO 2 rfl) w hw)) (aj (Sl.one ((fun _=>Wd.row 0 rfl) w hw)) (aj rfl (aj rfl aJ))))))) rfl rfl rfl) (fun _=>(fun _=>Wd.aV [0,1,2,5,6,7] [0,1,2,3] rfl rfl rfl)) rfl fun _=>?_
        refine D.one (i:=4) (by kernel_rfl) rfl ?_
        refine Do.s (s.st (us:=[.int .i64 du.Port,.string du.Data,.int .i64 du.ar,.int .i64 du.ao]) (cs':=[.int .i64 du.Port,.string du.Data,.int .i64 du.ar,.int .i64 du.ao]) 3 _ rfl rfl rfl rfl (.inl aX) rfl rfl rfl rfl) (fun _=>(fun _=>Wd.aV [0,1,2,5,6,7] [0,1,2,3] rfl rfl rfl)) rfl fun _=>?_
        refine D.q (i:=5) rfl (by kernel_rfl) (fun _=>Wd.aV [0,1,2,5,6,7] [0,1,2,3] rfl rfl rfl) rfl (q.as rfl) rfl<|D.q (i:=6) rfl (by kernel_rfl) (fun _=>Wd.aV [0,1,2,5,6,7] [0,1,2,3] rfl rfl rfl) rfl (q.as rfl) rfl<|D.done (by kernel_rfl)<|?_
        refine R.mp (B':=[ah.box b6 [.int .i64 du.Port,.string du.Data,.int .i64 du.ar,.int .i64 du.ao] 52,ah.box b5 [.int .i64 (((av r p 2 1).1).ID),.int .i64 (((av r p 2 1).1).ai),.int .i64 (((av r p 2 1).1).Rights),.int .i64 (((av r p 2 1).1).ar),.int .i64 (((av r p 2 1).1).From)] 39,ah.box b4 [.int .i64 du.Port,.string du.Data,.int .i64 du.ar,.int .i64 du.ao] 52,ah.box b3 [aD,az,aB,z5,.int .i64 r.ae,.int .i64 r.af] 30,ah.box b2 [.int .i64 p.ag,.int .i64 p.Slot] 33,ah.box b1 [aD,az,aB,z5,.int .i64 r.ae,.int .i64 r.af] 30,ah.held w own]) (fun _ hw=>hw.aZ 0 _ rfl rfl) ?_
        have hz:aE r p=((⟨r.ap,r.Things,r.Held,r.Notes.take i4++r.Notes.drop (i4+1),r.ae,r.af⟩:ay),du,-1,0):=by (unfold aE;first|(rw [if_neg (by assumption)];first|done|rfl)|(rw [if_pos (by assumption),dt,show decide ((0:Int) ≤ -1)=false from rfl];cases r.Notes[(-1:Int).toNat]? <;> rfl)|(rw [if_pos (by assumption),dt,Int.toNat_natCast,dP,decide_eq_true (by omega)];dsimp only;(repeat' split) <;> first|rfl|(exfalso;omega)))
        rw [hz]
        exact R.w4 (aD,az,aB,z5) [6] [1,2,3,0] rfl Tryz.results13 (RV.cell 3 rfl rfl au) (RV.cell 2 rfl rfl aX) (RV.tmp rfl) (RV.tmp rfl) rfl rfl rfl (kB rfl rfl rfl (gu rfl))
  ·
    refine R.q (q.fI rfl rfl Tryz.underlying41 (by omega)) rfl<|R.nil ?_
    refine R.aI rfl rfl ?_
    refine R.reg rfl<|R.q (q.build (cs:=[.slice none 0 0,.slice none 0 0,.slice none 0 0,.slice none 0 0,.int .i64 0,.int .i64 0]) ck rfl rfl) rfl<|R.q (q.build (cs:=[.int .i64 0,.string (⟨#[]⟩),.int .i64 0,.int .i64 0]) ll rfl rfl) rfl<|R.u 1 rfl<|?_
    refine R.s rfl (s.st (us:=[.slice none 0 0,.slice none 0 0,.slice none 0 0,.slice none 0 0,.int .i64 0,.int .i64 0]) (cs':=[.slice none 0 0,.slice none 0 0,.slice none 0 0,.slice none 0 0,.int .i64 0,.int .i64 0]) 2 _ rfl rfl rfl rfl (.inl au) rfl rfl rfl rfl) fun _=>?_
    refine R.s rfl (s.st (us:=[.int .i64 0,.string (⟨#[]⟩),.int .i64 0,.int .i64 0]) (cs':=[.int .i64 0,.string (⟨#[]⟩),.int .i64 0,.int .i64 0]) 1 _ rfl rfl rfl rfl (.inl aX) rfl rfl rfl rfl) fun _=>?_
    refine R.u 2 rfl<|R.nil ?_
    refine R.mp (fun _ hw=>hw.aN (α:=ao)) ?_
    refine R.mp (fun _ hw=>hw.aN (α:=ai)) ?_
    refine R.mp (fun _ hw=>hw.aN (α:=Held)) ?_
    refine R.mp (fun _ hw=>hw.aN (α:=Note)) ?_
    have hz:aE r p=((⟨[],[],[],[],0,0⟩:ay),(⟨0,⟨#[]⟩,0,0⟩:Note),0,(av r p 2 1).2.2):=by (unfold aE;first|(rw [if_neg (by assumption)];first|done|rfl)|(rw [if_pos (by assumption),dt,show decide ((0:Int) ≤ -1)=false from rfl];cases r.Notes[(-1:Int).toNat]? <;> rfl)|(rw [if_pos (by assumption),dt,Int.toNat_natCast,dP,decide_eq_true (by omega)];dsimp only;(repeat' split) <;> first|rfl|(exfalso;omega)))
    rw [hz]
    exact R.w4 ((.slice none 0 0),(.slice none 0 0),(.slice none 0 0),(.slice none 0 0)) [5] [3,2,1,0] rfl Tryz.results13 (RV.cell 2 rfl rfl au) (RV.cell 1 rfl rfl aX) (RV.tmp rfl) (RV.tmp rfl) rfl rfl rfl (kB rfl rfl rfl rfl)
end Go.Proofs.YtpipachmngdegaaGreat
end
