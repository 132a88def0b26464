import Derived.Test.YtpipachmngdegaaGreatRSP47
section
namespace Go.Proofs.YtpipachmngdegaaGreat
open Go Go.RowKit
set_option linter.unusedVariables false
set_option linter.unusedSimpArgs false
set_option maxRecDepth 100000
theorem qy (aD az aB aA:Value)(r:ay)(w:World)(own:List Nat)(H:Wd w (blks []++own) ([]++[ah.held w own]) [ah.ls aD (r.ap:List ao),ah.ls az (r.Things:List ai),ah.ls aB (r.Held:List Held),ah.ls aA (r.Notes:List Note)] w)(hk:Ok r)(hI:Inv r):Calls Tryz.prog 17 #[.agg #[aD,az,aB,aA,.int .i64 r.ae,.int .i64 r.af]] w fun e w' => ∃z:Value×Value×Value×Value,e = .returned (.agg #[z.1,z.2.1,z.2.2.1,z.2.2.2,.int .i64 (((bG r)).ae),.int .i64 (((bG r)).af)])∧Wd w (blks []++own) ([]++[ah.held w own]) [ah.ls z.1 (((bG r)).ap:List ao),ah.ls z.2.1 (((bG r)).Things:List ai),ah.ls z.2.2.1 (((bG r)).Held:List Held),ah.ls z.2.2.2 (((bG r)).Notes:List Note)] w':=by
  have cw:=H.bS 0 rfl
  have bY:=H.bS 1 rfl
  have cI:=H.bS 2 rfl
  have cx:=H.bS 3 rfl
  have bw:=hk.wl;have bt:=hk.tl;have bh:=hk.hl;have bn:=hk.nl;have lS:=hk.w0;have lT:=hk.w1;have lU:=hk.t0;have lV:=hk.t1
  refine R.cC (n:=31) (vs:=[.agg #[aD,az,aB,aA,.int .i64 r.ae,.int .i64 r.af]]) (B:=[ah.held w own]) [(0,.agg #[aD,az,aB,aA,.int .i64 r.ae,.int .i64 r.af])] Tryz.func17 rfl rfl rfl rfl H ?_
  refine R.reg rfl<|?_
  refine R.s rfl (s.box (cs:=[aD,az,aB,aA,.int .i64 r.ae,.int .i64 r.af]) rfl rfl rfl) fun b1=>?_
  refine R.s rfl (s.alloc (cs:=[.slice none 0 0,.slice none 0 0,.slice none 0 0,.slice none 0 0,.int .i64 0,.int .i64 0]) bR rfl rfl) fun b2=>?_
  refine R.nil ?_
  refine R.reg rfl<|R.u 1 rfl<|R.nil ?_
  refine R.loop (fun g_:Nat×Value×(List ao)=>[(1,.pointer (some ⟨b1,0,none⟩)),(2,.pointer (some ⟨b2,0,none⟩)),(3,.int .i64 (g_.1:Int))]) (fun g_:Nat×Value×(List ao)=>[ah.box b2 [.slice none 0 0,.slice none 0 0,.slice none 0 0,.slice none 0 0,.int .i64 0,.int .i64 0] 30,ah.box b1 [g_.2.1,az,aB,aA,.int .i64 r.ae,.int .i64 r.af] 30,ah.held w own]) (fun g_:Nat×Value×(List ao)=>[ah.ls g_.2.1 (g_.2.2:List ao),ah.ls aD (r.ap:List ao),ah.ls az (r.Things:List ai),ah.ls aB (r.Held:List Held),ah.ls aA (r.Notes:List Note)]) (fun g_:Nat×Value×(List ao)=>g_.1≤r.Notes.length∧g_.2.2=eW (r.Notes.take g_.1) r.ap) (fun g_:Nat×Value×(List ao)=>r.Notes.length-g_.1) (0,aD,r.ap) rfl (by exact ⟨by omega,rfl⟩) ⟨rfl,rfl,rfl,trivial⟩ (fun _=>Wd.pick [0,1,2] [0,0,1,2,3] rfl rfl rfl) ?_
  rintro ⟨j,vw,ws⟩ ⟨hj1,HW⟩
  dsimp only at *
  have hws:ws.length≤2000:=by rw [HW];exact Nat.le_trans (mL _ _) hk.wl
  have hwt:ct ws:=by rw [HW];exact jF _ _ hI.tree
  refine R.reg rfl<|R.u 1 rfl<|R.q (q.aS (off':=3) rfl aT rfl) rfl<|R.q (q.ld 1 rfl rfl a6 rfl) rfl<|R.q (q.len' (fun _=>Wd.aO 4 rfl) rfl Tryz.underlying28) rfl<|?_
  by_cases h1:j<r.Notes.length
  ·
    refine R.q (q.lss rfl rfl (decide_eq_true (by omega))) rfl<|R.nil ?_
    refine R.aI rfl rfl ?_
    refine R.reg rfl<|R.q (q.aS (off':=3) rfl aT rfl) rfl<|R.q (q.ld 1 rfl rfl a6 rfl) rfl<|R.u 1 rfl<|?_
    obtain ⟨x1,hx1⟩:∃z,r.Notes[j]? = some z:=⟨_,List.getElem?_eq_getElem (by omega)⟩
    refine R.q (q.idx (i:=j) (fun _=>Wd.aO 4 rfl) rfl rfl cB rfl hx1) rfl<|R.q (q.eJ (j':=3) (fun _=>Wd.aO 4 rfl) hx1 rfl cR rfl) rfl<|R.q (q.jU (fun _=>Wd.aO 4 rfl) hx1 rfl aG rfl) rfl<|?_
    by_cases h2:0<x1.ao
    ·
      refine R.q (q.gtr rfl rfl (decide_eq_true (by omega))) rfl<|R.nil ?_
      refine R.aI rfl rfl ?_
      refine R.gD (fuel:=11) (Wd w (blks []++own) [ah.box b2 [.slice none 0 0,.slice none 0 0,.slice none 0 0,.slice none 0 0,.int .i64 0,.int .i64 0] 30,ah.held w own] [ah.ls vw (ws:List ao),ah.ls aD (r.ap:List ao),ah.ls az (r.Things:List ai),ah.ls aB (r.Held:List Held),ah.ls aA (r.Notes:List Note)]) rfl mixed rfl ?_
      refine D.q (i:=0) rfl (by kernel_rfl) (fun _=>Wd.aV [0,2] [0,1,2,3,4] rfl rfl rfl) rfl (q.aS (off':=0) rfl a8 rfl) rfl<|D.q (i:=2) rfl (by kernel_rfl) (fun _=>Wd.aV [0,2] [0,1,2,3,4] rfl rfl rfl) rfl (q.aS (off':=3) rfl aT rfl) rfl<|D.q (i:=4) rfl (by kernel_rfl) (fun _=>Wd.aV [0,2] [0,1,2,3,4] rfl rfl rfl) rfl (q.mv rfl) rfl<|?_
      refine D.two (i:=1) (j:=3) (by kernel_rfl) rfl rfl ?_ ?_
      ·
        refine Do.s (s.c (Qt.a (q.ld 1 rfl rfl bN rfl)) rfl) (fun _=>(fun _=>Wd.aV [0,2] [0,1,2,3,4] rfl rfl rfl)) rfl fun _=>?_
        refine D.one (i:=3) (by kernel_rfl) rfl ?_
        refine Do.s (s.c (Qt.a (q.ld 1 rfl rfl a6 rfl)) rfl) (fun _=>(fun _=>Wd.aV [0,2] [0,1,2,3,4] rfl rfl rfl)) rfl fun _=>?_
        refine D.q (i:=5) rfl (by kernel_rfl) (fun _=>Wd.aV [0,2] [0,1,2,3,4] rfl rfl rfl) rfl (q.idx (i:=j) (fun _=>Wd.aO 4 rfl) rfl rfl cB rfl hx1) rfl<|D.q (i:=6) rfl (by kernel_rfl) (fun _=>Wd.aV [0,2] [0,1,2,3,4] rfl rfl rfl) rfl (q.eJ (j':=3) (fun _=>Wd.aO 4 rfl) hx1 rfl cR rfl) rfl<|D.q (i:=7) rfl (by kernel_rfl) (fun _=>Wd.aV [0,2] [0,1,2,3,4] rfl rfl rfl) rfl (q.jU (fun _=>Wd.aO 4 rfl) hx1 rfl aG rfl) rfl<|?_
        refine D.one (i:=8) (by kernel_rfl) rfl ?_
        refine Do.s (s.jk qP rfl rfl (fun w hw=>gH _ (ws) (x1.ao) w ((fun _=>Wd.aO 0 rfl) w hw) (by first|omega|assumption|(simp;done)|(simp;omega)|(dsimp only [aF];omega)) (by first|assumption|exact hI.tree|exact hP.tree)) rfl) (fun _=>(fun _=>Wd.aV [1,3] [0,1,2,3,4] rfl rfl rfl)) rfl fun v1=>?_
        refine D.q (i:=9) rfl (by kernel_rfl) (fun _=>Wd.aV [1,3] [0,1,2,3,4] rfl rfl rfl) rfl (q.aS (off':=0) rfl a8 rfl) rfl<|?_
        refine D.one (i:=10) (by kernel_rfl) rfl ?_
        refine Do.s (s.cS (us:=[v1]) (cs':=[v1,az,aB,aA,.int .i64 r.ae,.int .i64 r.af]) 2 _ rfl rfl rfl (fun w hw=>Sl.bJ ((fun _=>Wd.row 0 rfl) w hw)) (.inr ⟨bN,rfl⟩) (fun w hw=>(aj (Sl.one ((fun _=>Wd.row 0 rfl) w hw)) aJ)) rfl rfl rfl) (fun _=>(fun _=>Wd.aV [1,3] [0,1,2,3,4] rfl rfl rfl)) rfl fun _=>?_
        refine D.done (by kernel_rfl)<|?_
        refine R.reg rfl<|R.u 1 rfl<|R.q (q.add (r:=((j+1:Nat):Int)) rfl rfl (wr (by omega))) rfl<|R.u 1 rfl<|R.nil ?_
        refine R.mp (B':=[ah.box b2 [.slice none 0 0,.slice none 0 0,.slice none 0 0,.slice none 0 0,.int .i64 0,.int .i64 0] 30,ah.box b1 [v1,az,aB,aA,.int .i64 r.ae,.int .i64 r.af] 30,ah.held w own]) (fun _ hw=>hw.aZ 0 _ rfl rfl) ?_
        refine R.back (j+1,v1,(without ws x1.ao)) rfl (by (exact ⟨by omega,by rw [fx hx1,if_pos (by omega),HW]⟩)) (by dsimp only;omega) ⟨rfl,rfl,rfl,trivial⟩ (fun _=>Wd.aV [0,1,2] [0,2,3,4,5] rfl rfl rfl)
      ·
        refine Do.s (s.c (Qt.a (q.ld 1 rfl rfl a6 rfl)) rfl) (fun _=>(fun _=>Wd.aV [0,2] [0,1,2,3,4] rfl rfl rfl)) rfl fun _=>?_
        refine D.q (i:=5) rfl (by kernel_rfl) (fun _=>Wd.aV [0,2] [0,1,2,3,4] rfl rfl rfl) rfl (q.idx (i:=j) (fun _=>Wd.aO 4 rfl) rfl rfl cB rfl hx1) rfl<|D.q (i:=6) rfl (by kernel_rfl) (fun _=>Wd.aV [0,2] [0,1,2,3,4] rfl rfl rfl) rfl (q.eJ (j':=3) (fun _=>Wd.aO 4 rfl) hx1 rfl cR rfl) rfl<|D.q (i:=7) rfl (by kernel_rfl) (fun _=>Wd.aV [0,2] [0,1,2,3,4] rfl rfl rfl) rfl (q.jU (fun _=>Wd.aO 4 rfl) hx1 rfl aG rfl) rfl<|?_
        refine D.one (i:=1) (by kernel_rfl) rfl ?_
        refine Do.s (s.c (Qt.a (q.ld 1 rfl rfl bN rfl)) rfl) (fun _=>(fun _=>Wd.aV [0,2] [0,1,2,3,4] rfl rfl rfl)) rfl fun _=>?_
        refine D.one (i:=8) (by kernel_rfl) rfl ?_
        refine Do.s (s.jk qP rfl rfl (fun w hw=>gH _ (ws) (x1.ao) w ((fun _=>Wd.aO 0 rfl) w hw) (by first|omega|assumption|(simp;done)|(simp;omega)|(dsimp only [aF];omega)) (by first|assumption|exact hI.tree|exact hP.tree)) rfl) (fun _=>(fun _=>Wd.aV [1,3] [0,1,2,3,4] rfl rfl rfl)) rfl fun v2=>?_
        refine D.q (i:=9) rfl (by kernel_rfl) (fun _=>Wd.aV [1,3] [0,1,2,3,4] rfl rfl rfl) rfl (q.aS (off':=0) rfl a8 rfl) rfl<|?_
        refine D.one (i:=10) (by kernel_rfl) rfl ?_
        refine Do.s (s.cS (us:=[v2]) (cs':=[v2,az,aB,aA,.int .i64 r.ae,.int .i64 r.af]) 2 _ rfl rfl rfl (fun w hw=>Sl.bJ ((fun _=>Wd.row 0 rfl) w hw)) (.inr ⟨bN,rfl⟩) (fun w hw=>(aj (Sl.one ((fun _=>Wd.row 0 rfl) w hw)) aJ)) rfl rfl rfl) (fun _=>(fun _=>Wd.aV [1,3] [0,1,2,3,4] rfl rfl rfl)) rfl fun _=>?_
        refine D.done (by kernel_rfl)<|?_
        refine R.reg rfl<|R.u 1 rfl<|R.q (q.add (r:=((j+1:Nat):Int)) rfl rfl (wr (by omega))) rfl<|R.u 1 rfl<|R.nil ?_
        refine R.mp (B':=[ah.box b2 [.slice none 0 0,.slice none 0 0,.slice none 0 0,.slice none 0 0,.int .i64 0,.int .i64 0] 30,ah.box b1 [v2,az,aB,aA,.int .i64 r.ae,.int .i64 r.af] 30,ah.held w own]) (fun _ hw=>hw.aZ 0 _ rfl rfl) ?_
        refine R.back (j+1,v2,(without ws x1.ao)) rfl (by (exact ⟨by omega,by rw [fx hx1,if_pos (by omega),HW]⟩)) (by dsimp only;omega) ⟨rfl,rfl,rfl,trivial⟩ (fun _=>Wd.aV [0,1,2] [0,2,3,4,5] rfl rfl rfl)
    ·
      refine R.q (q.gtr rfl rfl (decide_eq_false (by omega))) rfl<|R.nil ?_
      refine R.aH rfl rfl ?_
      refine R.reg rfl<|R.u 1 rfl<|R.q (q.add (r:=((j+1:Nat):Int)) rfl rfl (wr (by omega))) rfl<|R.u 1 rfl<|R.nil ?_
      refine R.back (j+1,vw,ws) rfl (by (exact ⟨by omega,by rw [fx hx1,if_neg (by omega),HW]⟩)) (by dsimp only;omega) ⟨rfl,rfl,rfl,trivial⟩ (fun _=>Wd.aV [0,1,2] [0,1,2,3,4] rfl rfl rfl)
  ·
    refine R.q (q.lss rfl rfl (decide_eq_false (by omega))) rfl<|R.nil ?_
    refine R.aH rfl rfl ?_
    have hwq:ws=eW r.Notes r.ap:=by rw [HW,List.take_of_length_le (by omega)]
    have hok:Ok (⟨ws,r.Things,r.Held,[],r.ae,r.af⟩:ay):=⟨hws,hk.tl,hk.hl,Nat.zero_le _,by rw [hwq];exact nF _ _ hk.ri,hk.w0,hk.w1,hk.t0,hk.t1⟩
    have zZ:Pre (⟨ws,r.Things,r.Held,[],r.ae,r.af⟩:ay):=by rw [hwq];exact hI.r6
    refine R.reg rfl<|R.q (q.aS (off':=3) rfl aT rfl) rfl<|?_
    refine R.s rfl (s.st (us:=[.slice none 0 0]) (cs':=[vw,az,aB,.slice none 0 0,.int .i64 r.ae,.int .i64 r.af]) 1 _ rfl rfl rfl rfl (.inr ⟨a6,rfl⟩) rfl rfl rfl rfl) fun _=>?_
    refine R.nil ?_
    refine R.reg rfl<|R.q (q.bI 1 rfl rfl au) rfl<|?_
    refine R.s (B':=(fun g_:Value×Value×Value×Value=>[ah.box b2 [.slice none 0 0,.slice none 0 0,.slice none 0 0,.slice none 0 0,.int .i64 0,.int .i64 0] 30,ah.box b1 [vw,az,aB,.slice none 0 0,.int .i64 r.ae,.int .i64 r.af] 30,ah.held w own])) (F':=(fun g_:Value×Value×Value×Value=>[ah.ls g_.1 (((aP (⟨ws,r.Things,r.Held,[],r.ae,r.af⟩:ay))).ap:List ao),ah.ls g_.2.1 (((aP (⟨ws,r.Things,r.Held,[],r.ae,r.af⟩:ay))).Things:List ai),ah.ls g_.2.2.1 (((aP (⟨ws,r.Things,r.Held,[],r.ae,r.af⟩:ay))).Held:List Held),ah.ls g_.2.2.2 (((aP (⟨ws,r.Things,r.Held,[],r.ae,r.af⟩:ay))).Notes:List Note),ah.ls (.slice none 0 0) ([]:List Note),ah.ls vw (ws:List ao),ah.ls aD (r.ap:List ao),ah.ls az (r.Things:List ai),ah.ls aB (r.Held:List Held),ah.ls aA (r.Notes:List Note)])) rfl (s.pre (B2:=[ah.box b2 [.slice none 0 0,.slice none 0 0,.slice none 0 0,.slice none 0 0,.int .i64 0,.int .i64 0] 30,ah.box b1 [vw,az,aB,.slice none 0 0,.int .i64 r.ae,.int .i64 r.af] 30,ah.held w own]) (F2:=[ah.ls (.slice none 0 0) ([]:List Note),ah.ls vw (ws:List ao),ah.ls aD (r.ap:List ao),ah.ls az (r.Things:List ai),ah.ls aB (r.Held:List Held),ah.ls aA (r.Notes:List Note)]) (fun _ hw=>hw.aN (α:=Note)) (s.bE (B0:=[]) (Br:=[ah.box b2 [.slice none 0 0,.slice none 0 0,.slice none 0 0,.slice none 0 0,.int .i64 0,.int .i64 0] 30,ah.box b1 [vw,az,aB,.slice none 0 0,.int .i64 r.ae,.int .i64 r.af] 30,ah.held w own]) (F0:=[ah.ls vw (ws:List ao),ah.ls az (r.Things:List ai),ah.ls aB (r.Held:List Held),ah.ls (.slice none 0 0) ([]:List Note)]) [0,1,2] [1,3,4,0] (fun g_:Value×Value×Value×Value => .agg #[g_.1,g_.2.1,g_.2.2.1,g_.2.2.2,.int .i64 (((aP (⟨ws,r.Things,r.Held,[],r.ae,r.af⟩:ay))).ae),.int .i64 (((aP (⟨ws,r.Things,r.Held,[],r.ae,r.af⟩:ay))).af)]) (fun g_:Value×Value×Value×Value=>[]) (fun g_:Value×Value×Value×Value=>[ah.ls g_.1 (((aP (⟨ws,r.Things,r.Held,[],r.ae,r.af⟩:ay))).ap:List ao),ah.ls g_.2.1 (((aP (⟨ws,r.Things,r.Held,[],r.ae,r.af⟩:ay))).Things:List ai),ah.ls g_.2.2.1 (((aP (⟨ws,r.Things,r.Held,[],r.ae,r.af⟩:ay))).Held:List Held),ah.ls g_.2.2.2 (((aP (⟨ws,r.Things,r.Held,[],r.ae,r.af⟩:ay))).Notes:List Note)]) rfl rfl rfl sG rfl rfl (fun w own hw H=>kg vw az aB (.slice none 0 0) ((⟨ws,r.Things,r.Held,[],r.ae,r.af⟩:ay)) w own H (by assumption) (by first|assumption|exact hI.toPre)) rfl)) ?_
    rintro ⟨z1,z2,z3,z4⟩
    dsimp only
    refine R.s rfl (s.cS (us:=[z1,z2,z3,z4,.int .i64 ((aP (⟨ws,r.Things,r.Held,[],r.ae,r.af⟩:ay)).ae),.int .i64 ((aP (⟨ws,r.Things,r.Held,[],r.ae,r.af⟩:ay)).af)]) (cs':=[z1,z2,z3,z4,.int .i64 ((aP (⟨ws,r.Things,r.Held,[],r.ae,r.af⟩:ay)).ae),.int .i64 ((aP (⟨ws,r.Things,r.Held,[],r.ae,r.af⟩:ay)).af)]) 0 _ rfl rfl rfl (fun _ _=>rfl) (.inl au) (fun w hw=>(aj (Sl.one ((fun _=>Wd.aO 0 rfl) w hw)) (aj (Sl.one ((fun _=>Wd.aO 1 rfl) w hw)) (aj (Sl.one ((fun _=>Wd.aO 2 rfl) w hw)) (aj (Sl.one ((fun _=>Wd.aO 3 rfl) w hw)) (aj rfl (aj rfl aJ))))))) rfl rfl rfl) fun _=>?_
    refine R.nil ?_
    have hz:bG r=(aP (⟨ws,r.Things,r.Held,[],r.ae,r.af⟩:ay)):=by (unfold bG;rw [hwq])
    rw [hz]
    exact R.w1 (z1,z2,z3,z4) [2] [0,1,2,3] rfl Tryz.results17 (RV.cell 0 rfl rfl au) rfl rfl rfl rfl
set_option maxRecDepth 100000 in
set_option maxHeartbeats 2000000 in
theorem ux (aD az aB aA:Value)(r:ay)(a:ef)(w:World)(own:List Nat)(H:Wd w (blks []++own) ([]++[ah.held w own]) [ah.ls aD (r.ap:List ao),ah.ls az (r.Things:List ai),ah.ls aB (r.Held:List Held),ah.ls aA (r.Notes:List Note)] w)(hk:Ok r)(hI:Inv r):Calls Tryz.prog 20 #[.agg #[aD,az,aB,aA,.int .i64 r.ae,.int .i64 r.af],.agg #[.string a.Kind,.string a.S,.int .i64 a.P.ag,.int .i64 a.P.Slot,.int .i64 a.Q.ag,.int .i64 a.Q.Slot,.int .i64 a.A,.int .i64 a.B,.int .i64 a.N,.int .u64 a.K,a.cv]] w fun e w' => ∃z:Value×Value×Value×Value,e = .returned (.tuple #[.agg #[z.1,z.2.1,z.2.2.1,z.2.2.2,.int .i64 ((((dC r a)).1).ae),.int .i64 ((((dC r a)).1).af)],.int .i64 (((dC r a)).2)])∧Wd w (blks []++own) ([]++[ah.held w own]) [ah.ls z.1 ((((dC r a)).1).ap:List ao),ah.ls z.2.1 ((((dC r a)).1).Things:List ai),ah.ls z.2.2.1 ((((dC r a)).1).Held:List Held),ah.ls z.2.2.2 ((((dC r a)).1).Notes:List Note)] w':=by
  have cw:=H.bS 0 rfl
  have bY:=H.bS 1 rfl
  have cI:=H.bS 2 rfl
  have cx:=H.bS 3 rfl
  refine R.cC (n:=100) (vs:=[.agg #[aD,az,aB,aA,.int .i64 r.ae,.int .i64 r.af],.agg #[.string a.Kind,.string a.S,.int .i64 a.P.ag,.int .i64 a.P.Slot,.int .i64 a.Q.ag,.int .i64 a.Q.Slot,.int .i64 a.A,.int .i64 a.B,.int .i64 a.N,.int .u64 a.K,a.cv]]) (B:=[ah.held w own]) [(0,.agg #[aD,az,aB,aA,.int .i64 r.ae,.int .i64 r.af]),(1,.agg #[.string a.Kind,.string a.S,.int .i64 a.P.ag,.int .i64 a.P.Slot,.int .i64 a.Q.ag,.int .i64 a.Q.Slot,.int .i64 a.A,.int .i64 a.B,.int .i64 a.N,.int .u64 a.K,a.cv])] Tryz.func20 rfl rfl rfl rfl H ?_
  refine R.reg rfl<|?_
  refine R.s rfl (s.box (cs:=[aD,az,aB,aA,.int .i64 r.ae,.int .i64 r.af]) rfl rfl rfl) fun b1=>?_
  refine R.s rfl (s.box (cs:=[.string a.Kind,.string a.S,.int .i64 a.P.ag,.int .i64 a.P.Slot,.int .i64 a.Q.ag,.int .i64 a.Q.Slot,.int .i64 a.A,.int .i64 a.B,.int .i64 a.N,.int .u64 a.K,a.cv]) rfl rfl rfl) fun b2=>?_
  refine R.s rfl (s.alloc (cs:=[.slice none 0 0,.slice none 0 0,.slice none 0 0,.slice none 0 0,.int .i64 0,.int .i64 0]) bR rfl rfl) fun b3=>?_
  refine R.u 1 rfl<|R.nil ?_
  refine R.reg rfl<|R.q (q.aS (off':=0) rfl nj rfl) rfl<|R.q (q.ld 1 rfl rfl fQ rfl) rfl<|R.nil ?_
  refine R.reg rfl<|?_
  by_cases h1:a.Kind=⟨#[109,97,107,101]⟩
  ·
    refine R.q (q.gA rfl rfl h1) rfl<|R.u 1 rfl<|R.nil ?_
    refine R.aI rfl rfl ?_
    refine R.reg rfl<|R.q (q.bI 2 rfl rfl au) rfl<|R.q (q.aS (off':=2) rfl cJ rfl) rfl<|R.q (q.lE (ds:=[.int .i64 a.P.ag,.int .i64 a.P.Slot]) 1 rfl rfl aM rfl) rfl<|R.q (q.aS (off':=6) rfl fy rfl) rfl<|R.q (q.ld 1 rfl rfl aG rfl) rfl<|?_
    refine R.s (B':=(fun g_:Value×Value×Value×Value=>[ah.box b3 [.slice none 0 0,.slice none 0 0,.slice none 0 0,.slice none 0 0,.int .i64 0,.int .i64 0] 30,ah.box b2 [.string a.Kind,.string a.S,.int .i64 a.P.ag,.int .i64 a.P.Slot,.int .i64 a.Q.ag,.int .i64 a.Q.Slot,.int .i64 a.A,.int .i64 a.B,.int .i64 a.N,.int .u64 a.K,a.cv] 37,ah.box b1 [aD,az,aB,aA,.int .i64 r.ae,.int .i64 r.af] 30,ah.held w own])) (F':=(fun g_:Value×Value×Value×Value=>[ah.ls g_.1 ((((aU r a.P a.A)).1).ap:List ao),ah.ls g_.2.1 ((((aU r a.P a.A)).1).Things:List ai),ah.ls g_.2.2.1 ((((aU r a.P a.A)).1).Held:List Held),ah.ls g_.2.2.2 ((((aU r a.P a.A)).1).Notes:List Note),ah.ls aD (r.ap:List ao),ah.ls az (r.Things:List ai),ah.ls aB (r.Held:List Held),ah.ls aA (r.Notes:List Note)])) rfl (s.bE (B0:=[]) (Br:=[ah.box b3 [.slice none 0 0,.slice none 0 0,.slice none 0 0,.slice none 0 0,.int .i64 0,.int .i64 0] 30,ah.box b2 [.string a.Kind,.string a.S,.int .i64 a.P.ag,.int .i64 a.P.Slot,.int .i64 a.Q.ag,.int .i64 a.Q.Slot,.int .i64 a.A,.int .i64 a.B,.int .i64 a.N,.int .u64 a.K,a.cv] 37,ah.box b1 [aD,az,aB,aA,.int .i64 r.ae,.int .i64 r.af] 30,ah.held w own]) (F0:=[ah.ls aD (r.ap:List ao),ah.ls az (r.Things:List ai),ah.ls aB (r.Held:List Held),ah.ls aA (r.Notes:List Note)]) [0,1,2,3] [0,1,2,3] (fun g_:Value×Value×Value×Value => .tuple #[.agg #[g_.1,g_.2.1,g_.2.2.1,g_.2.2.2,.int .i64 ((((aU r a.P a.A)).1).ae),.int .i64 ((((aU r a.P a.A)).1).af)],.int .i64 (((aU r a.P a.A)).2)]) (fun g_:Value×Value×Value×Value=>[]) (fun g_:Value×Value×Value×Value=>[ah.ls g_.1 ((((aU r a.P a.A)).1).ap:List ao),ah.ls g_.2.1 ((((aU r a.P a.A)).1).Things:List ai),ah.ls g_.2.2.1 ((((aU r a.P a.A)).1).Held:List Held),ah.ls g_.2.2.2 ((((aU r a.P a.A)).1).Notes:List Note)]) rfl rfl rfl wX rfl rfl (fun w own hw H=>sb aD az aB aA (r) (a.P) (a.A) w own H (by assumption) (by assumption)) rfl) ?_
    rintro ⟨z1,z2,z3,z4⟩
    dsimp only
    refine R.u 2 rfl<|?_
    refine R.s rfl (s.cS (us:=[z1,z2,z3,z4,.int .i64 (((aU r a.P a.A).1).ae),.int .i64 (((aU r a.P a.A).1).af)]) (cs':=[z1,z2,z3,z4,.int .i64 (((aU r a.P a.A).1).ae),.int .i64 (((aU r a.P a.A).1).af)]) 0 _ rfl rfl rfl (fun _ _=>rfl) (.inl au) (fun w hw=>(aj (Sl.one ((fun _=>Wd.aO 0 rfl) w hw)) (aj (Sl.one ((fun _=>Wd.aO 1 rfl) w hw)) (aj (Sl.one ((fun _=>Wd.aO 2 rfl) w hw)) (aj (Sl.one ((fun _=>Wd.aO 3 rfl) w hw)) (aj rfl (aj rfl aJ))))))) rfl rfl rfl) fun _=>?_
    refine R.u 1 rfl<|R.nil ?_
    have hz:dC r a=(((aU r a.P a.A).1),(aU r a.P a.A).2):=by (unfold dC;(repeat' split) <;> first|rfl|(exfalso;simp_all;done)|(simp_all;done))
    rw [hz]
    exact R.w2 (z1,z2,z3,z4) [3] [0,1,2,3] rfl Tryz.results20 (RV.cell 0 rfl rfl au) (RV.tmp rfl) rfl rfl rfl (cm rfl rfl)
  ·
    refine R.q (q.gB rfl rfl h1) rfl<|R.u 1 rfl<|R.nil ?_
    refine R.aH rfl rfl ?_
    refine R.reg rfl<|?_
    by_cases h2:a.Kind=⟨#[103,105,118,101]⟩
    ·
      refine R.q (q.gA rfl rfl h2) rfl<|R.u 1 rfl<|R.nil ?_
      refine R.aI rfl rfl ?_
      refine R.reg rfl<|R.q (q.bI 2 rfl rfl au) rfl<|R.q (q.aS (off':=2) rfl cJ rfl) rfl<|R.q (q.lE (ds:=[.int .i64 a.P.ag,.int .i64 a.P.Slot]) 1 rfl rfl aM rfl) rfl<|R.q (q.aS (off':=4) rfl nk rfl) rfl<|R.q (q.lE (ds:=[.int .i64 a.Q.ag,.int .i64 a.Q.Slot]) 1 rfl rfl aM rfl) rfl<|R.q (q.aS (off':=6) rfl fy rfl) rfl<|R.q (q.ld 1 rfl rfl aG rfl) rfl<|R.q (q.aS (off':=7) rfl jH rfl) rfl<|R.q (q.ld 1 rfl rfl aG rfl) rfl<|?_
      refine R.s (B':=(fun g_:Value×Value×Value×Value=>[ah.box b3 [.slice none 0 0,.slice none 0 0,.slice none 0 0,.slice none 0 0,.int .i64 0,.int .i64 0] 30,ah.box b2 [.string a.Kind,.string a.S,.int .i64 a.P.ag,.int .i64 a.P.Slot,.int .i64 a.Q.ag,.int .i64 a.Q.Slot,.int .i64 a.A,.int .i64 a.B,.int .i64 a.N,.int .u64 a.K,a.cv] 37,ah.box b1 [aD,az,aB,aA,.int .i64 r.ae,.int .i64 r.af] 30,ah.held w own])) (F':=(fun g_:Value×Value×Value×Value=>[ah.ls g_.1 ((((bD r a.P a.Q a.A a.B)).1).ap:List ao),ah.ls g_.2.1 ((((bD r a.P a.Q a.A a.B)).1).Things:List ai),ah.ls g_.2.2.1 ((((bD r a.P a.Q a.A a.B)).1).Held:List Held),ah.ls g_.2.2.2 ((((bD r a.P a.Q a.A a.B)).1).Notes:List Note),ah.ls aD (r.ap:List ao),ah.ls az (r.Things:List ai),ah.ls aB (r.Held:List Held),ah.ls aA (r.Notes:List Note)])) rfl (s.bE (B0:=[]) (Br:=[ah.box b3 [.slice none 0 0,.slice none 0 0,.slice none 0 0,.slice none 0 0,.int .i64 0,.int .i64 0] 30,ah.box b2 [.string a.Kind,.string a.S,.int .i64 a.P.ag,.int .i64 a.P.Slot,.int .i64 a.Q.ag,.int .i64 a.Q.Slot,.int .i64 a.A,.int .i64 a.B,.int .i64 a.N,.int .u64 a.K,a.cv] 37,ah.box b1 [aD,az,aB,aA,.int .i64 r.ae,.int .i64 r.af] 30,ah.held w own]) (F0:=[ah.ls aD (r.ap:List ao),ah.ls az (r.Things:List ai),ah.ls aB (r.Held:List Held),ah.ls aA (r.Notes:List Note)]) [0,1,2,3] [0,1,2,3] (fun g_:Value×Value×Value×Value => .tuple #[.agg #[g_.1,g_.2.1,g_.2.2.1,g_.2.2.2,.int .i64 ((((bD r a.P a.Q a.A a.B)).1).ae),.int .i64 ((((bD r a.P a.Q a.A a.B)).1).af)],.int .i64 (((bD r a.P a.Q a.A a.B)).2)]) (fun g_:Value×Value×Value×Value=>[]) (fun g_:Value×Value×Value×Value=>[ah.ls g_.1 ((((bD r a.P a.Q a.A a.B)).1).ap:List ao),ah.ls g_.2.1 ((((bD r a.P a.Q a.A a.B)).1).Things:List ai),ah.ls g_.2.2.1 ((((bD r a.P a.Q a.A a.B)).1).Held:List Held),ah.ls g_.2.2.2 ((((bD r a.P a.Q a.A a.B)).1).Notes:List Note)]) rfl rfl rfl wY rfl rfl (fun w own hw H=>sd aD az aB aA (r) (a.P) (a.Q) (a.A) (a.B) w own H (by assumption) (by assumption)) rfl) ?_
      rintro ⟨z5,z6,z7,z8⟩
      dsimp only
      refine R.u 2 rfl<|?_
      refine R.s rfl (s.cS (us:=[z5,z6,z7,z8,.int .i64 (((bD r a.P a.Q a.A a.B).1).ae),.int .i64 (((bD r a.P a.Q a.A a.B).1).af)]) (cs':=[z5,z6,z7,z8,.int .i64 (((bD r a.P a.Q a.A a.B).1).ae),.int .i64 (((bD r a.P a.Q a.A a.B).1).af)]) 0 _ rfl rfl rfl (fun _ _=>rfl) (.inl au) (fun w hw=>(aj (Sl.one ((fun _=>Wd.aO 0 rfl) w hw)) (aj (Sl.one ((fun _=>Wd.aO 1 rfl) w hw)) (aj (Sl.one ((fun _=>Wd.aO 2 rfl) w hw)) (aj (Sl.one ((fun _=>Wd.aO 3 rfl) w hw)) (aj rfl (aj rfl aJ))))))) rfl rfl rfl) fun _=>?_
      refine R.u 1 rfl<|R.nil ?_
      have hz:dC r a=(((bD r a.P a.Q a.A a.B).1),(bD r a.P a.Q a.A a.B).2):=by (unfold dC;(repeat' split) <;> first|rfl|(exfalso;simp_all;done)|(simp_all;done))
      rw [hz]
      exact R.w2 (z5,z6,z7,z8) [3] [0,1,2,3] rfl Tryz.results20 (RV.cell 0 rfl rfl au) (RV.tmp rfl) rfl rfl rfl (cm rfl rfl)
    ·
      refine R.q (q.gB rfl rfl h2) rfl<|R.u 1 rfl<|R.nil ?_
      refine R.aH rfl rfl ?_
      refine R.reg rfl<|?_
      by_cases h3:a.Kind=⟨#[109,111,118,101]⟩
      ·
        refine R.q (q.gA rfl rfl h3) rfl<|R.u 1 rfl<|R.nil ?_
        refine R.aI rfl rfl ?_
        refine R.reg rfl<|R.q (q.bI 2 rfl rfl au) rfl<|R.q (q.aS (off':=2) rfl cJ rfl) rfl<|R.q (q.lE (ds:=[.int .i64 a.P.ag,.int .i64 a.P.Slot]) 1 rfl rfl aM rfl) rfl<|R.q (q.aS (off':=6) rfl fy rfl) rfl<|R.q (q.ld 1 rfl rfl aG rfl) rfl<|?_
        refine R.s (B':=(fun g_:Value×Value×Value×Value=>[ah.box b3 [.slice none 0 0,.slice none 0 0,.slice none 0 0,.slice none 0 0,.int .i64 0,.int .i64 0] 30,ah.box b2 [.string a.Kind,.string a.S,.int .i64 a.P.ag,.int .i64 a.P.Slot,.int .i64 a.Q.ag,.int .i64 a.Q.Slot,.int .i64 a.A,.int .i64 a.B,.int .i64 a.N,.int .u64 a.K,a.cv] 37,ah.box b1 [aD,az,aB,aA,.int .i64 r.ae,.int .i64 r.af] 30,ah.held w own])) (F':=(fun g_:Value×Value×Value×Value=>[ah.ls g_.1 ((((cj r a.P a.A)).1).ap:List ao),ah.ls g_.2.1 ((((cj r a.P a.A)).1).Things:List ai),ah.ls g_.2.2.1 ((((cj r a.P a.A)).1).Held:List Held),ah.ls g_.2.2.2 ((((cj r a.P a.A)).1).Notes:List Note),ah.ls aD (r.ap:List ao),ah.ls az (r.Things:List ai),ah.ls aB (r.Held:List Held),ah.ls aA (r.Notes:List Note)])) rfl (s.bE (B0:=[]) (Br:=[ah.box b3 [.slice none 0 0,.slice none 0 0,.slice none 0 0,.slice none 0 0,.int .i64 0,.int .i64 0] 30,ah.box b2 [.string a.Kind,.string a.S,.int .i64 a.P.ag,.int .i64 a.P.Slot,.int .i64 a.Q.ag,.int .i64 a.Q.Slot,.int .i64 a.A,.int .i64 a.B,.int .i64 a.N,.int .u64 a.K,a.cv] 37,ah.box b1 [aD,az,aB,aA,.int .i64 r.ae,.int .i64 r.af] 30,ah.held w own]) (F0:=[ah.ls aD (r.ap:List ao),ah.ls az (r.Things:List ai),ah.ls aB (r.Held:List Held),ah.ls aA (r.Notes:List Note)]) [0,1,2,3] [0,1,2,3] (fun g_:Value×Value×Value×Value => .tuple #[.agg #[g_.1,g_.2.1,g_.2.2.1,g_.2.2.2,.int .i64 ((((cj r a.P a.A)).1).ae),.int .i64 ((((cj r a.P a.A)).1).af)],.int .i64 (((cj r a.P a.A)).2)]) (fun g_:Value×Value×Value×Value=>[]) (fun g_:Value×Value×Value×Value=>[ah.ls g_.1 ((((cj r a.P a.A)).1).ap:List ao),ah.ls g_.2.1 ((((cj r a.P a.A)).1).Things:List ai),ah.ls g_.2.2.1 ((((cj r a.P a.A)).1).Held:List Held),ah.ls g_.2.2.2 ((((cj r a.P a.A)).1).Notes:List Note)]) rfl rfl rfl wZ rfl rfl (fun w own hw H=>sf aD az aB aA (r) (a.P) (a.A) w own H (by assumption) (by assumption)) rfl) ?_
        rintro ⟨z9,eY,ka,z12⟩
        dsimp only
        refine R.u 2 rfl<|?_
        refine R.s rfl (s.cS (us:=[z9,eY,ka,z12,.int .i64 (((cj r a.P a.A).1).ae),.int .i64 (((cj r a.P a.A).1).af)]) (cs':=[z9,eY,ka,z12,.int .i64 (((cj r a.P a.A).1).ae),.int .i64 (((cj r a.P a.A).1).af)]) 0 _ rfl rfl rfl (fun _ _=>rfl) (.inl au) (fun w hw=>(aj (Sl.one ((fun _=>Wd.aO 0 rfl) w hw)) (aj (Sl.one ((fun _=>Wd.aO 1 rfl) w hw)) (aj (Sl.one ((fun _=>Wd.aO 2 rfl) w hw)) (aj (Sl.one ((fun _=>Wd.aO 3 rfl) w hw)) (aj rfl (aj rfl aJ))))))) rfl rfl rfl) fun _=>?_
        refine R.u 1 rfl<|R.nil ?_
        have hz:dC r a=(((cj r a.P a.A).1),(cj r a.P a.A).2):=by (unfold dC;(repeat' split) <;> first|rfl|(exfalso;simp_all;done)|(simp_all;done))
        rw [hz]
        exact R.w2 (z9,eY,ka,z12) [3] [0,1,2,3] rfl Tryz.results20 (RV.cell 0 rfl rfl au) (RV.tmp rfl) rfl rfl rfl (cm rfl rfl)
      ·
        refine R.q (q.gB rfl rfl h3) rfl<|R.u 1 rfl<|R.nil ?_
        refine R.aH rfl rfl ?_
        refine R.reg rfl<|?_
        by_cases h4:a.Kind=⟨#[100,114,111,112]⟩
        ·
          refine R.q (q.gA rfl rfl h4) rfl<|R.u 1 rfl<|R.nil ?_
          refine R.aI rfl rfl ?_
          refine R.reg rfl<|R.q (q.bI 2 rfl rfl au) rfl<|R.q (q.aS (off':=2) rfl cJ rfl) rfl<|R.q (q.lE (ds:=[.int .i64 a.P.ag,.int .i64 a.P.Slot]) 1 rfl rfl aM rfl) rfl<|?_
          refine R.s (B':=(fun g_:Value×Value×Value×Value=>[ah.box b3 [.slice none 0 0,.slice none 0 0,.slice none 0 0,.slice none 0 0,.int .i64 0,.int .i64 0] 30,ah.box b2 [.string a.Kind,.string a.S,.int .i64 a.P.ag,.int .i64 a.P.Slot,.int .i64 a.Q.ag,.int .i64 a.Q.Slot,.int .i64 a.A,.int .i64 a.B,.int .i64 a.N,.int .u64 a.K,a.cv] 37,ah.box b1 [aD,az,aB,aA,.int .i64 r.ae,.int .i64 r.af] 30,ah.held w own])) (F':=(fun g_:Value×Value×Value×Value=>[ah.ls g_.1 ((((cq r a.P)).1).ap:List ao),ah.ls g_.2.1 ((((cq r a.P)).1).Things:List ai),ah.ls g_.2.2.1 ((((cq r a.P)).1).Held:List Held),ah.ls g_.2.2.2 ((((cq r a.P)).1).Notes:List Note),ah.ls aD (r.ap:List ao),ah.ls az (r.Things:List ai),ah.ls aB (r.Held:List Held),ah.ls aA (r.Notes:List Note)])) rfl (s.bE (B0:=[]) (Br:=[ah.box b3 [.slice none 0 0,.slice none 0 0,.slice none 0 0,.slice none 0 0,.int .i64 0,.int .i64 0] 30,ah.box b2 [.string a.Kind,.string a.S,.int .i64 a.P.ag,.int .i64 a.P.Slot,.int .i64 a.Q.ag,.int .i64 a.Q.Slot,.int .i64 a.A,.int .i64 a.B,.int .i64 a.N,.int .u64 a.K,a.cv] 37,ah.box b1 [aD,az,aB,aA,.int .i64 r.ae,.int .i64 r.af] 30,ah.held w own]) (F0:=[ah.ls aD (r.ap:List ao),ah.ls az (r.Things:List ai),ah.ls aB (r.Held:List Held),ah.ls aA (r.Notes:List Note)]) [0,1,2,3] [0,1,2,3] (fun g_:Value×Value×Value×Value => .tuple #[.agg #[g_.1,g_.2.1,g_.2.2.1,g_.2.2.2,.int .i64 ((((cq r a.P)).1).ae),.int .i64 ((((cq r a.P)).1).af)],.int .i64 (((cq r a.P)).2)]) (fun g_:Value×Value×Value×Value=>[]) (fun g_:Value×Value×Value×Value=>[ah.ls g_.1 ((((cq r a.P)).1).ap:List ao),ah.ls g_.2.1 ((((cq r a.P)).1).Things:List ai),ah.ls g_.2.2.1 ((((cq r a.P)).1).Held:List Held),ah.ls g_.2.2.2 ((((cq r a.P)).1).Notes:List Note)]) rfl rfl rfl w8 rfl rfl (fun w own hw H=>sg aD az aB aA (r) (a.P) w own H (by assumption) (by assumption)) rfl) ?_
          rintro ⟨vA,vB,vC,vD⟩
          dsimp only
          refine R.u 2 rfl<|?_
          refine R.s rfl (s.cS (us:=[vA,vB,vC,vD,.int .i64 (((cq r a.P).1).ae),.int .i64 (((cq r a.P).1).af)]) (cs':=[vA,vB,vC,vD,.int .i64 (((cq r a.P).1).ae),.int .i64 (((cq r a.P).1).af)]) 0 _ rfl rfl rfl (fun _ _=>rfl) (.inl au) (fun w hw=>(aj (Sl.one ((fun _=>Wd.aO 0 rfl) w hw)) (aj (Sl.one ((fun _=>Wd.aO 1 rfl) w hw)) (aj (Sl.one ((fun _=>Wd.aO 2 rfl) w hw)) (aj (Sl.one ((fun _=>Wd.aO 3 rfl) w hw)) (aj rfl (aj rfl aJ))))))) rfl rfl rfl) fun _=>?_
          refine R.u 1 rfl<|R.nil ?_
          have hz:dC r a=(((cq r a.P).1),(cq r a.P).2):=by (unfold dC;(repeat' split) <;> first|rfl|(exfalso;simp_all;done)|(simp_all;done))
          rw [hz]
          exact R.w2 (vA,vB,vC,vD) [3] [0,1,2,3] rfl Tryz.results20 (RV.cell 0 rfl rfl au) (RV.tmp rfl) rfl rfl rfl (cm rfl rfl)
        ·
          refine R.q (q.gB rfl rfl h4) rfl<|R.u 1 rfl<|R.nil ?_
          refine R.aH rfl rfl ?_
          refine R.reg rfl<|?_
          by_cases h5:a.Kind=⟨#[114,101,118,111,107,101]⟩
          ·
            refine R.q (q.gA rfl rfl h5) rfl<|R.u 1 rfl<|R.nil ?_
            refine R.aI rfl rfl ?_
            refine R.reg rfl<|R.q (q.bI 2 rfl rfl au) rfl<|R.q (q.aS (off':=2) rfl cJ rfl) rfl<|R.q (q.lE (ds:=[.int .i64 a.P.ag,.int .i64 a.P.Slot]) 1 rfl rfl aM rfl) rfl<|?_
            refine R.s (B':=(fun g_:Value×Value×Value×Value=>[ah.box b3 [.slice none 0 0,.slice none 0 0,.slice none 0 0,.slice none 0 0,.int .i64 0,.int .i64 0] 30,ah.box b2 [.string a.Kind,.string a.S,.int .i64 a.P.ag,.int .i64 a.P.Slot,.int .i64 a.Q.ag,.int .i64 a.Q.Slot,.int .i64 a.A,.int .i64 a.B,.int .i64 a.N,.int .u64 a.K,a.cv] 37,ah.box b1 [aD,az,aB,aA,.int .i64 r.ae,.int .i64 r.af] 30,ah.held w own])) (F':=(fun g_:Value×Value×Value×Value=>[ah.ls g_.1 ((((bg r a.P)).1).ap:List ao),ah.ls g_.2.1 ((((bg r a.P)).1).Things:List ai),ah.ls g_.2.2.1 ((((bg r a.P)).1).Held:List Held),ah.ls g_.2.2.2 ((((bg r a.P)).1).Notes:List Note),ah.ls aD (r.ap:List ao),ah.ls az (r.Things:List ai),ah.ls aB (r.Held:List Held),ah.ls aA (r.Notes:List Note)])) rfl (s.bE (B0:=[]) (Br:=[ah.box b3 [.slice none 0 0,.slice none 0 0,.slice none 0 0,.slice none 0 0,.int .i64 0,.int .i64 0] 30,ah.box b2 [.string a.Kind,.string a.S,.int .i64 a.P.ag,.int .i64 a.P.Slot,.int .i64 a.Q.ag,.int .i64 a.Q.Slot,.int .i64 a.A,.int .i64 a.B,.int .i64 a.N,.int .u64 a.K,a.cv] 37,ah.box b1 [aD,az,aB,aA,.int .i64 r.ae,.int .i64 r.af] 30,ah.held w own]) (F0:=[ah.ls aD (r.ap:List ao),ah.ls az (r.Things:List ai),ah.ls aB (r.Held:List Held),ah.ls aA (r.Notes:List Note)]) [0,1,2,3] [0,1,2,3] (fun g_:Value×Value×Value×Value => .tuple #[.agg #[g_.1,g_.2.1,g_.2.2.1,g_.2.2.2,.int .i64 ((((bg r a.P)).1).ae),.int .i64 ((((bg r a.P)).1).af)],.int .i64 (((bg r a.P)).2)]) (fun g_:Value×Value×Value×Value=>[]) (fun g_:Value×Value×Value×Value=>[ah.ls g_.1 ((((bg r a.P)).1).ap:List ao),ah.ls g_.2.1 ((((bg r a.P)).1).Things:List ai),ah.ls g_.2.2.1 ((((bg r a.P)).1).Held:List Held),ah.ls g_.2.2.2 ((((bg r a.P)).1).Notes:List Note)]) rfl rfl rfl w9 rfl rfl (fun w own hw H=>pE aD az aB aA (r) (a.P) w own H (by assumption) (by assumption)) rfl) ?_
            rintro ⟨z17,vE,vF,z20⟩
            dsimp only
            refine R.u 2 rfl<|?_
            refine R.s rfl (s.cS (us:=[z17,vE,vF,z20,.int .i64 (((bg r a.P).1).ae),.int .i64 (((bg r a.P).1).af)]) (cs':=[z17,vE,vF,z20,.int .i64 (((bg r a.P).1).ae),.int .i64 (((bg r a.P).1).af)]) 0 _ rfl rfl rfl (fun _ _=>rfl) (.inl au) (fun w hw=>(aj (Sl.one ((fun _=>Wd.aO 0 rfl) w hw)) (aj (Sl.one ((fun _=>Wd.aO 1 rfl) w hw)) (aj (Sl.one ((fun _=>Wd.aO 2 rfl) w hw)) (aj (Sl.one ((fun _=>Wd.aO 3 rfl) w hw)) (aj rfl (aj rfl aJ))))))) rfl rfl rfl) fun _=>?_
            refine R.u 1 rfl<|R.nil ?_
            have hz:dC r a=(((bg r a.P).1),(bg r a.P).2):=by (unfold dC;(repeat' split) <;> first|rfl|(exfalso;simp_all;done)|(simp_all;done))
            rw [hz]
            exact R.w2 (z17,vE,vF,z20) [3] [0,1,2,3] rfl Tryz.results20 (RV.cell 0 rfl rfl au) (RV.tmp rfl) rfl rfl rfl (cm rfl rfl)
          ·
            refine R.q (q.gB rfl rfl h5) rfl<|R.u 1 rfl<|R.nil ?_
            refine R.aH rfl rfl ?_
            refine R.reg rfl<|?_
            by_cases h6:a.Kind=⟨#[119,114,105,116,101]⟩
            ·
              refine R.q (q.gA rfl rfl h6) rfl<|R.u 1 rfl<|R.nil ?_
              refine R.aI rfl rfl ?_
              refine R.reg rfl<|R.q (q.bI 2 rfl rfl au) rfl<|R.q (q.aS (off':=2) rfl cJ rfl) rfl<|R.q (q.lE (ds:=[.int .i64 a.P.ag,.int .i64 a.P.Slot]) 1 rfl rfl aM rfl) rfl<|R.q (q.aS (off':=1) rfl iE rfl) rfl<|R.q (q.ld 1 rfl rfl fQ rfl) rfl<|?_
              refine R.s (B':=(fun g_:Value×Value×Value×Value=>[ah.box b3 [.slice none 0 0,.slice none 0 0,.slice none 0 0,.slice none 0 0,.int .i64 0,.int .i64 0] 30,ah.box b2 [.string a.Kind,.string a.S,.int .i64 a.P.ag,.int .i64 a.P.Slot,.int .i64 a.Q.ag,.int .i64 a.Q.Slot,.int .i64 a.A,.int .i64 a.B,.int .i64 a.N,.int .u64 a.K,a.cv] 37,ah.box b1 [aD,az,aB,aA,.int .i64 r.ae,.int .i64 r.af] 30,ah.held w own])) (F':=(fun g_:Value×Value×Value×Value=>[ah.ls g_.1 ((((bF r a.P a.S)).1).ap:List ao),ah.ls g_.2.1 ((((bF r a.P a.S)).1).Things:List ai),ah.ls g_.2.2.1 ((((bF r a.P a.S)).1).Held:List Held),ah.ls g_.2.2.2 ((((bF r a.P a.S)).1).Notes:List Note),ah.ls aD (r.ap:List ao),ah.ls az (r.Things:List ai),ah.ls aB (r.Held:List Held),ah.ls aA (r.Notes:List Note)])) rfl (s.bE (B0:=[]) (Br:=[ah.box b3 [.slice none 0 0,.slice none 0 0,.slice none 0 0,.slice none 0 0,.int .i64 0,.int .i64 0] 30,ah.box b2 [.string a.Kind,.string a.S,.int .i64 a.P.ag,.int .i64 a.P.Slot,.int .i64 a.Q.ag,.int .i64 a.Q.Slot,.int .i64 a.A,.int .i64 a.B,.int .i64 a.N,.int .u64 a.K,a.cv] 37,ah.box b1 [aD,az,aB,aA,.int .i64 r.ae,.int .i64 r.af] 30,ah.held w own]) (F0:=[ah.ls aD (r.ap:List ao),ah.ls az (r.Things:List ai),ah.ls aB (r.Held:List Held),ah.ls aA (r.Notes:List Note)]) [0,1,2,3] [0,1,2,3] (fun g_:Value×Value×Value×Value => .tuple #[.agg #[g_.1,g_.2.1,g_.2.2.1,g_.2.2.2,.int .i64 ((((bF r a.P a.S)).1).ae),.int .i64 ((((bF r a.P a.S)).1).af)],.int .i64 (((bF r a.P a.S)).2)]) (fun g_:Value×Value×Value×Value=>[]) (fun g_:Value×Value×Value×Value=>[ah.ls g_.1 ((((bF r a.P a.S)).1).ap:List ao),ah.ls g_.2.1 ((((bF r a.P a.S)).1).Things:List ai),ah.ls g_.2.2.1 ((((bF r a.P a.S)).1).Held:List Held),ah.ls g_.2.2.2 ((((bF r a.P a.S)).1).Notes:List Note)]) rfl rfl rfl xa rfl rfl (fun w own hw H=>qx aD az aB aA (r) (a.P) (a.S) w own H (by assumption) (by assumption)) rfl) ?_
              rintro ⟨z21,z22,z23,z24⟩
              dsimp only
              refine R.u 2 rfl<|?_
              refine R.s rfl (s.cS (us:=[z21,z22,z23,z24,.int .i64 (((bF r a.P a.S).1).ae),.int .i64 (((bF r a.P a.S).1).af)]) (cs':=[z21,z22,z23,z24,.int .i64 (((bF r a.P a.S).1).ae),.int .i64 (((bF r a.P a.S).1).af)]) 0 _ rfl rfl rfl (fun _ _=>rfl) (.inl au) (fun w hw=>(aj (Sl.one ((fun _=>Wd.aO 0 rfl) w hw)) (aj (Sl.one ((fun _=>Wd.aO 1 rfl) w hw)) (aj (Sl.one ((fun _=>Wd.aO 2 rfl) w hw)) (aj (Sl.one ((fun _=>Wd.aO 3 rfl) w hw)) (aj rfl (aj rfl aJ))))))) rfl rfl rfl) fun _=>?_
              refine R.u 1 rfl<|R.nil ?_
              have hz:dC r a=(((bF r a.P a.S).1),(bF r a.P a.S).2):=by (unfold dC;(repeat' split) <;> first|rfl|(exfalso;simp_all;done)|(simp_all;done))
              rw [hz]
              exact R.w2 (z21,z22,z23,z24) [3] [0,1,2,3] rfl Tryz.results20 (RV.cell 0 rfl rfl au) (RV.tmp rfl) rfl rfl rfl (cm rfl rfl)
            ·
              refine R.q (q.gB rfl rfl h6) rfl<|R.u 1 rfl<|R.nil ?_
              refine R.aH rfl rfl ?_
              refine R.reg rfl<|?_
              by_cases h7:a.Kind=⟨#[115,101,110,100]⟩
              ·
                refine R.q (q.gA rfl rfl h7) rfl<|R.u 1 rfl<|R.nil ?_
                refine R.aI rfl rfl ?_
                refine R.reg rfl<|R.q (q.bI 2 rfl rfl au) rfl<|R.q (q.aS (off':=2) rfl cJ rfl) rfl<|R.q (q.lE (ds:=[.int .i64 a.P.ag,.int .i64 a.P.Slot]) 1 rfl rfl aM rfl) rfl<|R.q (q.aS (off':=1) rfl iE rfl) rfl<|R.q (q.ld 1 rfl rfl fQ rfl) rfl<|R.q (q.aS (off':=6) rfl fy rfl) rfl<|R.q (q.ld 1 rfl rfl aG rfl) rfl<|R.q (q.aS (off':=7) rfl jH rfl) rfl<|R.q (q.ld 1 rfl rfl aG rfl) rfl<|?_
                refine R.s (B':=(fun g_:Value×Value×Value×Value=>[ah.box b3 [.slice none 0 0,.slice none 0 0,.slice none 0 0,.slice none 0 0,.int .i64 0,.int .i64 0] 30,ah.box b2 [.string a.Kind,.string a.S,.int .i64 a.P.ag,.int .i64 a.P.Slot,.int .i64 a.Q.ag,.int .i64 a.Q.Slot,.int .i64 a.A,.int .i64 a.B,.int .i64 a.N,.int .u64 a.K,a.cv] 37,ah.box b1 [aD,az,aB,aA,.int .i64 r.ae,.int .i64 r.af] 30,ah.held w own])) (F':=(fun g_:Value×Value×Value×Value=>[ah.ls g_.1 ((((bq r a.P a.S a.A a.B)).1).ap:List ao),ah.ls g_.2.1 ((((bq r a.P a.S a.A a.B)).1).Things:List ai),ah.ls g_.2.2.1 ((((bq r a.P a.S a.A a.B)).1).Held:List Held),ah.ls g_.2.2.2 ((((bq r a.P a.S a.A a.B)).1).Notes:List Note),ah.ls aD (r.ap:List ao),ah.ls az (r.Things:List ai),ah.ls aB (r.Held:List Held),ah.ls aA (r.Notes:List Note)])) rfl (s.bE (B0:=[]) (Br:=[ah.box b3 [.slice none 0 0,.slice none 0 0,.slice none 0 0,.slice none 0 0,.int .i64 0,.int .i64 0] 30,ah.box b2 [.string a.Kind,.string a.S,.int .i64 a.P.ag,.int .i64 a.P.Slot,.int .i64 a.Q.ag,.int .i64 a.Q.Slot,.int .i64 a.A,.int .i64 a.B,.int .i64 a.N,.int .u64 a.K,a.cv] 37,ah.box b1 [aD,az,aB,aA,.int .i64 r.ae,.int .i64 r.af] 30,ah.held w own]) (F0:=[ah.ls aD (r.ap:List ao),ah.ls az (r.Things:List ai),ah.ls aB (r.Held:List Held),ah.ls aA (r.Notes:List Note)]) [0,1,2,3] [0,1,2,3] (fun g_:Value×Value×Value×Value => .tuple #[.agg #[g_.1,g_.2.1,g_.2.2.1,g_.2.2.2,.int .i64 ((((bq r a.P a.S a.A a.B)).1).ae),.int .i64 ((((bq r a.P a.S a.A a.B)).1).af)],.int .i64 (((bq r a.P a.S a.A a.B)).2)]) (fun g_:Value×Value×Value×Value=>[]) (fun g_:Value×Value×Value×Value=>[ah.ls g_.1 ((((bq r a.P a.S a.A a.B)).1).ap:List ao),ah.ls g_.2.1 ((((bq r a.P a.S a.A a.B)).1).Things:List ai),ah.ls g_.2.2.1 ((((bq r a.P a.S a.A a.B)).1).Held:List Held),ah.ls g_.2.2.2 ((((bq r a.P a.S a.A a.B)).1).Notes:List Note)]) rfl rfl rfl xb rfl rfl (fun w own hw H=>sh aD az aB aA (r) (a.P) (a.S) (a.A) (a.B) w own H (by assumption) (by assumption)) rfl) ?_
                rintro ⟨z25,z26,z27,z28⟩
                dsimp only
                refine R.u 2 rfl<|?_
                refine R.s rfl (s.cS (us:=[z25,z26,z27,z28,.int .i64 (((bq r a.P a.S a.A a.B).1).ae),.int .i64 (((bq r a.P a.S a.A a.B).1).af)]) (cs':=[z25,z26,z27,z28,.int .i64 (((bq r a.P a.S a.A a.B).1).ae),.int .i64 (((bq r a.P a.S a.A a.B).1).af)]) 0 _ rfl rfl rfl (fun _ _=>rfl) (.inl au) (fun w hw=>(aj (Sl.one ((fun _=>Wd.aO 0 rfl) w hw)) (aj (Sl.one ((fun _=>Wd.aO 1 rfl) w hw)) (aj (Sl.one ((fun _=>Wd.aO 2 rfl) w hw)) (aj (Sl.one ((fun _=>Wd.aO 3 rfl) w hw)) (aj rfl (aj rfl aJ))))))) rfl rfl rfl) fun _=>?_
                refine R.u 1 rfl<|R.nil ?_
                have hz:dC r a=(((bq r a.P a.S a.A a.B).1),(bq r a.P a.S a.A a.B).2):=by (unfold dC;(repeat' split) <;> first|rfl|(exfalso;simp_all;done)|(simp_all;done))
                rw [hz]
                exact R.w2 (z25,z26,z27,z28) [3] [0,1,2,3] rfl Tryz.results20 (RV.cell 0 rfl rfl au) (RV.tmp rfl) rfl rfl rfl (cm rfl rfl)
              ·
                refine R.q (q.gB rfl rfl h7) rfl<|R.u 1 rfl<|R.nil ?_
                refine R.aH rfl rfl ?_
                refine R.reg rfl<|?_
                by_cases h8:a.Kind=⟨#[116,97,107,101]⟩
                ·
                  refine R.q (q.gA rfl rfl h8) rfl<|R.u 1 rfl<|R.nil ?_
                  refine R.aI rfl rfl ?_
                  refine R.reg rfl<|R.q (q.bI 2 rfl rfl au) rfl<|R.q (q.aS (off':=2) rfl cJ rfl) rfl<|R.q (q.lE (ds:=[.int .i64 a.P.ag,.int .i64 a.P.Slot]) 1 rfl rfl aM rfl) rfl<|?_
                  refine R.s (B':=(fun g_:Value×Value×Value×Value=>[ah.box b3 [.slice none 0 0,.slice none 0 0,.slice none 0 0,.slice none 0 0,.int .i64 0,.int .i64 0] 30,ah.box b2 [.string a.Kind,.string a.S,.int .i64 a.P.ag,.int .i64 a.P.Slot,.int .i64 a.Q.ag,.int .i64 a.Q.Slot,.int .i64 a.A,.int .i64 a.B,.int .i64 a.N,.int .u64 a.K,a.cv] 37,ah.box b1 [aD,az,aB,aA,.int .i64 r.ae,.int .i64 r.af] 30,ah.held w own])) (F':=(fun g_:Value×Value×Value×Value=>[ah.ls g_.1 ((((aE r a.P)).1).ap:List ao),ah.ls g_.2.1 ((((aE r a.P)).1).Things:List ai),ah.ls g_.2.2.1 ((((aE r a.P)).1).Held:List Held),ah.ls g_.2.2.2 ((((aE r a.P)).1).Notes:List Note),ah.ls aD (r.ap:List ao),ah.ls az (r.Things:List ai),ah.ls aB (r.Held:List Held),ah.ls aA (r.Notes:List Note)])) rfl (s.bE (B0:=[]) (Br:=[ah.box b3 [.slice none 0 0,.slice none 0 0,.slice none 0 0,.slice none 0 0,.int .i64 0,.int .i64 0] 30,ah.box b2 [.string a.Kind,.string a.S,.int .i64 a.P.ag,.int .i64 a.P.Slot,.int .i64 a.Q.ag,.int .i64 a.Q.Slot,.int .i64 a.A,.int .i64 a.B,.int .i64 a.N,.int .u64 a.K,a.cv] 37,ah.box b1 [aD,az,aB,aA,.int .i64 r.ae,.int .i64 r.af] 30,ah.held w own]) (F0:=[ah.ls aD (r.ap:List ao),ah.ls az (r.Things:List ai),ah.ls aB (r.Held:List Held),ah.ls aA (r.Notes:List Note)]) [0,1,2,3] [0,1,2,3] (fun g_:Value×Value×Value×Value => .tuple #[.agg #[g_.1,g_.2.1,g_.2.2.1,g_.2.2.2,.int .i64 ((((aE r a.P)).1).ae),.int .i64 ((((aE r a.P)).1).af)],.agg #[.int .i64 ((((aE r a.P)).2.1).Port),.string ((((aE r a.P)).2.1).Data),.int .i64 ((((aE r a.P)).2.1).ar),.int .i64 ((((aE r a.P)).2.1).ao)],.int .i64 (((aE r a.P)).2.2.1),.int .i64 (((aE r a.P)).2.2.2)]) (fun g_:Value×Value×Value×Value=>[]) (fun g_:Value×Value×Value×Value=>[ah.ls g_.1 ((((aE r a.P)).1).ap:List ao),ah.ls g_.2.1 ((((aE r a.P)).1).Things:List ai),ah.ls g_.2.2.1 ((((aE r a.P)).1).Held:List Held),ah.ls g_.2.2.2 ((((aE r a.P)).1).Notes:List Note)]) rfl rfl rfl uQ rfl rfl (fun w own hw H=>nR aD az aB aA (r) (a.P) w own H (by assumption) (by assumption)) rfl) ?_
                  rintro ⟨z29,z30,z31,z32⟩
                  dsimp only
                  refine R.u 5 rfl<|?_
                  refine R.s rfl (s.alloc (cs:=[.slice none 0 0,.slice none 0 0,.slice none 0 0,.slice none 0 0,.int .i64 0,.int .i64 0]) bR rfl rfl) fun b4=>?_
                  refine R.s rfl (s.alloc (cs:=[.int .i64 0,.string (⟨#[]⟩),.int .i64 0,.int .i64 0]) cr rfl rfl) fun b5=>?_
                  refine R.s rfl (s.cS (us:=[z29,z30,z31,z32,.int .i64 (((aE r a.P).1).ae),.int .i64 (((aE r a.P).1).af)]) (cs':=[z29,z30,z31,z32,.int .i64 (((aE r a.P).1).ae),.int .i64 (((aE r a.P).1).af)]) 1 _ rfl rfl rfl (fun _ _=>rfl) (.inl au) (fun w hw=>(aj (Sl.one ((fun _=>Wd.aO 0 rfl) w hw)) (aj (Sl.one ((fun _=>Wd.aO 1 rfl) w hw)) (aj (Sl.one ((fun _=>Wd.aO 2 rfl) w hw)) (aj (Sl.one ((fun _=>Wd.aO 3 rfl) w hw)) (aj rfl (aj rfl aJ))))))) rfl rfl rfl) fun _=>?_
                  refine R.s rfl (s.st (us:=[.int .i64 (((aE r a.P).2.1).Port),.string (((aE r a.P).2.1).Data),.int .i64 (((aE r a.P).2.1).ar),.int .i64 (((aE r a.P).2.1).ao)]) (cs':=[.int .i64 (((aE r a.P).2.1).Port),.string (((aE r a.P).2.1).Data),.int .i64 (((aE r a.P).2.1).ar),.int .i64 (((aE r a.P).2.1).ao)]) 0 _ rfl rfl rfl rfl (.inl aX) rfl rfl rfl rfl) fun _=>?_
                  refine R.u 2 rfl<|R.nil ?_
                  refine R.reg rfl<|R.q (q.bI 1 rfl rfl au) rfl<|R.u 1 rfl<|?_
                  refine R.s rfl (s.cS (us:=[z29,z30,z31,z32,.int .i64 (((aE r a.P).1).ae),.int .i64 (((aE r a.P).1).af)]) (cs':=[z29,z30,z31,z32,.int .i64 (((aE r a.P).1).ae),.int .i64 (((aE r a.P).1).af)]) 2 _ rfl rfl rfl (fun _ _=>rfl) (.inl au) (fun w hw=>(aj (Sl.one ((fun _=>Wd.aO 0 rfl) w hw)) (aj (Sl.one ((fun _=>Wd.aO 1 rfl) w hw)) (aj (Sl.one ((fun _=>Wd.aO 2 rfl) w hw)) (aj (Sl.one ((fun _=>Wd.aO 3 rfl) w hw)) (aj rfl (aj rfl aJ))))))) rfl rfl rfl) fun _=>?_
                  refine R.u 1 rfl<|R.nil ?_
                  have hz:dC r a=(((aE r a.P).1),(aE r a.P).2.2.2):=by (unfold dC;(repeat' split) <;> first|rfl|(exfalso;simp_all;done)|(simp_all;done))
                  rw [hz]
                  exact R.w2 (z29,z30,z31,z32) [5] [0,1,2,3] rfl Tryz.results20 (RV.cell 2 rfl rfl au) (RV.tmp rfl) rfl rfl rfl (cm rfl rfl)
                ·
                  refine R.q (q.gB rfl rfl h8) rfl<|R.u 1 rfl<|R.nil ?_
                  refine R.aH rfl rfl ?_
                  refine R.reg rfl<|R.q (q.bI 2 rfl rfl au) rfl<|?_
                  refine R.s rfl (s.cS (us:=[aD,az,aB,aA,.int .i64 r.ae,.int .i64 r.af]) (cs':=[aD,az,aB,aA,.int .i64 r.ae,.int .i64 r.af]) 0 _ rfl rfl rfl (fun _ _=>rfl) (.inl au) (fun w hw=>(aj (Sl.one ((fun _=>Wd.aO 0 rfl) w hw)) (aj (Sl.one ((fun _=>Wd.aO 1 rfl) w hw)) (aj (Sl.one ((fun _=>Wd.aO 2 rfl) w hw)) (aj (Sl.one ((fun _=>Wd.aO 3 rfl) w hw)) (aj rfl (aj rfl aJ))))))) rfl rfl rfl) fun _=>?_
                  refine R.u 1 rfl<|R.nil ?_
                  have hz:dC r a=(r,0):=by (unfold dC;(repeat' split) <;> first|rfl|(exfalso;simp_all;done)|(simp_all;done))
                  rw [hz]
                  exact R.w2 (aD,az,aB,aA) [3] [0,1,2,3] rfl Tryz.results20 (RV.cell 0 rfl rfl au) (RV.tmp rfl) rfl rfl rfl (cm rfl rfl)
theorem si (aD az aB aA:Value)(r:ay)(p:Place)(w:World)(own:List Nat)(H:Wd w (blks []++own) ([]++[ah.held w own]) [ah.ls aD (r.ap:List ao),ah.ls az (r.Things:List ai),ah.ls aB (r.Held:List Held),ah.ls aA (r.Notes:List Note)] w)(hk:Ok r)(hI:Inv r):Calls Tryz.prog 14 #[.agg #[aD,az,aB,aA,.int .i64 r.ae,.int .i64 r.af],.agg #[.int .i64 p.ag,.int .i64 p.Slot]] w fun e w' => ∃z:Unit,e = .returned (.tuple #[.agg #[.int .i64 ((((aE r p).2.1)).Port),.string ((((aE r p).2.1)).Data),.int .i64 ((((aE r p).2.1)).ar),.int .i64 ((((aE r p).2.1)).ao)],.int .i64 (((aE r p).2.2.1)),.int .i64 (((aE r p).2.2.2))])∧Wd w (blks []++own) ([]++[ah.held w own]) [] w':=by
  have cw:=H.bS 0 rfl
  have bY:=H.bS 1 rfl
  have cI:=H.bS 2 rfl
  have cx:=H.bS 3 rfl
  refine R.cC (n:=22) (vs:=[.agg #[aD,az,aB,aA,.int .i64 r.ae,.int .i64 r.af],.agg #[.int .i64 p.ag,.int .i64 p.Slot]]) (B:=[ah.held w own]) [(0,.agg #[aD,az,aB,aA,.int .i64 r.ae,.int .i64 r.af]),(1,.agg #[.int .i64 p.ag,.int .i64 p.Slot])] Tryz.func14 rfl rfl rfl rfl H ?_
  refine R.reg rfl<|?_
  refine R.s rfl (s.box (cs:=[aD,az,aB,aA,.int .i64 r.ae,.int .i64 r.af]) rfl rfl rfl) fun b1=>?_
  refine R.s rfl (s.box (cs:=[.int .i64 p.ag,.int .i64 p.Slot]) rfl rfl rfl) fun b2=>?_
  refine R.s rfl (s.alloc (cs:=[.int .i64 0,.string (⟨#[]⟩),.int .i64 0,.int .i64 0]) cr rfl rfl) fun b3=>?_
  refine R.u 2 rfl<|R.nil ?_
  refine R.reg rfl<|R.q (q.bI 2 rfl rfl au) rfl<|R.q (q.bI 1 rfl rfl aM) rfl<|?_
  refine R.s (B':=(fun g_:Value×Value×Value×Value=>[ah.box b3 [.int .i64 0,.string (⟨#[]⟩),.int .i64 0,.int .i64 0] 52,ah.box b2 [.int .i64 p.ag,.int .i64 p.Slot] 33,ah.box b1 [aD,az,aB,aA,.int .i64 r.ae,.int .i64 r.af] 30,ah.held w own])) (F':=(fun g_:Value×Value×Value×Value=>[ah.ls g_.1 ((((aE r p)).1).ap:List ao),ah.ls g_.2.1 ((((aE r p)).1).Things:List ai),ah.ls g_.2.2.1 ((((aE r p)).1).Held:List Held),ah.ls g_.2.2.2 ((((aE r p)).1).Notes:List Note),ah.ls aD (r.ap:List ao),ah.ls az (r.Things:List ai),ah.ls aB (r.Held:List Held),ah.ls aA (r.Notes:List Note)])) rfl (s.bE (B0:=[]) (Br:=[ah.box b3 [.int .i64 0,.string (⟨#[]⟩),.int .i64 0,.int .i64 0] 52,ah.box b2 [.int .i64 p.ag,.int .i64 p.Slot] 33,ah.box b1 [aD,az,aB,aA,.int .i64 r.ae,.int .i64 r.af] 30,ah.held w own]) (F0:=[ah.ls aD (r.ap:List ao),ah.ls az (r.Things:List ai),ah.ls aB (r.Held:List Held),ah.ls aA (r.Notes:List Note)]) [0,1,2,3] [0,1,2,3] (fun g_:Value×Value×Value×Value => .tuple #[.agg #[g_.1,g_.2.1,g_.2.2.1,g_.2.2.2,.int .i64 ((((aE r p)).1).ae),.int .i64 ((((aE r p)).1).af)],.agg #[.int .i64 ((((aE r p)).2.1).Port),.string ((((aE r p)).2.1).Data),.int .i64 ((((aE r p)).2.1).ar),.int .i64 ((((aE r p)).2.1).ao)],.int .i64 (((aE r p)).2.2.1),.int .i64 (((aE r p)).2.2.2)]) (fun g_:Value×Value×Value×Value=>[]) (fun g_:Value×Value×Value×Value=>[ah.ls g_.1 ((((aE r p)).1).ap:List ao),ah.ls g_.2.1 ((((aE r p)).1).Things:List ai),ah.ls g_.2.2.1 ((((aE r p)).1).Held:List Held),ah.ls g_.2.2.2 ((((aE r p)).1).Notes:List Note)]) rfl rfl rfl uQ rfl rfl (fun w own hw H=>nR aD az aB aA (r) (p) w own H (by assumption) (by assumption)) rfl) ?_
  rintro ⟨z1,z2,z3,z4⟩
  dsimp only
  refine R.u 5 rfl<|?_
  refine R.s rfl (s.alloc (cs:=[.slice none 0 0,.slice none 0 0,.slice none 0 0,.slice none 0 0,.int .i64 0,.int .i64 0]) bR rfl rfl) fun b4=>?_
  refine R.s rfl (s.alloc (cs:=[.int .i64 0,.string (⟨#[]⟩),.int .i64 0,.int .i64 0]) cr rfl rfl) fun b5=>?_
  refine R.s rfl (s.cS (us:=[z1,z2,z3,z4,.int .i64 (((aE r p).1).ae),.int .i64 (((aE r p).1).af)]) (cs':=[z1,z2,z3,z4,.int .i64 (((aE r p).1).ae),.int .i64 (((aE r p).1).af)]) 1 _ rfl rfl rfl (fun _ _=>rfl) (.inl au) (fun w hw=>(aj (Sl.one ((fun _=>Wd.aO 0 rfl) w hw)) (aj (Sl.one ((fun _=>Wd.aO 1 rfl) w hw)) (aj (Sl.one ((fun _=>Wd.aO 2 rfl) w hw)) (aj (Sl.one ((fun _=>Wd.aO 3 rfl) w hw)) (aj rfl (aj rfl aJ))))))) rfl rfl rfl) fun _=>?_
  refine R.s rfl (s.st (us:=[.int .i64 (((aE r p).2.1).Port),.string (((aE r p).2.1).Data),.int .i64 (((aE r p).2.1).ar),.int .i64 (((aE r p).2.1).ao)]) (cs':=[.int .i64 (((aE r p).2.1).Port),.string (((aE r p).2.1).Data),.int .i64 (((aE r p).2.1).ar),.int .i64 (((aE r p).2.1).ao)]) 0 _ rfl rfl rfl rfl (.inl aX) rfl rfl rfl rfl) fun _=>?_
  refine R.u 2 rfl<|R.nil ?_
  refine R.reg rfl<|R.q (q.bI 0 rfl rfl aX) rfl<|R.u 2 rfl<|?_
  refine R.s rfl (s.st (us:=[.int .i64 (((aE r p).2.1).Port),.string (((aE r p).2.1).Data),.int .i64 (((aE r p).2.1).ar),.int .i64 (((aE r p).2.1).ao)]) (cs':=[.int .i64 (((aE r p).2.1).Port),.string (((aE r p).2.1).Data),.int .i64 (((aE r p).2.1).ar),.int .i64 (((aE r p).2.1).ao)]) 2 _ rfl rfl rfl rfl (.inl aX) rfl rfl rfl rfl) fun _=>?_
  refine R.u 2 rfl<|R.nil ?_
  have hz:((aE r p).2.1,(aE r p).2.2.1,(aE r p).2.2.2)=(((aE r p).2.1),(aE r p).2.2.1,(aE r p).2.2.2):=by (rfl)
  exact R.w3 () [5] [] rfl Tryz.results14 (RV.cell 2 rfl rfl aX) (RV.tmp rfl) (RV.tmp rfl) rfl rfl rfl (ye rfl rfl rfl)
end Go.Proofs.YtpipachmngdegaaGreat
end
