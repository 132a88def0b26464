import Derived.Test.YtpipachmngdegaaGreatRSP31
import Derived.Test.YtpipachmngdegaaGreatRSP37
section
namespace Go.Proofs.YtpipachmngdegaaGreat
open Go Go.RowKit
set_option linter.unusedVariables false
set_option linter.unusedSimpArgs false
set_option maxRecDepth 100000
theorem qm (aD az aB aA:Value)(r:ay)(w:World)(own:List Nat)(H:Wd w (blks []++own) ([]++[ah.held w own]) [ah.ls aD (r.ap:List ao),ah.ls az (r.Things:List ai),ah.ls aB (r.Held:List Held),ah.ls aA (r.Notes:List Note)] w)(hk:Ok r):Calls Tryz.prog 16 #[.agg #[aD,az,aB,aA,.int .i64 r.ae,.int .i64 r.af]] w fun e w' => ∃z:Value×Value×Value×Value,e = .returned (.agg #[z.1,z.2.1,z.2.2.1,z.2.2.2,.int .i64 (((bG r)).ae),.int .i64 (((bG r)).af)])∧Wd w (blks []++own) ([]++[ah.held w own]) [ah.ls z.1 (((bG r)).ap:List ao),ah.ls z.2.1 (((bG r)).Things:List ai),ah.ls z.2.2.1 (((bG r)).Held:List Held),ah.ls z.2.2.2 (((bG r)).Notes:List Note)] w':=by
  have cw:=H.bS 0 rfl
  have bY:=H.bS 1 rfl
  have cI:=H.bS 2 rfl
  have cx:=H.bS 3 rfl
  have bw:=hk.wl;have bt:=hk.tl;have bh:=hk.hl;have bn:=hk.nl;have lS:=hk.w0;have lT:=hk.w1;have lU:=hk.t0;have lV:=hk.t1
  refine R.cC (n:=25) (vs:=[.agg #[aD,az,aB,aA,.int .i64 r.ae,.int .i64 r.af]]) (B:=[ah.held w own]) [(0,.agg #[aD,az,aB,aA,.int .i64 r.ae,.int .i64 r.af])] Tryz.func16 rfl rfl rfl rfl H ?_
  refine R.reg rfl<|?_
  refine R.s rfl (s.box (cs:=[aD,az,aB,aA,.int .i64 r.ae,.int .i64 r.af]) rfl rfl rfl) fun b1=>?_
  refine R.s rfl (s.alloc (cs:=[.slice none 0 0,.slice none 0 0,.slice none 0 0,.slice none 0 0,.int .i64 0,.int .i64 0]) bR rfl rfl) fun b2=>?_
  refine R.nil ?_
  refine R.reg rfl<|R.q (q.aS (off':=3) rfl aT rfl) rfl<|R.q (q.ld 1 rfl rfl a6 rfl) rfl<|R.q (q.len' (fun _=>Wd.aO 3 rfl) rfl Tryz.underlying28) rfl<|R.u 1 rfl<|R.nil ?_
  refine R.loop (fun g_:Nat×Value×(List ao)=>[(1,.pointer (some ⟨b1,0,none⟩)),(2,.pointer (some ⟨b2,0,none⟩)),(6,aA),(7,.int .i64 (r.Notes.length:Int)),(8,.int .i64 (g_.1:Int))]) (fun g_:Nat×Value×(List ao)=>[ah.box b2 [.slice none 0 0,.slice none 0 0,.slice none 0 0,.slice none 0 0,.int .i64 0,.int .i64 0] 30,ah.box b1 [g_.2.1,az,aB,aA,.int .i64 r.ae,.int .i64 r.af] 30,ah.held w own]) (fun g_:Nat×Value×(List ao)=>[ah.ls g_.2.1 (g_.2.2:List ao),ah.ls aD (r.ap:List ao),ah.ls az (r.Things:List ai),ah.ls aB (r.Held:List Held),ah.ls aA (r.Notes:List Note)]) (fun g_:Nat×Value×(List ao)=>g_.1≤r.Notes.length∧g_.2.2=eW (r.Notes.take g_.1) r.ap) (fun g_:Nat×Value×(List ao)=>r.Notes.length-g_.1) (0,aD,r.ap) rfl (by exact ⟨by omega,rfl⟩) ⟨rfl,rfl,rfl,rfl,rfl,trivial⟩ (fun _=>Wd.pick [0,1,2] [0,0,1,2,3] rfl rfl rfl) ?_
  rintro ⟨j,vw,ws⟩ ⟨hj1,HW⟩
  dsimp only at *
  have hws:ws.length≤2000:=by rw [HW];exact Nat.le_trans (mL _ _) hk.wl
  have hwr:∀w∈ws,0≤w.Rights∧w.Rights≤7:=by rw [HW];exact nF _ _ hk.ri
  have hok:Ok (⟨ws,r.Things,r.Held,[],r.ae,r.af⟩:ay):=⟨hws,hk.tl,hk.hl,Nat.zero_le _,hwr,hk.w0,hk.w1,hk.t0,hk.t1⟩
  refine R.reg rfl<|?_
  by_cases h1:j<r.Notes.length
  ·
    refine R.q (q.lss rfl rfl (decide_eq_true (by omega))) rfl<|R.nil ?_
    refine R.aI rfl rfl ?_
    refine R.reg rfl<|?_
    obtain ⟨x1,hx1⟩:∃z,r.Notes[j]? = some z:=⟨_,List.getElem?_eq_getElem (by omega)⟩
    refine R.q (q.idx (i:=j) (fun _=>Wd.aO 4 rfl) rfl rfl cB rfl hx1) rfl<|R.q (q.dx (ds:=[.int .i64 x1.Port,.string x1.Data,.int .i64 x1.ar,.int .i64 x1.ao]) (fun _=>Wd.aO 4 rfl) hx1 rfl aX rfl) rfl<|?_
    refine R.s rfl (s.alloc (cs:=[.int .i64 0,.string (⟨#[]⟩),.int .i64 0,.int .i64 0]) cr rfl rfl) fun b3=>?_
    refine R.s rfl (s.st (us:=[.int .i64 x1.Port,.string x1.Data,.int .i64 x1.ar,.int .i64 x1.ao]) (cs':=[.int .i64 x1.Port,.string x1.Data,.int .i64 x1.ar,.int .i64 x1.ao]) 0 _ rfl rfl rfl rfl (.inl aX) rfl rfl rfl rfl) fun _=>?_
    refine R.nil ?_
    refine R.reg rfl<|R.q (q.aS (off':=3) rfl cR rfl) rfl<|R.q (q.ld 0 rfl rfl aG rfl) rfl<|?_
    by_cases h2:0<x1.ao
    ·
      refine R.q (q.gtr rfl rfl (decide_eq_true (by omega))) rfl<|R.nil ?_
      refine R.aI rfl rfl ?_
      refine R.reg rfl<|R.q (q.aS (off':=0) rfl a8 rfl) rfl<|R.q (q.ld 2 rfl rfl bN rfl) rfl<|R.q (q.aS (off':=3) rfl cR rfl) rfl<|R.q (q.ld 0 rfl rfl aG rfl) rfl<|?_
      refine R.s rfl (s.jk sE rfl rfl (fun w hw=>jw _ (ws) (x1.ao) w ((fun _=>Wd.aO 0 rfl) w hw) (by first|omega|assumption)) rfl) fun v1=>?_
      refine R.q (q.aS (off':=0) rfl a8 rfl) rfl<|?_
      refine R.s rfl (s.cS (us:=[v1]) (cs':=[v1,az,aB,aA,.int .i64 r.ae,.int .i64 r.af]) 3 _ rfl rfl rfl (fun w hw=>Sl.bJ ((fun _=>Wd.row 0 rfl) w hw)) (.inr ⟨bN,rfl⟩) (fun w hw=>(aj (Sl.one ((fun _=>Wd.row 0 rfl) w hw)) aJ)) rfl rfl rfl) fun _=>?_
      refine R.nil ?_
      refine R.reg rfl<|R.q (q.add (r:=((j+1:Nat):Int)) rfl rfl (wr (by omega))) rfl<|R.u 1 rfl<|R.nil ?_
      refine R.mp (B':=[ah.box b3 [.int .i64 x1.Port,.string x1.Data,.int .i64 x1.ar,.int .i64 x1.ao] 52,ah.box b2 [.slice none 0 0,.slice none 0 0,.slice none 0 0,.slice none 0 0,.int .i64 0,.int .i64 0] 30,ah.box b1 [v1,az,aB,aA,.int .i64 r.ae,.int .i64 r.af] 30,ah.held w own]) (fun _ hw=>hw.aZ 0 _ rfl rfl) ?_
      refine R.back (j+1,v1,(without ws x1.ao)) rfl (by (first|exact ⟨by omega,by rw [fx hx1,if_pos (by omega),HW]⟩ | exact ⟨by omega,by rw [fx hx1,if_neg (by omega),HW]⟩)) (by dsimp only;omega) ⟨rfl,rfl,rfl,rfl,rfl,trivial⟩ (fun _=>Wd.aV [1,2,3] [0,2,3,4,5] rfl rfl rfl)
    ·
      refine R.q (q.gtr rfl rfl (decide_eq_false (by omega))) rfl<|R.nil ?_
      refine R.aH rfl rfl ?_
      refine R.reg rfl<|R.q (q.add (r:=((j+1:Nat):Int)) rfl rfl (wr (by omega))) rfl<|R.u 1 rfl<|R.nil ?_
      refine R.back (j+1,vw,ws) rfl (by (first|exact ⟨by omega,by rw [fx hx1,if_pos (by omega),HW]⟩ | exact ⟨by omega,by rw [fx hx1,if_neg (by omega),HW]⟩)) (by dsimp only;omega) ⟨rfl,rfl,rfl,rfl,rfl,trivial⟩ (fun _=>Wd.aV [1,2,3] [0,1,2,3,4] rfl rfl rfl)
  ·
    refine R.q (q.lss rfl rfl (decide_eq_false (by omega))) rfl<|R.nil ?_
    refine R.aH rfl rfl ?_
    refine R.reg rfl<|R.q (q.aS (off':=3) rfl aT rfl) rfl<|?_
    refine R.s rfl (s.st (us:=[.slice none 0 0]) (cs':=[vw,az,aB,.slice none 0 0,.int .i64 r.ae,.int .i64 r.af]) 1 _ rfl rfl rfl rfl (.inr ⟨a6,rfl⟩) rfl rfl rfl rfl) fun _=>?_
    refine R.nil ?_
    refine R.reg rfl<|R.q (q.bI 1 rfl rfl au) rfl<|?_
    refine R.s (B':=(fun g_:Value×Value×Value×Value=>[ah.box b2 [.slice none 0 0,.slice none 0 0,.slice none 0 0,.slice none 0 0,.int .i64 0,.int .i64 0] 30,ah.box b1 [vw,az,aB,.slice none 0 0,.int .i64 r.ae,.int .i64 r.af] 30,ah.held w own])) (F':=(fun g_:Value×Value×Value×Value=>[ah.ls g_.1 (((aP (⟨ws,r.Things,r.Held,[],r.ae,r.af⟩:ay))).ap:List ao),ah.ls g_.2.1 (((aP (⟨ws,r.Things,r.Held,[],r.ae,r.af⟩:ay))).Things:List ai),ah.ls g_.2.2.1 (((aP (⟨ws,r.Things,r.Held,[],r.ae,r.af⟩:ay))).Held:List Held),ah.ls g_.2.2.2 (((aP (⟨ws,r.Things,r.Held,[],r.ae,r.af⟩:ay))).Notes:List Note),ah.ls (.slice none 0 0) ([]:List Note),ah.ls vw (ws:List ao),ah.ls aD (r.ap:List ao),ah.ls az (r.Things:List ai),ah.ls aB (r.Held:List Held),ah.ls aA (r.Notes:List Note)])) rfl (s.pre (B2:=[ah.box b2 [.slice none 0 0,.slice none 0 0,.slice none 0 0,.slice none 0 0,.int .i64 0,.int .i64 0] 30,ah.box b1 [vw,az,aB,.slice none 0 0,.int .i64 r.ae,.int .i64 r.af] 30,ah.held w own]) (F2:=[ah.ls (.slice none 0 0) ([]:List Note),ah.ls vw (ws:List ao),ah.ls aD (r.ap:List ao),ah.ls az (r.Things:List ai),ah.ls aB (r.Held:List Held),ah.ls aA (r.Notes:List Note)]) (fun _ hw=>hw.aN (α:=Note)) (s.bE (B0:=[]) (Br:=[ah.box b2 [.slice none 0 0,.slice none 0 0,.slice none 0 0,.slice none 0 0,.int .i64 0,.int .i64 0] 30,ah.box b1 [vw,az,aB,.slice none 0 0,.int .i64 r.ae,.int .i64 r.af] 30,ah.held w own]) (F0:=[ah.ls vw (ws:List ao),ah.ls az (r.Things:List ai),ah.ls aB (r.Held:List Held),ah.ls (.slice none 0 0) ([]:List Note)]) [0,1,2] [1,3,4,0] (fun g_:Value×Value×Value×Value => .agg #[g_.1,g_.2.1,g_.2.2.1,g_.2.2.2,.int .i64 (((aP (⟨ws,r.Things,r.Held,[],r.ae,r.af⟩:ay))).ae),.int .i64 (((aP (⟨ws,r.Things,r.Held,[],r.ae,r.af⟩:ay))).af)]) (fun g_:Value×Value×Value×Value=>[]) (fun g_:Value×Value×Value×Value=>[ah.ls g_.1 (((aP (⟨ws,r.Things,r.Held,[],r.ae,r.af⟩:ay))).ap:List ao),ah.ls g_.2.1 (((aP (⟨ws,r.Things,r.Held,[],r.ae,r.af⟩:ay))).Things:List ai),ah.ls g_.2.2.1 (((aP (⟨ws,r.Things,r.Held,[],r.ae,r.af⟩:ay))).Held:List Held),ah.ls g_.2.2.2 (((aP (⟨ws,r.Things,r.Held,[],r.ae,r.af⟩:ay))).Notes:List Note)]) rfl rfl rfl sF rfl rfl (fun w own hw H=>j9 vw az aB (.slice none 0 0) ((⟨ws,r.Things,r.Held,[],r.ae,r.af⟩:ay)) w own H (by assumption)) rfl)) ?_
    rintro ⟨z1,z2,z3,z4⟩
    dsimp only
    refine R.s rfl (s.cS (us:=[z1,z2,z3,z4,.int .i64 ((aP (⟨ws,r.Things,r.Held,[],r.ae,r.af⟩:ay)).ae),.int .i64 ((aP (⟨ws,r.Things,r.Held,[],r.ae,r.af⟩:ay)).af)]) (cs':=[z1,z2,z3,z4,.int .i64 ((aP (⟨ws,r.Things,r.Held,[],r.ae,r.af⟩:ay)).ae),.int .i64 ((aP (⟨ws,r.Things,r.Held,[],r.ae,r.af⟩:ay)).af)]) 0 _ rfl rfl rfl (fun _ _=>rfl) (.inl au) (fun w hw=>(aj (Sl.one ((fun _=>Wd.aO 0 rfl) w hw)) (aj (Sl.one ((fun _=>Wd.aO 1 rfl) w hw)) (aj (Sl.one ((fun _=>Wd.aO 2 rfl) w hw)) (aj (Sl.one ((fun _=>Wd.aO 3 rfl) w hw)) (aj rfl (aj rfl aJ))))))) rfl rfl rfl) fun _=>?_
    refine R.nil ?_
    have hz:bG r=(aP (⟨ws,r.Things,r.Held,[],r.ae,r.af⟩:ay)):=by (unfold bG;rw [HW,List.take_of_length_le (by omega)])
    rw [hz]
    exact R.w1 (z1,z2,z3,z4) [2] [0,1,2,3] rfl Tryz.results16 (RV.cell 0 rfl rfl au) rfl rfl rfl rfl
theorem r5 (aD az aB aA:Value)(r:ay)(w:World)(own:List Nat)(H:Wd w (blks []++own) ([]++[ah.held w own]) [ah.ls aD (r.ap:List ao),ah.ls az (r.Things:List ai),ah.ls aB (r.Held:List Held),ah.ls aA (r.Notes:List Note)] w)(hk:Ok r):Calls Tryz.prog 18 #[.agg #[aD,az,aB,aA,.int .i64 r.ae,.int .i64 r.af]] w fun e w' => ∃z:Value×Value×Value×Value,e = .returned (.agg #[z.1,z.2.1,z.2.2.1,z.2.2.2,.int .i64 ((r).ae),.int .i64 ((r).af)])∧Wd w (blks []++own) ([]++[ah.held w own]) [ah.ls z.1 ((r).ap:List ao),ah.ls z.2.1 ((r).Things:List ai),ah.ls z.2.2.1 ((r).Held:List Held),ah.ls z.2.2.2 ((r).Notes:List Note)] w':=by
  have cw:=H.bS 0 rfl
  have bY:=H.bS 1 rfl
  have cI:=H.bS 2 rfl
  have cx:=H.bS 3 rfl
  have bw:=hk.wl;have bt:=hk.tl;have bh:=hk.hl;have bn:=hk.nl;have lS:=hk.w0;have lT:=hk.w1;have lU:=hk.t0;have lV:=hk.t1
  refine R.cC (n:=20) (vs:=[.agg #[aD,az,aB,aA,.int .i64 r.ae,.int .i64 r.af]]) (B:=[ah.held w own]) [(0,.agg #[aD,az,aB,aA,.int .i64 r.ae,.int .i64 r.af])] Tryz.func18 rfl rfl rfl rfl H ?_
  refine R.reg rfl<|?_
  refine R.s rfl (s.box (cs:=[aD,az,aB,aA,.int .i64 r.ae,.int .i64 r.af]) rfl rfl rfl) fun b1=>?_
  refine R.s rfl (s.alloc (cs:=[.slice none 0 0,.slice none 0 0,.slice none 0 0,.slice none 0 0,.int .i64 0,.int .i64 0]) bR rfl rfl) fun b2=>?_
  refine R.nil ?_
  refine R.yF (fuel:=20) (Wd w (blks []++own) [ah.box b2 [.slice none 0 0,.slice none 0 0,.slice none 0 0,.slice none 0 0,.int .i64 0,.int .i64 0] 30,ah.box b1 [aD,az,aB,aA,.int .i64 r.ae,.int .i64 r.af] 30,ah.held w own] [ah.ls aD (r.ap:List ao),ah.ls az (r.Things:List ai),ah.ls aB (r.Held:List Held),ah.ls aA (r.Notes:List Note)]) [13,15,17,19] rfl mixed rfl ?_
  refine K.p (i:=0) rfl (by kernel_rfl) (.inr (fun _=>Wd.aV [0,1,2] [0,1,2,3] rfl rfl rfl)) rfl (fun w=>q.aS (off':=0) rfl a8 rfl) rfl<|K.q (i:=1) rfl (by kernel_rfl) (fun _=>Wd.aV [0,1,2] [0,1,2,3] rfl rfl rfl) rfl (q.ld 1 rfl rfl bN rfl) rfl<|K.p (i:=3) rfl (by kernel_rfl) (.inr (fun _=>Wd.aV [0,1,2] [0,1,2,3] rfl rfl rfl)) rfl (fun w=>q.aS (off':=1) rfl bm rfl) rfl<|K.q (i:=4) rfl (by kernel_rfl) (fun _=>Wd.aV [0,1,2] [0,1,2,3] rfl rfl rfl) rfl (q.ld 1 rfl rfl bT rfl) rfl<|K.p (i:=6) rfl (by kernel_rfl) (.inr (fun _=>Wd.aV [0,1,2] [0,1,2,3] rfl rfl rfl)) rfl (fun w=>q.aS (off':=2) rfl bf rfl) rfl<|K.q (i:=7) rfl (by kernel_rfl) (fun _=>Wd.aV [0,1,2] [0,1,2,3] rfl rfl rfl) rfl (q.ld 1 rfl rfl bQ rfl) rfl<|K.p (i:=9) rfl (by kernel_rfl) (.inr (fun _=>Wd.aV [0,1,2] [0,1,2,3] rfl rfl rfl)) rfl (fun w=>q.aS (off':=3) rfl aT rfl) rfl<|K.q (i:=10) rfl (by kernel_rfl) (fun _=>Wd.aV [0,1,2] [0,1,2,3] rfl rfl rfl) rfl (q.ld 1 rfl rfl a6 rfl) rfl<|?_
  refine K.one (i:=2) (by kernel_rfl) rfl ?_
  refine Ko.s (B':=(fun aL:Value=>[ah.row 39 aL (r.ap:List ao),ah.box b2 [.slice none 0 0,.slice none 0 0,.slice none 0 0,.slice none 0 0,.int .i64 0,.int .i64 0] 30,ah.box b1 [aD,az,aB,aA,.int .i64 r.ae,.int .i64 r.af] 30,ah.held w own])) (F':=(fun aL:Value=>[ah.ls aD (r.ap:List ao),ah.ls az (r.Things:List ai),ah.ls aB (r.Held:List Held),ah.ls aA (r.Notes:List Note)])) (s.bE (B0:=[]) (Br:=[ah.box b2 [.slice none 0 0,.slice none 0 0,.slice none 0 0,.slice none 0 0,.int .i64 0,.int .i64 0] 30,ah.box b1 [aD,az,aB,aA,.int .i64 r.ae,.int .i64 r.af] 30,ah.held w own]) (F0:=[ah.ls aD (r.ap:List ao)]) [0,1,2] [0] (fun aL:Value=>aL) (fun aL:Value=>[ah.row 39 aL (r.ap:List ao)]) (fun aL:Value=>[]) rfl rfl rfl oK rfl rfl (fun w own hw H=>fa aD (r.ap) w own H (by first|omega|assumption|(simp;done)|(simp;omega))) rfl) (.inr fun _=>(fun _=>Wd.aV [1,2,3] [0,1,2,3] rfl rfl rfl)) (fun h=>by cases h) rfl fun z5=>?_
  refine K.p (i:=12) rfl (by kernel_rfl) (.inr (fun _=>Wd.aV [1,2,3] [0,1,2,3] rfl rfl rfl)) rfl (fun w=>q.aS (off':=0) rfl a8 rfl) rfl<|?_
  refine K.one (i:=5) (by kernel_rfl) rfl ?_
  refine Ko.s (B':=(fun aL:Value=>[ah.row 74 aL (r.Things:List ai),ah.row 39 z5 (r.ap:List ao),ah.box b2 [.slice none 0 0,.slice none 0 0,.slice none 0 0,.slice none 0 0,.int .i64 0,.int .i64 0] 30,ah.box b1 [aD,az,aB,aA,.int .i64 r.ae,.int .i64 r.af] 30,ah.held w own])) (F':=(fun aL:Value=>[ah.ls aD (r.ap:List ao),ah.ls az (r.Things:List ai),ah.ls aB (r.Held:List Held),ah.ls aA (r.Notes:List Note)])) (s.bE (B0:=[]) (Br:=[ah.row 39 z5 (r.ap:List ao),ah.box b2 [.slice none 0 0,.slice none 0 0,.slice none 0 0,.slice none 0 0,.int .i64 0,.int .i64 0] 30,ah.box b1 [aD,az,aB,aA,.int .i64 r.ae,.int .i64 r.af] 30,ah.held w own]) (F0:=[ah.ls az (r.Things:List ai)]) [0,1,2,3] [1] (fun aL:Value=>aL) (fun aL:Value=>[ah.row 74 aL (r.Things:List ai)]) (fun aL:Value=>[]) rfl rfl rfl oL rfl rfl (fun w own hw H=>eL az (r.Things) w own H (by first|omega|assumption|(simp;done)|(simp;omega))) rfl) (.inr fun _=>(fun _=>Wd.aV [2,3,4] [0,1,2,3] rfl rfl rfl)) (fun h=>by cases h) rfl fun z6=>?_
  refine K.one (i:=8) (by kernel_rfl) rfl ?_
  refine Ko.s (B':=(fun aL:Value=>[ah.row 93 aL (r.Held:List Held),ah.row 74 z6 (r.Things:List ai),ah.row 39 z5 (r.ap:List ao),ah.box b2 [.slice none 0 0,.slice none 0 0,.slice none 0 0,.slice none 0 0,.int .i64 0,.int .i64 0] 30,ah.box b1 [aD,az,aB,aA,.int .i64 r.ae,.int .i64 r.af] 30,ah.held w own])) (F':=(fun aL:Value=>[ah.ls aD (r.ap:List ao),ah.ls az (r.Things:List ai),ah.ls aB (r.Held:List Held),ah.ls aA (r.Notes:List Note)])) (s.bE (B0:=[]) (Br:=[ah.row 74 z6 (r.Things:List ai),ah.row 39 z5 (r.ap:List ao),ah.box b2 [.slice none 0 0,.slice none 0 0,.slice none 0 0,.slice none 0 0,.int .i64 0,.int .i64 0] 30,ah.box b1 [aD,az,aB,aA,.int .i64 r.ae,.int .i64 r.af] 30,ah.held w own]) (F0:=[ah.ls aB (r.Held:List Held)]) [0,1,2,3,4] [2] (fun aL:Value=>aL) (fun aL:Value=>[ah.row 93 aL (r.Held:List Held)]) (fun aL:Value=>[]) rfl rfl rfl sH rfl rfl (fun w own hw H=>il aB (r.Held) w own H (by first|omega|assumption|(simp;done)|(simp;omega))) rfl) (.inr fun _=>(fun _=>Wd.aV [3,4,5] [0,1,2,3] rfl rfl rfl)) (fun h=>by cases h) rfl fun z7=>?_
  refine K.one (i:=11) (by kernel_rfl) rfl ?_
  refine Ko.s (B':=(fun aL:Value=>[ah.row 52 aL (r.Notes:List Note),ah.row 93 z7 (r.Held:List Held),ah.row 74 z6 (r.Things:List ai),ah.row 39 z5 (r.ap:List ao),ah.box b2 [.slice none 0 0,.slice none 0 0,.slice none 0 0,.slice none 0 0,.int .i64 0,.int .i64 0] 30,ah.box b1 [aD,az,aB,aA,.int .i64 r.ae,.int .i64 r.af] 30,ah.held w own])) (F':=(fun aL:Value=>[ah.ls aD (r.ap:List ao),ah.ls az (r.Things:List ai),ah.ls aB (r.Held:List Held),ah.ls aA (r.Notes:List Note)])) (s.bE (B0:=[]) (Br:=[ah.row 93 z7 (r.Held:List Held),ah.row 74 z6 (r.Things:List ai),ah.row 39 z5 (r.ap:List ao),ah.box b2 [.slice none 0 0,.slice none 0 0,.slice none 0 0,.slice none 0 0,.int .i64 0,.int .i64 0] 30,ah.box b1 [aD,az,aB,aA,.int .i64 r.ae,.int .i64 r.af] 30,ah.held w own]) (F0:=[ah.ls aA (r.Notes:List Note)]) [0,1,2,3,4,5] [3] (fun aL:Value=>aL) (fun aL:Value=>[ah.row 52 aL (r.Notes:List Note)]) (fun aL:Value=>[]) rfl rfl rfl kH rfl rfl (fun w own hw H=>dH aA (r.Notes) w own H (by first|omega|assumption|(simp;done)|(simp;omega))) rfl) (.inr fun _=>(fun _=>Wd.aV [4,5,6] [0,1,2,3] rfl rfl rfl)) (fun h=>by cases h) rfl fun z8=>?_
  refine K.one (i:=13) (by kernel_rfl) rfl ?_
  refine Ko.s (s.cS (us:=[z5]) (cs':=[z5,az,aB,aA,.int .i64 r.ae,.int .i64 r.af]) 5 _ rfl rfl rfl (fun w hw=>Sl.bJ ((fun _=>Wd.row 3 rfl) w hw)) (.inr ⟨bN,rfl⟩) (fun w hw=>(aj (Sl.one ((fun _=>Wd.row 3 rfl) w hw)) aJ)) rfl rfl rfl) (.inl rfl) (fun _=>by kernel_rfl) rfl fun _=>?_
  refine K.p (i:=14) rfl (by kernel_rfl) (.inl (by kernel_rfl)) rfl (fun w=>q.aS (off':=1) rfl bm rfl) rfl<|?_
  refine K.one (i:=15) (by kernel_rfl) rfl ?_
  refine Ko.s (s.cS (us:=[z6]) (cs':=[z5,z6,aB,aA,.int .i64 r.ae,.int .i64 r.af]) 5 _ rfl rfl rfl (fun w hw=>Sl.bJ ((fun _=>Wd.row 2 rfl) w hw)) (.inr ⟨bT,rfl⟩) (fun w hw=>(aj (Sl.one ((fun _=>Wd.row 2 rfl) w hw)) aJ)) rfl rfl rfl) (.inl rfl) (fun _=>by kernel_rfl) rfl fun _=>?_
  refine K.p (i:=16) rfl (by kernel_rfl) (.inl (by kernel_rfl)) rfl (fun w=>q.aS (off':=2) rfl bf rfl) rfl<|?_
  refine K.one (i:=17) (by kernel_rfl) rfl ?_
  refine Ko.s (s.cS (us:=[z7]) (cs':=[z5,z6,z7,aA,.int .i64 r.ae,.int .i64 r.af]) 5 _ rfl rfl rfl (fun w hw=>Sl.bJ ((fun _=>Wd.row 1 rfl) w hw)) (.inr ⟨bQ,rfl⟩) (fun w hw=>(aj (Sl.one ((fun _=>Wd.row 1 rfl) w hw)) aJ)) rfl rfl rfl) (.inl rfl) (fun _=>by kernel_rfl) rfl fun _=>?_
  refine K.p (i:=18) rfl (by kernel_rfl) (.inl (by kernel_rfl)) rfl (fun w=>q.aS (off':=3) rfl aT rfl) rfl<|?_
  refine K.one (i:=19) (by kernel_rfl) rfl ?_
  refine Ko.s (s.cS (us:=[z8]) (cs':=[z5,z6,z7,z8,.int .i64 r.ae,.int .i64 r.af]) 5 _ rfl rfl rfl (fun w hw=>Sl.bJ ((fun _=>Wd.row 0 rfl) w hw)) (.inr ⟨a6,rfl⟩) (fun w hw=>(aj (Sl.one ((fun _=>Wd.row 0 rfl) w hw)) aJ)) rfl rfl rfl) (.inl rfl) (fun _=>by kernel_rfl) rfl fun _=>?_
  refine K.done (by kernel_rfl)<|?_
  refine R.reg rfl<|R.q (q.bI 5 rfl rfl au) rfl<|?_
  refine R.s rfl (s.cS (us:=[z5,z6,z7,z8,.int .i64 r.ae,.int .i64 r.af]) (cs':=[z5,z6,z7,z8,.int .i64 r.ae,.int .i64 r.af]) 4 _ rfl rfl rfl (fun _ _=>rfl) (.inl au) (fun w hw=>(aj (Sl.one ((fun _=>Wd.row 3 rfl) w hw)) (aj (Sl.one ((fun _=>Wd.row 2 rfl) w hw)) (aj (Sl.one ((fun _=>Wd.row 1 rfl) w hw)) (aj (Sl.one ((fun _=>Wd.row 0 rfl) w hw)) (aj rfl (aj rfl aJ))))))) rfl rfl rfl) fun _=>?_
  refine R.nil ?_
  refine R.mp (B':=[ah.row 52 z8 (r.Notes:List Note),ah.row 93 z7 (r.Held:List Held),ah.row 74 z6 (r.Things:List ai),ah.box b2 [z5,z6,z7,z8,.int .i64 r.ae,.int .i64 r.af] 30,ah.box b1 [z5,z6,z7,z8,.int .i64 r.ae,.int .i64 r.af] 30,ah.held w own]) (fun _ hw=>hw.aZ 3 _ rfl rfl) ?_
  refine R.mp (B':=[ah.row 52 z8 (r.Notes:List Note),ah.row 93 z7 (r.Held:List Held),ah.box b2 [z5,z6,z7,z8,.int .i64 r.ae,.int .i64 r.af] 30,ah.box b1 [z5,z6,z7,z8,.int .i64 r.ae,.int .i64 r.af] 30,ah.held w own]) (fun _ hw=>hw.aZ 2 _ rfl rfl) ?_
  refine R.mp (B':=[ah.row 52 z8 (r.Notes:List Note),ah.box b2 [z5,z6,z7,z8,.int .i64 r.ae,.int .i64 r.af] 30,ah.box b1 [z5,z6,z7,z8,.int .i64 r.ae,.int .i64 r.af] 30,ah.held w own]) (fun _ hw=>hw.aZ 1 _ rfl rfl) ?_
  refine R.mp (B':=[ah.box b2 [z5,z6,z7,z8,.int .i64 r.ae,.int .i64 r.af] 30,ah.box b1 [z5,z6,z7,z8,.int .i64 r.ae,.int .i64 r.af] 30,ah.held w own]) (fun _ hw=>hw.aZ 0 _ rfl rfl) ?_
  exact R.w1 (z5,z6,z7,z8) [2] [3,2,1,0] rfl Tryz.results18 (RV.cell 0 rfl rfl au) rfl rfl rfl rfl
end Go.Proofs.YtpipachmngdegaaGreat
end
