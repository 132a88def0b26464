import Derived.Test.YtpipachmngdegaaGreatRSP45
section
namespace Go.Proofs.YtpipachmngdegaaGreat
open Go Go.RowKit
set_option linter.unusedVariables false
set_option linter.unusedSimpArgs false
set_option maxRecDepth 100000
set_option maxRecDepth 100000 in
set_option maxHeartbeats 1000000 in
theorem kg (aD az aB aA:Value)(r:ay)(w:World)(own:List Nat)(H:Wd w (blks []++own) ([]++[ah.held w own]) [ah.ls aD (r.ap:List ao),ah.ls az (r.Things:List ai),ah.ls aB (r.Held:List Held),ah.ls aA (r.Notes:List Note)] w)(hk:Ok r)(hP:Pre r):Calls Tryz.prog 43 #[.agg #[aD,az,aB,aA,.int .i64 r.ae,.int .i64 r.af]] w fun e w' => ∃z:Value×Value×Value×Value,e = .returned (.agg #[z.1,z.2.1,z.2.2.1,z.2.2.2,.int .i64 (((aP r)).ae),.int .i64 (((aP r)).af)])∧Wd w (blks []++own) ([]++[ah.held w own]) [ah.ls z.1 (((aP r)).ap:List ao),ah.ls z.2.1 (((aP r)).Things:List ai),ah.ls z.2.2.1 (((aP r)).Held:List Held),ah.ls z.2.2.2 (((aP r)).Notes:List Note)] w':=by
  have cw:=H.bS 0 rfl
  have bY:=H.bS 1 rfl
  have cI:=H.bS 2 rfl
  have cx:=H.bS 3 rfl
  refine R.cC (n:=120) (vs:=[.agg #[aD,az,aB,aA,.int .i64 r.ae,.int .i64 r.af]]) (B:=[ah.held w own]) [(0,.agg #[aD,az,aB,aA,.int .i64 r.ae,.int .i64 r.af])] Tryz.func43 rfl rfl rfl rfl H ?_
  refine R.reg rfl<|?_
  refine R.s rfl (s.box (cs:=[aD,az,aB,aA,.int .i64 r.ae,.int .i64 r.af]) rfl rfl rfl) fun b1=>?_
  refine R.s rfl (s.alloc (cs:=[.slice none 0 0,.slice none 0 0,.slice none 0 0,.slice none 0 0,.int .i64 0,.int .i64 0]) bR rfl rfl) fun b2=>?_
  refine R.nil ?_
  refine R.loop (fun g_:ay×Value×Value×Value×Value=>[(1,.pointer (some ⟨b1,0,none⟩)),(2,.pointer (some ⟨b2,0,none⟩))]) (fun g_:ay×Value×Value×Value×Value=>[ah.box b2 [.slice none 0 0,.slice none 0 0,.slice none 0 0,.slice none 0 0,.int .i64 0,.int .i64 0] 30,ah.box b1 [g_.2.1,g_.2.2.1,g_.2.2.2.1,g_.2.2.2.2,.int .i64 g_.1.ae,.int .i64 g_.1.af] 30,ah.held w own]) (fun g_:ay×Value×Value×Value×Value=>[ah.ls g_.2.1 (g_.1.ap:List ao),ah.ls g_.2.2.1 (g_.1.Things:List ai),ah.ls g_.2.2.2.1 (g_.1.Held:List Held),ah.ls g_.2.2.2.2 (g_.1.Notes:List Note),ah.ls aD (r.ap:List ao),ah.ls az (r.Things:List ai),ah.ls aB (r.Held:List Held),ah.ls aA (r.Notes:List Note)]) (fun g_:ay×Value×Value×Value×Value=>Ok g_.1∧Pre g_.1∧aP g_.1=aP r) (fun g_:ay×Value×Value×Value×Value=>g_.1.Notes.length) (r,aD,az,aB,aA) rfl (by exact ⟨hk,hP,rfl⟩) ⟨rfl,rfl,trivial⟩ (fun _=>Wd.pick [0,1,2] [0,1,2,3,0,1,2,3] rfl rfl rfl) ?_
  rintro ⟨m,gl,k6,jP,kU⟩ ⟨hok,hpm,HS⟩
  dsimp only at *
  have o1:=hok.wl;have o2:=hok.tl;have o3:=hok.hl;have o4:=hok.nl;have hmt:=hpm.tree
  refine R.reg rfl<|R.q (q.aS (off':=0) rfl a8 rfl) rfl<|R.q (q.ld 1 rfl rfl bN rfl) rfl<|R.q (q.aS (off':=4) rfl bU rfl) rfl<|R.q (q.ld 1 rfl rfl aG rfl) rfl<|R.q (q.aS (off':=5) rfl cQ rfl) rfl<|R.q (q.ld 1 rfl rfl aG rfl) rfl<|R.q (q.vM (cs:=[gl,.slice none 0 0,.slice none 0 0,.slice none 0 0,.int .i64 m.ae,.int .i64 m.af]) ck rfl (fun w hw=>(ou (Sl.vL ((fun _=>Wd.aO 0 rfl) w hw)) (ou rfl (ou rfl vK)))) rfl) rfl<|?_
  refine R.s rfl (s.alloc (cs:=[.slice none 0 0,.slice none 0 0,.slice none 0 0,.slice none 0 0,.int .i64 0,.int .i64 0]) bR rfl rfl) fun b3=>?_
  refine R.s rfl (s.cS (us:=[gl,.slice none 0 0,.slice none 0 0,.slice none 0 0,.int .i64 m.ae,.int .i64 m.af]) (cs':=[gl,.slice none 0 0,.slice none 0 0,.slice none 0 0,.int .i64 m.ae,.int .i64 m.af]) 0 _ rfl rfl rfl (fun _ _=>rfl) (.inl au) (fun w hw=>(aj (Sl.one ((fun _=>Wd.aO 0 rfl) w hw)) (aj rfl (aj rfl (aj rfl (aj rfl (aj rfl aJ))))))) rfl rfl rfl) fun _=>?_
  refine R.nil ?_
  refine R.reg rfl<|R.q (q.aS (off':=0) rfl a8 rfl) rfl<|R.q (q.ld 2 rfl rfl bN rfl) rfl<|?_
  refine R.s rfl (s.jk xn rfl rfl (fun w hw=>pD _ (m.ap) w ((fun _=>Wd.aO 0 rfl) w hw) (by first|assumption|exact hI.tree|exact hP.tree)) rfl) fun v1=>?_
  refine R.u 1 rfl<|R.nil ?_
  refine R.reg rfl<|R.u 1 rfl<|R.nil ?_
  refine R.row0 (α:=ai) 74 ?_
  refine R.loop (fun g_:Nat×Value×(List ai)=>[(1,.pointer (some ⟨b1,0,none⟩)),(2,.pointer (some ⟨b2,0,none⟩)),(3,.pointer (some ⟨b3,0,none⟩)),(4,v1),(5,.int .i64 (g_.1:Int))]) (fun g_:Nat×Value×(List ai)=>[ah.row 74 g_.2.1 (g_.2.2:List ai),ah.row 3 v1 ((aQ m.ap):List Int),ah.box b3 [gl,g_.2.1,.slice none 0 0,.slice none 0 0,.int .i64 m.ae,.int .i64 m.af] 30,ah.box b2 [.slice none 0 0,.slice none 0 0,.slice none 0 0,.slice none 0 0,.int .i64 0,.int .i64 0] 30,ah.box b1 [gl,k6,jP,kU,.int .i64 m.ae,.int .i64 m.af] 30,ah.held w own]) (fun g_:Nat×Value×(List ai)=>[ah.ls gl (m.ap:List ao),ah.ls k6 (m.Things:List ai),ah.ls jP (m.Held:List Held),ah.ls kU (m.Notes:List Note),ah.ls aD (r.ap:List ao),ah.ls az (r.Things:List ai),ah.ls aB (r.Held:List Held),ah.ls aA (r.Notes:List Note)]) (fun g_:Nat×Value×(List ai)=>g_.1≤m.Things.length∧g_.2.2=(m.Things.take g_.1).filter (fun t => !!decide (t.ID∈(aQ m.ap)))) (fun g_:Nat×Value×(List ai)=>m.Things.length-g_.1) (0,(.slice none 0 0),[]) rfl (by exact ⟨by omega,by simp⟩) ⟨rfl,rfl,rfl,rfl,rfl,trivial⟩ (fun _=>Wd.pick [0,1,2,3,4,5] [0,1,2,3,4,5,6,7] rfl rfl rfl) ?_
  rintro ⟨j,vt,ts⟩ ⟨hj1,HT⟩
  dsimp only at *
  have htl:ts.length≤j:=by rw [HT];exact lg _ _ _
  refine R.reg rfl<|R.u 1 rfl<|R.q (q.aS (off':=1) rfl bm rfl) rfl<|R.q (q.ld 4 rfl rfl bT rfl) rfl<|R.q (q.len' (fun _=>Wd.aO 1 rfl) rfl Tryz.underlying26) rfl<|?_
  by_cases h1:j<m.Things.length
  ·
    refine R.q (q.lss rfl rfl (decide_eq_true (by omega))) rfl<|R.nil ?_
    refine R.aI rfl rfl ?_
    refine R.reg rfl<|R.u 1 rfl<|R.q (q.aS (off':=1) rfl bm rfl) rfl<|R.q (q.ld 4 rfl rfl bT rfl) rfl<|R.u 1 rfl<|?_
    obtain ⟨x1,hx1⟩:∃z,m.Things[j]? = some z:=⟨_,List.getElem?_eq_getElem (by omega)⟩
    refine R.q (q.idx (i:=j) (fun _=>Wd.aO 1 rfl) rfl rfl dJ rfl hx1) rfl<|R.q (q.eJ (j':=0) (fun _=>Wd.aO 1 rfl) hx1 rfl iF rfl) rfl<|R.q (q.jU (fun _=>Wd.aO 1 rfl) hx1 rfl aG rfl) rfl<|?_
    rcases Bool.eq_false_or_eq_true (decide (x1.ID∈(aQ m.ap))) with h2|h2
    ·
      refine R.c (q.call lq rfl rfl (fun w hw=>(cv (congrArg Value.bool h2) (ij _ ((aQ m.ap)) (x1.ID) w ((fun _=>Wd.row 1 rfl) w hw) )))) rfl<|R.u 1 rfl<|R.nil ?_
      refine R.reg rfl<|R.u 1 rfl<|R.nil ?_
      refine R.aI rfl rfl ?_
      refine R.gD (fuel:=11) (Wd w (blks []++own) [ah.row 3 v1 ((aQ m.ap):List Int),ah.box b2 [.slice none 0 0,.slice none 0 0,.slice none 0 0,.slice none 0 0,.int .i64 0,.int .i64 0] 30,ah.box b1 [gl,k6,jP,kU,.int .i64 m.ae,.int .i64 m.af] 30,ah.held w own] [ah.ls gl (m.ap:List ao),ah.ls k6 (m.Things:List ai),ah.ls jP (m.Held:List Held),ah.ls kU (m.Notes:List Note),ah.ls aD (r.ap:List ao),ah.ls az (r.Things:List ai),ah.ls aB (r.Held:List Held),ah.ls aA (r.Notes:List Note)]) rfl mixed rfl ?_
      refine D.q (i:=0) rfl (by kernel_rfl) (fun _=>Wd.aV [1,3,4,5] [0,1,2,3,4,5,6,7] rfl rfl rfl) rfl (q.aS (off':=1) rfl bm rfl) rfl<|D.q (i:=2) rfl (by kernel_rfl) (fun _=>Wd.aV [1,3,4,5] [0,1,2,3,4,5,6,7] rfl rfl rfl) rfl (q.aS (off':=1) rfl bm rfl) rfl<|D.q (i:=3) rfl (by kernel_rfl) (fun _=>Wd.aV [1,3,4,5] [0,1,2,3,4,5,6,7] rfl rfl rfl) rfl (q.ld 2 rfl rfl bT rfl) rfl<|D.q (i:=4) rfl (by kernel_rfl) (fun _=>Wd.aV [1,3,4,5] [0,1,2,3,4,5,6,7] rfl rfl rfl) rfl (q.mv rfl) rfl<|D.q (i:=5) rfl (by kernel_rfl) (fun _=>Wd.aV [1,3,4,5] [0,1,2,3,4,5,6,7] rfl rfl rfl) rfl (q.idx (i:=j) (fun _=>Wd.aO 1 rfl) rfl rfl dJ rfl hx1) rfl<|D.q (i:=6) rfl (by kernel_rfl) (fun _=>Wd.aV [1,3,4,5] [0,1,2,3,4,5,6,7] rfl rfl rfl) rfl (q.dx (ds:=[.int .i64 x1.ID,.int .i64 x1.Kind,.string x1.Data]) (fun _=>Wd.aO 1 rfl) hx1 rfl fJ rfl) rfl<|?_
      refine D.two (i:=1) (j:=7) (by kernel_rfl) rfl rfl ?_ ?_
      ·
        refine Do.s (s.c (Qt.a (q.ld 2 rfl rfl bT rfl)) rfl) (fun _=>(fun _=>Wd.aV [1,3,4,5] [0,1,2,3,4,5,6,7] rfl rfl rfl)) rfl fun _=>?_
        refine D.one (i:=7) (by kernel_rfl) rfl ?_
        refine Do.s (s.bs (l:=([x1]:List ai)) dJ fK rfl rfl rfl rfl rfl rfl rfl) (fun _=>(fun _=>Wd.aV [2,4,5,6] [0,1,2,3,4,5,6,7] rfl rfl rfl)) rfl fun b4=>?_
        refine D.one (i:=8) (by kernel_rfl) rfl ?_
        refine Do.s (s.app (l2:=[x1]) 1 _ rfl rfl rfl (fun _=>Wd.row 0 rfl) hG (by first|omega|(simp;omega)|(simp [aF];omega)|(dsimp only [aF];omega)) (by first|omega|(simp;omega)|(simp [aF];omega)|(dsimp only [aF];omega)) (fun _=>rfl) rfl) (fun _=>(fun _=>Wd.aV [2,4,5,6] [0,1,2,3,4,5,6,7] rfl rfl rfl)) rfl fun v2=>?_
        refine D.q (i:=9) rfl (by kernel_rfl) (fun _=>Wd.aV [2,4,5,6] [0,1,2,3,4,5,6,7] rfl rfl rfl) rfl (q.aS (off':=1) rfl bm rfl) rfl<|?_
        refine D.one (i:=10) (by kernel_rfl) rfl ?_
        refine Do.s (s.cS (us:=[v2]) (cs':=[gl,v2,.slice none 0 0,.slice none 0 0,.int .i64 m.ae,.int .i64 m.af]) 3 _ rfl rfl rfl (fun w hw=>Sl.bJ ((fun _=>Wd.row 1 rfl) w hw)) (.inr ⟨bT,rfl⟩) (fun w hw=>(aj (Sl.one ((fun _=>Wd.row 1 rfl) w hw)) aJ)) rfl rfl rfl) (fun _=>(fun _=>Wd.aV [2,4,5,6] [0,1,2,3,4,5,6,7] rfl rfl rfl)) rfl fun _=>?_
        refine D.done (by kernel_rfl)<|?_
        refine R.reg rfl<|R.u 1 rfl<|R.q (q.add (r:=((j+1:Nat):Int)) rfl rfl (wr (by omega))) rfl<|R.u 1 rfl<|R.nil ?_
        refine R.back (j+1,v2,(ts++([x1]))) rfl (by (exact ⟨by omega,by rw [gU hx1 (by simpa using ‹decide (_∈aQ m.ap)=true›),HT]⟩)) (by dsimp only;omega) ⟨rfl,rfl,rfl,rfl,rfl,trivial⟩ (fun _=>Wd.aV [1,2,3,4,5,6] [0,1,2,3,4,5,6,7] rfl rfl rfl)
      ·
        refine Do.s (s.bs (l:=([x1]:List ai)) dJ fK rfl rfl rfl rfl rfl rfl rfl) (fun _=>(fun _=>Wd.aV [2,4,5,6] [0,1,2,3,4,5,6,7] rfl rfl rfl)) rfl fun b5=>?_
        refine D.one (i:=1) (by kernel_rfl) rfl ?_
        refine Do.s (s.c (Qt.a (q.ld 3 rfl rfl bT rfl)) rfl) (fun _=>(fun _=>Wd.aV [2,4,5,6] [0,1,2,3,4,5,6,7] rfl rfl rfl)) rfl fun _=>?_
        refine D.one (i:=8) (by kernel_rfl) rfl ?_
        refine Do.s (s.app (l2:=[x1]) 1 _ rfl rfl rfl (fun _=>Wd.row 0 rfl) hG (by first|omega|(simp;omega)|(simp [aF];omega)|(dsimp only [aF];omega)) (by first|omega|(simp;omega)|(simp [aF];omega)|(dsimp only [aF];omega)) (fun _=>rfl) rfl) (fun _=>(fun _=>Wd.aV [2,4,5,6] [0,1,2,3,4,5,6,7] rfl rfl rfl)) rfl fun v3=>?_
        refine D.q (i:=9) rfl (by kernel_rfl) (fun _=>Wd.aV [2,4,5,6] [0,1,2,3,4,5,6,7] rfl rfl rfl) rfl (q.aS (off':=1) rfl bm rfl) rfl<|?_
        refine D.one (i:=10) (by kernel_rfl) rfl ?_
        refine Do.s (s.cS (us:=[v3]) (cs':=[gl,v3,.slice none 0 0,.slice none 0 0,.int .i64 m.ae,.int .i64 m.af]) 3 _ rfl rfl rfl (fun w hw=>Sl.bJ ((fun _=>Wd.row 1 rfl) w hw)) (.inr ⟨bT,rfl⟩) (fun w hw=>(aj (Sl.one ((fun _=>Wd.row 1 rfl) w hw)) aJ)) rfl rfl rfl) (fun _=>(fun _=>Wd.aV [2,4,5,6] [0,1,2,3,4,5,6,7] rfl rfl rfl)) rfl fun _=>?_
        refine D.done (by kernel_rfl)<|?_
        refine R.reg rfl<|R.u 1 rfl<|R.q (q.add (r:=((j+1:Nat):Int)) rfl rfl (wr (by omega))) rfl<|R.u 1 rfl<|R.nil ?_
        refine R.back (j+1,v3,(ts++([x1]))) rfl (by (exact ⟨by omega,by rw [gU hx1 (by simpa using ‹decide (_∈aQ m.ap)=true›),HT]⟩)) (by dsimp only;omega) ⟨rfl,rfl,rfl,rfl,rfl,trivial⟩ (fun _=>Wd.aV [1,2,3,4,5,6] [0,1,2,3,4,5,6,7] rfl rfl rfl)
    ·
      refine R.c (q.call lq rfl rfl (fun w hw=>(cv (congrArg Value.bool h2) (ij _ ((aQ m.ap)) (x1.ID) w ((fun _=>Wd.row 1 rfl) w hw) )))) rfl<|R.u 1 rfl<|R.nil ?_
      refine R.reg rfl<|R.u 1 rfl<|R.nil ?_
      refine R.aH rfl rfl ?_
      refine R.reg rfl<|R.u 1 rfl<|R.q (q.add (r:=((j+1:Nat):Int)) rfl rfl (wr (by omega))) rfl<|R.u 1 rfl<|R.nil ?_
      refine R.back (j+1,vt,ts) rfl (by (exact ⟨by omega,by rw [lf hx1 (by simpa using ‹decide (_∈aQ m.ap)=false›),HT]⟩)) (by dsimp only;omega) ⟨rfl,rfl,rfl,rfl,rfl,trivial⟩ (fun _=>Wd.aV [0,1,2,3,4,5] [0,1,2,3,4,5,6,7] rfl rfl rfl)
  ·
    refine R.q (q.lss rfl rfl (decide_eq_false (by omega))) rfl<|R.nil ?_
    refine R.aH rfl rfl ?_
    refine R.reg rfl<|R.u 1 rfl<|R.nil ?_
    refine R.row0 (α:=Held) 93 ?_
    refine R.loop (fun g_:Nat×Value×(List Held)=>[(1,.pointer (some ⟨b1,0,none⟩)),(2,.pointer (some ⟨b2,0,none⟩)),(3,.pointer (some ⟨b3,0,none⟩)),(4,v1),(7,.int .i64 (g_.1:Int))]) (fun g_:Nat×Value×(List Held)=>[ah.row 93 g_.2.1 (g_.2.2:List Held),ah.row 74 vt (ts:List ai),ah.row 3 v1 ((aQ m.ap):List Int),ah.box b3 [gl,vt,g_.2.1,.slice none 0 0,.int .i64 m.ae,.int .i64 m.af] 30,ah.box b2 [.slice none 0 0,.slice none 0 0,.slice none 0 0,.slice none 0 0,.int .i64 0,.int .i64 0] 30,ah.box b1 [gl,k6,jP,kU,.int .i64 m.ae,.int .i64 m.af] 30,ah.held w own]) (fun g_:Nat×Value×(List Held)=>[ah.ls gl (m.ap:List ao),ah.ls k6 (m.Things:List ai),ah.ls jP (m.Held:List Held),ah.ls kU (m.Notes:List Note),ah.ls aD (r.ap:List ao),ah.ls az (r.Things:List ai),ah.ls aB (r.Held:List Held),ah.ls aA (r.Notes:List Note)]) (fun g_:Nat×Value×(List Held)=>g_.1≤m.Held.length∧g_.2.2=(m.Held.take g_.1).filter (fun h => !decide (cb m.ap h.ao<0))) (fun g_:Nat×Value×(List Held)=>m.Held.length-g_.1) (0,(.slice none 0 0),[]) rfl (by exact ⟨by omega,by simp⟩) ⟨rfl,rfl,rfl,rfl,rfl,trivial⟩ (fun _=>Wd.pick [0,1,2,3,4,5,6] [0,1,2,3,4,5,6,7] rfl rfl rfl) ?_
    rintro ⟨i,vh,hs⟩ ⟨hi1,HH⟩
    dsimp only at *
    have zQ:hs.length≤i:=by rw [HH];exact lg _ _ _
    refine R.reg rfl<|R.u 1 rfl<|R.q (q.aS (off':=2) rfl bf rfl) rfl<|R.q (q.ld 5 rfl rfl bQ rfl) rfl<|R.q (q.len' (fun _=>Wd.aO 2 rfl) rfl Tryz.underlying27) rfl<|?_
    by_cases h3:i<m.Held.length
    ·
      refine R.q (q.lss rfl rfl (decide_eq_true (by omega))) rfl<|R.nil ?_
      refine R.aI rfl rfl ?_
      obtain ⟨x2,hx2⟩:∃z,m.Held[i]? = some z:=⟨_,List.getElem?_eq_getElem (by omega)⟩
      rcases dm m.ap x2.ao with ⟨dt,j2⟩ | ⟨fU,dP,dt,e6,vV⟩
      ·
        refine R.gq rfl mixed (by kernel_rfl)<|Q.q (q.aS (off':=0) rfl a8 rfl) rfl<|Q.q (q.ld 5 rfl rfl bN rfl) rfl<|Q.q (q.aS (off':=2) rfl bf rfl) rfl<|Q.q (q.ld 5 rfl rfl bQ rfl) rfl<|Q.u 1 rfl<|Q.q (q.idx (i:=i) (fun _=>Wd.aO 2 rfl) rfl rfl bj rfl hx2) rfl<|Q.q (q.eJ (j':=2) (fun _=>Wd.aO 2 rfl) hx2 rfl gK rfl) rfl<|Q.q (q.jU (fun _=>Wd.aO 2 rfl) hx2 rfl aG rfl) rfl<|Q.c (q.call kG rfl rfl (fun w hw=>(cv (congrArg (Value.int .i64) dt) (ei _ (m.ap) (x2.ao) w ((fun _=>Wd.aO 0 rfl) w hw) )))) rfl<|Q.q (q.geq (b:=false) rfl rfl (by decide)) rfl<|Q.nil ?_
        refine R.aH rfl rfl ?_
        refine R.reg rfl<|R.u 1 rfl<|R.q (q.add (r:=((i+1:Nat):Int)) rfl rfl (wr (by omega))) rfl<|R.u 1 rfl<|R.nil ?_
        refine R.back (i+1,vh,hs) rfl (by (exact ⟨by omega,by rw [lf hx2 (by first|(simp;omega)|simpa using dt),HH]⟩)) (by dsimp only;omega) ⟨rfl,rfl,rfl,rfl,rfl,trivial⟩ (fun _=>Wd.aV [0,1,2,3,4,5,6] [0,1,2,3,4,5,6,7] rfl rfl rfl)
      ·
        refine R.gq rfl mixed (by kernel_rfl)<|Q.q (q.aS (off':=0) rfl a8 rfl) rfl<|Q.q (q.ld 5 rfl rfl bN rfl) rfl<|Q.q (q.aS (off':=2) rfl bf rfl) rfl<|Q.q (q.ld 5 rfl rfl bQ rfl) rfl<|Q.u 1 rfl<|Q.q (q.idx (i:=i) (fun _=>Wd.aO 2 rfl) rfl rfl bj rfl hx2) rfl<|Q.q (q.eJ (j':=2) (fun _=>Wd.aO 2 rfl) hx2 rfl gK rfl) rfl<|Q.q (q.jU (fun _=>Wd.aO 2 rfl) hx2 rfl aG rfl) rfl<|Q.c (q.call kG rfl rfl (fun w hw=>(cv (congrArg (Value.int .i64) dt) (ei _ (m.ap) (x2.ao) w ((fun _=>Wd.aO 0 rfl) w hw) )))) rfl<|Q.q (q.geq rfl rfl (decide_eq_true (by omega))) rfl<|Q.nil ?_
        refine R.aI rfl rfl ?_
        refine R.gD (fuel:=11) (Wd w (blks []++own) [ah.row 74 vt (ts:List ai),ah.row 3 v1 ((aQ m.ap):List Int),ah.box b2 [.slice none 0 0,.slice none 0 0,.slice none 0 0,.slice none 0 0,.int .i64 0,.int .i64 0] 30,ah.box b1 [gl,k6,jP,kU,.int .i64 m.ae,.int .i64 m.af] 30,ah.held w own] [ah.ls gl (m.ap:List ao),ah.ls k6 (m.Things:List ai),ah.ls jP (m.Held:List Held),ah.ls kU (m.Notes:List Note),ah.ls aD (r.ap:List ao),ah.ls az (r.Things:List ai),ah.ls aB (r.Held:List Held),ah.ls aA (r.Notes:List Note)]) rfl mixed rfl ?_
        refine D.q (i:=0) rfl (by kernel_rfl) (fun _=>Wd.aV [1,2,4,5,6] [0,1,2,3,4,5,6,7] rfl rfl rfl) rfl (q.aS (off':=2) rfl bf rfl) rfl<|D.q (i:=2) rfl (by kernel_rfl) (fun _=>Wd.aV [1,2,4,5,6] [0,1,2,3,4,5,6,7] rfl rfl rfl) rfl (q.aS (off':=2) rfl bf rfl) rfl<|D.q (i:=3) rfl (by kernel_rfl) (fun _=>Wd.aV [1,2,4,5,6] [0,1,2,3,4,5,6,7] rfl rfl rfl) rfl (q.ld 3 rfl rfl bQ rfl) rfl<|D.q (i:=4) rfl (by kernel_rfl) (fun _=>Wd.aV [1,2,4,5,6] [0,1,2,3,4,5,6,7] rfl rfl rfl) rfl (q.mv rfl) rfl<|D.q (i:=5) rfl (by kernel_rfl) (fun _=>Wd.aV [1,2,4,5,6] [0,1,2,3,4,5,6,7] rfl rfl rfl) rfl (q.idx (i:=i) (fun _=>Wd.aO 2 rfl) rfl rfl bj rfl hx2) rfl<|D.q (i:=6) rfl (by kernel_rfl) (fun _=>Wd.aV [1,2,4,5,6] [0,1,2,3,4,5,6,7] rfl rfl rfl) rfl (q.dx (ds:=[.int .i64 x2.Place.ag,.int .i64 x2.Place.Slot,.int .i64 x2.ao]) (fun _=>Wd.aO 2 rfl) hx2 rfl dh rfl) rfl<|?_
        refine D.two (i:=1) (j:=7) (by kernel_rfl) rfl rfl ?_ ?_
        ·
          refine Do.s (s.c (Qt.a (q.ld 3 rfl rfl bQ rfl)) rfl) (fun _=>(fun _=>Wd.aV [1,2,4,5,6] [0,1,2,3,4,5,6,7] rfl rfl rfl)) rfl fun _=>?_
          refine D.one (i:=7) (by kernel_rfl) rfl ?_
          refine Do.s (s.bs (l:=([x2]:List Held)) bj cO rfl rfl rfl rfl rfl rfl rfl) (fun _=>(fun _=>Wd.aV [2,3,5,6,7] [0,1,2,3,4,5,6,7] rfl rfl rfl)) rfl fun b6=>?_
          refine D.one (i:=8) (by kernel_rfl) rfl ?_
          refine Do.s (s.app (l2:=[x2]) 1 _ rfl rfl rfl (fun _=>Wd.row 0 rfl) dr (by first|omega|(simp;omega)|(simp [aF];omega)|(dsimp only [aF];omega)) (by first|omega|(simp;omega)|(simp [aF];omega)|(dsimp only [aF];omega)) (fun _=>rfl) rfl) (fun _=>(fun _=>Wd.aV [2,3,5,6,7] [0,1,2,3,4,5,6,7] rfl rfl rfl)) rfl fun v4=>?_
          refine D.q (i:=9) rfl (by kernel_rfl) (fun _=>Wd.aV [2,3,5,6,7] [0,1,2,3,4,5,6,7] rfl rfl rfl) rfl (q.aS (off':=2) rfl bf rfl) rfl<|?_
          refine D.one (i:=10) (by kernel_rfl) rfl ?_
          refine Do.s (s.cS (us:=[v4]) (cs':=[gl,vt,v4,.slice none 0 0,.int .i64 m.ae,.int .i64 m.af]) 4 _ rfl rfl rfl (fun w hw=>Sl.bJ ((fun _=>Wd.row 1 rfl) w hw)) (.inr ⟨bQ,rfl⟩) (fun w hw=>(aj (Sl.one ((fun _=>Wd.row 1 rfl) w hw)) aJ)) rfl rfl rfl) (fun _=>(fun _=>Wd.aV [2,3,5,6,7] [0,1,2,3,4,5,6,7] rfl rfl rfl)) rfl fun _=>?_
          refine D.done (by kernel_rfl)<|?_
          refine R.reg rfl<|R.u 1 rfl<|R.q (q.add (r:=((i+1:Nat):Int)) rfl rfl (wr (by omega))) rfl<|R.u 1 rfl<|R.nil ?_
          refine R.back (i+1,v4,(hs++([x2]))) rfl (by (exact ⟨by omega,by rw [gU hx2 (by first|(simp;omega)|simpa using dt),HH]⟩)) (by dsimp only;omega) ⟨rfl,rfl,rfl,rfl,rfl,trivial⟩ (fun _=>Wd.aV [1,2,3,4,5,6,7] [0,1,2,3,4,5,6,7] rfl rfl rfl)
        ·
          refine Do.s (s.bs (l:=([x2]:List Held)) bj cO rfl rfl rfl rfl rfl rfl rfl) (fun _=>(fun _=>Wd.aV [2,3,5,6,7] [0,1,2,3,4,5,6,7] rfl rfl rfl)) rfl fun b7=>?_
          refine D.one (i:=1) (by kernel_rfl) rfl ?_
          refine Do.s (s.c (Qt.a (q.ld 4 rfl rfl bQ rfl)) rfl) (fun _=>(fun _=>Wd.aV [2,3,5,6,7] [0,1,2,3,4,5,6,7] rfl rfl rfl)) rfl fun _=>?_
          refine D.one (i:=8) (by kernel_rfl) rfl ?_
          refine Do.s (s.app (l2:=[x2]) 1 _ rfl rfl rfl (fun _=>Wd.row 0 rfl) dr (by first|omega|(simp;omega)|(simp [aF];omega)|(dsimp only [aF];omega)) (by first|omega|(simp;omega)|(simp [aF];omega)|(dsimp only [aF];omega)) (fun _=>rfl) rfl) (fun _=>(fun _=>Wd.aV [2,3,5,6,7] [0,1,2,3,4,5,6,7] rfl rfl rfl)) rfl fun v5=>?_
          refine D.q (i:=9) rfl (by kernel_rfl) (fun _=>Wd.aV [2,3,5,6,7] [0,1,2,3,4,5,6,7] rfl rfl rfl) rfl (q.aS (off':=2) rfl bf rfl) rfl<|?_
          refine D.one (i:=10) (by kernel_rfl) rfl ?_
          refine Do.s (s.cS (us:=[v5]) (cs':=[gl,vt,v5,.slice none 0 0,.int .i64 m.ae,.int .i64 m.af]) 4 _ rfl rfl rfl (fun w hw=>Sl.bJ ((fun _=>Wd.row 1 rfl) w hw)) (.inr ⟨bQ,rfl⟩) (fun w hw=>(aj (Sl.one ((fun _=>Wd.row 1 rfl) w hw)) aJ)) rfl rfl rfl) (fun _=>(fun _=>Wd.aV [2,3,5,6,7] [0,1,2,3,4,5,6,7] rfl rfl rfl)) rfl fun _=>?_
          refine D.done (by kernel_rfl)<|?_
          refine R.reg rfl<|R.u 1 rfl<|R.q (q.add (r:=((i+1:Nat):Int)) rfl rfl (wr (by omega))) rfl<|R.u 1 rfl<|R.nil ?_
          refine R.back (i+1,v5,(hs++([x2]))) rfl (by (exact ⟨by omega,by rw [gU hx2 (by first|(simp;omega)|simpa using dt),HH]⟩)) (by dsimp only;omega) ⟨rfl,rfl,rfl,rfl,rfl,trivial⟩ (fun _=>Wd.aV [1,2,3,4,5,6,7] [0,1,2,3,4,5,6,7] rfl rfl rfl)
    ·
      refine R.q (q.lss rfl rfl (decide_eq_false (by omega))) rfl<|R.nil ?_
      refine R.aH rfl rfl ?_
      refine R.reg rfl<|R.u 1 rfl<|R.nil ?_
      refine R.reg rfl<|R.u 1 rfl<|R.nil ?_
      refine R.row0 (α:=Note) 52 ?_
      refine R.loop (fun g_:Nat×Nat×Value×(List ao)×Value×(List Note)=>[(1,.pointer (some ⟨b1,0,none⟩)),(2,.pointer (some ⟨b2,0,none⟩)),(3,.pointer (some ⟨b3,0,none⟩)),(4,v1),(8,.int .i64 (g_.2.1:Int)),(9,.int .i64 (g_.1:Int))]) (fun g_:Nat×Nat×Value×(List ao)×Value×(List Note)=>[ah.row 52 g_.2.2.2.2.1 (g_.2.2.2.2.2:List Note),ah.row 93 vh (hs:List Held),ah.row 74 vt (ts:List ai),ah.row 3 v1 ((aQ m.ap):List Int),ah.box b3 [g_.2.2.1,vt,vh,g_.2.2.2.2.1,.int .i64 m.ae,.int .i64 m.af] 30,ah.box b2 [.slice none 0 0,.slice none 0 0,.slice none 0 0,.slice none 0 0,.int .i64 0,.int .i64 0] 30,ah.box b1 [gl,k6,jP,kU,.int .i64 m.ae,.int .i64 m.af] 30,ah.held w own]) (fun g_:Nat×Nat×Value×(List ao)×Value×(List Note)=>[ah.ls g_.2.2.1 (g_.2.2.2.1:List ao),ah.ls gl (m.ap:List ao),ah.ls k6 (m.Things:List ai),ah.ls jP (m.Held:List Held),ah.ls kU (m.Notes:List Note),ah.ls aD (r.ap:List ao),ah.ls az (r.Things:List ai),ah.ls aB (r.Held:List Held),ah.ls aA (r.Notes:List Note)]) (fun g_:Nat×Nat×Value×(List ao)×Value×(List Note)=>g_.1≤m.Notes.length∧g_.2.2.2.2.2=ew m.ap (aQ m.ap) (m.Notes.take g_.1)∧g_.2.2.2.1=(eI m.ap (aQ m.ap) (m.Notes.take g_.1)).foldl without m.ap∧g_.2.1=(eI m.ap (aQ m.ap) (m.Notes.take g_.1)).length) (fun g_:Nat×Nat×Value×(List ao)×Value×(List Note)=>m.Notes.length-g_.1) (0,0,gl,m.ap,(.slice none 0 0),[]) rfl (by exact ⟨by omega,by simp [ew],by simp [eI],by simp [eI]⟩) ⟨rfl,rfl,rfl,rfl,rfl,rfl,trivial⟩ (fun _=>Wd.pick [0,1,2,3,4,5,6,7] [0,0,1,2,3,4,5,6,7] rfl rfl rfl) ?_
      rintro ⟨k,c,vw,ws,vn,ns⟩ ⟨hk1,HN,HW,HC⟩
      dsimp only at *
      have hkl:=iQ m.ap (aQ m.ap) (m.Notes.take k);rw [← HN,← HC,List.length_take] at hkl;have hwt:ct ws:=by rw [HW];exact k9 _ _ hpm.tree
      have hwl:ws.length≤2000:=by rw [HW];exact Nat.le_trans (jz _ _) hok.wl
      refine R.reg rfl<|R.u 1 rfl<|R.q (q.aS (off':=3) rfl aT rfl) rfl<|R.q (q.ld 6 rfl rfl a6 rfl) rfl<|R.q (q.len' (fun _=>Wd.aO 4 rfl) rfl Tryz.underlying28) rfl<|?_
      by_cases h4:k<m.Notes.length
      ·
        refine R.q (q.lss rfl rfl (decide_eq_true (by omega))) rfl<|R.nil ?_
        refine R.aI rfl rfl ?_
        refine R.reg rfl<|R.q (q.aS (off':=3) rfl aT rfl) rfl<|R.q (q.ld 6 rfl rfl a6 rfl) rfl<|R.u 1 rfl<|?_
        obtain ⟨x3,hx3⟩:∃z,m.Notes[k]? = some z:=⟨_,List.getElem?_eq_getElem (by omega)⟩
        refine R.q (q.idx (i:=k) (fun _=>Wd.aO 4 rfl) rfl rfl cB rfl hx3) rfl<|R.q (q.dx (ds:=[.int .i64 x3.Port,.string x3.Data,.int .i64 x3.ar,.int .i64 x3.ao]) (fun _=>Wd.aO 4 rfl) hx3 rfl aX rfl) rfl<|?_
        refine R.s rfl (s.alloc (cs:=[.int .i64 0,.string (⟨#[]⟩),.int .i64 0,.int .i64 0]) cr rfl rfl) fun b8=>?_
        refine R.s rfl (s.st (us:=[.int .i64 x3.Port,.string x3.Data,.int .i64 x3.ar,.int .i64 x3.ao]) (cs':=[.int .i64 x3.Port,.string x3.Data,.int .i64 x3.ar,.int .i64 x3.ao]) 0 _ rfl rfl rfl rfl (.inl aX) rfl rfl rfl rfl) fun _=>?_
        refine R.nil ?_
        refine R.reg rfl<|R.q (q.aS (off':=0) rfl a8 rfl) rfl<|R.q (q.ld 7 rfl rfl bN rfl) rfl<|R.q (q.aS (off':=3) rfl cR rfl) rfl<|R.q (q.ld 0 rfl rfl aG rfl) rfl<|?_
        rcases dm m.ap x3.ao with ⟨sn,zR⟩ | ⟨zS,zT,sn,zU,zV⟩
        ·
          refine R.c (q.call kG rfl rfl (fun w hw=>(cv (congrArg (Value.int .i64) sn) (ei _ (m.ap) (x3.ao) w ((fun _=>Wd.aO 1 rfl) w hw) )))) rfl<|R.q (q.lss (b:=true) rfl rfl (by decide)) rfl<|R.nil ?_
          refine R.aI rfl rfl ?_
          refine R.reg rfl<|R.q (q.aS (off':=3) rfl cR rfl) rfl<|?_
          refine R.s rfl (s.st (us:=[.int .i64 0]) (cs':=[.int .i64 x3.Port,.string x3.Data,.int .i64 x3.ar,.int .i64 0]) 0 _ rfl rfl rfl rfl (.inr ⟨aG,rfl⟩) rfl rfl rfl rfl) fun _=>?_
          refine R.nil ?_
          refine R.reg rfl<|R.u 1 rfl<|R.q (q.aS (off':=0) rfl eQ rfl) rfl<|R.q (q.ld 0 rfl rfl aG rfl) rfl<|?_
          rcases Bool.eq_false_or_eq_true (decide (x3.Port∈(aQ m.ap))) with h5|h5
          ·
            refine R.c (q.call lq rfl rfl (fun w hw=>(cv (congrArg Value.bool h5) (ij _ ((aQ m.ap)) (x3.Port) w ((fun _=>Wd.row 4 rfl) w hw) )))) rfl<|R.u 1 rfl<|R.nil ?_
            refine R.reg rfl<|R.u 1 rfl<|R.nil ?_
            refine R.aI rfl rfl ?_
            refine R.reg rfl<|R.q (q.aS (off':=3) rfl aT rfl) rfl<|R.q (q.ld 5 rfl rfl a6 rfl) rfl<|R.q (q.bI 0 rfl rfl aX) rfl<|?_
            refine R.s rfl (s.bs (l:=([(⟨x3.Port,x3.Data,x3.ar,0⟩:Note)]:List Note)) cB cr rfl rfl rfl rfl rfl rfl rfl) fun b9=>?_
            refine R.s rfl (s.app (l2:=[(⟨x3.Port,x3.Data,x3.ar,0⟩:Note)]) 2 _ rfl rfl rfl (fun _=>Wd.row 0 rfl) cU (by first|omega|(simp;omega)|(simp [aF];omega)|(dsimp only [aF];omega)) (by first|omega|(simp;omega)|(simp [aF];omega)|(dsimp only [aF];omega)) (fun _=>rfl) rfl) fun v6=>?_
            refine R.q (q.aS (off':=3) rfl aT rfl) rfl<|?_
            refine R.s rfl (s.cS (us:=[v6]) (cs':=[vw,vt,vh,v6,.int .i64 m.ae,.int .i64 m.af]) 6 _ rfl rfl rfl (fun w hw=>Sl.bJ ((fun _=>Wd.row 2 rfl) w hw)) (.inr ⟨a6,rfl⟩) (fun w hw=>(aj (Sl.one ((fun _=>Wd.row 2 rfl) w hw)) aJ)) rfl rfl rfl) fun _=>?_
            refine R.nil ?_
            refine R.reg rfl<|R.u 1 rfl<|R.q (q.add (r:=((k+1:Nat):Int)) rfl rfl (wr (by omega))) rfl<|R.u 1 rfl<|R.nil ?_
            refine R.back (k+1,c,vw,ws,v6,(ns++([(⟨x3.Port,x3.Data,x3.ar,0⟩:Note)]))) rfl (by (have e0:=hx3;first|(have e1:=hZ (ws:=m.ap) sn;have e2:=fE e0 (by rw [e1];exact of_decide_eq_true (by assumption));rw [e1] at e2;exact ⟨by omega,by rw [e2.1,HN],by rw [e2.2,HW],by rw [e2.2,HC]⟩)|(have e1:=e9 (ws:=m.ap) sn;have e2:=fE e0 (by rw [e1];exact of_decide_eq_true (by assumption));rw [e1] at e2;exact ⟨by omega,by rw [e2.1,HN],by rw [e2.2,HW],by rw [e2.2,HC]⟩))) (by dsimp only;omega) ⟨rfl,rfl,rfl,rfl,rfl,rfl,trivial⟩ (fun _=>Wd.aV [2,3,4,5,6,7,8,9] [0,1,2,3,4,5,6,7,8] rfl rfl rfl)
          ·
            refine R.c (q.call lq rfl rfl (fun w hw=>(cv (congrArg Value.bool h5) (ij _ ((aQ m.ap)) (x3.Port) w ((fun _=>Wd.row 4 rfl) w hw) )))) rfl<|R.u 1 rfl<|R.nil ?_
            refine R.reg rfl<|R.u 1 rfl<|R.nil ?_
            refine R.aH rfl rfl ?_
            refine R.reg rfl<|R.q (q.aS (off':=3) rfl cR rfl) rfl<|R.q (q.ld 0 rfl rfl aG rfl) rfl<|R.q (q.gtr (b:=false) rfl rfl (by decide)) rfl<|R.nil ?_
            refine R.aH rfl rfl ?_
            refine R.reg rfl<|R.u 1 rfl<|R.q (q.add (r:=((k+1:Nat):Int)) rfl rfl (wr (by omega))) rfl<|R.u 1 rfl<|R.nil ?_
            refine R.back (k+1,c,vw,ws,vn,ns) rfl (by (have e0:=hx3;first|(have e1:=hZ (ws:=m.ap) sn;have e2:=fF e0 (by rw [e1];exact of_decide_eq_false (by assumption)) (by rw [e1];simp);exact ⟨by omega,by rw [e2.1,HN],by rw [e2.2,HW],by rw [e2.2,HC]⟩)|(have e1:=e9 (ws:=m.ap) sn;have e2:=fF e0 (by rw [e1];exact of_decide_eq_false (by assumption)) (by rw [e1];assumption);exact ⟨by omega,by rw [e2.1,HN],by rw [e2.2,HW],by rw [e2.2,HC]⟩))) (by dsimp only;omega) ⟨rfl,rfl,rfl,rfl,rfl,rfl,trivial⟩ (fun _=>Wd.aV [1,2,3,4,5,6,7,8] [0,1,2,3,4,5,6,7,8] rfl rfl rfl)
        ·
          refine R.c (q.call kG rfl rfl (fun w hw=>(cv (congrArg (Value.int .i64) sn) (ei _ (m.ap) (x3.ao) w ((fun _=>Wd.aO 1 rfl) w hw) )))) rfl<|R.q (q.lss rfl rfl (decide_eq_false (by omega))) rfl<|R.nil ?_
          refine R.aH rfl rfl ?_
          refine R.reg rfl<|R.u 1 rfl<|R.q (q.aS (off':=0) rfl eQ rfl) rfl<|R.q (q.ld 0 rfl rfl aG rfl) rfl<|?_
          rcases Bool.eq_false_or_eq_true (decide (x3.Port∈(aQ m.ap))) with h6|h6
          ·
            refine R.c (q.call lq rfl rfl (fun w hw=>(cv (congrArg Value.bool h6) (ij _ ((aQ m.ap)) (x3.Port) w ((fun _=>Wd.row 4 rfl) w hw) )))) rfl<|R.u 1 rfl<|R.nil ?_
            refine R.reg rfl<|R.u 1 rfl<|R.nil ?_
            refine R.aI rfl rfl ?_
            refine R.reg rfl<|R.q (q.aS (off':=3) rfl aT rfl) rfl<|R.q (q.ld 5 rfl rfl a6 rfl) rfl<|R.q (q.bI 0 rfl rfl aX) rfl<|?_
            refine R.s rfl (s.bs (l:=([x3]:List Note)) cB cr rfl rfl rfl rfl rfl rfl rfl) fun b10=>?_
            refine R.s rfl (s.app (l2:=[x3]) 2 _ rfl rfl rfl (fun _=>Wd.row 0 rfl) cU (by first|omega|(simp;omega)|(simp [aF];omega)|(dsimp only [aF];omega)) (by first|omega|(simp;omega)|(simp [aF];omega)|(dsimp only [aF];omega)) (fun _=>rfl) rfl) fun v7=>?_
            refine R.q (q.aS (off':=3) rfl aT rfl) rfl<|?_
            refine R.s rfl (s.cS (us:=[v7]) (cs':=[vw,vt,vh,v7,.int .i64 m.ae,.int .i64 m.af]) 6 _ rfl rfl rfl (fun w hw=>Sl.bJ ((fun _=>Wd.row 2 rfl) w hw)) (.inr ⟨a6,rfl⟩) (fun w hw=>(aj (Sl.one ((fun _=>Wd.row 2 rfl) w hw)) aJ)) rfl rfl rfl) fun _=>?_
            refine R.nil ?_
            refine R.reg rfl<|R.u 1 rfl<|R.q (q.add (r:=((k+1:Nat):Int)) rfl rfl (wr (by omega))) rfl<|R.u 1 rfl<|R.nil ?_
            refine R.back (k+1,c,vw,ws,v7,(ns++([x3]))) rfl (by (have e0:=hx3;first|(have e1:=hZ (ws:=m.ap) sn;have e2:=fE e0 (by rw [e1];exact of_decide_eq_true (by assumption));rw [e1] at e2;exact ⟨by omega,by rw [e2.1,HN],by rw [e2.2,HW],by rw [e2.2,HC]⟩)|(have e1:=e9 (ws:=m.ap) sn;have e2:=fE e0 (by rw [e1];exact of_decide_eq_true (by assumption));rw [e1] at e2;exact ⟨by omega,by rw [e2.1,HN],by rw [e2.2,HW],by rw [e2.2,HC]⟩))) (by dsimp only;omega) ⟨rfl,rfl,rfl,rfl,rfl,rfl,trivial⟩ (fun _=>Wd.aV [2,3,4,5,6,7,8,9] [0,1,2,3,4,5,6,7,8] rfl rfl rfl)
          ·
            refine R.c (q.call lq rfl rfl (fun w hw=>(cv (congrArg Value.bool h6) (ij _ ((aQ m.ap)) (x3.Port) w ((fun _=>Wd.row 4 rfl) w hw) )))) rfl<|R.u 1 rfl<|R.nil ?_
            refine R.reg rfl<|R.u 1 rfl<|R.nil ?_
            refine R.aH rfl rfl ?_
            refine R.reg rfl<|R.q (q.aS (off':=3) rfl cR rfl) rfl<|R.q (q.ld 0 rfl rfl aG rfl) rfl<|?_
            by_cases h7:0<x3.ao
            ·
              refine R.q (q.gtr rfl rfl (decide_eq_true (by omega))) rfl<|R.nil ?_
              refine R.aI rfl rfl ?_
              refine R.reg rfl<|R.q (q.aS (off':=0) rfl a8 rfl) rfl<|R.q (q.ld 5 rfl rfl bN rfl) rfl<|R.q (q.aS (off':=3) rfl cR rfl) rfl<|R.q (q.ld 0 rfl rfl aG rfl) rfl<|?_
              refine R.s rfl (s.jk qP rfl rfl (fun w hw=>gH _ (ws) (x3.ao) w ((fun _=>Wd.aO 0 rfl) w hw) (by first|omega|assumption|(simp;done)|(simp;omega)|(dsimp only [aF];omega)) (by first|assumption|exact hI.tree|exact hP.tree)) rfl) fun v8=>?_
              refine R.q (q.aS (off':=0) rfl a8 rfl) rfl<|?_
              refine R.s rfl (s.cS (us:=[v8]) (cs':=[v8,vt,vh,vn,.int .i64 m.ae,.int .i64 m.af]) 6 _ rfl rfl rfl (fun w hw=>Sl.bJ ((fun _=>Wd.row 0 rfl) w hw)) (.inr ⟨bN,rfl⟩) (fun w hw=>(aj (Sl.one ((fun _=>Wd.row 0 rfl) w hw)) aJ)) rfl rfl rfl) fun _=>?_
              refine R.nil ?_
              refine R.reg rfl<|R.u 1 rfl<|R.q (q.add (r:=((c+1:Nat):Int)) rfl rfl (wr (by omega))) rfl<|R.u 1 rfl<|R.nil ?_
              refine R.reg rfl<|R.u 1 rfl<|R.q (q.add (r:=((k+1:Nat):Int)) rfl rfl (wr (by omega))) rfl<|R.u 1 rfl<|R.nil ?_
              refine R.mp (B':=[ah.box b8 [.int .i64 x3.Port,.string x3.Data,.int .i64 x3.ar,.int .i64 x3.ao] 52,ah.row 52 vn (ns:List Note),ah.row 93 vh (hs:List Held),ah.row 74 vt (ts:List ai),ah.row 3 v1 ((aQ m.ap):List Int),ah.box b3 [v8,vt,vh,vn,.int .i64 m.ae,.int .i64 m.af] 30,ah.box b2 [.slice none 0 0,.slice none 0 0,.slice none 0 0,.slice none 0 0,.int .i64 0,.int .i64 0] 30,ah.box b1 [gl,k6,jP,kU,.int .i64 m.ae,.int .i64 m.af] 30,ah.held w own]) (fun _ hw=>hw.aZ 0 _ rfl rfl) ?_
              refine R.back (k+1,c+1,v8,(without ws x3.ao),vn,ns) rfl (by (have e0:=hx3;first|(have e1:=e9 (ws:=m.ap) sn;have e2:=nD e0 (by rw [e1];exact of_decide_eq_false (by assumption)) (by rw [e1];assumption);rw [e1] at e2;exact ⟨by omega,by rw [e2.1,HN],by rw [e2.2,List.foldl_append,← HW];rfl,by rw [e2.2,List.length_append,← HC];rfl⟩)|(exfalso;omega))) (by dsimp only;omega) ⟨rfl,rfl,rfl,rfl,rfl,rfl,trivial⟩ (fun _=>Wd.aV [1,2,3,4,5,6,7,8] [0,2,3,4,5,6,7,8,9] rfl rfl rfl)
            ·
              refine R.q (q.gtr rfl rfl (decide_eq_false (by omega))) rfl<|R.nil ?_
              refine R.aH rfl rfl ?_
              refine R.reg rfl<|R.u 1 rfl<|R.q (q.add (r:=((k+1:Nat):Int)) rfl rfl (wr (by omega))) rfl<|R.u 1 rfl<|R.nil ?_
              refine R.back (k+1,c,vw,ws,vn,ns) rfl (by (have e0:=hx3;first|(have e1:=hZ (ws:=m.ap) sn;have e2:=fF e0 (by rw [e1];exact of_decide_eq_false (by assumption)) (by rw [e1];simp);exact ⟨by omega,by rw [e2.1,HN],by rw [e2.2,HW],by rw [e2.2,HC]⟩)|(have e1:=e9 (ws:=m.ap) sn;have e2:=fF e0 (by rw [e1];exact of_decide_eq_false (by assumption)) (by rw [e1];assumption);exact ⟨by omega,by rw [e2.1,HN],by rw [e2.2,HW],by rw [e2.2,HC]⟩))) (by dsimp only;omega) ⟨rfl,rfl,rfl,rfl,rfl,rfl,trivial⟩ (fun _=>Wd.aV [1,2,3,4,5,6,7,8] [0,1,2,3,4,5,6,7,8] rfl rfl rfl)
      ·
        refine R.q (q.lss rfl rfl (decide_eq_false (by omega))) rfl<|R.nil ?_
        refine R.aH rfl rfl ?_
        refine R.reg rfl<|R.u 1 rfl<|?_
        by_cases h8:c=0
        ·
          refine R.q (q.eql rfl rfl (beq_iff_eq.2 (by omega))) rfl<|R.nil ?_
          refine R.aI rfl rfl ?_
          refine R.reg rfl<|R.q (q.bI 4 rfl rfl au) rfl<|?_
          refine R.s rfl (s.cS (us:=[vw,vt,vh,vn,.int .i64 m.ae,.int .i64 m.af]) (cs':=[vw,vt,vh,vn,.int .i64 m.ae,.int .i64 m.af]) 5 _ rfl rfl rfl (fun _ _=>rfl) (.inl au) (fun w hw=>(aj (Sl.one ((fun _=>Wd.aO 0 rfl) w hw)) (aj (Sl.one ((fun _=>Wd.row 2 rfl) w hw)) (aj (Sl.one ((fun _=>Wd.row 1 rfl) w hw)) (aj (Sl.one ((fun _=>Wd.row 0 rfl) w hw)) (aj rfl (aj rfl aJ))))))) rfl rfl rfl) fun _=>?_
          refine R.nil ?_
          refine R.mp (B':=[ah.row 52 vn (ns:List Note),ah.row 93 vh (hs:List Held),ah.row 3 v1 ((aQ m.ap):List Int),ah.box b3 [vw,vt,vh,vn,.int .i64 m.ae,.int .i64 m.af] 30,ah.box b2 [vw,vt,vh,vn,.int .i64 m.ae,.int .i64 m.af] 30,ah.box b1 [gl,k6,jP,kU,.int .i64 m.ae,.int .i64 m.af] 30,ah.held w own]) (fun _ hw=>hw.aZ 2 _ rfl rfl) ?_
          refine R.mp (B':=[ah.row 52 vn (ns:List Note),ah.row 3 v1 ((aQ m.ap):List Int),ah.box b3 [vw,vt,vh,vn,.int .i64 m.ae,.int .i64 m.af] 30,ah.box b2 [vw,vt,vh,vn,.int .i64 m.ae,.int .i64 m.af] 30,ah.box b1 [gl,k6,jP,kU,.int .i64 m.ae,.int .i64 m.af] 30,ah.held w own]) (fun _ hw=>hw.aZ 1 _ rfl rfl) ?_
          refine R.mp (B':=[ah.row 3 v1 ((aQ m.ap):List Int),ah.box b3 [vw,vt,vh,vn,.int .i64 m.ae,.int .i64 m.af] 30,ah.box b2 [vw,vt,vh,vn,.int .i64 m.ae,.int .i64 m.af] 30,ah.box b1 [gl,k6,jP,kU,.int .i64 m.ae,.int .i64 m.af] 30,ah.held w own]) (fun _ hw=>hw.aZ 0 _ rfl rfl) ?_
          have hz:aP r=(⟨ws,ts,hs,ns,m.ae,m.af⟩:ay):=by (rw [List.take_of_length_le (by omega)] at HT HH HN HW HC;have hl0:eI m.ap (aQ m.ap) m.Notes=[]:=List.eq_nil_of_length_eq_zero (by omega);rw [hl0] at HW;rw [← HS,lw (by show (eI _ _ _).length=0;rw [hl0];rfl)];unfold dY;rw [← HN,← HT,← HH,HW];rfl)
          rw [hz]
          exact R.w1 (vw,vt,vh,vn) [4] [3,2,1,0] rfl Tryz.results43 (RV.cell 2 rfl rfl au) rfl rfl rfl rfl
        ·
          refine R.q (q.eql rfl rfl (beq_eq_false_iff_ne.2 (by omega))) rfl<|R.nil ?_
          refine R.aH rfl rfl ?_
          refine R.reg rfl<|R.q (q.bI 4 rfl rfl au) rfl<|?_
          refine R.s rfl (s.cS (us:=[vw,vt,vh,vn,.int .i64 m.ae,.int .i64 m.af]) (cs':=[vw,vt,vh,vn,.int .i64 m.ae,.int .i64 m.af]) 6 _ rfl rfl rfl (fun _ _=>rfl) (.inl au) (fun w hw=>(aj (Sl.one ((fun _=>Wd.aO 0 rfl) w hw)) (aj (Sl.one ((fun _=>Wd.row 2 rfl) w hw)) (aj (Sl.one ((fun _=>Wd.row 1 rfl) w hw)) (aj (Sl.one ((fun _=>Wd.row 0 rfl) w hw)) (aj rfl (aj rfl aJ))))))) rfl rfl rfl) fun _=>?_
          refine R.nil ?_
          refine R.mp (B':=[ah.row 52 vn (ns:List Note),ah.row 93 vh (hs:List Held),ah.row 3 v1 ((aQ m.ap):List Int),ah.box b3 [vw,vt,vh,vn,.int .i64 m.ae,.int .i64 m.af] 30,ah.box b2 [.slice none 0 0,.slice none 0 0,.slice none 0 0,.slice none 0 0,.int .i64 0,.int .i64 0] 30,ah.box b1 [vw,vt,vh,vn,.int .i64 m.ae,.int .i64 m.af] 30,ah.held w own]) (fun _ hw=>hw.aZ 2 _ rfl rfl) ?_
          refine R.mp (B':=[ah.row 52 vn (ns:List Note),ah.row 3 v1 ((aQ m.ap):List Int),ah.box b3 [vw,vt,vh,vn,.int .i64 m.ae,.int .i64 m.af] 30,ah.box b2 [.slice none 0 0,.slice none 0 0,.slice none 0 0,.slice none 0 0,.int .i64 0,.int .i64 0] 30,ah.box b1 [vw,vt,vh,vn,.int .i64 m.ae,.int .i64 m.af] 30,ah.held w own]) (fun _ hw=>hw.aZ 1 _ rfl rfl) ?_
          refine R.mp (B':=[ah.row 3 v1 ((aQ m.ap):List Int),ah.box b3 [vw,vt,vh,vn,.int .i64 m.ae,.int .i64 m.af] 30,ah.box b2 [.slice none 0 0,.slice none 0 0,.slice none 0 0,.slice none 0 0,.int .i64 0,.int .i64 0] 30,ah.box b1 [vw,vt,vh,vn,.int .i64 m.ae,.int .i64 m.af] 30,ah.held w own]) (fun _ hw=>hw.aZ 0 _ rfl rfl) ?_
          refine R.back ((⟨ws,ts,hs,ns,m.ae,m.af⟩:ay),vw,vt,vh,vn) rfl (by (rw [List.take_of_length_le (by omega)] at HT HH HN HW HC;have hl:jc m=eI m.ap (aQ m.ap) m.Notes:=rfl;have e:gy m=(⟨ws,ts,hs,ns,m.ae,m.af⟩:ay):=(by unfold gy;rw [hl,← HW];unfold dY;rw [← HN,← HT,← HH]);exact Eq.mp (congrArg (fun q:ay=>Ok q∧Pre q∧aP q=aP r) e) ⟨hok.gy,hpm.sw (ids:=jc m) (fun j hj=>hj),(lx (by rw [hl,← HC];assumption)).symm.trans HS⟩)) (by dsimp only;omega) ⟨rfl,rfl,trivial⟩ (fun _=>Wd.aV [2,3,4] [3,2,1,0,8,9,10,11] rfl rfl rfl)
theorem sg (aD az aB aA:Value)(r:ay)(p:Place)(w:World)(own:List Nat)(H:Wd w (blks []++own) ([]++[ah.held w own]) [ah.ls aD (r.ap:List ao),ah.ls az (r.Things:List ai),ah.ls aB (r.Held:List Held),ah.ls aA (r.Notes:List Note)] w)(hk:Ok r)(hI:Inv r):Calls Tryz.prog 56 #[.agg #[aD,az,aB,aA,.int .i64 r.ae,.int .i64 r.af],.agg #[.int .i64 p.ag,.int .i64 p.Slot]] w fun e w' => ∃z:Value×Value×Value×Value,e = .returned (.tuple #[.agg #[z.1,z.2.1,z.2.2.1,z.2.2.2,.int .i64 ((((cq r p)).1).ae),.int .i64 ((((cq r p)).1).af)],.int .i64 (((cq r p)).2)])∧Wd w (blks []++own) ([]++[ah.held w own]) [ah.ls z.1 ((((cq r p)).1).ap:List ao),ah.ls z.2.1 ((((cq r p)).1).Things:List ai),ah.ls z.2.2.1 ((((cq r p)).1).Held:List Held),ah.ls z.2.2.2 ((((cq r p)).1).Notes:List Note)] w':=by
  have cw:=H.bS 0 rfl
  have bY:=H.bS 1 rfl
  have cI:=H.bS 2 rfl
  have cx:=H.bS 3 rfl
  have bw:=hk.wl;have bt:=hk.tl;have bh:=hk.hl;have bn:=hk.nl;have lS:=hk.w0;have lT:=hk.w1;have lU:=hk.t0;have lV:=hk.t1
  have gn:=dq r p
  have hkd:=hk.wo (ak r p).1.ID
  refine R.cC (n:=26) (vs:=[.agg #[aD,az,aB,aA,.int .i64 r.ae,.int .i64 r.af],.agg #[.int .i64 p.ag,.int .i64 p.Slot]]) (B:=[ah.held w own]) [(0,.agg #[aD,az,aB,aA,.int .i64 r.ae,.int .i64 r.af]),(1,.agg #[.int .i64 p.ag,.int .i64 p.Slot])] Tryz.func56 rfl rfl rfl rfl H ?_
  refine R.reg rfl<|?_
  refine R.s rfl (s.box (cs:=[aD,az,aB,aA,.int .i64 r.ae,.int .i64 r.af]) rfl rfl rfl) fun b1=>?_
  refine R.s rfl (s.box (cs:=[.int .i64 p.ag,.int .i64 p.Slot]) rfl rfl rfl) fun b2=>?_
  refine R.s rfl (s.alloc (cs:=[.slice none 0 0,.slice none 0 0,.slice none 0 0,.slice none 0 0,.int .i64 0,.int .i64 0]) bR rfl rfl) fun b3=>?_
  refine R.u 1 rfl<|R.nil ?_
  refine R.reg rfl<|R.q (q.bI 2 rfl rfl au) rfl<|R.q (q.bI 1 rfl rfl aM) rfl<|R.c (q.call pP rfl rfl (fun w hw=>(gW _ _ _ _ (r) (p) w ((fun _=>Wd.aO 0 rfl) w hw) ((fun _=>Wd.aO 1 rfl) w hw) ((fun _=>Wd.aO 2 rfl) w hw) ((fun _=>Wd.aO 3 rfl) w hw) (by assumption) (by assumption)))) rfl<|R.u 3 rfl<|?_
  refine R.s rfl (s.alloc (cs:=[.int .i64 0,.int .i64 0,.int .i64 0,.int .i64 0,.int .i64 0]) aY rfl rfl) fun b4=>?_
  refine R.s rfl (s.st (us:=[.int .i64 (((ak r p).1).ID),.int .i64 (((ak r p).1).ai),.int .i64 (((ak r p).1).Rights),.int .i64 (((ak r p).1).ar),.int .i64 (((ak r p).1).From)]) (cs':=[.int .i64 (((ak r p).1).ID),.int .i64 (((ak r p).1).ai),.int .i64 (((ak r p).1).Rights),.int .i64 (((ak r p).1).ar),.int .i64 (((ak r p).1).From)]) 0 _ rfl rfl rfl rfl (.inl aK) rfl rfl rfl rfl) fun _=>?_
  refine R.u 1 rfl<|R.nil ?_
  refine R.reg rfl<|R.u 1 rfl<|?_
  by_cases h1:0<(ak r p).2
  ·
    refine R.q (q.gtr rfl rfl (decide_eq_true (by omega))) rfl<|R.nil ?_
    refine R.aI rfl rfl ?_
    refine R.reg rfl<|R.q (q.build (cs:=[.slice none 0 0,.slice none 0 0,.slice none 0 0,.slice none 0 0,.int .i64 0,.int .i64 0]) ck rfl rfl) rfl<|R.u 1 rfl<|?_
    refine R.s rfl (s.st (us:=[.slice none 0 0,.slice none 0 0,.slice none 0 0,.slice none 0 0,.int .i64 0,.int .i64 0]) (cs':=[.slice none 0 0,.slice none 0 0,.slice none 0 0,.slice none 0 0,.int .i64 0,.int .i64 0]) 1 _ rfl rfl rfl rfl (.inl au) rfl rfl rfl rfl) fun _=>?_
    refine R.u 1 rfl<|R.nil ?_
    refine R.mp (fun _ hw=>hw.aN (α:=ao)) ?_
    refine R.mp (fun _ hw=>hw.aN (α:=ai)) ?_
    refine R.mp (fun _ hw=>hw.aN (α:=Held)) ?_
    refine R.mp (fun _ hw=>hw.aN (α:=Note)) ?_
    have hz:cq r p=((⟨[],[],[],[],0,0⟩:ay),(ak r p).2):=by (unfold cq;rw [if_neg (by omega)];(try rfl))
    rw [hz]
    exact R.w2 ((.slice none 0 0),(.slice none 0 0),(.slice none 0 0),(.slice none 0 0)) [4] [3,2,1,0] rfl Tryz.results56 (RV.cell 1 rfl rfl au) (RV.tmp rfl) rfl rfl rfl (cm rfl rfl)
  ·
    have gz:(ak r p).2=0:=by omega
    have zW:=hI.toPre.wo (ak r p).1.ID
    refine R.q (q.gtr rfl rfl (decide_eq_false (by omega))) rfl<|R.nil ?_
    refine R.aH rfl rfl ?_
    refine R.reg rfl<|R.q (q.aS (off':=0) rfl a8 rfl) rfl<|R.q (q.ld 3 rfl rfl bN rfl) rfl<|R.q (q.aS (off':=0) rfl bK rfl) rfl<|R.q (q.ld 0 rfl rfl aG rfl) rfl<|?_
    refine R.s rfl (s.jk qP rfl rfl (fun w hw=>gH _ (r.ap) (((ak r p).1).ID) w ((fun _=>Wd.aO 0 rfl) w hw) (by first|omega|assumption|(simp;done)|(simp;omega)|(dsimp only [aF];omega)) (by first|assumption|exact hI.tree|exact hP.tree)) rfl) fun v1=>?_
    refine R.q (q.aS (off':=0) rfl a8 rfl) rfl<|?_
    refine R.s rfl (s.cS (us:=[v1]) (cs':=[v1,az,aB,aA,.int .i64 r.ae,.int .i64 r.af]) 4 _ rfl rfl rfl (fun w hw=>Sl.bJ ((fun _=>Wd.row 0 rfl) w hw)) (.inr ⟨bN,rfl⟩) (fun w hw=>(aj (Sl.one ((fun _=>Wd.row 0 rfl) w hw)) aJ)) rfl rfl rfl) fun _=>?_
    refine R.nil ?_
    refine R.reg rfl<|R.q (q.bI 4 rfl rfl au) rfl<|?_
    refine R.s (B':=(fun g_:Value×Value×Value×Value=>[ah.box b4 [.int .i64 (((ak r p).1).ID),.int .i64 (((ak r p).1).ai),.int .i64 (((ak r p).1).Rights),.int .i64 (((ak r p).1).ar),.int .i64 (((ak r p).1).From)] 39,ah.box b3 [.slice none 0 0,.slice none 0 0,.slice none 0 0,.slice none 0 0,.int .i64 0,.int .i64 0] 30,ah.box b2 [.int .i64 p.ag,.int .i64 p.Slot] 33,ah.box b1 [v1,az,aB,aA,.int .i64 r.ae,.int .i64 r.af] 30,ah.held w own])) (F':=(fun g_:Value×Value×Value×Value=>[ah.ls g_.1 (((aP (⟨(without r.ap (((ak r p).1).ID)),r.Things,r.Held,r.Notes,r.ae,r.af⟩:ay))).ap:List ao),ah.ls g_.2.1 (((aP (⟨(without r.ap (((ak r p).1).ID)),r.Things,r.Held,r.Notes,r.ae,r.af⟩:ay))).Things:List ai),ah.ls g_.2.2.1 (((aP (⟨(without r.ap (((ak r p).1).ID)),r.Things,r.Held,r.Notes,r.ae,r.af⟩:ay))).Held:List Held),ah.ls g_.2.2.2 (((aP (⟨(without r.ap (((ak r p).1).ID)),r.Things,r.Held,r.Notes,r.ae,r.af⟩:ay))).Notes:List Note),ah.ls v1 ((without r.ap (((ak r p).1).ID)):List ao),ah.ls aD (r.ap:List ao),ah.ls az (r.Things:List ai),ah.ls aB (r.Held:List Held),ah.ls aA (r.Notes:List Note)])) rfl (s.pre (B2:=[ah.box b4 [.int .i64 (((ak r p).1).ID),.int .i64 (((ak r p).1).ai),.int .i64 (((ak r p).1).Rights),.int .i64 (((ak r p).1).ar),.int .i64 (((ak r p).1).From)] 39,ah.box b3 [.slice none 0 0,.slice none 0 0,.slice none 0 0,.slice none 0 0,.int .i64 0,.int .i64 0] 30,ah.box b2 [.int .i64 p.ag,.int .i64 p.Slot] 33,ah.box b1 [v1,az,aB,aA,.int .i64 r.ae,.int .i64 r.af] 30,ah.held w own]) (F2:=[ah.ls v1 ((without r.ap (((ak r p).1).ID)):List ao),ah.ls aD (r.ap:List ao),ah.ls az (r.Things:List ai),ah.ls aB (r.Held:List Held),ah.ls aA (r.Notes:List Note)]) (fun _ hw=>hw.aZ 0 _ rfl rfl) (s.bE (B0:=[]) (Br:=[ah.box b4 [.int .i64 (((ak r p).1).ID),.int .i64 (((ak r p).1).ai),.int .i64 (((ak r p).1).Rights),.int .i64 (((ak r p).1).ar),.int .i64 (((ak r p).1).From)] 39,ah.box b3 [.slice none 0 0,.slice none 0 0,.slice none 0 0,.slice none 0 0,.int .i64 0,.int .i64 0] 30,ah.box b2 [.int .i64 p.ag,.int .i64 p.Slot] 33,ah.box b1 [v1,az,aB,aA,.int .i64 r.ae,.int .i64 r.af] 30,ah.held w own]) (F0:=[ah.ls v1 ((without r.ap (((ak r p).1).ID)):List ao),ah.ls az (r.Things:List ai),ah.ls aB (r.Held:List Held),ah.ls aA (r.Notes:List Note)]) [0,1,2,3,4] [0,2,3,4] (fun g_:Value×Value×Value×Value => .agg #[g_.1,g_.2.1,g_.2.2.1,g_.2.2.2,.int .i64 (((aP (⟨(without r.ap (((ak r p).1).ID)),r.Things,r.Held,r.Notes,r.ae,r.af⟩:ay))).ae),.int .i64 (((aP (⟨(without r.ap (((ak r p).1).ID)),r.Things,r.Held,r.Notes,r.ae,r.af⟩:ay))).af)]) (fun g_:Value×Value×Value×Value=>[]) (fun g_:Value×Value×Value×Value=>[ah.ls g_.1 (((aP (⟨(without r.ap (((ak r p).1).ID)),r.Things,r.Held,r.Notes,r.ae,r.af⟩:ay))).ap:List ao),ah.ls g_.2.1 (((aP (⟨(without r.ap (((ak r p).1).ID)),r.Things,r.Held,r.Notes,r.ae,r.af⟩:ay))).Things:List ai),ah.ls g_.2.2.1 (((aP (⟨(without r.ap (((ak r p).1).ID)),r.Things,r.Held,r.Notes,r.ae,r.af⟩:ay))).Held:List Held),ah.ls g_.2.2.2 (((aP (⟨(without r.ap (((ak r p).1).ID)),r.Things,r.Held,r.Notes,r.ae,r.af⟩:ay))).Notes:List Note)]) rfl rfl rfl sG rfl rfl (fun w own hw H=>kg v1 az aB aA ((⟨(without r.ap (((ak r p).1).ID)),r.Things,r.Held,r.Notes,r.ae,r.af⟩:ay)) w own H (by assumption) (by first|assumption|exact hI.toPre)) rfl)) ?_
    rintro ⟨z1,z2,z3,z4⟩
    dsimp only
    refine R.s rfl (s.cS (us:=[z1,z2,z3,z4,.int .i64 ((aP (⟨(without r.ap (((ak r p).1).ID)),r.Things,r.Held,r.Notes,r.ae,r.af⟩:ay)).ae),.int .i64 ((aP (⟨(without r.ap (((ak r p).1).ID)),r.Things,r.Held,r.Notes,r.ae,r.af⟩:ay)).af)]) (cs':=[z1,z2,z3,z4,.int .i64 ((aP (⟨(without r.ap (((ak r p).1).ID)),r.Things,r.Held,r.Notes,r.ae,r.af⟩:ay)).ae),.int .i64 ((aP (⟨(without r.ap (((ak r p).1).ID)),r.Things,r.Held,r.Notes,r.ae,r.af⟩:ay)).af)]) 1 _ rfl rfl rfl (fun _ _=>rfl) (.inl au) (fun w hw=>(aj (Sl.one ((fun _=>Wd.aO 0 rfl) w hw)) (aj (Sl.one ((fun _=>Wd.aO 1 rfl) w hw)) (aj (Sl.one ((fun _=>Wd.aO 2 rfl) w hw)) (aj (Sl.one ((fun _=>Wd.aO 3 rfl) w hw)) (aj rfl (aj rfl aJ))))))) rfl rfl rfl) fun _=>?_
    refine R.u 1 rfl<|R.nil ?_
    have hz:cq r p=((aP (⟨(without r.ap (((ak r p).1).ID)),r.Things,r.Held,r.Notes,r.ae,r.af⟩:ay)),0):=by (unfold cq;rw [if_pos gz];(try rfl))
    rw [hz]
    exact R.w2 (z1,z2,z3,z4) [4] [0,1,2,3] rfl Tryz.results56 (RV.cell 1 rfl rfl au) (RV.tmp rfl) rfl rfl rfl (cm rfl rfl)
set_option maxHeartbeats 1000000 in
theorem pE (aD az aB aA:Value)(r:ay)(p:Place)(w:World)(own:List Nat)(H:Wd w (blks []++own) ([]++[ah.held w own]) [ah.ls aD (r.ap:List ao),ah.ls az (r.Things:List ai),ah.ls aB (r.Held:List Held),ah.ls aA (r.Notes:List Note)] w)(hk:Ok r)(hI:Inv r):Calls Tryz.prog 57 #[.agg #[aD,az,aB,aA,.int .i64 r.ae,.int .i64 r.af],.agg #[.int .i64 p.ag,.int .i64 p.Slot]] w fun e w' => ∃z:Value×Value×Value×Value,e = .returned (.tuple #[.agg #[z.1,z.2.1,z.2.2.1,z.2.2.2,.int .i64 ((((bg r p)).1).ae),.int .i64 ((((bg r p)).1).af)],.int .i64 (((bg r p)).2)])∧Wd w (blks []++own) ([]++[ah.held w own]) [ah.ls z.1 ((((bg r p)).1).ap:List ao),ah.ls z.2.1 ((((bg r p)).1).Things:List ai),ah.ls z.2.2.1 ((((bg r p)).1).Held:List Held),ah.ls z.2.2.2 ((((bg r p)).1).Notes:List Note)] w':=by
  have cw:=H.bS 0 rfl
  have bY:=H.bS 1 rfl
  have cI:=H.bS 2 rfl
  have cx:=H.bS 3 rfl
  have bw:=hk.wl;have bt:=hk.tl;have bh:=hk.hl;have bn:=hk.nl;have lS:=hk.w0;have lT:=hk.w1;have lU:=hk.t0;have lV:=hk.t1
  have gn:=dq r p
  refine R.cC (n:=56) (vs:=[.agg #[aD,az,aB,aA,.int .i64 r.ae,.int .i64 r.af],.agg #[.int .i64 p.ag,.int .i64 p.Slot]]) (B:=[ah.held w own]) [(0,.agg #[aD,az,aB,aA,.int .i64 r.ae,.int .i64 r.af]),(1,.agg #[.int .i64 p.ag,.int .i64 p.Slot])] Tryz.func57 rfl rfl rfl rfl H ?_
  refine R.reg rfl<|?_
  refine R.s rfl (s.box (cs:=[aD,az,aB,aA,.int .i64 r.ae,.int .i64 r.af]) rfl rfl rfl) fun b1=>?_
  refine R.s rfl (s.box (cs:=[.int .i64 p.ag,.int .i64 p.Slot]) rfl rfl rfl) fun b2=>?_
  refine R.s rfl (s.alloc (cs:=[.slice none 0 0,.slice none 0 0,.slice none 0 0,.slice none 0 0,.int .i64 0,.int .i64 0]) bR rfl rfl) fun b3=>?_
  refine R.u 1 rfl<|R.nil ?_
  refine R.reg rfl<|R.q (q.bI 2 rfl rfl au) rfl<|R.q (q.bI 1 rfl rfl aM) rfl<|R.c (q.call pP rfl rfl (fun w hw=>(gW _ _ _ _ (r) (p) w ((fun _=>Wd.aO 0 rfl) w hw) ((fun _=>Wd.aO 1 rfl) w hw) ((fun _=>Wd.aO 2 rfl) w hw) ((fun _=>Wd.aO 3 rfl) w hw) (by assumption) (by assumption)))) rfl<|R.u 3 rfl<|?_
  refine R.s rfl (s.alloc (cs:=[.int .i64 0,.int .i64 0,.int .i64 0,.int .i64 0,.int .i64 0]) aY rfl rfl) fun b4=>?_
  refine R.s rfl (s.st (us:=[.int .i64 (((ak r p).1).ID),.int .i64 (((ak r p).1).ai),.int .i64 (((ak r p).1).Rights),.int .i64 (((ak r p).1).ar),.int .i64 (((ak r p).1).From)]) (cs':=[.int .i64 (((ak r p).1).ID),.int .i64 (((ak r p).1).ai),.int .i64 (((ak r p).1).Rights),.int .i64 (((ak r p).1).ar),.int .i64 (((ak r p).1).From)]) 0 _ rfl rfl rfl rfl (.inl aK) rfl rfl rfl rfl) fun _=>?_
  refine R.u 1 rfl<|R.nil ?_
  refine R.reg rfl<|R.u 1 rfl<|?_
  by_cases h1:0<(ak r p).2
  ·
    refine R.q (q.gtr rfl rfl (decide_eq_true (by omega))) rfl<|R.nil ?_
    refine R.aI rfl rfl ?_
    refine R.reg rfl<|R.q (q.build (cs:=[.slice none 0 0,.slice none 0 0,.slice none 0 0,.slice none 0 0,.int .i64 0,.int .i64 0]) ck rfl rfl) rfl<|R.u 1 rfl<|?_
    refine R.s rfl (s.st (us:=[.slice none 0 0,.slice none 0 0,.slice none 0 0,.slice none 0 0,.int .i64 0,.int .i64 0]) (cs':=[.slice none 0 0,.slice none 0 0,.slice none 0 0,.slice none 0 0,.int .i64 0,.int .i64 0]) 1 _ rfl rfl rfl rfl (.inl au) rfl rfl rfl rfl) fun _=>?_
    refine R.u 1 rfl<|R.nil ?_
    refine R.mp (fun _ hw=>hw.aN (α:=ao)) ?_
    refine R.mp (fun _ hw=>hw.aN (α:=ai)) ?_
    refine R.mp (fun _ hw=>hw.aN (α:=Held)) ?_
    refine R.mp (fun _ hw=>hw.aN (α:=Note)) ?_
    have hz:bg r p=((⟨[],[],[],[],0,0⟩:ay),(ak r p).2):=by (unfold bg;rw [if_neg (by omega)];(try rfl))
    rw [hz]
    exact R.w2 ((.slice none 0 0),(.slice none 0 0),(.slice none 0 0),(.slice none 0 0)) [4] [3,2,1,0] rfl Tryz.results57 (RV.cell 1 rfl rfl au) (RV.tmp rfl) rfl rfl rfl (cm rfl rfl)
  ·
    have gz:(ak r p).2=0:=by omega
    have hkc:=hk.cut (ak r p).1.ID;have zD:=hI.toPre.cut (id:=(ak r p).1.ID) (i7.2 ⟨_,(jN gz).2.1,rfl⟩)
    refine R.q (q.gtr rfl rfl (decide_eq_false (by omega))) rfl<|R.nil ?_
    refine R.aH rfl rfl ?_
    refine R.reg rfl<|R.q (q.aS (off':=0) rfl a8 rfl) rfl<|R.q (q.ld 3 rfl rfl bN rfl) rfl<|R.q (q.aS (off':=0) rfl bK rfl) rfl<|R.q (q.ld 0 rfl rfl aG rfl) rfl<|?_
    refine R.s rfl (s.jk xr rfl rfl (fun w hw=>oC _ (r.ap) (((ak r p).1).ID) w ((fun _=>Wd.aO 0 rfl) w hw) (by first|assumption|exact hI.tree|exact hP.tree) (by first|omega|assumption|(simp;done)|(simp;omega)|(dsimp only [aF];omega))) rfl) fun v1=>?_
    refine R.u 1 rfl<|R.nil ?_
    refine R.reg rfl<|R.u 1 rfl<|R.nil ?_
    refine R.reg rfl<|R.u 1 rfl<|R.nil ?_
    refine R.row0 (α:=ao) 39 ?_
    refine R.loop (fun g_:Nat×Value×(List ao)=>[(2,.pointer (some ⟨b1,0,none⟩)),(4,.pointer (some ⟨b3,0,none⟩)),(8,v1),(9,g_.2.1),(10,.int .i64 (g_.1:Int))]) (fun g_:Nat×Value×(List ao)=>[ah.row 39 g_.2.1 (g_.2.2:List ao),ah.row 3 v1 ((cZ (((ak r p).1).ID) r.ap):List Int),ah.box b4 [.int .i64 (((ak r p).1).ID),.int .i64 (((ak r p).1).ai),.int .i64 (((ak r p).1).Rights),.int .i64 (((ak r p).1).ar),.int .i64 (((ak r p).1).From)] 39,ah.box b3 [.slice none 0 0,.slice none 0 0,.slice none 0 0,.slice none 0 0,.int .i64 0,.int .i64 0] 30,ah.box b2 [.int .i64 p.ag,.int .i64 p.Slot] 33,ah.box b1 [aD,az,aB,aA,.int .i64 r.ae,.int .i64 r.af] 30,ah.held w own]) (fun g_:Nat×Value×(List ao)=>[ah.ls aD (r.ap:List ao),ah.ls az (r.Things:List ai),ah.ls aB (r.Held:List Held),ah.ls aA (r.Notes:List Note)]) (fun g_:Nat×Value×(List ao)=>g_.1≤r.ap.length∧g_.2.2=(r.ap.take g_.1).filter (fun x => !decide (x.ID∈cZ (ak r p).1.ID r.ap))) (fun g_:Nat×Value×(List ao)=>r.ap.length-g_.1) (0,(.slice none 0 0),[]) rfl (by exact ⟨by omega,by simp⟩) ⟨rfl,rfl,rfl,rfl,rfl,trivial⟩ (fun _=>Wd.pick [0,1,2,3,4,5,6] [0,1,2,3] rfl rfl rfl) ?_
    rintro ⟨k,vl,ls⟩ ⟨hk1,HL⟩
    dsimp only at *
    have hll:ls.length≤k:=by rw [HL];exact lg _ _ _
    refine R.reg rfl<|R.u 1 rfl<|R.q (q.aS (off':=0) rfl a8 rfl) rfl<|R.q (q.ld 5 rfl rfl bN rfl) rfl<|R.q (q.len' (fun _=>Wd.aO 0 rfl) rfl Tryz.underlying25) rfl<|?_
    by_cases h2:k<r.ap.length
    ·
      refine R.q (q.lss rfl rfl (decide_eq_true (by omega))) rfl<|R.nil ?_
      refine R.aI rfl rfl ?_
      refine R.reg rfl<|R.u 1 rfl<|R.q (q.aS (off':=0) rfl a8 rfl) rfl<|R.q (q.ld 5 rfl rfl bN rfl) rfl<|R.u 1 rfl<|?_
      obtain ⟨x1,hx1⟩:∃z,r.ap[k]? = some z:=⟨_,List.getElem?_eq_getElem (by omega)⟩
      refine R.q (q.idx (i:=k) (fun _=>Wd.aO 0 rfl) rfl rfl cG rfl hx1) rfl<|R.q (q.eJ (j':=0) (fun _=>Wd.aO 0 rfl) hx1 rfl bK rfl) rfl<|R.q (q.jU (fun _=>Wd.aO 0 rfl) hx1 rfl aG rfl) rfl<|?_
      rcases Bool.eq_false_or_eq_true (decide (x1.ID∈(cZ (((ak r p).1).ID) r.ap))) with h3|h3
      ·
        refine R.c (q.call lq rfl rfl (fun w hw=>(cv (congrArg Value.bool h3) (ij _ ((cZ (((ak r p).1).ID) r.ap)) (x1.ID) w ((fun _=>Wd.row 1 rfl) w hw) )))) rfl<|R.u 1 rfl<|R.nil ?_
        refine R.reg rfl<|R.u 2 rfl<|R.nil ?_
        refine R.aH rfl rfl ?_
        refine R.reg rfl<|R.u 1 rfl<|R.q (q.add (r:=((k+1:Nat):Int)) rfl rfl (wr (by omega))) rfl<|R.u 1 rfl<|R.nil ?_
        refine R.back (k+1,vl,ls) rfl (by (exact ⟨by omega,by rw [lf hx1 (by simpa using ‹decide (_∈cZ _ _)=true›),HL]⟩)) (by dsimp only;omega) ⟨rfl,rfl,rfl,rfl,rfl,trivial⟩ (fun _=>Wd.aV [0,1,2,3,4,5,6] [0,1,2,3] rfl rfl rfl)
      ·
        refine R.c (q.call lq rfl rfl (fun w hw=>(cv (congrArg Value.bool h3) (ij _ ((cZ (((ak r p).1).ID) r.ap)) (x1.ID) w ((fun _=>Wd.row 1 rfl) w hw) )))) rfl<|R.u 1 rfl<|R.nil ?_
        refine R.reg rfl<|R.u 2 rfl<|R.nil ?_
        refine R.aI rfl rfl ?_
        refine R.reg rfl<|R.u 1 rfl<|R.q (q.aS (off':=0) rfl a8 rfl) rfl<|R.q (q.ld 5 rfl rfl bN rfl) rfl<|R.u 1 rfl<|R.q (q.idx (i:=k) (fun _=>Wd.aO 0 rfl) rfl rfl cG rfl hx1) rfl<|R.q (q.dx (ds:=[.int .i64 x1.ID,.int .i64 x1.ai,.int .i64 x1.Rights,.int .i64 x1.ar,.int .i64 x1.From]) (fun _=>Wd.aO 0 rfl) hx1 rfl aK rfl) rfl<|?_
        refine R.s rfl (s.bs (l:=([x1]:List ao)) cG aY rfl rfl rfl rfl rfl rfl rfl) fun b5=>?_
        refine R.s rfl (s.app (l2:=[x1]) 1 _ rfl rfl rfl (fun _=>Wd.row 0 rfl) eH (by first|omega|(simp;omega)|(simp [aF];omega)|(dsimp only [aF];omega)) (by first|omega|(simp;omega)|(simp [aF];omega)|(dsimp only [aF];omega)) (fun _=>rfl) rfl) fun v2=>?_
        refine R.u 1 rfl<|R.nil ?_
        refine R.reg rfl<|R.u 1 rfl<|R.q (q.add (r:=((k+1:Nat):Int)) rfl rfl (wr (by omega))) rfl<|R.u 1 rfl<|R.nil ?_
        refine R.back (k+1,v2,(ls++([x1]))) rfl (by (exact ⟨by omega,by rw [gU hx1 (by simpa using ‹decide (_∈cZ _ _)=false›),HL]⟩)) (by dsimp only;omega) ⟨rfl,rfl,rfl,rfl,rfl,trivial⟩ (fun _=>Wd.aV [1,2,3,4,5,6,7] [0,1,2,3] rfl rfl rfl)
    ·
      refine R.q (q.lss rfl rfl (decide_eq_false (by omega))) rfl<|R.nil ?_
      refine R.aH rfl rfl ?_
      have hls:ls=o9 r.ap (ak r p).1.ID:=by rw [HL,List.take_of_length_le (by omega)];rfl
      have hkl:Ok (⟨ls,r.Things,r.Held,r.Notes,r.ae,r.af⟩:ay):=by rw [hls];exact hkc
      have zX:Pre (⟨ls,r.Things,r.Held,r.Notes,r.ae,r.af⟩:ay):=by rw [hls];exact zD
      refine R.reg rfl<|R.u 1 rfl<|R.q (q.aS (off':=0) rfl a8 rfl) rfl<|?_
      refine R.s rfl (s.cS (us:=[vl]) (cs':=[vl,az,aB,aA,.int .i64 r.ae,.int .i64 r.af]) 5 _ rfl rfl rfl (fun w hw=>Sl.bJ ((fun _=>Wd.row 0 rfl) w hw)) (.inr ⟨bN,rfl⟩) (fun w hw=>(aj (Sl.one ((fun _=>Wd.row 0 rfl) w hw)) aJ)) rfl rfl rfl) fun _=>?_
      refine R.nil ?_
      refine R.reg rfl<|R.q (q.bI 5 rfl rfl au) rfl<|?_
      refine R.s (B':=(fun g_:Value×Value×Value×Value=>[ah.row 3 v1 ((cZ (((ak r p).1).ID) r.ap):List Int),ah.box b4 [.int .i64 (((ak r p).1).ID),.int .i64 (((ak r p).1).ai),.int .i64 (((ak r p).1).Rights),.int .i64 (((ak r p).1).ar),.int .i64 (((ak r p).1).From)] 39,ah.box b3 [.slice none 0 0,.slice none 0 0,.slice none 0 0,.slice none 0 0,.int .i64 0,.int .i64 0] 30,ah.box b2 [.int .i64 p.ag,.int .i64 p.Slot] 33,ah.box b1 [vl,az,aB,aA,.int .i64 r.ae,.int .i64 r.af] 30,ah.held w own])) (F':=(fun g_:Value×Value×Value×Value=>[ah.ls g_.1 (((aP (⟨ls,r.Things,r.Held,r.Notes,r.ae,r.af⟩:ay))).ap:List ao),ah.ls g_.2.1 (((aP (⟨ls,r.Things,r.Held,r.Notes,r.ae,r.af⟩:ay))).Things:List ai),ah.ls g_.2.2.1 (((aP (⟨ls,r.Things,r.Held,r.Notes,r.ae,r.af⟩:ay))).Held:List Held),ah.ls g_.2.2.2 (((aP (⟨ls,r.Things,r.Held,r.Notes,r.ae,r.af⟩:ay))).Notes:List Note),ah.ls vl (ls:List ao),ah.ls aD (r.ap:List ao),ah.ls az (r.Things:List ai),ah.ls aB (r.Held:List Held),ah.ls aA (r.Notes:List Note)])) rfl (s.pre (B2:=[ah.row 3 v1 ((cZ (((ak r p).1).ID) r.ap):List Int),ah.box b4 [.int .i64 (((ak r p).1).ID),.int .i64 (((ak r p).1).ai),.int .i64 (((ak r p).1).Rights),.int .i64 (((ak r p).1).ar),.int .i64 (((ak r p).1).From)] 39,ah.box b3 [.slice none 0 0,.slice none 0 0,.slice none 0 0,.slice none 0 0,.int .i64 0,.int .i64 0] 30,ah.box b2 [.int .i64 p.ag,.int .i64 p.Slot] 33,ah.box b1 [vl,az,aB,aA,.int .i64 r.ae,.int .i64 r.af] 30,ah.held w own]) (F2:=[ah.ls vl (ls:List ao),ah.ls aD (r.ap:List ao),ah.ls az (r.Things:List ai),ah.ls aB (r.Held:List Held),ah.ls aA (r.Notes:List Note)]) (fun _ hw=>hw.aZ 0 _ rfl rfl) (s.bE (B0:=[]) (Br:=[ah.row 3 v1 ((cZ (((ak r p).1).ID) r.ap):List Int),ah.box b4 [.int .i64 (((ak r p).1).ID),.int .i64 (((ak r p).1).ai),.int .i64 (((ak r p).1).Rights),.int .i64 (((ak r p).1).ar),.int .i64 (((ak r p).1).From)] 39,ah.box b3 [.slice none 0 0,.slice none 0 0,.slice none 0 0,.slice none 0 0,.int .i64 0,.int .i64 0] 30,ah.box b2 [.int .i64 p.ag,.int .i64 p.Slot] 33,ah.box b1 [vl,az,aB,aA,.int .i64 r.ae,.int .i64 r.af] 30,ah.held w own]) (F0:=[ah.ls vl (ls:List ao),ah.ls az (r.Things:List ai),ah.ls aB (r.Held:List Held),ah.ls aA (r.Notes:List Note)]) [0,1,2,3,4,5] [0,2,3,4] (fun g_:Value×Value×Value×Value => .agg #[g_.1,g_.2.1,g_.2.2.1,g_.2.2.2,.int .i64 (((aP (⟨ls,r.Things,r.Held,r.Notes,r.ae,r.af⟩:ay))).ae),.int .i64 (((aP (⟨ls,r.Things,r.Held,r.Notes,r.ae,r.af⟩:ay))).af)]) (fun g_:Value×Value×Value×Value=>[]) (fun g_:Value×Value×Value×Value=>[ah.ls g_.1 (((aP (⟨ls,r.Things,r.Held,r.Notes,r.ae,r.af⟩:ay))).ap:List ao),ah.ls g_.2.1 (((aP (⟨ls,r.Things,r.Held,r.Notes,r.ae,r.af⟩:ay))).Things:List ai),ah.ls g_.2.2.1 (((aP (⟨ls,r.Things,r.Held,r.Notes,r.ae,r.af⟩:ay))).Held:List Held),ah.ls g_.2.2.2 (((aP (⟨ls,r.Things,r.Held,r.Notes,r.ae,r.af⟩:ay))).Notes:List Note)]) rfl rfl rfl sG rfl rfl (fun w own hw H=>kg vl az aB aA ((⟨ls,r.Things,r.Held,r.Notes,r.ae,r.af⟩:ay)) w own H (by assumption) (by first|assumption|exact hI.toPre)) rfl)) ?_
      rintro ⟨z1,z2,z3,z4⟩
      dsimp only
      refine R.s rfl (s.cS (us:=[z1,z2,z3,z4,.int .i64 ((aP (⟨ls,r.Things,r.Held,r.Notes,r.ae,r.af⟩:ay)).ae),.int .i64 ((aP (⟨ls,r.Things,r.Held,r.Notes,r.ae,r.af⟩:ay)).af)]) (cs':=[z1,z2,z3,z4,.int .i64 ((aP (⟨ls,r.Things,r.Held,r.Notes,r.ae,r.af⟩:ay)).ae),.int .i64 ((aP (⟨ls,r.Things,r.Held,r.Notes,r.ae,r.af⟩:ay)).af)]) 2 _ rfl rfl rfl (fun _ _=>rfl) (.inl au) (fun w hw=>(aj (Sl.one ((fun _=>Wd.aO 0 rfl) w hw)) (aj (Sl.one ((fun _=>Wd.aO 1 rfl) w hw)) (aj (Sl.one ((fun _=>Wd.aO 2 rfl) w hw)) (aj (Sl.one ((fun _=>Wd.aO 3 rfl) w hw)) (aj rfl (aj rfl aJ))))))) rfl rfl rfl) fun _=>?_
      refine R.u 1 rfl<|R.nil ?_
      have hz:bg r p=((aP (⟨ls,r.Things,r.Held,r.Notes,r.ae,r.af⟩:ay)),0):=by (unfold bg;rw [if_pos gz,hls];(try rfl))
      rw [hz]
      exact R.w2 (z1,z2,z3,z4) [5] [0,1,2,3] rfl Tryz.results57 (RV.cell 2 rfl rfl au) (RV.tmp rfl) rfl rfl rfl (cm rfl rfl)
theorem qx (aD az aB aA:Value)(r:ay)(p:Place)(d:ByteArray)(w:World)(own:List Nat)(H:Wd w (blks []++own) ([]++[ah.held w own]) [ah.ls aD (r.ap:List ao),ah.ls az (r.Things:List ai),ah.ls aB (r.Held:List Held),ah.ls aA (r.Notes:List Note)] w)(hk:Ok r)(hI:Inv r):Calls Tryz.prog 58 #[.agg #[aD,az,aB,aA,.int .i64 r.ae,.int .i64 r.af],.agg #[.int .i64 p.ag,.int .i64 p.Slot],.string d] w fun e w' => ∃z:Value×Value×Value×Value,e = .returned (.tuple #[.agg #[z.1,z.2.1,z.2.2.1,z.2.2.2,.int .i64 ((((bF r p d)).1).ae),.int .i64 ((((bF r p d)).1).af)],.int .i64 (((bF r p d)).2)])∧Wd w (blks []++own) ([]++[ah.held w own]) [ah.ls z.1 ((((bF r p d)).1).ap:List ao),ah.ls z.2.1 ((((bF r p d)).1).Things:List ai),ah.ls z.2.2.1 ((((bF r p d)).1).Held:List Held),ah.ls z.2.2.2 ((((bF r p d)).1).Notes:List Note)] w':=by
  have cw:=H.bS 0 rfl
  have bY:=H.bS 1 rfl
  have cI:=H.bS 2 rfl
  have cx:=H.bS 3 rfl
  have bw:=hk.wl;have bt:=hk.tl;have bh:=hk.hl;have bn:=hk.nl;have lS:=hk.w0;have lT:=hk.w1;have lU:=hk.t0;have lV:=hk.t1
  have yI:=dK r p 1 2
  refine R.cC (n:=35) (vs:=[.agg #[aD,az,aB,aA,.int .i64 r.ae,.int .i64 r.af],.agg #[.int .i64 p.ag,.int .i64 p.Slot],.string d]) (B:=[ah.held w own]) [(0,.agg #[aD,az,aB,aA,.int .i64 r.ae,.int .i64 r.af]),(1,.agg #[.int .i64 p.ag,.int .i64 p.Slot]),(2,.string d)] Tryz.func58 rfl rfl rfl rfl H ?_
  refine R.reg rfl<|?_
  refine R.s rfl (s.box (cs:=[aD,az,aB,aA,.int .i64 r.ae,.int .i64 r.af]) rfl rfl rfl) fun b1=>?_
  refine R.s rfl (s.box (cs:=[.int .i64 p.ag,.int .i64 p.Slot]) rfl rfl rfl) fun b2=>?_
  refine R.s rfl (s.alloc (cs:=[.slice none 0 0,.slice none 0 0,.slice none 0 0,.slice none 0 0,.int .i64 0,.int .i64 0]) bR rfl rfl) fun b3=>?_
  refine R.u 1 rfl<|R.nil ?_
  refine R.reg rfl<|R.q (q.bI 2 rfl rfl au) rfl<|R.q (q.bI 1 rfl rfl aM) rfl<|R.c (q.call qN rfl rfl (fun w hw=>(kT _ _ _ _ (r) (p) (1) (2) w ((fun _=>Wd.aO 0 rfl) w hw) ((fun _=>Wd.aO 1 rfl) w hw) ((fun _=>Wd.aO 2 rfl) w hw) ((fun _=>Wd.aO 3 rfl) w hw) (by assumption) (by assumption) (by omega)))) rfl<|R.u 4 rfl<|?_
  refine R.s rfl (s.alloc (cs:=[.int .i64 0,.int .i64 0,.int .i64 0,.int .i64 0,.int .i64 0]) aY rfl rfl) fun b4=>?_
  refine R.s rfl (s.st (us:=[.int .i64 (((av r p 1 2).1).ID),.int .i64 (((av r p 1 2).1).ai),.int .i64 (((av r p 1 2).1).Rights),.int .i64 (((av r p 1 2).1).ar),.int .i64 (((av r p 1 2).1).From)]) (cs':=[.int .i64 (((av r p 1 2).1).ID),.int .i64 (((av r p 1 2).1).ai),.int .i64 (((av r p 1 2).1).Rights),.int .i64 (((av r p 1 2).1).ar),.int .i64 (((av r p 1 2).1).From)]) 0 _ rfl rfl rfl rfl (.inl aK) rfl rfl rfl rfl) fun _=>?_
  refine R.u 2 rfl<|R.nil ?_
  refine R.reg rfl<|R.u 1 rfl<|?_
  by_cases h1:0<(av r p 1 2).2.2
  ·
    refine R.q (q.gtr rfl rfl (decide_eq_true (by omega))) rfl<|R.nil ?_
    refine R.aI rfl rfl ?_
    refine R.reg rfl<|R.q (q.build (cs:=[.slice none 0 0,.slice none 0 0,.slice none 0 0,.slice none 0 0,.int .i64 0,.int .i64 0]) ck rfl rfl) rfl<|R.u 1 rfl<|?_
    refine R.s rfl (s.st (us:=[.slice none 0 0,.slice none 0 0,.slice none 0 0,.slice none 0 0,.int .i64 0,.int .i64 0]) (cs':=[.slice none 0 0,.slice none 0 0,.slice none 0 0,.slice none 0 0,.int .i64 0,.int .i64 0]) 1 _ rfl rfl rfl rfl (.inl au) rfl rfl rfl rfl) fun _=>?_
    refine R.u 1 rfl<|R.nil ?_
    refine R.mp (fun _ hw=>hw.aN (α:=ao)) ?_
    refine R.mp (fun _ hw=>hw.aN (α:=ai)) ?_
    refine R.mp (fun _ hw=>hw.aN (α:=Held)) ?_
    refine R.mp (fun _ hw=>hw.aN (α:=Note)) ?_
    have hz:bF r p d=((⟨[],[],[],[],0,0⟩:ay),(av r p 1 2).2.2):=by (unfold bF dU;(repeat' split) <;> first|rfl|(exfalso;omega)|(simp_all;done))
    rw [hz]
    exact R.w2 ((.slice none 0 0),(.slice none 0 0),(.slice none 0 0),(.slice none 0 0)) [4] [3,2,1,0] rfl Tryz.results58 (RV.cell 1 rfl rfl au) (RV.tmp rfl) rfl rfl rfl (cm rfl rfl)
  ·
    have mn:=dK r p 1 2;have mq:(av r p 1 2).2.2=0:=by omega
    obtain ⟨m1,m2,m3,i,ix,ik,ih,ii,id,ib⟩:=eS mq;have iB:=(List.getElem?_eq_some_iff.1 ih).1
    refine R.q (q.gtr rfl rfl (decide_eq_false (by omega))) rfl<|R.nil ?_
    refine R.aH rfl rfl ?_
    refine R.reg rfl<|R.u 1 rfl<|R.q (q.pI rfl Tryz.underlying9) rfl<|?_
    by_cases h2:8<d.size
    ·
      refine R.q (q.gtr rfl rfl (decide_eq_true (by omega))) rfl<|R.nil ?_
      refine R.aI rfl rfl ?_
      refine R.reg rfl<|R.q (q.build (cs:=[.slice none 0 0,.slice none 0 0,.slice none 0 0,.slice none 0 0,.int .i64 0,.int .i64 0]) ck rfl rfl) rfl<|?_
      refine R.s rfl (s.st (us:=[.slice none 0 0,.slice none 0 0,.slice none 0 0,.slice none 0 0,.int .i64 0,.int .i64 0]) (cs':=[.slice none 0 0,.slice none 0 0,.slice none 0 0,.slice none 0 0,.int .i64 0,.int .i64 0]) 1 _ rfl rfl rfl rfl (.inl au) rfl rfl rfl rfl) fun _=>?_
      refine R.u 1 rfl<|R.nil ?_
      refine R.mp (fun _ hw=>hw.aN (α:=ao)) ?_
      refine R.mp (fun _ hw=>hw.aN (α:=ai)) ?_
      refine R.mp (fun _ hw=>hw.aN (α:=Held)) ?_
      refine R.mp (fun _ hw=>hw.aN (α:=Note)) ?_
      have hz:bF r p d=((⟨[],[],[],[],0,0⟩:ay),2):=by (unfold bF dU;(repeat' split) <;> first|rfl|(exfalso;omega)|(simp_all;done))
      rw [hz]
      exact R.w2 ((.slice none 0 0),(.slice none 0 0),(.slice none 0 0),(.slice none 0 0)) [4] [3,2,1,0] rfl Tryz.results58 (RV.cell 1 rfl rfl au) (RV.tmp rfl) rfl rfl rfl (cm rfl rfl)
    ·
      refine R.q (q.gtr rfl rfl (decide_eq_false (by omega))) rfl<|R.nil ?_
      refine R.aH rfl rfl ?_
      refine R.reg rfl<|R.q (q.bI 3 rfl rfl au) rfl<|?_
      refine R.s (B':=(fun g_:Value×Value×Value×Value=>[ah.row 39 g_.1 ((r).ap:List ao),ah.row 74 g_.2.1 ((r).Things:List ai),ah.row 93 g_.2.2.1 ((r).Held:List Held),ah.row 52 g_.2.2.2 ((r).Notes:List Note),ah.box b4 [.int .i64 (((av r p 1 2).1).ID),.int .i64 (((av r p 1 2).1).ai),.int .i64 (((av r p 1 2).1).Rights),.int .i64 (((av r p 1 2).1).ar),.int .i64 (((av r p 1 2).1).From)] 39,ah.box b3 [.slice none 0 0,.slice none 0 0,.slice none 0 0,.slice none 0 0,.int .i64 0,.int .i64 0] 30,ah.box b2 [.int .i64 p.ag,.int .i64 p.Slot] 33,ah.box b1 [aD,az,aB,aA,.int .i64 r.ae,.int .i64 r.af] 30,ah.held w own])) (F':=(fun g_:Value×Value×Value×Value=>[ah.ls aD (r.ap:List ao),ah.ls az (r.Things:List ai),ah.ls aB (r.Held:List Held),ah.ls aA (r.Notes:List Note)])) rfl (s.bE (B0:=[]) (Br:=[ah.box b4 [.int .i64 (((av r p 1 2).1).ID),.int .i64 (((av r p 1 2).1).ai),.int .i64 (((av r p 1 2).1).Rights),.int .i64 (((av r p 1 2).1).ar),.int .i64 (((av r p 1 2).1).From)] 39,ah.box b3 [.slice none 0 0,.slice none 0 0,.slice none 0 0,.slice none 0 0,.int .i64 0,.int .i64 0] 30,ah.box b2 [.int .i64 p.ag,.int .i64 p.Slot] 33,ah.box b1 [aD,az,aB,aA,.int .i64 r.ae,.int .i64 r.af] 30,ah.held w own]) (F0:=[ah.ls aD (r.ap:List ao),ah.ls az (r.Things:List ai),ah.ls aB (r.Held:List Held),ah.ls aA (r.Notes:List Note)]) [0,1,2,3,4] [0,1,2,3] (fun g_:Value×Value×Value×Value => .agg #[g_.1,g_.2.1,g_.2.2.1,g_.2.2.2,.int .i64 ((r).ae),.int .i64 ((r).af)]) (fun g_:Value×Value×Value×Value=>[ah.row 39 g_.1 ((r).ap:List ao),ah.row 74 g_.2.1 ((r).Things:List ai),ah.row 93 g_.2.2.1 ((r).Held:List Held),ah.row 52 g_.2.2.2 ((r).Notes:List Note)]) (fun g_:Value×Value×Value×Value=>[]) rfl rfl rfl oN rfl rfl (fun w own hw H=>iU aD az aB aA (r) w own H (by assumption)) rfl) ?_
      rintro ⟨z1,z2,z3,z4⟩
      dsimp only
      refine R.s rfl (s.cS (us:=[z1,z2,z3,z4,.int .i64 r.ae,.int .i64 r.af]) (cs':=[z1,z2,z3,z4,.int .i64 r.ae,.int .i64 r.af]) 7 _ rfl rfl rfl (fun _ _=>rfl) (.inl au) (fun w hw=>(aj (Sl.one ((fun _=>Wd.row 0 rfl) w hw)) (aj (Sl.one ((fun _=>Wd.row 1 rfl) w hw)) (aj (Sl.one ((fun _=>Wd.row 2 rfl) w hw)) (aj (Sl.one ((fun _=>Wd.row 3 rfl) w hw)) (aj rfl (aj rfl aJ))))))) rfl rfl rfl) fun _=>?_
      refine R.nil ?_
      refine R.reg rfl<|R.q (q.aS (off':=1) rfl bm rfl) rfl<|R.q (q.ld 7 rfl rfl bT rfl) rfl<|R.u 2 rfl<|?_
      obtain ⟨x1,hx1⟩:∃z,r.Things[((av r p 1 2).2.1).toNat]? = some z:=⟨_,List.getElem?_eq_getElem (by omega)⟩
      refine R.q (q.idx (i:=((av r p 1 2).2.1).toNat) (fun _=>Wd.row 1 rfl) rfl rfl dJ (by omega) hx1) rfl<|R.q (q.eJ (j':=2) (fun _=>Wd.row 1 rfl) hx1 rfl jI rfl) rfl<|?_
      refine R.s rfl (s.stP (o:=2) (z:=(⟨x1.ID,x1.Kind,d⟩:ai)) (us:=[.string d]) 1 _ rfl hx1 rfl rfl rfl rfl rfl (by simp [Value.oneCell']) (.inr ⟨fQ,rfl⟩) rfl) fun _=>?_
      refine R.nil ?_
      refine R.reg rfl<|R.q (q.bI 7 rfl rfl au) rfl<|?_
      refine R.s rfl (s.cS (us:=[z1,z2,z3,z4,.int .i64 r.ae,.int .i64 r.af]) (cs':=[z1,z2,z3,z4,.int .i64 r.ae,.int .i64 r.af]) 5 _ rfl rfl rfl (fun _ _=>rfl) (.inl au) (fun w hw=>(aj (Sl.one ((fun _=>Wd.row 0 rfl) w hw)) (aj (Sl.one ((fun _=>Wd.row 1 rfl) w hw)) (aj (Sl.one ((fun _=>Wd.row 2 rfl) w hw)) (aj (Sl.one ((fun _=>Wd.row 3 rfl) w hw)) (aj rfl (aj rfl aJ))))))) rfl rfl rfl) fun _=>?_
      refine R.u 1 rfl<|R.nil ?_
      refine R.mp (B':=[ah.row 74 z2 ((r.Things.set (((av r p 1 2).2.1).toNat) (⟨x1.ID,x1.Kind,d⟩:ai)):List ai),ah.row 93 z3 (r.Held:List Held),ah.row 52 z4 (r.Notes:List Note),ah.box b4 [.int .i64 (((av r p 1 2).1).ID),.int .i64 (((av r p 1 2).1).ai),.int .i64 (((av r p 1 2).1).Rights),.int .i64 (((av r p 1 2).1).ar),.int .i64 (((av r p 1 2).1).From)] 39,ah.box b3 [z1,z2,z3,z4,.int .i64 r.ae,.int .i64 r.af] 30,ah.box b2 [.int .i64 p.ag,.int .i64 p.Slot] 33,ah.box b1 [z1,z2,z3,z4,.int .i64 r.ae,.int .i64 r.af] 30,ah.held w own]) (fun _ hw=>hw.aZ 0 _ rfl rfl) ?_
      refine R.mp (B':=[ah.row 93 z3 (r.Held:List Held),ah.row 52 z4 (r.Notes:List Note),ah.box b4 [.int .i64 (((av r p 1 2).1).ID),.int .i64 (((av r p 1 2).1).ai),.int .i64 (((av r p 1 2).1).Rights),.int .i64 (((av r p 1 2).1).ar),.int .i64 (((av r p 1 2).1).From)] 39,ah.box b3 [z1,z2,z3,z4,.int .i64 r.ae,.int .i64 r.af] 30,ah.box b2 [.int .i64 p.ag,.int .i64 p.Slot] 33,ah.box b1 [z1,z2,z3,z4,.int .i64 r.ae,.int .i64 r.af] 30,ah.held w own]) (fun _ hw=>hw.aZ 0 _ rfl rfl) ?_
      refine R.mp (B':=[ah.row 52 z4 (r.Notes:List Note),ah.box b4 [.int .i64 (((av r p 1 2).1).ID),.int .i64 (((av r p 1 2).1).ai),.int .i64 (((av r p 1 2).1).Rights),.int .i64 (((av r p 1 2).1).ar),.int .i64 (((av r p 1 2).1).From)] 39,ah.box b3 [z1,z2,z3,z4,.int .i64 r.ae,.int .i64 r.af] 30,ah.box b2 [.int .i64 p.ag,.int .i64 p.Slot] 33,ah.box b1 [z1,z2,z3,z4,.int .i64 r.ae,.int .i64 r.af] 30,ah.held w own]) (fun _ hw=>hw.aZ 0 _ rfl rfl) ?_
      refine R.mp (B':=[ah.box b4 [.int .i64 (((av r p 1 2).1).ID),.int .i64 (((av r p 1 2).1).ai),.int .i64 (((av r p 1 2).1).Rights),.int .i64 (((av r p 1 2).1).ar),.int .i64 (((av r p 1 2).1).From)] 39,ah.box b3 [z1,z2,z3,z4,.int .i64 r.ae,.int .i64 r.af] 30,ah.box b2 [.int .i64 p.ag,.int .i64 p.Slot] 33,ah.box b1 [z1,z2,z3,z4,.int .i64 r.ae,.int .i64 r.af] 30,ah.held w own]) (fun _ hw=>hw.aZ 0 _ rfl rfl) ?_
      have hz:bF r p d=((⟨r.ap,(r.Things.set (((av r p 1 2).2.1).toNat) (⟨x1.ID,x1.Kind,d⟩:ai)),r.Held,r.Notes,r.ae,r.af⟩:ay),0):=by (unfold bF dU;(repeat' split) <;> first|rfl|(exfalso;omega)|(simp_all;done))
      rw [hz]
      exact R.w2 (z1,z2,z3,z4) [4] [3,2,1,0] rfl Tryz.results58 (RV.cell 1 rfl rfl au) (RV.tmp rfl) rfl rfl rfl (cm rfl rfl)
end Go.Proofs.YtpipachmngdegaaGreat
end
