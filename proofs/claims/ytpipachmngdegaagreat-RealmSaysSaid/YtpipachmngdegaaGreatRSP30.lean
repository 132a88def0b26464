import Derived.Test.YtpipachmngdegaaGreatRSP29
section
namespace Go.Proofs.YtpipachmngdegaaGreat
open Go Go.RowKit
set_option linter.unusedVariables false
set_option linter.unusedSimpArgs false
set_option maxRecDepth 100000
set_option maxHeartbeats 400000 in
theorem j9 (aD az aB aA:Value)(r:ay)(w:World)(own:List Nat)(H:Wd w (blks []++own) ([]++[ah.held w own]) [ah.ls aD (r.ap:List ao),ah.ls az (r.Things:List ai),ah.ls aB (r.Held:List Held),ah.ls aA (r.Notes:List Note)] w)(hk:Ok r):Calls Tryz.prog 41 #[.agg #[aD,az,aB,aA,.int .i64 r.ae,.int .i64 r.af]] w fun e w' => ∃z:Value×Value×Value×Value,e = .returned (.agg #[z.1,z.2.1,z.2.2.1,z.2.2.2,.int .i64 (((aP r)).ae),.int .i64 (((aP r)).af)])∧Wd w (blks []++own) ([]++[ah.held w own]) [ah.ls z.1 (((aP r)).ap:List ao),ah.ls z.2.1 (((aP r)).Things:List ai),ah.ls z.2.2.1 (((aP r)).Held:List Held),ah.ls z.2.2.2 (((aP r)).Notes:List Note)] w':=by
  have cw:=H.bS 0 rfl
  have bY:=H.bS 1 rfl
  have cI:=H.bS 2 rfl
  have cx:=H.bS 3 rfl
  refine R.cC (n:=74) (vs:=[.agg #[aD,az,aB,aA,.int .i64 r.ae,.int .i64 r.af]]) (B:=[ah.held w own]) [(0,.agg #[aD,az,aB,aA,.int .i64 r.ae,.int .i64 r.af])] Tryz.func41 rfl rfl rfl rfl H ?_
  refine R.reg rfl<|?_
  refine R.s rfl (s.box (cs:=[aD,az,aB,aA,.int .i64 r.ae,.int .i64 r.af]) rfl rfl rfl) fun b1=>?_
  refine R.s rfl (s.alloc (cs:=[.slice none 0 0,.slice none 0 0,.slice none 0 0,.slice none 0 0,.int .i64 0,.int .i64 0]) bR rfl rfl) fun b2=>?_
  refine R.nil ?_
  refine R.loop (fun g_:ay×Value×Value×Value×Value=>[(1,.pointer (some ⟨b1,0,none⟩)),(2,.pointer (some ⟨b2,0,none⟩))]) (fun g_:ay×Value×Value×Value×Value=>[ah.box b2 [.slice none 0 0,.slice none 0 0,.slice none 0 0,.slice none 0 0,.int .i64 0,.int .i64 0] 30,ah.box b1 [g_.2.1,g_.2.2.1,g_.2.2.2.1,g_.2.2.2.2,.int .i64 g_.1.ae,.int .i64 g_.1.af] 30,ah.held w own]) (fun g_:ay×Value×Value×Value×Value=>[ah.ls g_.2.1 (g_.1.ap:List ao),ah.ls g_.2.2.1 (g_.1.Things:List ai),ah.ls g_.2.2.2.1 (g_.1.Held:List Held),ah.ls g_.2.2.2.2 (g_.1.Notes:List Note),ah.ls aD (r.ap:List ao),ah.ls az (r.Things:List ai),ah.ls aB (r.Held:List Held),ah.ls aA (r.Notes:List Note)]) (fun g_:ay×Value×Value×Value×Value=>Ok g_.1∧aP g_.1=aP r) (fun g_:ay×Value×Value×Value×Value=>g_.1.Notes.length) (r,aD,az,aB,aA) rfl (by exact ⟨hk,rfl⟩) ⟨rfl,rfl,trivial⟩ (fun _=>Wd.pick [0,1,2] [0,1,2,3,0,1,2,3] rfl rfl rfl) ?_
  rintro ⟨m,gl,k6,jP,kU⟩ ⟨hok,HS⟩
  dsimp only at *
  have o1:=hok.wl;have o2:=hok.tl;have o3:=hok.hl;have o4:=hok.nl
  refine R.reg rfl<|R.q (q.aS (off':=0) rfl a8 rfl) rfl<|R.q (q.ld 1 rfl rfl bN rfl) rfl<|?_
  refine R.s rfl (s.jk xh rfl rfl (fun w hw=>pd _ (m.ap) w ((fun _=>Wd.aO 0 rfl) w hw) (by first|omega|assumption)) rfl) fun v1=>?_
  refine R.s rfl (s.alloc (cs:=[.slice none 0 0]) np rfl rfl) fun b3=>?_
  refine R.s rfl (s.cS (us:=[v1]) (cs':=[v1]) 0 _ rfl rfl rfl (fun w hw=>Sl.bJ ((fun _=>Wd.row 1 rfl) w hw)) (.inr ⟨iH,rfl⟩) (fun w hw=>(aj (Sl.one ((fun _=>Wd.row 1 rfl) w hw)) aJ)) rfl rfl rfl) fun _=>?_
  refine R.nil ?_
  refine R.reg rfl<|R.q (q.aS (off':=1) rfl bm rfl) rfl<|R.q (q.ld 3 rfl rfl bT rfl) rfl<|?_
  refine R.s (B':=(fun aL:Value=>[ah.row 74 aL (m.Things:List ai),ah.box b3 [v1] 116,ah.row 3 v1 ((aQ m.ap):List Int),ah.box b2 [.slice none 0 0,.slice none 0 0,.slice none 0 0,.slice none 0 0,.int .i64 0,.int .i64 0] 30,ah.box b1 [gl,k6,jP,kU,.int .i64 m.ae,.int .i64 m.af] 30,ah.held w own])) (F':=(fun aL:Value=>[ah.ls gl (m.ap:List ao),ah.ls k6 (m.Things:List ai),ah.ls jP (m.Held:List Held),ah.ls kU (m.Notes:List Note),ah.ls aD (r.ap:List ao),ah.ls az (r.Things:List ai),ah.ls aB (r.Held:List Held),ah.ls aA (r.Notes:List Note)])) rfl (s.bE (B0:=[]) (Br:=[ah.box b3 [v1] 116,ah.row 3 v1 ((aQ m.ap):List Int),ah.box b2 [.slice none 0 0,.slice none 0 0,.slice none 0 0,.slice none 0 0,.int .i64 0,.int .i64 0] 30,ah.box b1 [gl,k6,jP,kU,.int .i64 m.ae,.int .i64 m.af] 30,ah.held w own]) (F0:=[ah.ls k6 (m.Things:List ai)]) [0,1,2,3,4] [1] (fun aL:Value=>aL) (fun aL:Value=>[ah.row 74 aL (m.Things:List ai)]) (fun aL:Value=>[]) rfl rfl rfl oL rfl rfl (fun w own hw H=>eL k6 (m.Things) w own H (by first|omega|assumption|(simp;done)|(simp;omega))) rfl) fun z1=>?_
  refine R.q (q.vT (cap:=[.pointer (some ⟨b3,0,none⟩)]) rfl rfl) rfl<|?_
  refine R.s (B':=(fun aL:Value=>[ah.row 74 aL ((m.Things.filter (fun x => !(fun (t:ai) => !decide (t.ID∈(aQ m.ap))) x)):List ai),ah.box b3 [v1] 116,ah.row 3 v1 ((aQ m.ap):List Int),ah.box b2 [.slice none 0 0,.slice none 0 0,.slice none 0 0,.slice none 0 0,.int .i64 0,.int .i64 0] 30,ah.box b1 [gl,k6,jP,kU,.int .i64 m.ae,.int .i64 m.af] 30,ah.held w own])) (F':=(fun aL:Value=>[ah.ls gl (m.ap:List ao),ah.ls k6 (m.Things:List ai),ah.ls jP (m.Held:List Held),ah.ls kU (m.Notes:List Note),ah.ls aD (r.ap:List ao),ah.ls az (r.Things:List ai),ah.ls aB (r.Held:List Held),ah.ls aA (r.Notes:List Note)])) rfl (s.bE (B0:=[ah.row 74 z1 (m.Things:List ai)]) (Br:=[ah.box b3 [v1] 116,ah.row 3 v1 ((aQ m.ap):List Int),ah.box b2 [.slice none 0 0,.slice none 0 0,.slice none 0 0,.slice none 0 0,.int .i64 0,.int .i64 0] 30,ah.box b1 [gl,k6,jP,kU,.int .i64 m.ae,.int .i64 m.af] 30,ah.held w own]) (F0:=[]) [0,1,2,3,4,5] [] (fun aL:Value=>aL) (fun aL:Value=>[ah.row 74 aL ((m.Things.filter (fun x => !(fun (t:ai) => !decide (t.ID∈(aQ m.ap))) x)):List ai)]) (fun aL:Value=>[]) rfl rfl rfl xj rfl rfl (fun w own hw H=>k5 z1 (m.Things) (fun (t:ai) => !decide (t.ID∈(aQ m.ap))) _ _ xk w own H (fun W t hU=>m4 t _ ((aQ m.ap)) _ W (hw.l8 1 0 rfl rfl (by decide) hU) (Own.sl (hw.l8 2 0 rfl rfl (by decide) hU)) ) (by first|omega|assumption|(simp;done)|(simp;omega))) rfl) fun z2=>?_
  refine R.q (q.aS (off':=1) rfl bm rfl) rfl<|?_
  refine R.s rfl (s.cS (us:=[z2]) (cs':=[gl,z2,jP,kU,.int .i64 m.ae,.int .i64 m.af]) 4 _ rfl rfl rfl (fun w hw=>Sl.bJ ((fun _=>Wd.row 0 rfl) w hw)) (.inr ⟨bT,rfl⟩) (fun w hw=>(aj (Sl.one ((fun _=>Wd.row 0 rfl) w hw)) aJ)) rfl rfl rfl) fun _=>?_
  refine R.nil ?_
  refine R.reg rfl<|R.u 1 rfl<|R.nil ?_
  refine R.reg rfl<|R.u 1 rfl<|R.nil ?_
  refine R.reg rfl<|R.q (q.aS (off':=3) rfl aT rfl) rfl<|R.q (q.ld 4 rfl rfl a6 rfl) rfl<|R.q (q.len' (fun _=>Wd.aO 3 rfl) rfl Tryz.underlying28) rfl<|R.u 1 rfl<|R.nil ?_
  refine R.row0 (α:=Int) 3 ?_
  refine R.row0 (α:=Note) 52 ?_
  refine R.loop (fun g_:Nat×Value×(List Note)×Value×(List Int)=>[(1,.pointer (some ⟨b1,0,none⟩)),(2,.pointer (some ⟨b2,0,none⟩)),(3,.pointer (some ⟨b3,0,none⟩)),(4,g_.2.2.2.1),(5,g_.2.1),(20,kU),(21,.int .i64 (m.Notes.length:Int)),(22,.int .i64 (g_.1:Int))]) (fun g_:Nat×Value×(List Note)×Value×(List Int)=>[ah.row 52 g_.2.1 (g_.2.2.1:List Note),ah.row 3 g_.2.2.2.1 (g_.2.2.2.2:List Int),ah.row 74 z2 (m.Things.filter (fun x => !(fun (t:ai) => !decide (t.ID∈(aQ m.ap))) x):List ai),ah.box b3 [v1] 116,ah.row 3 v1 ((aQ m.ap):List Int),ah.box b2 [.slice none 0 0,.slice none 0 0,.slice none 0 0,.slice none 0 0,.int .i64 0,.int .i64 0] 30,ah.box b1 [gl,z2,jP,kU,.int .i64 m.ae,.int .i64 m.af] 30,ah.held w own]) (fun g_:Nat×Value×(List Note)×Value×(List Int)=>[ah.ls gl (m.ap:List ao),ah.ls k6 (m.Things:List ai),ah.ls jP (m.Held:List Held),ah.ls kU (m.Notes:List Note),ah.ls aD (r.ap:List ao),ah.ls az (r.Things:List ai),ah.ls aB (r.Held:List Held),ah.ls aA (r.Notes:List Note)]) (fun g_:Nat×Value×(List Note)×Value×(List Int)=>g_.1≤m.Notes.length∧g_.2.2.1=ew m.ap (aQ m.ap) (m.Notes.take g_.1)∧g_.2.2.2.2=eI m.ap (aQ m.ap) (m.Notes.take g_.1)) (fun g_:Nat×Value×(List Note)×Value×(List Int)=>m.Notes.length-g_.1) (0,(.slice none 0 0),[],(.slice none 0 0),[]) rfl (by exact ⟨by omega,by simp [ew],by simp [eI]⟩) ⟨rfl,rfl,rfl,rfl,rfl,rfl,rfl,rfl,trivial⟩ (fun _=>Wd.pick [0,1,2,3,4,5,6,7] [0,1,2,3,4,5,6,7] rfl rfl rfl) ?_
  rintro ⟨k,vn,ns,vl,ls⟩ ⟨hk1,HN,HL⟩
  dsimp only at *
  have hkl:=iQ m.ap (aQ m.ap) (m.Notes.take k);rw [← HN,← HL,List.length_take] at hkl
  refine R.reg rfl<|?_
  by_cases h1:k<m.Notes.length
  ·
    refine R.q (q.lss rfl rfl (decide_eq_true (by omega))) rfl<|R.nil ?_
    refine R.aI rfl rfl ?_
    refine R.reg rfl<|?_
    obtain ⟨x1,hx1⟩:∃z,m.Notes[k]? = some z:=⟨_,List.getElem?_eq_getElem (by omega)⟩
    refine R.q (q.idx (i:=k) (fun _=>Wd.aO 3 rfl) rfl rfl cB rfl hx1) rfl<|R.q (q.dx (ds:=[.int .i64 x1.Port,.string x1.Data,.int .i64 x1.ar,.int .i64 x1.ao]) (fun _=>Wd.aO 3 rfl) hx1 rfl aX rfl) rfl<|?_
    refine R.s rfl (s.alloc (cs:=[.int .i64 0,.string (⟨#[]⟩),.int .i64 0,.int .i64 0]) cr rfl rfl) fun b4=>?_
    refine R.s rfl (s.st (us:=[.int .i64 x1.Port,.string x1.Data,.int .i64 x1.ar,.int .i64 x1.ao]) (cs':=[.int .i64 x1.Port,.string x1.Data,.int .i64 x1.ar,.int .i64 x1.ao]) 0 _ rfl rfl rfl rfl (.inl aX) rfl rfl rfl rfl) fun _=>?_
    refine R.nil ?_
    refine R.reg rfl<|R.q (q.aS (off':=0) rfl a8 rfl) rfl<|R.q (q.ld 7 rfl rfl bN rfl) rfl<|R.q (q.aS (off':=3) rfl cR rfl) rfl<|R.q (q.ld 0 rfl rfl aG rfl) rfl<|?_
    rcases dm m.ap x1.ao with ⟨dt,j2⟩ | ⟨fU,dP,dt,e6,vV⟩
    ·
      refine R.c (q.call ln rfl rfl (fun w hw=>(cv (congrArg (Value.int .i64) dt) (gk _ (m.ap) (x1.ao) w ((fun _=>Wd.aO 0 rfl) w hw) )))) rfl<|R.q (q.lss (b:=true) rfl rfl (by decide)) rfl<|R.nil ?_
      refine R.aI rfl rfl ?_
      refine R.reg rfl<|R.q (q.aS (off':=3) rfl cR rfl) rfl<|?_
      refine R.s rfl (s.st (us:=[.int .i64 0]) (cs':=[.int .i64 x1.Port,.string x1.Data,.int .i64 x1.ar,.int .i64 0]) 0 _ rfl rfl rfl rfl (.inr ⟨aG,rfl⟩) rfl rfl rfl rfl) fun _=>?_
      refine R.nil ?_
      refine R.reg rfl<|R.q (q.ld 4 rfl rfl iH rfl) rfl<|R.q (q.aS (off':=0) rfl eQ rfl) rfl<|R.q (q.ld 0 rfl rfl aG rfl) rfl<|?_
      rcases Bool.eq_false_or_eq_true (decide (x1.Port∈(aQ m.ap))) with h2|h2
      ·
        refine R.c (q.call nt rfl rfl (fun w hw=>(cv (congrArg Value.bool h2) (eF _ ((aQ m.ap)) (x1.Port) w ((fun _=>Wd.row 5 rfl) w hw) )))) rfl<|R.nil ?_
        refine R.aI rfl rfl ?_
        refine R.reg rfl<|R.u 1 rfl<|R.q (q.bI 0 rfl rfl aX) rfl<|?_
        refine R.s rfl (s.bs (l:=([(⟨x1.Port,x1.Data,x1.ar,0⟩:Note)]:List Note)) cB cr rfl rfl rfl rfl rfl rfl rfl) fun b5=>?_
        refine R.s rfl (s.app (l2:=[(⟨x1.Port,x1.Data,x1.ar,0⟩:Note)]) 2 _ rfl rfl rfl (fun _=>Wd.row 0 rfl) cU (by first|omega|(simp;omega)) (by first|omega|(simp;omega)) (fun _=>rfl) rfl) fun v2=>?_
        refine R.u 1 rfl<|R.nil ?_
        refine R.reg rfl<|R.q (q.add (r:=((k+1:Nat):Int)) rfl rfl (wr (by omega))) rfl<|R.u 1 rfl<|R.nil ?_
        refine R.back (k+1,v2,(ns++([(⟨x1.Port,x1.Data,x1.ar,0⟩:Note)])),vl,ls) rfl (by (have e0:=hx1;first|(have e1:=hZ (ws:=m.ap) dt;have e2:=fE e0 (by rw [e1];exact of_decide_eq_true (by assumption));rw [e1] at e2;exact ⟨by omega,by rw [e2.1,HN],by rw [e2.2,HL]⟩)|(have e1:=e9 (ws:=m.ap) dt;have e2:=fE e0 (by rw [e1];exact of_decide_eq_true (by assumption));rw [e1] at e2;exact ⟨by omega,by rw [e2.1,HN],by rw [e2.2,HL]⟩))) (by dsimp only;omega) ⟨rfl,rfl,rfl,rfl,rfl,rfl,rfl,rfl,trivial⟩ (fun _=>Wd.aV [2,3,4,5,6,7,8,9] [0,1,2,3,4,5,6,7] rfl rfl rfl)
      ·
        refine R.c (q.call nt rfl rfl (fun w hw=>(cv (congrArg Value.bool h2) (eF _ ((aQ m.ap)) (x1.Port) w ((fun _=>Wd.row 5 rfl) w hw) )))) rfl<|R.nil ?_
        refine R.aH rfl rfl ?_
        refine R.reg rfl<|R.q (q.aS (off':=3) rfl cR rfl) rfl<|R.q (q.ld 0 rfl rfl aG rfl) rfl<|R.q (q.gtr (b:=false) rfl rfl (by decide)) rfl<|R.nil ?_
        refine R.aH rfl rfl ?_
        refine R.reg rfl<|R.q (q.add (r:=((k+1:Nat):Int)) rfl rfl (wr (by omega))) rfl<|R.u 1 rfl<|R.nil ?_
        refine R.back (k+1,vn,ns,vl,ls) rfl (by (have e0:=hx1;first|(have e1:=hZ (ws:=m.ap) dt;have e2:=fF e0 (by rw [e1];exact of_decide_eq_false (by assumption)) (by rw [e1];simp);exact ⟨by omega,by rw [e2.1,HN],by rw [e2.2,HL]⟩)|(have e1:=e9 (ws:=m.ap) dt;have e2:=fF e0 (by rw [e1];exact of_decide_eq_false (by assumption)) (by rw [e1];assumption);exact ⟨by omega,by rw [e2.1,HN],by rw [e2.2,HL]⟩))) (by dsimp only;omega) ⟨rfl,rfl,rfl,rfl,rfl,rfl,rfl,rfl,trivial⟩ (fun _=>Wd.aV [1,2,3,4,5,6,7,8] [0,1,2,3,4,5,6,7] rfl rfl rfl)
    ·
      refine R.c (q.call ln rfl rfl (fun w hw=>(cv (congrArg (Value.int .i64) dt) (gk _ (m.ap) (x1.ao) w ((fun _=>Wd.aO 0 rfl) w hw) )))) rfl<|R.q (q.lss rfl rfl (decide_eq_false (by omega))) rfl<|R.nil ?_
      refine R.aH rfl rfl ?_
      refine R.reg rfl<|R.q (q.ld 4 rfl rfl iH rfl) rfl<|R.q (q.aS (off':=0) rfl eQ rfl) rfl<|R.q (q.ld 0 rfl rfl aG rfl) rfl<|?_
      rcases Bool.eq_false_or_eq_true (decide (x1.Port∈(aQ m.ap))) with h3|h3
      ·
        refine R.c (q.call nt rfl rfl (fun w hw=>(cv (congrArg Value.bool h3) (eF _ ((aQ m.ap)) (x1.Port) w ((fun _=>Wd.row 5 rfl) w hw) )))) rfl<|R.nil ?_
        refine R.aI rfl rfl ?_
        refine R.reg rfl<|R.u 1 rfl<|R.q (q.bI 0 rfl rfl aX) rfl<|?_
        refine R.s rfl (s.bs (l:=([x1]:List Note)) cB cr rfl rfl rfl rfl rfl rfl rfl) fun b6=>?_
        refine R.s rfl (s.app (l2:=[x1]) 2 _ rfl rfl rfl (fun _=>Wd.row 0 rfl) cU (by first|omega|(simp;omega)) (by first|omega|(simp;omega)) (fun _=>rfl) rfl) fun v3=>?_
        refine R.u 1 rfl<|R.nil ?_
        refine R.reg rfl<|R.q (q.add (r:=((k+1:Nat):Int)) rfl rfl (wr (by omega))) rfl<|R.u 1 rfl<|R.nil ?_
        refine R.back (k+1,v3,(ns++([x1])),vl,ls) rfl (by (have e0:=hx1;first|(have e1:=hZ (ws:=m.ap) dt;have e2:=fE e0 (by rw [e1];exact of_decide_eq_true (by assumption));rw [e1] at e2;exact ⟨by omega,by rw [e2.1,HN],by rw [e2.2,HL]⟩)|(have e1:=e9 (ws:=m.ap) dt;have e2:=fE e0 (by rw [e1];exact of_decide_eq_true (by assumption));rw [e1] at e2;exact ⟨by omega,by rw [e2.1,HN],by rw [e2.2,HL]⟩))) (by dsimp only;omega) ⟨rfl,rfl,rfl,rfl,rfl,rfl,rfl,rfl,trivial⟩ (fun _=>Wd.aV [2,3,4,5,6,7,8,9] [0,1,2,3,4,5,6,7] rfl rfl rfl)
      ·
        refine R.c (q.call nt rfl rfl (fun w hw=>(cv (congrArg Value.bool h3) (eF _ ((aQ m.ap)) (x1.Port) w ((fun _=>Wd.row 5 rfl) w hw) )))) rfl<|R.nil ?_
        refine R.aH rfl rfl ?_
        refine R.reg rfl<|R.q (q.aS (off':=3) rfl cR rfl) rfl<|R.q (q.ld 0 rfl rfl aG rfl) rfl<|?_
        by_cases h4:0<x1.ao
        ·
          refine R.q (q.gtr rfl rfl (decide_eq_true (by omega))) rfl<|R.nil ?_
          refine R.aI rfl rfl ?_
          refine R.reg rfl<|R.u 1 rfl<|R.q (q.aS (off':=3) rfl cR rfl) rfl<|R.q (q.ld 0 rfl rfl aG rfl) rfl<|?_
          refine R.s rfl (s.bs (l:=([x1.ao]:List Int)) fL iX rfl rfl rfl rfl rfl rfl rfl) fun b7=>?_
          refine R.s rfl (s.app (l2:=[x1.ao]) 3 _ rfl rfl rfl (fun _=>Wd.row 0 rfl) iI (by first|omega|(simp;omega)) (by first|omega|(simp;omega)) (fun _=>rfl) rfl) fun v4=>?_
          refine R.u 1 rfl<|R.nil ?_
          refine R.reg rfl<|R.q (q.add (r:=((k+1:Nat):Int)) rfl rfl (wr (by omega))) rfl<|R.u 1 rfl<|R.nil ?_
          refine R.back (k+1,vn,ns,v4,(ls++([x1.ao]))) rfl (by (have e0:=hx1;first|(have e1:=e9 (ws:=m.ap) dt;have e2:=nD e0 (by rw [e1];exact of_decide_eq_false (by assumption)) (by rw [e1];assumption);rw [e1] at e2;exact ⟨by omega,by rw [e2.1,HN],by rw [e2.2,HL]⟩)|(exfalso;omega))) (by dsimp only;omega) ⟨rfl,rfl,rfl,rfl,rfl,rfl,rfl,rfl,trivial⟩ (fun _=>Wd.aV [2,3,4,5,6,7,8,9] [0,1,2,3,4,5,6,7] rfl rfl rfl)
        ·
          refine R.q (q.gtr rfl rfl (decide_eq_false (by omega))) rfl<|R.nil ?_
          refine R.aH rfl rfl ?_
          refine R.reg rfl<|R.q (q.add (r:=((k+1:Nat):Int)) rfl rfl (wr (by omega))) rfl<|R.u 1 rfl<|R.nil ?_
          refine R.back (k+1,vn,ns,vl,ls) rfl (by (have e0:=hx1;first|(have e1:=hZ (ws:=m.ap) dt;have e2:=fF e0 (by rw [e1];exact of_decide_eq_false (by assumption)) (by rw [e1];simp);exact ⟨by omega,by rw [e2.1,HN],by rw [e2.2,HL]⟩)|(have e1:=e9 (ws:=m.ap) dt;have e2:=fF e0 (by rw [e1];exact of_decide_eq_false (by assumption)) (by rw [e1];assumption);exact ⟨by omega,by rw [e2.1,HN],by rw [e2.2,HL]⟩))) (by dsimp only;omega) ⟨rfl,rfl,rfl,rfl,rfl,rfl,rfl,rfl,trivial⟩ (fun _=>Wd.aV [1,2,3,4,5,6,7,8] [0,1,2,3,4,5,6,7] rfl rfl rfl)
  ·
    refine R.q (q.lss rfl rfl (decide_eq_false (by omega))) rfl<|R.nil ?_
    refine R.aH rfl rfl ?_
    refine R.reg rfl<|R.u 1 rfl<|R.q (q.aS (off':=3) rfl aT rfl) rfl<|?_
    refine R.s rfl (s.cS (us:=[vn]) (cs':=[gl,z2,jP,vn,.int .i64 m.ae,.int .i64 m.af]) 6 _ rfl rfl rfl (fun w hw=>Sl.bJ ((fun _=>Wd.row 0 rfl) w hw)) (.inr ⟨a6,rfl⟩) (fun w hw=>(aj (Sl.one ((fun _=>Wd.row 0 rfl) w hw)) aJ)) rfl rfl rfl) fun _=>?_
    refine R.nil ?_
    refine R.reg rfl<|R.q (q.aS (off':=2) rfl bf rfl) rfl<|R.q (q.ld 6 rfl rfl bQ rfl) rfl<|?_
    refine R.s (B':=(fun aL:Value=>[ah.row 93 aL (m.Held:List Held),ah.row 52 vn (ns:List Note),ah.row 3 vl (ls:List Int),ah.row 74 z2 (m.Things.filter (fun x => !(fun (t:ai) => !decide (t.ID∈(aQ m.ap))) x):List ai),ah.box b3 [v1] 116,ah.row 3 v1 ((aQ m.ap):List Int),ah.box b2 [.slice none 0 0,.slice none 0 0,.slice none 0 0,.slice none 0 0,.int .i64 0,.int .i64 0] 30,ah.box b1 [gl,z2,jP,vn,.int .i64 m.ae,.int .i64 m.af] 30,ah.held w own])) (F':=(fun aL:Value=>[ah.ls gl (m.ap:List ao),ah.ls k6 (m.Things:List ai),ah.ls jP (m.Held:List Held),ah.ls kU (m.Notes:List Note),ah.ls aD (r.ap:List ao),ah.ls az (r.Things:List ai),ah.ls aB (r.Held:List Held),ah.ls aA (r.Notes:List Note)])) rfl (s.bE (B0:=[]) (Br:=[ah.row 52 vn (ns:List Note),ah.row 3 vl (ls:List Int),ah.row 74 z2 (m.Things.filter (fun x => !(fun (t:ai) => !decide (t.ID∈(aQ m.ap))) x):List ai),ah.box b3 [v1] 116,ah.row 3 v1 ((aQ m.ap):List Int),ah.box b2 [.slice none 0 0,.slice none 0 0,.slice none 0 0,.slice none 0 0,.int .i64 0,.int .i64 0] 30,ah.box b1 [gl,z2,jP,vn,.int .i64 m.ae,.int .i64 m.af] 30,ah.held w own]) (F0:=[ah.ls jP (m.Held:List Held)]) [0,1,2,3,4,5,6,7] [2] (fun aL:Value=>aL) (fun aL:Value=>[ah.row 93 aL (m.Held:List Held)]) (fun aL:Value=>[]) rfl rfl rfl sH rfl rfl (fun w own hw H=>il jP (m.Held) w own H (by first|omega|assumption|(simp;done)|(simp;omega))) rfl) fun z3=>?_
    refine R.q (q.vT (cap:=[.pointer (some ⟨b1,0,none⟩)]) rfl rfl) rfl<|?_
    refine R.s (B':=(fun aL:Value=>[ah.row 93 aL ((m.Held.filter (fun x => !(fun (h:Held)=>decide (cb m.ap h.ao<0)) x)):List Held),ah.row 52 vn (ns:List Note),ah.row 3 vl (ls:List Int),ah.row 74 z2 (m.Things.filter (fun x => !(fun (t:ai) => !decide (t.ID∈(aQ m.ap))) x):List ai),ah.box b3 [v1] 116,ah.row 3 v1 ((aQ m.ap):List Int),ah.box b2 [.slice none 0 0,.slice none 0 0,.slice none 0 0,.slice none 0 0,.int .i64 0,.int .i64 0] 30,ah.box b1 [gl,z2,jP,vn,.int .i64 m.ae,.int .i64 m.af] 30,ah.held w own])) (F':=(fun aL:Value=>[ah.ls gl (m.ap:List ao),ah.ls k6 (m.Things:List ai),ah.ls jP (m.Held:List Held),ah.ls kU (m.Notes:List Note),ah.ls aD (r.ap:List ao),ah.ls az (r.Things:List ai),ah.ls aB (r.Held:List Held),ah.ls aA (r.Notes:List Note)])) rfl (s.bE (B0:=[ah.row 93 z3 (m.Held:List Held)]) (Br:=[ah.row 52 vn (ns:List Note),ah.row 3 vl (ls:List Int),ah.row 74 z2 (m.Things.filter (fun x => !(fun (t:ai) => !decide (t.ID∈(aQ m.ap))) x):List ai),ah.box b3 [v1] 116,ah.row 3 v1 ((aQ m.ap):List Int),ah.box b2 [.slice none 0 0,.slice none 0 0,.slice none 0 0,.slice none 0 0,.int .i64 0,.int .i64 0] 30,ah.box b1 [gl,z2,jP,vn,.int .i64 m.ae,.int .i64 m.af] 30,ah.held w own]) (F0:=[]) [0,1,2,3,4,5,6,7,8] [] (fun aL:Value=>aL) (fun aL:Value=>[ah.row 93 aL ((m.Held.filter (fun x => !(fun (h:Held)=>decide (cb m.ap h.ao<0)) x)):List Held)]) (fun aL:Value=>[]) rfl rfl rfl xl rfl rfl (fun w own hw H=>lI z3 (m.Held) (fun (h:Held)=>decide (cb (⟨m.ap,m.Things.filter (fun x => !(fun (t:ai) => !decide (t.ID∈(aQ m.ap))) x),m.Held,ns,m.ae,m.af⟩:ay).ap h.ao<0)) _ _ xm w own H (fun W h hU=>m5 h _ _ _ _ ((⟨m.ap,m.Things.filter (fun x => !(fun (t:ai) => !decide (t.ID∈(aQ m.ap))) x),m.Held,ns,m.ae,m.af⟩:ay)) _ W (hw.l8 7 0 rfl rfl (by decide) hU) (hw.uG 0 0 rfl rfl hU) (Own.sl (hw.l8 3 0 rfl rfl (by decide) hU)) (hw.uG 2 0 rfl rfl hU) (Own.sl (hw.l8 1 0 rfl rfl (by decide) hU)) ) (by first|omega|assumption|(simp;done)|(simp;omega))) rfl) fun z4=>?_
    refine R.q (q.aS (off':=2) rfl bf rfl) rfl<|?_
    refine R.s rfl (s.cS (us:=[z4]) (cs':=[gl,z2,z4,vn,.int .i64 m.ae,.int .i64 m.af]) 7 _ rfl rfl rfl (fun w hw=>Sl.bJ ((fun _=>Wd.row 0 rfl) w hw)) (.inr ⟨bQ,rfl⟩) (fun w hw=>(aj (Sl.one ((fun _=>Wd.row 0 rfl) w hw)) aJ)) rfl rfl rfl) fun _=>?_
    refine R.nil ?_
    refine R.reg rfl<|R.u 1 rfl<|R.q (q.len' (fun _=>Wd.row 2 rfl) rfl Tryz.underlying116) rfl<|?_
    by_cases h5:ls.length=0
    ·
      refine R.q (q.eql rfl rfl (beq_iff_eq.2 (by omega))) rfl<|R.nil ?_
      refine R.aI rfl rfl ?_
      refine R.reg rfl<|R.q (q.bI 7 rfl rfl au) rfl<|?_
      refine R.s rfl (s.cS (us:=[gl,z2,z4,vn,.int .i64 m.ae,.int .i64 m.af]) (cs':=[gl,z2,z4,vn,.int .i64 m.ae,.int .i64 m.af]) 6 _ rfl rfl rfl (fun _ _=>rfl) (.inl au) (fun w hw=>(aj (Sl.one ((fun _=>Wd.aO 0 rfl) w hw)) (aj (Sl.one ((fun _=>Wd.row 3 rfl) w hw)) (aj (Sl.one ((fun _=>Wd.row 0 rfl) w hw)) (aj (Sl.one ((fun _=>Wd.row 1 rfl) w hw)) (aj rfl (aj rfl aJ))))))) rfl rfl rfl) fun _=>?_
      refine R.nil ?_
      refine R.mp (B':=[ah.row 93 z4 (m.Held.filter (fun x => !(fun (h:Held)=>decide (cb m.ap h.ao<0)) x):List Held),ah.row 52 vn (ns:List Note),ah.row 3 vl (ls:List Int),ah.box b3 [v1] 116,ah.row 3 v1 ((aQ m.ap):List Int),ah.box b2 [gl,z2,z4,vn,.int .i64 m.ae,.int .i64 m.af] 30,ah.box b1 [gl,z2,z4,vn,.int .i64 m.ae,.int .i64 m.af] 30,ah.held w own]) (fun _ hw=>hw.aZ 3 _ rfl rfl) ?_
      refine R.mp (B':=[ah.row 52 vn (ns:List Note),ah.row 3 vl (ls:List Int),ah.box b3 [v1] 116,ah.row 3 v1 ((aQ m.ap):List Int),ah.box b2 [gl,z2,z4,vn,.int .i64 m.ae,.int .i64 m.af] 30,ah.box b1 [gl,z2,z4,vn,.int .i64 m.ae,.int .i64 m.af] 30,ah.held w own]) (fun _ hw=>hw.aZ 0 _ rfl rfl) ?_
      refine R.mp (B':=[ah.row 3 vl (ls:List Int),ah.box b3 [v1] 116,ah.row 3 v1 ((aQ m.ap):List Int),ah.box b2 [gl,z2,z4,vn,.int .i64 m.ae,.int .i64 m.af] 30,ah.box b1 [gl,z2,z4,vn,.int .i64 m.ae,.int .i64 m.af] 30,ah.held w own]) (fun _ hw=>hw.aZ 0 _ rfl rfl) ?_
      have hz:aP r=(⟨m.ap,m.Things.filter (fun x => !(fun (t:ai) => !decide (t.ID∈(aQ m.ap))) x),m.Held.filter (fun x => !(fun (h:Held)=>decide (cb m.ap h.ao<0)) x),ns,m.ae,m.af⟩:ay):=by (rw [List.take_of_length_le (by omega)] at HN HL;rw [← HS,lw (by show (eI _ _ _).length=0;rw [← HL];assumption)];unfold dY;rw [← HN])
      rw [hz]
      exact R.w1 (gl,z2,z4,vn) [5] [3,2,1,0] rfl Tryz.results41 (RV.cell 3 rfl rfl au) rfl rfl rfl rfl
    ·
      refine R.q (q.eql rfl rfl (beq_eq_false_iff_ne.2 (by omega))) rfl<|R.nil ?_
      refine R.aH rfl rfl ?_
      refine R.reg rfl<|R.u 1 rfl<|R.q (q.len' (fun _=>Wd.row 2 rfl) rfl Tryz.underlying116) rfl<|R.u 1 rfl<|R.nil ?_
      refine R.loop (fun g_:Nat×Value×(List ao)=>[(1,.pointer (some ⟨b1,0,none⟩)),(2,.pointer (some ⟨b2,0,none⟩)),(62,vl),(63,.int .i64 (ls.length:Int)),(64,.int .i64 (g_.1:Int))]) (fun g_:Nat×Value×(List ao)=>[ah.row 93 z4 (m.Held.filter (fun x => !(fun (h:Held)=>decide (cb m.ap h.ao<0)) x):List Held),ah.row 52 vn (ns:List Note),ah.row 3 vl (ls:List Int),ah.row 74 z2 (m.Things.filter (fun x => !(fun (t:ai) => !decide (t.ID∈(aQ m.ap))) x):List ai),ah.box b3 [v1] 116,ah.row 3 v1 ((aQ m.ap):List Int),ah.box b2 [.slice none 0 0,.slice none 0 0,.slice none 0 0,.slice none 0 0,.int .i64 0,.int .i64 0] 30,ah.box b1 [g_.2.1,z2,z4,vn,.int .i64 m.ae,.int .i64 m.af] 30,ah.held w own]) (fun g_:Nat×Value×(List ao)=>[ah.ls g_.2.1 (g_.2.2:List ao),ah.ls gl (m.ap:List ao),ah.ls k6 (m.Things:List ai),ah.ls jP (m.Held:List Held),ah.ls kU (m.Notes:List Note),ah.ls aD (r.ap:List ao),ah.ls az (r.Things:List ai),ah.ls aB (r.Held:List Held),ah.ls aA (r.Notes:List Note)]) (fun g_:Nat×Value×(List ao)=>g_.1≤ls.length∧g_.2.2=(ls.take g_.1).foldl without m.ap) (fun g_:Nat×Value×(List ao)=>ls.length-g_.1) (0,gl,m.ap) rfl (by exact ⟨by omega,rfl⟩) ⟨rfl,rfl,rfl,rfl,rfl,trivial⟩ (fun _=>Wd.pick [0,1,2,3,4,5,6,7,8] [0,0,1,2,3,4,5,6,7] rfl rfl rfl) ?_
      rintro ⟨j,vw,ws⟩ ⟨hj1,HW⟩
      dsimp only at *
      have hws:ws.length≤2000:=by rw [HW];exact Nat.le_trans (jz _ _) hok.wl
      refine R.reg rfl<|?_
      by_cases h6:j<ls.length
      ·
        refine R.q (q.lss rfl rfl (decide_eq_true (by omega))) rfl<|R.nil ?_
        refine R.aI rfl rfl ?_
        refine R.reg rfl<|?_
        obtain ⟨x2,hx2⟩:∃z,ls[j]? = some z:=⟨_,List.getElem?_eq_getElem (by omega)⟩
        refine R.q (q.idx (i:=j) (fun _=>Wd.row 2 rfl) rfl rfl fL rfl hx2) rfl<|R.q (q.jU (fun _=>Wd.row 2 rfl) hx2 rfl aG rfl) rfl<|R.u 1 rfl<|R.nil ?_
        refine R.reg rfl<|R.q (q.aS (off':=0) rfl a8 rfl) rfl<|R.q (q.ld 7 rfl rfl bN rfl) rfl<|R.u 1 rfl<|?_
        refine R.s rfl (s.jk sE rfl rfl (fun w hw=>jw _ (ws) (x2) w ((fun _=>Wd.aO 0 rfl) w hw) (by first|omega|assumption)) rfl) fun v5=>?_
        refine R.q (q.aS (off':=0) rfl a8 rfl) rfl<|?_
        refine R.s rfl (s.cS (us:=[v5]) (cs':=[v5,z2,z4,vn,.int .i64 m.ae,.int .i64 m.af]) 8 _ rfl rfl rfl (fun w hw=>Sl.bJ ((fun _=>Wd.row 0 rfl) w hw)) (.inr ⟨bN,rfl⟩) (fun w hw=>(aj (Sl.one ((fun _=>Wd.row 0 rfl) w hw)) aJ)) rfl rfl rfl) fun _=>?_
        refine R.nil ?_
        refine R.reg rfl<|R.q (q.add (r:=((j+1:Nat):Int)) rfl rfl (wr (by omega))) rfl<|R.u 1 rfl<|R.nil ?_
        refine R.mp (B':=[ah.row 93 z4 (m.Held.filter (fun x => !(fun (h:Held)=>decide (cb m.ap h.ao<0)) x):List Held),ah.row 52 vn (ns:List Note),ah.row 3 vl (ls:List Int),ah.row 74 z2 (m.Things.filter (fun x => !(fun (t:ai) => !decide (t.ID∈(aQ m.ap))) x):List ai),ah.box b3 [v1] 116,ah.row 3 v1 ((aQ m.ap):List Int),ah.box b2 [.slice none 0 0,.slice none 0 0,.slice none 0 0,.slice none 0 0,.int .i64 0,.int .i64 0] 30,ah.box b1 [v5,z2,z4,vn,.int .i64 m.ae,.int .i64 m.af] 30,ah.held w own]) (fun _ hw=>hw.aZ 0 _ rfl rfl) ?_
        refine R.back (j+1,v5,(without ws x2)) rfl (by (exact ⟨by omega,by rw [List.take_add_one,hx2,HW];simp⟩)) (by dsimp only;omega) ⟨rfl,rfl,rfl,rfl,rfl,trivial⟩ (fun _=>Wd.aV [0,1,2,3,4,5,6,7,8] [0,2,3,4,5,6,7,8,9] rfl rfl rfl)
      ·
        refine R.q (q.lss rfl rfl (decide_eq_false (by omega))) rfl<|R.nil ?_
        refine R.aH rfl rfl ?_
        refine R.mp (B':=[ah.row 93 z4 (m.Held.filter (fun x => !(fun (h:Held)=>decide (cb m.ap h.ao<0)) x):List Held),ah.row 52 vn (ns:List Note),ah.row 3 vl (ls:List Int),ah.box b3 [v1] 116,ah.row 3 v1 ((aQ m.ap):List Int),ah.box b2 [.slice none 0 0,.slice none 0 0,.slice none 0 0,.slice none 0 0,.int .i64 0,.int .i64 0] 30,ah.box b1 [vw,z2,z4,vn,.int .i64 m.ae,.int .i64 m.af] 30,ah.held w own]) (fun _ hw=>hw.aZ 3 _ rfl rfl) ?_
        refine R.mp (B':=[ah.row 52 vn (ns:List Note),ah.row 3 vl (ls:List Int),ah.box b3 [v1] 116,ah.row 3 v1 ((aQ m.ap):List Int),ah.box b2 [.slice none 0 0,.slice none 0 0,.slice none 0 0,.slice none 0 0,.int .i64 0,.int .i64 0] 30,ah.box b1 [vw,z2,z4,vn,.int .i64 m.ae,.int .i64 m.af] 30,ah.held w own]) (fun _ hw=>hw.aZ 0 _ rfl rfl) ?_
        refine R.mp (B':=[ah.row 3 vl (ls:List Int),ah.box b3 [v1] 116,ah.row 3 v1 ((aQ m.ap):List Int),ah.box b2 [.slice none 0 0,.slice none 0 0,.slice none 0 0,.slice none 0 0,.int .i64 0,.int .i64 0] 30,ah.box b1 [vw,z2,z4,vn,.int .i64 m.ae,.int .i64 m.af] 30,ah.held w own]) (fun _ hw=>hw.aZ 0 _ rfl rfl) ?_
        refine R.back ((⟨ws,m.Things.filter (fun x => !(fun (t:ai) => !decide (t.ID∈(aQ m.ap))) x),m.Held.filter (fun x => !(fun (h:Held)=>decide (cb m.ap h.ao<0)) x),ns,m.ae,m.af⟩:ay),vw,z2,z4,vn) rfl (by (rw [List.take_of_length_le (by omega)] at HN HL;rw [List.take_of_length_le (by omega)] at HW;have hl:jc m=ls:=HL.symm;have e:gy m=(⟨ws,m.Things.filter (fun t => !!decide (t.ID∈aQ m.ap)),m.Held.filter (fun h => !decide (cb m.ap h.ao<0)),ns,m.ae,m.af⟩:ay):=(by unfold gy;rw [hl,← HW];unfold dY;rw [← HN]);exact Eq.mp (congrArg (fun q:ay=>Ok q∧aP q=aP r) e) ⟨hok.gy,(lx (by rw [hl];assumption)).symm.trans HS⟩)) (by dsimp only;omega) ⟨rfl,rfl,trivial⟩ (fun _=>Wd.aV [3,4,5] [3,2,1,0,8,9,10,11] rfl rfl rfl)
end Go.Proofs.YtpipachmngdegaaGreat
end
