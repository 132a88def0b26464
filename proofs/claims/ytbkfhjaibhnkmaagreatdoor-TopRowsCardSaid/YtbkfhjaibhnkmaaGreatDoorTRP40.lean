import Derived.Test.YtbkfhjaibhnkmaaGreatDoorTRP27
import Derived.Test.YtbkfhjaibhnkmaaGreatDoorTRP39
namespace Go.Proofs.YtbkfhjaibhnkmaaGreatDoor
open Go Go.RowKit
set_option linter.unusedVariables false
set_option linter.unusedSimpArgs false
set_option maxRecDepth 100000
theorem nM (aD az aC aB:Value)(r:au)(w:World)(own:List Nat)(H:Wd w (blks []++own) ([]++[ah.held w own]) [ah.ls aD (r.aj:List ak),ah.ls az (r.Things:List ai),ah.ls aC (r.Held:List Held),ah.ls aB (r.Notes:List Note)] w)(hk:Ok r):Calls Tryz.prog 24 #[.agg #[aD,az,aC,aB,.int .i64 r.ae,.int .i64 r.af]] w fun e w' => ∃z:Value×Value×Value×Value,e = .returned (.agg #[z.1,z.2.1,z.2.2.1,z.2.2.2,.int .i64 (((aI r)).ae),.int .i64 (((aI r)).af)])∧Wd w (blks []++own) ([]++[ah.held w own]) [ah.ls z.1 (((aI r)).aj:List ak),ah.ls z.2.1 (((aI r)).Things:List ai),ah.ls z.2.2.1 (((aI r)).Held:List Held),ah.ls z.2.2.2 (((aI r)).Notes:List Note)] w':=by
  have dF:=H.cL 0 rfl
  have cX:=H.cL 1 rfl
  have ej:=H.cL 2 rfl
  have dG:=H.cL 3 rfl
  have bw:=hk.wl;have bt:=hk.tl;have bh:=hk.hl;have bn:=hk.nl;have wi:=hk.w0;have wj:=hk.w1;have wk:=hk.t0;have wm:=hk.t1
  refine R.cQ (n:=25) (vs:=[.agg #[aD,az,aC,aB,.int .i64 r.ae,.int .i64 r.af]]) (B:=[ah.held w own]) [(0,.agg #[aD,az,aC,aB,.int .i64 r.ae,.int .i64 r.af])] Tryz.func24 rfl rfl rfl rfl H ?_
  refine R.reg rfl<|?_
  refine R.s rfl (s.box (cs:=[aD,az,aC,aB,.int .i64 r.ae,.int .i64 r.af]) rfl rfl rfl) fun b1=>?_
  refine R.s rfl (s.alloc (cs:=[.slice none 0 0,.slice none 0 0,.slice none 0 0,.slice none 0 0,.int .i64 0,.int .i64 0]) cj rfl rfl) fun b2=>?_
  refine R.nil ?_
  refine R.reg rfl<|R.q (q.aX (off':=3) rfl bK rfl) rfl<|R.q (q.ld 1 rfl rfl bX rfl) rfl<|R.q (q.len' (fun _=>Wd.aS 3 rfl) rfl Tryz.underlying30) rfl<|R.u 1 rfl<|R.nil ?_
  refine R.loop (fun g_:Nat×Value×(List ak)=>[(1,.pointer (some ⟨b1,0,none⟩)),(2,.pointer (some ⟨b2,0,none⟩)),(6,aB),(7,.int .i64 (r.Notes.length:Int)),(8,.int .i64 (g_.1:Int))]) (fun g_:Nat×Value×(List ak)=>[ah.box b2 [.slice none 0 0,.slice none 0 0,.slice none 0 0,.slice none 0 0,.int .i64 0,.int .i64 0] 32,ah.box b1 [g_.2.1,az,aC,aB,.int .i64 r.ae,.int .i64 r.af] 32,ah.held w own]) (fun g_:Nat×Value×(List ak)=>[ah.ls g_.2.1 (g_.2.2:List ak),ah.ls aD (r.aj:List ak),ah.ls az (r.Things:List ai),ah.ls aC (r.Held:List Held),ah.ls aB (r.Notes:List Note)]) (fun g_:Nat×Value×(List ak)=>g_.1≤r.Notes.length∧g_.2.2=eF (r.Notes.take g_.1) r.aj) (fun g_:Nat×Value×(List ak)=>r.Notes.length-g_.1) (0,aD,r.aj) rfl (by exact ⟨by omega,rfl⟩) ⟨rfl,rfl,rfl,rfl,rfl,trivial⟩ (fun _=>Wd.pick [0,1,2] [0,0,1,2,3] rfl rfl rfl) ?_
  rintro ⟨j,vw,ws⟩ ⟨hj1,HW⟩
  dsimp only at *
  have hws:ws.length≤2000:=by rw [HW];exact Nat.le_trans (qX _ _) hk.wl
  have hwr:∀w∈ws,0≤w.Rights∧w.Rights≤7:=by rw [HW];exact tC _ _ hk.ri
  have hok:Ok (⟨ws,r.Things,r.Held,[],r.ae,r.af⟩:au):=⟨hws,hk.tl,hk.hl,Nat.zero_le _,hwr,hk.w0,hk.w1,hk.t0,hk.t1⟩
  refine R.reg rfl<|?_
  by_cases h1:j<r.Notes.length
  ·
    refine R.q (q.lss rfl rfl (decide_eq_true (by omega))) rfl<|R.nil ?_
    refine R.aE rfl rfl ?_
    refine R.reg rfl<|?_
    obtain ⟨x1,hx1⟩:∃z,r.Notes[j]? = some z:=⟨_,List.getElem?_eq_getElem (by omega)⟩
    refine R.q (q.idx (i:=j) (fun _=>Wd.aS 4 rfl) rfl rfl dH rfl hx1) rfl<|R.q (q.dY (ds:=[.int .i64 x1.Port,.string x1.Data,.int .i64 x1.ar,.int .i64 x1.ak]) (fun _=>Wd.aS 4 rfl) hx1 rfl bT rfl) rfl<|?_
    refine R.s rfl (s.alloc (cs:=[.int .i64 0,.string (⟨#[]⟩),.int .i64 0,.int .i64 0]) dq rfl rfl) fun b3=>?_
    refine R.s rfl (s.st (us:=[.int .i64 x1.Port,.string x1.Data,.int .i64 x1.ar,.int .i64 x1.ak]) (cs':=[.int .i64 x1.Port,.string x1.Data,.int .i64 x1.ar,.int .i64 x1.ak]) 0 _ rfl rfl rfl rfl (.inl bT) rfl rfl rfl rfl) fun _=>?_
    refine R.nil ?_
    refine R.reg rfl<|R.q (q.aX (off':=3) rfl eP rfl) rfl<|R.q (q.ld 0 rfl rfl aA rfl) rfl<|?_
    by_cases h2:0<x1.ak
    ·
      refine R.q (q.gtr rfl rfl (decide_eq_true (by omega))) rfl<|R.nil ?_
      refine R.aE rfl rfl ?_
      refine R.reg rfl<|R.q (q.aX (off':=0) rfl aY rfl) rfl<|R.q (q.ld 2 rfl rfl bq rfl) rfl<|R.q (q.aX (off':=3) rfl eP rfl) rfl<|R.q (q.ld 0 rfl rfl aA rfl) rfl<|?_
      refine R.s rfl (s.od uC rfl rfl (fun w hw=>jE _ (ws) (x1.ak) w ((fun _=>Wd.aS 0 rfl) w hw) (by first|omega|assumption)) rfl) fun v1=>?_
      refine R.q (q.aX (off':=0) rfl aY rfl) rfl<|?_
      refine R.s rfl (s.eH (us:=[v1]) (cs':=[v1,az,aC,aB,.int .i64 r.ae,.int .i64 r.af]) 3 _ rfl rfl rfl (fun w hw=>Sl.cr ((fun _=>Wd.row 0 rfl) w hw)) (.inr ⟨bq,rfl⟩) (fun w hw=>(ao (Sl.one ((fun _=>Wd.row 0 rfl) w hw)) aO)) rfl rfl rfl) fun _=>?_
      refine R.nil ?_
      refine R.reg rfl<|R.q (q.add (r:=((j+1:Nat):Int)) rfl rfl (wr (by omega))) rfl<|R.u 1 rfl<|R.nil ?_
      refine R.mp (B':=[ah.box b3 [.int .i64 x1.Port,.string x1.Data,.int .i64 x1.ar,.int .i64 x1.ak] 72,ah.box b2 [.slice none 0 0,.slice none 0 0,.slice none 0 0,.slice none 0 0,.int .i64 0,.int .i64 0] 32,ah.box b1 [v1,az,aC,aB,.int .i64 r.ae,.int .i64 r.af] 32,ah.held w own]) (fun _ hw=>hw.dh 0 _ rfl rfl) ?_
      refine R.back (j+1,v1,(without ws x1.ak)) rfl (by (first|exact ⟨by omega,by rw [iZ hx1,if_pos (by omega),HW]⟩ | exact ⟨by omega,by rw [iZ hx1,if_neg (by omega),HW]⟩)) (by dsimp only;omega) ⟨rfl,rfl,rfl,rfl,rfl,trivial⟩ (fun _=>Wd.aK [1,2,3] [0,2,3,4,5] rfl rfl rfl)
    ·
      refine R.q (q.gtr rfl rfl (decide_eq_false (by omega))) rfl<|R.nil ?_
      refine R.aH rfl rfl ?_
      refine R.reg rfl<|R.q (q.add (r:=((j+1:Nat):Int)) rfl rfl (wr (by omega))) rfl<|R.u 1 rfl<|R.nil ?_
      refine R.back (j+1,vw,ws) rfl (by (first|exact ⟨by omega,by rw [iZ hx1,if_pos (by omega),HW]⟩ | exact ⟨by omega,by rw [iZ hx1,if_neg (by omega),HW]⟩)) (by dsimp only;omega) ⟨rfl,rfl,rfl,rfl,rfl,trivial⟩ (fun _=>Wd.aK [1,2,3] [0,1,2,3,4] rfl rfl rfl)
  ·
    refine R.q (q.lss rfl rfl (decide_eq_false (by omega))) rfl<|R.nil ?_
    refine R.aH rfl rfl ?_
    refine R.reg rfl<|R.q (q.aX (off':=3) rfl bK rfl) rfl<|?_
    refine R.s rfl (s.st (us:=[.slice none 0 0]) (cs':=[vw,az,aC,.slice none 0 0,.int .i64 r.ae,.int .i64 r.af]) 1 _ rfl rfl rfl rfl (.inr ⟨bX,rfl⟩) rfl rfl rfl rfl) fun _=>?_
    refine R.nil ?_
    refine R.reg rfl<|R.q (q.cF 1 rfl rfl av) rfl<|?_
    refine R.s (B':=(fun g_:Value×Value×Value×Value=>[ah.box b2 [.slice none 0 0,.slice none 0 0,.slice none 0 0,.slice none 0 0,.int .i64 0,.int .i64 0] 32,ah.box b1 [vw,az,aC,.slice none 0 0,.int .i64 r.ae,.int .i64 r.af] 32,ah.held w own])) (F':=(fun g_:Value×Value×Value×Value=>[ah.ls g_.1 (((a8 (⟨ws,r.Things,r.Held,[],r.ae,r.af⟩:au))).aj:List ak),ah.ls g_.2.1 (((a8 (⟨ws,r.Things,r.Held,[],r.ae,r.af⟩:au))).Things:List ai),ah.ls g_.2.2.1 (((a8 (⟨ws,r.Things,r.Held,[],r.ae,r.af⟩:au))).Held:List Held),ah.ls g_.2.2.2 (((a8 (⟨ws,r.Things,r.Held,[],r.ae,r.af⟩:au))).Notes:List Note),ah.ls (.slice none 0 0) ([]:List Note),ah.ls vw (ws:List ak),ah.ls aD (r.aj:List ak),ah.ls az (r.Things:List ai),ah.ls aC (r.Held:List Held),ah.ls aB (r.Notes:List Note)])) rfl (s.pre (B2:=[ah.box b2 [.slice none 0 0,.slice none 0 0,.slice none 0 0,.slice none 0 0,.int .i64 0,.int .i64 0] 32,ah.box b1 [vw,az,aC,.slice none 0 0,.int .i64 r.ae,.int .i64 r.af] 32,ah.held w own]) (F2:=[ah.ls (.slice none 0 0) ([]:List Note),ah.ls vw (ws:List ak),ah.ls aD (r.aj:List ak),ah.ls az (r.Things:List ai),ah.ls aC (r.Held:List Held),ah.ls aB (r.Notes:List Note)]) (fun _ hw=>hw.aU (α:=Note)) (s.bA (B0:=[]) (Br:=[ah.box b2 [.slice none 0 0,.slice none 0 0,.slice none 0 0,.slice none 0 0,.int .i64 0,.int .i64 0] 32,ah.box b1 [vw,az,aC,.slice none 0 0,.int .i64 r.ae,.int .i64 r.af] 32,ah.held w own]) (F0:=[ah.ls vw (ws:List ak),ah.ls az (r.Things:List ai),ah.ls aC (r.Held:List Held),ah.ls (.slice none 0 0) ([]:List Note)]) [0,1,2] [1,3,4,0] (fun g_:Value×Value×Value×Value => .agg #[g_.1,g_.2.1,g_.2.2.1,g_.2.2.2,.int .i64 (((a8 (⟨ws,r.Things,r.Held,[],r.ae,r.af⟩:au))).ae),.int .i64 (((a8 (⟨ws,r.Things,r.Held,[],r.ae,r.af⟩:au))).af)]) (fun g_:Value×Value×Value×Value=>[]) (fun g_:Value×Value×Value×Value=>[ah.ls g_.1 (((a8 (⟨ws,r.Things,r.Held,[],r.ae,r.af⟩:au))).aj:List ak),ah.ls g_.2.1 (((a8 (⟨ws,r.Things,r.Held,[],r.ae,r.af⟩:au))).Things:List ai),ah.ls g_.2.2.1 (((a8 (⟨ws,r.Things,r.Held,[],r.ae,r.af⟩:au))).Held:List Held),ah.ls g_.2.2.2 (((a8 (⟨ws,r.Things,r.Held,[],r.ae,r.af⟩:au))).Notes:List Note)]) rfl rfl rfl uD rfl rfl (fun w own hw H=>kz vw az aC (.slice none 0 0) ((⟨ws,r.Things,r.Held,[],r.ae,r.af⟩:au)) w own H (by assumption)) rfl)) ?_
    rintro ⟨z1,z2,z3,z4⟩
    dsimp only
    refine R.s rfl (s.eH (us:=[z1,z2,z3,z4,.int .i64 ((a8 (⟨ws,r.Things,r.Held,[],r.ae,r.af⟩:au)).ae),.int .i64 ((a8 (⟨ws,r.Things,r.Held,[],r.ae,r.af⟩:au)).af)]) (cs':=[z1,z2,z3,z4,.int .i64 ((a8 (⟨ws,r.Things,r.Held,[],r.ae,r.af⟩:au)).ae),.int .i64 ((a8 (⟨ws,r.Things,r.Held,[],r.ae,r.af⟩:au)).af)]) 0 _ rfl rfl rfl (fun _ _=>rfl) (.inl av) (fun w hw=>(ao (Sl.one ((fun _=>Wd.aS 0 rfl) w hw)) (ao (Sl.one ((fun _=>Wd.aS 1 rfl) w hw)) (ao (Sl.one ((fun _=>Wd.aS 2 rfl) w hw)) (ao (Sl.one ((fun _=>Wd.aS 3 rfl) w hw)) (ao rfl (ao rfl aO))))))) rfl rfl rfl) fun _=>?_
    refine R.nil ?_
    have hz:aI r=(a8 (⟨ws,r.Things,r.Held,[],r.ae,r.af⟩:au)):=by (unfold aI;rw [HW,List.take_of_length_le (by omega)])
    rw [hz]
    exact R.w1 (z1,z2,z3,z4) [2] [0,1,2,3] rfl Tryz.results24 (RV.cell 0 rfl rfl av) rfl rfl rfl rfl
end Go.Proofs.YtbkfhjaibhnkmaaGreatDoor
