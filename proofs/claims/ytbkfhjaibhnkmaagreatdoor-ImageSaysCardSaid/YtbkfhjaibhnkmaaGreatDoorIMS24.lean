import Derived.Test.YtbkfhjaibhnkmaaGreatDoorIMS23
namespace Go.Proofs.YtbkfhjaibhnkmaaGreatDoor
open Go Go.RowKit
set_option linter.unusedVariables false
set_option linter.unusedSimpArgs false
set_option maxRecDepth 100000
theorem zt (aD az aB aC:Value)(r:ar)(p:Place)(kind:Int)(w:World)(own:List Nat)(H:Wd w (blks []++own) ([]++[ag.held w own]) [ag.ls aD (r.ai:List ak),ag.ls az (r.Things:List ao),ag.ls aB (r.Held:List Held),ag.ls aC (r.Notes:List Note)] w)(hk:Ok r):Calls Tryz.prog 30 #[.agg #[aD,az,aB,aC,iV r.ae,iV r.af],.agg #[iV p.aj,iV p.Slot],iV kind] w fun e w' => ∃z:Value×Value×Value×Value,e = .returned (.tuple #[.agg #[z.1,z.2.1,z.2.2.1,z.2.2.2,iV ((((bT r p kind)).1).ae),iV ((((bT r p kind)).1).af)],fc (((bT r p kind)).2)])∧Wd w (blks []++own) ([]++[ag.held w own]) [ag.ls z.1 ((((bT r p kind)).1).ai:List ak),ag.ls z.2.1 ((((bT r p kind)).1).Things:List ao),ag.ls z.2.2.1 ((((bT r p kind)).1).Held:List Held),ag.ls z.2.2.2 ((((bT r p kind)).1).Notes:List Note)] w':=by
 have cS:=H.ct 0 rfl
 have cy:=H.ct 1 rfl
 have dq:=H.ct 2 rfl
 have cT:=H.ct 3 rfl
 have bw:=hk.wl;have bt:=hk.tl;have bh:=hk.hl;have bn:=hk.nl;have rL:=hk.w0;have rM:=hk.w1;have rN:=hk.t0;have rO:=hk.t1
 refine R.da (n:=63) (vs:=[.agg #[aD,az,aB,aC,iV r.ae,iV r.af],.agg #[iV p.aj,iV p.Slot],iV kind]) (B:=[ag.held w own]) [(0,.agg #[aD,az,aB,aC,iV r.ae,iV r.af]),(1,.agg #[iV p.aj,iV p.Slot]),(2,iV kind)] Tryz.func30 O O O O H ?_
 refine R.reg O<|R.s O (s.box (cs:=[aD,az,aB,aC,iV r.ae,iV r.af]) O O O) fun b1=>R.s O (s.box (cs:=av p) O O O) fun b2=>R.s O (s.alloc (cs:=aG) cp O O) fun b3=>R.u 1 O<|R.nil ?_
 refine R.reg O<|R.u 1 O<|?_
 by_cases h1:kind=1
 ·
  refine R.q (q.neq O O (bne_eq_false_iff_eq.2 (by omega))) O<|R.u 4 O<|R.nil ?_
  refine R.aF O O ?_
  refine R.reg O<|R.q (q.cj 2 O O ap) O<|R.q (q.cj 1 O O aS) O<|R.c (q.call yt O O (fun w hw=>(mY _ _ _ _ (r) (p) w (hw.bq 0 O) (hw.bq 1 O) (hw.bq 2 O) (hw.bq 3 O) ‹_›))) O<|R.u 1 O<|R.nil ?_
  refine R.reg O<|R.u 1 O<|?_
  by_cases h2:d9 r p=0
  ·
   refine R.q (q.gj O O Tryz.underlying35 (by omega)) O<|R.nil ?_
   refine R.aF O O ?_
   refine R.reg O<|R.q (q.aT (off':=1) O bM O) O<|R.q (q.ld 2 O O cq O) O<|R.q (q.len' (bJ 1 O) O Tryz.underlying28) O<|?_
   by_cases h3:r.Things.length=10
   ·
    refine R.q (q.eql O O (beq_iff_eq.2 (by omega))) O<|R.u 10 O<|R.nil ?_
    refine R.aE O O ?_
    refine R.reg O<|R.q (q.build (cs:=aG) cz O O) O<|R.q (q.iface O cL) O<|R.s O (s.st (us:=aG) (cs':=aG) 0 _ O O O O (.inl ap) O O O O) fun _=>R.u 1 O<|R.nil ?_
    refine R.mp (fun _ hw=>hw.aR (α:=ak)) ?_
    refine R.mp (fun _ hw=>hw.aR (α:=ao)) ?_
    refine R.mp (fun _ hw=>hw.aR (α:=Held)) ?_
    refine R.mp (fun _ hw=>hw.aR (α:=Note)) ?_
    have hz:bT r p kind=((⟨[],[],[],[],0,0⟩:ar),9):=by (unfold bT;(repeat' split) <;> first|rfl|(exfalso;omega)|(simp_all;done))
    rw [hz]
    exact R.w2 ((nS),(nS),(nS),(nS)) [3] dj O Tryz.results30 (RV.cell 0 O O ap) (RV.tmp O) O O O (cD O (eP (by decide) O))
   ·
    refine R.q (q.eql O O (beq_eq_false_iff_ne.2 (by omega))) O<|R.u 1 O<|R.qg O (q.aT (off':=5) O cI O) O<|R.qg O (q.ld 2 O O aA O) O<|?_
    by_cases h4:999<r.af
    ·
     refine R.qg O (q.gtr O O (decide_eq_true (by omega))) O<|R.u 6 O<|R.nil ?_
     refine R.aE O O ?_
     refine R.reg O<|R.q (q.build (cs:=aG) cz O O) O<|R.q (q.iface O cL) O<|R.s O (s.st (us:=aG) (cs':=aG) 0 _ O O O O (.inl ap) O O O O) fun _=>R.u 1 O<|R.nil ?_
     refine R.mp (fun _ hw=>hw.aR (α:=ak)) ?_
     refine R.mp (fun _ hw=>hw.aR (α:=ao)) ?_
     refine R.mp (fun _ hw=>hw.aR (α:=Held)) ?_
     refine R.mp (fun _ hw=>hw.aR (α:=Note)) ?_
     have hz:bT r p kind=((⟨[],[],[],[],0,0⟩:ar),9):=by (unfold bT;(repeat' split) <;> first|rfl|(exfalso;omega)|(simp_all;done))
     rw [hz]
     exact R.w2 ((nS),(nS),(nS),(nS)) [3] dj O Tryz.results30 (RV.cell 0 O O ap) (RV.tmp O) O O O (cD O (eP (by decide) O))
    ·
     refine R.qg O (q.gtr O O (decide_eq_false (by omega))) O<|R.u 2 O<|R.qg O (q.aT (off':=4) O bW O) O<|R.qg O (q.ld 2 O O aA O) O<|?_
     by_cases h5:999<r.ae
     ·
      refine R.qg O (q.gtr O O (decide_eq_true (by omega))) O<|R.u 1 O<|R.nil ?_
      refine R.aE O O ?_
      refine R.reg O<|R.q (q.build (cs:=aG) cz O O) O<|R.q (q.iface O cL) O<|R.s O (s.st (us:=aG) (cs':=aG) 0 _ O O O O (.inl ap) O O O O) fun _=>R.u 1 O<|R.nil ?_
      refine R.mp (fun _ hw=>hw.aR (α:=ak)) ?_
      refine R.mp (fun _ hw=>hw.aR (α:=ao)) ?_
      refine R.mp (fun _ hw=>hw.aR (α:=Held)) ?_
      refine R.mp (fun _ hw=>hw.aR (α:=Note)) ?_
      have hz:bT r p kind=((⟨[],[],[],[],0,0⟩:ar),9):=by (unfold bT;(repeat' split) <;> first|rfl|(exfalso;omega)|(simp_all;done))
      rw [hz]
      exact R.w2 ((nS),(nS),(nS),(nS)) [3] dj O Tryz.results30 (RV.cell 0 O O ap) (RV.tmp O) O O O (cD O (eP (by decide) O))
     ·
      refine R.qg O (q.gtr O O (decide_eq_false (by omega))) O<|R.u 1 O<|R.nil ?_
      refine R.aF O O ?_
      refine R.reg O<|R.q (q.aT (off':=5) O cI O) O<|R.q (q.ld 2 O O aA O) O<|R.u 1 O<|R.nil ?_
      refine R.reg O<|R.q (q.aT (off':=1) O bM O) O<|R.q (q.ld 2 O O cq O) O<|R.s (B':=(fun aN:Value=>[ag.row 62 aN r.Things,ag.box b3 aG 32,ag.box b2 (av p) 39,ag.box b1 [aD,az,aB,aC,iV r.ae,iV r.af] 32,ag.held w own])) (F':=(fun aN:Value=>[ag.ls aD r.ai,ag.ls az r.Things,ag.ls aB r.Held,ag.ls aC r.Notes])) O (s.bP (B0:=[]) (Br:=[ag.box b3 aG 32,ag.box b2 (av p) 39,ag.box b1 [aD,az,aB,aC,iV r.ae,iV r.af] 32,ag.held w own]) (F0:=[ag.ls az r.Things]) bm [1] (fun aN:Value=>aN) (fun aN:Value=>[ag.row 62 aN r.Things]) (fun aN:Value=>[]) O O O yu O O (fun w own hw H=>iq az (r.Things) w own H (by omega)) O) fun z1=>R.u 2 O<|R.q (q.build (cs:=[iV r.af,iV kind,.string (⟨#[]⟩)]) u6 O O) O<|R.s O (s.bs (l:=([(⟨r.af,kind,⟨#[]⟩⟩:ao)]:List ao)) ew fw O O O O O O O) fun b4=>R.s O (s.app (l2:=[(⟨r.af,kind,⟨#[]⟩⟩:ao)]) 1 _ O O O (cJ 0 O) iP (by (simp;omega)) (by (simp;omega)) (fun _=>rfl) O) fun v1=>R.q (q.aT (off':=1) O bM O) O<|R.s O (s.dy (us:=[v1]) (cs':=[aD,v1,aB,aC,iV r.ae,iV r.af]) 4 _ O O O (fun w hw=>Sl.cm (hw.row 1 O)) (.inr ⟨cq,rfl⟩) (fun w hw=>(ah (Sl.one (hw.row 1 O)) aL)) O O O) fun _=>R.nil ?_
      refine R.reg O<|R.q (q.aT (off':=5) O cI O) O<|R.q (q.ld 4 O O aA O) O<|R.q (q.add (r:=r.af+1) O O (wr (by omega))) O<|R.q (q.aT (off':=5) O cI O) O<|R.s O (s.st (us:=[iV (r.af+1)]) (cs':=[aD,v1,aB,aC,iV r.ae,iV (r.af+1)]) 4 _ O O O O (.inr ⟨aA,rfl⟩) O O O O) fun _=>R.nil ?_
      refine R.reg O<|R.q (q.cj 4 O O ap) O<|R.q (q.aT (off':=4) O bW O) O<|R.q (q.ld 4 O O aA O) O<|R.u 1 O<|R.q (q.build (cs:=[iV r.ae,iV r.af,iV 7,iV 0,iV 0]) eK O O) O<|R.q (q.cj 3 O O aS) O<|R.s (B':=(fun g_:Value×Value×Value×Value=>[ag.row 62 (.slice (some ⟨b4,0,none⟩) 1 1) ([(⟨r.af,kind,⟨#[]⟩⟩:ao)]:List ao),ag.box b3 aG 32,ag.box b2 (av p) 39,ag.box b1 [aD,v1,aB,aC,iV r.ae,iV (r.af+1)] 32,ag.held w own])) (F':=(fun g_=>[ag.ls g_.1 (((bz (⟨r.ai,(r.Things++([(⟨r.af,kind,⟨#[]⟩⟩:ao)])),r.Held,r.Notes,r.ae,(r.af+1)⟩:ar) (⟨r.ae,r.af,7,0,0⟩:ak) p)).ai:List ak),ag.ls g_.2.1 (((bz (⟨r.ai,(r.Things++([(⟨r.af,kind,⟨#[]⟩⟩:ao)])),r.Held,r.Notes,r.ae,(r.af+1)⟩:ar) (⟨r.ae,r.af,7,0,0⟩:ak) p)).Things:List ao),ag.ls g_.2.2.1 (((bz (⟨r.ai,(r.Things++([(⟨r.af,kind,⟨#[]⟩⟩:ao)])),r.Held,r.Notes,r.ae,(r.af+1)⟩:ar) (⟨r.ae,r.af,7,0,0⟩:ak) p)).Held:List Held),ag.ls g_.2.2.2 (((bz (⟨r.ai,(r.Things++([(⟨r.af,kind,⟨#[]⟩⟩:ao)])),r.Held,r.Notes,r.ae,(r.af+1)⟩:ar) (⟨r.ae,r.af,7,0,0⟩:ak) p)).Notes:List Note),ag.ls v1 ((r.Things++([(⟨r.af,kind,⟨#[]⟩⟩:ao)])):List ao),ag.ls aD r.ai,ag.ls az r.Things,ag.ls aB r.Held,ag.ls aC r.Notes])) O (s.pre (B2:=[ag.row 62 (.slice (some ⟨b4,0,none⟩) 1 1) ([(⟨r.af,kind,⟨#[]⟩⟩:ao)]:List ao),ag.box b3 aG 32,ag.box b2 (av p) 39,ag.box b1 [aD,v1,aB,aC,iV r.ae,iV (r.af+1)] 32,ag.held w own]) (F2:=[ag.ls v1 ((r.Things++([(⟨r.af,kind,⟨#[]⟩⟩:ao)])):List ao),ag.ls aD r.ai,ag.ls az r.Things,ag.ls aB r.Held,ag.ls aC r.Notes]) (fun _ hw=>hw.bH 1 _ O O) (s.bP (B0:=[]) (Br:=[ag.row 62 (.slice (some ⟨b4,0,none⟩) 1 1) ([(⟨r.af,kind,⟨#[]⟩⟩:ao)]:List ao),ag.box b3 aG 32,ag.box b2 (av p) 39,ag.box b1 [aD,v1,aB,aC,iV r.ae,iV (r.af+1)] 32,ag.held w own]) (F0:=[ag.ls aD r.ai,ag.ls v1 ((r.Things++([(⟨r.af,kind,⟨#[]⟩⟩:ao)])):List ao),ag.ls aB r.Held,ag.ls aC r.Notes]) cZ [1,0,3,4] (fun g_:Value×Value×Value×Value => .agg #[g_.1,g_.2.1,g_.2.2.1,g_.2.2.2,iV (((bz (⟨r.ai,(r.Things++([(⟨r.af,kind,⟨#[]⟩⟩:ao)])),r.Held,r.Notes,r.ae,(r.af+1)⟩:ar) (⟨r.ae,r.af,7,0,0⟩:ak) p)).ae),iV (((bz (⟨r.ai,(r.Things++([(⟨r.af,kind,⟨#[]⟩⟩:ao)])),r.Held,r.Notes,r.ae,(r.af+1)⟩:ar) (⟨r.ae,r.af,7,0,0⟩:ak) p)).af)]) (fun g_=>[]) (fun g_=>[ag.ls g_.1 (((bz (⟨r.ai,(r.Things++([(⟨r.af,kind,⟨#[]⟩⟩:ao)])),r.Held,r.Notes,r.ae,(r.af+1)⟩:ar) (⟨r.ae,r.af,7,0,0⟩:ak) p)).ai:List ak),ag.ls g_.2.1 (((bz (⟨r.ai,(r.Things++([(⟨r.af,kind,⟨#[]⟩⟩:ao)])),r.Held,r.Notes,r.ae,(r.af+1)⟩:ar) (⟨r.ae,r.af,7,0,0⟩:ak) p)).Things:List ao),ag.ls g_.2.2.1 (((bz (⟨r.ai,(r.Things++([(⟨r.af,kind,⟨#[]⟩⟩:ao)])),r.Held,r.Notes,r.ae,(r.af+1)⟩:ar) (⟨r.ae,r.af,7,0,0⟩:ak) p)).Held:List Held),ag.ls g_.2.2.2 (((bz (⟨r.ai,(r.Things++([(⟨r.af,kind,⟨#[]⟩⟩:ao)])),r.Held,r.Notes,r.ae,(r.af+1)⟩:ar) (⟨r.ae,r.af,7,0,0⟩:ak) p)).Notes:List Note)]) O O O vd O O (fun w own hw H=>mC aD v1 aB aC ((⟨r.ai,(r.Things++([(⟨r.af,kind,⟨#[]⟩⟩:ao)])),r.Held,r.Notes,r.ae,(r.af+1)⟩:ar)) ((⟨r.ae,r.af,7,0,0⟩:ak)) (p) w own H (by (dsimp only;omega))) O)) ?_
      rintro ⟨z2,z3,z4,z5⟩
      dsimp only
      refine R.s O (s.dy (us:=[z2,z3,z4,z5,iV ((bz (⟨r.ai,(r.Things++([(⟨r.af,kind,⟨#[]⟩⟩:ao)])),r.Held,r.Notes,r.ae,(r.af+1)⟩:ar) (⟨r.ae,r.af,7,0,0⟩:ak) p).ae),iV ((bz (⟨r.ai,(r.Things++([(⟨r.af,kind,⟨#[]⟩⟩:ao)])),r.Held,r.Notes,r.ae,(r.af+1)⟩:ar) (⟨r.ae,r.af,7,0,0⟩:ak) p).af)]) (cs':=[z2,z3,z4,z5,iV ((bz (⟨r.ai,(r.Things++([(⟨r.af,kind,⟨#[]⟩⟩:ao)])),r.Held,r.Notes,r.ae,(r.af+1)⟩:ar) (⟨r.ae,r.af,7,0,0⟩:ak) p).ae),iV ((bz (⟨r.ai,(r.Things++([(⟨r.af,kind,⟨#[]⟩⟩:ao)])),r.Held,r.Notes,r.ae,(r.af+1)⟩:ar) (⟨r.ae,r.af,7,0,0⟩:ak) p).af)]) 1 _ O O O (fun _ _=>rfl) (.inl ap) (fun w hw=>(ah (Sl.one (hw.bq 0 O)) (ah (Sl.one (hw.bq 1 O)) (ah (Sl.one (hw.bq 2 O)) (ah (Sl.one (hw.bq 3 O)) (ah O (ah O aL))))))) O O O) fun _=>R.u 1 O<|R.nil ?_
      have hz:bT r p kind=((bz (⟨r.ai,(r.Things++([(⟨r.af,kind,⟨#[]⟩⟩:ao)])),r.Held,r.Notes,r.ae,(r.af+1)⟩:ar) (⟨r.ae,r.af,7,0,0⟩:ak) p),0):=by (unfold bT;(repeat' split) <;> first|rfl|(exfalso;omega)|(simp_all;done))
      rw [hz]
      exact R.w2 (z2,z3,z4,z5) [4] bm O Tryz.results30 (RV.cell 1 O O ap) (RV.tmp O) O O O (cD O (i6 O))
  ·
   refine R.q (q.gu O O Tryz.underlying35 (by omega)) O<|R.nil ?_
   refine R.aE O O ?_
   refine R.reg O<|R.q (q.build (cs:=aG) cz O O) O<|R.u 1 O<|R.s O (s.st (us:=aG) (cs':=aG) 0 _ O O O O (.inl ap) O O O O) fun _=>R.u 1 O<|R.nil ?_
   refine R.mp (fun _ hw=>hw.aR (α:=ak)) ?_
   refine R.mp (fun _ hw=>hw.aR (α:=ao)) ?_
   refine R.mp (fun _ hw=>hw.aR (α:=Held)) ?_
   refine R.mp (fun _ hw=>hw.aR (α:=Note)) ?_
   have hz:bT r p kind=((⟨[],[],[],[],0,0⟩:ar),d9 r p):=by (unfold bT;(repeat' split) <;> first|rfl|(exfalso;omega)|(simp_all;done))
   rw [hz]
   exact R.w2 ((nS),(nS),(nS),(nS)) [3] dj O Tryz.results30 (RV.cell 0 O O ap) (RV.tmp O) O O O (cD O O)
 ·
  refine R.q (q.neq O O (bne_iff_ne.2 (by omega))) O<|R.u 2 O<|?_
  by_cases h6:kind=2
  ·
   refine R.qg O (q.neq O O (bne_eq_false_iff_eq.2 (by omega))) O<|R.u 1 O<|R.nil ?_
   refine R.aF O O ?_
   refine R.reg O<|R.q (q.cj 2 O O ap) O<|R.q (q.cj 1 O O aS) O<|R.c (q.call yt O O (fun w hw=>(mY _ _ _ _ (r) (p) w (hw.bq 0 O) (hw.bq 1 O) (hw.bq 2 O) (hw.bq 3 O) ‹_›))) O<|R.u 1 O<|R.nil ?_
   refine R.reg O<|R.u 1 O<|?_
   by_cases h7:d9 r p=0
   ·
    refine R.q (q.gj O O Tryz.underlying35 (by omega)) O<|R.nil ?_
    refine R.aF O O ?_
    refine R.reg O<|R.q (q.aT (off':=1) O bM O) O<|R.q (q.ld 2 O O cq O) O<|R.q (q.len' (bJ 1 O) O Tryz.underlying28) O<|?_
    by_cases h8:r.Things.length=10
    ·
     refine R.q (q.eql O O (beq_iff_eq.2 (by omega))) O<|R.u 10 O<|R.nil ?_
     refine R.aE O O ?_
     refine R.reg O<|R.q (q.build (cs:=aG) cz O O) O<|R.q (q.iface O cL) O<|R.s O (s.st (us:=aG) (cs':=aG) 0 _ O O O O (.inl ap) O O O O) fun _=>R.u 1 O<|R.nil ?_
     refine R.mp (fun _ hw=>hw.aR (α:=ak)) ?_
     refine R.mp (fun _ hw=>hw.aR (α:=ao)) ?_
     refine R.mp (fun _ hw=>hw.aR (α:=Held)) ?_
     refine R.mp (fun _ hw=>hw.aR (α:=Note)) ?_
     have hz:bT r p kind=((⟨[],[],[],[],0,0⟩:ar),9):=by (unfold bT;(repeat' split) <;> first|rfl|(exfalso;omega)|(simp_all;done))
     rw [hz]
     exact R.w2 ((nS),(nS),(nS),(nS)) [3] dj O Tryz.results30 (RV.cell 0 O O ap) (RV.tmp O) O O O (cD O (eP (by decide) O))
    ·
     refine R.q (q.eql O O (beq_eq_false_iff_ne.2 (by omega))) O<|R.u 1 O<|R.qg O (q.aT (off':=5) O cI O) O<|R.qg O (q.ld 2 O O aA O) O<|?_
     by_cases h9:999<r.af
     ·
      refine R.qg O (q.gtr O O (decide_eq_true (by omega))) O<|R.u 6 O<|R.nil ?_
      refine R.aE O O ?_
      refine R.reg O<|R.q (q.build (cs:=aG) cz O O) O<|R.q (q.iface O cL) O<|R.s O (s.st (us:=aG) (cs':=aG) 0 _ O O O O (.inl ap) O O O O) fun _=>R.u 1 O<|R.nil ?_
      refine R.mp (fun _ hw=>hw.aR (α:=ak)) ?_
      refine R.mp (fun _ hw=>hw.aR (α:=ao)) ?_
      refine R.mp (fun _ hw=>hw.aR (α:=Held)) ?_
      refine R.mp (fun _ hw=>hw.aR (α:=Note)) ?_
      have hz:bT r p kind=((⟨[],[],[],[],0,0⟩:ar),9):=by (unfold bT;(repeat' split) <;> first|rfl|(exfalso;omega)|(simp_all;done))
      rw [hz]
      exact R.w2 ((nS),(nS),(nS),(nS)) [3] dj O Tryz.results30 (RV.cell 0 O O ap) (RV.tmp O) O O O (cD O (eP (by decide) O))
     ·
      refine R.qg O (q.gtr O O (decide_eq_false (by omega))) O<|R.u 2 O<|R.qg O (q.aT (off':=4) O bW O) O<|R.qg O (q.ld 2 O O aA O) O<|?_
      by_cases h10:999<r.ae
      ·
       refine R.qg O (q.gtr O O (decide_eq_true (by omega))) O<|R.u 1 O<|R.nil ?_
       refine R.aE O O ?_
       refine R.reg O<|R.q (q.build (cs:=aG) cz O O) O<|R.q (q.iface O cL) O<|R.s O (s.st (us:=aG) (cs':=aG) 0 _ O O O O (.inl ap) O O O O) fun _=>R.u 1 O<|R.nil ?_
       refine R.mp (fun _ hw=>hw.aR (α:=ak)) ?_
       refine R.mp (fun _ hw=>hw.aR (α:=ao)) ?_
       refine R.mp (fun _ hw=>hw.aR (α:=Held)) ?_
       refine R.mp (fun _ hw=>hw.aR (α:=Note)) ?_
       have hz:bT r p kind=((⟨[],[],[],[],0,0⟩:ar),9):=by (unfold bT;(repeat' split) <;> first|rfl|(exfalso;omega)|(simp_all;done))
       rw [hz]
       exact R.w2 ((nS),(nS),(nS),(nS)) [3] dj O Tryz.results30 (RV.cell 0 O O ap) (RV.tmp O) O O O (cD O (eP (by decide) O))
      ·
       refine R.qg O (q.gtr O O (decide_eq_false (by omega))) O<|R.u 1 O<|R.nil ?_
       refine R.aF O O ?_
       refine R.reg O<|R.q (q.aT (off':=5) O cI O) O<|R.q (q.ld 2 O O aA O) O<|R.u 1 O<|R.nil ?_
       refine R.reg O<|R.q (q.aT (off':=1) O bM O) O<|R.q (q.ld 2 O O cq O) O<|R.s (B':=(fun aN:Value=>[ag.row 62 aN r.Things,ag.box b3 aG 32,ag.box b2 (av p) 39,ag.box b1 [aD,az,aB,aC,iV r.ae,iV r.af] 32,ag.held w own])) (F':=(fun aN:Value=>[ag.ls aD r.ai,ag.ls az r.Things,ag.ls aB r.Held,ag.ls aC r.Notes])) O (s.bP (B0:=[]) (Br:=[ag.box b3 aG 32,ag.box b2 (av p) 39,ag.box b1 [aD,az,aB,aC,iV r.ae,iV r.af] 32,ag.held w own]) (F0:=[ag.ls az r.Things]) bm [1] (fun aN:Value=>aN) (fun aN:Value=>[ag.row 62 aN r.Things]) (fun aN:Value=>[]) O O O yu O O (fun w own hw H=>iq az (r.Things) w own H (by omega)) O) fun z6=>R.u 2 O<|R.q (q.build (cs:=[iV r.af,iV kind,.string (⟨#[]⟩)]) u6 O O) O<|R.s O (s.bs (l:=([(⟨r.af,kind,⟨#[]⟩⟩:ao)]:List ao)) ew fw O O O O O O O) fun b5=>R.s O (s.app (l2:=[(⟨r.af,kind,⟨#[]⟩⟩:ao)]) 1 _ O O O (cJ 0 O) iP (by (simp;omega)) (by (simp;omega)) (fun _=>rfl) O) fun v2=>R.q (q.aT (off':=1) O bM O) O<|R.s O (s.dy (us:=[v2]) (cs':=[aD,v2,aB,aC,iV r.ae,iV r.af]) 4 _ O O O (fun w hw=>Sl.cm (hw.row 1 O)) (.inr ⟨cq,rfl⟩) (fun w hw=>(ah (Sl.one (hw.row 1 O)) aL)) O O O) fun _=>R.nil ?_
       refine R.reg O<|R.q (q.aT (off':=5) O cI O) O<|R.q (q.ld 4 O O aA O) O<|R.q (q.add (r:=r.af+1) O O (wr (by omega))) O<|R.q (q.aT (off':=5) O cI O) O<|R.s O (s.st (us:=[iV (r.af+1)]) (cs':=[aD,v2,aB,aC,iV r.ae,iV (r.af+1)]) 4 _ O O O O (.inr ⟨aA,rfl⟩) O O O O) fun _=>R.nil ?_
       refine R.reg O<|R.q (q.cj 4 O O ap) O<|R.q (q.aT (off':=4) O bW O) O<|R.q (q.ld 4 O O aA O) O<|R.u 1 O<|R.q (q.build (cs:=[iV r.ae,iV r.af,iV 7,iV 0,iV 0]) eK O O) O<|R.q (q.cj 3 O O aS) O<|R.s (B':=(fun g_:Value×Value×Value×Value=>[ag.row 62 (.slice (some ⟨b5,0,none⟩) 1 1) ([(⟨r.af,kind,⟨#[]⟩⟩:ao)]:List ao),ag.box b3 aG 32,ag.box b2 (av p) 39,ag.box b1 [aD,v2,aB,aC,iV r.ae,iV (r.af+1)] 32,ag.held w own])) (F':=(fun g_=>[ag.ls g_.1 (((bz (⟨r.ai,(r.Things++([(⟨r.af,kind,⟨#[]⟩⟩:ao)])),r.Held,r.Notes,r.ae,(r.af+1)⟩:ar) (⟨r.ae,r.af,7,0,0⟩:ak) p)).ai:List ak),ag.ls g_.2.1 (((bz (⟨r.ai,(r.Things++([(⟨r.af,kind,⟨#[]⟩⟩:ao)])),r.Held,r.Notes,r.ae,(r.af+1)⟩:ar) (⟨r.ae,r.af,7,0,0⟩:ak) p)).Things:List ao),ag.ls g_.2.2.1 (((bz (⟨r.ai,(r.Things++([(⟨r.af,kind,⟨#[]⟩⟩:ao)])),r.Held,r.Notes,r.ae,(r.af+1)⟩:ar) (⟨r.ae,r.af,7,0,0⟩:ak) p)).Held:List Held),ag.ls g_.2.2.2 (((bz (⟨r.ai,(r.Things++([(⟨r.af,kind,⟨#[]⟩⟩:ao)])),r.Held,r.Notes,r.ae,(r.af+1)⟩:ar) (⟨r.ae,r.af,7,0,0⟩:ak) p)).Notes:List Note),ag.ls v2 ((r.Things++([(⟨r.af,kind,⟨#[]⟩⟩:ao)])):List ao),ag.ls aD r.ai,ag.ls az r.Things,ag.ls aB r.Held,ag.ls aC r.Notes])) O (s.pre (B2:=[ag.row 62 (.slice (some ⟨b5,0,none⟩) 1 1) ([(⟨r.af,kind,⟨#[]⟩⟩:ao)]:List ao),ag.box b3 aG 32,ag.box b2 (av p) 39,ag.box b1 [aD,v2,aB,aC,iV r.ae,iV (r.af+1)] 32,ag.held w own]) (F2:=[ag.ls v2 ((r.Things++([(⟨r.af,kind,⟨#[]⟩⟩:ao)])):List ao),ag.ls aD r.ai,ag.ls az r.Things,ag.ls aB r.Held,ag.ls aC r.Notes]) (fun _ hw=>hw.bH 1 _ O O) (s.bP (B0:=[]) (Br:=[ag.row 62 (.slice (some ⟨b5,0,none⟩) 1 1) ([(⟨r.af,kind,⟨#[]⟩⟩:ao)]:List ao),ag.box b3 aG 32,ag.box b2 (av p) 39,ag.box b1 [aD,v2,aB,aC,iV r.ae,iV (r.af+1)] 32,ag.held w own]) (F0:=[ag.ls aD r.ai,ag.ls v2 ((r.Things++([(⟨r.af,kind,⟨#[]⟩⟩:ao)])):List ao),ag.ls aB r.Held,ag.ls aC r.Notes]) cZ [1,0,3,4] (fun g_:Value×Value×Value×Value => .agg #[g_.1,g_.2.1,g_.2.2.1,g_.2.2.2,iV (((bz (⟨r.ai,(r.Things++([(⟨r.af,kind,⟨#[]⟩⟩:ao)])),r.Held,r.Notes,r.ae,(r.af+1)⟩:ar) (⟨r.ae,r.af,7,0,0⟩:ak) p)).ae),iV (((bz (⟨r.ai,(r.Things++([(⟨r.af,kind,⟨#[]⟩⟩:ao)])),r.Held,r.Notes,r.ae,(r.af+1)⟩:ar) (⟨r.ae,r.af,7,0,0⟩:ak) p)).af)]) (fun g_=>[]) (fun g_=>[ag.ls g_.1 (((bz (⟨r.ai,(r.Things++([(⟨r.af,kind,⟨#[]⟩⟩:ao)])),r.Held,r.Notes,r.ae,(r.af+1)⟩:ar) (⟨r.ae,r.af,7,0,0⟩:ak) p)).ai:List ak),ag.ls g_.2.1 (((bz (⟨r.ai,(r.Things++([(⟨r.af,kind,⟨#[]⟩⟩:ao)])),r.Held,r.Notes,r.ae,(r.af+1)⟩:ar) (⟨r.ae,r.af,7,0,0⟩:ak) p)).Things:List ao),ag.ls g_.2.2.1 (((bz (⟨r.ai,(r.Things++([(⟨r.af,kind,⟨#[]⟩⟩:ao)])),r.Held,r.Notes,r.ae,(r.af+1)⟩:ar) (⟨r.ae,r.af,7,0,0⟩:ak) p)).Held:List Held),ag.ls g_.2.2.2 (((bz (⟨r.ai,(r.Things++([(⟨r.af,kind,⟨#[]⟩⟩:ao)])),r.Held,r.Notes,r.ae,(r.af+1)⟩:ar) (⟨r.ae,r.af,7,0,0⟩:ak) p)).Notes:List Note)]) O O O vd O O (fun w own hw H=>mC aD v2 aB aC ((⟨r.ai,(r.Things++([(⟨r.af,kind,⟨#[]⟩⟩:ao)])),r.Held,r.Notes,r.ae,(r.af+1)⟩:ar)) ((⟨r.ae,r.af,7,0,0⟩:ak)) (p) w own H (by (dsimp only;omega))) O)) ?_
       rintro ⟨z7,z8,z9,jZ⟩
       dsimp only
       refine R.s O (s.dy (us:=[z7,z8,z9,jZ,iV ((bz (⟨r.ai,(r.Things++([(⟨r.af,kind,⟨#[]⟩⟩:ao)])),r.Held,r.Notes,r.ae,(r.af+1)⟩:ar) (⟨r.ae,r.af,7,0,0⟩:ak) p).ae),iV ((bz (⟨r.ai,(r.Things++([(⟨r.af,kind,⟨#[]⟩⟩:ao)])),r.Held,r.Notes,r.ae,(r.af+1)⟩:ar) (⟨r.ae,r.af,7,0,0⟩:ak) p).af)]) (cs':=[z7,z8,z9,jZ,iV ((bz (⟨r.ai,(r.Things++([(⟨r.af,kind,⟨#[]⟩⟩:ao)])),r.Held,r.Notes,r.ae,(r.af+1)⟩:ar) (⟨r.ae,r.af,7,0,0⟩:ak) p).ae),iV ((bz (⟨r.ai,(r.Things++([(⟨r.af,kind,⟨#[]⟩⟩:ao)])),r.Held,r.Notes,r.ae,(r.af+1)⟩:ar) (⟨r.ae,r.af,7,0,0⟩:ak) p).af)]) 1 _ O O O (fun _ _=>rfl) (.inl ap) (fun w hw=>(ah (Sl.one (hw.bq 0 O)) (ah (Sl.one (hw.bq 1 O)) (ah (Sl.one (hw.bq 2 O)) (ah (Sl.one (hw.bq 3 O)) (ah O (ah O aL))))))) O O O) fun _=>R.u 1 O<|R.nil ?_
       have hz:bT r p kind=((bz (⟨r.ai,(r.Things++([(⟨r.af,kind,⟨#[]⟩⟩:ao)])),r.Held,r.Notes,r.ae,(r.af+1)⟩:ar) (⟨r.ae,r.af,7,0,0⟩:ak) p),0):=by (unfold bT;(repeat' split) <;> first|rfl|(exfalso;omega)|(simp_all;done))
       rw [hz]
       exact R.w2 (z7,z8,z9,jZ) [4] bm O Tryz.results30 (RV.cell 1 O O ap) (RV.tmp O) O O O (cD O (i6 O))
   ·
    refine R.q (q.gu O O Tryz.underlying35 (by omega)) O<|R.nil ?_
    refine R.aE O O ?_
    refine R.reg O<|R.q (q.build (cs:=aG) cz O O) O<|R.u 1 O<|R.s O (s.st (us:=aG) (cs':=aG) 0 _ O O O O (.inl ap) O O O O) fun _=>R.u 1 O<|R.nil ?_
    refine R.mp (fun _ hw=>hw.aR (α:=ak)) ?_
    refine R.mp (fun _ hw=>hw.aR (α:=ao)) ?_
    refine R.mp (fun _ hw=>hw.aR (α:=Held)) ?_
    refine R.mp (fun _ hw=>hw.aR (α:=Note)) ?_
    have hz:bT r p kind=((⟨[],[],[],[],0,0⟩:ar),d9 r p):=by (unfold bT;(repeat' split) <;> first|rfl|(exfalso;omega)|(simp_all;done))
    rw [hz]
    exact R.w2 ((nS),(nS),(nS),(nS)) [3] dj O Tryz.results30 (RV.cell 0 O O ap) (RV.tmp O) O O O (cD O O)
  ·
   refine R.qg O (q.neq O O (bne_iff_ne.2 (by omega))) O<|R.u 1 O<|R.nil ?_
   refine R.aE O O ?_
   refine R.reg O<|R.q (q.build (cs:=aG) cz O O) O<|R.q (q.iface O cL) O<|R.s O (s.st (us:=aG) (cs':=aG) 0 _ O O O O (.inl ap) O O O O) fun _=>R.u 1 O<|R.nil ?_
   refine R.mp (fun _ hw=>hw.aR (α:=ak)) ?_
   refine R.mp (fun _ hw=>hw.aR (α:=ao)) ?_
   refine R.mp (fun _ hw=>hw.aR (α:=Held)) ?_
   refine R.mp (fun _ hw=>hw.aR (α:=Note)) ?_
   have hz:bT r p kind=((⟨[],[],[],[],0,0⟩:ar),8):=by (unfold bT;(repeat' split) <;> first|rfl|(exfalso;omega)|(simp_all;done))
   rw [hz]
   exact R.w2 ((nS),(nS),(nS),(nS)) [3] dj O Tryz.results30 (RV.cell 0 O O ap) (RV.tmp O) O O O (cD O (eP (by decide) O))
theorem zu (aD az aB aC:Value)(r:ar)(p:Place)(t:Place)(rights:Int)(aJ:Int)(w:World)(own:List Nat)(H:Wd w (blks []++own) ([]++[ag.held w own]) [ag.ls aD (r.ai:List ak),ag.ls az (r.Things:List ao),ag.ls aB (r.Held:List Held),ag.ls aC (r.Notes:List Note)] w)(hk:Ok r):Calls Tryz.prog 31 #[.agg #[aD,az,aB,aC,iV r.ae,iV r.af],.agg #[iV p.aj,iV p.Slot],.agg #[iV t.aj,iV t.Slot],iV rights,iV aJ] w fun e w' => ∃z:Value×Value×Value×Value,e = .returned (.tuple #[.agg #[z.1,z.2.1,z.2.2.1,z.2.2.2,iV ((((cb r p t rights aJ)).1).ae),iV ((((cb r p t rights aJ)).1).af)],fc (((cb r p t rights aJ)).2)])∧Wd w (blks []++own) ([]++[ag.held w own]) [ag.ls z.1 ((((cb r p t rights aJ)).1).ai:List ak),ag.ls z.2.1 ((((cb r p t rights aJ)).1).Things:List ao),ag.ls z.2.2.1 ((((cb r p t rights aJ)).1).Held:List Held),ag.ls z.2.2.2 ((((cb r p t rights aJ)).1).Notes:List Note)] w':=by
 have cS:=H.ct 0 rfl
 have cy:=H.ct 1 rfl
 have dq:=H.ct 2 rfl
 have cT:=H.ct 3 rfl
 have bw:=hk.wl;have bt:=hk.tl;have bh:=hk.hl;have bn:=hk.nl;have rL:=hk.w0;have rM:=hk.w1;have rN:=hk.t0;have rO:=hk.t1
 refine R.da (n:=67) (vs:=[.agg #[aD,az,aB,aC,iV r.ae,iV r.af],.agg #[iV p.aj,iV p.Slot],.agg #[iV t.aj,iV t.Slot],iV rights,iV aJ]) (B:=[ag.held w own]) [(0,.agg #[aD,az,aB,aC,iV r.ae,iV r.af]),(1,.agg #[iV p.aj,iV p.Slot]),(2,.agg #[iV t.aj,iV t.Slot]),(3,iV rights),(4,iV aJ)] Tryz.func31 O O O O H ?_
 refine R.reg O<|R.s O (s.box (cs:=[aD,az,aB,aC,iV r.ae,iV r.af]) O O O) fun b1=>R.s O (s.box (cs:=av p) O O O) fun b2=>R.s O (s.box (cs:=av t) O O O) fun b3=>R.s O (s.alloc (cs:=aG) cp O O) fun b4=>R.u 1 O<|R.nil ?_
 refine R.reg O<|R.q (q.cj 3 O O ap) O<|R.q (q.cj 2 O O aS) O<|R.c (q.call sT O O (fun w hw=>(mX _ _ _ _ (r) (p) w (hw.bq 0 O) (hw.bq 1 O) (hw.bq 2 O) (hw.bq 3 O) ‹_›))) O<|R.u 3 O<|R.s O (s.alloc (cs:=cC) bF O O) fun b5=>R.s O (s.st (us:=ay ((au r p).1)) (cs':=ay ((au r p).1)) 0 _ O O O O (.inl aP) O O O O) fun _=>R.u 1 O<|R.nil ?_
 refine R.reg O<|R.u 1 O<|?_
 by_cases h1:(au r p).2=0
 ·
  have Jk:=hk.get h1
  refine R.q (q.gj O O Tryz.underlying35 (by omega)) O<|R.nil ?_
  refine R.aF O O ?_
  refine R.reg O<|R.q (q.cj 4 O O ap) O<|R.q (q.cj 2 O O aS) O<|R.c (q.call yt O O (fun w hw=>(mY _ _ _ _ (r) (t) w (hw.bq 0 O) (hw.bq 1 O) (hw.bq 2 O) (hw.bq 3 O) ‹_›))) O<|R.u 1 O<|R.nil ?_
  refine R.reg O<|R.u 1 O<|?_
  by_cases h2:d9 r t=0
  ·
   refine R.q (q.gj O O Tryz.underlying35 (by omega)) O<|R.nil ?_
   refine R.aF O O ?_
   refine R.reg O<|R.q (q.aT (off':=0) O cF O) O<|R.q (q.ld 3 O O aA O) O<|R.q (q.aT (off':=0) O cF O) O<|R.q (q.ld 2 O O aA O) O<|?_
   by_cases h3:p.aj=t.aj
   ·
    refine R.q (q.neq O O (bne_eq_false_iff_eq.2 (by omega))) O<|R.u 6 O<|R.nil ?_
    refine R.aF O O ?_
    refine R.reg O<|R.q (q.aT (off':=4) O bW O) O<|R.q (q.ld 4 O O aA O) O<|?_
    by_cases h4:999<r.ae
    ·
     refine R.q (q.gtr O O (decide_eq_true (by omega))) O<|R.nil ?_
     refine R.aE O O ?_
     refine R.reg O<|R.q (q.build (cs:=aG) cz O O) O<|R.q (q.iface O cL) O<|R.s O (s.st (us:=aG) (cs':=aG) 1 _ O O O O (.inl ap) O O O O) fun _=>R.u 1 O<|R.nil ?_
     refine R.mp (fun _ hw=>hw.aR (α:=ak)) ?_
     refine R.mp (fun _ hw=>hw.aR (α:=ao)) ?_
     refine R.mp (fun _ hw=>hw.aR (α:=Held)) ?_
     refine R.mp (fun _ hw=>hw.aR (α:=Note)) ?_
     have hz:cb r p t rights aJ=((⟨[],[],[],[],0,0⟩:ar),9):=by (unfold cb;(repeat' split) <;> first|rfl|(exfalso;omega)|(simp_all;done))
     rw [hz]
     exact R.w2 ((nS),(nS),(nS),(nS)) [5] dj O Tryz.results31 (RV.cell 1 O O ap) (RV.tmp O) O O O (cD O (eP (by decide) O))
    ·
     refine R.q (q.gtr O O (decide_eq_false (by omega))) O<|R.nil ?_
     refine R.aF O O ?_
     refine R.reg O<|R.q (q.cj 0 O O aP) O<|R.q (q.aT (off':=4) O bW O) O<|R.q (q.ld 4 O O aA O) O<|R.u 2 O<|R.c (q.call u7 O O (fun w hw=>(jI (((au r p).1)) (r.ae) (rights) (aJ) w  (by omega)))) O<|R.u 3 O<|R.s O (s.alloc (cs:=cC) bF O O) fun b6=>R.s O (s.st (us:=ay ((derived ((au r p).1) r.ae rights aJ).1)) (cs':=ay ((derived ((au r p).1) r.ae rights aJ).1)) 0 _ O O O O (.inl aP) O O O O) fun _=>R.u 1 O<|R.nil ?_
     refine R.reg O<|R.u 1 O<|?_
     by_cases h5:(derived ((au r p).1) r.ae rights aJ).2=0
     ·
      refine R.q (q.gj O O Tryz.underlying35 (by omega)) O<|R.nil ?_
      refine R.aF O O ?_
      refine R.reg O<|R.q (q.cj 5 O O ap) O<|R.q (q.cj 0 O O aP) O<|R.q (q.cj 3 O O aS) O<|R.s (B':=(fun g_:Value×Value×Value×Value=>[ag.box b6 (ay ((derived ((au r p).1) r.ae rights aJ).1)) 88,ag.box b5 (ay ((au r p).1)) 88,ag.box b4 aG 32,ag.box b3 (av t) 39,ag.box b2 (av p) 39,ag.box b1 [aD,az,aB,aC,iV r.ae,iV r.af] 32,ag.held w own])) (F':=(fun g_=>[ag.ls g_.1 ((bz r ((derived ((au r p).1) r.ae rights aJ).1) t)).ai,ag.ls g_.2.1 ((bz r ((derived ((au r p).1) r.ae rights aJ).1) t)).Things,ag.ls g_.2.2.1 ((bz r ((derived ((au r p).1) r.ae rights aJ).1) t)).Held,ag.ls g_.2.2.2 ((bz r ((derived ((au r p).1) r.ae rights aJ).1) t)).Notes,ag.ls aD r.ai,ag.ls az r.Things,ag.ls aB r.Held,ag.ls aC r.Notes])) O (s.bP (B0:=[]) (Br:=[ag.box b6 (ay ((derived ((au r p).1) r.ae rights aJ).1)) 88,ag.box b5 (ay ((au r p).1)) 88,ag.box b4 aG 32,ag.box b3 (av t) 39,ag.box b2 (av p) 39,ag.box b1 [aD,az,aB,aC,iV r.ae,iV r.af] 32,ag.held w own]) (F0:=[ag.ls aD r.ai,ag.ls az r.Things,ag.ls aB r.Held,ag.ls aC r.Notes]) gW bm (fun g_:Value×Value×Value×Value => .agg #[g_.1,g_.2.1,g_.2.2.1,g_.2.2.2,iV (((bz r ((derived ((au r p).1) r.ae rights aJ).1) t)).ae),iV (((bz r ((derived ((au r p).1) r.ae rights aJ).1) t)).af)]) (fun g_=>[]) (fun g_=>[ag.ls g_.1 ((bz r ((derived ((au r p).1) r.ae rights aJ).1) t)).ai,ag.ls g_.2.1 ((bz r ((derived ((au r p).1) r.ae rights aJ).1) t)).Things,ag.ls g_.2.2.1 ((bz r ((derived ((au r p).1) r.ae rights aJ).1) t)).Held,ag.ls g_.2.2.2 ((bz r ((derived ((au r p).1) r.ae rights aJ).1) t)).Notes]) O O O vd O O (fun w own hw H=>mC aD az aB aC (r) (((derived ((au r p).1) r.ae rights aJ).1)) (t) w own H (by omega)) O) ?_
      rintro ⟨z1,z2,z3,z4⟩
      dsimp only
      refine R.s O (s.dy (us:=[z1,z2,z3,z4,iV ((bz r ((derived ((au r p).1) r.ae rights aJ).1) t).ae),iV ((bz r ((derived ((au r p).1) r.ae rights aJ).1) t).af)]) (cs':=[z1,z2,z3,z4,iV ((bz r ((derived ((au r p).1) r.ae rights aJ).1) t).ae),iV ((bz r ((derived ((au r p).1) r.ae rights aJ).1) t).af)]) 2 _ O O O (fun _ _=>rfl) (.inl ap) (fun w hw=>(ah (Sl.one (hw.bq 0 O)) (ah (Sl.one (hw.bq 1 O)) (ah (Sl.one (hw.bq 2 O)) (ah (Sl.one (hw.bq 3 O)) (ah O (ah O aL))))))) O O O) fun _=>R.u 1 O<|R.nil ?_
      have hz:cb r p t rights aJ=((bz r ((derived ((au r p).1) r.ae rights aJ).1) t),0):=by (unfold cb;(repeat' split) <;> first|rfl|(exfalso;omega)|(simp_all;done))
      rw [hz]
      exact R.w2 (z1,z2,z3,z4) [6] bm O Tryz.results31 (RV.cell 2 O O ap) (RV.tmp O) O O O (cD O (i6 O))
     ·
      refine R.q (q.gu O O Tryz.underlying35 (by omega)) O<|R.nil ?_
      refine R.aE O O ?_
      refine R.reg O<|R.q (q.build (cs:=aG) cz O O) O<|R.u 1 O<|R.s O (s.st (us:=aG) (cs':=aG) 2 _ O O O O (.inl ap) O O O O) fun _=>R.u 1 O<|R.nil ?_
      refine R.mp (fun _ hw=>hw.aR (α:=ak)) ?_
      refine R.mp (fun _ hw=>hw.aR (α:=ao)) ?_
      refine R.mp (fun _ hw=>hw.aR (α:=Held)) ?_
      refine R.mp (fun _ hw=>hw.aR (α:=Note)) ?_
      have hz:cb r p t rights aJ=((⟨[],[],[],[],0,0⟩:ar),(derived ((au r p).1) r.ae rights aJ).2):=by (unfold cb;(repeat' split) <;> first|rfl|(exfalso;omega)|(simp_all;done))
      rw [hz]
      exact R.w2 ((nS),(nS),(nS),(nS)) [6] dj O Tryz.results31 (RV.cell 2 O O ap) (RV.tmp O) O O O (cD O O)
   ·
    refine R.q (q.neq O O (bne_iff_ne.2 (by omega))) O<|R.u 1 O<|R.qg O (q.aT (off':=2) O fj O) O<|R.qg O (q.ld 0 O O aA O) O<|?_
    rcases Bool.eq_false_or_eq_true (fF (((au r p).1).Rights) 4) with h6|h6
    ·
     refine R.cg O (q.call pP O O (fun w hw=>(cv (congrArg Value.bool h6) (fA (((au r p).1).Rights) (4) w  (by omega) (by omega))))) O<|R.u 2 O<|R.nil ?_
     refine R.aF O O ?_
     refine R.reg O<|R.q (q.aT (off':=4) O bW O) O<|R.q (q.ld 4 O O aA O) O<|?_
     by_cases h7:999<r.ae
     ·
      refine R.q (q.gtr O O (decide_eq_true (by omega))) O<|R.nil ?_
      refine R.aE O O ?_
      refine R.reg O<|R.q (q.build (cs:=aG) cz O O) O<|R.q (q.iface O cL) O<|R.s O (s.st (us:=aG) (cs':=aG) 1 _ O O O O (.inl ap) O O O O) fun _=>R.u 1 O<|R.nil ?_
      refine R.mp (fun _ hw=>hw.aR (α:=ak)) ?_
      refine R.mp (fun _ hw=>hw.aR (α:=ao)) ?_
      refine R.mp (fun _ hw=>hw.aR (α:=Held)) ?_
      refine R.mp (fun _ hw=>hw.aR (α:=Note)) ?_
      have hz:cb r p t rights aJ=((⟨[],[],[],[],0,0⟩:ar),9):=by (unfold cb;(repeat' split) <;> first|rfl|(exfalso;omega)|(simp_all;done))
      rw [hz]
      exact R.w2 ((nS),(nS),(nS),(nS)) [5] dj O Tryz.results31 (RV.cell 1 O O ap) (RV.tmp O) O O O (cD O (eP (by decide) O))
     ·
      refine R.q (q.gtr O O (decide_eq_false (by omega))) O<|R.nil ?_
      refine R.aF O O ?_
      refine R.reg O<|R.q (q.cj 0 O O aP) O<|R.q (q.aT (off':=4) O bW O) O<|R.q (q.ld 4 O O aA O) O<|R.u 2 O<|R.c (q.call u7 O O (fun w hw=>(jI (((au r p).1)) (r.ae) (rights) (aJ) w  (by omega)))) O<|R.u 3 O<|R.s O (s.alloc (cs:=cC) bF O O) fun b7=>R.s O (s.st (us:=ay ((derived ((au r p).1) r.ae rights aJ).1)) (cs':=ay ((derived ((au r p).1) r.ae rights aJ).1)) 0 _ O O O O (.inl aP) O O O O) fun _=>R.u 1 O<|R.nil ?_
      refine R.reg O<|R.u 1 O<|?_
      by_cases h8:(derived ((au r p).1) r.ae rights aJ).2=0
      ·
       refine R.q (q.gj O O Tryz.underlying35 (by omega)) O<|R.nil ?_
       refine R.aF O O ?_
       refine R.reg O<|R.q (q.cj 5 O O ap) O<|R.q (q.cj 0 O O aP) O<|R.q (q.cj 3 O O aS) O<|R.s (B':=(fun g_:Value×Value×Value×Value=>[ag.box b7 (ay ((derived ((au r p).1) r.ae rights aJ).1)) 88,ag.box b5 (ay ((au r p).1)) 88,ag.box b4 aG 32,ag.box b3 (av t) 39,ag.box b2 (av p) 39,ag.box b1 [aD,az,aB,aC,iV r.ae,iV r.af] 32,ag.held w own])) (F':=(fun g_=>[ag.ls g_.1 ((bz r ((derived ((au r p).1) r.ae rights aJ).1) t)).ai,ag.ls g_.2.1 ((bz r ((derived ((au r p).1) r.ae rights aJ).1) t)).Things,ag.ls g_.2.2.1 ((bz r ((derived ((au r p).1) r.ae rights aJ).1) t)).Held,ag.ls g_.2.2.2 ((bz r ((derived ((au r p).1) r.ae rights aJ).1) t)).Notes,ag.ls aD r.ai,ag.ls az r.Things,ag.ls aB r.Held,ag.ls aC r.Notes])) O (s.bP (B0:=[]) (Br:=[ag.box b7 (ay ((derived ((au r p).1) r.ae rights aJ).1)) 88,ag.box b5 (ay ((au r p).1)) 88,ag.box b4 aG 32,ag.box b3 (av t) 39,ag.box b2 (av p) 39,ag.box b1 [aD,az,aB,aC,iV r.ae,iV r.af] 32,ag.held w own]) (F0:=[ag.ls aD r.ai,ag.ls az r.Things,ag.ls aB r.Held,ag.ls aC r.Notes]) gW bm (fun g_:Value×Value×Value×Value => .agg #[g_.1,g_.2.1,g_.2.2.1,g_.2.2.2,iV (((bz r ((derived ((au r p).1) r.ae rights aJ).1) t)).ae),iV (((bz r ((derived ((au r p).1) r.ae rights aJ).1) t)).af)]) (fun g_=>[]) (fun g_=>[ag.ls g_.1 ((bz r ((derived ((au r p).1) r.ae rights aJ).1) t)).ai,ag.ls g_.2.1 ((bz r ((derived ((au r p).1) r.ae rights aJ).1) t)).Things,ag.ls g_.2.2.1 ((bz r ((derived ((au r p).1) r.ae rights aJ).1) t)).Held,ag.ls g_.2.2.2 ((bz r ((derived ((au r p).1) r.ae rights aJ).1) t)).Notes]) O O O vd O O (fun w own hw H=>mC aD az aB aC (r) (((derived ((au r p).1) r.ae rights aJ).1)) (t) w own H (by omega)) O) ?_
       rintro ⟨z5,z6,z7,z8⟩
       dsimp only
       refine R.s O (s.dy (us:=[z5,z6,z7,z8,iV ((bz r ((derived ((au r p).1) r.ae rights aJ).1) t).ae),iV ((bz r ((derived ((au r p).1) r.ae rights aJ).1) t).af)]) (cs':=[z5,z6,z7,z8,iV ((bz r ((derived ((au r p).1) r.ae rights aJ).1) t).ae),iV ((bz r ((derived ((au r p).1) r.ae rights aJ).1) t).af)]) 2 _ O O O (fun _ _=>rfl) (.inl ap) (fun w hw=>(ah (Sl.one (hw.bq 0 O)) (ah (Sl.one (hw.bq 1 O)) (ah (Sl.one (hw.bq 2 O)) (ah (Sl.one (hw.bq 3 O)) (ah O (ah O aL))))))) O O O) fun _=>R.u 1 O<|R.nil ?_
       have hz:cb r p t rights aJ=((bz r ((derived ((au r p).1) r.ae rights aJ).1) t),0):=by (unfold cb;(repeat' split) <;> first|rfl|(exfalso;omega)|(simp_all;done))
       rw [hz]
       exact R.w2 (z5,z6,z7,z8) [6] bm O Tryz.results31 (RV.cell 2 O O ap) (RV.tmp O) O O O (cD O (i6 O))
      ·
       refine R.q (q.gu O O Tryz.underlying35 (by omega)) O<|R.nil ?_
       refine R.aE O O ?_
       refine R.reg O<|R.q (q.build (cs:=aG) cz O O) O<|R.u 1 O<|R.s O (s.st (us:=aG) (cs':=aG) 2 _ O O O O (.inl ap) O O O O) fun _=>R.u 1 O<|R.nil ?_
       refine R.mp (fun _ hw=>hw.aR (α:=ak)) ?_
       refine R.mp (fun _ hw=>hw.aR (α:=ao)) ?_
       refine R.mp (fun _ hw=>hw.aR (α:=Held)) ?_
       refine R.mp (fun _ hw=>hw.aR (α:=Note)) ?_
       have hz:cb r p t rights aJ=((⟨[],[],[],[],0,0⟩:ar),(derived ((au r p).1) r.ae rights aJ).2):=by (unfold cb;(repeat' split) <;> first|rfl|(exfalso;omega)|(simp_all;done))
       rw [hz]
       exact R.w2 ((nS),(nS),(nS),(nS)) [6] dj O Tryz.results31 (RV.cell 2 O O ap) (RV.tmp O) O O O (cD O O)
    ·
     refine R.cg O (q.call pP O O (fun w hw=>(cv (congrArg Value.bool h6) (fA (((au r p).1).Rights) (4) w  (by omega) (by omega))))) O<|R.u 2 O<|R.nil ?_
     refine R.aE O O ?_
     refine R.reg O<|R.q (q.build (cs:=aG) cz O O) O<|R.q (q.iface O cL) O<|R.s O (s.st (us:=aG) (cs':=aG) 1 _ O O O O (.inl ap) O O O O) fun _=>R.u 1 O<|R.nil ?_
     refine R.mp (fun _ hw=>hw.aR (α:=ak)) ?_
     refine R.mp (fun _ hw=>hw.aR (α:=ao)) ?_
     refine R.mp (fun _ hw=>hw.aR (α:=Held)) ?_
     refine R.mp (fun _ hw=>hw.aR (α:=Note)) ?_
     have hz:cb r p t rights aJ=((⟨[],[],[],[],0,0⟩:ar),7):=by (unfold cb;(repeat' split) <;> first|rfl|(exfalso;omega)|(simp_all;done))
     rw [hz]
     exact R.w2 ((nS),(nS),(nS),(nS)) [5] dj O Tryz.results31 (RV.cell 1 O O ap) (RV.tmp O) O O O (cD O (eP (by decide) O))
  ·
   refine R.q (q.gu O O Tryz.underlying35 (by omega)) O<|R.nil ?_
   refine R.aE O O ?_
   refine R.reg O<|R.q (q.build (cs:=aG) cz O O) O<|R.u 1 O<|R.s O (s.st (us:=aG) (cs':=aG) 1 _ O O O O (.inl ap) O O O O) fun _=>R.u 1 O<|R.nil ?_
   refine R.mp (fun _ hw=>hw.aR (α:=ak)) ?_
   refine R.mp (fun _ hw=>hw.aR (α:=ao)) ?_
   refine R.mp (fun _ hw=>hw.aR (α:=Held)) ?_
   refine R.mp (fun _ hw=>hw.aR (α:=Note)) ?_
   have hz:cb r p t rights aJ=((⟨[],[],[],[],0,0⟩:ar),d9 r t):=by (unfold cb;(repeat' split) <;> rfl)
   rw [hz]
   exact R.w2 ((nS),(nS),(nS),(nS)) [5] dj O Tryz.results31 (RV.cell 1 O O ap) (RV.tmp O) O O O (cD O O)
 ·
  refine R.q (q.gu O O Tryz.underlying35 (by omega)) O<|R.nil ?_
  refine R.aE O O ?_
  refine R.reg O<|R.q (q.build (cs:=aG) cz O O) O<|R.u 1 O<|R.s O (s.st (us:=aG) (cs':=aG) 1 _ O O O O (.inl ap) O O O O) fun _=>R.u 1 O<|R.nil ?_
  refine R.mp (fun _ hw=>hw.aR (α:=ak)) ?_
  refine R.mp (fun _ hw=>hw.aR (α:=ao)) ?_
  refine R.mp (fun _ hw=>hw.aR (α:=Held)) ?_
  refine R.mp (fun _ hw=>hw.aR (α:=Note)) ?_
  have hz:cb r p t rights aJ=((⟨[],[],[],[],0,0⟩:ar),(au r p).2):=by (unfold cb;(repeat' split) <;> first|rfl|(exfalso;omega)|(simp_all;done))
  rw [hz]
  exact R.w2 ((nS),(nS),(nS),(nS)) [5] dj O Tryz.results31 (RV.cell 1 O O ap) (RV.tmp O) O O O (cD O O)
theorem zv (aD az aB aC:Value)(r:ar)(p:Place)(slot:Int)(w:World)(own:List Nat)(H:Wd w (blks []++own) ([]++[ag.held w own]) [ag.ls aD (r.ai:List ak),ag.ls az (r.Things:List ao),ag.ls aB (r.Held:List Held),ag.ls aC (r.Notes:List Note)] w)(hk:Ok r):Calls Tryz.prog 32 #[.agg #[aD,az,aB,aC,iV r.ae,iV r.af],.agg #[iV p.aj,iV p.Slot],iV slot] w fun e w' => ∃z:Value×Value×Value×Value,e = .returned (.tuple #[.agg #[z.1,z.2.1,z.2.2.1,z.2.2.2,iV ((((cQ r p slot)).1).ae),iV ((((cQ r p slot)).1).af)],fc (((cQ r p slot)).2)])∧Wd w (blks []++own) ([]++[ag.held w own]) [ag.ls z.1 ((((cQ r p slot)).1).ai:List ak),ag.ls z.2.1 ((((cQ r p slot)).1).Things:List ao),ag.ls z.2.2.1 ((((cQ r p slot)).1).Held:List Held),ag.ls z.2.2.2 ((((cQ r p slot)).1).Notes:List Note)] w':=by
 have cS:=H.ct 0 rfl
 have cy:=H.ct 1 rfl
 have dq:=H.ct 2 rfl
 have cT:=H.ct 3 rfl
 have bw:=hk.wl;have bt:=hk.tl;have bh:=hk.hl;have bn:=hk.nl;have rL:=hk.w0;have rM:=hk.w1;have rN:=hk.t0;have rO:=hk.t1
 have bp:=jD r.Held p 0
 refine R.da (n:=42) (vs:=[.agg #[aD,az,aB,aC,iV r.ae,iV r.af],.agg #[iV p.aj,iV p.Slot],iV slot]) (B:=[ag.held w own]) [(0,.agg #[aD,az,aB,aC,iV r.ae,iV r.af]),(1,.agg #[iV p.aj,iV p.Slot]),(2,iV slot)] Tryz.func32 O O O O H ?_
 refine R.reg O<|R.s O (s.box (cs:=[aD,az,aB,aC,iV r.ae,iV r.af]) O O O) fun b1=>R.s O (s.box (cs:=av p) O O O) fun b2=>R.s O (s.alloc (cs:=aG) cp O O) fun b3=>R.u 1 O<|R.nil ?_
 refine R.reg O<|R.q (q.cj 2 O O ap) O<|R.q (q.cj 1 O O aS) O<|R.c (q.call sT O O (fun w hw=>(mX _ _ _ _ (r) (p) w (hw.bq 0 O) (hw.bq 1 O) (hw.bq 2 O) (hw.bq 3 O) ‹_›))) O<|R.u 3 O<|R.s O (s.alloc (cs:=cC) bF O O) fun b4=>R.s O (s.st (us:=ay ((au r p).1)) (cs':=ay ((au r p).1)) 0 _ O O O O (.inl aP) O O O O) fun _=>R.u 1 O<|R.nil ?_
 refine R.reg O<|R.u 1 O<|?_
 by_cases h1:(au r p).2=0
 ·
  refine R.q (q.gj O O Tryz.underlying35 (by omega)) O<|R.nil ?_
  refine R.aF O O ?_
  refine R.reg O<|R.q (q.aT (off':=0) O cF O) O<|R.q (q.ld 2 O O aA O) O<|R.u 1 O<|R.q (q.build (cs:=[iV p.aj,iV slot]) nu O O) O<|R.s O (s.alloc (cs:=[iV 0,iV 0]) me O O) fun b5=>R.s O (s.st (us:=[iV p.aj,iV slot]) (cs':=[iV p.aj,iV slot]) 0 _ O O O O (.inl aS) O O O O) fun _=>R.nil ?_
  refine R.reg O<|R.q (q.cj 4 O O ap) O<|R.q (q.cj 0 O O aS) O<|R.c (q.call yt O O (fun w hw=>(mY _ _ _ _ (r) ((⟨p.aj,slot⟩:Place)) w (hw.bq 0 O) (hw.bq 1 O) (hw.bq 2 O) (hw.bq 3 O) ‹_›))) O<|R.u 1 O<|R.nil ?_
  refine R.reg O<|R.u 1 O<|?_
  by_cases h2:d9 r (⟨p.aj,slot⟩:Place)=0
  ·
   refine R.q (q.gj O O Tryz.underlying35 (by omega)) O<|R.nil ?_
   refine R.aF O O ?_
   refine R.e8 (fuel:=10) (Wd w (blks []++own) [ag.box b5 [iV p.aj,iV slot] 39,ag.box b4 (ay ((au r p).1)) 88,ag.box b3 aG 32,ag.box b2 (av p) 39,ag.held w own] [ag.ls aD r.ai,ag.ls az r.Things,ag.ls aB r.Held,ag.ls aC r.Notes]) O mixed O ?_
   refine D.q (i:=0) O (by kernel_rfl) (aK nZ bm O O O) O (q.aT (off':=2) O bB O) O<|D.q (i:=2) O (by kernel_rfl) (aK nZ bm O O O) O (q.cj 3 O O aS) O<|D.q (i:=4) O (by kernel_rfl) (aK nZ bm O O O) O (q.cj 0 O O aS) O<|D.q (i:=5) O (by kernel_rfl) (aK nZ bm O O O) O (q.aT (off':=0) O bI O) O<|D.q (i:=6) O (by kernel_rfl) (aK nZ bm O O O) O (q.ld 1 O O aA O) O<|D.one (i:=1) (by kernel_rfl) O ?_
   refine Do.s (s.c (Qt.a (q.ld 4 O O bZ O)) O) (fun _=>(aK nZ bm O O O)) O fun _=>D.one (i:=3) (by kernel_rfl) O ?_
   refine Do.s (B':=(fun aN:Value=>[ag.row 85 aN (cw r.Held p 0),ag.box b5 [iV p.aj,iV slot] 39,ag.box b4 (ay ((au r p).1)) 88,ag.box b3 aG 32,ag.box b2 (av p) 39,ag.box b1 [aD,az,aB,aC,iV r.ae,iV r.af] 32,ag.held w own])) (F':=(fun aN:Value=>[ag.ls aD r.ai,ag.ls az r.Things,ag.ls aB r.Held,ag.ls aC r.Notes])) (s.bP (B0:=[]) (Br:=[ag.box b5 [iV p.aj,iV slot] 39,ag.box b4 (ay ((au r p).1)) 88,ag.box b3 aG 32,ag.box b2 (av p) 39,ag.box b1 [aD,az,aB,aC,iV r.ae,iV r.af] 32,ag.held w own]) (F0:=[ag.ls aB r.Held]) ia [2] (fun aN:Value=>aN) (fun aN:Value=>[ag.row 85 aN (cw r.Held p 0)]) (fun aN:Value=>[]) O O O sU O O (fun w own hw H=>mS aB (r.Held) (p) (0) w own H (by omega)) O) (fun _=>(aK pH bm O O O)) O fun z3=>D.one (i:=7) (by kernel_rfl) O ?_
   refine Do.s (B':=(fun aN:Value=>[ag.row 85 aN (cw (cw r.Held p 0) (⟨p.aj,slot⟩:Place) (((au r p).1).ID)),ag.box b5 [iV p.aj,iV slot] 39,ag.box b4 (ay ((au r p).1)) 88,ag.box b3 aG 32,ag.box b2 (av p) 39,ag.box b1 [aD,az,aB,aC,iV r.ae,iV r.af] 32,ag.held w own])) (F':=(fun aN:Value=>[ag.ls z3 (cw r.Held p 0),ag.ls aD r.ai,ag.ls az r.Things,ag.ls aB r.Held,ag.ls aC r.Notes])) (s.pre (B2:=[ag.box b5 [iV p.aj,iV slot] 39,ag.box b4 (ay ((au r p).1)) 88,ag.box b3 aG 32,ag.box b2 (av p) 39,ag.box b1 [aD,az,aB,aC,iV r.ae,iV r.af] 32,ag.held w own]) (F2:=[ag.ls z3 (cw r.Held p 0),ag.ls aD r.ai,ag.ls az r.Things,ag.ls aB r.Held,ag.ls aC r.Notes]) (fun _ hw=>hw.bH 0 _ O O) (s.bP (B0:=[]) (Br:=[ag.box b5 [iV p.aj,iV slot] 39,ag.box b4 (ay ((au r p).1)) 88,ag.box b3 aG 32,ag.box b2 (av p) 39,ag.box b1 [aD,az,aB,aC,iV r.ae,iV r.af] 32,ag.held w own]) (F0:=[ag.ls z3 (cw r.Held p 0)]) ia [0] (fun aN:Value=>aN) (fun aN:Value=>[ag.row 85 aN (cw (cw r.Held p 0) (⟨p.aj,slot⟩:Place) (((au r p).1).ID))]) (fun aN:Value=>[]) O O O sU O O (fun w own hw H=>mS z3 (cw r.Held p 0) ((⟨p.aj,slot⟩:Place)) (((au r p).1).ID) w own H (by omega)) O)) (fun _=>(aK pH [1,2,3,4] O O O)) O fun z4=>D.q (i:=8) O (by kernel_rfl) (aK pH [1,2,3,4] O O O) O (q.aT (off':=2) O bB O) O<|D.one (i:=9) (by kernel_rfl) O ?_
   refine Do.s (s.dy (us:=[z4]) (cs':=[aD,az,z4,aC,iV r.ae,iV r.af]) 5 _ O O O (fun w hw=>Sl.cm (hw.row 0 O)) (.inr ⟨bZ,rfl⟩) (fun w hw=>(ah (Sl.one (hw.row 0 O)) aL)) O O O) (fun _=>(aK pH [1,2,3,4] O O O)) O fun _=>D.done (by kernel_rfl)<|R.reg O<|R.q (q.cj 5 O O ap) O<|R.s O (s.dy (us:=[aD,az,z4,aC,iV r.ae,iV r.af]) (cs':=[aD,az,z4,aC,iV r.ae,iV r.af]) 3 _ O O O (fun _ _=>rfl) (.inl ap) (fun w hw=>(ah (Sl.one (hw.bq 1 O)) (ah (Sl.one (hw.bq 2 O)) (ah (Sl.one (hw.row 0 O)) (ah (Sl.one (hw.bq 4 O)) (ah O (ah O aL))))))) O O O) fun _=>R.u 1 O<|R.nil ?_
   refine R.mp (B':=[ag.box b5 [iV p.aj,iV slot] 39,ag.box b4 (ay ((au r p).1)) 88,ag.box b3 [aD,az,z4,aC,iV r.ae,iV r.af] 32,ag.box b2 (av p) 39,ag.box b1 [aD,az,z4,aC,iV r.ae,iV r.af] 32,ag.held w own]) (fun _ hw=>hw.bH 0 _ O O) ?_
   have hz:cQ r p slot=((⟨r.ai,r.Things,cw (cw r.Held p 0) (⟨p.aj,slot⟩:Place) (((au r p).1).ID),r.Notes,r.ae,r.af⟩:ar),0):=by (unfold cQ;(repeat' split) <;> rfl)
   rw [hz]
   exact R.w2 (aD,az,z4,aC) [5] [2,3,0,5] O Tryz.results32 (RV.cell 2 O O ap) (RV.tmp O) O O O (cD O (i6 O))
  ·
   refine R.q (q.gu O O Tryz.underlying35 (by omega)) O<|R.nil ?_
   refine R.aE O O ?_
   refine R.reg O<|R.q (q.build (cs:=aG) cz O O) O<|R.u 1 O<|R.s O (s.st (us:=aG) (cs':=aG) 2 _ O O O O (.inl ap) O O O O) fun _=>R.u 1 O<|R.nil ?_
   refine R.mp (fun _ hw=>hw.aR (α:=ak)) ?_
   refine R.mp (fun _ hw=>hw.aR (α:=ao)) ?_
   refine R.mp (fun _ hw=>hw.aR (α:=Held)) ?_
   refine R.mp (fun _ hw=>hw.aR (α:=Note)) ?_
   have hz:cQ r p slot=((⟨[],[],[],[],0,0⟩:ar),d9 r (⟨p.aj,slot⟩:Place)):=by (unfold cQ;(repeat' split) <;> rfl)
   rw [hz]
   exact R.w2 ((nS),(nS),(nS),(nS)) [5] dj O Tryz.results32 (RV.cell 2 O O ap) (RV.tmp O) O O O (cD O O)
 ·
  refine R.q (q.gu O O Tryz.underlying35 (by omega)) O<|R.nil ?_
  refine R.aE O O ?_
  refine R.reg O<|R.q (q.build (cs:=aG) cz O O) O<|R.u 1 O<|R.s O (s.st (us:=aG) (cs':=aG) 1 _ O O O O (.inl ap) O O O O) fun _=>R.u 1 O<|R.nil ?_
  refine R.mp (fun _ hw=>hw.aR (α:=ak)) ?_
  refine R.mp (fun _ hw=>hw.aR (α:=ao)) ?_
  refine R.mp (fun _ hw=>hw.aR (α:=Held)) ?_
  refine R.mp (fun _ hw=>hw.aR (α:=Note)) ?_
  have hz:cQ r p slot=((⟨[],[],[],[],0,0⟩:ar),(au r p).2):=by (unfold cQ;(repeat' split) <;> first|rfl|(exfalso;omega)|(simp_all;done))
  rw [hz]
  exact R.w2 ((nS),(nS),(nS),(nS)) [4] dj O Tryz.results32 (RV.cell 1 O O ap) (RV.tmp O) O O O (cD O O)
theorem zw (aD az aB aC:Value)(r:ar)(p:Place)(w:World)(own:List Nat)(H:Wd w (blks []++own) ([]++[ag.held w own]) [ag.ls aD (r.ai:List ak),ag.ls az (r.Things:List ao),ag.ls aB (r.Held:List Held),ag.ls aC (r.Notes:List Note)] w)(hk:Ok r):Calls Tryz.prog 33 #[.agg #[aD,az,aB,aC,iV r.ae,iV r.af],.agg #[iV p.aj,iV p.Slot]] w fun e w' => ∃z:Value×Value×Value×Value,e = .returned (.tuple #[.agg #[z.1,z.2.1,z.2.2.1,z.2.2.2,iV ((((cX r p)).1).ae),iV ((((cX r p)).1).af)],fc (((cX r p)).2)])∧Wd w (blks []++own) ([]++[ag.held w own]) [ag.ls z.1 ((((cX r p)).1).ai:List ak),ag.ls z.2.1 ((((cX r p)).1).Things:List ao),ag.ls z.2.2.1 ((((cX r p)).1).Held:List Held),ag.ls z.2.2.2 ((((cX r p)).1).Notes:List Note)] w':=by
 have cS:=H.ct 0 rfl
 have cy:=H.ct 1 rfl
 have dq:=H.ct 2 rfl
 have cT:=H.ct 3 rfl
 have bw:=hk.wl;have bt:=hk.tl;have bh:=hk.hl;have bn:=hk.nl;have rL:=hk.w0;have rM:=hk.w1;have rN:=hk.t0;have rO:=hk.t1
 have hkd:=hk.wo (au r p).1.ID
 refine R.da (n:=26) (vs:=[.agg #[aD,az,aB,aC,iV r.ae,iV r.af],.agg #[iV p.aj,iV p.Slot]]) (B:=[ag.held w own]) [(0,.agg #[aD,az,aB,aC,iV r.ae,iV r.af]),(1,.agg #[iV p.aj,iV p.Slot])] Tryz.func33 O O O O H ?_
 refine R.reg O<|R.s O (s.box (cs:=[aD,az,aB,aC,iV r.ae,iV r.af]) O O O) fun b1=>R.s O (s.box (cs:=av p) O O O) fun b2=>R.s O (s.alloc (cs:=aG) cp O O) fun b3=>R.u 1 O<|R.nil ?_
 refine R.reg O<|R.q (q.cj 2 O O ap) O<|R.q (q.cj 1 O O aS) O<|R.c (q.call sT O O (fun w hw=>(mX _ _ _ _ (r) (p) w (hw.bq 0 O) (hw.bq 1 O) (hw.bq 2 O) (hw.bq 3 O) ‹_›))) O<|R.u 3 O<|R.s O (s.alloc (cs:=cC) bF O O) fun b4=>R.s O (s.st (us:=ay ((au r p).1)) (cs':=ay ((au r p).1)) 0 _ O O O O (.inl aP) O O O O) fun _=>R.u 1 O<|R.nil ?_
 refine R.reg O<|R.u 1 O<|?_
 by_cases h1:(au r p).2=0
 ·
  refine R.q (q.gj O O Tryz.underlying35 (by omega)) O<|R.nil ?_
  refine R.aF O O ?_
  refine R.reg O<|R.q (q.aT (off':=0) O bf O) O<|R.q (q.ld 3 O O bE O) O<|R.q (q.aT (off':=0) O bI O) O<|R.q (q.ld 0 O O aA O) O<|R.s O (s.lR AF O O (fun w hw=>mj _ (r.ai) (((au r p).1).ID) w (hw.bq 0 O) (by omega)) O) fun v1=>R.q (q.aT (off':=0) O bf O) O<|R.s O (s.dy (us:=[v1]) (cs':=[v1,az,aB,aC,iV r.ae,iV r.af]) 4 _ O O O (fun w hw=>Sl.cm (hw.row 0 O)) (.inr ⟨bE,rfl⟩) (fun w hw=>(ah (Sl.one (hw.row 0 O)) aL)) O O O) fun _=>R.nil ?_
  refine R.reg O<|R.q (q.cj 4 O O ap) O<|R.s (B':=(fun g_:Value×Value×Value×Value=>[ag.box b4 (ay ((au r p).1)) 88,ag.box b3 aG 32,ag.box b2 (av p) 39,ag.box b1 [v1,az,aB,aC,iV r.ae,iV r.af] 32,ag.held w own])) (F':=(fun g_=>[ag.ls g_.1 ((aY (⟨(without r.ai (((au r p).1).ID)),r.Things,r.Held,r.Notes,r.ae,r.af⟩:ar))).ai,ag.ls g_.2.1 ((aY (⟨(without r.ai (((au r p).1).ID)),r.Things,r.Held,r.Notes,r.ae,r.af⟩:ar))).Things,ag.ls g_.2.2.1 ((aY (⟨(without r.ai (((au r p).1).ID)),r.Things,r.Held,r.Notes,r.ae,r.af⟩:ar))).Held,ag.ls g_.2.2.2 ((aY (⟨(without r.ai (((au r p).1).ID)),r.Things,r.Held,r.Notes,r.ae,r.af⟩:ar))).Notes,ag.ls v1 (without r.ai (((au r p).1).ID)),ag.ls aD r.ai,ag.ls az r.Things,ag.ls aB r.Held,ag.ls aC r.Notes])) O (s.pre (B2:=[ag.box b4 (ay ((au r p).1)) 88,ag.box b3 aG 32,ag.box b2 (av p) 39,ag.box b1 [v1,az,aB,aC,iV r.ae,iV r.af] 32,ag.held w own]) (F2:=[ag.ls v1 (without r.ai (((au r p).1).ID)),ag.ls aD r.ai,ag.ls az r.Things,ag.ls aB r.Held,ag.ls aC r.Notes]) (fun _ hw=>hw.bH 0 _ O O) (s.bP (B0:=[]) (Br:=[ag.box b4 (ay ((au r p).1)) 88,ag.box b3 aG 32,ag.box b2 (av p) 39,ag.box b1 [v1,az,aB,aC,iV r.ae,iV r.af] 32,ag.held w own]) (F0:=[ag.ls v1 (without r.ai (((au r p).1).ID)),ag.ls az r.Things,ag.ls aB r.Held,ag.ls aC r.Notes]) cZ qI (fun g_:Value×Value×Value×Value => .agg #[g_.1,g_.2.1,g_.2.2.1,g_.2.2.2,iV (((aY (⟨(without r.ai (((au r p).1).ID)),r.Things,r.Held,r.Notes,r.ae,r.af⟩:ar))).ae),iV (((aY (⟨(without r.ai (((au r p).1).ID)),r.Things,r.Held,r.Notes,r.ae,r.af⟩:ar))).af)]) (fun g_=>[]) (fun g_=>[ag.ls g_.1 ((aY (⟨(without r.ai (((au r p).1).ID)),r.Things,r.Held,r.Notes,r.ae,r.af⟩:ar))).ai,ag.ls g_.2.1 ((aY (⟨(without r.ai (((au r p).1).ID)),r.Things,r.Held,r.Notes,r.ae,r.af⟩:ar))).Things,ag.ls g_.2.2.1 ((aY (⟨(without r.ai (((au r p).1).ID)),r.Things,r.Held,r.Notes,r.ae,r.af⟩:ar))).Held,ag.ls g_.2.2.2 ((aY (⟨(without r.ai (((au r p).1).ID)),r.Things,r.Held,r.Notes,r.ae,r.af⟩:ar))).Notes]) O O O AG O O (fun w own hw H=>nP v1 az aB aC ((⟨(without r.ai (((au r p).1).ID)),r.Things,r.Held,r.Notes,r.ae,r.af⟩:ar)) w own H ‹_›) O)) ?_
  rintro ⟨z1,z2,z3,z4⟩
  dsimp only
  refine R.s O (s.dy (us:=[z1,z2,z3,z4,iV ((aY (⟨(without r.ai (((au r p).1).ID)),r.Things,r.Held,r.Notes,r.ae,r.af⟩:ar)).ae),iV ((aY (⟨(without r.ai (((au r p).1).ID)),r.Things,r.Held,r.Notes,r.ae,r.af⟩:ar)).af)]) (cs':=[z1,z2,z3,z4,iV ((aY (⟨(without r.ai (((au r p).1).ID)),r.Things,r.Held,r.Notes,r.ae,r.af⟩:ar)).ae),iV ((aY (⟨(without r.ai (((au r p).1).ID)),r.Things,r.Held,r.Notes,r.ae,r.af⟩:ar)).af)]) 1 _ O O O (fun _ _=>rfl) (.inl ap) (fun w hw=>(ah (Sl.one (hw.bq 0 O)) (ah (Sl.one (hw.bq 1 O)) (ah (Sl.one (hw.bq 2 O)) (ah (Sl.one (hw.bq 3 O)) (ah O (ah O aL))))))) O O O) fun _=>R.u 1 O<|R.nil ?_
  have hz:cX r p=((aY (⟨(without r.ai (((au r p).1).ID)),r.Things,r.Held,r.Notes,r.ae,r.af⟩:ar)),0):=by (unfold cX;(repeat' split) <;> rfl)
  rw [hz]
  exact R.w2 (z1,z2,z3,z4) [4] bm O Tryz.results33 (RV.cell 1 O O ap) (RV.tmp O) O O O (cD O (i6 O))
 ·
  refine R.q (q.gu O O Tryz.underlying35 (by omega)) O<|R.nil ?_
  refine R.aE O O ?_
  refine R.reg O<|R.q (q.build (cs:=aG) cz O O) O<|R.u 1 O<|R.s O (s.st (us:=aG) (cs':=aG) 1 _ O O O O (.inl ap) O O O O) fun _=>R.u 1 O<|R.nil ?_
  refine R.mp (fun _ hw=>hw.aR (α:=ak)) ?_
  refine R.mp (fun _ hw=>hw.aR (α:=ao)) ?_
  refine R.mp (fun _ hw=>hw.aR (α:=Held)) ?_
  refine R.mp (fun _ hw=>hw.aR (α:=Note)) ?_
  have hz:cX r p=((⟨[],[],[],[],0,0⟩:ar),(au r p).2):=by (unfold cX;(repeat' split) <;> first|rfl|(exfalso;omega)|(simp_all;done))
  rw [hz]
  exact R.w2 ((nS),(nS),(nS),(nS)) [4] dj O Tryz.results33 (RV.cell 1 O O ap) (RV.tmp O) O O O (cD O O)
set_option maxHeartbeats 1000000 in
theorem vJ (aD az aB aC:Value)(r:ar)(p:Place)(w:World)(own:List Nat)(H:Wd w (blks []++own) ([]++[ag.held w own]) [ag.ls aD (r.ai:List ak),ag.ls az (r.Things:List ao),ag.ls aB (r.Held:List Held),ag.ls aC (r.Notes:List Note)] w)(hk:Ok r):Calls Tryz.prog 34 #[.agg #[aD,az,aB,aC,iV r.ae,iV r.af],.agg #[iV p.aj,iV p.Slot]] w fun e w' => ∃z:Value×Value×Value×Value,e = .returned (.tuple #[.agg #[z.1,z.2.1,z.2.2.1,z.2.2.2,iV ((((bQ r p)).1).ae),iV ((((bQ r p)).1).af)],fc (((bQ r p)).2)])∧Wd w (blks []++own) ([]++[ag.held w own]) [ag.ls z.1 ((((bQ r p)).1).ai:List ak),ag.ls z.2.1 ((((bQ r p)).1).Things:List ao),ag.ls z.2.2.1 ((((bQ r p)).1).Held:List Held),ag.ls z.2.2.2 ((((bQ r p)).1).Notes:List Note)] w':=by
 have cS:=H.ct 0 rfl
 have cy:=H.ct 1 rfl
 have dq:=H.ct 2 rfl
 have cT:=H.ct 3 rfl
 have bw:=hk.wl;have bt:=hk.tl;have bh:=hk.hl;have bn:=hk.nl;have rL:=hk.w0;have rM:=hk.w1;have rN:=hk.t0;have rO:=hk.t1
 have hkd:Ok (⟨r.ai.filter (fun x => !(fun (x:ak)=>decide (x.ID∈(eb (((au r p).1).ID) r.ai))) x),r.Things,r.Held,r.Notes,r.ae,r.af⟩:ar):=hk.cut (au r p).1.ID
 refine R.da (n:=32) (vs:=[.agg #[aD,az,aB,aC,iV r.ae,iV r.af],.agg #[iV p.aj,iV p.Slot]]) (B:=[ag.held w own]) [(0,.agg #[aD,az,aB,aC,iV r.ae,iV r.af]),(1,.agg #[iV p.aj,iV p.Slot])] Tryz.func34 O O O O H ?_
 refine R.reg O<|R.s O (s.box (cs:=[aD,az,aB,aC,iV r.ae,iV r.af]) O O O) fun b1=>R.s O (s.box (cs:=av p) O O O) fun b2=>R.s O (s.alloc (cs:=aG) cp O O) fun b3=>R.u 1 O<|R.nil ?_
 refine R.reg O<|R.q (q.cj 2 O O ap) O<|R.q (q.cj 1 O O aS) O<|R.c (q.call sT O O (fun w hw=>(mX _ _ _ _ (r) (p) w (hw.bq 0 O) (hw.bq 1 O) (hw.bq 2 O) (hw.bq 3 O) ‹_›))) O<|R.u 3 O<|R.s O (s.alloc (cs:=cC) bF O O) fun b4=>R.s O (s.st (us:=ay ((au r p).1)) (cs':=ay ((au r p).1)) 0 _ O O O O (.inl aP) O O O O) fun _=>R.u 1 O<|R.nil ?_
 refine R.reg O<|R.u 1 O<|?_
 by_cases h1:(au r p).2=0
 ·
  refine R.q (q.gj O O Tryz.underlying35 (by omega)) O<|R.nil ?_
  refine R.aF O O ?_
  refine R.reg O<|R.q (q.aT (off':=0) O bf O) O<|R.q (q.ld 3 O O bE O) O<|R.q (q.aT (off':=0) O bI O) O<|R.q (q.ld 0 O O aA O) O<|R.s O (s.lR Hq O O (fun w hw=>ui _ (r.ai) (((au r p).1).ID) w (hw.bq 0 O) (by omega)) O) fun v1=>R.s O (s.alloc (cs:=[nS]) uZ O O) fun b5=>R.s O (s.dy (us:=[v1]) (cs':=[v1]) 0 _ O O O (fun w hw=>Sl.cm (hw.row 1 O)) (.inr ⟨mM,rfl⟩) (fun w hw=>(ah (Sl.one (hw.row 1 O)) aL)) O O O) fun _=>R.nil ?_
  refine R.reg O<|R.q (q.aT (off':=0) O bf O) O<|R.q (q.ld 5 O O bE O) O<|R.s (B':=(fun aN:Value=>[ag.row 88 aN r.ai,ag.box b5 [v1] 60,ag.row 3 v1 (eb (((au r p).1).ID) r.ai),ag.box b4 (ay ((au r p).1)) 88,ag.box b3 aG 32,ag.box b2 (av p) 39,ag.box b1 [aD,az,aB,aC,iV r.ae,iV r.af] 32,ag.held w own])) (F':=(fun aN:Value=>[ag.ls aD r.ai,ag.ls az r.Things,ag.ls aB r.Held,ag.ls aC r.Notes])) O (s.bP (B0:=[]) (Br:=[ag.box b5 [v1] 60,ag.row 3 v1 (eb (((au r p).1).ID) r.ai),ag.box b4 (ay ((au r p).1)) 88,ag.box b3 aG 32,ag.box b2 (av p) 39,ag.box b1 [aD,az,aB,aC,iV r.ae,iV r.af] 32,ag.held w own]) (F0:=[ag.ls aD r.ai]) gW [0] (fun aN:Value=>aN) (fun aN:Value=>[ag.row 88 aN r.ai]) (fun aN:Value=>[]) O O O yv O O (fun w own hw H=>iT aD (r.ai) w own H (by omega)) O) fun z1=>R.q (q.Gf (cap:=[.pointer (some ⟨b5,0,none⟩)]) O O) O<|R.s (B':=(fun aN:Value=>[ag.row 88 aN (r.ai.filter (fun x => !(fun (x:ak)=>decide (x.ID∈(eb (((au r p).1).ID) r.ai))) x)),ag.box b5 [v1] 60,ag.row 3 v1 (eb (((au r p).1).ID) r.ai),ag.box b4 (ay ((au r p).1)) 88,ag.box b3 aG 32,ag.box b2 (av p) 39,ag.box b1 [aD,az,aB,aC,iV r.ae,iV r.af] 32,ag.held w own])) (F':=(fun aN:Value=>[ag.ls aD r.ai,ag.ls az r.Things,ag.ls aB r.Held,ag.ls aC r.Notes])) O (s.bP (B0:=[ag.row 88 z1 r.ai]) (Br:=[ag.box b5 [v1] 60,ag.row 3 v1 (eb (((au r p).1).ID) r.ai),ag.box b4 (ay ((au r p).1)) 88,ag.box b3 aG 32,ag.box b2 (av p) 39,ag.box b1 [aD,az,aB,aC,iV r.ae,iV r.af] 32,ag.held w own]) (F0:=[]) bS [] (fun aN:Value=>aN) (fun aN:Value=>[ag.row 88 aN (r.ai.filter (fun x => !(fun (x:ak)=>decide (x.ID∈(eb (((au r p).1).ID) r.ai))) x))]) (fun aN:Value=>[]) O O O Hr O O (fun w own hw H=>ql z1 (r.ai) (fun (x:ak)=>decide (x.ID∈(eb (((au r p).1).ID) r.ai))) _ _ Hs w own H (fun W x hU=>sC x _ ((eb (((au r p).1).ID) r.ai)) _ W (hw.qY 1 0 O O (by decide) hU) (Own.sl (hw.qY 2 0 O O (by decide) hU)) ) (by omega)) O) fun z2=>R.q (q.aT (off':=0) O bf O) O<|R.s O (s.dy (us:=[z2]) (cs':=[z2,az,aB,aC,iV r.ae,iV r.af]) 6 _ O O O (fun w hw=>Sl.cm (hw.row 0 O)) (.inr ⟨bE,rfl⟩) (fun w hw=>(ah (Sl.one (hw.row 0 O)) aL)) O O O) fun _=>R.nil ?_
  refine R.reg O<|R.q (q.cj 6 O O ap) O<|R.s (B':=(fun g_:Value×Value×Value×Value=>[ag.box b5 [v1] 60,ag.row 3 v1 (eb (((au r p).1).ID) r.ai),ag.box b4 (ay ((au r p).1)) 88,ag.box b3 aG 32,ag.box b2 (av p) 39,ag.box b1 [z2,az,aB,aC,iV r.ae,iV r.af] 32,ag.held w own])) (F':=(fun g_=>[ag.ls g_.1 ((aY (⟨r.ai.filter (fun x => !(fun (x:ak)=>decide (x.ID∈(eb (((au r p).1).ID) r.ai))) x),r.Things,r.Held,r.Notes,r.ae,r.af⟩:ar))).ai,ag.ls g_.2.1 ((aY (⟨r.ai.filter (fun x => !(fun (x:ak)=>decide (x.ID∈(eb (((au r p).1).ID) r.ai))) x),r.Things,r.Held,r.Notes,r.ae,r.af⟩:ar))).Things,ag.ls g_.2.2.1 ((aY (⟨r.ai.filter (fun x => !(fun (x:ak)=>decide (x.ID∈(eb (((au r p).1).ID) r.ai))) x),r.Things,r.Held,r.Notes,r.ae,r.af⟩:ar))).Held,ag.ls g_.2.2.2 ((aY (⟨r.ai.filter (fun x => !(fun (x:ak)=>decide (x.ID∈(eb (((au r p).1).ID) r.ai))) x),r.Things,r.Held,r.Notes,r.ae,r.af⟩:ar))).Notes,ag.ls z2 (r.ai.filter (fun x => !(fun (x:ak)=>decide (x.ID∈(eb (((au r p).1).ID) r.ai))) x)),ag.ls aD r.ai,ag.ls az r.Things,ag.ls aB r.Held,ag.ls aC r.Notes])) O (s.pre (B2:=[ag.box b5 [v1] 60,ag.row 3 v1 (eb (((au r p).1).ID) r.ai),ag.box b4 (ay ((au r p).1)) 88,ag.box b3 aG 32,ag.box b2 (av p) 39,ag.box b1 [z2,az,aB,aC,iV r.ae,iV r.af] 32,ag.held w own]) (F2:=[ag.ls z2 (r.ai.filter (fun x => !(fun (x:ak)=>decide (x.ID∈(eb (((au r p).1).ID) r.ai))) x)),ag.ls aD r.ai,ag.ls az r.Things,ag.ls aB r.Held,ag.ls aC r.Notes]) (fun _ hw=>hw.bH 0 _ O O) (s.bP (B0:=[]) (Br:=[ag.box b5 [v1] 60,ag.row 3 v1 (eb (((au r p).1).ID) r.ai),ag.box b4 (ay ((au r p).1)) 88,ag.box b3 aG 32,ag.box b2 (av p) 39,ag.box b1 [z2,az,aB,aC,iV r.ae,iV r.af] 32,ag.held w own]) (F0:=[ag.ls z2 (r.ai.filter (fun x => !(fun (x:ak)=>decide (x.ID∈(eb (((au r p).1).ID) r.ai))) x)),ag.ls az r.Things,ag.ls aB r.Held,ag.ls aC r.Notes]) gW qI (fun g_:Value×Value×Value×Value => .agg #[g_.1,g_.2.1,g_.2.2.1,g_.2.2.2,iV (((aY (⟨r.ai.filter (fun x => !(fun (x:ak)=>decide (x.ID∈(eb (((au r p).1).ID) r.ai))) x),r.Things,r.Held,r.Notes,r.ae,r.af⟩:ar))).ae),iV (((aY (⟨r.ai.filter (fun x => !(fun (x:ak)=>decide (x.ID∈(eb (((au r p).1).ID) r.ai))) x),r.Things,r.Held,r.Notes,r.ae,r.af⟩:ar))).af)]) (fun g_=>[]) (fun g_=>[ag.ls g_.1 ((aY (⟨r.ai.filter (fun x => !(fun (x:ak)=>decide (x.ID∈(eb (((au r p).1).ID) r.ai))) x),r.Things,r.Held,r.Notes,r.ae,r.af⟩:ar))).ai,ag.ls g_.2.1 ((aY (⟨r.ai.filter (fun x => !(fun (x:ak)=>decide (x.ID∈(eb (((au r p).1).ID) r.ai))) x),r.Things,r.Held,r.Notes,r.ae,r.af⟩:ar))).Things,ag.ls g_.2.2.1 ((aY (⟨r.ai.filter (fun x => !(fun (x:ak)=>decide (x.ID∈(eb (((au r p).1).ID) r.ai))) x),r.Things,r.Held,r.Notes,r.ae,r.af⟩:ar))).Held,ag.ls g_.2.2.2 ((aY (⟨r.ai.filter (fun x => !(fun (x:ak)=>decide (x.ID∈(eb (((au r p).1).ID) r.ai))) x),r.Things,r.Held,r.Notes,r.ae,r.af⟩:ar))).Notes]) O O O AG O O (fun w own hw H=>by have IL:=nP z2 az aB aC ((⟨r.ai.filter (fun x => !(fun (x:ak)=>decide (x.ID∈(eb (((au r p).1).ID) r.ai))) x),r.Things,r.Held,r.Notes,r.ae,r.af⟩:ar)) w own H ‹_›;exact IL) O)) ?_
  rintro ⟨z3,z4,z5,z6⟩
  dsimp only
  refine R.s O (s.dy (us:=[z3,z4,z5,z6,iV ((aY (⟨r.ai.filter (fun x => !(fun (x:ak)=>decide (x.ID∈(eb (((au r p).1).ID) r.ai))) x),r.Things,r.Held,r.Notes,r.ae,r.af⟩:ar)).ae),iV ((aY (⟨r.ai.filter (fun x => !(fun (x:ak)=>decide (x.ID∈(eb (((au r p).1).ID) r.ai))) x),r.Things,r.Held,r.Notes,r.ae,r.af⟩:ar)).af)]) (cs':=[z3,z4,z5,z6,iV ((aY (⟨r.ai.filter (fun x => !(fun (x:ak)=>decide (x.ID∈(eb (((au r p).1).ID) r.ai))) x),r.Things,r.Held,r.Notes,r.ae,r.af⟩:ar)).ae),iV ((aY (⟨r.ai.filter (fun x => !(fun (x:ak)=>decide (x.ID∈(eb (((au r p).1).ID) r.ai))) x),r.Things,r.Held,r.Notes,r.ae,r.af⟩:ar)).af)]) 3 _ O O O (fun _ _=>rfl) (.inl ap) (fun w hw=>(ah (Sl.one (hw.bq 0 O)) (ah (Sl.one (hw.bq 1 O)) (ah (Sl.one (hw.bq 2 O)) (ah (Sl.one (hw.bq 3 O)) (ah O (ah O aL))))))) O O O) fun _=>R.u 1 O<|R.nil ?_
  have hz:bQ r p=((aY (⟨r.ai.filter (fun x => !(fun (x:ak)=>decide (x.ID∈(eb (((au r p).1).ID) r.ai))) x),r.Things,r.Held,r.Notes,r.ae,r.af⟩:ar)),0):=by (unfold bQ;(repeat' split) <;> rfl)
  rw [hz]
  exact R.w2 (z3,z4,z5,z6) [6] bm O Tryz.results34 (RV.cell 3 O O ap) (RV.tmp O) O O O (cD O (i6 O))
 ·
  refine R.q (q.gu O O Tryz.underlying35 (by omega)) O<|R.nil ?_
  refine R.aE O O ?_
  refine R.reg O<|R.q (q.build (cs:=aG) cz O O) O<|R.u 1 O<|R.s O (s.st (us:=aG) (cs':=aG) 1 _ O O O O (.inl ap) O O O O) fun _=>R.u 1 O<|R.nil ?_
  refine R.mp (fun _ hw=>hw.aR (α:=ak)) ?_
  refine R.mp (fun _ hw=>hw.aR (α:=ao)) ?_
  refine R.mp (fun _ hw=>hw.aR (α:=Held)) ?_
  refine R.mp (fun _ hw=>hw.aR (α:=Note)) ?_
  have hz:bQ r p=((⟨[],[],[],[],0,0⟩:ar),(au r p).2):=by (unfold bQ;(repeat' split) <;> first|rfl|(exfalso;omega)|(simp_all;done))
  rw [hz]
  exact R.w2 ((nS),(nS),(nS),(nS)) [4] dj O Tryz.results34 (RV.cell 1 O O ap) (RV.tmp O) O O O (cD O O)
theorem rP (aD az aB aC:Value)(r:ar)(p:Place)(kind:Int)(rights:Int)(w:World)(lY:Sl w aD r.ai)(jQ:Sl w az r.Things)(oE:Sl w aB r.Held)(vH:Sl w aC r.Notes)(hk:Ok r)(hr:0≤rights∧rights≤7):Calls Tryz.prog 80 #[.agg #[aD,az,aB,aC,iV r.ae,iV r.af],.agg #[iV p.aj,iV p.Slot],iV kind,iV rights] w fun e w'=>e = .returned (.tuple #[ak.val ((aM r p kind rights).1),iV ((aM r p kind rights).2.1),fc ((aM r p kind rights).2.2)])∧Ext w w':=by
 have bw:=hk.wl;have bt:=hk.tl;have bh:=hk.hl;have bn:=hk.nl;have rL:=hk.w0;have rM:=hk.w1;have rN:=hk.t0;have rO:=hk.t1
 refine R.enter (n:=51) (vs:=[.agg #[aD,az,aB,aC,iV r.ae,iV r.af],.agg #[iV p.aj,iV p.Slot],iV kind,iV rights]) [] [(0,.agg #[aD,az,aB,aC,iV r.ae,iV r.af]),(1,.agg #[iV p.aj,iV p.Slot]),(2,iV kind),(3,iV rights)] Tryz.func80 O O O O ?_
 refine R.reg O<|R.s O (s.box (cs:=[aD,az,aB,aC,iV r.ae,iV r.af]) O O O) fun b1=>R.s O (s.box (cs:=av p) O O O) fun b2=>R.s O (s.alloc (cs:=cC) bF O O) fun b3=>R.u 2 O<|R.nil ?_
 refine R.reg O<|R.q (q.cj 2 O O ap) O<|R.q (q.cj 1 O O aS) O<|R.c (q.call sT O O (fun w hw=>(mX _ _ _ _ (r) (p) w ((fun _=>Wd.old lY) w hw) ((fun _=>Wd.old jQ) w hw) ((fun _=>Wd.old oE) w hw) ((fun _=>Wd.old vH) w hw) ‹_›))) O<|R.u 3 O<|R.s O (s.alloc (cs:=cC) bF O O) fun b4=>R.s O (s.st (us:=ay ((au r p).1)) (cs':=ay ((au r p).1)) 0 _ O O O O (.inl aP) O O O O) fun _=>R.u 1 O<|R.nil ?_
 refine R.reg O<|R.u 1 O<|?_
 by_cases h1:(au r p).2=0
 ·
  have Jk:=hk.get h1
  refine R.q (q.gj O O Tryz.underlying35 (by omega)) O<|R.nil ?_
  refine R.aF O O ?_
  refine R.reg O<|R.q (q.aT (off':=1) O bM O) O<|R.q (q.ld 3 O O cq O) O<|R.q (q.Gf (cap:=[.pointer (some ⟨b4,0,none⟩)]) O O) O<|?_
  rcases hJ (fun (t:ao)=>t.ID==((au r p).1).ao) r.Things with ⟨eU,ug⟩ | ⟨jL,jE,eU,hZ,oT,uc,Io⟩
  ·
   refine R.c (q.call tW O O (fun w hw=>(cv (congrArg (Value.int .i64) eU) (fU _ (r.Things) (fun (t:ao)=>t.ID==((au r p).1).ao) _ _ AQ w ((fun _=>Wd.old jQ) w hw) (fun W t hW=>rJ t (((au r p).1)) _ W (ot (hw.b 0 O) hW) ) )))) O<|R.u 1 O<|R.nil ?_
   refine R.reg O<|R.u 1 O<|R.q (q.lss (b:=true) O O (by decide)) O<|R.u 10 O<|R.nil ?_
   refine R.aE O O ?_
   refine R.reg O<|R.q (q.build (cs:=cC) eK O O) O<|R.q (q.iface O cL) O<|R.s O (s.st (us:=cC) (cs':=cC) 1 _ O O O O (.inl aP) O O O O) fun _=>R.u 2 O<|R.nil ?_
   exact R.CV O Tryz.results80 (RV.cell 1 O O aP) (RV.tmp O) (RV.tmp O) (congrArg ak.val (show (⟨0,0,0,0,0⟩:ak)=(aM r p kind rights).1 from by ((rw [iH ‹_› ug];rfl)))) (rI (by ((rw [iH ‹_› ug];done)))) (eP (by decide) (by ((rw [iH ‹_› ug];done))))
  ·
   refine R.c (q.call tW O O (fun w hw=>(cv (congrArg (Value.int .i64) eU) (fU _ (r.Things) (fun (t:ao)=>t.ID==((au r p).1).ao) _ _ AQ w ((fun _=>Wd.old jQ) w hw) (fun W t hW=>rJ t (((au r p).1)) _ W (ot (hw.b 0 O) hW) ) )))) O<|R.u 1 O<|R.nil ?_
   refine R.reg O<|R.u 1 O<|R.q (q.lss O O (decide_eq_false (by omega))) O<|R.u 1 O<|R.qg O (q.aT (off':=1) O bM O) O<|R.qg O (q.ld 3 O O cq O) O<|R.u 1 O<|R.qg O (q.idx (i:=jL) (fun _=>Wd.old jQ) O O ew O hZ) O<|R.qg O (q.dF (j':=1) (fun _=>Wd.old jQ) hZ O mN O) O<|R.qg O (q.fb (fun _=>Wd.old jQ) hZ O aA O) O<|R.u 1 O<|?_
   by_cases h2:jE.Kind=kind
   ·
    refine R.qg O (q.neq O O (bne_eq_false_iff_eq.2 (by omega))) O<|R.u 1 O<|R.nil ?_
    refine R.aF O O ?_
    refine R.reg O<|R.q (q.aT (off':=2) O fj O) O<|R.q (q.ld 0 O O aA O) O<|R.u 1 O<|?_
    rcases Bool.eq_false_or_eq_true (fF (((au r p).1).Rights) rights) with h3|h3
    ·
     refine R.c (q.call pP O O (fun w hw=>(cv (congrArg Value.bool h3) (fA (((au r p).1).Rights) (rights) w  (by omega) (by omega))))) O<|R.u 1 O<|R.nil ?_
     refine R.aF O O ?_
     refine R.reg O<|R.q (q.cj 0 O O aP) O<|R.u 1 O<|R.s O (s.st (us:=ay ((au r p).1)) (cs':=ay ((au r p).1)) 1 _ O O O O (.inl aP) O O O O) fun _=>R.u 2 O<|R.nil ?_
     exact R.CV O Tryz.results80 (RV.cell 1 O O aP) (RV.tmp O) (RV.tmp O) (congrArg ak.val (show ((au r p).1)=(aM r p kind rights).1 from by ((rw [lz ‹_› hZ oT uc ‹_› ‹_›];done)))) (rI (by ((rw [lz ‹_› hZ oT uc ‹_› ‹_›];done)))) (i6 (by ((rw [lz ‹_› hZ oT uc ‹_› ‹_›];done))))
    ·
     refine R.c (q.call pP O O (fun w hw=>(cv (congrArg Value.bool h3) (fA (((au r p).1).Rights) (rights) w  (by omega) (by omega))))) O<|R.u 1 O<|R.nil ?_
     refine R.aE O O ?_
     refine R.reg O<|R.q (q.build (cs:=cC) eK O O) O<|R.q (q.iface O cL) O<|R.s O (s.st (us:=cC) (cs':=cC) 1 _ O O O O (.inl aP) O O O O) fun _=>R.u 2 O<|R.nil ?_
     exact R.CV O Tryz.results80 (RV.cell 1 O O aP) (RV.tmp O) (RV.tmp O) (congrArg ak.val (show (⟨0,0,0,0,0⟩:ak)=(aM r p kind rights).1 from by ((rw [gU ‹_› hZ oT uc ‹_› ‹_›];rfl)))) (rI (by ((rw [gU ‹_› hZ oT uc ‹_› ‹_›];done)))) (eP (by decide) (by ((rw [gU ‹_› hZ oT uc ‹_› ‹_›];done))))
   ·
    refine R.qg O (q.neq O O (bne_iff_ne.2 (by omega))) O<|R.u 1 O<|R.nil ?_
    refine R.aE O O ?_
    refine R.reg O<|R.q (q.build (cs:=cC) eK O O) O<|R.q (q.iface O cL) O<|R.s O (s.st (us:=cC) (cs':=cC) 1 _ O O O O (.inl aP) O O O O) fun _=>R.u 2 O<|R.nil ?_
    exact R.CV O Tryz.results80 (RV.cell 1 O O aP) (RV.tmp O) (RV.tmp O) (congrArg ak.val (show (⟨0,0,0,0,0⟩:ak)=(aM r p kind rights).1 from by ((rw [iI ‹_› hZ oT uc ‹_›];rfl)))) (rI (by ((rw [iI ‹_› hZ oT uc ‹_›];done)))) (eP (by decide) (by ((rw [iI ‹_› hZ oT uc ‹_›];done))))
 ·
  refine R.q (q.gu O O Tryz.underlying35 (by omega)) O<|R.nil ?_
  refine R.aE O O ?_
  refine R.reg O<|R.q (q.build (cs:=cC) eK O O) O<|R.u 1 O<|R.s O (s.st (us:=cC) (cs':=cC) 1 _ O O O O (.inl aP) O O O O) fun _=>R.u 2 O<|R.nil ?_
  exact R.CV O Tryz.results80 (RV.cell 1 O O aP) (RV.tmp O) (RV.tmp O) (congrArg ak.val (show (⟨0,0,0,0,0⟩:ak)=(aM r p kind rights).1 from by ((rw [jN ‹_›];rfl)))) (rI (by ((rw [jN ‹_›];done)))) (rE (by ((rw [jN ‹_›];done))))
theorem xd (aD az aB aC:Value)(r:ar)(p:Place)(d:ByteArray)(w:World)(own:List Nat)(H:Wd w (blks []++own) ([]++[ag.held w own]) [ag.ls aD (r.ai:List ak),ag.ls az (r.Things:List ao),ag.ls aB (r.Held:List Held),ag.ls aC (r.Notes:List Note)] w)(hk:Ok r):Calls Tryz.prog 35 #[.agg #[aD,az,aB,aC,iV r.ae,iV r.af],.agg #[iV p.aj,iV p.Slot],.string d] w fun e w' => ∃z:Value×Value×Value×Value,e = .returned (.tuple #[.agg #[z.1,z.2.1,z.2.2.1,z.2.2.2,iV ((((cd r p d)).1).ae),iV ((((cd r p d)).1).af)],fc (((cd r p d)).2)])∧Wd w (blks []++own) ([]++[ag.held w own]) [ag.ls z.1 ((((cd r p d)).1).ai:List ak),ag.ls z.2.1 ((((cd r p d)).1).Things:List ao),ag.ls z.2.2.1 ((((cd r p d)).1).Held:List Held),ag.ls z.2.2.2 ((((cd r p d)).1).Notes:List Note)] w':=by
 have cS:=H.ct 0 rfl
 have cy:=H.ct 1 rfl
 have dq:=H.ct 2 rfl
 have cT:=H.ct 3 rfl
 have bw:=hk.wl;have bt:=hk.tl;have bh:=hk.hl;have bn:=hk.nl;have rL:=hk.w0;have rM:=hk.w1;have rN:=hk.t0;have rO:=hk.t1
 refine R.da (n:=38) (vs:=[.agg #[aD,az,aB,aC,iV r.ae,iV r.af],.agg #[iV p.aj,iV p.Slot],.string d]) (B:=[ag.held w own]) [(0,.agg #[aD,az,aB,aC,iV r.ae,iV r.af]),(1,.agg #[iV p.aj,iV p.Slot]),(2,.string d)] Tryz.func35 O O O O H ?_
 refine R.reg O<|R.s O (s.box (cs:=[aD,az,aB,aC,iV r.ae,iV r.af]) O O O) fun b1=>R.s O (s.box (cs:=av p) O O O) fun b2=>R.s O (s.alloc (cs:=aG) cp O O) fun b3=>R.u 1 O<|R.nil ?_
 refine R.reg O<|R.q (q.cj 2 O O ap) O<|R.q (q.cj 1 O O aS) O<|R.c (q.call AH O O (fun w hw=>(rP _ _ _ _ (r) (p) (1) (2) w (hw.bq 0 O) (hw.bq 1 O) (hw.bq 2 O) (hw.bq 3 O) ‹_› (by omega)))) O<|R.u 4 O<|R.s O (s.alloc (cs:=cC) bF O O) fun b4=>R.s O (s.st (us:=ay ((aM r p 1 2).1)) (cs':=ay ((aM r p 1 2).1)) 0 _ O O O O (.inl aP) O O O O) fun _=>R.u 2 O<|R.nil ?_
 refine R.reg O<|R.u 1 O<|?_
 by_cases h1:(aM r p 1 2).2.2=0
 ·
  obtain ⟨m1,m2,m3,i,ix,ik,ih,ii,id,ib⟩:=iJ h1;have iB:=(List.getElem?_eq_some_iff.1 ih).1
  refine R.q (q.gj O O Tryz.underlying35 (by omega)) O<|R.nil ?_
  refine R.aF O O ?_
  refine R.reg O<|R.u 1 O<|R.q (q.lV O Tryz.underlying9) O<|?_
  by_cases h2:8<d.size
  ·
   refine R.q (q.gtr O O (decide_eq_true (by omega))) O<|R.nil ?_
   refine R.aE O O ?_
   refine R.reg O<|R.q (q.build (cs:=aG) cz O O) O<|R.q (q.iface O cL) O<|R.s O (s.st (us:=aG) (cs':=aG) 1 _ O O O O (.inl ap) O O O O) fun _=>R.u 1 O<|R.nil ?_
   refine R.mp (fun _ hw=>hw.aR (α:=ak)) ?_
   refine R.mp (fun _ hw=>hw.aR (α:=ao)) ?_
   refine R.mp (fun _ hw=>hw.aR (α:=Held)) ?_
   refine R.mp (fun _ hw=>hw.aR (α:=Note)) ?_
   have hz:cd r p d=((⟨[],[],[],[],0,0⟩:ar),2):=by (unfold cd eY;(repeat' split) <;> rfl)
   rw [hz]
   exact R.w2 ((nS),(nS),(nS),(nS)) [4] dj O Tryz.results35 (RV.cell 1 O O ap) (RV.tmp O) O O O (cD O (eP (by decide) O))
  ·
   refine R.q (q.gtr O O (decide_eq_false (by omega))) O<|R.nil ?_
   refine R.aF O O ?_
   refine R.reg O<|R.q (q.aT (off':=1) O bM O) O<|R.q (q.ld 3 O O cq O) O<|R.s (B':=(fun aN:Value=>[ag.row 62 aN r.Things,ag.box b4 (ay ((aM r p 1 2).1)) 88,ag.box b3 aG 32,ag.box b2 (av p) 39,ag.box b1 [aD,az,aB,aC,iV r.ae,iV r.af] 32,ag.held w own])) (F':=(fun aN:Value=>[ag.ls aD r.ai,ag.ls az r.Things,ag.ls aB r.Held,ag.ls aC r.Notes])) O (s.bP (B0:=[]) (Br:=[ag.box b4 (ay ((aM r p 1 2).1)) 88,ag.box b3 aG 32,ag.box b2 (av p) 39,ag.box b1 [aD,az,aB,aC,iV r.ae,iV r.af] 32,ag.held w own]) (F0:=[ag.ls az r.Things]) cZ [1] (fun aN:Value=>aN) (fun aN:Value=>[ag.row 62 aN r.Things]) (fun aN:Value=>[]) O O O yu O O (fun w own hw H=>iq az (r.Things) w own H (by omega)) O) fun z1=>R.q (q.aT (off':=1) O bM O) O<|R.s O (s.dy (us:=[z1]) (cs':=[aD,z1,aB,aC,iV r.ae,iV r.af]) 4 _ O O O (fun w hw=>Sl.cm (hw.row 0 O)) (.inr ⟨cq,rfl⟩) (fun w hw=>(ah (Sl.one (hw.row 0 O)) aL)) O O O) fun _=>R.nil ?_
   refine R.reg O<|R.q (q.aT (off':=1) O bM O) O<|R.q (q.ld 4 O O cq O) O<|R.u 2 O<|?_
   obtain ⟨x1,hx1⟩:∃z,r.Things[((aM r p 1 2).2.1).toNat]? = some z:=⟨_,List.getElem?_eq_getElem (by omega)⟩
   refine R.q (q.idx (i:=((aM r p 1 2).2.1).toNat) (cJ 0 O) O O ew (by omega) hx1) O<|R.q (q.dF (j':=2) (cJ 0 O) hx1 O mO O) O<|R.s O (s.stP (o:=2) (z:=(⟨x1.ID,x1.Kind,d⟩:ao)) (us:=[.string d]) 0 _ O hx1 O O O O O (by simp [Value.oneCell']) (.inr ⟨bV,rfl⟩) O) fun _=>R.nil ?_
   refine R.reg O<|R.q (q.cj 4 O O ap) O<|R.s O (s.dy (us:=[aD,z1,aB,aC,iV r.ae,iV r.af]) (cs':=[aD,z1,aB,aC,iV r.ae,iV r.af]) 2 _ O O O (fun _ _=>rfl) (.inl ap) (fun w hw=>(ah (Sl.one (hw.bq 0 O)) (ah (Sl.one (hw.row 0 O)) (ah (Sl.one (hw.bq 2 O)) (ah (Sl.one (hw.bq 3 O)) (ah O (ah O aL))))))) O O O) fun _=>R.u 1 O<|R.nil ?_
   refine R.mp (B':=[ag.box b4 (ay ((aM r p 1 2).1)) 88,ag.box b3 [aD,z1,aB,aC,iV r.ae,iV r.af] 32,ag.box b2 (av p) 39,ag.box b1 [aD,z1,aB,aC,iV r.ae,iV r.af] 32,ag.held w own]) (fun _ hw=>hw.bH 0 _ O O) ?_
   have hz:cd r p d=((⟨r.ai,(r.Things.set (((aM r p 1 2).2.1).toNat) (⟨x1.ID,x1.Kind,d⟩:ao)),r.Held,r.Notes,r.ae,r.af⟩:ar),0):=by (unfold cd eY;(repeat' split) <;> first|rfl|(exfalso;omega)|(simp_all;done))
   rw [hz]
   exact R.w2 (aD,z1,aB,aC) [4] [1,0,3,4] O Tryz.results35 (RV.cell 1 O O ap) (RV.tmp O) O O O (cD O (i6 O))
 ·
  refine R.q (q.gu O O Tryz.underlying35 (by omega)) O<|R.nil ?_
  refine R.aE O O ?_
  refine R.reg O<|R.q (q.build (cs:=aG) cz O O) O<|R.u 1 O<|R.s O (s.st (us:=aG) (cs':=aG) 1 _ O O O O (.inl ap) O O O O) fun _=>R.u 1 O<|R.nil ?_
  refine R.mp (fun _ hw=>hw.aR (α:=ak)) ?_
  refine R.mp (fun _ hw=>hw.aR (α:=ao)) ?_
  refine R.mp (fun _ hw=>hw.aR (α:=Held)) ?_
  refine R.mp (fun _ hw=>hw.aR (α:=Note)) ?_
  have hz:cd r p d=((⟨[],[],[],[],0,0⟩:ar),(aM r p 1 2).2.2):=by (unfold cd eY;(repeat' split) <;> first|rfl|(exfalso;omega)|(simp_all;done))
  rw [hz]
  exact R.w2 ((nS),(nS),(nS),(nS)) [4] dj O Tryz.results35 (RV.cell 1 O O ap) (RV.tmp O) O O O (cD O O)
set_option maxRecDepth 100000 in
theorem zx (aD az aB aC:Value)(r:ar)(p:Place)(d:ByteArray)(slot:Int)(rights:Int)(w:World)(own:List Nat)(H:Wd w (blks []++own) ([]++[ag.held w own]) [ag.ls aD (r.ai:List ak),ag.ls az (r.Things:List ao),ag.ls aB (r.Held:List Held),ag.ls aC (r.Notes:List Note)] w)(hk:Ok r):Calls Tryz.prog 36 #[.agg #[aD,az,aB,aC,iV r.ae,iV r.af],.agg #[iV p.aj,iV p.Slot],.string d,iV slot,iV rights] w fun e w' => ∃z:Value×Value×Value×Value,e = .returned (.tuple #[.agg #[z.1,z.2.1,z.2.2.1,z.2.2.2,iV ((((bU r p d slot rights)).1).ae),iV ((((bU r p d slot rights)).1).af)],fc (((bU r p d slot rights)).2)])∧Wd w (blks []++own) ([]++[ag.held w own]) [ag.ls z.1 ((((bU r p d slot rights)).1).ai:List ak),ag.ls z.2.1 ((((bU r p d slot rights)).1).Things:List ao),ag.ls z.2.2.1 ((((bU r p d slot rights)).1).Held:List Held),ag.ls z.2.2.2 ((((bU r p d slot rights)).1).Notes:List Note)] w':=by
 have cS:=H.ct 0 rfl
 have cy:=H.ct 1 rfl
 have dq:=H.ct 2 rfl
 have cT:=H.ct 3 rfl
 have bw:=hk.wl;have bt:=hk.tl;have bh:=hk.hl;have bn:=hk.nl;have rL:=hk.w0;have rM:=hk.w1;have rN:=hk.t0;have rO:=hk.t1
 refine R.da (n:=116) (vs:=[.agg #[aD,az,aB,aC,iV r.ae,iV r.af],.agg #[iV p.aj,iV p.Slot],.string d,iV slot,iV rights]) (B:=[ag.held w own]) [(0,.agg #[aD,az,aB,aC,iV r.ae,iV r.af]),(1,.agg #[iV p.aj,iV p.Slot]),(2,.string d),(3,iV slot),(4,iV rights)] Tryz.func36 O O O O H ?_
 refine R.reg O<|R.s O (s.box (cs:=[aD,az,aB,aC,iV r.ae,iV r.af]) O O O) fun b1=>R.s O (s.box (cs:=av p) O O O) fun b2=>R.s O (s.alloc (cs:=aG) cp O O) fun b3=>R.u 1 O<|R.nil ?_
 refine R.reg O<|R.q (q.cj 2 O O ap) O<|R.q (q.cj 1 O O aS) O<|R.c (q.call AH O O (fun w hw=>(rP _ _ _ _ (r) (p) (2) (2) w (hw.bq 0 O) (hw.bq 1 O) (hw.bq 2 O) (hw.bq 3 O) ‹_› (by omega)))) O<|R.u 4 O<|R.s O (s.alloc (cs:=cC) bF O O) fun b4=>R.s O (s.st (us:=ay ((aM r p 2 2).1)) (cs':=ay ((aM r p 2 2).1)) 0 _ O O O O (.inl aP) O O O O) fun _=>R.u 2 O<|R.nil ?_
 refine R.reg O<|R.u 1 O<|?_
 by_cases h1:(aM r p 2 2).2.2=0
 ·
  have mz:=iJ h1;have mr:=hk.get mz.1;rw [← mz.2.1] at mr
  refine R.q (q.gj O O Tryz.underlying35 (by omega)) O<|R.nil ?_
  refine R.aF O O ?_
  refine R.reg O<|R.u 1 O<|R.q (q.lV O Tryz.underlying9) O<|?_
  by_cases h2:8<d.size
  ·
   refine R.q (q.gtr O O (decide_eq_true (by omega))) O<|R.nil ?_
   refine R.aE O O ?_
   refine R.reg O<|R.q (q.build (cs:=aG) cz O O) O<|R.q (q.iface O cL) O<|R.s O (s.st (us:=aG) (cs':=aG) 1 _ O O O O (.inl ap) O O O O) fun _=>R.u 1 O<|R.nil ?_
   refine R.mp (fun _ hw=>hw.aR (α:=ak)) ?_
   refine R.mp (fun _ hw=>hw.aR (α:=ao)) ?_
   refine R.mp (fun _ hw=>hw.aR (α:=Held)) ?_
   refine R.mp (fun _ hw=>hw.aR (α:=Note)) ?_
   have hz:bU r p d slot rights=((⟨[],[],[],[],0,0⟩:ar),2):=by (unfold bU;(repeat' split) <;> rfl)
   rw [hz]
   exact R.w2 ((nS),(nS),(nS),(nS)) [4] dj O Tryz.results36 (RV.cell 1 O O ap) (RV.tmp O) O O O (cD O (eP (by decide) O))
  ·
   refine R.q (q.gtr O O (decide_eq_false (by omega))) O<|R.nil ?_
   refine R.aF O O ?_
   refine R.reg O<|R.u 1 O<|R.nil ?_
   refine R.reg O<|R.q (q.aT (off':=3) O br O) O<|R.q (q.ld 3 O O bN O) O<|R.q (q.len' (bJ 3 O) O Tryz.underlying30) O<|R.u 1 O<|R.nil ?_
   refine R.loop (fun g_:Nat×Nat=>[(2,.string d),(3,iV slot),(4,iV rights),(5,.pointer (some ⟨b1,0,none⟩)),(6,.pointer (some ⟨b2,0,none⟩)),(10,.pointer (some ⟨b3,0,none⟩)),(12,.pointer (some ⟨b4,0,none⟩)),(15,iV (g_.2:Int)),(39,aC),(40,iV (r.Notes.length:Int)),(41,iV (g_.1:Int))]) (fun g_=>[ag.box b4 (ay ((aM r p 2 2).1)) 88,ag.box b3 aG 32,ag.box b2 (av p) 39,ag.box b1 [aD,az,aB,aC,iV r.ae,iV r.af] 32,ag.held w own]) (fun g_=>[ag.ls aD r.ai,ag.ls az r.Things,ag.ls aB r.Held,ag.ls aC r.Notes]) (fun g_=>g_.1≤r.Notes.length∧g_.2=eM (r.Notes.take g_.1) (aM r p 2 2).1.ao) (fun g_=>r.Notes.length-g_.1) (0,0) O (by exact ⟨by omega,by simp [eM]⟩) ⟨rfl,rfl,rfl,rfl,rfl,rfl,rfl,rfl,rfl,rfl,rfl,trivial⟩ (fun _=>Wd.pick cZ bm O O O) ?_
   rintro ⟨k,c⟩ ⟨hk1,HC⟩
   dsimp only at *
   have hc1:c≤k:=by rw [HC];exact yD
   refine R.reg O<|?_
   by_cases h3:k<r.Notes.length
   ·
    refine R.q (q.lss O O (decide_eq_true (by omega))) O<|R.nil ?_
    refine R.aE O O ?_
    refine R.reg O<|?_
    obtain ⟨x1,hx1⟩:∃z,r.Notes[k]? = some z:=⟨_,List.getElem?_eq_getElem (by omega)⟩
    refine R.q (q.idx (i:=k) (bJ 3 O) O O du O hx1) O<|R.q (q.cY (ds:=bg x1) (bJ 3 O) hx1 O bO O) O<|R.s O (s.alloc (cs:=[iV 0,.string (⟨#[]⟩),iV 0,iV 0]) dv O O) fun b5=>R.s O (s.st (us:=bg x1) (cs':=bg x1) 0 _ O O O O (.inl bO) O O O O) fun _=>R.nil ?_
    refine R.reg O<|R.q (q.aT (off':=0) O gH O) O<|R.q (q.ld 0 O O aA O) O<|R.q (q.aT (off':=1) O dw O) O<|R.q (q.ld 1 O O aA O) O<|?_
    by_cases h4:x1.Port=((aM r p 2 2).1).ao
    ·
     refine R.q (q.eql O O (beq_iff_eq.2 (by omega))) O<|R.nil ?_
     refine R.aE O O ?_
     refine R.reg O<|R.u 1 O<|R.q (q.add (r:=((c+1:Nat):Int)) O O (wr (by omega))) O<|R.u 1 O<|R.nil ?_
     refine R.reg O<|R.q (q.add (r:=((k+1:Nat):Int)) O O (wr (by omega))) O<|R.u 1 O<|R.nil ?_
     refine R.back ((k+1),(c+1)) O (by (exact ⟨by omega,by rw [vG hx1 ‹_›,HC]⟩)) (by dsimp only;omega) ⟨rfl,rfl,rfl,rfl,rfl,rfl,rfl,rfl,rfl,rfl,rfl,trivial⟩ (aK [1,2,3,4,5] bm O O O)
    ·
     refine R.q (q.eql O O (beq_eq_false_iff_ne.2 (by omega))) O<|R.nil ?_
     refine R.aF O O ?_
     refine R.reg O<|R.q (q.add (r:=((k+1:Nat):Int)) O O (wr (by omega))) O<|R.u 1 O<|R.nil ?_
     refine R.back ((k+1),c) O (by (exact ⟨by omega,by rw [ta hx1 ‹_›,HC]⟩)) (by dsimp only;omega) ⟨rfl,rfl,rfl,rfl,rfl,rfl,rfl,rfl,rfl,rfl,rfl,trivial⟩ (aK [1,2,3,4,5] bm O O O)
   ·
    refine R.q (q.lss O O (decide_eq_false (by omega))) O<|R.nil ?_
    refine R.aF O O ?_
    refine R.reg O<|R.u 1 O<|?_
    by_cases h5:c=3
    ·
     refine R.q (q.eql O O (beq_iff_eq.2 (by omega))) O<|R.nil ?_
     refine R.aE O O ?_
     refine R.reg O<|R.q (q.build (cs:=aG) cz O O) O<|R.q (q.iface O cL) O<|R.s O (s.st (us:=aG) (cs':=aG) 1 _ O O O O (.inl ap) O O O O) fun _=>R.u 1 O<|R.nil ?_
     refine R.mp (fun _ hw=>hw.aR (α:=ak)) ?_
     refine R.mp (fun _ hw=>hw.aR (α:=ao)) ?_
     refine R.mp (fun _ hw=>hw.aR (α:=Held)) ?_
     refine R.mp (fun _ hw=>hw.aR (α:=Note)) ?_
     have hz:bU r p d slot rights=((⟨[],[],[],[],0,0⟩:ar),9):=by (rw [List.take_of_length_le (by omega)] at HC;subst HC;unfold bU;(repeat' split) <;> rfl)
     rw [hz]
     exact R.w2 ((nS),(nS),(nS),(nS)) [4] dj O Tryz.results36 (RV.cell 1 O O ap) (RV.tmp O) O O O (cD O (eP (by decide) O))
    ·
     refine R.q (q.eql O O (beq_eq_false_iff_ne.2 (by omega))) O<|R.nil ?_
     refine R.aF O O ?_
     refine R.reg O<|R.q (q.aT (off':=1) O dw O) O<|R.q (q.ld 0 O O aA O) O<|R.u 1 O<|R.q (q.aT (off':=3) O ei O) O<|R.q (q.ld 0 O O aA O) O<|R.q (q.build (cs:=[iV (((aM r p 2 2).1).ao),.string d,iV (((aM r p 2 2).1).aI),iV 0]) pN O O) O<|R.s O (s.alloc (cs:=[iV 0,.string (⟨#[]⟩),iV 0,iV 0]) dv O O) fun b6=>R.s O (s.st (us:=[iV (((aM r p 2 2).1).ao),.string d,iV (((aM r p 2 2).1).aI),iV 0]) (cs':=[iV (((aM r p 2 2).1).ao),.string d,iV (((aM r p 2 2).1).aI),iV 0]) 0 _ O O O O (.inl bO) O O O O) fun _=>R.nil ?_
     refine R.reg O<|R.u 1 O<|?_
     by_cases h6:slot<0
     ·
      refine R.q (q.geq O O (decide_eq_false (by omega))) O<|R.nil ?_
      refine R.aF O O ?_
      refine R.e8 (fuel:=8) (Wd w (blks []++own) [ag.box b6 [iV (((aM r p 2 2).1).ao),.string d,iV (((aM r p 2 2).1).aI),iV 0] 72,ag.box b4 (ay ((aM r p 2 2).1)) 88,ag.box b3 aG 32,ag.box b2 (av p) 39,ag.held w own] [ag.ls aD r.ai,ag.ls az r.Things,ag.ls aB r.Held,ag.ls aC r.Notes]) O mixed O ?_
      refine D.q (i:=0) O (by kernel_rfl) (aK nZ bm O O O) O (q.aT (off':=3) O br O) O<|D.q (i:=3) O (by kernel_rfl) (aK nZ bm O O O) O (q.cj 0 O O bO) O<|D.two (i:=1) (j:=4) (by kernel_rfl) O O ?_ ?_
      ·
       refine Do.s (s.c (Qt.a (q.ld 4 O O bN O)) O) (fun _=>(aK nZ bm O O O)) O fun _=>D.two (i:=2) (j:=4) (by kernel_rfl) O O ?_ ?_
       ·
        refine Do.s (B':=(fun aN:Value=>[ag.row 72 aN r.Notes,ag.box b6 [iV (((aM r p 2 2).1).ao),.string d,iV (((aM r p 2 2).1).aI),iV 0] 72,ag.box b4 (ay ((aM r p 2 2).1)) 88,ag.box b3 aG 32,ag.box b2 (av p) 39,ag.box b1 [aD,az,aB,aC,iV r.ae,iV r.af] 32,ag.held w own])) (F':=(fun aN:Value=>[ag.ls aD r.ai,ag.ls az r.Things,ag.ls aB r.Held,ag.ls aC r.Notes])) (s.bP (B0:=[]) (Br:=[ag.box b6 [iV (((aM r p 2 2).1).ao),.string d,iV (((aM r p 2 2).1).aI),iV 0] 72,ag.box b4 (ay ((aM r p 2 2).1)) 88,ag.box b3 aG 32,ag.box b2 (av p) 39,ag.box b1 [aD,az,aB,aC,iV r.ae,iV r.af] 32,ag.held w own]) (F0:=[ag.ls aC r.Notes]) ia [3] (fun aN:Value=>aN) (fun aN:Value=>[ag.row 72 aN r.Notes]) (fun aN:Value=>[]) O O O pR O O (fun w own hw H=>eZ aC (r.Notes) w own H (by omega)) O) (fun _=>(aK pH bm O O O)) O fun z2=>D.one (i:=4) (by kernel_rfl) O ?_
        refine Do.s (s.bs (l:=([(⟨((aM r p 2 2).1).ao,d,((aM r p 2 2).1).aI,0⟩:Note)]:List Note)) du dv O O O O O O O) (fun _=>(aK lN bm O O O)) O fun b7=>D.one (i:=5) (by kernel_rfl) O ?_
        refine Do.s (s.app (l2:=[(⟨((aM r p 2 2).1).ao,d,((aM r p 2 2).1).aI,0⟩:Note)]) 1 _ O O O (cJ 0 O) dL (by (simp;omega)) (by (simp;omega)) (fun _=>rfl) O) (fun _=>(aK lN bm O O O)) O fun v1=>D.q (i:=6) O (by kernel_rfl) (aK lN bm O O O) O (q.aT (off':=3) O br O) O<|D.one (i:=7) (by kernel_rfl) O ?_
        refine Do.s (s.dy (us:=[v1]) (cs':=[aD,az,aB,v1,iV r.ae,iV r.af]) 6 _ O O O (fun w hw=>Sl.cm (hw.row 1 O)) (.inr ⟨bN,rfl⟩) (fun w hw=>(ah (Sl.one (hw.row 1 O)) aL)) O O O) (fun _=>(aK lN bm O O O)) O fun _=>D.done (by kernel_rfl)<|R.reg O<|R.q (q.cj 6 O O ap) O<|R.s O (s.dy (us:=[aD,az,aB,v1,iV r.ae,iV r.af]) (cs':=[aD,az,aB,v1,iV r.ae,iV r.af]) 4 _ O O O (fun _ _=>rfl) (.inl ap) (fun w hw=>(ah (Sl.one (hw.bq 0 O)) (ah (Sl.one (hw.bq 1 O)) (ah (Sl.one (hw.bq 2 O)) (ah (Sl.one (hw.row 1 O)) (ah O (ah O aL))))))) O O O) fun _=>R.u 1 O<|R.nil ?_
        refine R.mp (B':=[ag.row 72 (.slice (some ⟨b7,0,none⟩) 1 1) ([(⟨((aM r p 2 2).1).ao,d,((aM r p 2 2).1).aI,0⟩:Note)]:List Note),ag.box b6 [iV (((aM r p 2 2).1).ao),.string d,iV (((aM r p 2 2).1).aI),iV 0] 72,ag.box b4 (ay ((aM r p 2 2).1)) 88,ag.box b3 [aD,az,aB,v1,iV r.ae,iV r.af] 32,ag.box b2 (av p) 39,ag.box b1 [aD,az,aB,v1,iV r.ae,iV r.af] 32,ag.held w own]) (fun _ hw=>hw.bH 1 _ O O) ?_
        have hz:bU r p d slot rights=((⟨r.ai,r.Things,r.Held,(r.Notes++([(⟨((aM r p 2 2).1).ao,d,((aM r p 2 2).1).aI,0⟩:Note)])),r.ae,r.af⟩:ar),0):=by (rw [List.take_of_length_le (by omega)] at HC;subst HC;unfold bU;(repeat' split) <;> rfl)
        rw [hz]
        exact R.w2 (aD,az,aB,v1) [6] qJ O Tryz.results36 (RV.cell 3 O O ap) (RV.tmp O) O O O (cD O (i6 O))
       ·
        refine Do.s (s.bs (l:=([(⟨((aM r p 2 2).1).ao,d,((aM r p 2 2).1).aI,0⟩:Note)]:List Note)) du dv O O O O O O O) (fun _=>(aK pH bm O O O)) O fun b8=>D.one (i:=2) (by kernel_rfl) O ?_
        refine Do.s (B':=(fun aN:Value=>[ag.row 72 aN r.Notes,ag.row 72 (.slice (some ⟨b8,0,none⟩) 1 1) ([(⟨((aM r p 2 2).1).ao,d,((aM r p 2 2).1).aI,0⟩:Note)]:List Note),ag.box b6 [iV (((aM r p 2 2).1).ao),.string d,iV (((aM r p 2 2).1).aI),iV 0] 72,ag.box b4 (ay ((aM r p 2 2).1)) 88,ag.box b3 aG 32,ag.box b2 (av p) 39,ag.box b1 [aD,az,aB,aC,iV r.ae,iV r.af] 32,ag.held w own])) (F':=(fun aN:Value=>[ag.ls aD r.ai,ag.ls az r.Things,ag.ls aB r.Held,ag.ls aC r.Notes])) (s.bP (B0:=[]) (Br:=[ag.row 72 (.slice (some ⟨b8,0,none⟩) 1 1) ([(⟨((aM r p 2 2).1).ao,d,((aM r p 2 2).1).aI,0⟩:Note)]:List Note),ag.box b6 [iV (((aM r p 2 2).1).ao),.string d,iV (((aM r p 2 2).1).aI),iV 0] 72,ag.box b4 (ay ((aM r p 2 2).1)) 88,ag.box b3 aG 32,ag.box b2 (av p) 39,ag.box b1 [aD,az,aB,aC,iV r.ae,iV r.af] 32,ag.held w own]) (F0:=[ag.ls aC r.Notes]) gW [3] (fun aN:Value=>aN) (fun aN:Value=>[ag.row 72 aN r.Notes]) (fun aN:Value=>[]) O O O pR O O (fun w own hw H=>eZ aC (r.Notes) w own H (by omega)) O) (fun _=>(aK lN bm O O O)) O fun z3=>D.one (i:=5) (by kernel_rfl) O ?_
        refine Do.s (s.app (l2:=[(⟨((aM r p 2 2).1).ao,d,((aM r p 2 2).1).aI,0⟩:Note)]) 0 _ O O O (cJ 1 O) dL (by (simp;omega)) (by (simp;omega)) (fun _=>rfl) O) (fun _=>(aK lN bm O O O)) O fun v2=>D.q (i:=6) O (by kernel_rfl) (aK lN bm O O O) O (q.aT (off':=3) O br O) O<|D.one (i:=7) (by kernel_rfl) O ?_
        refine Do.s (s.dy (us:=[v2]) (cs':=[aD,az,aB,v2,iV r.ae,iV r.af]) 6 _ O O O (fun w hw=>Sl.cm (hw.row 0 O)) (.inr ⟨bN,rfl⟩) (fun w hw=>(ah (Sl.one (hw.row 0 O)) aL)) O O O) (fun _=>(aK lN bm O O O)) O fun _=>D.done (by kernel_rfl)<|R.reg O<|R.q (q.cj 6 O O ap) O<|R.s O (s.dy (us:=[aD,az,aB,v2,iV r.ae,iV r.af]) (cs':=[aD,az,aB,v2,iV r.ae,iV r.af]) 4 _ O O O (fun _ _=>rfl) (.inl ap) (fun w hw=>(ah (Sl.one (hw.bq 0 O)) (ah (Sl.one (hw.bq 1 O)) (ah (Sl.one (hw.bq 2 O)) (ah (Sl.one (hw.row 0 O)) (ah O (ah O aL))))))) O O O) fun _=>R.u 1 O<|R.nil ?_
        refine R.mp (B':=[ag.row 72 (.slice (some ⟨b8,0,none⟩) 1 1) ([(⟨((aM r p 2 2).1).ao,d,((aM r p 2 2).1).aI,0⟩:Note)]:List Note),ag.box b6 [iV (((aM r p 2 2).1).ao),.string d,iV (((aM r p 2 2).1).aI),iV 0] 72,ag.box b4 (ay ((aM r p 2 2).1)) 88,ag.box b3 [aD,az,aB,v2,iV r.ae,iV r.af] 32,ag.box b2 (av p) 39,ag.box b1 [aD,az,aB,v2,iV r.ae,iV r.af] 32,ag.held w own]) (fun _ hw=>hw.bH 0 _ O O) ?_
        have hz:bU r p d slot rights=((⟨r.ai,r.Things,r.Held,(r.Notes++([(⟨((aM r p 2 2).1).ao,d,((aM r p 2 2).1).aI,0⟩:Note)])),r.ae,r.af⟩:ar),0):=by (rw [List.take_of_length_le (by omega)] at HC;subst HC;unfold bU;(repeat' split) <;> rfl)
        rw [hz]
        exact R.w2 (aD,az,aB,v2) [6] qJ O Tryz.results36 (RV.cell 3 O O ap) (RV.tmp O) O O O (cD O (i6 O))
      ·
       refine Do.s (s.bs (l:=([(⟨((aM r p 2 2).1).ao,d,((aM r p 2 2).1).aI,0⟩:Note)]:List Note)) du dv O O O O O O O) (fun _=>(aK pH bm O O O)) O fun b9=>D.one (i:=1) (by kernel_rfl) O ?_
       refine Do.s (s.c (Qt.a (q.ld 5 O O bN O)) O) (fun _=>(aK pH bm O O O)) O fun _=>D.one (i:=2) (by kernel_rfl) O ?_
       refine Do.s (B':=(fun aN:Value=>[ag.row 72 aN r.Notes,ag.row 72 (.slice (some ⟨b9,0,none⟩) 1 1) ([(⟨((aM r p 2 2).1).ao,d,((aM r p 2 2).1).aI,0⟩:Note)]:List Note),ag.box b6 [iV (((aM r p 2 2).1).ao),.string d,iV (((aM r p 2 2).1).aI),iV 0] 72,ag.box b4 (ay ((aM r p 2 2).1)) 88,ag.box b3 aG 32,ag.box b2 (av p) 39,ag.box b1 [aD,az,aB,aC,iV r.ae,iV r.af] 32,ag.held w own])) (F':=(fun aN:Value=>[ag.ls aD r.ai,ag.ls az r.Things,ag.ls aB r.Held,ag.ls aC r.Notes])) (s.bP (B0:=[]) (Br:=[ag.row 72 (.slice (some ⟨b9,0,none⟩) 1 1) ([(⟨((aM r p 2 2).1).ao,d,((aM r p 2 2).1).aI,0⟩:Note)]:List Note),ag.box b6 [iV (((aM r p 2 2).1).ao),.string d,iV (((aM r p 2 2).1).aI),iV 0] 72,ag.box b4 (ay ((aM r p 2 2).1)) 88,ag.box b3 aG 32,ag.box b2 (av p) 39,ag.box b1 [aD,az,aB,aC,iV r.ae,iV r.af] 32,ag.held w own]) (F0:=[ag.ls aC r.Notes]) gW [3] (fun aN:Value=>aN) (fun aN:Value=>[ag.row 72 aN r.Notes]) (fun aN:Value=>[]) O O O pR O O (fun w own hw H=>eZ aC (r.Notes) w own H (by omega)) O) (fun _=>(aK lN bm O O O)) O fun z4=>D.one (i:=5) (by kernel_rfl) O ?_
       refine Do.s (s.app (l2:=[(⟨((aM r p 2 2).1).ao,d,((aM r p 2 2).1).aI,0⟩:Note)]) 0 _ O O O (cJ 1 O) dL (by (simp;omega)) (by (simp;omega)) (fun _=>rfl) O) (fun _=>(aK lN bm O O O)) O fun v3=>D.q (i:=6) O (by kernel_rfl) (aK lN bm O O O) O (q.aT (off':=3) O br O) O<|D.one (i:=7) (by kernel_rfl) O ?_
       refine Do.s (s.dy (us:=[v3]) (cs':=[aD,az,aB,v3,iV r.ae,iV r.af]) 6 _ O O O (fun w hw=>Sl.cm (hw.row 0 O)) (.inr ⟨bN,rfl⟩) (fun w hw=>(ah (Sl.one (hw.row 0 O)) aL)) O O O) (fun _=>(aK lN bm O O O)) O fun _=>D.done (by kernel_rfl)<|R.reg O<|R.q (q.cj 6 O O ap) O<|R.s O (s.dy (us:=[aD,az,aB,v3,iV r.ae,iV r.af]) (cs':=[aD,az,aB,v3,iV r.ae,iV r.af]) 4 _ O O O (fun _ _=>rfl) (.inl ap) (fun w hw=>(ah (Sl.one (hw.bq 0 O)) (ah (Sl.one (hw.bq 1 O)) (ah (Sl.one (hw.bq 2 O)) (ah (Sl.one (hw.row 0 O)) (ah O (ah O aL))))))) O O O) fun _=>R.u 1 O<|R.nil ?_
       refine R.mp (B':=[ag.row 72 (.slice (some ⟨b9,0,none⟩) 1 1) ([(⟨((aM r p 2 2).1).ao,d,((aM r p 2 2).1).aI,0⟩:Note)]:List Note),ag.box b6 [iV (((aM r p 2 2).1).ao),.string d,iV (((aM r p 2 2).1).aI),iV 0] 72,ag.box b4 (ay ((aM r p 2 2).1)) 88,ag.box b3 [aD,az,aB,v3,iV r.ae,iV r.af] 32,ag.box b2 (av p) 39,ag.box b1 [aD,az,aB,v3,iV r.ae,iV r.af] 32,ag.held w own]) (fun _ hw=>hw.bH 0 _ O O) ?_
       have hz:bU r p d slot rights=((⟨r.ai,r.Things,r.Held,(r.Notes++([(⟨((aM r p 2 2).1).ao,d,((aM r p 2 2).1).aI,0⟩:Note)])),r.ae,r.af⟩:ar),0):=by (rw [List.take_of_length_le (by omega)] at HC;subst HC;unfold bU;(repeat' split) <;> rfl)
       rw [hz]
       exact R.w2 (aD,az,aB,v3) [6] qJ O Tryz.results36 (RV.cell 3 O O ap) (RV.tmp O) O O O (cD O (i6 O))
     ·
      refine R.q (q.geq O O (decide_eq_true (by omega))) O<|R.nil ?_
      refine R.aE O O ?_
      refine R.reg O<|R.q (q.aT (off':=2) O fj O) O<|R.q (q.ld 1 O O aA O) O<|?_
      rcases Bool.eq_false_or_eq_true (fF (((aM r p 2 2).1).Rights) 4) with h7|h7
      ·
       refine R.c (q.call pP O O (fun w hw=>(cv (congrArg Value.bool h7) (fA (((aM r p 2 2).1).Rights) (4) w  (by omega) (by omega))))) O<|R.u 1 O<|R.nil ?_
       refine R.aF O O ?_
       refine R.reg O<|R.q (q.cj 4 O O ap) O<|R.q (q.aT (off':=0) O cF O) O<|R.q (q.ld 3 O O aA O) O<|R.u 1 O<|R.q (q.build (cs:=[iV p.aj,iV slot]) nu O O) O<|R.c (q.call sT O O (fun w hw=>(mX _ _ _ _ (r) ((⟨p.aj,slot⟩:Place)) w (hw.bq 0 O) (hw.bq 1 O) (hw.bq 2 O) (hw.bq 3 O) ‹_›))) O<|R.u 3 O<|R.s O (s.alloc (cs:=cC) bF O O) fun b10=>R.s O (s.st (us:=ay ((au r (⟨p.aj,slot⟩:Place)).1)) (cs':=ay ((au r (⟨p.aj,slot⟩:Place)).1)) 0 _ O O O O (.inl aP) O O O O) fun _=>R.u 1 O<|R.nil ?_
       refine R.reg O<|R.u 1 O<|?_
       by_cases h8:(au r (⟨p.aj,slot⟩:Place)).2=0
       ·
        have Kh:=hk.get h8
        have hn0:∀x,(bz r x ⟨0,0⟩).Notes.length≤2000:=fun x=>hk.nl
        have hnz:=hn0 (derived (au r ⟨p.aj,slot⟩).1 r.ae rights 0).1
        refine R.q (q.gj O O Tryz.underlying35 (by omega)) O<|R.nil ?_
        refine R.aF O O ?_
        refine R.reg O<|R.q (q.aT (off':=4) O bW O) O<|R.q (q.ld 5 O O aA O) O<|?_
        by_cases h9:999<r.ae
        ·
         refine R.q (q.gtr O O (decide_eq_true (by omega))) O<|R.nil ?_
         refine R.aE O O ?_
         refine R.reg O<|R.q (q.build (cs:=aG) cz O O) O<|R.q (q.iface O cL) O<|R.s O (s.st (us:=aG) (cs':=aG) 3 _ O O O O (.inl ap) O O O O) fun _=>R.u 1 O<|R.nil ?_
         refine R.mp (fun _ hw=>hw.aR (α:=ak)) ?_
         refine R.mp (fun _ hw=>hw.aR (α:=ao)) ?_
         refine R.mp (fun _ hw=>hw.aR (α:=Held)) ?_
         refine R.mp (fun _ hw=>hw.aR (α:=Note)) ?_
         have hz:bU r p d slot rights=((⟨[],[],[],[],0,0⟩:ar),9):=by (rw [List.take_of_length_le (by omega)] at HC;subst HC;unfold bU;(repeat' split) <;> rfl)
         rw [hz]
         exact R.w2 ((nS),(nS),(nS),(nS)) [6] dj O Tryz.results36 (RV.cell 3 O O ap) (RV.tmp O) O O O (cD O (eP (by decide) O))
        ·
         refine R.q (q.gtr O O (decide_eq_false (by omega))) O<|R.nil ?_
         refine R.aF O O ?_
         refine R.reg O<|R.q (q.cj 0 O O aP) O<|R.q (q.aT (off':=4) O bW O) O<|R.q (q.ld 5 O O aA O) O<|R.u 1 O<|R.c (q.call u7 O O (fun w hw=>(jI (((au r (⟨p.aj,slot⟩:Place)).1)) (r.ae) (rights) (0) w  (by omega)))) O<|R.u 3 O<|R.s O (s.alloc (cs:=cC) bF O O) fun b11=>R.s O (s.st (us:=ay ((derived ((au r (⟨p.aj,slot⟩:Place)).1) r.ae rights 0).1)) (cs':=ay ((derived ((au r (⟨p.aj,slot⟩:Place)).1) r.ae rights 0).1)) 0 _ O O O O (.inl aP) O O O O) fun _=>R.u 1 O<|R.nil ?_
         refine R.reg O<|R.u 1 O<|?_
         by_cases h10:(derived ((au r (⟨p.aj,slot⟩:Place)).1) r.ae rights 0).2=0
         ·
          refine R.q (q.gj O O Tryz.underlying35 (by omega)) O<|R.nil ?_
          refine R.aF O O ?_
          refine R.reg O<|R.q (q.cj 6 O O ap) O<|R.q (q.cj 0 O O aP) O<|R.q (q.build (cs:=[iV 0,iV 0]) nu O O) O<|R.s (B':=(fun g_:Value×Value×Value×Value=>[ag.box b11 (ay ((derived ((au r (⟨p.aj,slot⟩:Place)).1) r.ae rights 0).1)) 88,ag.box b10 (ay ((au r (⟨p.aj,slot⟩:Place)).1)) 88,ag.box b6 [iV (((aM r p 2 2).1).ao),.string d,iV (((aM r p 2 2).1).aI),iV 0] 72,ag.box b4 (ay ((aM r p 2 2).1)) 88,ag.box b3 aG 32,ag.box b2 (av p) 39,ag.box b1 [aD,az,aB,aC,iV r.ae,iV r.af] 32,ag.held w own])) (F':=(fun g_=>[ag.ls g_.1 ((bz r ((derived ((au r (⟨p.aj,slot⟩:Place)).1) r.ae rights 0).1) (⟨0,0⟩:Place))).ai,ag.ls g_.2.1 ((bz r ((derived ((au r (⟨p.aj,slot⟩:Place)).1) r.ae rights 0).1) (⟨0,0⟩:Place))).Things,ag.ls g_.2.2.1 ((bz r ((derived ((au r (⟨p.aj,slot⟩:Place)).1) r.ae rights 0).1) (⟨0,0⟩:Place))).Held,ag.ls g_.2.2.2 ((bz r ((derived ((au r (⟨p.aj,slot⟩:Place)).1) r.ae rights 0).1) (⟨0,0⟩:Place))).Notes,ag.ls aD r.ai,ag.ls az r.Things,ag.ls aB r.Held,ag.ls aC r.Notes])) O (s.bP (B0:=[]) (Br:=[ag.box b11 (ay ((derived ((au r (⟨p.aj,slot⟩:Place)).1) r.ae rights 0).1)) 88,ag.box b10 (ay ((au r (⟨p.aj,slot⟩:Place)).1)) 88,ag.box b6 [iV (((aM r p 2 2).1).ao),.string d,iV (((aM r p 2 2).1).aI),iV 0] 72,ag.box b4 (ay ((aM r p 2 2).1)) 88,ag.box b3 aG 32,ag.box b2 (av p) 39,ag.box b1 [aD,az,aB,aC,iV r.ae,iV r.af] 32,ag.held w own]) (F0:=[ag.ls aD r.ai,ag.ls az r.Things,ag.ls aB r.Held,ag.ls aC r.Notes]) bS bm (fun g_:Value×Value×Value×Value => .agg #[g_.1,g_.2.1,g_.2.2.1,g_.2.2.2,iV (((bz r ((derived ((au r (⟨p.aj,slot⟩:Place)).1) r.ae rights 0).1) (⟨0,0⟩:Place))).ae),iV (((bz r ((derived ((au r (⟨p.aj,slot⟩:Place)).1) r.ae rights 0).1) (⟨0,0⟩:Place))).af)]) (fun g_=>[]) (fun g_=>[ag.ls g_.1 ((bz r ((derived ((au r (⟨p.aj,slot⟩:Place)).1) r.ae rights 0).1) (⟨0,0⟩:Place))).ai,ag.ls g_.2.1 ((bz r ((derived ((au r (⟨p.aj,slot⟩:Place)).1) r.ae rights 0).1) (⟨0,0⟩:Place))).Things,ag.ls g_.2.2.1 ((bz r ((derived ((au r (⟨p.aj,slot⟩:Place)).1) r.ae rights 0).1) (⟨0,0⟩:Place))).Held,ag.ls g_.2.2.2 ((bz r ((derived ((au r (⟨p.aj,slot⟩:Place)).1) r.ae rights 0).1) (⟨0,0⟩:Place))).Notes]) O O O vd O O (fun w own hw H=>mC aD az aB aC (r) (((derived ((au r (⟨p.aj,slot⟩:Place)).1) r.ae rights 0).1)) ((⟨0,0⟩:Place)) w own H (by omega)) O) ?_
          rintro ⟨z5,z6,z7,z8⟩
          dsimp only
          refine R.s O (s.dy (us:=[z5,z6,z7,z8,iV ((bz r ((derived ((au r (⟨p.aj,slot⟩:Place)).1) r.ae rights 0).1) (⟨0,0⟩:Place)).ae),iV ((bz r ((derived ((au r (⟨p.aj,slot⟩:Place)).1) r.ae rights 0).1) (⟨0,0⟩:Place)).af)]) (cs':=[z5,z6,z7,z8,iV ((bz r ((derived ((au r (⟨p.aj,slot⟩:Place)).1) r.ae rights 0).1) (⟨0,0⟩:Place)).ae),iV ((bz r ((derived ((au r (⟨p.aj,slot⟩:Place)).1) r.ae rights 0).1) (⟨0,0⟩:Place)).af)]) 6 _ O O O (fun _ _=>rfl) (.inl ap) (fun w hw=>(ah (Sl.one (hw.bq 0 O)) (ah (Sl.one (hw.bq 1 O)) (ah (Sl.one (hw.bq 2 O)) (ah (Sl.one (hw.bq 3 O)) (ah O (ah O aL))))))) O O O) fun _=>R.nil ?_
          refine R.reg O<|R.q (q.aT (off':=0) O bI O) O<|R.q (q.ld 0 O O aA O) O<|R.q (q.aT (off':=3) O dE O) O<|R.s O (s.st (us:=[iV (((derived ((au r (⟨p.aj,slot⟩:Place)).1) r.ae rights 0).1).ID)]) (cs':=[iV (((aM r p 2 2).1).ao),.string d,iV (((aM r p 2 2).1).aI),iV (((derived ((au r (⟨p.aj,slot⟩:Place)).1) r.ae rights 0).1).ID)]) 2 _ O O O O (.inr ⟨aA,rfl⟩) O O O O) fun _=>R.nil ?_
          refine R.e8 (fuel:=8) (Wd w (blks []++own) [ag.box b11 (ay ((derived ((au r (⟨p.aj,slot⟩:Place)).1) r.ae rights 0).1)) 88,ag.box b10 (ay ((au r (⟨p.aj,slot⟩:Place)).1)) 88,ag.box b6 [iV (((aM r p 2 2).1).ao),.string d,iV (((aM r p 2 2).1).aI),iV (((derived ((au r (⟨p.aj,slot⟩:Place)).1) r.ae rights 0).1).ID)] 72,ag.box b4 (ay ((aM r p 2 2).1)) 88,ag.box b3 aG 32,ag.box b2 (av p) 39,ag.held w own] [ag.ls z5 (bz r ((derived ((au r (⟨p.aj,slot⟩:Place)).1) r.ae rights 0).1) (⟨0,0⟩:Place)).ai,ag.ls z6 (bz r ((derived ((au r (⟨p.aj,slot⟩:Place)).1) r.ae rights 0).1) (⟨0,0⟩:Place)).Things,ag.ls z7 (bz r ((derived ((au r (⟨p.aj,slot⟩:Place)).1) r.ae rights 0).1) (⟨0,0⟩:Place)).Held,ag.ls z8 (bz r ((derived ((au r (⟨p.aj,slot⟩:Place)).1) r.ae rights 0).1) (⟨0,0⟩:Place)).Notes,ag.ls aD r.ai,ag.ls az r.Things,ag.ls aB r.Held,ag.ls aC r.Notes]) O mixed O ?_
          refine D.q (i:=0) O (by kernel_rfl) (aK [0,1,2,3,4,5,7] bS O O O) O (q.aT (off':=3) O br O) O<|D.q (i:=3) O (by kernel_rfl) (aK [0,1,2,3,4,5,7] bS O O O) O (q.cj 2 O O bO) O<|D.two (i:=1) (j:=4) (by kernel_rfl) O O ?_ ?_
          ·
           refine Do.s (s.c (Qt.a (q.ld 6 O O bN O)) O) (fun _=>(aK [0,1,2,3,4,5,7] bS O O O)) O fun _=>D.two (i:=2) (j:=4) (by kernel_rfl) O O ?_ ?_
           ·
            refine Do.s (B':=(fun aN:Value=>[ag.row 72 aN ((bz r ((derived ((au r (⟨p.aj,slot⟩:Place)).1) r.ae rights 0).1) (⟨0,0⟩:Place)).Notes),ag.box b11 (ay ((derived ((au r (⟨p.aj,slot⟩:Place)).1) r.ae rights 0).1)) 88,ag.box b10 (ay ((au r (⟨p.aj,slot⟩:Place)).1)) 88,ag.box b6 [iV (((aM r p 2 2).1).ao),.string d,iV (((aM r p 2 2).1).aI),iV (((derived ((au r (⟨p.aj,slot⟩:Place)).1) r.ae rights 0).1).ID)] 72,ag.box b4 (ay ((aM r p 2 2).1)) 88,ag.box b3 aG 32,ag.box b2 (av p) 39,ag.box b1 [z5,z6,z7,z8,iV ((bz r ((derived ((au r (⟨p.aj,slot⟩:Place)).1) r.ae rights 0).1) (⟨0,0⟩:Place)).ae),iV ((bz r ((derived ((au r (⟨p.aj,slot⟩:Place)).1) r.ae rights 0).1) (⟨0,0⟩:Place)).af)] 32,ag.held w own])) (F':=(fun aN:Value=>[ag.ls z5 (bz r ((derived ((au r (⟨p.aj,slot⟩:Place)).1) r.ae rights 0).1) (⟨0,0⟩:Place)).ai,ag.ls z6 (bz r ((derived ((au r (⟨p.aj,slot⟩:Place)).1) r.ae rights 0).1) (⟨0,0⟩:Place)).Things,ag.ls z7 (bz r ((derived ((au r (⟨p.aj,slot⟩:Place)).1) r.ae rights 0).1) (⟨0,0⟩:Place)).Held,ag.ls z8 (bz r ((derived ((au r (⟨p.aj,slot⟩:Place)).1) r.ae rights 0).1) (⟨0,0⟩:Place)).Notes,ag.ls aD r.ai,ag.ls az r.Things,ag.ls aB r.Held,ag.ls aC r.Notes])) (s.bP (B0:=[]) (Br:=[ag.box b11 (ay ((derived ((au r (⟨p.aj,slot⟩:Place)).1) r.ae rights 0).1)) 88,ag.box b10 (ay ((au r (⟨p.aj,slot⟩:Place)).1)) 88,ag.box b6 [iV (((aM r p 2 2).1).ao),.string d,iV (((aM r p 2 2).1).aI),iV (((derived ((au r (⟨p.aj,slot⟩:Place)).1) r.ae rights 0).1).ID)] 72,ag.box b4 (ay ((aM r p 2 2).1)) 88,ag.box b3 aG 32,ag.box b2 (av p) 39,ag.box b1 [z5,z6,z7,z8,iV ((bz r ((derived ((au r (⟨p.aj,slot⟩:Place)).1) r.ae rights 0).1) (⟨0,0⟩:Place)).ae),iV ((bz r ((derived ((au r (⟨p.aj,slot⟩:Place)).1) r.ae rights 0).1) (⟨0,0⟩:Place)).af)] 32,ag.held w own]) (F0:=[ag.ls z8 (bz r ((derived ((au r (⟨p.aj,slot⟩:Place)).1) r.ae rights 0).1) (⟨0,0⟩:Place)).Notes]) bS [3] (fun aN:Value=>aN) (fun aN:Value=>[ag.row 72 aN ((bz r ((derived ((au r (⟨p.aj,slot⟩:Place)).1) r.ae rights 0).1) (⟨0,0⟩:Place)).Notes)]) (fun aN:Value=>[]) O O O pR O O (fun w own hw H=>eZ z8 ((bz r ((derived ((au r (⟨p.aj,slot⟩:Place)).1) r.ae rights 0).1) (⟨0,0⟩:Place)).Notes) w own H (by omega)) O) (fun _=>(aK [1,2,3,4,5,6,8] bS O O O)) O fun jZ=>D.one (i:=4) (by kernel_rfl) O ?_
            refine Do.s (s.bs (l:=([(⟨((aM r p 2 2).1).ao,d,((aM r p 2 2).1).aI,((derived ((au r (⟨p.aj,slot⟩:Place)).1) r.ae rights 0).1).ID⟩:Note)]:List Note)) du dv O O O O O O O) (fun _=>(aK lO bS O O O)) O fun b12=>D.one (i:=5) (by kernel_rfl) O ?_
            refine Do.s (s.app (l2:=[(⟨((aM r p 2 2).1).ao,d,((aM r p 2 2).1).aI,((derived ((au r (⟨p.aj,slot⟩:Place)).1) r.ae rights 0).1).ID⟩:Note)]) 1 _ O O O (cJ 0 O) dL (by (simp;omega)) (by (simp;omega)) (fun _=>rfl) O) (fun _=>(aK lO bS O O O)) O fun v4=>D.q (i:=6) O (by kernel_rfl) (aK lO bS O O O) O (q.aT (off':=3) O br O) O<|D.one (i:=7) (by kernel_rfl) O ?_
            refine Do.s (s.dy (us:=[v4]) (cs':=[z5,z6,z7,v4,iV ((bz r ((derived ((au r (⟨p.aj,slot⟩:Place)).1) r.ae rights 0).1) (⟨0,0⟩:Place)).ae),iV ((bz r ((derived ((au r (⟨p.aj,slot⟩:Place)).1) r.ae rights 0).1) (⟨0,0⟩:Place)).af)]) 8 _ O O O (fun w hw=>Sl.cm (hw.row 1 O)) (.inr ⟨bN,rfl⟩) (fun w hw=>(ah (Sl.one (hw.row 1 O)) aL)) O O O) (fun _=>(aK lO bS O O O)) O fun _=>D.done (by kernel_rfl)<|R.reg O<|R.q (q.cj 8 O O ap) O<|R.s O (s.dy (us:=[z5,z6,z7,v4,iV ((bz r ((derived ((au r (⟨p.aj,slot⟩:Place)).1) r.ae rights 0).1) (⟨0,0⟩:Place)).ae),iV ((bz r ((derived ((au r (⟨p.aj,slot⟩:Place)).1) r.ae rights 0).1) (⟨0,0⟩:Place)).af)]) (cs':=[z5,z6,z7,v4,iV ((bz r ((derived ((au r (⟨p.aj,slot⟩:Place)).1) r.ae rights 0).1) (⟨0,0⟩:Place)).ae),iV ((bz r ((derived ((au r (⟨p.aj,slot⟩:Place)).1) r.ae rights 0).1) (⟨0,0⟩:Place)).af)]) 6 _ O O O (fun _ _=>rfl) (.inl ap) (fun w hw=>(ah (Sl.one (hw.bq 0 O)) (ah (Sl.one (hw.bq 1 O)) (ah (Sl.one (hw.bq 2 O)) (ah (Sl.one (hw.row 1 O)) (ah O (ah O aL))))))) O O O) fun _=>R.u 1 O<|R.nil ?_
            refine R.mp (B':=[ag.row 72 (.slice (some ⟨b12,0,none⟩) 1 1) ([(⟨((aM r p 2 2).1).ao,d,((aM r p 2 2).1).aI,((derived ((au r (⟨p.aj,slot⟩:Place)).1) r.ae rights 0).1).ID⟩:Note)]:List Note),ag.box b11 (ay ((derived ((au r (⟨p.aj,slot⟩:Place)).1) r.ae rights 0).1)) 88,ag.box b10 (ay ((au r (⟨p.aj,slot⟩:Place)).1)) 88,ag.box b6 [iV (((aM r p 2 2).1).ao),.string d,iV (((aM r p 2 2).1).aI),iV (((derived ((au r (⟨p.aj,slot⟩:Place)).1) r.ae rights 0).1).ID)] 72,ag.box b4 (ay ((aM r p 2 2).1)) 88,ag.box b3 [z5,z6,z7,v4,iV ((bz r ((derived ((au r (⟨p.aj,slot⟩:Place)).1) r.ae rights 0).1) (⟨0,0⟩:Place)).ae),iV ((bz r ((derived ((au r (⟨p.aj,slot⟩:Place)).1) r.ae rights 0).1) (⟨0,0⟩:Place)).af)] 32,ag.box b2 (av p) 39,ag.box b1 [z5,z6,z7,v4,iV ((bz r ((derived ((au r (⟨p.aj,slot⟩:Place)).1) r.ae rights 0).1) (⟨0,0⟩:Place)).ae),iV ((bz r ((derived ((au r (⟨p.aj,slot⟩:Place)).1) r.ae rights 0).1) (⟨0,0⟩:Place)).af)] 32,ag.held w own]) (fun _ hw=>hw.bH 1 _ O O) ?_
            have hz:bU r p d slot rights=((⟨(bz r ((derived ((au r (⟨p.aj,slot⟩:Place)).1) r.ae rights 0).1) (⟨0,0⟩:Place)).ai,(bz r ((derived ((au r (⟨p.aj,slot⟩:Place)).1) r.ae rights 0).1) (⟨0,0⟩:Place)).Things,(bz r ((derived ((au r (⟨p.aj,slot⟩:Place)).1) r.ae rights 0).1) (⟨0,0⟩:Place)).Held,(((bz r ((derived ((au r (⟨p.aj,slot⟩:Place)).1) r.ae rights 0).1) (⟨0,0⟩:Place)).Notes)++([(⟨((aM r p 2 2).1).ao,d,((aM r p 2 2).1).aI,((derived ((au r (⟨p.aj,slot⟩:Place)).1) r.ae rights 0).1).ID⟩:Note)])),(bz r ((derived ((au r (⟨p.aj,slot⟩:Place)).1) r.ae rights 0).1) (⟨0,0⟩:Place)).ae,(bz r ((derived ((au r (⟨p.aj,slot⟩:Place)).1) r.ae rights 0).1) (⟨0,0⟩:Place)).af⟩:ar),0):=by (rw [List.take_of_length_le (by omega)] at HC;subst HC;unfold bU;(repeat' split) <;> rfl)
            rw [hz]
            exact R.w2 (z5,z6,z7,v4) [8] qJ O Tryz.results36 (RV.cell 5 O O ap) (RV.tmp O) O O O (cD O (i6 O))
           ·
            refine Do.s (s.bs (l:=([(⟨((aM r p 2 2).1).ao,d,((aM r p 2 2).1).aI,((derived ((au r (⟨p.aj,slot⟩:Place)).1) r.ae rights 0).1).ID⟩:Note)]:List Note)) du dv O O O O O O O) (fun _=>(aK [1,2,3,4,5,6,8] bS O O O)) O fun b13=>D.one (i:=2) (by kernel_rfl) O ?_
            refine Do.s (B':=(fun aN:Value=>[ag.row 72 aN ((bz r ((derived ((au r (⟨p.aj,slot⟩:Place)).1) r.ae rights 0).1) (⟨0,0⟩:Place)).Notes),ag.row 72 (.slice (some ⟨b13,0,none⟩) 1 1) ([(⟨((aM r p 2 2).1).ao,d,((aM r p 2 2).1).aI,((derived ((au r (⟨p.aj,slot⟩:Place)).1) r.ae rights 0).1).ID⟩:Note)]:List Note),ag.box b11 (ay ((derived ((au r (⟨p.aj,slot⟩:Place)).1) r.ae rights 0).1)) 88,ag.box b10 (ay ((au r (⟨p.aj,slot⟩:Place)).1)) 88,ag.box b6 [iV (((aM r p 2 2).1).ao),.string d,iV (((aM r p 2 2).1).aI),iV (((derived ((au r (⟨p.aj,slot⟩:Place)).1) r.ae rights 0).1).ID)] 72,ag.box b4 (ay ((aM r p 2 2).1)) 88,ag.box b3 aG 32,ag.box b2 (av p) 39,ag.box b1 [z5,z6,z7,z8,iV ((bz r ((derived ((au r (⟨p.aj,slot⟩:Place)).1) r.ae rights 0).1) (⟨0,0⟩:Place)).ae),iV ((bz r ((derived ((au r (⟨p.aj,slot⟩:Place)).1) r.ae rights 0).1) (⟨0,0⟩:Place)).af)] 32,ag.held w own])) (F':=(fun aN:Value=>[ag.ls z5 (bz r ((derived ((au r (⟨p.aj,slot⟩:Place)).1) r.ae rights 0).1) (⟨0,0⟩:Place)).ai,ag.ls z6 (bz r ((derived ((au r (⟨p.aj,slot⟩:Place)).1) r.ae rights 0).1) (⟨0,0⟩:Place)).Things,ag.ls z7 (bz r ((derived ((au r (⟨p.aj,slot⟩:Place)).1) r.ae rights 0).1) (⟨0,0⟩:Place)).Held,ag.ls z8 (bz r ((derived ((au r (⟨p.aj,slot⟩:Place)).1) r.ae rights 0).1) (⟨0,0⟩:Place)).Notes,ag.ls aD r.ai,ag.ls az r.Things,ag.ls aB r.Held,ag.ls aC r.Notes])) (s.bP (B0:=[]) (Br:=[ag.row 72 (.slice (some ⟨b13,0,none⟩) 1 1) ([(⟨((aM r p 2 2).1).ao,d,((aM r p 2 2).1).aI,((derived ((au r (⟨p.aj,slot⟩:Place)).1) r.ae rights 0).1).ID⟩:Note)]:List Note),ag.box b11 (ay ((derived ((au r (⟨p.aj,slot⟩:Place)).1) r.ae rights 0).1)) 88,ag.box b10 (ay ((au r (⟨p.aj,slot⟩:Place)).1)) 88,ag.box b6 [iV (((aM r p 2 2).1).ao),.string d,iV (((aM r p 2 2).1).aI),iV (((derived ((au r (⟨p.aj,slot⟩:Place)).1) r.ae rights 0).1).ID)] 72,ag.box b4 (ay ((aM r p 2 2).1)) 88,ag.box b3 aG 32,ag.box b2 (av p) 39,ag.box b1 [z5,z6,z7,z8,iV ((bz r ((derived ((au r (⟨p.aj,slot⟩:Place)).1) r.ae rights 0).1) (⟨0,0⟩:Place)).ae),iV ((bz r ((derived ((au r (⟨p.aj,slot⟩:Place)).1) r.ae rights 0).1) (⟨0,0⟩:Place)).af)] 32,ag.held w own]) (F0:=[ag.ls z8 (bz r ((derived ((au r (⟨p.aj,slot⟩:Place)).1) r.ae rights 0).1) (⟨0,0⟩:Place)).Notes]) cU [3] (fun aN:Value=>aN) (fun aN:Value=>[ag.row 72 aN ((bz r ((derived ((au r (⟨p.aj,slot⟩:Place)).1) r.ae rights 0).1) (⟨0,0⟩:Place)).Notes)]) (fun aN:Value=>[]) O O O pR O O (fun w own hw H=>eZ z8 ((bz r ((derived ((au r (⟨p.aj,slot⟩:Place)).1) r.ae rights 0).1) (⟨0,0⟩:Place)).Notes) w own H (by omega)) O) (fun _=>(aK lO bS O O O)) O fun CW=>D.one (i:=5) (by kernel_rfl) O ?_
            refine Do.s (s.app (l2:=[(⟨((aM r p 2 2).1).ao,d,((aM r p 2 2).1).aI,((derived ((au r (⟨p.aj,slot⟩:Place)).1) r.ae rights 0).1).ID⟩:Note)]) 0 _ O O O (cJ 1 O) dL (by (simp;omega)) (by (simp;omega)) (fun _=>rfl) O) (fun _=>(aK lO bS O O O)) O fun v5=>D.q (i:=6) O (by kernel_rfl) (aK lO bS O O O) O (q.aT (off':=3) O br O) O<|D.one (i:=7) (by kernel_rfl) O ?_
            refine Do.s (s.dy (us:=[v5]) (cs':=[z5,z6,z7,v5,iV ((bz r ((derived ((au r (⟨p.aj,slot⟩:Place)).1) r.ae rights 0).1) (⟨0,0⟩:Place)).ae),iV ((bz r ((derived ((au r (⟨p.aj,slot⟩:Place)).1) r.ae rights 0).1) (⟨0,0⟩:Place)).af)]) 8 _ O O O (fun w hw=>Sl.cm (hw.row 0 O)) (.inr ⟨bN,rfl⟩) (fun w hw=>(ah (Sl.one (hw.row 0 O)) aL)) O O O) (fun _=>(aK lO bS O O O)) O fun _=>D.done (by kernel_rfl)<|R.reg O<|R.q (q.cj 8 O O ap) O<|R.s O (s.dy (us:=[z5,z6,z7,v5,iV ((bz r ((derived ((au r (⟨p.aj,slot⟩:Place)).1) r.ae rights 0).1) (⟨0,0⟩:Place)).ae),iV ((bz r ((derived ((au r (⟨p.aj,slot⟩:Place)).1) r.ae rights 0).1) (⟨0,0⟩:Place)).af)]) (cs':=[z5,z6,z7,v5,iV ((bz r ((derived ((au r (⟨p.aj,slot⟩:Place)).1) r.ae rights 0).1) (⟨0,0⟩:Place)).ae),iV ((bz r ((derived ((au r (⟨p.aj,slot⟩:Place)).1) r.ae rights 0).1) (⟨0,0⟩:Place)).af)]) 6 _ O O O (fun _ _=>rfl) (.inl ap) (fun w hw=>(ah (Sl.one (hw.bq 0 O)) (ah (Sl.one (hw.bq 1 O)) (ah (Sl.one (hw.bq 2 O)) (ah (Sl.one (hw.row 0 O)) (ah O (ah O aL))))))) O O O) fun _=>R.u 1 O<|R.nil ?_
            refine R.mp (B':=[ag.row 72 (.slice (some ⟨b13,0,none⟩) 1 1) ([(⟨((aM r p 2 2).1).ao,d,((aM r p 2 2).1).aI,((derived ((au r (⟨p.aj,slot⟩:Place)).1) r.ae rights 0).1).ID⟩:Note)]:List Note),ag.box b11 (ay ((derived ((au r (⟨p.aj,slot⟩:Place)).1) r.ae rights 0).1)) 88,ag.box b10 (ay ((au r (⟨p.aj,slot⟩:Place)).1)) 88,ag.box b6 [iV (((aM r p 2 2).1).ao),.string d,iV (((aM r p 2 2).1).aI),iV (((derived ((au r (⟨p.aj,slot⟩:Place)).1) r.ae rights 0).1).ID)] 72,ag.box b4 (ay ((aM r p 2 2).1)) 88,ag.box b3 [z5,z6,z7,v5,iV ((bz r ((derived ((au r (⟨p.aj,slot⟩:Place)).1) r.ae rights 0).1) (⟨0,0⟩:Place)).ae),iV ((bz r ((derived ((au r (⟨p.aj,slot⟩:Place)).1) r.ae rights 0).1) (⟨0,0⟩:Place)).af)] 32,ag.box b2 (av p) 39,ag.box b1 [z5,z6,z7,v5,iV ((bz r ((derived ((au r (⟨p.aj,slot⟩:Place)).1) r.ae rights 0).1) (⟨0,0⟩:Place)).ae),iV ((bz r ((derived ((au r (⟨p.aj,slot⟩:Place)).1) r.ae rights 0).1) (⟨0,0⟩:Place)).af)] 32,ag.held w own]) (fun _ hw=>hw.bH 0 _ O O) ?_
            have hz:bU r p d slot rights=((⟨(bz r ((derived ((au r (⟨p.aj,slot⟩:Place)).1) r.ae rights 0).1) (⟨0,0⟩:Place)).ai,(bz r ((derived ((au r (⟨p.aj,slot⟩:Place)).1) r.ae rights 0).1) (⟨0,0⟩:Place)).Things,(bz r ((derived ((au r (⟨p.aj,slot⟩:Place)).1) r.ae rights 0).1) (⟨0,0⟩:Place)).Held,(((bz r ((derived ((au r (⟨p.aj,slot⟩:Place)).1) r.ae rights 0).1) (⟨0,0⟩:Place)).Notes)++([(⟨((aM r p 2 2).1).ao,d,((aM r p 2 2).1).aI,((derived ((au r (⟨p.aj,slot⟩:Place)).1) r.ae rights 0).1).ID⟩:Note)])),(bz r ((derived ((au r (⟨p.aj,slot⟩:Place)).1) r.ae rights 0).1) (⟨0,0⟩:Place)).ae,(bz r ((derived ((au r (⟨p.aj,slot⟩:Place)).1) r.ae rights 0).1) (⟨0,0⟩:Place)).af⟩:ar),0):=by (rw [List.take_of_length_le (by omega)] at HC;subst HC;unfold bU;(repeat' split) <;> rfl)
            rw [hz]
            exact R.w2 (z5,z6,z7,v5) [8] qJ O Tryz.results36 (RV.cell 5 O O ap) (RV.tmp O) O O O (cD O (i6 O))
          ·
           refine Do.s (s.bs (l:=([(⟨((aM r p 2 2).1).ao,d,((aM r p 2 2).1).aI,((derived ((au r (⟨p.aj,slot⟩:Place)).1) r.ae rights 0).1).ID⟩:Note)]:List Note)) du dv O O O O O O O) (fun _=>(aK [1,2,3,4,5,6,8] bS O O O)) O fun b14=>D.one (i:=1) (by kernel_rfl) O ?_
           refine Do.s (s.c (Qt.a (q.ld 7 O O bN O)) O) (fun _=>(aK [1,2,3,4,5,6,8] bS O O O)) O fun _=>D.one (i:=2) (by kernel_rfl) O ?_
           refine Do.s (B':=(fun aN:Value=>[ag.row 72 aN ((bz r ((derived ((au r (⟨p.aj,slot⟩:Place)).1) r.ae rights 0).1) (⟨0,0⟩:Place)).Notes),ag.row 72 (.slice (some ⟨b14,0,none⟩) 1 1) ([(⟨((aM r p 2 2).1).ao,d,((aM r p 2 2).1).aI,((derived ((au r (⟨p.aj,slot⟩:Place)).1) r.ae rights 0).1).ID⟩:Note)]:List Note),ag.box b11 (ay ((derived ((au r (⟨p.aj,slot⟩:Place)).1) r.ae rights 0).1)) 88,ag.box b10 (ay ((au r (⟨p.aj,slot⟩:Place)).1)) 88,ag.box b6 [iV (((aM r p 2 2).1).ao),.string d,iV (((aM r p 2 2).1).aI),iV (((derived ((au r (⟨p.aj,slot⟩:Place)).1) r.ae rights 0).1).ID)] 72,ag.box b4 (ay ((aM r p 2 2).1)) 88,ag.box b3 aG 32,ag.box b2 (av p) 39,ag.box b1 [z5,z6,z7,z8,iV ((bz r ((derived ((au r (⟨p.aj,slot⟩:Place)).1) r.ae rights 0).1) (⟨0,0⟩:Place)).ae),iV ((bz r ((derived ((au r (⟨p.aj,slot⟩:Place)).1) r.ae rights 0).1) (⟨0,0⟩:Place)).af)] 32,ag.held w own])) (F':=(fun aN:Value=>[ag.ls z5 (bz r ((derived ((au r (⟨p.aj,slot⟩:Place)).1) r.ae rights 0).1) (⟨0,0⟩:Place)).ai,ag.ls z6 (bz r ((derived ((au r (⟨p.aj,slot⟩:Place)).1) r.ae rights 0).1) (⟨0,0⟩:Place)).Things,ag.ls z7 (bz r ((derived ((au r (⟨p.aj,slot⟩:Place)).1) r.ae rights 0).1) (⟨0,0⟩:Place)).Held,ag.ls z8 (bz r ((derived ((au r (⟨p.aj,slot⟩:Place)).1) r.ae rights 0).1) (⟨0,0⟩:Place)).Notes,ag.ls aD r.ai,ag.ls az r.Things,ag.ls aB r.Held,ag.ls aC r.Notes])) (s.bP (B0:=[]) (Br:=[ag.row 72 (.slice (some ⟨b14,0,none⟩) 1 1) ([(⟨((aM r p 2 2).1).ao,d,((aM r p 2 2).1).aI,((derived ((au r (⟨p.aj,slot⟩:Place)).1) r.ae rights 0).1).ID⟩:Note)]:List Note),ag.box b11 (ay ((derived ((au r (⟨p.aj,slot⟩:Place)).1) r.ae rights 0).1)) 88,ag.box b10 (ay ((au r (⟨p.aj,slot⟩:Place)).1)) 88,ag.box b6 [iV (((aM r p 2 2).1).ao),.string d,iV (((aM r p 2 2).1).aI),iV (((derived ((au r (⟨p.aj,slot⟩:Place)).1) r.ae rights 0).1).ID)] 72,ag.box b4 (ay ((aM r p 2 2).1)) 88,ag.box b3 aG 32,ag.box b2 (av p) 39,ag.box b1 [z5,z6,z7,z8,iV ((bz r ((derived ((au r (⟨p.aj,slot⟩:Place)).1) r.ae rights 0).1) (⟨0,0⟩:Place)).ae),iV ((bz r ((derived ((au r (⟨p.aj,slot⟩:Place)).1) r.ae rights 0).1) (⟨0,0⟩:Place)).af)] 32,ag.held w own]) (F0:=[ag.ls z8 (bz r ((derived ((au r (⟨p.aj,slot⟩:Place)).1) r.ae rights 0).1) (⟨0,0⟩:Place)).Notes]) cU [3] (fun aN:Value=>aN) (fun aN:Value=>[ag.row 72 aN ((bz r ((derived ((au r (⟨p.aj,slot⟩:Place)).1) r.ae rights 0).1) (⟨0,0⟩:Place)).Notes)]) (fun aN:Value=>[]) O O O pR O O (fun w own hw H=>eZ z8 ((bz r ((derived ((au r (⟨p.aj,slot⟩:Place)).1) r.ae rights 0).1) (⟨0,0⟩:Place)).Notes) w own H (by omega)) O) (fun _=>(aK lO bS O O O)) O fun z12=>D.one (i:=5) (by kernel_rfl) O ?_
           refine Do.s (s.app (l2:=[(⟨((aM r p 2 2).1).ao,d,((aM r p 2 2).1).aI,((derived ((au r (⟨p.aj,slot⟩:Place)).1) r.ae rights 0).1).ID⟩:Note)]) 0 _ O O O (cJ 1 O) dL (by (simp;omega)) (by (simp;omega)) (fun _=>rfl) O) (fun _=>(aK lO bS O O O)) O fun v6=>D.q (i:=6) O (by kernel_rfl) (aK lO bS O O O) O (q.aT (off':=3) O br O) O<|D.one (i:=7) (by kernel_rfl) O ?_
           refine Do.s (s.dy (us:=[v6]) (cs':=[z5,z6,z7,v6,iV ((bz r ((derived ((au r (⟨p.aj,slot⟩:Place)).1) r.ae rights 0).1) (⟨0,0⟩:Place)).ae),iV ((bz r ((derived ((au r (⟨p.aj,slot⟩:Place)).1) r.ae rights 0).1) (⟨0,0⟩:Place)).af)]) 8 _ O O O (fun w hw=>Sl.cm (hw.row 0 O)) (.inr ⟨bN,rfl⟩) (fun w hw=>(ah (Sl.one (hw.row 0 O)) aL)) O O O) (fun _=>(aK lO bS O O O)) O fun _=>D.done (by kernel_rfl)<|R.reg O<|R.q (q.cj 8 O O ap) O<|R.s O (s.dy (us:=[z5,z6,z7,v6,iV ((bz r ((derived ((au r (⟨p.aj,slot⟩:Place)).1) r.ae rights 0).1) (⟨0,0⟩:Place)).ae),iV ((bz r ((derived ((au r (⟨p.aj,slot⟩:Place)).1) r.ae rights 0).1) (⟨0,0⟩:Place)).af)]) (cs':=[z5,z6,z7,v6,iV ((bz r ((derived ((au r (⟨p.aj,slot⟩:Place)).1) r.ae rights 0).1) (⟨0,0⟩:Place)).ae),iV ((bz r ((derived ((au r (⟨p.aj,slot⟩:Place)).1) r.ae rights 0).1) (⟨0,0⟩:Place)).af)]) 6 _ O O O (fun _ _=>rfl) (.inl ap) (fun w hw=>(ah (Sl.one (hw.bq 0 O)) (ah (Sl.one (hw.bq 1 O)) (ah (Sl.one (hw.bq 2 O)) (ah (Sl.one (hw.row 0 O)) (ah O (ah O aL))))))) O O O) fun _=>R.u 1 O<|R.nil ?_
           refine R.mp (B':=[ag.row 72 (.slice (some ⟨b14,0,none⟩) 1 1) ([(⟨((aM r p 2 2).1).ao,d,((aM r p 2 2).1).aI,((derived ((au r (⟨p.aj,slot⟩:Place)).1) r.ae rights 0).1).ID⟩:Note)]:List Note),ag.box b11 (ay ((derived ((au r (⟨p.aj,slot⟩:Place)).1) r.ae rights 0).1)) 88,ag.box b10 (ay ((au r (⟨p.aj,slot⟩:Place)).1)) 88,ag.box b6 [iV (((aM r p 2 2).1).ao),.string d,iV (((aM r p 2 2).1).aI),iV (((derived ((au r (⟨p.aj,slot⟩:Place)).1) r.ae rights 0).1).ID)] 72,ag.box b4 (ay ((aM r p 2 2).1)) 88,ag.box b3 [z5,z6,z7,v6,iV ((bz r ((derived ((au r (⟨p.aj,slot⟩:Place)).1) r.ae rights 0).1) (⟨0,0⟩:Place)).ae),iV ((bz r ((derived ((au r (⟨p.aj,slot⟩:Place)).1) r.ae rights 0).1) (⟨0,0⟩:Place)).af)] 32,ag.box b2 (av p) 39,ag.box b1 [z5,z6,z7,v6,iV ((bz r ((derived ((au r (⟨p.aj,slot⟩:Place)).1) r.ae rights 0).1) (⟨0,0⟩:Place)).ae),iV ((bz r ((derived ((au r (⟨p.aj,slot⟩:Place)).1) r.ae rights 0).1) (⟨0,0⟩:Place)).af)] 32,ag.held w own]) (fun _ hw=>hw.bH 0 _ O O) ?_
           have hz:bU r p d slot rights=((⟨(bz r ((derived ((au r (⟨p.aj,slot⟩:Place)).1) r.ae rights 0).1) (⟨0,0⟩:Place)).ai,(bz r ((derived ((au r (⟨p.aj,slot⟩:Place)).1) r.ae rights 0).1) (⟨0,0⟩:Place)).Things,(bz r ((derived ((au r (⟨p.aj,slot⟩:Place)).1) r.ae rights 0).1) (⟨0,0⟩:Place)).Held,(((bz r ((derived ((au r (⟨p.aj,slot⟩:Place)).1) r.ae rights 0).1) (⟨0,0⟩:Place)).Notes)++([(⟨((aM r p 2 2).1).ao,d,((aM r p 2 2).1).aI,((derived ((au r (⟨p.aj,slot⟩:Place)).1) r.ae rights 0).1).ID⟩:Note)])),(bz r ((derived ((au r (⟨p.aj,slot⟩:Place)).1) r.ae rights 0).1) (⟨0,0⟩:Place)).ae,(bz r ((derived ((au r (⟨p.aj,slot⟩:Place)).1) r.ae rights 0).1) (⟨0,0⟩:Place)).af⟩:ar),0):=by (rw [List.take_of_length_le (by omega)] at HC;subst HC;unfold bU;(repeat' split) <;> rfl)
           rw [hz]
           exact R.w2 (z5,z6,z7,v6) [8] qJ O Tryz.results36 (RV.cell 5 O O ap) (RV.tmp O) O O O (cD O (i6 O))
         ·
          refine R.q (q.gu O O Tryz.underlying35 (by omega)) O<|R.nil ?_
          refine R.aE O O ?_
          refine R.reg O<|R.q (q.build (cs:=aG) cz O O) O<|R.u 1 O<|R.s O (s.st (us:=aG) (cs':=aG) 4 _ O O O O (.inl ap) O O O O) fun _=>R.u 1 O<|R.nil ?_
          refine R.mp (fun _ hw=>hw.aR (α:=ak)) ?_
          refine R.mp (fun _ hw=>hw.aR (α:=ao)) ?_
          refine R.mp (fun _ hw=>hw.aR (α:=Held)) ?_
          refine R.mp (fun _ hw=>hw.aR (α:=Note)) ?_
          have hz:bU r p d slot rights=((⟨[],[],[],[],0,0⟩:ar),(derived ((au r (⟨p.aj,slot⟩:Place)).1) r.ae rights 0).2):=by (rw [List.take_of_length_le (by omega)] at HC;subst HC;unfold bU;(repeat' split) <;> rfl)
          rw [hz]
          exact R.w2 ((nS),(nS),(nS),(nS)) [7] dj O Tryz.results36 (RV.cell 4 O O ap) (RV.tmp O) O O O (cD O O)
       ·
        refine R.q (q.gu O O Tryz.underlying35 (by omega)) O<|R.nil ?_
        refine R.aE O O ?_
        refine R.reg O<|R.q (q.build (cs:=aG) cz O O) O<|R.u 1 O<|R.s O (s.st (us:=aG) (cs':=aG) 3 _ O O O O (.inl ap) O O O O) fun _=>R.u 1 O<|R.nil ?_
        refine R.mp (fun _ hw=>hw.aR (α:=ak)) ?_
        refine R.mp (fun _ hw=>hw.aR (α:=ao)) ?_
        refine R.mp (fun _ hw=>hw.aR (α:=Held)) ?_
        refine R.mp (fun _ hw=>hw.aR (α:=Note)) ?_
        have hz:bU r p d slot rights=((⟨[],[],[],[],0,0⟩:ar),(au r (⟨p.aj,slot⟩:Place)).2):=by (rw [List.take_of_length_le (by omega)] at HC;subst HC;unfold bU;(repeat' split) <;> rfl)
        rw [hz]
        exact R.w2 ((nS),(nS),(nS),(nS)) [6] dj O Tryz.results36 (RV.cell 3 O O ap) (RV.tmp O) O O O (cD O O)
      ·
       refine R.c (q.call pP O O (fun w hw=>(cv (congrArg Value.bool h7) (fA (((aM r p 2 2).1).Rights) (4) w  (by omega) (by omega))))) O<|R.u 1 O<|R.nil ?_
       refine R.aE O O ?_
       refine R.reg O<|R.q (q.build (cs:=aG) cz O O) O<|R.q (q.iface O cL) O<|R.s O (s.st (us:=aG) (cs':=aG) 2 _ O O O O (.inl ap) O O O O) fun _=>R.u 1 O<|R.nil ?_
       refine R.mp (fun _ hw=>hw.aR (α:=ak)) ?_
       refine R.mp (fun _ hw=>hw.aR (α:=ao)) ?_
       refine R.mp (fun _ hw=>hw.aR (α:=Held)) ?_
       refine R.mp (fun _ hw=>hw.aR (α:=Note)) ?_
       have hz:bU r p d slot rights=((⟨[],[],[],[],0,0⟩:ar),7):=by (rw [List.take_of_length_le (by omega)] at HC;subst HC;unfold bU;(repeat' split) <;> first|rfl|(exfalso;omega)|(simp_all;done))
       rw [hz]
       exact R.w2 ((nS),(nS),(nS),(nS)) [5] dj O Tryz.results36 (RV.cell 2 O O ap) (RV.tmp O) O O O (cD O (eP (by decide) O))
 ·
  refine R.q (q.gu O O Tryz.underlying35 (by omega)) O<|R.nil ?_
  refine R.aE O O ?_
  refine R.reg O<|R.q (q.build (cs:=aG) cz O O) O<|R.u 1 O<|R.s O (s.st (us:=aG) (cs':=aG) 1 _ O O O O (.inl ap) O O O O) fun _=>R.u 1 O<|R.nil ?_
  refine R.mp (fun _ hw=>hw.aR (α:=ak)) ?_
  refine R.mp (fun _ hw=>hw.aR (α:=ao)) ?_
  refine R.mp (fun _ hw=>hw.aR (α:=Held)) ?_
  refine R.mp (fun _ hw=>hw.aR (α:=Note)) ?_
  have hz:bU r p d slot rights=((⟨[],[],[],[],0,0⟩:ar),(aM r p 2 2).2.2):=by (unfold bU;(repeat' split) <;> first|rfl|(exfalso;omega)|(simp_all;done))
  rw [hz]
  exact R.w2 ((nS),(nS),(nS),(nS)) [4] dj O Tryz.results36 (RV.cell 1 O O ap) (RV.tmp O) O O O (cD O O)
theorem zy (aD az aB aC:Value)(r:ar)(p:Place)(w:World)(own:List Nat)(H:Wd w (blks []++own) ([]++[ag.held w own]) [ag.ls aD (r.ai:List ak),ag.ls az (r.Things:List ao),ag.ls aB (r.Held:List Held),ag.ls aC (r.Notes:List Note)] w)(hk:Ok r):Calls Tryz.prog 37 #[.agg #[aD,az,aB,aC,iV r.ae,iV r.af],.agg #[iV p.aj,iV p.Slot]] w fun e w' => ∃z:Value×Value×Value×Value,e = .returned (.tuple #[.agg #[z.1,z.2.1,z.2.2.1,z.2.2.2,iV ((((bC r p)).1).ae),iV ((((bC r p)).1).af)],.agg #[iV ((((bC r p)).2.1).Port),.string ((((bC r p)).2.1).Data),iV ((((bC r p)).2.1).aI),iV ((((bC r p)).2.1).ak)],iV (((bC r p)).2.2.1),fc (((bC r p)).2.2.2)])∧Wd w (blks []++own) ([]++[ag.held w own]) [ag.ls z.1 ((((bC r p)).1).ai:List ak),ag.ls z.2.1 ((((bC r p)).1).Things:List ao),ag.ls z.2.2.1 ((((bC r p)).1).Held:List Held),ag.ls z.2.2.2 ((((bC r p)).1).Notes:List Note)] w':=by
 have cS:=H.ct 0 rfl
 have cy:=H.ct 1 rfl
 have dq:=H.ct 2 rfl
 have cT:=H.ct 3 rfl
 have bw:=hk.wl;have bt:=hk.tl;have bh:=hk.hl;have bn:=hk.nl;have rL:=hk.w0;have rM:=hk.w1;have rN:=hk.t0;have rO:=hk.t1
 refine R.da (n:=74) (vs:=[.agg #[aD,az,aB,aC,iV r.ae,iV r.af],.agg #[iV p.aj,iV p.Slot]]) (B:=[ag.held w own]) [(0,.agg #[aD,az,aB,aC,iV r.ae,iV r.af]),(1,.agg #[iV p.aj,iV p.Slot])] Tryz.func37 O O O O H ?_
 refine R.reg O<|R.s O (s.box (cs:=[aD,az,aB,aC,iV r.ae,iV r.af]) O O O) fun b1=>R.s O (s.box (cs:=av p) O O O) fun b2=>R.s O (s.alloc (cs:=aG) cp O O) fun b3=>R.s O (s.alloc (cs:=[iV 0,.string (⟨#[]⟩),iV 0,iV 0]) dv O O) fun b4=>R.u 2 O<|R.nil ?_
 refine R.reg O<|R.q (q.cj 3 O O ap) O<|R.q (q.cj 2 O O aS) O<|R.c (q.call AH O O (fun w hw=>(rP _ _ _ _ (r) (p) (2) (1) w (hw.bq 0 O) (hw.bq 1 O) (hw.bq 2 O) (hw.bq 3 O) ‹_› (by omega)))) O<|R.u 4 O<|R.s O (s.alloc (cs:=cC) bF O O) fun b5=>R.s O (s.st (us:=ay ((aM r p 2 1).1)) (cs':=ay ((aM r p 2 1).1)) 0 _ O O O O (.inl aP) O O O O) fun _=>R.u 2 O<|R.nil ?_
 refine R.reg O<|R.u 1 O<|?_
 by_cases h1:(aM r p 2 1).2.2=0
 ·
  refine R.q (q.gj O O Tryz.underlying35 (by omega)) O<|R.nil ?_
  refine R.aF O O ?_
  refine R.reg O<|R.q (q.aT (off':=3) O br O) O<|R.q (q.ld 4 O O bN O) O<|R.q (q.Gf (cap:=[.pointer (some ⟨b5,0,none⟩)]) O O) O<|?_
  rcases hJ (fun (t:Note)=>t.Port==((aM r p 2 1).1).ao) r.Notes with ⟨eU,ug⟩ | ⟨jL,jE,eU,hZ,oT,uc,Io⟩
  ·
   refine R.c (q.call ED O O (fun w hw=>(cv (congrArg (Value.int .i64) eU) (ke _ (r.Notes) (fun (t:Note)=>t.Port==((aM r p 2 1).1).ao) _ _ EE w (hw.bq 3 O) (fun W t hW=>p6 t (((aM r p 2 1).1)) _ W (ot (hw.b 0 O) hW) ) )))) O<|R.u 1 O<|R.nil ?_
   refine R.reg O<|R.u 1 O<|R.q (q.lss (b:=true) O O (by decide)) O<|R.nil ?_
   refine R.aE O O ?_
   refine R.reg O<|R.q (q.build (cs:=aG) cz O O) O<|R.q (q.build (cs:=[iV 0,.string (⟨#[]⟩),iV 0,iV 0]) pN O O) O<|R.q (q.iface O cL) O<|R.s O (s.st (us:=aG) (cs':=aG) 2 _ O O O O (.inl ap) O O O O) fun _=>R.s O (s.st (us:=[iV 0,.string (⟨#[]⟩),iV 0,iV 0]) (cs':=[iV 0,.string (⟨#[]⟩),iV 0,iV 0]) 1 _ O O O O (.inl bO) O O O O) fun _=>R.u 2 O<|R.nil ?_
   refine R.mp (fun _ hw=>hw.aR (α:=ak)) ?_
   refine R.mp (fun _ hw=>hw.aR (α:=ao)) ?_
   refine R.mp (fun _ hw=>hw.aR (α:=Held)) ?_
   refine R.mp (fun _ hw=>hw.aR (α:=Note)) ?_
   have hz:bC r p=((⟨[],[],[],[],0,0⟩:ar),(⟨0,⟨#[]⟩,0,0⟩:Note),0,5):=by (unfold bC;(rw [if_pos ‹_›,eU,show decide ((0:Int) ≤ -1)=false from rfl];cases r.Notes[(-1:Int).toNat]? <;> rfl))
   rw [hz]
   exact R.w4 ((nS),(nS),(nS),(nS)) [5] dj O Tryz.results37 (RV.cell 2 O O ap) (RV.cell 1 O O bO) (RV.tmp O) (RV.tmp O) O O O (oq O O O (eP (by decide) O))
  ·
   refine R.c (q.call ED O O (fun w hw=>(cv (congrArg (Value.int .i64) eU) (ke _ (r.Notes) (fun (t:Note)=>t.Port==((aM r p 2 1).1).ao) _ _ EE w (hw.bq 3 O) (fun W t hW=>p6 t (((aM r p 2 1).1)) _ W (ot (hw.b 0 O) hW) ) )))) O<|R.u 1 O<|R.nil ?_
   refine R.reg O<|R.u 1 O<|R.q (q.lss O O (decide_eq_false (by omega))) O<|R.nil ?_
   refine R.aF O O ?_
   refine R.reg O<|R.q (q.aT (off':=3) O br O) O<|R.q (q.ld 4 O O bN O) O<|R.u 1 O<|R.q (q.idx (i:=jL) (bJ 3 O) O O du O hZ) O<|R.q (q.cY (ds:=bg jE) (bJ 3 O) hZ O bO O) O<|R.s O (s.alloc (cs:=[iV 0,.string (⟨#[]⟩),iV 0,iV 0]) dv O O) fun b6=>R.s O (s.st (us:=bg jE) (cs':=bg jE) 0 _ O O O O (.inl bO) O O O O) fun _=>R.nil ?_
   refine R.reg O<|R.u 1 O<|R.nil ?_
   refine R.reg O<|R.q (q.aT (off':=3) O dE O) O<|R.q (q.ld 0 O O aA O) O<|?_
   by_cases h2:0<jE.ak
   ·
    refine R.q (q.gtr O O (decide_eq_true (by omega))) O<|R.nil ?_
    refine R.aE O O ?_
    refine R.reg O<|R.q (q.aT (off':=2) O bB O) O<|R.q (q.ld 5 O O bZ O) O<|R.q (q.aT (off':=0) O cF O) O<|R.q (q.ld 4 O O aA O) O<|R.c (q.call Ht O O (fun w hw=>(Bg _ (r.Held) (p.aj) w (hw.bq 2 O) (by omega)))) O<|R.u 1 O<|R.nil ?_
    refine R.reg O<|R.u 1 O<|?_
    by_cases h3:dA r.Held p.aj<0
    ·
     refine R.q (q.lss O O (decide_eq_true (by omega))) O<|R.nil ?_
     refine R.aE O O ?_
     refine R.reg O<|R.q (q.build (cs:=aG) cz O O) O<|R.q (q.build (cs:=[iV 0,.string (⟨#[]⟩),iV 0,iV 0]) pN O O) O<|R.q (q.iface O cL) O<|R.s O (s.st (us:=aG) (cs':=aG) 3 _ O O O O (.inl ap) O O O O) fun _=>R.s O (s.st (us:=[iV 0,.string (⟨#[]⟩),iV 0,iV 0]) (cs':=[iV 0,.string (⟨#[]⟩),iV 0,iV 0]) 2 _ O O O O (.inl bO) O O O O) fun _=>R.u 2 O<|R.nil ?_
     refine R.mp (fun _ hw=>hw.aR (α:=ak)) ?_
     refine R.mp (fun _ hw=>hw.aR (α:=ao)) ?_
     refine R.mp (fun _ hw=>hw.aR (α:=Held)) ?_
     refine R.mp (fun _ hw=>hw.aR (α:=Note)) ?_
     have hz:bC r p=((⟨[],[],[],[],0,0⟩:ar),(⟨0,⟨#[]⟩,0,0⟩:Note),0,9):=by (unfold bC;(rw [if_pos ‹_›,eU,Int.toNat_natCast,hZ,decide_eq_true (by omega)];dsimp only;(repeat' split) <;> rfl))
     rw [hz]
     exact R.w4 ((nS),(nS),(nS),(nS)) [6] dj O Tryz.results37 (RV.cell 3 O O ap) (RV.cell 2 O O bO) (RV.tmp O) (RV.tmp O) O O O (oq O O O (eP (by decide) O))
    ·
     refine R.q (q.lss O O (decide_eq_false (by omega))) O<|R.nil ?_
     refine R.aF O O ?_
     refine R.reg O<|R.q (q.aT (off':=2) O bB O) O<|R.q (q.ld 5 O O bZ O) O<|R.q (q.aT (off':=0) O cF O) O<|R.q (q.ld 4 O O aA O) O<|R.u 1 O<|R.q (q.build (cs:=[iV p.aj,iV (dA r.Held p.aj)]) nu O O) O<|R.q (q.aT (off':=3) O dE O) O<|R.q (q.ld 0 O O aA O) O<|R.s (B':=(fun aN:Value=>[ag.row 85 aN (cw r.Held (⟨p.aj,dA r.Held p.aj⟩:Place) jE.ak),ag.box b6 (bg jE) 72,ag.box b5 (ay ((aM r p 2 1).1)) 88,ag.box b4 [iV 0,.string (⟨#[]⟩),iV 0,iV 0] 72,ag.box b3 aG 32,ag.box b2 (av p) 39,ag.box b1 [aD,az,aB,aC,iV r.ae,iV r.af] 32,ag.held w own])) (F':=(fun aN:Value=>[ag.ls aD r.ai,ag.ls az r.Things,ag.ls aB r.Held,ag.ls aC r.Notes])) O (s.bP (B0:=[]) (Br:=[ag.box b6 (bg jE) 72,ag.box b5 (ay ((aM r p 2 1).1)) 88,ag.box b4 [iV 0,.string (⟨#[]⟩),iV 0,iV 0] 72,ag.box b3 aG 32,ag.box b2 (av p) 39,ag.box b1 [aD,az,aB,aC,iV r.ae,iV r.af] 32,ag.held w own]) (F0:=[ag.ls aB r.Held]) gW [2] (fun aN:Value=>aN) (fun aN:Value=>[ag.row 85 aN (cw r.Held (⟨p.aj,dA r.Held p.aj⟩:Place) jE.ak)]) (fun aN:Value=>[]) O O O sU O O (fun w own hw H=>mS aB (r.Held) ((⟨p.aj,dA r.Held p.aj⟩:Place)) (jE.ak) w own H (by omega)) O) fun z1=>R.q (q.aT (off':=2) O bB O) O<|R.s O (s.dy (us:=[z1]) (cs':=[aD,az,z1,aC,iV r.ae,iV r.af]) 6 _ O O O (fun w hw=>Sl.cm (hw.row 0 O)) (.inr ⟨bZ,rfl⟩) (fun w hw=>(ah (Sl.one (hw.row 0 O)) aL)) O O O) fun _=>R.nil ?_
     refine R.reg O<|R.q (q.aT (off':=3) O br O) O<|R.q (q.ld 6 O O bN O) O<|R.s (B':=(fun aN:Value=>[ag.row 72 aN r.Notes,ag.row 85 z1 (cw r.Held (⟨p.aj,dA r.Held p.aj⟩:Place) jE.ak),ag.box b6 (bg jE) 72,ag.box b5 (ay ((aM r p 2 1).1)) 88,ag.box b4 [iV 0,.string (⟨#[]⟩),iV 0,iV 0] 72,ag.box b3 aG 32,ag.box b2 (av p) 39,ag.box b1 [aD,az,z1,aC,iV r.ae,iV r.af] 32,ag.held w own])) (F':=(fun aN:Value=>[ag.ls aD r.ai,ag.ls az r.Things,ag.ls aB r.Held,ag.ls aC r.Notes])) O (s.bP (B0:=[]) (Br:=[ag.row 85 z1 (cw r.Held (⟨p.aj,dA r.Held p.aj⟩:Place) jE.ak),ag.box b6 (bg jE) 72,ag.box b5 (ay ((aM r p 2 1).1)) 88,ag.box b4 [iV 0,.string (⟨#[]⟩),iV 0,iV 0] 72,ag.box b3 aG 32,ag.box b2 (av p) 39,ag.box b1 [aD,az,z1,aC,iV r.ae,iV r.af] 32,ag.held w own]) (F0:=[ag.ls aC r.Notes]) bS [3] (fun aN:Value=>aN) (fun aN:Value=>[ag.row 72 aN r.Notes]) (fun aN:Value=>[]) O O O pR O O (fun w own hw H=>eZ aC (r.Notes) w own H (by omega)) O) fun z2=>R.u 2 O<|R.q (q.add (r:=((jL+1:Nat):Int)) O O (wr (by omega))) O<|R.s (B':=(fun aN:Value=>[ag.row 72 aN (r.Notes.take jL++r.Notes.drop (jL+1)),ag.row 85 z1 (cw r.Held (⟨p.aj,dA r.Held p.aj⟩:Place) jE.ak),ag.box b6 (bg jE) 72,ag.box b5 (ay ((aM r p 2 1).1)) 88,ag.box b4 [iV 0,.string (⟨#[]⟩),iV 0,iV 0] 72,ag.box b3 aG 32,ag.box b2 (av p) 39,ag.box b1 [aD,az,z1,aC,iV r.ae,iV r.af] 32,ag.held w own])) (F':=(fun aN:Value=>[ag.ls aD r.ai,ag.ls az r.Things,ag.ls aB r.Held,ag.ls aC r.Notes])) O (s.bP (B0:=[ag.row 72 z2 r.Notes]) (Br:=[ag.row 85 z1 (cw r.Held (⟨p.aj,dA r.Held p.aj⟩:Place) jE.ak),ag.box b6 (bg jE) 72,ag.box b5 (ay ((aM r p 2 1).1)) 88,ag.box b4 [iV 0,.string (⟨#[]⟩),iV 0,iV 0] 72,ag.box b3 aG 32,ag.box b2 (av p) 39,ag.box b1 [aD,az,z1,aC,iV r.ae,iV r.af] 32,ag.held w own]) (F0:=[]) cU [] (fun aN:Value=>aN) (fun aN:Value=>[ag.row 72 aN (r.Notes.take jL++r.Notes.drop (jL+1))]) (fun aN:Value=>[]) O O O EF O O (fun w own hw H=>mB z2 (r.Notes) (jL) ((jL+1)) w own H (by omega)) O) fun z3=>R.q (q.aT (off':=3) O br O) O<|R.s O (s.dy (us:=[z3]) (cs':=[aD,az,z1,z3,iV r.ae,iV r.af]) 7 _ O O O (fun w hw=>Sl.cm (hw.row 0 O)) (.inr ⟨bN,rfl⟩) (fun w hw=>(ah (Sl.one (hw.row 0 O)) aL)) O O O) fun _=>R.nil ?_
     refine R.e8 (fuel:=7) (Wd w (blks []++own) [ag.row 72 z3 (r.Notes.take jL++r.Notes.drop (jL+1)),ag.row 85 z1 (cw r.Held (⟨p.aj,dA r.Held p.aj⟩:Place) jE.ak),ag.box b6 (bg jE) 72,ag.box b5 (ay ((aM r p 2 1).1)) 88,ag.box b2 (av p) 39,ag.box b1 [aD,az,z1,z3,iV r.ae,iV r.af] 32,ag.held w own] [ag.ls aD r.ai,ag.ls az r.Things,ag.ls aB r.Held,ag.ls aC r.Notes]) O mixed O ?_
     refine D.q (i:=0) O (by kernel_rfl) (aK qK bm O O O) O (q.cj 5 O O ap) O<|D.q (i:=1) O (by kernel_rfl) (aK qK bm O O O) O (q.cj 2 O O bO) O<|D.q (i:=2) O (by kernel_rfl) (aK qK bm O O O) O (q.mv O) O<|D.one (i:=3) (by kernel_rfl) O ?_
     refine Do.s (s.dy (us:=[aD,az,z1,z3,iV r.ae,iV r.af]) (cs':=[aD,az,z1,z3,iV r.ae,iV r.af]) 5 _ O O O (fun _ _=>rfl) (.inl ap) (fun w hw=>(ah (Sl.one (hw.bq 0 O)) (ah (Sl.one (hw.bq 1 O)) (ah (Sl.one (hw.row 1 O)) (ah (Sl.one (hw.row 0 O)) (ah O (ah O aL))))))) O O O) (fun _=>(aK qK bm O O O)) O fun _=>D.one (i:=4) (by kernel_rfl) O ?_
     refine Do.s (s.st (us:=bg jE) (cs':=bg jE) 4 _ O O O O (.inl bO) O O O O) (fun _=>(aK qK bm O O O)) O fun _=>D.q (i:=5) O (by kernel_rfl) (aK qK bm O O O) O (q.as O) O<|D.q (i:=6) O (by kernel_rfl) (aK qK bm O O O) O (q.as O) O<|D.done (by kernel_rfl)<|R.mp (B':=[ag.row 72 z3 (r.Notes.take jL++r.Notes.drop (jL+1)),ag.box b6 (bg jE) 72,ag.box b5 (ay ((aM r p 2 1).1)) 88,ag.box b4 (bg jE) 72,ag.box b3 [aD,az,z1,z3,iV r.ae,iV r.af] 32,ag.box b2 (av p) 39,ag.box b1 [aD,az,z1,z3,iV r.ae,iV r.af] 32,ag.held w own]) (fun _ hw=>hw.bH 1 _ O O) ?_
     refine R.mp (B':=[ag.box b6 (bg jE) 72,ag.box b5 (ay ((aM r p 2 1).1)) 88,ag.box b4 (bg jE) 72,ag.box b3 [aD,az,z1,z3,iV r.ae,iV r.af] 32,ag.box b2 (av p) 39,ag.box b1 [aD,az,z1,z3,iV r.ae,iV r.af] 32,ag.held w own]) (fun _ hw=>hw.bH 0 _ O O) ?_
     have hz:bC r p=((⟨r.ai,r.Things,cw r.Held (⟨p.aj,dA r.Held p.aj⟩:Place) jE.ak,r.Notes.take jL++r.Notes.drop (jL+1),r.ae,r.af⟩:ar),jE,dA r.Held p.aj,0):=by (unfold bC;(rw [if_pos ‹_›,eU,Int.toNat_natCast,hZ,decide_eq_true (by omega)];dsimp only;(repeat' split) <;> rfl))
     rw [hz]
     exact R.w4 (aD,az,z1,z3) [6] [2,3,1,0] O Tryz.results37 (RV.cell 3 O O ap) (RV.cell 2 O O bO) (RV.tmp O) (RV.tmp O) O O O (oq O O O (i6 O))
   ·
    refine R.q (q.gtr O O (decide_eq_false (by omega))) O<|R.nil ?_
    refine R.aF O O ?_
    refine R.reg O<|R.q (q.aT (off':=3) O br O) O<|R.q (q.ld 5 O O bN O) O<|R.s (B':=(fun aN:Value=>[ag.row 72 aN r.Notes,ag.box b6 (bg jE) 72,ag.box b5 (ay ((aM r p 2 1).1)) 88,ag.box b4 [iV 0,.string (⟨#[]⟩),iV 0,iV 0] 72,ag.box b3 aG 32,ag.box b2 (av p) 39,ag.box b1 [aD,az,aB,aC,iV r.ae,iV r.af] 32,ag.held w own])) (F':=(fun aN:Value=>[ag.ls aD r.ai,ag.ls az r.Things,ag.ls aB r.Held,ag.ls aC r.Notes])) O (s.bP (B0:=[]) (Br:=[ag.box b6 (bg jE) 72,ag.box b5 (ay ((aM r p 2 1).1)) 88,ag.box b4 [iV 0,.string (⟨#[]⟩),iV 0,iV 0] 72,ag.box b3 aG 32,ag.box b2 (av p) 39,ag.box b1 [aD,az,aB,aC,iV r.ae,iV r.af] 32,ag.held w own]) (F0:=[ag.ls aC r.Notes]) gW [3] (fun aN:Value=>aN) (fun aN:Value=>[ag.row 72 aN r.Notes]) (fun aN:Value=>[]) O O O pR O O (fun w own hw H=>eZ aC (r.Notes) w own H (by omega)) O) fun z4=>R.u 2 O<|R.q (q.add (r:=((jL+1:Nat):Int)) O O (wr (by omega))) O<|R.s (B':=(fun aN:Value=>[ag.row 72 aN (r.Notes.take jL++r.Notes.drop (jL+1)),ag.box b6 (bg jE) 72,ag.box b5 (ay ((aM r p 2 1).1)) 88,ag.box b4 [iV 0,.string (⟨#[]⟩),iV 0,iV 0] 72,ag.box b3 aG 32,ag.box b2 (av p) 39,ag.box b1 [aD,az,aB,aC,iV r.ae,iV r.af] 32,ag.held w own])) (F':=(fun aN:Value=>[ag.ls aD r.ai,ag.ls az r.Things,ag.ls aB r.Held,ag.ls aC r.Notes])) O (s.bP (B0:=[ag.row 72 z4 r.Notes]) (Br:=[ag.box b6 (bg jE) 72,ag.box b5 (ay ((aM r p 2 1).1)) 88,ag.box b4 [iV 0,.string (⟨#[]⟩),iV 0,iV 0] 72,ag.box b3 aG 32,ag.box b2 (av p) 39,ag.box b1 [aD,az,aB,aC,iV r.ae,iV r.af] 32,ag.held w own]) (F0:=[]) bS [] (fun aN:Value=>aN) (fun aN:Value=>[ag.row 72 aN (r.Notes.take jL++r.Notes.drop (jL+1))]) (fun aN:Value=>[]) O O O EF O O (fun w own hw H=>mB z4 (r.Notes) (jL) ((jL+1)) w own H (by omega)) O) fun z5=>R.q (q.aT (off':=3) O br O) O<|R.s O (s.dy (us:=[z5]) (cs':=[aD,az,aB,z5,iV r.ae,iV r.af]) 6 _ O O O (fun w hw=>Sl.cm (hw.row 0 O)) (.inr ⟨bN,rfl⟩) (fun w hw=>(ah (Sl.one (hw.row 0 O)) aL)) O O O) fun _=>R.nil ?_
    refine R.e8 (fuel:=7) (Wd w (blks []++own) [ag.row 72 z5 (r.Notes.take jL++r.Notes.drop (jL+1)),ag.box b6 (bg jE) 72,ag.box b5 (ay ((aM r p 2 1).1)) 88,ag.box b2 (av p) 39,ag.box b1 [aD,az,aB,z5,iV r.ae,iV r.af] 32,ag.held w own] [ag.ls aD r.ai,ag.ls az r.Things,ag.ls aB r.Held,ag.ls aC r.Notes]) O mixed O ?_
    refine D.q (i:=0) O (by kernel_rfl) (aK qL bm O O O) O (q.cj 4 O O ap) O<|D.q (i:=1) O (by kernel_rfl) (aK qL bm O O O) O (q.cj 1 O O bO) O<|D.q (i:=2) O (by kernel_rfl) (aK qL bm O O O) O (q.mv O) O<|D.one (i:=3) (by kernel_rfl) O ?_
    refine Do.s (s.dy (us:=[aD,az,aB,z5,iV r.ae,iV r.af]) (cs':=[aD,az,aB,z5,iV r.ae,iV r.af]) 4 _ O O O (fun _ _=>rfl) (.inl ap) (fun w hw=>(ah (Sl.one (hw.bq 0 O)) (ah (Sl.one (hw.bq 1 O)) (ah (Sl.one (hw.bq 2 O)) (ah (Sl.one (hw.row 0 O)) (ah O (ah O aL))))))) O O O) (fun _=>(aK qL bm O O O)) O fun _=>D.one (i:=4) (by kernel_rfl) O ?_
    refine Do.s (s.st (us:=bg jE) (cs':=bg jE) 3 _ O O O O (.inl bO) O O O O) (fun _=>(aK qL bm O O O)) O fun _=>D.q (i:=5) O (by kernel_rfl) (aK qL bm O O O) O (q.as O) O<|D.q (i:=6) O (by kernel_rfl) (aK qL bm O O O) O (q.as O) O<|D.done (by kernel_rfl)<|R.mp (B':=[ag.box b6 (bg jE) 72,ag.box b5 (ay ((aM r p 2 1).1)) 88,ag.box b4 (bg jE) 72,ag.box b3 [aD,az,aB,z5,iV r.ae,iV r.af] 32,ag.box b2 (av p) 39,ag.box b1 [aD,az,aB,z5,iV r.ae,iV r.af] 32,ag.held w own]) (fun _ hw=>hw.bH 0 _ O O) ?_
    have hz:bC r p=((⟨r.ai,r.Things,r.Held,r.Notes.take jL++r.Notes.drop (jL+1),r.ae,r.af⟩:ar),jE,-1,0):=by (unfold bC;(rw [if_pos ‹_›,eU,Int.toNat_natCast,hZ,decide_eq_true (by omega)];dsimp only;(repeat' split) <;> first|rfl|(exfalso;omega)))
    rw [hz]
    exact R.w4 (aD,az,aB,z5) [6] qJ O Tryz.results37 (RV.cell 3 O O ap) (RV.cell 2 O O bO) (RV.tmp O) (RV.tmp O) O O O (oq O O O (i6 O))
 ·
  refine R.q (q.gu O O Tryz.underlying35 (by omega)) O<|R.nil ?_
  refine R.aE O O ?_
  refine R.reg O<|R.q (q.build (cs:=aG) cz O O) O<|R.q (q.build (cs:=[iV 0,.string (⟨#[]⟩),iV 0,iV 0]) pN O O) O<|R.u 1 O<|R.s O (s.st (us:=aG) (cs':=aG) 2 _ O O O O (.inl ap) O O O O) fun _=>R.s O (s.st (us:=[iV 0,.string (⟨#[]⟩),iV 0,iV 0]) (cs':=[iV 0,.string (⟨#[]⟩),iV 0,iV 0]) 1 _ O O O O (.inl bO) O O O O) fun _=>R.u 2 O<|R.nil ?_
  refine R.mp (fun _ hw=>hw.aR (α:=ak)) ?_
  refine R.mp (fun _ hw=>hw.aR (α:=ao)) ?_
  refine R.mp (fun _ hw=>hw.aR (α:=Held)) ?_
  refine R.mp (fun _ hw=>hw.aR (α:=Note)) ?_
  have hz:bC r p=((⟨[],[],[],[],0,0⟩:ar),(⟨0,⟨#[]⟩,0,0⟩:Note),0,(aM r p 2 1).2.2):=by (unfold bC;(rw [if_neg ‹_›];rfl))
  rw [hz]
  exact R.w4 ((nS),(nS),(nS),(nS)) [5] dj O Tryz.results37 (RV.cell 2 O O ap) (RV.cell 1 O O bO) (RV.tmp O) (RV.tmp O) O O O (oq O O O O)
end Go.Proofs.YtbkfhjaibhnkmaaGreatDoor
