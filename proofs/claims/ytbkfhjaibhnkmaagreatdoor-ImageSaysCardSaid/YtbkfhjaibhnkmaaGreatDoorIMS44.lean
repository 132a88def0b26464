import Derived.Test.YtbkfhjaibhnkmaaGreatDoorIMS43
namespace Go.Proofs.YtbkfhjaibhnkmaaGreatDoor
open Go Go.RowKit
set_option linter.unusedVariables false
set_option linter.unusedSimpArgs false
set_option maxRecDepth 100000
theorem sk (aD az aB aC:Value)(r:ar)(w:World)(own:List Nat)(H:Wd w (blks []++own) ([]++[ag.held w own]) [ag.ls aD (r.ai:List ak),ag.ls az (r.Things:List ao),ag.ls aB (r.Held:List Held),ag.ls aC (r.Notes:List Note)] w)(hk:Ok r)(hI:Inv r):Calls Tryz.prog 19 #[.agg #[aD,az,aB,aC,iV r.ae,iV r.af]] w fun e w' => ∃z:Value×Value×Value×Value,e = .returned (.agg #[z.1,z.2.1,z.2.2.1,z.2.2.2,iV (((aH r)).ae),iV (((aH r)).af)])∧Wd w (blks []++own) ([]++[ag.held w own]) [ag.ls z.1 (((aH r)).ai:List ak),ag.ls z.2.1 (((aH r)).Things:List ao),ag.ls z.2.2.1 (((aH r)).Held:List Held),ag.ls z.2.2.2 (((aH r)).Notes:List Note)] w':=by
 have cS:=H.ct 0 rfl
 have cy:=H.ct 1 rfl
 have dq:=H.ct 2 rfl
 have cT:=H.ct 3 rfl
 have bw:=hk.wl;have bt:=hk.tl;have bh:=hk.hl;have bn:=hk.nl;have rL:=hk.w0;have rM:=hk.w1;have rN:=hk.t0;have rO:=hk.t1
 refine R.da (n:=31) (vs:=[.agg #[aD,az,aB,aC,iV r.ae,iV r.af]]) (B:=[ag.held w own]) [(0,.agg #[aD,az,aB,aC,iV r.ae,iV r.af])] Tryz.func19 O O O O H ?_
 refine R.reg O<|R.s O (s.box (cs:=[aD,az,aB,aC,iV r.ae,iV r.af]) O O O) fun b1=>R.s O (s.alloc (cs:=aG) cp O O) fun b2=>R.nil ?_
 refine R.reg O<|R.u 1 O<|R.nil ?_
 refine R.loop (fun g_:Nat×Value×(List ak)=>[(1,.pointer (some ⟨b1,0,none⟩)),(2,.pointer (some ⟨b2,0,none⟩)),(3,iV (g_.1:Int))]) (fun g_=>[ag.box b2 aG 32,ag.box b1 [g_.2.1,az,aB,aC,iV r.ae,iV r.af] 32,ag.held w own]) (fun g_=>[ag.ls g_.2.1 g_.2.2,ag.ls aD r.ai,ag.ls az r.Things,ag.ls aB r.Held,ag.ls aC r.Notes]) (fun g_=>g_.1≤r.Notes.length∧g_.2.2=fe (r.Notes.take g_.1) r.ai) (fun g_=>r.Notes.length-g_.1) (0,aD,r.ai) O (by exact ⟨by omega,rfl⟩) ⟨rfl,rfl,rfl,trivial⟩ (fun _=>Wd.pick [0,1,2] [0,0,1,2,3] O O O) ?_
 rintro ⟨j,vw,ws⟩ ⟨hj1,HW⟩
 dsimp only at *
 have hws:ws.length≤2000:=by rw [HW];exact Nat.le_trans (rH _ _) hk.wl
 have hwt:cR ws:=by rw [HW];exact mE _ _ hI.tree
 refine R.reg O<|R.u 1 O<|R.q (q.aT (off':=3) O br O) O<|R.q (q.ld 1 O O bN O) O<|R.q (q.len' (bJ 4 O) O Tryz.underlying30) O<|?_
 by_cases h1:j<r.Notes.length
 ·
  refine R.q (q.lss O O (decide_eq_true (by omega))) O<|R.nil ?_
  refine R.aE O O ?_
  refine R.reg O<|R.q (q.aT (off':=3) O br O) O<|R.q (q.ld 1 O O bN O) O<|R.u 1 O<|?_
  obtain ⟨x1,hx1⟩:∃z,r.Notes[j]? = some z:=⟨_,List.getElem?_eq_getElem (by omega)⟩
  refine R.q (q.idx (i:=j) (bJ 4 O) O O du O hx1) O<|R.q (q.dF (j':=3) (bJ 4 O) hx1 O dE O) O<|R.q (q.fb (bJ 4 O) hx1 O aA O) O<|?_
  by_cases h2:0<x1.ak
  ·
   refine R.q (q.gtr O O (decide_eq_true (by omega))) O<|R.nil ?_
   refine R.aE O O ?_
   refine R.e8 (fuel:=11) (Wd w (blks []++own) [ag.box b2 aG 32,ag.held w own] [ag.ls vw ws,ag.ls aD r.ai,ag.ls az r.Things,ag.ls aB r.Held,ag.ls aC r.Notes]) O mixed O ?_
   refine D.q (i:=0) O (by kernel_rfl) (aK [0,2] cZ O O O) O (q.aT (off':=0) O bf O) O<|D.q (i:=2) O (by kernel_rfl) (aK [0,2] cZ O O O) O (q.aT (off':=3) O br O) O<|D.q (i:=4) O (by kernel_rfl) (aK [0,2] cZ O O O) O (q.mv O) O<|D.two (i:=1) (j:=3) (by kernel_rfl) O O ?_ ?_
   ·
    refine Do.s (s.c (Qt.a (q.ld 1 O O bE O)) O) (fun _=>(aK [0,2] cZ O O O)) O fun _=>D.one (i:=3) (by kernel_rfl) O ?_
    refine Do.s (s.c (Qt.a (q.ld 1 O O bN O)) O) (fun _=>(aK [0,2] cZ O O O)) O fun _=>D.q (i:=5) O (by kernel_rfl) (aK [0,2] cZ O O O) O (q.idx (i:=j) (bJ 4 O) O O du O hx1) O<|D.q (i:=6) O (by kernel_rfl) (aK [0,2] cZ O O O) O (q.dF (j':=3) (bJ 4 O) hx1 O dE O) O<|D.q (i:=7) O (by kernel_rfl) (aK [0,2] cZ O O O) O (q.fb (bJ 4 O) hx1 O aA O) O<|D.one (i:=8) (by kernel_rfl) O ?_
    refine Do.s (s.lR yp O O (fun w hw=>jx _ (ws) (x1.ak) w (hw.bq 0 O) (by omega) ‹_›) O) (fun _=>(aK [1,3] cZ O O O)) O fun v1=>D.q (i:=9) O (by kernel_rfl) (aK [1,3] cZ O O O) O (q.aT (off':=0) O bf O) O<|D.one (i:=10) (by kernel_rfl) O ?_
    refine Do.s (s.dy (us:=[v1]) (cs':=[v1,az,aB,aC,iV r.ae,iV r.af]) 2 _ O O O (fun w hw=>Sl.cm (hw.row 0 O)) (.inr ⟨bE,rfl⟩) (fun w hw=>(ah (Sl.one (hw.row 0 O)) aL)) O O O) (fun _=>(aK [1,3] cZ O O O)) O fun _=>D.done (by kernel_rfl)<|R.reg O<|R.u 1 O<|R.q (q.add (r:=((j+1:Nat):Int)) O O (wr (by omega))) O<|R.u 1 O<|R.nil ?_
    refine R.mp (B':=[ag.box b2 aG 32,ag.box b1 [v1,az,aB,aC,iV r.ae,iV r.af] 32,ag.held w own]) (fun _ hw=>hw.bH 0 _ O O) ?_
    refine R.back (j+1,v1,(without ws x1.ak)) O (by (exact ⟨by omega,by rw [jO hx1,if_pos (by omega),HW]⟩)) (by dsimp only;omega) ⟨rfl,rfl,rfl,trivial⟩ (aK [0,1,2] [0,2,3,4,5] O O O)
   ·
    refine Do.s (s.c (Qt.a (q.ld 1 O O bN O)) O) (fun _=>(aK [0,2] cZ O O O)) O fun _=>D.q (i:=5) O (by kernel_rfl) (aK [0,2] cZ O O O) O (q.idx (i:=j) (bJ 4 O) O O du O hx1) O<|D.q (i:=6) O (by kernel_rfl) (aK [0,2] cZ O O O) O (q.dF (j':=3) (bJ 4 O) hx1 O dE O) O<|D.q (i:=7) O (by kernel_rfl) (aK [0,2] cZ O O O) O (q.fb (bJ 4 O) hx1 O aA O) O<|D.one (i:=1) (by kernel_rfl) O ?_
    refine Do.s (s.c (Qt.a (q.ld 1 O O bE O)) O) (fun _=>(aK [0,2] cZ O O O)) O fun _=>D.one (i:=8) (by kernel_rfl) O ?_
    refine Do.s (s.lR yp O O (fun w hw=>jx _ (ws) (x1.ak) w (hw.bq 0 O) (by omega) ‹_›) O) (fun _=>(aK [1,3] cZ O O O)) O fun v2=>D.q (i:=9) O (by kernel_rfl) (aK [1,3] cZ O O O) O (q.aT (off':=0) O bf O) O<|D.one (i:=10) (by kernel_rfl) O ?_
    refine Do.s (s.dy (us:=[v2]) (cs':=[v2,az,aB,aC,iV r.ae,iV r.af]) 2 _ O O O (fun w hw=>Sl.cm (hw.row 0 O)) (.inr ⟨bE,rfl⟩) (fun w hw=>(ah (Sl.one (hw.row 0 O)) aL)) O O O) (fun _=>(aK [1,3] cZ O O O)) O fun _=>D.done (by kernel_rfl)<|R.reg O<|R.u 1 O<|R.q (q.add (r:=((j+1:Nat):Int)) O O (wr (by omega))) O<|R.u 1 O<|R.nil ?_
    refine R.mp (B':=[ag.box b2 aG 32,ag.box b1 [v2,az,aB,aC,iV r.ae,iV r.af] 32,ag.held w own]) (fun _ hw=>hw.bH 0 _ O O) ?_
    refine R.back (j+1,v2,(without ws x1.ak)) O (by (exact ⟨by omega,by rw [jO hx1,if_pos (by omega),HW]⟩)) (by dsimp only;omega) ⟨rfl,rfl,rfl,trivial⟩ (aK [0,1,2] [0,2,3,4,5] O O O)
  ·
   refine R.q (q.gtr O O (decide_eq_false (by omega))) O<|R.nil ?_
   refine R.aF O O ?_
   refine R.reg O<|R.u 1 O<|R.q (q.add (r:=((j+1:Nat):Int)) O O (wr (by omega))) O<|R.u 1 O<|R.nil ?_
   refine R.back (j+1,vw,ws) O (by (exact ⟨by omega,by rw [jO hx1,if_neg (by omega),HW]⟩)) (by dsimp only;omega) ⟨rfl,rfl,rfl,trivial⟩ (aK [0,1,2] cZ O O O)
 ·
  refine R.q (q.lss O O (decide_eq_false (by omega))) O<|R.nil ?_
  refine R.aF O O ?_
  have hwq:ws=fe r.Notes r.ai:=by rw [HW,List.take_of_length_le (by omega)]
  have hok:Ok (⟨ws,r.Things,r.Held,[],r.ae,r.af⟩:ar):=⟨hws,hk.tl,hk.hl,Nat.zero_le _,by rw [hwq];exact td _ _ hk.ri,hk.w0,hk.w1,hk.t0,hk.t1⟩
  have KD:Pre (⟨ws,r.Things,r.Held,[],r.ae,r.af⟩:ar):=by rw [hwq];exact hI.tu
  refine R.reg O<|R.q (q.aT (off':=3) O br O) O<|R.s O (s.st (us:=[nS]) (cs':=[vw,az,aB,nS,iV r.ae,iV r.af]) 1 _ O O O O (.inr ⟨bN,rfl⟩) O O O O) fun _=>R.nil ?_
  refine R.reg O<|R.q (q.cj 1 O O ap) O<|R.s (B':=(fun g_:Value×Value×Value×Value=>[ag.box b2 aG 32,ag.box b1 [vw,az,aB,nS,iV r.ae,iV r.af] 32,ag.held w own])) (F':=(fun g_=>[ag.ls g_.1 (((aY (⟨ws,r.Things,r.Held,[],r.ae,r.af⟩:ar))).ai:List ak),ag.ls g_.2.1 (((aY (⟨ws,r.Things,r.Held,[],r.ae,r.af⟩:ar))).Things:List ao),ag.ls g_.2.2.1 (((aY (⟨ws,r.Things,r.Held,[],r.ae,r.af⟩:ar))).Held:List Held),ag.ls g_.2.2.2 (((aY (⟨ws,r.Things,r.Held,[],r.ae,r.af⟩:ar))).Notes:List Note),ag.ls (nS) ([]:List Note),ag.ls vw ws,ag.ls aD r.ai,ag.ls az r.Things,ag.ls aB r.Held,ag.ls aC r.Notes])) O (s.pre (B2:=[ag.box b2 aG 32,ag.box b1 [vw,az,aB,nS,iV r.ae,iV r.af] 32,ag.held w own]) (F2:=[ag.ls (nS) ([]:List Note),ag.ls vw ws,ag.ls aD r.ai,ag.ls az r.Things,ag.ls aB r.Held,ag.ls aC r.Notes]) (fun _ hw=>hw.aR (α:=Note)) (s.bP (B0:=[]) (Br:=[ag.box b2 aG 32,ag.box b1 [vw,az,aB,nS,iV r.ae,iV r.af] 32,ag.held w own]) (F0:=[ag.ls vw ws,ag.ls az r.Things,ag.ls aB r.Held,ag.ls (nS) ([]:List Note)]) [0,1,2] [1,3,4,0] (fun g_:Value×Value×Value×Value => .agg #[g_.1,g_.2.1,g_.2.2.1,g_.2.2.2,iV (((aY (⟨ws,r.Things,r.Held,[],r.ae,r.af⟩:ar))).ae),iV (((aY (⟨ws,r.Things,r.Held,[],r.ae,r.af⟩:ar))).af)]) (fun g_=>[]) (fun g_=>[ag.ls g_.1 (((aY (⟨ws,r.Things,r.Held,[],r.ae,r.af⟩:ar))).ai:List ak),ag.ls g_.2.1 (((aY (⟨ws,r.Things,r.Held,[],r.ae,r.af⟩:ar))).Things:List ao),ag.ls g_.2.2.1 (((aY (⟨ws,r.Things,r.Held,[],r.ae,r.af⟩:ar))).Held:List Held),ag.ls g_.2.2.2 (((aY (⟨ws,r.Things,r.Held,[],r.ae,r.af⟩:ar))).Notes:List Note)]) O O O AE O O (fun w own hw H=>nY vw az aB (nS) ((⟨ws,r.Things,r.Held,[],r.ae,r.af⟩:ar)) w own H ‹_› ‹_›) O)) ?_
  rintro ⟨z1,z2,z3,z4⟩
  dsimp only
  refine R.s O (s.dy (us:=[z1,z2,z3,z4,iV ((aY (⟨ws,r.Things,r.Held,[],r.ae,r.af⟩:ar)).ae),iV ((aY (⟨ws,r.Things,r.Held,[],r.ae,r.af⟩:ar)).af)]) (cs':=[z1,z2,z3,z4,iV ((aY (⟨ws,r.Things,r.Held,[],r.ae,r.af⟩:ar)).ae),iV ((aY (⟨ws,r.Things,r.Held,[],r.ae,r.af⟩:ar)).af)]) 0 _ O O O (fun _ _=>rfl) (.inl ap) (fun w hw=>(ah (Sl.one (hw.bq 0 O)) (ah (Sl.one (hw.bq 1 O)) (ah (Sl.one (hw.bq 2 O)) (ah (Sl.one (hw.bq 3 O)) (ah O (ah O aL))))))) O O O) fun _=>R.nil ?_
  have hz:aH r=(aY (⟨ws,r.Things,r.Held,[],r.ae,r.af⟩:ar)):=by (unfold aH;rw [hwq])
  rw [hz]
  exact R.w1 (z1,z2,z3,z4) [2] bm O Tryz.results19 (RV.cell 0 O O ap) O O O O
set_option maxRecDepth 100000 in
set_option maxHeartbeats 2000000 in
theorem qG (aD az aB aC:Value)(r:ar)(a:gL)(w:World)(own:List Nat)(H:Wd w (blks []++own) ([]++[ag.held w own]) [ag.ls aD (r.ai:List ak),ag.ls az (r.Things:List ao),ag.ls aB (r.Held:List Held),ag.ls aC (r.Notes:List Note)] w)(hk:Ok r)(hI:Inv r):Calls Tryz.prog 12 #[.agg #[aD,az,aB,aC,iV r.ae,iV r.af],.agg #[.string a.Kind,.string a.S,iV a.P.aj,iV a.P.Slot,iV a.Q.aj,iV a.Q.Slot,iV a.A,iV a.B,iV a.N,.int .u64 a.K,a.cv]] w fun e w' => ∃z:Value×Value×Value×Value,e = .returned (.tuple #[.agg #[z.1,z.2.1,z.2.2.1,z.2.2.2,iV ((((cr r a)).1).ae),iV ((((cr r a)).1).af)],iV (((cr r a)).2)])∧Wd w (blks []++own) ([]++[ag.held w own]) [ag.ls z.1 ((((cr r a)).1).ai:List ak),ag.ls z.2.1 ((((cr r a)).1).Things:List ao),ag.ls z.2.2.1 ((((cr r a)).1).Held:List Held),ag.ls z.2.2.2 ((((cr r a)).1).Notes:List Note)] w':=by
 have cS:=H.ct 0 rfl
 have cy:=H.ct 1 rfl
 have dq:=H.ct 2 rfl
 have cT:=H.ct 3 rfl
 refine R.da (n:=100) (vs:=[.agg #[aD,az,aB,aC,iV r.ae,iV r.af],.agg #[.string a.Kind,.string a.S,iV a.P.aj,iV a.P.Slot,iV a.Q.aj,iV a.Q.Slot,iV a.A,iV a.B,iV a.N,.int .u64 a.K,a.cv]]) (B:=[ag.held w own]) [(0,.agg #[aD,az,aB,aC,iV r.ae,iV r.af]),(1,.agg #[.string a.Kind,.string a.S,iV a.P.aj,iV a.P.Slot,iV a.Q.aj,iV a.Q.Slot,iV a.A,iV a.B,iV a.N,.int .u64 a.K,a.cv])] Tryz.func12 O O O O H ?_
 refine R.reg O<|R.s O (s.box (cs:=[aD,az,aB,aC,iV r.ae,iV r.af]) O O O) fun b1=>R.s O (s.box (cs:=dG a) O O O) fun b2=>R.s O (s.alloc (cs:=aG) cp O O) fun b3=>R.u 1 O<|R.nil ?_
 refine R.reg O<|R.q (q.aT (off':=0) O sP O) O<|R.q (q.ld 1 O O bV O) O<|R.nil ?_
 refine R.reg O<|?_
 by_cases h1:a.Kind=⟨#[109,97,107,101]⟩
 ·
  refine R.q (q.jc O O h1) O<|R.u 1 O<|R.nil ?_
  refine R.aE O O ?_
  refine R.reg O<|R.q (q.cj 2 O O ap) O<|R.q (q.aT (off':=2) O eB O) O<|R.q (q.tK (ds:=av a.P) 1 O O aS O) O<|R.q (q.aT (off':=6) O gZ O) O<|R.q (q.ld 1 O O aA O) O<|R.s (B':=(fun g_:Value×Value×Value×Value=>[ag.box b3 aG 32,ag.box b2 (dG a) 42,ag.box b1 [aD,az,aB,aC,iV r.ae,iV r.af] 32,ag.held w own])) (F':=(fun g_=>[ag.ls g_.1 (((bT r a.P a.A)).1).ai,ag.ls g_.2.1 (((bT r a.P a.A)).1).Things,ag.ls g_.2.2.1 (((bT r a.P a.A)).1).Held,ag.ls g_.2.2.2 (((bT r a.P a.A)).1).Notes,ag.ls aD r.ai,ag.ls az r.Things,ag.ls aB r.Held,ag.ls aC r.Notes])) O (s.bP (B0:=[]) (Br:=[ag.box b3 aG 32,ag.box b2 (dG a) 42,ag.box b1 [aD,az,aB,aC,iV r.ae,iV r.af] 32,ag.held w own]) (F0:=[ag.ls aD r.ai,ag.ls az r.Things,ag.ls aB r.Held,ag.ls aC r.Notes]) bm bm (fun g_:Value×Value×Value×Value => .tuple #[.agg #[g_.1,g_.2.1,g_.2.2.1,g_.2.2.2,iV ((((bT r a.P a.A)).1).ae),iV ((((bT r a.P a.A)).1).af)],iV (((bT r a.P a.A)).2)]) (fun g_=>[]) (fun g_=>[ag.ls g_.1 (((bT r a.P a.A)).1).ai,ag.ls g_.2.1 (((bT r a.P a.A)).1).Things,ag.ls g_.2.2.1 (((bT r a.P a.A)).1).Held,ag.ls g_.2.2.2 (((bT r a.P a.A)).1).Notes]) O O O G8 O O (fun w own hw H=>zZ aD az aB aC (r) (a.P) (a.A) w own H ‹_› ‹_›) O) ?_
  rintro ⟨z1,z2,z3,z4⟩
  dsimp only
  refine R.u 2 O<|R.s O (s.dy (us:=[z1,z2,z3,z4,iV (((bT r a.P a.A).1).ae),iV (((bT r a.P a.A).1).af)]) (cs':=[z1,z2,z3,z4,iV (((bT r a.P a.A).1).ae),iV (((bT r a.P a.A).1).af)]) 0 _ O O O (fun _ _=>rfl) (.inl ap) (fun w hw=>(ah (Sl.one (hw.bq 0 O)) (ah (Sl.one (hw.bq 1 O)) (ah (Sl.one (hw.bq 2 O)) (ah (Sl.one (hw.bq 3 O)) (ah O (ah O aL))))))) O O O) fun _=>R.u 1 O<|R.nil ?_
  have hz:cr r a=(((bT r a.P a.A).1),(bT r a.P a.A).2):=by (unfold cr;(repeat' split) <;> rfl)
  rw [hz]
  exact R.w2 (z1,z2,z3,z4) [3] bm O Tryz.results12 (RV.cell 0 O O ap) (RV.tmp O) O O O (cD O O)
 ·
  refine R.q (q.jd O O h1) O<|R.u 1 O<|R.nil ?_
  refine R.aF O O ?_
  refine R.reg O<|?_
  by_cases h2:a.Kind=⟨#[103,105,118,101]⟩
  ·
   refine R.q (q.jc O O h2) O<|R.u 1 O<|R.nil ?_
   refine R.aE O O ?_
   refine R.reg O<|R.q (q.cj 2 O O ap) O<|R.q (q.aT (off':=2) O eB O) O<|R.q (q.tK (ds:=av a.P) 1 O O aS O) O<|R.q (q.aT (off':=4) O sQ O) O<|R.q (q.tK (ds:=av a.Q) 1 O O aS O) O<|R.q (q.aT (off':=6) O gZ O) O<|R.q (q.ld 1 O O aA O) O<|R.q (q.aT (off':=7) O mL O) O<|R.q (q.ld 1 O O aA O) O<|R.s (B':=(fun g_:Value×Value×Value×Value=>[ag.box b3 aG 32,ag.box b2 (dG a) 42,ag.box b1 [aD,az,aB,aC,iV r.ae,iV r.af] 32,ag.held w own])) (F':=(fun g_=>[ag.ls g_.1 (((cb r a.P a.Q a.A a.B)).1).ai,ag.ls g_.2.1 (((cb r a.P a.Q a.A a.B)).1).Things,ag.ls g_.2.2.1 (((cb r a.P a.Q a.A a.B)).1).Held,ag.ls g_.2.2.2 (((cb r a.P a.Q a.A a.B)).1).Notes,ag.ls aD r.ai,ag.ls az r.Things,ag.ls aB r.Held,ag.ls aC r.Notes])) O (s.bP (B0:=[]) (Br:=[ag.box b3 aG 32,ag.box b2 (dG a) 42,ag.box b1 [aD,az,aB,aC,iV r.ae,iV r.af] 32,ag.held w own]) (F0:=[ag.ls aD r.ai,ag.ls az r.Things,ag.ls aB r.Held,ag.ls aC r.Notes]) bm bm (fun g_:Value×Value×Value×Value => .tuple #[.agg #[g_.1,g_.2.1,g_.2.2.1,g_.2.2.2,iV ((((cb r a.P a.Q a.A a.B)).1).ae),iV ((((cb r a.P a.Q a.A a.B)).1).af)],iV (((cb r a.P a.Q a.A a.B)).2)]) (fun g_=>[]) (fun g_=>[ag.ls g_.1 (((cb r a.P a.Q a.A a.B)).1).ai,ag.ls g_.2.1 (((cb r a.P a.Q a.A a.B)).1).Things,ag.ls g_.2.2.1 (((cb r a.P a.Q a.A a.B)).1).Held,ag.ls g_.2.2.2 (((cb r a.P a.Q a.A a.B)).1).Notes]) O O O G9 O O (fun w own hw H=>Aa aD az aB aC (r) (a.P) (a.Q) (a.A) (a.B) w own H ‹_› ‹_›) O) ?_
   rintro ⟨z5,z6,z7,z8⟩
   dsimp only
   refine R.u 2 O<|R.s O (s.dy (us:=[z5,z6,z7,z8,iV (((cb r a.P a.Q a.A a.B).1).ae),iV (((cb r a.P a.Q a.A a.B).1).af)]) (cs':=[z5,z6,z7,z8,iV (((cb r a.P a.Q a.A a.B).1).ae),iV (((cb r a.P a.Q a.A a.B).1).af)]) 0 _ O O O (fun _ _=>rfl) (.inl ap) (fun w hw=>(ah (Sl.one (hw.bq 0 O)) (ah (Sl.one (hw.bq 1 O)) (ah (Sl.one (hw.bq 2 O)) (ah (Sl.one (hw.bq 3 O)) (ah O (ah O aL))))))) O O O) fun _=>R.u 1 O<|R.nil ?_
   have hz:cr r a=(((cb r a.P a.Q a.A a.B).1),(cb r a.P a.Q a.A a.B).2):=by (unfold cr;(repeat' split) <;> first|rfl|(exfalso;simp_all;done)|(simp_all;done))
   rw [hz]
   exact R.w2 (z5,z6,z7,z8) [3] bm O Tryz.results12 (RV.cell 0 O O ap) (RV.tmp O) O O O (cD O O)
  ·
   refine R.q (q.jd O O h2) O<|R.u 1 O<|R.nil ?_
   refine R.aF O O ?_
   refine R.reg O<|?_
   by_cases h3:a.Kind=⟨#[109,111,118,101]⟩
   ·
    refine R.q (q.jc O O h3) O<|R.u 1 O<|R.nil ?_
    refine R.aE O O ?_
    refine R.reg O<|R.q (q.cj 2 O O ap) O<|R.q (q.aT (off':=2) O eB O) O<|R.q (q.tK (ds:=av a.P) 1 O O aS O) O<|R.q (q.aT (off':=6) O gZ O) O<|R.q (q.ld 1 O O aA O) O<|R.s (B':=(fun g_:Value×Value×Value×Value=>[ag.box b3 aG 32,ag.box b2 (dG a) 42,ag.box b1 [aD,az,aB,aC,iV r.ae,iV r.af] 32,ag.held w own])) (F':=(fun g_=>[ag.ls g_.1 (((cQ r a.P a.A)).1).ai,ag.ls g_.2.1 (((cQ r a.P a.A)).1).Things,ag.ls g_.2.2.1 (((cQ r a.P a.A)).1).Held,ag.ls g_.2.2.2 (((cQ r a.P a.A)).1).Notes,ag.ls aD r.ai,ag.ls az r.Things,ag.ls aB r.Held,ag.ls aC r.Notes])) O (s.bP (B0:=[]) (Br:=[ag.box b3 aG 32,ag.box b2 (dG a) 42,ag.box b1 [aD,az,aB,aC,iV r.ae,iV r.af] 32,ag.held w own]) (F0:=[ag.ls aD r.ai,ag.ls az r.Things,ag.ls aB r.Held,ag.ls aC r.Notes]) bm bm (fun g_:Value×Value×Value×Value => .tuple #[.agg #[g_.1,g_.2.1,g_.2.2.1,g_.2.2.2,iV ((((cQ r a.P a.A)).1).ae),iV ((((cQ r a.P a.A)).1).af)],iV (((cQ r a.P a.A)).2)]) (fun g_=>[]) (fun g_=>[ag.ls g_.1 (((cQ r a.P a.A)).1).ai,ag.ls g_.2.1 (((cQ r a.P a.A)).1).Things,ag.ls g_.2.2.1 (((cQ r a.P a.A)).1).Held,ag.ls g_.2.2.2 (((cQ r a.P a.A)).1).Notes]) O O O Ha O O (fun w own hw H=>Ab aD az aB aC (r) (a.P) (a.A) w own H ‹_› ‹_›) O) ?_
    rintro ⟨z9,jZ,CW,z12⟩
    dsimp only
    refine R.u 2 O<|R.s O (s.dy (us:=[z9,jZ,CW,z12,iV (((cQ r a.P a.A).1).ae),iV (((cQ r a.P a.A).1).af)]) (cs':=[z9,jZ,CW,z12,iV (((cQ r a.P a.A).1).ae),iV (((cQ r a.P a.A).1).af)]) 0 _ O O O (fun _ _=>rfl) (.inl ap) (fun w hw=>(ah (Sl.one (hw.bq 0 O)) (ah (Sl.one (hw.bq 1 O)) (ah (Sl.one (hw.bq 2 O)) (ah (Sl.one (hw.bq 3 O)) (ah O (ah O aL))))))) O O O) fun _=>R.u 1 O<|R.nil ?_
    have hz:cr r a=(((cQ r a.P a.A).1),(cQ r a.P a.A).2):=by (unfold cr;(repeat' split) <;> first|rfl|(exfalso;simp_all;done)|(simp_all;done))
    rw [hz]
    exact R.w2 (z9,jZ,CW,z12) [3] bm O Tryz.results12 (RV.cell 0 O O ap) (RV.tmp O) O O O (cD O O)
   ·
    refine R.q (q.jd O O h3) O<|R.u 1 O<|R.nil ?_
    refine R.aF O O ?_
    refine R.reg O<|?_
    by_cases h4:a.Kind=⟨#[100,114,111,112]⟩
    ·
     refine R.q (q.jc O O h4) O<|R.u 1 O<|R.nil ?_
     refine R.aE O O ?_
     refine R.reg O<|R.q (q.cj 2 O O ap) O<|R.q (q.aT (off':=2) O eB O) O<|R.q (q.tK (ds:=av a.P) 1 O O aS O) O<|R.s (B':=(fun g_:Value×Value×Value×Value=>[ag.box b3 aG 32,ag.box b2 (dG a) 42,ag.box b1 [aD,az,aB,aC,iV r.ae,iV r.af] 32,ag.held w own])) (F':=(fun g_=>[ag.ls g_.1 (((cX r a.P)).1).ai,ag.ls g_.2.1 (((cX r a.P)).1).Things,ag.ls g_.2.2.1 (((cX r a.P)).1).Held,ag.ls g_.2.2.2 (((cX r a.P)).1).Notes,ag.ls aD r.ai,ag.ls az r.Things,ag.ls aB r.Held,ag.ls aC r.Notes])) O (s.bP (B0:=[]) (Br:=[ag.box b3 aG 32,ag.box b2 (dG a) 42,ag.box b1 [aD,az,aB,aC,iV r.ae,iV r.af] 32,ag.held w own]) (F0:=[ag.ls aD r.ai,ag.ls az r.Things,ag.ls aB r.Held,ag.ls aC r.Notes]) bm bm (fun g_:Value×Value×Value×Value => .tuple #[.agg #[g_.1,g_.2.1,g_.2.2.1,g_.2.2.2,iV ((((cX r a.P)).1).ae),iV ((((cX r a.P)).1).af)],iV (((cX r a.P)).2)]) (fun g_=>[]) (fun g_=>[ag.ls g_.1 (((cX r a.P)).1).ai,ag.ls g_.2.1 (((cX r a.P)).1).Things,ag.ls g_.2.2.1 (((cX r a.P)).1).Held,ag.ls g_.2.2.2 (((cX r a.P)).1).Notes]) O O O Hb O O (fun w own hw H=>Ac aD az aB aC (r) (a.P) w own H ‹_› ‹_›) O) ?_
     rintro ⟨qx,qy,qA,qB⟩
     dsimp only
     refine R.u 2 O<|R.s O (s.dy (us:=[qx,qy,qA,qB,iV (((cX r a.P).1).ae),iV (((cX r a.P).1).af)]) (cs':=[qx,qy,qA,qB,iV (((cX r a.P).1).ae),iV (((cX r a.P).1).af)]) 0 _ O O O (fun _ _=>rfl) (.inl ap) (fun w hw=>(ah (Sl.one (hw.bq 0 O)) (ah (Sl.one (hw.bq 1 O)) (ah (Sl.one (hw.bq 2 O)) (ah (Sl.one (hw.bq 3 O)) (ah O (ah O aL))))))) O O O) fun _=>R.u 1 O<|R.nil ?_
     have hz:cr r a=(((cX r a.P).1),(cX r a.P).2):=by (unfold cr;(repeat' split) <;> first|rfl|(exfalso;simp_all;done)|(simp_all;done))
     rw [hz]
     exact R.w2 (qx,qy,qA,qB) [3] bm O Tryz.results12 (RV.cell 0 O O ap) (RV.tmp O) O O O (cD O O)
    ·
     refine R.q (q.jd O O h4) O<|R.u 1 O<|R.nil ?_
     refine R.aF O O ?_
     refine R.reg O<|?_
     by_cases h5:a.Kind=⟨#[114,101,118,111,107,101]⟩
     ·
      refine R.q (q.jc O O h5) O<|R.u 1 O<|R.nil ?_
      refine R.aE O O ?_
      refine R.reg O<|R.q (q.cj 2 O O ap) O<|R.q (q.aT (off':=2) O eB O) O<|R.q (q.tK (ds:=av a.P) 1 O O aS O) O<|R.s (B':=(fun g_:Value×Value×Value×Value=>[ag.box b3 aG 32,ag.box b2 (dG a) 42,ag.box b1 [aD,az,aB,aC,iV r.ae,iV r.af] 32,ag.held w own])) (F':=(fun g_=>[ag.ls g_.1 (((bQ r a.P)).1).ai,ag.ls g_.2.1 (((bQ r a.P)).1).Things,ag.ls g_.2.2.1 (((bQ r a.P)).1).Held,ag.ls g_.2.2.2 (((bQ r a.P)).1).Notes,ag.ls aD r.ai,ag.ls az r.Things,ag.ls aB r.Held,ag.ls aC r.Notes])) O (s.bP (B0:=[]) (Br:=[ag.box b3 aG 32,ag.box b2 (dG a) 42,ag.box b1 [aD,az,aB,aC,iV r.ae,iV r.af] 32,ag.held w own]) (F0:=[ag.ls aD r.ai,ag.ls az r.Things,ag.ls aB r.Held,ag.ls aC r.Notes]) bm bm (fun g_:Value×Value×Value×Value => .tuple #[.agg #[g_.1,g_.2.1,g_.2.2.1,g_.2.2.2,iV ((((bQ r a.P)).1).ae),iV ((((bQ r a.P)).1).af)],iV (((bQ r a.P)).2)]) (fun g_=>[]) (fun g_=>[ag.ls g_.1 (((bQ r a.P)).1).ai,ag.ls g_.2.1 (((bQ r a.P)).1).Things,ag.ls g_.2.2.1 (((bQ r a.P)).1).Held,ag.ls g_.2.2.2 (((bQ r a.P)).1).Notes]) O O O Hc O O (fun w own hw H=>wN aD az aB aC (r) (a.P) w own H ‹_› ‹_›) O) ?_
      rintro ⟨z17,Dx,Dy,z20⟩
      dsimp only
      refine R.u 2 O<|R.s O (s.dy (us:=[z17,Dx,Dy,z20,iV (((bQ r a.P).1).ae),iV (((bQ r a.P).1).af)]) (cs':=[z17,Dx,Dy,z20,iV (((bQ r a.P).1).ae),iV (((bQ r a.P).1).af)]) 0 _ O O O (fun _ _=>rfl) (.inl ap) (fun w hw=>(ah (Sl.one (hw.bq 0 O)) (ah (Sl.one (hw.bq 1 O)) (ah (Sl.one (hw.bq 2 O)) (ah (Sl.one (hw.bq 3 O)) (ah O (ah O aL))))))) O O O) fun _=>R.u 1 O<|R.nil ?_
      have hz:cr r a=(((bQ r a.P).1),(bQ r a.P).2):=by (unfold cr;(repeat' split) <;> first|rfl|(exfalso;simp_all;done)|(simp_all;done))
      rw [hz]
      exact R.w2 (z17,Dx,Dy,z20) [3] bm O Tryz.results12 (RV.cell 0 O O ap) (RV.tmp O) O O O (cD O O)
     ·
      refine R.q (q.jd O O h5) O<|R.u 1 O<|R.nil ?_
      refine R.aF O O ?_
      refine R.reg O<|?_
      by_cases h6:a.Kind=⟨#[119,114,105,116,101]⟩
      ·
       refine R.q (q.jc O O h6) O<|R.u 1 O<|R.nil ?_
       refine R.aE O O ?_
       refine R.reg O<|R.q (q.cj 2 O O ap) O<|R.q (q.aT (off':=2) O eB O) O<|R.q (q.tK (ds:=av a.P) 1 O O aS O) O<|R.q (q.aT (off':=1) O kI O) O<|R.q (q.ld 1 O O bV O) O<|R.s (B':=(fun g_:Value×Value×Value×Value=>[ag.box b3 aG 32,ag.box b2 (dG a) 42,ag.box b1 [aD,az,aB,aC,iV r.ae,iV r.af] 32,ag.held w own])) (F':=(fun g_=>[ag.ls g_.1 (((cd r a.P a.S)).1).ai,ag.ls g_.2.1 (((cd r a.P a.S)).1).Things,ag.ls g_.2.2.1 (((cd r a.P a.S)).1).Held,ag.ls g_.2.2.2 (((cd r a.P a.S)).1).Notes,ag.ls aD r.ai,ag.ls az r.Things,ag.ls aB r.Held,ag.ls aC r.Notes])) O (s.bP (B0:=[]) (Br:=[ag.box b3 aG 32,ag.box b2 (dG a) 42,ag.box b1 [aD,az,aB,aC,iV r.ae,iV r.af] 32,ag.held w own]) (F0:=[ag.ls aD r.ai,ag.ls az r.Things,ag.ls aB r.Held,ag.ls aC r.Notes]) bm bm (fun g_:Value×Value×Value×Value => .tuple #[.agg #[g_.1,g_.2.1,g_.2.2.1,g_.2.2.2,iV ((((cd r a.P a.S)).1).ae),iV ((((cd r a.P a.S)).1).af)],iV (((cd r a.P a.S)).2)]) (fun g_=>[]) (fun g_=>[ag.ls g_.1 (((cd r a.P a.S)).1).ai,ag.ls g_.2.1 (((cd r a.P a.S)).1).Things,ag.ls g_.2.2.1 (((cd r a.P a.S)).1).Held,ag.ls g_.2.2.2 (((cd r a.P a.S)).1).Notes]) O O O He O O (fun w own hw H=>xU aD az aB aC (r) (a.P) (a.S) w own H ‹_› ‹_›) O) ?_
       rintro ⟨z21,z22,z23,z24⟩
       dsimp only
       refine R.u 2 O<|R.s O (s.dy (us:=[z21,z22,z23,z24,iV (((cd r a.P a.S).1).ae),iV (((cd r a.P a.S).1).af)]) (cs':=[z21,z22,z23,z24,iV (((cd r a.P a.S).1).ae),iV (((cd r a.P a.S).1).af)]) 0 _ O O O (fun _ _=>rfl) (.inl ap) (fun w hw=>(ah (Sl.one (hw.bq 0 O)) (ah (Sl.one (hw.bq 1 O)) (ah (Sl.one (hw.bq 2 O)) (ah (Sl.one (hw.bq 3 O)) (ah O (ah O aL))))))) O O O) fun _=>R.u 1 O<|R.nil ?_
       have hz:cr r a=(((cd r a.P a.S).1),(cd r a.P a.S).2):=by (unfold cr;(repeat' split) <;> first|rfl|(exfalso;simp_all;done)|(simp_all;done))
       rw [hz]
       exact R.w2 (z21,z22,z23,z24) [3] bm O Tryz.results12 (RV.cell 0 O O ap) (RV.tmp O) O O O (cD O O)
      ·
       refine R.q (q.jd O O h6) O<|R.u 1 O<|R.nil ?_
       refine R.aF O O ?_
       refine R.reg O<|?_
       by_cases h7:a.Kind=⟨#[115,101,110,100]⟩
       ·
        refine R.q (q.jc O O h7) O<|R.u 1 O<|R.nil ?_
        refine R.aE O O ?_
        refine R.reg O<|R.q (q.cj 2 O O ap) O<|R.q (q.aT (off':=2) O eB O) O<|R.q (q.tK (ds:=av a.P) 1 O O aS O) O<|R.q (q.aT (off':=1) O kI O) O<|R.q (q.ld 1 O O bV O) O<|R.q (q.aT (off':=6) O gZ O) O<|R.q (q.ld 1 O O aA O) O<|R.q (q.aT (off':=7) O mL O) O<|R.q (q.ld 1 O O aA O) O<|R.s (B':=(fun g_:Value×Value×Value×Value=>[ag.box b3 aG 32,ag.box b2 (dG a) 42,ag.box b1 [aD,az,aB,aC,iV r.ae,iV r.af] 32,ag.held w own])) (F':=(fun g_=>[ag.ls g_.1 (((bU r a.P a.S a.A a.B)).1).ai,ag.ls g_.2.1 (((bU r a.P a.S a.A a.B)).1).Things,ag.ls g_.2.2.1 (((bU r a.P a.S a.A a.B)).1).Held,ag.ls g_.2.2.2 (((bU r a.P a.S a.A a.B)).1).Notes,ag.ls aD r.ai,ag.ls az r.Things,ag.ls aB r.Held,ag.ls aC r.Notes])) O (s.bP (B0:=[]) (Br:=[ag.box b3 aG 32,ag.box b2 (dG a) 42,ag.box b1 [aD,az,aB,aC,iV r.ae,iV r.af] 32,ag.held w own]) (F0:=[ag.ls aD r.ai,ag.ls az r.Things,ag.ls aB r.Held,ag.ls aC r.Notes]) bm bm (fun g_:Value×Value×Value×Value => .tuple #[.agg #[g_.1,g_.2.1,g_.2.2.1,g_.2.2.2,iV ((((bU r a.P a.S a.A a.B)).1).ae),iV ((((bU r a.P a.S a.A a.B)).1).af)],iV (((bU r a.P a.S a.A a.B)).2)]) (fun g_=>[]) (fun g_=>[ag.ls g_.1 (((bU r a.P a.S a.A a.B)).1).ai,ag.ls g_.2.1 (((bU r a.P a.S a.A a.B)).1).Things,ag.ls g_.2.2.1 (((bU r a.P a.S a.A a.B)).1).Held,ag.ls g_.2.2.2 (((bU r a.P a.S a.A a.B)).1).Notes]) O O O Hf O O (fun w own hw H=>Ad aD az aB aC (r) (a.P) (a.S) (a.A) (a.B) w own H ‹_› ‹_›) O) ?_
        rintro ⟨z25,z26,z27,z28⟩
        dsimp only
        refine R.u 2 O<|R.s O (s.dy (us:=[z25,z26,z27,z28,iV (((bU r a.P a.S a.A a.B).1).ae),iV (((bU r a.P a.S a.A a.B).1).af)]) (cs':=[z25,z26,z27,z28,iV (((bU r a.P a.S a.A a.B).1).ae),iV (((bU r a.P a.S a.A a.B).1).af)]) 0 _ O O O (fun _ _=>rfl) (.inl ap) (fun w hw=>(ah (Sl.one (hw.bq 0 O)) (ah (Sl.one (hw.bq 1 O)) (ah (Sl.one (hw.bq 2 O)) (ah (Sl.one (hw.bq 3 O)) (ah O (ah O aL))))))) O O O) fun _=>R.u 1 O<|R.nil ?_
        have hz:cr r a=(((bU r a.P a.S a.A a.B).1),(bU r a.P a.S a.A a.B).2):=by (unfold cr;(repeat' split) <;> first|rfl|(exfalso;simp_all;done)|(simp_all;done))
        rw [hz]
        exact R.w2 (z25,z26,z27,z28) [3] bm O Tryz.results12 (RV.cell 0 O O ap) (RV.tmp O) O O O (cD O O)
       ·
        refine R.q (q.jd O O h7) O<|R.u 1 O<|R.nil ?_
        refine R.aF O O ?_
        refine R.reg O<|?_
        by_cases h8:a.Kind=⟨#[116,97,107,101]⟩
        ·
         refine R.q (q.jc O O h8) O<|R.u 1 O<|R.nil ?_
         refine R.aE O O ?_
         refine R.reg O<|R.q (q.cj 2 O O ap) O<|R.q (q.aT (off':=2) O eB O) O<|R.q (q.tK (ds:=av a.P) 1 O O aS O) O<|R.s (B':=(fun g_:Value×Value×Value×Value=>[ag.box b3 aG 32,ag.box b2 (dG a) 42,ag.box b1 [aD,az,aB,aC,iV r.ae,iV r.af] 32,ag.held w own])) (F':=(fun g_=>[ag.ls g_.1 (((bC r a.P)).1).ai,ag.ls g_.2.1 (((bC r a.P)).1).Things,ag.ls g_.2.2.1 (((bC r a.P)).1).Held,ag.ls g_.2.2.2 (((bC r a.P)).1).Notes,ag.ls aD r.ai,ag.ls az r.Things,ag.ls aB r.Held,ag.ls aC r.Notes])) O (s.bP (B0:=[]) (Br:=[ag.box b3 aG 32,ag.box b2 (dG a) 42,ag.box b1 [aD,az,aB,aC,iV r.ae,iV r.af] 32,ag.held w own]) (F0:=[ag.ls aD r.ai,ag.ls az r.Things,ag.ls aB r.Held,ag.ls aC r.Notes]) bm bm (fun g_:Value×Value×Value×Value => .tuple #[.agg #[g_.1,g_.2.1,g_.2.2.1,g_.2.2.2,iV ((((bC r a.P)).1).ae),iV ((((bC r a.P)).1).af)],.agg #[iV ((((bC r a.P)).2.1).Port),.string ((((bC r a.P)).2.1).Data),iV ((((bC r a.P)).2.1).aI),iV ((((bC r a.P)).2.1).ak)],iV (((bC r a.P)).2.2.1),iV (((bC r a.P)).2.2.2)]) (fun g_=>[]) (fun g_=>[ag.ls g_.1 (((bC r a.P)).1).ai,ag.ls g_.2.1 (((bC r a.P)).1).Things,ag.ls g_.2.2.1 (((bC r a.P)).1).Held,ag.ls g_.2.2.2 (((bC r a.P)).1).Notes]) O O O Hg O O (fun w own hw H=>Ae aD az aB aC (r) (a.P) w own H ‹_› ‹_›) O) ?_
         rintro ⟨z29,z30,z31,z32⟩
         dsimp only
         refine R.u 5 O<|R.s O (s.alloc (cs:=aG) cp O O) fun b4=>R.s O (s.alloc (cs:=[iV 0,.string (⟨#[]⟩),iV 0,iV 0]) dv O O) fun b5=>R.s O (s.dy (us:=[z29,z30,z31,z32,iV (((bC r a.P).1).ae),iV (((bC r a.P).1).af)]) (cs':=[z29,z30,z31,z32,iV (((bC r a.P).1).ae),iV (((bC r a.P).1).af)]) 1 _ O O O (fun _ _=>rfl) (.inl ap) (fun w hw=>(ah (Sl.one (hw.bq 0 O)) (ah (Sl.one (hw.bq 1 O)) (ah (Sl.one (hw.bq 2 O)) (ah (Sl.one (hw.bq 3 O)) (ah O (ah O aL))))))) O O O) fun _=>R.s O (s.st (us:=bg ((bC r a.P).2.1)) (cs':=bg ((bC r a.P).2.1)) 0 _ O O O O (.inl bO) O O O O) fun _=>R.u 2 O<|R.nil ?_
         refine R.reg O<|R.q (q.cj 1 O O ap) O<|R.u 1 O<|R.s O (s.dy (us:=[z29,z30,z31,z32,iV (((bC r a.P).1).ae),iV (((bC r a.P).1).af)]) (cs':=[z29,z30,z31,z32,iV (((bC r a.P).1).ae),iV (((bC r a.P).1).af)]) 2 _ O O O (fun _ _=>rfl) (.inl ap) (fun w hw=>(ah (Sl.one (hw.bq 0 O)) (ah (Sl.one (hw.bq 1 O)) (ah (Sl.one (hw.bq 2 O)) (ah (Sl.one (hw.bq 3 O)) (ah O (ah O aL))))))) O O O) fun _=>R.u 1 O<|R.nil ?_
         have hz:cr r a=(((bC r a.P).1),(bC r a.P).2.2.2):=by (unfold cr;(repeat' split) <;> first|rfl|(exfalso;simp_all;done)|(simp_all;done))
         rw [hz]
         exact R.w2 (z29,z30,z31,z32) [5] bm O Tryz.results12 (RV.cell 2 O O ap) (RV.tmp O) O O O (cD O O)
        ·
         refine R.q (q.jd O O h8) O<|R.u 1 O<|R.nil ?_
         refine R.aF O O ?_
         refine R.reg O<|R.q (q.cj 2 O O ap) O<|R.s O (s.dy (us:=[aD,az,aB,aC,iV r.ae,iV r.af]) (cs':=[aD,az,aB,aC,iV r.ae,iV r.af]) 0 _ O O O (fun _ _=>rfl) (.inl ap) (fun w hw=>(ah (Sl.one (hw.bq 0 O)) (ah (Sl.one (hw.bq 1 O)) (ah (Sl.one (hw.bq 2 O)) (ah (Sl.one (hw.bq 3 O)) (ah O (ah O aL))))))) O O O) fun _=>R.u 1 O<|R.nil ?_
         have hz:cr r a=(r,0):=by (unfold cr;(repeat' split) <;> first|rfl|(exfalso;simp_all;done)|(simp_all;done))
         rw [hz]
         exact R.w2 (aD,az,aB,aC) [3] bm O Tryz.results12 (RV.cell 0 O O ap) (RV.tmp O) O O O (cD O O)
end Go.Proofs.YtbkfhjaibhnkmaaGreatDoor
