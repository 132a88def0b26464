import Derived.Test.YtbkfhjaibhnkmaaGreatDoorIMS41
namespace Go.Proofs.YtbkfhjaibhnkmaaGreatDoor
open Go Go.RowKit
set_option linter.unusedVariables false
set_option linter.unusedSimpArgs false
set_option maxRecDepth 100000
set_option maxRecDepth 100000 in
set_option maxHeartbeats 1000000 in
theorem nY (aD az aB aC:Value)(r:ar)(w:World)(own:List Nat)(H:Wd w (blks []++own) ([]++[ag.held w own]) [ag.ls aD (r.ai:List ak),ag.ls az (r.Things:List ao),ag.ls aB (r.Held:List Held),ag.ls aC (r.Notes:List Note)] w)(hk:Ok r)(hP:Pre r):Calls Tryz.prog 55 #[.agg #[aD,az,aB,aC,iV r.ae,iV r.af]] w fun e w' => ∃z:Value×Value×Value×Value,e = .returned (.agg #[z.1,z.2.1,z.2.2.1,z.2.2.2,iV (((aY r)).ae),iV (((aY r)).af)])∧Wd w (blks []++own) ([]++[ag.held w own]) [ag.ls z.1 (((aY r)).ai:List ak),ag.ls z.2.1 (((aY r)).Things:List ao),ag.ls z.2.2.1 (((aY r)).Held:List Held),ag.ls z.2.2.2 (((aY r)).Notes:List Note)] w':=by
 have cS:=H.ct 0 rfl
 have cy:=H.ct 1 rfl
 have dq:=H.ct 2 rfl
 have cT:=H.ct 3 rfl
 refine R.da (n:=120) (vs:=[.agg #[aD,az,aB,aC,iV r.ae,iV r.af]]) (B:=[ag.held w own]) [(0,.agg #[aD,az,aB,aC,iV r.ae,iV r.af])] Tryz.func55 O O O O H ?_
 refine R.reg O<|R.s O (s.box (cs:=[aD,az,aB,aC,iV r.ae,iV r.af]) O O O) fun b1=>R.s O (s.alloc (cs:=aG) cp O O) fun b2=>R.nil ?_
 refine R.loop (fun g_:ar×Value×Value×Value×Value=>[(1,.pointer (some ⟨b1,0,none⟩)),(2,.pointer (some ⟨b2,0,none⟩))]) (fun g_=>[ag.box b2 aG 32,ag.box b1 [g_.2.1,g_.2.2.1,g_.2.2.2.1,g_.2.2.2.2,iV g_.1.ae,iV g_.1.af] 32,ag.held w own]) (fun g_=>[ag.ls g_.2.1 g_.1.ai,ag.ls g_.2.2.1 g_.1.Things,ag.ls g_.2.2.2.1 g_.1.Held,ag.ls g_.2.2.2.2 g_.1.Notes,ag.ls aD r.ai,ag.ls az r.Things,ag.ls aB r.Held,ag.ls aC r.Notes]) (fun g_=>Ok g_.1∧Pre g_.1∧aY g_.1=aY r) (fun g_=>g_.1.Notes.length) (r,aD,az,aB,aC) O (by exact ⟨hk,hP,rfl⟩) ⟨rfl,rfl,trivial⟩ (fun _=>Wd.pick [0,1,2] [0,1,2,3,0,1,2,3] O O O) ?_
 rintro ⟨m,jg,pn,mZ,oU⟩ ⟨hok,hpm,HS⟩
 dsimp only at *
 have o1:=hok.wl;have o2:=hok.tl;have o3:=hok.hl;have o4:=hok.nl;have hmt:=hpm.tree
 refine R.reg O<|R.q (q.aT (off':=0) O bf O) O<|R.q (q.ld 1 O O bE O) O<|R.q (q.aT (off':=4) O bW O) O<|R.q (q.ld 1 O O aA O) O<|R.q (q.aT (off':=5) O cI O) O<|R.q (q.ld 1 O O aA O) O<|R.q (q.FN (cs:=[jg,nS,nS,nS,iV m.ae,iV m.af]) cz O (fun w hw=>(uw (Sl.FM (hw.bq 0 O)) (uw O (uw O FL)))) O) O<|R.s O (s.alloc (cs:=aG) cp O O) fun b3=>R.s O (s.dy (us:=[jg,nS,nS,nS,iV m.ae,iV m.af]) (cs':=[jg,nS,nS,nS,iV m.ae,iV m.af]) 0 _ O O O (fun _ _=>rfl) (.inl ap) (fun w hw=>(ah (Sl.one (hw.bq 0 O)) (ah O (ah O (ah O (ah O (ah O aL))))))) O O O) fun _=>R.nil ?_
 refine R.reg O<|R.q (q.aT (off':=0) O bf O) O<|R.q (q.ld 2 O O bE O) O<|R.s O (s.lR E8 O O (fun w hw=>wM _ (m.ai) w (hw.bq 0 O) ‹_›) O) fun v1=>R.u 1 O<|R.nil ?_
 refine R.reg O<|R.u 1 O<|R.nil ?_
 refine R.row0 (α:=ao) 62 ?_
 refine R.loop (fun g_:Nat×Value×(List ao)=>[(1,.pointer (some ⟨b1,0,none⟩)),(2,.pointer (some ⟨b2,0,none⟩)),(3,.pointer (some ⟨b3,0,none⟩)),(4,v1),(5,iV (g_.1:Int))]) (fun g_=>[ag.row 62 g_.2.1 g_.2.2,ag.row 3 v1 (aX m.ai),ag.box b3 [jg,g_.2.1,nS,nS,iV m.ae,iV m.af] 32,ag.box b2 aG 32,ag.box b1 [jg,pn,mZ,oU,iV m.ae,iV m.af] 32,ag.held w own]) (fun g_=>[ag.ls jg m.ai,ag.ls pn m.Things,ag.ls mZ m.Held,ag.ls oU m.Notes,ag.ls aD r.ai,ag.ls az r.Things,ag.ls aB r.Held,ag.ls aC r.Notes]) (fun g_=>g_.1≤m.Things.length∧g_.2.2=(m.Things.take g_.1).filter (fun t => !!decide (t.ID∈(aX m.ai)))) (fun g_=>m.Things.length-g_.1) (0,(nS),[]) O (by exact ⟨by omega,by simp⟩) ⟨rfl,rfl,rfl,rfl,rfl,trivial⟩ (fun _=>Wd.pick ia bS O O O) ?_
 rintro ⟨j,vt,ts⟩ ⟨hj1,HT⟩
 dsimp only at *
 have htl:ts.length≤j:=by rw [HT];exact pF _ _ _
 refine R.reg O<|R.u 1 O<|R.q (q.aT (off':=1) O bM O) O<|R.q (q.ld 4 O O cq O) O<|R.q (q.len' (bJ 1 O) O Tryz.underlying28) O<|?_
 by_cases h1:j<m.Things.length
 ·
  refine R.q (q.lss O O (decide_eq_true (by omega))) O<|R.nil ?_
  refine R.aE O O ?_
  refine R.reg O<|R.u 1 O<|R.q (q.aT (off':=1) O bM O) O<|R.q (q.ld 4 O O cq O) O<|R.u 1 O<|?_
  obtain ⟨x1,hx1⟩:∃z,m.Things[j]? = some z:=⟨_,List.getElem?_eq_getElem (by omega)⟩
  refine R.q (q.idx (i:=j) (bJ 1 O) O O ew O hx1) O<|R.q (q.dF (j':=0) (bJ 1 O) hx1 O g9 O) O<|R.q (q.fb (bJ 1 O) hx1 O aA O) O<|?_
  rcases Bool.eq_false_or_eq_true (decide (x1.ID∈(aX m.ai))) with h2|h2
  ·
   refine R.c (q.call pS O O (fun w hw=>(cv (congrArg Value.bool h2) (km _ ((aX m.ai)) (x1.ID) w (hw.row 1 O) )))) O<|R.u 1 O<|R.nil ?_
   refine R.reg O<|R.u 1 O<|R.nil ?_
   refine R.aE O O ?_
   refine R.e8 (fuel:=11) (Wd w (blks []++own) [ag.row 3 v1 (aX m.ai),ag.box b2 aG 32,ag.box b1 [jg,pn,mZ,oU,iV m.ae,iV m.af] 32,ag.held w own] [ag.ls jg m.ai,ag.ls pn m.Things,ag.ls mZ m.Held,ag.ls oU m.Notes,ag.ls aD r.ai,ag.ls az r.Things,ag.ls aB r.Held,ag.ls aC r.Notes]) O mixed O ?_
   refine D.q (i:=0) O (by kernel_rfl) (aK qM bS O O O) O (q.aT (off':=1) O bM O) O<|D.q (i:=2) O (by kernel_rfl) (aK qM bS O O O) O (q.aT (off':=1) O bM O) O<|D.q (i:=3) O (by kernel_rfl) (aK qM bS O O O) O (q.ld 2 O O cq O) O<|D.q (i:=4) O (by kernel_rfl) (aK qM bS O O O) O (q.mv O) O<|D.q (i:=5) O (by kernel_rfl) (aK qM bS O O O) O (q.idx (i:=j) (bJ 1 O) O O ew O hx1) O<|D.q (i:=6) O (by kernel_rfl) (aK qM bS O O O) O (q.cY (ds:=eE x1) (bJ 1 O) hx1 O fu O) O<|D.two (i:=1) (j:=7) (by kernel_rfl) O O ?_ ?_
   ·
    refine Do.s (s.c (Qt.a (q.ld 2 O O cq O)) O) (fun _=>(aK qM bS O O O)) O fun _=>D.one (i:=7) (by kernel_rfl) O ?_
    refine Do.s (s.bs (l:=([x1]:List ao)) ew fw O O O O O O O) (fun _=>(aK oa bS O O O)) O fun b4=>D.one (i:=8) (by kernel_rfl) O ?_
    refine Do.s (s.app (l2:=[x1]) 1 _ O O O (cJ 0 O) iP (by (simp;omega)) (by (simp;omega)) (fun _=>rfl) O) (fun _=>(aK oa bS O O O)) O fun v2=>D.q (i:=9) O (by kernel_rfl) (aK oa bS O O O) O (q.aT (off':=1) O bM O) O<|D.one (i:=10) (by kernel_rfl) O ?_
    refine Do.s (s.dy (us:=[v2]) (cs':=[jg,v2,nS,nS,iV m.ae,iV m.af]) 3 _ O O O (fun w hw=>Sl.cm (hw.row 1 O)) (.inr ⟨cq,rfl⟩) (fun w hw=>(ah (Sl.one (hw.row 1 O)) aL)) O O O) (fun _=>(aK oa bS O O O)) O fun _=>D.done (by kernel_rfl)<|R.reg O<|R.u 1 O<|R.q (q.add (r:=((j+1:Nat):Int)) O O (wr (by omega))) O<|R.u 1 O<|R.nil ?_
    refine R.back (j+1,v2,(ts++([x1]))) O (by (exact ⟨by omega,by rw [jW hx1 (by simpa using ‹decide (_∈aX m.ai)=true›),HT]⟩)) (by dsimp only;omega) ⟨rfl,rfl,rfl,rfl,rfl,trivial⟩ (aK [1,2,3,4,5,6] bS O O O)
   ·
    refine Do.s (s.bs (l:=([x1]:List ao)) ew fw O O O O O O O) (fun _=>(aK oa bS O O O)) O fun b5=>D.one (i:=1) (by kernel_rfl) O ?_
    refine Do.s (s.c (Qt.a (q.ld 3 O O cq O)) O) (fun _=>(aK oa bS O O O)) O fun _=>D.one (i:=8) (by kernel_rfl) O ?_
    refine Do.s (s.app (l2:=[x1]) 1 _ O O O (cJ 0 O) iP (by (simp;omega)) (by (simp;omega)) (fun _=>rfl) O) (fun _=>(aK oa bS O O O)) O fun v3=>D.q (i:=9) O (by kernel_rfl) (aK oa bS O O O) O (q.aT (off':=1) O bM O) O<|D.one (i:=10) (by kernel_rfl) O ?_
    refine Do.s (s.dy (us:=[v3]) (cs':=[jg,v3,nS,nS,iV m.ae,iV m.af]) 3 _ O O O (fun w hw=>Sl.cm (hw.row 1 O)) (.inr ⟨cq,rfl⟩) (fun w hw=>(ah (Sl.one (hw.row 1 O)) aL)) O O O) (fun _=>(aK oa bS O O O)) O fun _=>D.done (by kernel_rfl)<|R.reg O<|R.u 1 O<|R.q (q.add (r:=((j+1:Nat):Int)) O O (wr (by omega))) O<|R.u 1 O<|R.nil ?_
    refine R.back (j+1,v3,(ts++([x1]))) O (by (exact ⟨by omega,by rw [jW hx1 (by simpa using ‹decide (_∈aX m.ai)=true›),HT]⟩)) (by dsimp only;omega) ⟨rfl,rfl,rfl,rfl,rfl,trivial⟩ (aK [1,2,3,4,5,6] bS O O O)
  ·
   refine R.c (q.call pS O O (fun w hw=>(cv (congrArg Value.bool h2) (km _ ((aX m.ai)) (x1.ID) w (hw.row 1 O) )))) O<|R.u 1 O<|R.nil ?_
   refine R.reg O<|R.u 1 O<|R.nil ?_
   refine R.aF O O ?_
   refine R.reg O<|R.u 1 O<|R.q (q.add (r:=((j+1:Nat):Int)) O O (wr (by omega))) O<|R.u 1 O<|R.nil ?_
   refine R.back (j+1,vt,ts) O (by (exact ⟨by omega,by rw [pE hx1 (by simpa using ‹decide (_∈aX m.ai)=false›),HT]⟩)) (by dsimp only;omega) ⟨rfl,rfl,rfl,rfl,rfl,trivial⟩ (aK ia bS O O O)
 ·
  refine R.q (q.lss O O (decide_eq_false (by omega))) O<|R.nil ?_
  refine R.aF O O ?_
  refine R.reg O<|R.u 1 O<|R.nil ?_
  refine R.row0 (α:=Held) 85 ?_
  refine R.loop (fun g_:Nat×Value×(List Held)=>[(1,.pointer (some ⟨b1,0,none⟩)),(2,.pointer (some ⟨b2,0,none⟩)),(3,.pointer (some ⟨b3,0,none⟩)),(4,v1),(7,iV (g_.1:Int))]) (fun g_=>[ag.row 85 g_.2.1 g_.2.2,ag.row 62 vt ts,ag.row 3 v1 (aX m.ai),ag.box b3 [jg,vt,g_.2.1,nS,iV m.ae,iV m.af] 32,ag.box b2 aG 32,ag.box b1 [jg,pn,mZ,oU,iV m.ae,iV m.af] 32,ag.held w own]) (fun g_=>[ag.ls jg m.ai,ag.ls pn m.Things,ag.ls mZ m.Held,ag.ls oU m.Notes,ag.ls aD r.ai,ag.ls az r.Things,ag.ls aB r.Held,ag.ls aC r.Notes]) (fun g_=>g_.1≤m.Held.length∧g_.2.2=(m.Held.take g_.1).filter (fun h => !decide (cB m.ai h.ak<0))) (fun g_=>m.Held.length-g_.1) (0,(nS),[]) O (by exact ⟨by omega,by simp⟩) ⟨rfl,rfl,rfl,rfl,rfl,trivial⟩ (fun _=>Wd.pick gW bS O O O) ?_
  rintro ⟨i,vh,hs⟩ ⟨hi1,HH⟩
  dsimp only at *
  have Kv:hs.length≤i:=by rw [HH];exact pF _ _ _
  refine R.reg O<|R.u 1 O<|R.q (q.aT (off':=2) O bB O) O<|R.q (q.ld 5 O O bZ O) O<|R.q (q.len' (bJ 2 O) O Tryz.underlying29) O<|?_
  by_cases h3:i<m.Held.length
  ·
   refine R.q (q.lss O O (decide_eq_true (by omega))) O<|R.nil ?_
   refine R.aE O O ?_
   obtain ⟨x2,hx2⟩:∃z,m.Held[i]? = some z:=⟨_,List.getElem?_eq_getElem (by omega)⟩
   rcases dR m.ai x2.ak with ⟨eU,ug⟩ | ⟨lW,hZ,eU,oT,EK⟩
   ·
    refine R.dP O mixed (by kernel_rfl)<|Q.q (q.aT (off':=0) O bf O) O<|Q.q (q.ld 5 O O bE O) O<|Q.q (q.aT (off':=2) O bB O) O<|Q.q (q.ld 5 O O bZ O) O<|Q.u 1 O<|Q.q (q.idx (i:=i) (bJ 2 O) O O bK O hx2) O<|Q.q (q.dF (j':=2) (bJ 2 O) hx2 O fL O) O<|Q.q (q.fb (bJ 2 O) hx2 O aA O) O<|Q.c (q.call lp O O (fun w hw=>(cv (congrArg (Value.int .i64) eU) (fB _ (m.ai) (x2.ak) w (hw.bq 0 O) )))) O<|Q.q (q.geq (b:=false) O O (by decide)) O<|Q.nil ?_
    refine R.aF O O ?_
    refine R.reg O<|R.u 1 O<|R.q (q.add (r:=((i+1:Nat):Int)) O O (wr (by omega))) O<|R.u 1 O<|R.nil ?_
    refine R.back (i+1,vh,hs) O (by (exact ⟨by omega,by rw [pE hx2 (by (simp;omega)),HH]⟩)) (by dsimp only;omega) ⟨rfl,rfl,rfl,rfl,rfl,trivial⟩ (aK gW bS O O O)
   ·
    refine R.dP O mixed (by kernel_rfl)<|Q.q (q.aT (off':=0) O bf O) O<|Q.q (q.ld 5 O O bE O) O<|Q.q (q.aT (off':=2) O bB O) O<|Q.q (q.ld 5 O O bZ O) O<|Q.u 1 O<|Q.q (q.idx (i:=i) (bJ 2 O) O O bK O hx2) O<|Q.q (q.dF (j':=2) (bJ 2 O) hx2 O fL O) O<|Q.q (q.fb (bJ 2 O) hx2 O aA O) O<|Q.c (q.call lp O O (fun w hw=>(cv (congrArg (Value.int .i64) eU) (fB _ (m.ai) (x2.ak) w (hw.bq 0 O) )))) O<|Q.q (q.geq O O (decide_eq_true (by omega))) O<|Q.nil ?_
    refine R.aE O O ?_
    refine R.e8 (fuel:=11) (Wd w (blks []++own) [ag.row 62 vt ts,ag.row 3 v1 (aX m.ai),ag.box b2 aG 32,ag.box b1 [jg,pn,mZ,oU,iV m.ae,iV m.af] 32,ag.held w own] [ag.ls jg m.ai,ag.ls pn m.Things,ag.ls mZ m.Held,ag.ls oU m.Notes,ag.ls aD r.ai,ag.ls az r.Things,ag.ls aB r.Held,ag.ls aC r.Notes]) O mixed O ?_
    refine D.q (i:=0) O (by kernel_rfl) (aK qN bS O O O) O (q.aT (off':=2) O bB O) O<|D.q (i:=2) O (by kernel_rfl) (aK qN bS O O O) O (q.aT (off':=2) O bB O) O<|D.q (i:=3) O (by kernel_rfl) (aK qN bS O O O) O (q.ld 3 O O bZ O) O<|D.q (i:=4) O (by kernel_rfl) (aK qN bS O O O) O (q.mv O) O<|D.q (i:=5) O (by kernel_rfl) (aK qN bS O O O) O (q.idx (i:=i) (bJ 2 O) O O bK O hx2) O<|D.q (i:=6) O (by kernel_rfl) (aK qN bS O O O) O (q.cY (ds:=dJ x2) (bJ 2 O) hx2 O dB O) O<|D.two (i:=1) (j:=7) (by kernel_rfl) O O ?_ ?_
    ·
     refine Do.s (s.c (Qt.a (q.ld 3 O O bZ O)) O) (fun _=>(aK qN bS O O O)) O fun _=>D.one (i:=7) (by kernel_rfl) O ?_
     refine Do.s (s.bs (l:=([x2]:List Held)) bK dk O O O O O O O) (fun _=>(aK ob bS O O O)) O fun b6=>D.one (i:=8) (by kernel_rfl) O ?_
     refine Do.s (s.app (l2:=[x2]) 1 _ O O O (cJ 0 O) dZ (by (simp;omega)) (by (simp;omega)) (fun _=>rfl) O) (fun _=>(aK ob bS O O O)) O fun v4=>D.q (i:=9) O (by kernel_rfl) (aK ob bS O O O) O (q.aT (off':=2) O bB O) O<|D.one (i:=10) (by kernel_rfl) O ?_
     refine Do.s (s.dy (us:=[v4]) (cs':=[jg,vt,v4,nS,iV m.ae,iV m.af]) 4 _ O O O (fun w hw=>Sl.cm (hw.row 1 O)) (.inr ⟨bZ,rfl⟩) (fun w hw=>(ah (Sl.one (hw.row 1 O)) aL)) O O O) (fun _=>(aK ob bS O O O)) O fun _=>D.done (by kernel_rfl)<|R.reg O<|R.u 1 O<|R.q (q.add (r:=((i+1:Nat):Int)) O O (wr (by omega))) O<|R.u 1 O<|R.nil ?_
     refine R.back (i+1,v4,(hs++([x2]))) O (by (exact ⟨by omega,by rw [jW hx2 (by (simp;omega)),HH]⟩)) (by dsimp only;omega) ⟨rfl,rfl,rfl,rfl,rfl,trivial⟩ (aK [1,2,3,4,5,6,7] bS O O O)
    ·
     refine Do.s (s.bs (l:=([x2]:List Held)) bK dk O O O O O O O) (fun _=>(aK ob bS O O O)) O fun b7=>D.one (i:=1) (by kernel_rfl) O ?_
     refine Do.s (s.c (Qt.a (q.ld 4 O O bZ O)) O) (fun _=>(aK ob bS O O O)) O fun _=>D.one (i:=8) (by kernel_rfl) O ?_
     refine Do.s (s.app (l2:=[x2]) 1 _ O O O (cJ 0 O) dZ (by (simp;omega)) (by (simp;omega)) (fun _=>rfl) O) (fun _=>(aK ob bS O O O)) O fun v5=>D.q (i:=9) O (by kernel_rfl) (aK ob bS O O O) O (q.aT (off':=2) O bB O) O<|D.one (i:=10) (by kernel_rfl) O ?_
     refine Do.s (s.dy (us:=[v5]) (cs':=[jg,vt,v5,nS,iV m.ae,iV m.af]) 4 _ O O O (fun w hw=>Sl.cm (hw.row 1 O)) (.inr ⟨bZ,rfl⟩) (fun w hw=>(ah (Sl.one (hw.row 1 O)) aL)) O O O) (fun _=>(aK ob bS O O O)) O fun _=>D.done (by kernel_rfl)<|R.reg O<|R.u 1 O<|R.q (q.add (r:=((i+1:Nat):Int)) O O (wr (by omega))) O<|R.u 1 O<|R.nil ?_
     refine R.back (i+1,v5,(hs++([x2]))) O (by (exact ⟨by omega,by rw [jW hx2 (by (simp;omega)),HH]⟩)) (by dsimp only;omega) ⟨rfl,rfl,rfl,rfl,rfl,trivial⟩ (aK [1,2,3,4,5,6,7] bS O O O)
  ·
   refine R.q (q.lss O O (decide_eq_false (by omega))) O<|R.nil ?_
   refine R.aF O O ?_
   refine R.reg O<|R.u 1 O<|R.nil ?_
   refine R.reg O<|R.u 1 O<|R.nil ?_
   refine R.row0 (α:=Note) 72 ?_
   refine R.loop (fun g_:Nat×Nat×Value×(List ak)×Value×(List Note)=>[(1,.pointer (some ⟨b1,0,none⟩)),(2,.pointer (some ⟨b2,0,none⟩)),(3,.pointer (some ⟨b3,0,none⟩)),(4,v1),(8,iV (g_.2.1:Int)),(9,iV (g_.1:Int))]) (fun g_=>[ag.row 72 g_.2.2.2.2.1 g_.2.2.2.2.2,ag.row 85 vh hs,ag.row 62 vt ts,ag.row 3 v1 (aX m.ai),ag.box b3 [g_.2.2.1,vt,vh,g_.2.2.2.2.1,iV m.ae,iV m.af] 32,ag.box b2 aG 32,ag.box b1 [jg,pn,mZ,oU,iV m.ae,iV m.af] 32,ag.held w own]) (fun g_=>[ag.ls g_.2.2.1 g_.2.2.2.1,ag.ls jg m.ai,ag.ls pn m.Things,ag.ls mZ m.Held,ag.ls oU m.Notes,ag.ls aD r.ai,ag.ls az r.Things,ag.ls aB r.Held,ag.ls aC r.Notes]) (fun g_=>g_.1≤m.Notes.length∧g_.2.2.2.2.2=fH m.ai (aX m.ai) (m.Notes.take g_.1)∧g_.2.2.2.1=(f5 m.ai (aX m.ai) (m.Notes.take g_.1)).foldl without m.ai∧g_.2.1=(f5 m.ai (aX m.ai) (m.Notes.take g_.1)).length) (fun g_=>m.Notes.length-g_.1) (0,0,jg,m.ai,(nS),[]) O (by exact ⟨by omega,by simp [fH],by simp [f5],by simp [f5]⟩) ⟨rfl,rfl,rfl,rfl,rfl,rfl,trivial⟩ (fun _=>Wd.pick bS [0,0,1,2,3,4,5,6,7] O O O) ?_
   rintro ⟨k,c,vw,ws,vn,ns⟩ ⟨hk1,HN,HW,HC⟩
   dsimp only at *
   have hkl:=kN m.ai (aX m.ai) (m.Notes.take k);rw [← HN,← HC,List.length_take] at hkl;have hwt:cR ws:=by rw [HW];exact pq _ _ hpm.tree
   have hwl:ws.length≤2000:=by rw [HW];exact Nat.le_trans (my _ _) hok.wl
   refine R.reg O<|R.u 1 O<|R.q (q.aT (off':=3) O br O) O<|R.q (q.ld 6 O O bN O) O<|R.q (q.len' (bJ 4 O) O Tryz.underlying30) O<|?_
   by_cases h4:k<m.Notes.length
   ·
    refine R.q (q.lss O O (decide_eq_true (by omega))) O<|R.nil ?_
    refine R.aE O O ?_
    refine R.reg O<|R.q (q.aT (off':=3) O br O) O<|R.q (q.ld 6 O O bN O) O<|R.u 1 O<|?_
    obtain ⟨x3,hx3⟩:∃z,m.Notes[k]? = some z:=⟨_,List.getElem?_eq_getElem (by omega)⟩
    refine R.q (q.idx (i:=k) (bJ 4 O) O O du O hx3) O<|R.q (q.cY (ds:=bg x3) (bJ 4 O) hx3 O bO O) O<|R.s O (s.alloc (cs:=[iV 0,.string (⟨#[]⟩),iV 0,iV 0]) dv O O) fun b8=>R.s O (s.st (us:=bg x3) (cs':=bg x3) 0 _ O O O O (.inl bO) O O O O) fun _=>R.nil ?_
    refine R.reg O<|R.q (q.aT (off':=0) O bf O) O<|R.q (q.ld 7 O O bE O) O<|R.q (q.aT (off':=3) O dE O) O<|R.q (q.ld 0 O O aA O) O<|?_
    rcases dR m.ai x3.ak with ⟨yY,Kw⟩ | ⟨Kx,F6,yY,Ky,Kz⟩
    ·
     refine R.c (q.call lp O O (fun w hw=>(cv (congrArg (Value.int .i64) yY) (fB _ (m.ai) (x3.ak) w (hw.bq 1 O) )))) O<|R.q (q.lss (b:=true) O O (by decide)) O<|R.nil ?_
     refine R.aE O O ?_
     refine R.reg O<|R.q (q.aT (off':=3) O dE O) O<|R.s O (s.st (us:=[iV 0]) (cs':=[iV x3.Port,.string x3.Data,iV x3.aI,iV 0]) 0 _ O O O O (.inr ⟨aA,rfl⟩) O O O O) fun _=>R.nil ?_
     refine R.reg O<|R.u 1 O<|R.q (q.aT (off':=0) O gH O) O<|R.q (q.ld 0 O O aA O) O<|?_
     rcases Bool.eq_false_or_eq_true (decide (x3.Port∈(aX m.ai))) with h5|h5
     ·
      refine R.c (q.call pS O O (fun w hw=>(cv (congrArg Value.bool h5) (km _ ((aX m.ai)) (x3.Port) w (hw.row 4 O) )))) O<|R.u 1 O<|R.nil ?_
      refine R.reg O<|R.u 1 O<|R.nil ?_
      refine R.aE O O ?_
      refine R.reg O<|R.q (q.aT (off':=3) O br O) O<|R.q (q.ld 5 O O bN O) O<|R.q (q.cj 0 O O bO) O<|R.s O (s.bs (l:=([(⟨x3.Port,x3.Data,x3.aI,0⟩:Note)]:List Note)) du dv O O O O O O O) fun b9=>R.s O (s.app (l2:=[(⟨x3.Port,x3.Data,x3.aI,0⟩:Note)]) 2 _ O O O (cJ 0 O) dL (by (simp;omega)) (by (simp;omega)) (fun _=>rfl) O) fun v6=>R.q (q.aT (off':=3) O br O) O<|R.s O (s.dy (us:=[v6]) (cs':=[vw,vt,vh,v6,iV m.ae,iV m.af]) 6 _ O O O (fun w hw=>Sl.cm (hw.row 2 O)) (.inr ⟨bN,rfl⟩) (fun w hw=>(ah (Sl.one (hw.row 2 O)) aL)) O O O) fun _=>R.nil ?_
      refine R.reg O<|R.u 1 O<|R.q (q.add (r:=((k+1:Nat):Int)) O O (wr (by omega))) O<|R.u 1 O<|R.nil ?_
      refine R.back (k+1,c,vw,ws,v6,(ns++([(⟨x3.Port,x3.Data,x3.aI,0⟩:Note)]))) O (by (have e0:=hx3;(have e1:=qv (ws:=m.ai) yY;have e2:=mV e0 (by rw [e1];exact of_decide_eq_true ‹_›);rw [e1] at e2;exact ⟨by omega,by rw [e2.1,HN],by rw [e2.2,HW],by rw [e2.2,HC]⟩))) (by dsimp only;omega) ⟨rfl,rfl,rfl,rfl,rfl,rfl,trivial⟩ (aK uQ cU O O O)
     ·
      refine R.c (q.call pS O O (fun w hw=>(cv (congrArg Value.bool h5) (km _ ((aX m.ai)) (x3.Port) w (hw.row 4 O) )))) O<|R.u 1 O<|R.nil ?_
      refine R.reg O<|R.u 1 O<|R.nil ?_
      refine R.aF O O ?_
      refine R.reg O<|R.q (q.aT (off':=3) O dE O) O<|R.q (q.ld 0 O O aA O) O<|R.q (q.gtr (b:=false) O O (by decide)) O<|R.nil ?_
      refine R.aF O O ?_
      refine R.reg O<|R.u 1 O<|R.q (q.add (r:=((k+1:Nat):Int)) O O (wr (by omega))) O<|R.u 1 O<|R.nil ?_
      refine R.back (k+1,c,vw,ws,vn,ns) O (by (have e0:=hx3;(have e1:=qv (ws:=m.ai) yY;have e2:=mW e0 (by rw [e1];exact of_decide_eq_false ‹_›) (by rw [e1];simp);exact ⟨by omega,by rw [e2.1,HN],by rw [e2.2,HW],by rw [e2.2,HC]⟩))) (by dsimp only;omega) ⟨rfl,rfl,rfl,rfl,rfl,rfl,trivial⟩ (aK uR cU O O O)
    ·
     refine R.c (q.call lp O O (fun w hw=>(cv (congrArg (Value.int .i64) yY) (fB _ (m.ai) (x3.ak) w (hw.bq 1 O) )))) O<|R.q (q.lss O O (decide_eq_false (by omega))) O<|R.nil ?_
     refine R.aF O O ?_
     refine R.reg O<|R.u 1 O<|R.q (q.aT (off':=0) O gH O) O<|R.q (q.ld 0 O O aA O) O<|?_
     rcases Bool.eq_false_or_eq_true (decide (x3.Port∈(aX m.ai))) with h6|h6
     ·
      refine R.c (q.call pS O O (fun w hw=>(cv (congrArg Value.bool h6) (km _ ((aX m.ai)) (x3.Port) w (hw.row 4 O) )))) O<|R.u 1 O<|R.nil ?_
      refine R.reg O<|R.u 1 O<|R.nil ?_
      refine R.aE O O ?_
      refine R.reg O<|R.q (q.aT (off':=3) O br O) O<|R.q (q.ld 5 O O bN O) O<|R.q (q.cj 0 O O bO) O<|R.s O (s.bs (l:=([x3]:List Note)) du dv O O O O O O O) fun b10=>R.s O (s.app (l2:=[x3]) 2 _ O O O (cJ 0 O) dL (by (simp;omega)) (by (simp;omega)) (fun _=>rfl) O) fun v7=>R.q (q.aT (off':=3) O br O) O<|R.s O (s.dy (us:=[v7]) (cs':=[vw,vt,vh,v7,iV m.ae,iV m.af]) 6 _ O O O (fun w hw=>Sl.cm (hw.row 2 O)) (.inr ⟨bN,rfl⟩) (fun w hw=>(ah (Sl.one (hw.row 2 O)) aL)) O O O) fun _=>R.nil ?_
      refine R.reg O<|R.u 1 O<|R.q (q.add (r:=((k+1:Nat):Int)) O O (wr (by omega))) O<|R.u 1 O<|R.nil ?_
      refine R.back (k+1,c,vw,ws,v7,(ns++([x3]))) O (by (have e0:=hx3;(have e1:=kO (ws:=m.ai) yY;have e2:=mV e0 (by rw [e1];exact of_decide_eq_true ‹_›);rw [e1] at e2;exact ⟨by omega,by rw [e2.1,HN],by rw [e2.2,HW],by rw [e2.2,HC]⟩))) (by dsimp only;omega) ⟨rfl,rfl,rfl,rfl,rfl,rfl,trivial⟩ (aK uQ cU O O O)
     ·
      refine R.c (q.call pS O O (fun w hw=>(cv (congrArg Value.bool h6) (km _ ((aX m.ai)) (x3.Port) w (hw.row 4 O) )))) O<|R.u 1 O<|R.nil ?_
      refine R.reg O<|R.u 1 O<|R.nil ?_
      refine R.aF O O ?_
      refine R.reg O<|R.q (q.aT (off':=3) O dE O) O<|R.q (q.ld 0 O O aA O) O<|?_
      by_cases h7:0<x3.ak
      ·
       refine R.q (q.gtr O O (decide_eq_true (by omega))) O<|R.nil ?_
       refine R.aE O O ?_
       refine R.reg O<|R.q (q.aT (off':=0) O bf O) O<|R.q (q.ld 5 O O bE O) O<|R.q (q.aT (off':=3) O dE O) O<|R.q (q.ld 0 O O aA O) O<|R.s O (s.lR yp O O (fun w hw=>jx _ (ws) (x3.ak) w (hw.bq 0 O) (by omega) ‹_›) O) fun v8=>R.q (q.aT (off':=0) O bf O) O<|R.s O (s.dy (us:=[v8]) (cs':=[v8,vt,vh,vn,iV m.ae,iV m.af]) 6 _ O O O (fun w hw=>Sl.cm (hw.row 0 O)) (.inr ⟨bE,rfl⟩) (fun w hw=>(ah (Sl.one (hw.row 0 O)) aL)) O O O) fun _=>R.nil ?_
       refine R.reg O<|R.u 1 O<|R.q (q.add (r:=((c+1:Nat):Int)) O O (wr (by omega))) O<|R.u 1 O<|R.nil ?_
       refine R.reg O<|R.u 1 O<|R.q (q.add (r:=((k+1:Nat):Int)) O O (wr (by omega))) O<|R.u 1 O<|R.nil ?_
       refine R.mp (B':=[ag.box b8 (bg x3) 72,ag.row 72 vn ns,ag.row 85 vh hs,ag.row 62 vt ts,ag.row 3 v1 (aX m.ai),ag.box b3 [v8,vt,vh,vn,iV m.ae,iV m.af] 32,ag.box b2 aG 32,ag.box b1 [jg,pn,mZ,oU,iV m.ae,iV m.af] 32,ag.held w own]) (fun _ hw=>hw.bH 0 _ O O) ?_
       refine R.back (k+1,c+1,v8,(without ws x3.ak),vn,ns) O (by (have e0:=hx3;(have e1:=kO (ws:=m.ai) yY;have e2:=s9 e0 (by rw [e1];exact of_decide_eq_false ‹_›) (by rw [e1];assumption);rw [e1] at e2;exact ⟨by omega,by rw [e2.1,HN],by rw [e2.2,List.foldl_append,← HW];rfl,by rw [e2.2,List.length_append,← HC];rfl⟩))) (by dsimp only;omega) ⟨rfl,rfl,rfl,rfl,rfl,rfl,trivial⟩ (aK uR [0,2,3,4,5,6,7,8,9] O O O)
      ·
       refine R.q (q.gtr O O (decide_eq_false (by omega))) O<|R.nil ?_
       refine R.aF O O ?_
       refine R.reg O<|R.u 1 O<|R.q (q.add (r:=((k+1:Nat):Int)) O O (wr (by omega))) O<|R.u 1 O<|R.nil ?_
       refine R.back (k+1,c,vw,ws,vn,ns) O (by (have e0:=hx3;(have e1:=kO (ws:=m.ai) yY;have e2:=mW e0 (by rw [e1];exact of_decide_eq_false ‹_›) (by rw [e1];assumption);exact ⟨by omega,by rw [e2.1,HN],by rw [e2.2,HW],by rw [e2.2,HC]⟩))) (by dsimp only;omega) ⟨rfl,rfl,rfl,rfl,rfl,rfl,trivial⟩ (aK uR cU O O O)
   ·
    refine R.q (q.lss O O (decide_eq_false (by omega))) O<|R.nil ?_
    refine R.aF O O ?_
    refine R.reg O<|R.u 1 O<|?_
    by_cases h8:c=0
    ·
     refine R.q (q.eql O O (beq_iff_eq.2 (by omega))) O<|R.nil ?_
     refine R.aE O O ?_
     refine R.reg O<|R.q (q.cj 4 O O ap) O<|R.s O (s.dy (us:=[vw,vt,vh,vn,iV m.ae,iV m.af]) (cs':=[vw,vt,vh,vn,iV m.ae,iV m.af]) 5 _ O O O (fun _ _=>rfl) (.inl ap) (fun w hw=>(ah (Sl.one (hw.bq 0 O)) (ah (Sl.one (hw.row 2 O)) (ah (Sl.one (hw.row 1 O)) (ah (Sl.one (hw.row 0 O)) (ah O (ah O aL))))))) O O O) fun _=>R.nil ?_
     refine R.mp (B':=[ag.row 72 vn ns,ag.row 85 vh hs,ag.row 3 v1 (aX m.ai),ag.box b3 [vw,vt,vh,vn,iV m.ae,iV m.af] 32,ag.box b2 [vw,vt,vh,vn,iV m.ae,iV m.af] 32,ag.box b1 [jg,pn,mZ,oU,iV m.ae,iV m.af] 32,ag.held w own]) (fun _ hw=>hw.bH 2 _ O O) ?_
     refine R.mp (B':=[ag.row 72 vn ns,ag.row 3 v1 (aX m.ai),ag.box b3 [vw,vt,vh,vn,iV m.ae,iV m.af] 32,ag.box b2 [vw,vt,vh,vn,iV m.ae,iV m.af] 32,ag.box b1 [jg,pn,mZ,oU,iV m.ae,iV m.af] 32,ag.held w own]) (fun _ hw=>hw.bH 1 _ O O) ?_
     refine R.mp (B':=[ag.row 3 v1 (aX m.ai),ag.box b3 [vw,vt,vh,vn,iV m.ae,iV m.af] 32,ag.box b2 [vw,vt,vh,vn,iV m.ae,iV m.af] 32,ag.box b1 [jg,pn,mZ,oU,iV m.ae,iV m.af] 32,ag.held w own]) (fun _ hw=>hw.bH 0 _ O O) ?_
     have hz:aY r=(⟨ws,ts,hs,ns,m.ae,m.af⟩:ar):=by (rw [List.take_of_length_le (by omega)] at HT HH HN HW HC;have hl0:f5 m.ai (aX m.ai) m.Notes=[]:=List.eq_nil_of_length_eq_zero (by omega);rw [hl0] at HW;rw [← HS,kb (by show (f5 _ _ _).length=0;rw [hl0];rfl)];unfold eS;rw [← HN,← HT,← HH,HW];rfl)
     rw [hz]
     exact R.w1 (vw,vt,vh,vn) [4] dj O Tryz.results55 (RV.cell 2 O O ap) O O O O
    ·
     refine R.q (q.eql O O (beq_eq_false_iff_ne.2 (by omega))) O<|R.nil ?_
     refine R.aF O O ?_
     refine R.reg O<|R.q (q.cj 4 O O ap) O<|R.s O (s.dy (us:=[vw,vt,vh,vn,iV m.ae,iV m.af]) (cs':=[vw,vt,vh,vn,iV m.ae,iV m.af]) 6 _ O O O (fun _ _=>rfl) (.inl ap) (fun w hw=>(ah (Sl.one (hw.bq 0 O)) (ah (Sl.one (hw.row 2 O)) (ah (Sl.one (hw.row 1 O)) (ah (Sl.one (hw.row 0 O)) (ah O (ah O aL))))))) O O O) fun _=>R.nil ?_
     refine R.mp (B':=[ag.row 72 vn ns,ag.row 85 vh hs,ag.row 3 v1 (aX m.ai),ag.box b3 [vw,vt,vh,vn,iV m.ae,iV m.af] 32,ag.box b2 aG 32,ag.box b1 [vw,vt,vh,vn,iV m.ae,iV m.af] 32,ag.held w own]) (fun _ hw=>hw.bH 2 _ O O) ?_
     refine R.mp (B':=[ag.row 72 vn ns,ag.row 3 v1 (aX m.ai),ag.box b3 [vw,vt,vh,vn,iV m.ae,iV m.af] 32,ag.box b2 aG 32,ag.box b1 [vw,vt,vh,vn,iV m.ae,iV m.af] 32,ag.held w own]) (fun _ hw=>hw.bH 1 _ O O) ?_
     refine R.mp (B':=[ag.row 3 v1 (aX m.ai),ag.box b3 [vw,vt,vh,vn,iV m.ae,iV m.af] 32,ag.box b2 aG 32,ag.box b1 [vw,vt,vh,vn,iV m.ae,iV m.af] 32,ag.held w own]) (fun _ hw=>hw.bH 0 _ O O) ?_
     refine R.back ((⟨ws,ts,hs,ns,m.ae,m.af⟩:ar),vw,vt,vh,vn) O (by (rw [List.take_of_length_le (by omega)] at HT HH HN HW HC;have hl:ka m=f5 m.ai (aX m.ai) m.Notes:=rfl;have e:jm m=(⟨ws,ts,hs,ns,m.ae,m.af⟩:ar):=(by unfold jm;rw [hl,← HW];unfold eS;rw [← HN,← HT,← HH]);exact Eq.mp (congrArg (fun q:ar=>Ok q∧Pre q∧aY q=aY r) e) ⟨hok.jm,hpm.sw (ids:=ka m) (fun j hj=>hj),(pY (by rw [hl,← HC];assumption)).symm.trans HS⟩)) (by dsimp only;omega) ⟨rfl,rfl,trivial⟩ (aK [2,3,4] [3,2,1,0,8,9,10,11] O O O)
theorem Ac (aD az aB aC:Value)(r:ar)(p:Place)(w:World)(own:List Nat)(H:Wd w (blks []++own) ([]++[ag.held w own]) [ag.ls aD (r.ai:List ak),ag.ls az (r.Things:List ao),ag.ls aB (r.Held:List Held),ag.ls aC (r.Notes:List Note)] w)(hk:Ok r)(hI:Inv r):Calls Tryz.prog 41 #[.agg #[aD,az,aB,aC,iV r.ae,iV r.af],.agg #[iV p.aj,iV p.Slot]] w fun e w' => ∃z:Value×Value×Value×Value,e = .returned (.tuple #[.agg #[z.1,z.2.1,z.2.2.1,z.2.2.2,iV ((((cX r p)).1).ae),iV ((((cX r p)).1).af)],iV (((cX r p)).2)])∧Wd w (blks []++own) ([]++[ag.held w own]) [ag.ls z.1 ((((cX r p)).1).ai:List ak),ag.ls z.2.1 ((((cX r p)).1).Things:List ao),ag.ls z.2.2.1 ((((cX r p)).1).Held:List Held),ag.ls z.2.2.2 ((((cX r p)).1).Notes:List Note)] w':=by
 have cS:=H.ct 0 rfl
 have cy:=H.ct 1 rfl
 have dq:=H.ct 2 rfl
 have cT:=H.ct 3 rfl
 have bw:=hk.wl;have bt:=hk.tl;have bh:=hk.hl;have bn:=hk.nl;have rL:=hk.w0;have rM:=hk.w1;have rN:=hk.t0;have rO:=hk.t1
 have gn:=eC r p
 have hkd:=hk.wo (au r p).1.ID
 refine R.da (n:=26) (vs:=[.agg #[aD,az,aB,aC,iV r.ae,iV r.af],.agg #[iV p.aj,iV p.Slot]]) (B:=[ag.held w own]) [(0,.agg #[aD,az,aB,aC,iV r.ae,iV r.af]),(1,.agg #[iV p.aj,iV p.Slot])] Tryz.func41 O O O O H ?_
 refine R.reg O<|R.s O (s.box (cs:=[aD,az,aB,aC,iV r.ae,iV r.af]) O O O) fun b1=>R.s O (s.box (cs:=av p) O O O) fun b2=>R.s O (s.alloc (cs:=aG) cp O O) fun b3=>R.u 1 O<|R.nil ?_
 refine R.reg O<|R.q (q.cj 2 O O ap) O<|R.q (q.cj 1 O O aS) O<|R.c (q.call sV O O (fun w hw=>(k5 _ _ _ _ (r) (p) w (hw.bq 0 O) (hw.bq 1 O) (hw.bq 2 O) (hw.bq 3 O) ‹_› ‹_›))) O<|R.u 3 O<|R.s O (s.alloc (cs:=cC) bF O O) fun b4=>R.s O (s.st (us:=ay ((au r p).1)) (cs':=ay ((au r p).1)) 0 _ O O O O (.inl aP) O O O O) fun _=>R.u 1 O<|R.nil ?_
 refine R.reg O<|R.u 1 O<|?_
 by_cases h1:0<(au r p).2
 ·
  refine R.q (q.gtr O O (decide_eq_true (by omega))) O<|R.nil ?_
  refine R.aE O O ?_
  refine R.reg O<|R.q (q.build (cs:=aG) cz O O) O<|R.u 1 O<|R.s O (s.st (us:=aG) (cs':=aG) 1 _ O O O O (.inl ap) O O O O) fun _=>R.u 1 O<|R.nil ?_
  refine R.mp (fun _ hw=>hw.aR (α:=ak)) ?_
  refine R.mp (fun _ hw=>hw.aR (α:=ao)) ?_
  refine R.mp (fun _ hw=>hw.aR (α:=Held)) ?_
  refine R.mp (fun _ hw=>hw.aR (α:=Note)) ?_
  have hz:cX r p=((⟨[],[],[],[],0,0⟩:ar),(au r p).2):=by (unfold cX;rw [if_neg (by omega)];(try rfl))
  rw [hz]
  exact R.w2 ((nS),(nS),(nS),(nS)) [4] dj O Tryz.results41 (RV.cell 1 O O ap) (RV.tmp O) O O O (cD O O)
 ·
  have gz:(au r p).2=0:=by omega
  have KA:=hI.toPre.wo (au r p).1.ID
  refine R.q (q.gtr O O (decide_eq_false (by omega))) O<|R.nil ?_
  refine R.aF O O ?_
  refine R.reg O<|R.q (q.aT (off':=0) O bf O) O<|R.q (q.ld 3 O O bE O) O<|R.q (q.aT (off':=0) O bI O) O<|R.q (q.ld 0 O O aA O) O<|R.s O (s.lR yp O O (fun w hw=>jx _ (r.ai) (((au r p).1).ID) w (hw.bq 0 O) (by omega) (by exact hI.tree)) O) fun v1=>R.q (q.aT (off':=0) O bf O) O<|R.s O (s.dy (us:=[v1]) (cs':=[v1,az,aB,aC,iV r.ae,iV r.af]) 4 _ O O O (fun w hw=>Sl.cm (hw.row 0 O)) (.inr ⟨bE,rfl⟩) (fun w hw=>(ah (Sl.one (hw.row 0 O)) aL)) O O O) fun _=>R.nil ?_
  refine R.reg O<|R.q (q.cj 4 O O ap) O<|R.s (B':=(fun g_:Value×Value×Value×Value=>[ag.box b4 (ay ((au r p).1)) 88,ag.box b3 aG 32,ag.box b2 (av p) 39,ag.box b1 [v1,az,aB,aC,iV r.ae,iV r.af] 32,ag.held w own])) (F':=(fun g_=>[ag.ls g_.1 ((aY (⟨(without r.ai (((au r p).1).ID)),r.Things,r.Held,r.Notes,r.ae,r.af⟩:ar))).ai,ag.ls g_.2.1 ((aY (⟨(without r.ai (((au r p).1).ID)),r.Things,r.Held,r.Notes,r.ae,r.af⟩:ar))).Things,ag.ls g_.2.2.1 ((aY (⟨(without r.ai (((au r p).1).ID)),r.Things,r.Held,r.Notes,r.ae,r.af⟩:ar))).Held,ag.ls g_.2.2.2 ((aY (⟨(without r.ai (((au r p).1).ID)),r.Things,r.Held,r.Notes,r.ae,r.af⟩:ar))).Notes,ag.ls v1 (without r.ai (((au r p).1).ID)),ag.ls aD r.ai,ag.ls az r.Things,ag.ls aB r.Held,ag.ls aC r.Notes])) O (s.pre (B2:=[ag.box b4 (ay ((au r p).1)) 88,ag.box b3 aG 32,ag.box b2 (av p) 39,ag.box b1 [v1,az,aB,aC,iV r.ae,iV r.af] 32,ag.held w own]) (F2:=[ag.ls v1 (without r.ai (((au r p).1).ID)),ag.ls aD r.ai,ag.ls az r.Things,ag.ls aB r.Held,ag.ls aC r.Notes]) (fun _ hw=>hw.bH 0 _ O O) (s.bP (B0:=[]) (Br:=[ag.box b4 (ay ((au r p).1)) 88,ag.box b3 aG 32,ag.box b2 (av p) 39,ag.box b1 [v1,az,aB,aC,iV r.ae,iV r.af] 32,ag.held w own]) (F0:=[ag.ls v1 (without r.ai (((au r p).1).ID)),ag.ls az r.Things,ag.ls aB r.Held,ag.ls aC r.Notes]) cZ qI (fun g_:Value×Value×Value×Value => .agg #[g_.1,g_.2.1,g_.2.2.1,g_.2.2.2,iV (((aY (⟨(without r.ai (((au r p).1).ID)),r.Things,r.Held,r.Notes,r.ae,r.af⟩:ar))).ae),iV (((aY (⟨(without r.ai (((au r p).1).ID)),r.Things,r.Held,r.Notes,r.ae,r.af⟩:ar))).af)]) (fun g_=>[]) (fun g_=>[ag.ls g_.1 ((aY (⟨(without r.ai (((au r p).1).ID)),r.Things,r.Held,r.Notes,r.ae,r.af⟩:ar))).ai,ag.ls g_.2.1 ((aY (⟨(without r.ai (((au r p).1).ID)),r.Things,r.Held,r.Notes,r.ae,r.af⟩:ar))).Things,ag.ls g_.2.2.1 ((aY (⟨(without r.ai (((au r p).1).ID)),r.Things,r.Held,r.Notes,r.ae,r.af⟩:ar))).Held,ag.ls g_.2.2.2 ((aY (⟨(without r.ai (((au r p).1).ID)),r.Things,r.Held,r.Notes,r.ae,r.af⟩:ar))).Notes]) O O O AE O O (fun w own hw H=>nY v1 az aB aC ((⟨(without r.ai (((au r p).1).ID)),r.Things,r.Held,r.Notes,r.ae,r.af⟩:ar)) w own H ‹_› ‹_›) O)) ?_
  rintro ⟨z1,z2,z3,z4⟩
  dsimp only
  refine R.s O (s.dy (us:=[z1,z2,z3,z4,iV ((aY (⟨(without r.ai (((au r p).1).ID)),r.Things,r.Held,r.Notes,r.ae,r.af⟩:ar)).ae),iV ((aY (⟨(without r.ai (((au r p).1).ID)),r.Things,r.Held,r.Notes,r.ae,r.af⟩:ar)).af)]) (cs':=[z1,z2,z3,z4,iV ((aY (⟨(without r.ai (((au r p).1).ID)),r.Things,r.Held,r.Notes,r.ae,r.af⟩:ar)).ae),iV ((aY (⟨(without r.ai (((au r p).1).ID)),r.Things,r.Held,r.Notes,r.ae,r.af⟩:ar)).af)]) 1 _ O O O (fun _ _=>rfl) (.inl ap) (fun w hw=>(ah (Sl.one (hw.bq 0 O)) (ah (Sl.one (hw.bq 1 O)) (ah (Sl.one (hw.bq 2 O)) (ah (Sl.one (hw.bq 3 O)) (ah O (ah O aL))))))) O O O) fun _=>R.u 1 O<|R.nil ?_
  have hz:cX r p=((aY (⟨(without r.ai (((au r p).1).ID)),r.Things,r.Held,r.Notes,r.ae,r.af⟩:ar)),0):=by (unfold cX;rw [if_pos gz];(try rfl))
  rw [hz]
  exact R.w2 (z1,z2,z3,z4) [4] bm O Tryz.results41 (RV.cell 1 O O ap) (RV.tmp O) O O O (cD O O)
set_option maxHeartbeats 1000000 in
theorem wN (aD az aB aC:Value)(r:ar)(p:Place)(w:World)(own:List Nat)(H:Wd w (blks []++own) ([]++[ag.held w own]) [ag.ls aD (r.ai:List ak),ag.ls az (r.Things:List ao),ag.ls aB (r.Held:List Held),ag.ls aC (r.Notes:List Note)] w)(hk:Ok r)(hI:Inv r):Calls Tryz.prog 42 #[.agg #[aD,az,aB,aC,iV r.ae,iV r.af],.agg #[iV p.aj,iV p.Slot]] w fun e w' => ∃z:Value×Value×Value×Value,e = .returned (.tuple #[.agg #[z.1,z.2.1,z.2.2.1,z.2.2.2,iV ((((bQ r p)).1).ae),iV ((((bQ r p)).1).af)],iV (((bQ r p)).2)])∧Wd w (blks []++own) ([]++[ag.held w own]) [ag.ls z.1 ((((bQ r p)).1).ai:List ak),ag.ls z.2.1 ((((bQ r p)).1).Things:List ao),ag.ls z.2.2.1 ((((bQ r p)).1).Held:List Held),ag.ls z.2.2.2 ((((bQ r p)).1).Notes:List Note)] w':=by
 have cS:=H.ct 0 rfl
 have cy:=H.ct 1 rfl
 have dq:=H.ct 2 rfl
 have cT:=H.ct 3 rfl
 have bw:=hk.wl;have bt:=hk.tl;have bh:=hk.hl;have bn:=hk.nl;have rL:=hk.w0;have rM:=hk.w1;have rN:=hk.t0;have rO:=hk.t1
 have gn:=eC r p
 refine R.da (n:=56) (vs:=[.agg #[aD,az,aB,aC,iV r.ae,iV r.af],.agg #[iV p.aj,iV p.Slot]]) (B:=[ag.held w own]) [(0,.agg #[aD,az,aB,aC,iV r.ae,iV r.af]),(1,.agg #[iV p.aj,iV p.Slot])] Tryz.func42 O O O O H ?_
 refine R.reg O<|R.s O (s.box (cs:=[aD,az,aB,aC,iV r.ae,iV r.af]) O O O) fun b1=>R.s O (s.box (cs:=av p) O O O) fun b2=>R.s O (s.alloc (cs:=aG) cp O O) fun b3=>R.u 1 O<|R.nil ?_
 refine R.reg O<|R.q (q.cj 2 O O ap) O<|R.q (q.cj 1 O O aS) O<|R.c (q.call sV O O (fun w hw=>(k5 _ _ _ _ (r) (p) w (hw.bq 0 O) (hw.bq 1 O) (hw.bq 2 O) (hw.bq 3 O) ‹_› ‹_›))) O<|R.u 3 O<|R.s O (s.alloc (cs:=cC) bF O O) fun b4=>R.s O (s.st (us:=ay ((au r p).1)) (cs':=ay ((au r p).1)) 0 _ O O O O (.inl aP) O O O O) fun _=>R.u 1 O<|R.nil ?_
 refine R.reg O<|R.u 1 O<|?_
 by_cases h1:0<(au r p).2
 ·
  refine R.q (q.gtr O O (decide_eq_true (by omega))) O<|R.nil ?_
  refine R.aE O O ?_
  refine R.reg O<|R.q (q.build (cs:=aG) cz O O) O<|R.u 1 O<|R.s O (s.st (us:=aG) (cs':=aG) 1 _ O O O O (.inl ap) O O O O) fun _=>R.u 1 O<|R.nil ?_
  refine R.mp (fun _ hw=>hw.aR (α:=ak)) ?_
  refine R.mp (fun _ hw=>hw.aR (α:=ao)) ?_
  refine R.mp (fun _ hw=>hw.aR (α:=Held)) ?_
  refine R.mp (fun _ hw=>hw.aR (α:=Note)) ?_
  have hz:bQ r p=((⟨[],[],[],[],0,0⟩:ar),(au r p).2):=by (unfold bQ;rw [if_neg (by omega)];(try rfl))
  rw [hz]
  exact R.w2 ((nS),(nS),(nS),(nS)) [4] dj O Tryz.results42 (RV.cell 1 O O ap) (RV.tmp O) O O O (cD O O)
 ·
  have gz:(au r p).2=0:=by omega
  have hkc:=hk.cut (au r p).1.ID;have J9:=hI.toPre.cut (id:=(au r p).1.ID) (gB.2 ⟨_,(mU gz).2.1,rfl⟩)
  refine R.q (q.gtr O O (decide_eq_false (by omega))) O<|R.nil ?_
  refine R.aF O O ?_
  refine R.reg O<|R.q (q.aT (off':=0) O bf O) O<|R.q (q.ld 3 O O bE O) O<|R.q (q.aT (off':=0) O bI O) O<|R.q (q.ld 0 O O aA O) O<|R.s O (s.lR Hu O O (fun w hw=>uK _ (r.ai) (((au r p).1).ID) w (hw.bq 0 O) (by exact hI.tree) (by omega)) O) fun v1=>R.u 1 O<|R.nil ?_
  refine R.reg O<|R.u 1 O<|R.nil ?_
  refine R.reg O<|R.u 1 O<|R.nil ?_
  refine R.row0 (α:=ak) 88 ?_
  refine R.loop (fun g_:Nat×Value×(List ak)=>[(2,.pointer (some ⟨b1,0,none⟩)),(4,.pointer (some ⟨b3,0,none⟩)),(8,v1),(9,g_.2.1),(10,iV (g_.1:Int))]) (fun g_=>[ag.row 88 g_.2.1 g_.2.2,ag.row 3 v1 (eb (((au r p).1).ID) r.ai),ag.box b4 (ay ((au r p).1)) 88,ag.box b3 aG 32,ag.box b2 (av p) 39,ag.box b1 [aD,az,aB,aC,iV r.ae,iV r.af] 32,ag.held w own]) (fun g_=>[ag.ls aD r.ai,ag.ls az r.Things,ag.ls aB r.Held,ag.ls aC r.Notes]) (fun g_=>g_.1≤r.ai.length∧g_.2.2=(r.ai.take g_.1).filter (fun x => !decide (x.ID∈eb (au r p).1.ID r.ai))) (fun g_=>r.ai.length-g_.1) (0,(nS),[]) O (by exact ⟨by omega,by simp⟩) ⟨rfl,rfl,rfl,rfl,rfl,trivial⟩ (fun _=>Wd.pick gW bm O O O) ?_
  rintro ⟨k,vl,ls⟩ ⟨hk1,HL⟩
  dsimp only at *
  have hll:ls.length≤k:=by rw [HL];exact pF _ _ _
  refine R.reg O<|R.u 1 O<|R.q (q.aT (off':=0) O bf O) O<|R.q (q.ld 5 O O bE O) O<|R.q (q.len' (bJ 0 O) O Tryz.underlying27) O<|?_
  by_cases h2:k<r.ai.length
  ·
   refine R.q (q.lss O O (decide_eq_true (by omega))) O<|R.nil ?_
   refine R.aE O O ?_
   refine R.reg O<|R.u 1 O<|R.q (q.aT (off':=0) O bf O) O<|R.q (q.ld 5 O O bE O) O<|R.u 1 O<|?_
   obtain ⟨x1,hx1⟩:∃z,r.ai[k]? = some z:=⟨_,List.getElem?_eq_getElem (by omega)⟩
   refine R.q (q.idx (i:=k) (bJ 0 O) O O cK O hx1) O<|R.q (q.dF (j':=0) (bJ 0 O) hx1 O bI O) O<|R.q (q.fb (bJ 0 O) hx1 O aA O) O<|?_
   rcases Bool.eq_false_or_eq_true (decide (x1.ID∈(eb (((au r p).1).ID) r.ai))) with h3|h3
   ·
    refine R.c (q.call pS O O (fun w hw=>(cv (congrArg Value.bool h3) (km _ ((eb (((au r p).1).ID) r.ai)) (x1.ID) w (hw.row 1 O) )))) O<|R.u 1 O<|R.nil ?_
    refine R.reg O<|R.u 2 O<|R.nil ?_
    refine R.aF O O ?_
    refine R.reg O<|R.u 1 O<|R.q (q.add (r:=((k+1:Nat):Int)) O O (wr (by omega))) O<|R.u 1 O<|R.nil ?_
    refine R.back (k+1,vl,ls) O (by (exact ⟨by omega,by rw [pE hx1 (by simpa using ‹decide (_∈eb _ _)=true›),HL]⟩)) (by dsimp only;omega) ⟨rfl,rfl,rfl,rfl,rfl,trivial⟩ (aK gW bm O O O)
   ·
    refine R.c (q.call pS O O (fun w hw=>(cv (congrArg Value.bool h3) (km _ ((eb (((au r p).1).ID) r.ai)) (x1.ID) w (hw.row 1 O) )))) O<|R.u 1 O<|R.nil ?_
    refine R.reg O<|R.u 2 O<|R.nil ?_
    refine R.aE O O ?_
    refine R.reg O<|R.u 1 O<|R.q (q.aT (off':=0) O bf O) O<|R.q (q.ld 5 O O bE O) O<|R.u 1 O<|R.q (q.idx (i:=k) (bJ 0 O) O O cK O hx1) O<|R.q (q.cY (ds:=ay x1) (bJ 0 O) hx1 O aP O) O<|R.s O (s.bs (l:=([x1]:List ak)) cK bF O O O O O O O) fun b5=>R.s O (s.app (l2:=[x1]) 1 _ O O O (cJ 0 O) fJ (by (simp;omega)) (by (simp;omega)) (fun _=>rfl) O) fun v2=>R.u 1 O<|R.nil ?_
    refine R.reg O<|R.u 1 O<|R.q (q.add (r:=((k+1:Nat):Int)) O O (wr (by omega))) O<|R.u 1 O<|R.nil ?_
    refine R.back (k+1,v2,(ls++([x1]))) O (by (exact ⟨by omega,by rw [jW hx1 (by simpa using ‹decide (_∈eb _ _)=false›),HL]⟩)) (by dsimp only;omega) ⟨rfl,rfl,rfl,rfl,rfl,trivial⟩ (aK [1,2,3,4,5,6,7] bm O O O)
  ·
   refine R.q (q.lss O O (decide_eq_false (by omega))) O<|R.nil ?_
   refine R.aF O O ?_
   have hls:ls=vF r.ai (au r p).1.ID:=by rw [HL,List.take_of_length_le (by omega)];rfl
   have hkl:Ok (⟨ls,r.Things,r.Held,r.Notes,r.ae,r.af⟩:ar):=by rw [hls];exact hkc
   have KB:Pre (⟨ls,r.Things,r.Held,r.Notes,r.ae,r.af⟩:ar):=by rw [hls];exact J9
   refine R.reg O<|R.u 1 O<|R.q (q.aT (off':=0) O bf O) O<|R.s O (s.dy (us:=[vl]) (cs':=[vl,az,aB,aC,iV r.ae,iV r.af]) 5 _ O O O (fun w hw=>Sl.cm (hw.row 0 O)) (.inr ⟨bE,rfl⟩) (fun w hw=>(ah (Sl.one (hw.row 0 O)) aL)) O O O) fun _=>R.nil ?_
   refine R.reg O<|R.q (q.cj 5 O O ap) O<|R.s (B':=(fun g_:Value×Value×Value×Value=>[ag.row 3 v1 (eb (((au r p).1).ID) r.ai),ag.box b4 (ay ((au r p).1)) 88,ag.box b3 aG 32,ag.box b2 (av p) 39,ag.box b1 [vl,az,aB,aC,iV r.ae,iV r.af] 32,ag.held w own])) (F':=(fun g_=>[ag.ls g_.1 ((aY (⟨ls,r.Things,r.Held,r.Notes,r.ae,r.af⟩:ar))).ai,ag.ls g_.2.1 ((aY (⟨ls,r.Things,r.Held,r.Notes,r.ae,r.af⟩:ar))).Things,ag.ls g_.2.2.1 ((aY (⟨ls,r.Things,r.Held,r.Notes,r.ae,r.af⟩:ar))).Held,ag.ls g_.2.2.2 ((aY (⟨ls,r.Things,r.Held,r.Notes,r.ae,r.af⟩:ar))).Notes,ag.ls vl ls,ag.ls aD r.ai,ag.ls az r.Things,ag.ls aB r.Held,ag.ls aC r.Notes])) O (s.pre (B2:=[ag.row 3 v1 (eb (((au r p).1).ID) r.ai),ag.box b4 (ay ((au r p).1)) 88,ag.box b3 aG 32,ag.box b2 (av p) 39,ag.box b1 [vl,az,aB,aC,iV r.ae,iV r.af] 32,ag.held w own]) (F2:=[ag.ls vl ls,ag.ls aD r.ai,ag.ls az r.Things,ag.ls aB r.Held,ag.ls aC r.Notes]) (fun _ hw=>hw.bH 0 _ O O) (s.bP (B0:=[]) (Br:=[ag.row 3 v1 (eb (((au r p).1).ID) r.ai),ag.box b4 (ay ((au r p).1)) 88,ag.box b3 aG 32,ag.box b2 (av p) 39,ag.box b1 [vl,az,aB,aC,iV r.ae,iV r.af] 32,ag.held w own]) (F0:=[ag.ls vl ls,ag.ls az r.Things,ag.ls aB r.Held,ag.ls aC r.Notes]) ia qI (fun g_:Value×Value×Value×Value => .agg #[g_.1,g_.2.1,g_.2.2.1,g_.2.2.2,iV (((aY (⟨ls,r.Things,r.Held,r.Notes,r.ae,r.af⟩:ar))).ae),iV (((aY (⟨ls,r.Things,r.Held,r.Notes,r.ae,r.af⟩:ar))).af)]) (fun g_=>[]) (fun g_=>[ag.ls g_.1 ((aY (⟨ls,r.Things,r.Held,r.Notes,r.ae,r.af⟩:ar))).ai,ag.ls g_.2.1 ((aY (⟨ls,r.Things,r.Held,r.Notes,r.ae,r.af⟩:ar))).Things,ag.ls g_.2.2.1 ((aY (⟨ls,r.Things,r.Held,r.Notes,r.ae,r.af⟩:ar))).Held,ag.ls g_.2.2.2 ((aY (⟨ls,r.Things,r.Held,r.Notes,r.ae,r.af⟩:ar))).Notes]) O O O AE O O (fun w own hw H=>nY vl az aB aC ((⟨ls,r.Things,r.Held,r.Notes,r.ae,r.af⟩:ar)) w own H ‹_› ‹_›) O)) ?_
   rintro ⟨z1,z2,z3,z4⟩
   dsimp only
   refine R.s O (s.dy (us:=[z1,z2,z3,z4,iV ((aY (⟨ls,r.Things,r.Held,r.Notes,r.ae,r.af⟩:ar)).ae),iV ((aY (⟨ls,r.Things,r.Held,r.Notes,r.ae,r.af⟩:ar)).af)]) (cs':=[z1,z2,z3,z4,iV ((aY (⟨ls,r.Things,r.Held,r.Notes,r.ae,r.af⟩:ar)).ae),iV ((aY (⟨ls,r.Things,r.Held,r.Notes,r.ae,r.af⟩:ar)).af)]) 2 _ O O O (fun _ _=>rfl) (.inl ap) (fun w hw=>(ah (Sl.one (hw.bq 0 O)) (ah (Sl.one (hw.bq 1 O)) (ah (Sl.one (hw.bq 2 O)) (ah (Sl.one (hw.bq 3 O)) (ah O (ah O aL))))))) O O O) fun _=>R.u 1 O<|R.nil ?_
   have hz:bQ r p=((aY (⟨ls,r.Things,r.Held,r.Notes,r.ae,r.af⟩:ar)),0):=by (unfold bQ;rw [if_pos gz,hls];(try rfl))
   rw [hz]
   exact R.w2 (z1,z2,z3,z4) [5] bm O Tryz.results42 (RV.cell 2 O O ap) (RV.tmp O) O O O (cD O O)
theorem xU (aD az aB aC:Value)(r:ar)(p:Place)(d:ByteArray)(w:World)(own:List Nat)(H:Wd w (blks []++own) ([]++[ag.held w own]) [ag.ls aD (r.ai:List ak),ag.ls az (r.Things:List ao),ag.ls aB (r.Held:List Held),ag.ls aC (r.Notes:List Note)] w)(hk:Ok r)(hI:Inv r):Calls Tryz.prog 43 #[.agg #[aD,az,aB,aC,iV r.ae,iV r.af],.agg #[iV p.aj,iV p.Slot],.string d] w fun e w' => ∃z:Value×Value×Value×Value,e = .returned (.tuple #[.agg #[z.1,z.2.1,z.2.2.1,z.2.2.2,iV ((((cd r p d)).1).ae),iV ((((cd r p d)).1).af)],iV (((cd r p d)).2)])∧Wd w (blks []++own) ([]++[ag.held w own]) [ag.ls z.1 ((((cd r p d)).1).ai:List ak),ag.ls z.2.1 ((((cd r p d)).1).Things:List ao),ag.ls z.2.2.1 ((((cd r p d)).1).Held:List Held),ag.ls z.2.2.2 ((((cd r p d)).1).Notes:List Note)] w':=by
 have cS:=H.ct 0 rfl
 have cy:=H.ct 1 rfl
 have dq:=H.ct 2 rfl
 have cT:=H.ct 3 rfl
 have bw:=hk.wl;have bt:=hk.tl;have bh:=hk.hl;have bn:=hk.nl;have rL:=hk.w0;have rM:=hk.w1;have rN:=hk.t0;have rO:=hk.t1
 have Js:=gx r p 1 2
 refine R.da (n:=35) (vs:=[.agg #[aD,az,aB,aC,iV r.ae,iV r.af],.agg #[iV p.aj,iV p.Slot],.string d]) (B:=[ag.held w own]) [(0,.agg #[aD,az,aB,aC,iV r.ae,iV r.af]),(1,.agg #[iV p.aj,iV p.Slot]),(2,.string d)] Tryz.func43 O O O O H ?_
 refine R.reg O<|R.s O (s.box (cs:=[aD,az,aB,aC,iV r.ae,iV r.af]) O O O) fun b1=>R.s O (s.box (cs:=av p) O O O) fun b2=>R.s O (s.alloc (cs:=aG) cp O O) fun b3=>R.u 1 O<|R.nil ?_
 refine R.reg O<|R.q (q.cj 2 O O ap) O<|R.q (q.cj 1 O O aS) O<|R.c (q.call AK O O (fun w hw=>(sj _ _ _ _ (r) (p) (1) (2) w (hw.bq 0 O) (hw.bq 1 O) (hw.bq 2 O) (hw.bq 3 O) ‹_› ‹_› (by omega)))) O<|R.u 4 O<|R.s O (s.alloc (cs:=cC) bF O O) fun b4=>R.s O (s.st (us:=ay ((aM r p 1 2).1)) (cs':=ay ((aM r p 1 2).1)) 0 _ O O O O (.inl aP) O O O O) fun _=>R.u 2 O<|R.nil ?_
 refine R.reg O<|R.u 1 O<|?_
 by_cases h1:0<(aM r p 1 2).2.2
 ·
  refine R.q (q.gtr O O (decide_eq_true (by omega))) O<|R.nil ?_
  refine R.aE O O ?_
  refine R.reg O<|R.q (q.build (cs:=aG) cz O O) O<|R.u 1 O<|R.s O (s.st (us:=aG) (cs':=aG) 1 _ O O O O (.inl ap) O O O O) fun _=>R.u 1 O<|R.nil ?_
  refine R.mp (fun _ hw=>hw.aR (α:=ak)) ?_
  refine R.mp (fun _ hw=>hw.aR (α:=ao)) ?_
  refine R.mp (fun _ hw=>hw.aR (α:=Held)) ?_
  refine R.mp (fun _ hw=>hw.aR (α:=Note)) ?_
  have hz:cd r p d=((⟨[],[],[],[],0,0⟩:ar),(aM r p 1 2).2.2):=by (unfold cd eY;(repeat' split) <;> first|rfl|(exfalso;omega)|(simp_all;done))
  rw [hz]
  exact R.w2 ((nS),(nS),(nS),(nS)) [4] dj O Tryz.results43 (RV.cell 1 O O ap) (RV.tmp O) O O O (cD O O)
 ·
  have mn:=gx r p 1 2;have mq:(aM r p 1 2).2.2=0:=by omega
  obtain ⟨m1,m2,m3,i,ix,ik,ih,ii,id,ib⟩:=iJ mq;have iB:=(List.getElem?_eq_some_iff.1 ih).1
  refine R.q (q.gtr O O (decide_eq_false (by omega))) O<|R.nil ?_
  refine R.aF O O ?_
  refine R.reg O<|R.u 1 O<|R.q (q.lV O Tryz.underlying9) O<|?_
  by_cases h2:8<d.size
  ·
   refine R.q (q.gtr O O (decide_eq_true (by omega))) O<|R.nil ?_
   refine R.aE O O ?_
   refine R.reg O<|R.q (q.build (cs:=aG) cz O O) O<|R.s O (s.st (us:=aG) (cs':=aG) 1 _ O O O O (.inl ap) O O O O) fun _=>R.u 1 O<|R.nil ?_
   refine R.mp (fun _ hw=>hw.aR (α:=ak)) ?_
   refine R.mp (fun _ hw=>hw.aR (α:=ao)) ?_
   refine R.mp (fun _ hw=>hw.aR (α:=Held)) ?_
   refine R.mp (fun _ hw=>hw.aR (α:=Note)) ?_
   have hz:cd r p d=((⟨[],[],[],[],0,0⟩:ar),2):=by (unfold cd eY;(repeat' split) <;> rfl)
   rw [hz]
   exact R.w2 ((nS),(nS),(nS),(nS)) [4] dj O Tryz.results43 (RV.cell 1 O O ap) (RV.tmp O) O O O (cD O O)
  ·
   refine R.q (q.gtr O O (decide_eq_false (by omega))) O<|R.nil ?_
   refine R.aF O O ?_
   refine R.reg O<|R.q (q.cj 3 O O ap) O<|R.s (B':=(fun g_:Value×Value×Value×Value=>[ag.row 88 g_.1 (r).ai,ag.row 62 g_.2.1 (r).Things,ag.row 85 g_.2.2.1 (r).Held,ag.row 72 g_.2.2.2 (r).Notes,ag.box b4 (ay ((aM r p 1 2).1)) 88,ag.box b3 aG 32,ag.box b2 (av p) 39,ag.box b1 [aD,az,aB,aC,iV r.ae,iV r.af] 32,ag.held w own])) (F':=(fun g_=>[ag.ls aD r.ai,ag.ls az r.Things,ag.ls aB r.Held,ag.ls aC r.Notes])) O (s.bP (B0:=[]) (Br:=[ag.box b4 (ay ((aM r p 1 2).1)) 88,ag.box b3 aG 32,ag.box b2 (av p) 39,ag.box b1 [aD,az,aB,aC,iV r.ae,iV r.af] 32,ag.held w own]) (F0:=[ag.ls aD r.ai,ag.ls az r.Things,ag.ls aB r.Held,ag.ls aC r.Notes]) cZ bm (fun g_:Value×Value×Value×Value => .agg #[g_.1,g_.2.1,g_.2.2.1,g_.2.2.2,iV ((r).ae),iV ((r).af)]) (fun g_=>[ag.row 88 g_.1 (r).ai,ag.row 62 g_.2.1 (r).Things,ag.row 85 g_.2.2.1 (r).Held,ag.row 72 g_.2.2.2 (r).Notes]) (fun g_=>[]) O O O vf O O (fun w own hw H=>k6 aD az aB aC (r) w own H ‹_›) O) ?_
   rintro ⟨z1,z2,z3,z4⟩
   dsimp only
   refine R.s O (s.dy (us:=[z1,z2,z3,z4,iV r.ae,iV r.af]) (cs':=[z1,z2,z3,z4,iV r.ae,iV r.af]) 7 _ O O O (fun _ _=>rfl) (.inl ap) (fun w hw=>(ah (Sl.one (hw.row 0 O)) (ah (Sl.one (hw.row 1 O)) (ah (Sl.one (hw.row 2 O)) (ah (Sl.one (hw.row 3 O)) (ah O (ah O aL))))))) O O O) fun _=>R.nil ?_
   refine R.reg O<|R.q (q.aT (off':=1) O bM O) O<|R.q (q.ld 7 O O cq O) O<|R.u 2 O<|?_
   obtain ⟨x1,hx1⟩:∃z,r.Things[((aM r p 1 2).2.1).toNat]? = some z:=⟨_,List.getElem?_eq_getElem (by omega)⟩
   refine R.q (q.idx (i:=((aM r p 1 2).2.1).toNat) (cJ 1 O) O O ew (by omega) hx1) O<|R.q (q.dF (j':=2) (cJ 1 O) hx1 O mO O) O<|R.s O (s.stP (o:=2) (z:=(⟨x1.ID,x1.Kind,d⟩:ao)) (us:=[.string d]) 1 _ O hx1 O O O O O (by simp [Value.oneCell']) (.inr ⟨bV,rfl⟩) O) fun _=>R.nil ?_
   refine R.reg O<|R.q (q.cj 7 O O ap) O<|R.s O (s.dy (us:=[z1,z2,z3,z4,iV r.ae,iV r.af]) (cs':=[z1,z2,z3,z4,iV r.ae,iV r.af]) 5 _ O O O (fun _ _=>rfl) (.inl ap) (fun w hw=>(ah (Sl.one (hw.row 0 O)) (ah (Sl.one (hw.row 1 O)) (ah (Sl.one (hw.row 2 O)) (ah (Sl.one (hw.row 3 O)) (ah O (ah O aL))))))) O O O) fun _=>R.u 1 O<|R.nil ?_
   refine R.mp (B':=[ag.row 62 z2 (r.Things.set (((aM r p 1 2).2.1).toNat) (⟨x1.ID,x1.Kind,d⟩:ao)),ag.row 85 z3 r.Held,ag.row 72 z4 r.Notes,ag.box b4 (ay ((aM r p 1 2).1)) 88,ag.box b3 [z1,z2,z3,z4,iV r.ae,iV r.af] 32,ag.box b2 (av p) 39,ag.box b1 [z1,z2,z3,z4,iV r.ae,iV r.af] 32,ag.held w own]) (fun _ hw=>hw.bH 0 _ O O) ?_
   refine R.mp (B':=[ag.row 85 z3 r.Held,ag.row 72 z4 r.Notes,ag.box b4 (ay ((aM r p 1 2).1)) 88,ag.box b3 [z1,z2,z3,z4,iV r.ae,iV r.af] 32,ag.box b2 (av p) 39,ag.box b1 [z1,z2,z3,z4,iV r.ae,iV r.af] 32,ag.held w own]) (fun _ hw=>hw.bH 0 _ O O) ?_
   refine R.mp (B':=[ag.row 72 z4 r.Notes,ag.box b4 (ay ((aM r p 1 2).1)) 88,ag.box b3 [z1,z2,z3,z4,iV r.ae,iV r.af] 32,ag.box b2 (av p) 39,ag.box b1 [z1,z2,z3,z4,iV r.ae,iV r.af] 32,ag.held w own]) (fun _ hw=>hw.bH 0 _ O O) ?_
   refine R.mp (B':=[ag.box b4 (ay ((aM r p 1 2).1)) 88,ag.box b3 [z1,z2,z3,z4,iV r.ae,iV r.af] 32,ag.box b2 (av p) 39,ag.box b1 [z1,z2,z3,z4,iV r.ae,iV r.af] 32,ag.held w own]) (fun _ hw=>hw.bH 0 _ O O) ?_
   have hz:cd r p d=((⟨r.ai,(r.Things.set (((aM r p 1 2).2.1).toNat) (⟨x1.ID,x1.Kind,d⟩:ao)),r.Held,r.Notes,r.ae,r.af⟩:ar),0):=by (unfold cd eY;(repeat' split) <;> first|rfl|(exfalso;omega)|(simp_all;done))
   rw [hz]
   exact R.w2 (z1,z2,z3,z4) [4] dj O Tryz.results43 (RV.cell 1 O O ap) (RV.tmp O) O O O (cD O O)
end Go.Proofs.YtbkfhjaibhnkmaaGreatDoor
