import Derived.Test.YtnmpibjlnninjaaGreatDoorKS28
namespace Go.Proofs.YtnmpibjlnninjaaGreatDoor
set_option linter.unusedVariables false
set_option linter.unusedSimpArgs false
set_option maxRecDepth 100000
set_option maxHeartbeats 90000000
section
open Go Go.RowKit
attribute [local irreducible] Run Rg Rq Qt Qa Stp Dg Do Dm cD
theorem tQ (a8 aW aX aZ:Value)(r:av)(w:World)(own:List Nat)(H:HN w own [] [aj.ls a8 r.ao,aj.ls aW r.Things,aj.ls aX r.Held,aj.ls aZ r.Notes])(hk:Ok r)(hP:Pre r):RC Tryz.prog 85 #[.agg #[a8,aW,aX,aZ,iV r.ag,iV r.ah]] H (fun z:Value×Value×Value×Value => .agg #[z.1,z.2.1,z.2.2.1,z.2.2.2,iV (dt r).ag,iV (dt r).ah]) (fun _=>[]) (fun z=>[aj.ls z.1 (dt r).ao,aj.ls z.2.1 (dt r).Things,aj.ls z.2.2.1 (dt r).Held,aj.ls z.2.2.2 (dt r).Notes]):=by
 have cB:=H.bD 0 rfl
 have cd:=H.bD 1 rfl
 have df:=H.bD 2 rfl
 have cC:=H.bD 3 rfl
 refine R.bE [(0,.agg #[a8,aW,aX,aZ,iV r.ag,iV r.ah])] Tryz.func85 O O O O H<|U ?_
 refine R.s O (s.box O O O) fun b1=>?_
 refine R.s O (s.alloc cw O O) fun b2=>U ?_
 refine R.loop (fun g_:av×Value×Value×Value×Value=>[(1,.pointer (some ⟨b1,0,none⟩)),(2,.pointer (some ⟨b2,0,none⟩))]) (fun g_=>[aj.box b2 t8 48,aj.box b1 [g_.2.1,g_.2.2.1,g_.2.2.2.1,g_.2.2.2.2,iV g_.1.ag,iV g_.1.ah] 48,aj.held w own]) (fun g_=>[aj.ls g_.2.1 g_.1.ao,aj.ls g_.2.2.1 g_.1.Things,aj.ls g_.2.2.2.1 g_.1.Held,aj.ls g_.2.2.2.2 g_.1.Notes,aj.ls a8 r.ao,aj.ls aW r.Things,aj.ls aX r.Held,aj.ls aZ r.Notes]) (fun g_=>Ok g_.1/\Pre g_.1/\dt g_.1=dt r) (fun g_=>g_.1.Notes.length) (r,a8,aW,aX,aZ) O (by exact ⟨hk,hP,rfl⟩) (sF O) (eI [0,1,2] [0,1,2,3,0,1,2,3] O) ?_
 rintro ⟨m,xF,CM,Bj,Bm⟩ ⟨hok,hpm,HS⟩
 dsimp only at *
 have o1:=hok.wl;have o2:=hok.tl;have o3:=hok.hl;have o4:=hok.nl;have hmt:=hpm.tree
 refine U ?_
 refine R.q (q.Dt Sj O (fun w hw=>(lF (Sl.Ds (hw.bz 0 O)) (lF O (lF O Dr)))) O) O<|R.s O (s.alloc cw O O) fun b3=>?_
 refine R.s O (s.dE 0 _ O O O (fun _ _=>rfl) (.inl ak) (fun w hw=>(aJ (Sl.one (hw.bz 0 O)) (aJ O (aJ O (aJ O (aJ O (aJ O bq))))))) O O O) fun _=>U ?_
 refine R.s O (s.oL Uc O O (fun w hw=>G4 _ m.ao w (hw.bz 0 O) af) O) fun v1=>U ?_
 refine R.row0 (α:=aA) 103<|R.loop (fun g_:Nat×Value×(List aA)=>[(1,.pointer (some ⟨b1,0,none⟩)),(2,.pointer (some ⟨b2,0,none⟩)),(3,.pointer (some ⟨b3,0,none⟩)),(4,v1),(5,iV (g_.1:Int))]) (fun g_=>[aj.row 103 g_.2.1 g_.2.2,aj.row 3 v1 (bC m.ao),aj.box b3 [xF,g_.2.1,nS,nS,iV m.ag,iV m.ah] 48,aj.box b2 t8 48,aj.box b1 [xF,CM,Bj,Bm,iV m.ag,iV m.ah] 48,aj.held w own]) (fun g_=>[aj.ls xF m.ao,aj.ls CM m.Things,aj.ls Bj m.Held,aj.ls Bm m.Notes,aj.ls a8 r.ao,aj.ls aW r.Things,aj.ls aX r.Held,aj.ls aZ r.Notes]) (fun g_=>g_.1<=m.Things.length/\g_.2.2=(m.Things.take g_.1).filter (fun t => !!decide (t.ID∈(bC m.ao)))) (fun g_=>m.Things.length-g_.1) (0,nS,[]) O (by exact ⟨ae,bW⟩) (sF O) (eI nE cu O) ?_
 rintro ⟨j,vt,ts⟩ ⟨hj1,HT⟩
 dsimp only at *
 have htl:ts.length<=j:=by rw [HT];exact wK _ _ _
 refine U ?_
 by_cases h1:j<m.Things.length
 .
  refine U ?_
  obtain ⟨x1,hx1⟩:=gE m.Things j
  refine R.q (q.idx (i:=j) (cb 1 O) O O eZ O hx1) O<|R.q (q.ew (j':=0) (cb 1 O) hx1 O pS O) O<|R.q (q.gh (cb 1 O) hx1 O bg O) O ?_
  rcases Bool.eq_false_or_eq_true (decide (x1.ID∈(bC m.ao))) with h2|h2
  .
   refine R.c (q.call xe O O (fun w hw=>(cv (congrArg Value.bool h2) (oB _ (bC m.ao) x1.ID w (hw.row 1 O) )))) O<|U ?_
   refine R.eA (fuel:=11) [1,3,4,5] O O mixed O<|D.l [0,2,3,4,5,6] [1,3,4,5] cu O<|U ?_
   refine Dm.yy O O (q.idx (i:=j) (cb 1 O) O O eZ O hx1) O<|Dm.yy O O (q.dj (ds:=lB x1) (cb 1 O) hx1 O fU O) O<|U ?_
   refine D.two (i:=1) (j:=7) O O ?_ ?_
   .
    refine Do.s (s.c (Qt.a (q.ld 2 O O gC O)) O) (fun _=>(aN [1,3,4,5] cu O)) O fun _=>?_
    refine D.one (i:=7) O<|Do.s (s.bs (l:=([x1]:List aA)) eZ fP O O O O O O O) (fun _=>(aN t6 cu O)) O fun b4=>?_
    refine D.one (i:=8) O<|Do.s (s.app 1 _ O O O (bH 0 O) lI az az (fun _=>rfl) O) (fun _=>(aN t6 cu O)) O fun v2=>?_
    refine D.l [9] t6 cu O<|U ?_
    refine D.one (i:=10) O<|Do.s (s.dE 3 _ O O O (fun w hw=>Sl.bF (hw.row 1 O)) (.inr ⟨gC,rfl⟩) (fun w hw=>(aJ (Sl.one (hw.row 1 O)) bq)) O O O) (fun _=>(aN t6 cu O)) O fun _=>?_
    refine D.done<|U ?_
    refine R.q (q.aL (r:=((j+1:Nat):Int)) O O) O<|U ?_
    refine R.back (j+1,v2,(ts++([x1]))) O (by (exact ⟨ae,by rw [nz hx1 (by simpa using ‹decide (_∈bC m.ao)=true›),HT]⟩)) aO (sF O) (aN Ez cu O)
   refine Do.s (s.bs (l:=([x1]:List aA)) eZ fP O O O O O O O) (fun _=>(aN t6 cu O)) O fun b5=>?_
   refine D.one (i:=1) O<|Do.s (s.c (Qt.a (q.ld 3 O O gC O)) O) (fun _=>(aN t6 cu O)) O fun _=>?_
   refine D.one (i:=8) O<|Do.s (s.app 1 _ O O O (bH 0 O) lI az az (fun _=>rfl) O) (fun _=>(aN t6 cu O)) O fun v3=>?_
   refine D.l [9] t6 cu O<|U ?_
   refine D.one (i:=10) O<|Do.s (s.dE 3 _ O O O (fun w hw=>Sl.bF (hw.row 1 O)) (.inr ⟨gC,rfl⟩) (fun w hw=>(aJ (Sl.one (hw.row 1 O)) bq)) O O O) (fun _=>(aN t6 cu O)) O fun _=>?_
   refine D.done<|U ?_
   refine R.q (q.aL (r:=((j+1:Nat):Int)) O O) O<|U ?_
   refine R.back (j+1,v3,(ts++([x1]))) O (by (exact ⟨ae,by rw [nz hx1 (by simpa using ‹decide (_∈bC m.ao)=true›),HT]⟩)) aO (sF O) (aN Ez cu O)
  refine R.c (q.call xe O O (fun w hw=>(cv (congrArg Value.bool h2) (oB _ (bC m.ao) x1.ID w (hw.row 1 O) )))) O<|U ?_
  refine R.q (q.aL (r:=((j+1:Nat):Int)) O O) O<|U ?_
  refine R.back (j+1,vt,ts) O (by (exact ⟨ae,by rw [wJ hx1 (by simpa using ‹decide (_∈bC m.ao)=false›),HT]⟩)) aO (sF O) (aN nE cu O)
 refine U ?_
 refine R.row0 (α:=Held) 124<|R.loop (fun g_:Nat×Value×(List Held)=>[(1,.pointer (some ⟨b1,0,none⟩)),(2,.pointer (some ⟨b2,0,none⟩)),(3,.pointer (some ⟨b3,0,none⟩)),(4,v1),(7,iV (g_.1:Int))]) (fun g_=>[aj.row 124 g_.2.1 g_.2.2,aj.row 103 vt ts,aj.row 3 v1 (bC m.ao),aj.box b3 [xF,vt,g_.2.1,nS,iV m.ag,iV m.ah] 48,aj.box b2 t8 48,aj.box b1 [xF,CM,Bj,Bm,iV m.ag,iV m.ah] 48,aj.held w own]) (fun g_=>[aj.ls xF m.ao,aj.ls CM m.Things,aj.ls Bj m.Held,aj.ls Bm m.Notes,aj.ls a8 r.ao,aj.ls aW r.Things,aj.ls aX r.Held,aj.ls aZ r.Notes]) (fun g_=>g_.1<=m.Held.length/\g_.2.2=(m.Held.take g_.1).filter (fun h => !decide (cO m.ao h.ap<0))) (fun g_=>m.Held.length-g_.1) (0,nS,[]) O (by exact ⟨ae,bW⟩) (sF O) (eI kj cu O) ?_
 rintro ⟨i,vh,hs⟩ ⟨hi1,HH⟩
 dsimp only at *
 have hhl:hs.length<=i:=by rw [HH];exact wK _ _ _
 refine U ?_
 by_cases h3:i<m.Held.length
 .
  refine U ?_
  obtain ⟨x2,hx2⟩:=gE m.Held i
  rcases eh m.ao x2.ap with ⟨fS,Eh⟩ | ⟨wE,kv,fS,vj,S3⟩
  .
   refine R.dA O mixed ai<|U ?_
   refine Q.q (q.idx (i:=i) (cb 2 O) O O bJ O hx2) O<|Q.q (q.ew (j':=2) (cb 2 O) hx2 O lw O) O<|Q.q (q.gh (cb 2 O) hx2 O bg O) O<|Q.c (q.call pW O O (fun w hw=>(cv (congrArg (Value.int .i64) fS) (gP _ m.ao x2.ap w (hw.bz 0 O) )))) O<|U ?_
   refine R.q (q.aL (r:=((i+1:Nat):Int)) O O) O<|U ?_
   refine R.back (i+1,vh,hs) O (by (exact ⟨ae,by rw [wJ hx2 az,HH]⟩)) aO (sF O) (aN kj cu O)
  refine R.dA O mixed ai<|U ?_
  refine Q.q (q.idx (i:=i) (cb 2 O) O O bJ O hx2) O<|Q.q (q.ew (j':=2) (cb 2 O) hx2 O lw O) O<|Q.q (q.gh (cb 2 O) hx2 O bg O) O<|Q.c (q.call pW O O (fun w hw=>(cv (congrArg (Value.int .i64) fS) (gP _ m.ao x2.ap w (hw.bz 0 O) )))) O<|U ?_
  refine R.eA (fuel:=11) [1,2,4,5,6] O O mixed O<|D.l [0,2,3,4,5,6] [1,2,4,5,6] cu O<|U ?_
  refine Dm.yy O O (q.idx (i:=i) (cb 2 O) O O bJ O hx2) O<|Dm.yy O O (q.dj (ds:=fZ x2) (cb 2 O) hx2 O du O) O<|U ?_
  refine D.two (i:=1) (j:=7) O O ?_ ?_
  .
   refine Do.s (s.c (Qt.a (q.ld 3 O O eG O)) O) (fun _=>(aN [1,2,4,5,6] cu O)) O fun _=>?_
   refine D.one (i:=7) O<|Do.s (s.bs (l:=([x2]:List Held)) bJ cK O O O O O O O) (fun _=>(aN t7 cu O)) O fun b6=>?_
   refine D.one (i:=8) O<|Do.s (s.app 1 _ O O O (bH 0 O) eH az az (fun _=>rfl) O) (fun _=>(aN t7 cu O)) O fun v4=>?_
   refine D.l [9] t7 cu O<|U ?_
   refine D.one (i:=10) O<|Do.s (s.dE 4 _ O O O (fun w hw=>Sl.bF (hw.row 1 O)) (.inr ⟨eG,rfl⟩) (fun w hw=>(aJ (Sl.one (hw.row 1 O)) bq)) O O O) (fun _=>(aN t7 cu O)) O fun _=>?_
   refine D.done<|U ?_
   refine R.q (q.aL (r:=((i+1:Nat):Int)) O O) O<|U ?_
   refine R.back (i+1,v4,(hs++([x2]))) O (by (exact ⟨ae,by rw [nz hx2 az,HH]⟩)) aO (sF O) (aN yj cu O)
  refine Do.s (s.bs (l:=([x2]:List Held)) bJ cK O O O O O O O) (fun _=>(aN t7 cu O)) O fun b7=>?_
  refine D.one (i:=1) O<|Do.s (s.c (Qt.a (q.ld 4 O O eG O)) O) (fun _=>(aN t7 cu O)) O fun _=>?_
  refine D.one (i:=8) O<|Do.s (s.app 1 _ O O O (bH 0 O) eH az az (fun _=>rfl) O) (fun _=>(aN t7 cu O)) O fun v5=>?_
  refine D.l [9] t7 cu O<|U ?_
  refine D.one (i:=10) O<|Do.s (s.dE 4 _ O O O (fun w hw=>Sl.bF (hw.row 1 O)) (.inr ⟨eG,rfl⟩) (fun w hw=>(aJ (Sl.one (hw.row 1 O)) bq)) O O O) (fun _=>(aN t7 cu O)) O fun _=>?_
  refine D.done<|U ?_
  refine R.q (q.aL (r:=((i+1:Nat):Int)) O O) O<|U ?_
  refine R.back (i+1,v5,(hs++([x2]))) O (by (exact ⟨ae,by rw [nz hx2 az,HH]⟩)) aO (sF O) (aN yj cu O)
 refine U ?_
 refine R.row0 (α:=Note) 91<|R.loop (fun g_:Nat×Nat×Value×(List ap)×Value×(List Note)=>[(1,.pointer (some ⟨b1,0,none⟩)),(2,.pointer (some ⟨b2,0,none⟩)),(3,.pointer (some ⟨b3,0,none⟩)),(4,v1),(8,iV (g_.2.1:Int)),(9,iV (g_.1:Int))]) (fun g_=>[aj.row 91 g_.2.2.2.2.1 g_.2.2.2.2.2,aj.row 124 vh hs,aj.row 103 vt ts,aj.row 3 v1 (bC m.ao),aj.box b3 [g_.2.2.1,vt,vh,g_.2.2.2.2.1,iV m.ag,iV m.ah] 48,aj.box b2 t8 48,aj.box b1 [xF,CM,Bj,Bm,iV m.ag,iV m.ah] 48,aj.held w own]) (fun g_=>[aj.ls g_.2.2.1 g_.2.2.2.1,aj.ls xF m.ao,aj.ls CM m.Things,aj.ls Bj m.Held,aj.ls Bm m.Notes,aj.ls a8 r.ao,aj.ls aW r.Things,aj.ls aX r.Held,aj.ls aZ r.Notes]) (fun g_=>g_.1<=m.Notes.length/\g_.2.2.2.2.2=gX m.ao (bC m.ao) (m.Notes.take g_.1)/\g_.2.2.2.1=(iD m.ao (bC m.ao) (m.Notes.take g_.1)).foldl without m.ao/\g_.2.1=(iD m.ao (bC m.ao) (m.Notes.take g_.1)).length) (fun g_=>m.Notes.length-g_.1) (0,0,xF,m.ao,nS,[]) O (by exact ⟨ae,by simp [gX],by simp [iD],by simp [iD]⟩) (sF O) (eI cu [0,0,1,2,3,4,5,6,7] O) ?_
 rintro ⟨k,c,vw,ws,vn,ns⟩ ⟨hk1,HN,HW,HC⟩
 dsimp only at *
 have hkl:=oP m.ao (bC m.ao) (m.Notes.take k);rw [<- HN,<- HC,List.length_take] at hkl;have hwt:cS ws:=by rw [HW];exact vF _ _ hpm.tree
 have hwl:ws.length<=2000:=by rw [HW];exact Nat.le_trans (qR _ _) hok.wl
 refine U ?_
 by_cases h4:k<m.Notes.length
 .
  refine U ?_
  obtain ⟨x3,hx3⟩:=gE m.Notes k
  refine R.q (q.idx (i:=k) (cb 4 O) O O dI O hx3) O<|R.q (q.dj (ds:=mP x3) (cb 4 O) hx3 O cj O) O<|R.s O (s.alloc dO O O) fun b8=>?_
  refine R.s O (s.st 0 _ O O O O (.inl cj) O O O O) fun _=>U ?_
  rcases eh m.ao x3.ap with ⟨Kk,c2n⟩ | ⟨c2j,Vj,Kk,c2e,c2m⟩
  .
   refine R.c (q.call pW O O (fun w hw=>(cv (congrArg (Value.int .i64) Kk) (gP _ m.ao x3.ap w (hw.bz 1 O) )))) O<|U ?_
   refine R.s O (s.st 0 _ O O O O (.inr ⟨bg,rfl⟩) O O O O) fun _=>U ?_
   rcases Bool.eq_false_or_eq_true (decide (x3.Port∈(bC m.ao))) with h5|h5
   .
    refine R.c (q.call xe O O (fun w hw=>(cv (congrArg Value.bool h5) (oB _ (bC m.ao) x3.Port w (hw.row 4 O) )))) O<|U ?_
    refine R.s O (s.bs (l:=([(⟨x3.Port,x3.Data,x3.aU,0⟩:Note)]:List Note)) dI dO O O O O O O O) fun b9=>?_
    refine R.s O (s.app 2 _ O O O (bH 0 O) ea az az (fun _=>rfl) O) fun v6=>U ?_
    refine R.s O (s.dE 6 _ O O O (fun w hw=>Sl.bF (hw.row 2 O)) (.inr ⟨cQ,rfl⟩) (fun w hw=>(aJ (Sl.one (hw.row 2 O)) bq)) O O O) fun _=>U ?_
    refine R.q (q.aL (r:=((k+1:Nat):Int)) O O) O<|U ?_
    refine R.back (k+1,c,vw,ws,v6,(ns++([(⟨x3.Port,x3.Data,x3.aU,0⟩:Note)]))) O (by (have e0:=hx3;(have e1:=xJ (ws:=m.ao) Kk;have e2:=rQ e0 (by rw [e1];exact of_decide_eq_true af);rw [e1] at e2;exact ⟨ae,by rw [e2.1,HN],by rw [e2.2,HW],by rw [e2.2,HC]⟩))) aO (sF O) (aN Bo dQ O)
   refine R.c (q.call xe O O (fun w hw=>(cv (congrArg Value.bool h5) (oB _ (bC m.ao) x3.Port w (hw.row 4 O) )))) O<|U ?_
   refine R.q (q.aL (r:=((k+1:Nat):Int)) O O) O<|U ?_
   refine R.back (k+1,c,vw,ws,vn,ns) O (by (have e0:=hx3;(have e1:=xJ (ws:=m.ao) Kk;have e2:=rR e0 (by rw [e1];exact of_decide_eq_false af) (by rw [e1];simp);exact ⟨ae,by rw [e2.1,HN],by rw [e2.2,HW],by rw [e2.2,HC]⟩))) aO (sF O) (aN tU dQ O)
  refine R.c (q.call pW O O (fun w hw=>(cv (congrArg (Value.int .i64) Kk) (gP _ m.ao x3.ap w (hw.bz 1 O) )))) O<|U ?_
  rcases Bool.eq_false_or_eq_true (decide (x3.Port∈(bC m.ao))) with h6|h6
  .
   refine R.c (q.call xe O O (fun w hw=>(cv (congrArg Value.bool h6) (oB _ (bC m.ao) x3.Port w (hw.row 4 O) )))) O<|U ?_
   refine R.s O (s.bs (l:=([x3]:List Note)) dI dO O O O O O O O) fun b10=>?_
   refine R.s O (s.app 2 _ O O O (bH 0 O) ea az az (fun _=>rfl) O) fun v7=>U ?_
   refine R.s O (s.dE 6 _ O O O (fun w hw=>Sl.bF (hw.row 2 O)) (.inr ⟨cQ,rfl⟩) (fun w hw=>(aJ (Sl.one (hw.row 2 O)) bq)) O O O) fun _=>U ?_
   refine R.q (q.aL (r:=((k+1:Nat):Int)) O O) O<|U ?_
   refine R.back (k+1,c,vw,ws,v7,(ns++([x3]))) O (by (have e0:=hx3;(have e1:=oQ (ws:=m.ao) Kk;have e2:=rQ e0 (by rw [e1];exact of_decide_eq_true af);rw [e1] at e2;exact ⟨ae,by rw [e2.1,HN],by rw [e2.2,HW],by rw [e2.2,HC]⟩))) aO (sF O) (aN Bo dQ O)
  refine R.c (q.call xe O O (fun w hw=>(cv (congrArg Value.bool h6) (oB _ (bC m.ao) x3.Port w (hw.row 4 O) )))) O<|U ?_
  by_cases h7:0<x3.ap
  .
   refine U ?_
   refine R.s O (s.oL J4 O O (fun w hw=>mF _ ws x3.ap w (hw.bz 0 O) ae af) O) fun v8=>U ?_
   refine R.s O (s.dE 6 _ O O O (fun w hw=>Sl.bF (hw.row 0 O)) (.inr ⟨eF,rfl⟩) (fun w hw=>(aJ (Sl.one (hw.row 0 O)) bq)) O O O) fun _=>U ?_
   refine R.q (q.aL (r:=((c+1:Nat):Int)) O O) O<|U ?_
   refine R.q (q.aL (r:=((k+1:Nat):Int)) O O) O<|U ?_
   refine R.mp (fun _ hw=>hw.bu 0 _ O O)<|R.back (k+1,c+1,v8,without ws x3.ap,vn,ns) O (by (have e0:=hx3;(have e1:=oQ (ws:=m.ao) Kk;have e2:=BM e0 (by rw [e1];exact of_decide_eq_false af) (by rw [e1];assumption);rw [e1] at e2;exact ⟨ae,by rw [e2.1,HN],by rw [e2.2,List.foldl_append,<- HW];rfl,by rw [e2.2,List.length_append,<- HC];rfl⟩))) aO (sF O) (aN tU [0,2,3,4,5,6,7,8,9] O)
  refine U ?_
  refine R.q (q.aL (r:=((k+1:Nat):Int)) O O) O<|U ?_
  refine R.back (k+1,c,vw,ws,vn,ns) O (by (have e0:=hx3;(have e1:=oQ (ws:=m.ao) Kk;have e2:=rR e0 (by rw [e1];exact of_decide_eq_false af) (by rw [e1];assumption);exact ⟨ae,by rw [e2.1,HN],by rw [e2.2,HW],by rw [e2.2,HC]⟩))) aO (sF O) (aN tU dQ O)
 refine U ?_
 by_cases h8:c=0
 .
  refine U ?_
  refine R.s O (s.dE 5 _ O O O (fun _ _=>rfl) (.inl ak) (fun w hw=>(dx (hw.bz 0 O) (hw.row 2 O) (hw.row 1 O) (hw.row 0 O) O O)) O O O) fun _=>U ?_
  refine R.mp (fun _ hw=>hw.bu 2 _ O O)<|R.mp (fun _ hw=>hw.bu 1 _ O O)<|R.mp (fun _ hw=>hw.bu 0 _ O O) ?_
  have hz:dt r=(⟨ws,ts,hs,ns,m.ag,m.ah⟩:av):=by (rw [List.take_of_length_le ae] at HT HH HN HW HC;have hl0:iD m.ao (bC m.ao) m.Notes=[]:=List.eq_nil_of_length_eq_zero ae;rw [hl0] at HW;rw [<- HS,od (by show (iD _ _ _).length=0;rw [hl0];rfl)];unfold fH;rw [<- HN,<- HT,<- HH,HW];rfl)
  rw [hz]
  exact R.w1 (vw,vt,vh,vn) [4] dh O Tryz.results85 (RV.cell 2 O O ak) O O O O
 refine U ?_
 refine R.s O (s.dE 6 _ O O O (fun _ _=>rfl) (.inl ak) (fun w hw=>(dx (hw.bz 0 O) (hw.row 2 O) (hw.row 1 O) (hw.row 0 O) O O)) O O O) fun _=>U ?_
 refine R.mp (fun _ hw=>hw.bu 2 _ O O)<|R.mp (fun _ hw=>hw.bu 1 _ O O)<|R.mp (fun _ hw=>hw.bu 0 _ O O)<|R.back ((⟨ws,ts,hs,ns,m.ag,m.ah⟩:av),vw,vt,vh,vn) O (by (rw [List.take_of_length_le ae] at HT HH HN HW HC;have hl:oc m=iD m.ao (bC m.ao) m.Notes:=rfl;have e:lh m=(⟨ws,ts,hs,ns,m.ag,m.ah⟩:av):=(by unfold lh;rw [hl,<- HW];unfold fH;rw [<- HN,<- HT,<- HH]);exact Eq.mp (congrArg (fun q:av=>Ok q/\Pre q/\dt q=dt r) e) ⟨hok.lh,hpm.sw (ids:=oc m) (fun j hj=>hj),(wU (by rw [hl,<- HC];assumption)).symm.trans HS⟩)) aO (sF O) (aN [2,3,4] [3,2,1,0,8,9,10,11] O)
theorem LY (a8 aW aX aZ:Value)(r:av)(p:Place)(w:World)(own:List Nat)(H:HN w own [] [aj.ls a8 r.ao,aj.ls aW r.Things,aj.ls aX r.Held,aj.ls aZ r.Notes])(hk:Ok r)(hI:Inv r):RC Tryz.prog 36 #[.agg #[a8,aW,aX,aZ,iV r.ag,iV r.ah],.agg #[iV p.ay,iV p.Slot]] H (fun z:Value×Value×Value×Value => .tuple #[.agg #[z.1,z.2.1,z.2.2.1,z.2.2.2,iV (fM r p).1.ag,iV (fM r p).1.ah],iV (fM r p).2]) (fun _=>[]) (fun z=>[aj.ls z.1 (fM r p).1.ao,aj.ls z.2.1 (fM r p).1.Things,aj.ls z.2.2.1 (fM r p).1.Held,aj.ls z.2.2.2 (fM r p).1.Notes]):=by
 have cB:=H.bD 0 rfl
 have cd:=H.bD 1 rfl
 have df:=H.bD 2 rfl
 have cC:=H.bD 3 rfl
 have bw:=hk.wl;have bt:=hk.tl;have bh:=hk.hl;have bn:=hk.nl;have ya:=hk.w0;have yb:=hk.w1;have yc:=hk.t0;have yd:=hk.t1
 have gn:=ft r p
 have hkd:=hk.wo (aM r p).1.ID
 refine R.bE [(0,.agg #[a8,aW,aX,aZ,iV r.ag,iV r.ah]),(1,.agg #[iV p.ay,iV p.Slot])] Tryz.func36 O O O O H<|U ?_
 refine R.s O (s.box O O O) fun b1=>?_
 refine R.s O (s.box O O O) fun b2=>?_
 refine R.s O (s.alloc cw O O) fun b3=>U ?_
 refine R.c (q.call Co O O (fun w hw=>(pj _ _ _ _ r p w (hw.bz 0 O) (hw.bz 1 O) (hw.bz 2 O) (hw.bz 3 O) af af))) O<|U ?_
 refine R.s O (s.alloc br O O) fun b4=>?_
 refine R.s O (s.st 0 _ O O O O (.inl aH) O O O O) fun _=>U ?_
 by_cases h1:0<(aM r p).2
 .
  refine U ?_
  refine R.s O (s.st 1 _ O O O O (.inl ak) O O O O) fun _=>U ?_
  refine R.iY ap aA Held Note ?_
  have hz:fM r p=((⟨[],[],[],[],0,0⟩:av),(aM r p).2):=by (unfold fM;rw [if_neg ae];(try rfl))
  rw [hz]
  exact R.w2 ((nS),nS,nS,(nS)) [4] dh O Tryz.results36 (RV.cell 1 O O ak) (RV.tmp O) O O O (cq O O)
 have gz:(aM r p).2=0:=ae
 have hPd:=hI.toPre.wo (aM r p).1.ID
 refine U ?_
 refine R.s O (s.oL J4 O O (fun w hw=>mF _ r.ao (aM r p).1.ID w (hw.bz 0 O) ae (by exact hI.tree)) O) fun v1=>U ?_
 refine R.s O (s.dE 4 _ O O O (fun w hw=>Sl.bF (hw.row 0 O)) (.inr ⟨eF,rfl⟩) (fun w hw=>(aJ (Sl.one (hw.row 0 O)) bq)) O O O) fun _=>U ?_
 refine R.s O (s.pre (fun _ hw=>hw.bu 0 _ O O) (s.aT da yk _ _ _ O O O NM O O (fun w own hw H=>tQ v1 aW aX aZ (⟨without r.ao (aM r p).1.ID,r.Things,r.Held,r.Notes,r.ag,r.ah⟩:av) w own H af af) O)) ?_
 rintro ⟨z1,z2,z3,z4⟩
 dsimp only
 refine R.s O (s.dE 1 _ O O O (fun _ _=>rfl) (.inl ak) (fun w hw=>(dx (hw.bz 0 O) (hw.bz 1 O) (hw.bz 2 O) (hw.bz 3 O) O O)) O O O) fun _=>U ?_
 have hz:fM r p=((dt (⟨without r.ao (aM r p).1.ID,r.Things,r.Held,r.Notes,r.ag,r.ah⟩:av)),0):=by (unfold fM;rw [if_pos gz];(try rfl))
 rw [hz]
 exact R.w2 (z1,z2,z3,z4) [4] bm O Tryz.results36 (RV.cell 1 O O ak) (RV.tmp O) O O O (cq O O)
theorem G5 (a8 aW aX aZ:Value)(r:av)(p:Place)(w:World)(own:List Nat)(H:HN w own [] [aj.ls a8 r.ao,aj.ls aW r.Things,aj.ls aX r.Held,aj.ls aZ r.Notes])(hk:Ok r)(hI:Inv r):RC Tryz.prog 37 #[.agg #[a8,aW,aX,aZ,iV r.ag,iV r.ah],.agg #[iV p.ay,iV p.Slot]] H (fun z:Value×Value×Value×Value => .tuple #[.agg #[z.1,z.2.1,z.2.2.1,z.2.2.2,iV (dF r p).1.ag,iV (dF r p).1.ah],iV (dF r p).2]) (fun _=>[]) (fun z=>[aj.ls z.1 (dF r p).1.ao,aj.ls z.2.1 (dF r p).1.Things,aj.ls z.2.2.1 (dF r p).1.Held,aj.ls z.2.2.2 (dF r p).1.Notes]):=by
 have cB:=H.bD 0 rfl
 have cd:=H.bD 1 rfl
 have df:=H.bD 2 rfl
 have cC:=H.bD 3 rfl
 have bw:=hk.wl;have bt:=hk.tl;have bh:=hk.hl;have bn:=hk.nl;have ya:=hk.w0;have yb:=hk.w1;have yc:=hk.t0;have yd:=hk.t1
 have gn:=ft r p
 refine R.bE [(0,.agg #[a8,aW,aX,aZ,iV r.ag,iV r.ah]),(1,.agg #[iV p.ay,iV p.Slot])] Tryz.func37 O O O O H<|U ?_
 refine R.s O (s.box O O O) fun b1=>?_
 refine R.s O (s.box O O O) fun b2=>?_
 refine R.s O (s.alloc cw O O) fun b3=>U ?_
 refine R.c (q.call Co O O (fun w hw=>(pj _ _ _ _ r p w (hw.bz 0 O) (hw.bz 1 O) (hw.bz 2 O) (hw.bz 3 O) af af))) O<|U ?_
 refine R.s O (s.alloc br O O) fun b4=>?_
 refine R.s O (s.st 0 _ O O O O (.inl aH) O O O O) fun _=>U ?_
 by_cases h1:0<(aM r p).2
 .
  refine U ?_
  refine R.s O (s.st 1 _ O O O O (.inl ak) O O O O) fun _=>U ?_
  refine R.iY ap aA Held Note ?_
  have hz:dF r p=((⟨[],[],[],[],0,0⟩:av),(aM r p).2):=by (unfold dF;rw [if_neg ae];(try rfl))
  rw [hz]
  exact R.w2 ((nS),nS,nS,(nS)) [4] dh O Tryz.results37 (RV.cell 1 O O ak) (RV.tmp O) O O O (cq O O)
 have gz:(aM r p).2=0:=ae
 have hkc:=hk.cut (aM r p).1.ID;have hPc:=hI.toPre.cut (id:=(aM r p).1.ID) (jV.2 ⟨_,(rP gz).2.1,rfl⟩)
 refine U ?_
 refine R.s O (s.oL Xk O O (fun w hw=>Es _ r.ao (aM r p).1.ID w (hw.bz 0 O) (by exact hI.tree) ae) O) fun v1=>U ?_
 refine R.row0 (α:=ap) 126<|R.loop (fun g_:Nat×Value×(List ap)=>[(2,.pointer (some ⟨b1,0,none⟩)),(4,.pointer (some ⟨b3,0,none⟩)),(8,v1),(9,g_.2.1),(10,iV (g_.1:Int))]) (fun g_=>[aj.row 126 g_.2.1 g_.2.2,aj.row 3 v1 (jd (aM r p).1.ID r.ao),aj.box b4 [iV (aM r p).1.ID,iV (aM r p).1.aA,iV (aM r p).1.Rights,iV (aM r p).1.aU,iV (aM r p).1.From] 126,aj.box b3 t8 48,aj.box b2 (jO p) 32,aj.box b1 [a8,aW,aX,aZ,iV r.ag,iV r.ah] 48,aj.held w own]) (fun g_=>[aj.ls a8 r.ao,aj.ls aW r.Things,aj.ls aX r.Held,aj.ls aZ r.Notes]) (fun g_=>g_.1<=r.ao.length/\g_.2.2=(r.ao.take g_.1).filter (fun x => !decide (x.ID∈jd (aM r p).1.ID r.ao))) (fun g_=>r.ao.length-g_.1) (0,nS,[]) O (by exact ⟨ae,bW⟩) (sF O) (eI kj bm O) ?_
 rintro ⟨k,vl,ls⟩ ⟨hk1,HL⟩
 dsimp only at *
 have hll:ls.length<=k:=by rw [HL];exact wK _ _ _
 refine U ?_
 by_cases h2:k<r.ao.length
 .
  refine U ?_
  obtain ⟨x1,hx1⟩:=gE r.ao k
  refine R.q (q.idx (i:=k) (cb 0 O) O O cR O hx1) O<|R.q (q.ew (j':=0) (cb 0 O) hx1 O gV O) O<|R.q (q.gh (cb 0 O) hx1 O bg O) O ?_
  rcases Bool.eq_false_or_eq_true (decide (x1.ID∈(jd (aM r p).1.ID r.ao))) with h3|h3
  .
   refine R.c (q.call xe O O (fun w hw=>(cv (congrArg Value.bool h3) (oB _ (jd (aM r p).1.ID r.ao) x1.ID w (hw.row 1 O) )))) O<|U ?_
   refine R.q (q.aL (r:=((k+1:Nat):Int)) O O) O<|U ?_
   refine R.back (k+1,vl,ls) O (by (exact ⟨ae,by rw [wJ hx1 (by simpa using ‹decide (_∈jd _ _)=true›),HL]⟩)) aO (sF O) (aN kj bm O)
  refine R.c (q.call xe O O (fun w hw=>(cv (congrArg Value.bool h3) (oB _ (jd (aM r p).1.ID r.ao) x1.ID w (hw.row 1 O) )))) O<|U ?_
  refine R.q (q.idx (i:=k) (cb 0 O) O O cR O hx1) O<|R.q (q.dj (ds:=fY x1) (cb 0 O) hx1 O aH O) O<|R.s O (s.bs (l:=([x1]:List ap)) cR br O O O O O O O) fun b5=>?_
  refine R.s O (s.app 1 _ O O O (bH 0 O) g9 az az (fun _=>rfl) O) fun v2=>U ?_
  refine R.q (q.aL (r:=((k+1:Nat):Int)) O O) O<|U ?_
  refine R.back (k+1,v2,(ls++([x1]))) O (by (exact ⟨ae,by rw [nz hx1 (by simpa using ‹decide (_∈jd _ _)=false›),HL]⟩)) aO (sF O) (aN yj bm O)
 refine U ?_
 have hls:ls=E7 r.ao (aM r p).1.ID:=by rw [HL,List.take_of_length_le ae];rfl
 have hkl:Ok (⟨ls,r.Things,r.Held,r.Notes,r.ag,r.ah⟩:av):=by rw [hls];exact hkc
 have hPl:Pre (⟨ls,r.Things,r.Held,r.Notes,r.ag,r.ah⟩:av):=by rw [hls];exact hPc
 refine U ?_
 refine R.s O (s.dE 5 _ O O O (fun w hw=>Sl.bF (hw.row 0 O)) (.inr ⟨eF,rfl⟩) (fun w hw=>(aJ (Sl.one (hw.row 0 O)) bq)) O O O) fun _=>U ?_
 refine R.s O (s.pre (fun _ hw=>hw.bu 0 _ O O) (s.aT nE yk _ _ _ O O O NM O O (fun w own hw H=>tQ vl aW aX aZ (⟨ls,r.Things,r.Held,r.Notes,r.ag,r.ah⟩:av) w own H af af) O)) ?_
 rintro ⟨z1,z2,z3,z4⟩
 dsimp only
 refine R.s O (s.dE 2 _ O O O (fun _ _=>rfl) (.inl ak) (fun w hw=>(dx (hw.bz 0 O) (hw.bz 1 O) (hw.bz 2 O) (hw.bz 3 O) O O)) O O O) fun _=>U ?_
 have hz:dF r p=((dt (⟨ls,r.Things,r.Held,r.Notes,r.ag,r.ah⟩:av)),0):=by (unfold dF;rw [if_pos gz,hls];(try rfl))
 rw [hz]
 exact R.w2 (z1,z2,z3,z4) [5] bm O Tryz.results37 (RV.cell 2 O O ak) (RV.tmp O) O O O (cq O O)
theorem I8 (a8 aW aX aZ:Value)(r:av)(p:Place)(d:ByteArray)(w:World)(own:List Nat)(H:HN w own [] [aj.ls a8 r.ao,aj.ls aW r.Things,aj.ls aX r.Held,aj.ls aZ r.Notes])(hk:Ok r)(hI:Inv r):RC Tryz.prog 38 #[.agg #[a8,aW,aX,aZ,iV r.ag,iV r.ah],.agg #[iV p.ay,iV p.Slot],.string d] H (fun z:Value×Value×Value×Value => .tuple #[.agg #[z.1,z.2.1,z.2.2.1,z.2.2.2,iV (dV r p d).1.ag,iV (dV r p d).1.ah],iV (dV r p d).2]) (fun _=>[]) (fun z=>[aj.ls z.1 (dV r p d).1.ao,aj.ls z.2.1 (dV r p d).1.Things,aj.ls z.2.2.1 (dV r p d).1.Held,aj.ls z.2.2.2 (dV r p d).1.Notes]):=by
 have cB:=H.bD 0 rfl
 have cd:=H.bD 1 rfl
 have df:=H.bD 2 rfl
 have cC:=H.bD 3 rfl
 have bw:=hk.wl;have bt:=hk.tl;have bh:=hk.hl;have bn:=hk.nl;have ya:=hk.w0;have yb:=hk.w1;have yc:=hk.t0;have yd:=hk.t1
 have mn0:=jj r p 1 2
 refine R.bE [(0,.agg #[a8,aW,aX,aZ,iV r.ag,iV r.ah]),(1,.agg #[iV p.ay,iV p.Slot]),(2,.string d)] Tryz.func38 O O O O H<|U ?_
 refine R.s O (s.box O O O) fun b1=>?_
 refine R.s O (s.box O O O) fun b2=>?_
 refine R.s O (s.alloc cw O O) fun b3=>U ?_
 refine R.c (q.call NP O O (fun w hw=>(AA _ _ _ _ r p 1 2 w (hw.bz 0 O) (hw.bz 1 O) (hw.bz 2 O) (hw.bz 3 O) af af ae))) O<|U ?_
 refine R.s O (s.alloc br O O) fun b4=>?_
 refine R.s O (s.st 0 _ O O O O (.inl aH) O O O O) fun _=>U ?_
 by_cases h1:0<(bQ r p 1 2).2.2
 .
  refine U ?_
  refine R.s O (s.st 1 _ O O O O (.inl ak) O O O O) fun _=>U ?_
  refine R.iY ap aA Held Note ?_
  have hz:dV r p d=((⟨[],[],[],[],0,0⟩:av),(bQ r p 1 2).2.2):=by (unfold dV gB;(repeat' split) <;> first|rfl|(exfalso;omega)|(simp_all;done))
  rw [hz]
  exact R.w2 ((nS),nS,nS,(nS)) [4] dh O Tryz.results38 (RV.cell 1 O O ak) (RV.tmp O) O O O (cq O O)
 have mn:=jj r p 1 2;have mq:(bQ r p 1 2).2.2=0:=ae
 obtain ⟨m1,m2,m3,i,ix,ik,ih,ii,id,ib⟩:=lp mq;have iB:=(List.getElem?_eq_some_iff.1 ih).1
 refine U ?_
 by_cases h2:8<d.size
 .
  refine U ?_
  refine R.s O (s.st 1 _ O O O O (.inl ak) O O O O) fun _=>U ?_
  refine R.iY ap aA Held Note ?_
  have hz:dV r p d=((⟨[],[],[],[],0,0⟩:av),2):=by (unfold dV gB;(repeat' split) <;> rfl)
  rw [hz]
  exact R.w2 ((nS),nS,nS,(nS)) [4] dh O Tryz.results38 (RV.cell 1 O O ak) (RV.tmp O) O O O (cq O O)
 refine U ?_
 refine R.s O (s.aT da bm _ _ _ O O O FW O O (fun w own hw H=>pn a8 aW aX aZ r w own H af) O) ?_
 rintro ⟨z1,z2,z3,z4⟩
 dsimp only
 refine R.s O (s.dE 7 _ O O O (fun _ _=>rfl) (.inl ak) (fun w hw=>(dx (hw.row 0 O) (hw.row 1 O) (hw.row 2 O) (hw.row 3 O) O O)) O O O) fun _=>U ?_
 obtain ⟨x1,hx1⟩:=gE r.Things ((bQ r p 1 2).2.1.toNat)
 refine R.q (q.idx (i:=(bQ r p 1 2).2.1.toNat) (bH 1 O) O O eZ ae hx1) O<|R.q (q.ew (j':=2) (bH 1 O) hx1 O tH O) O<|R.s O (s.stP (o:=2) (z:=(⟨x1.ID,x1.Kind,d⟩:aA)) 1 _ O hx1 O O O O O (by simp [Value.oneCell']) (.inr ⟨dC,rfl⟩) O) fun _=>U ?_
 refine R.s O (s.dE 5 _ O O O (fun _ _=>rfl) (.inl ak) (fun w hw=>(dx (hw.row 0 O) (hw.row 1 O) (hw.row 2 O) (hw.row 3 O) O O)) O O O) fun _=>U ?_
 refine R.mp (fun _ hw=>hw.bu 0 _ O O)<|R.mp (fun _ hw=>hw.bu 0 _ O O)<|R.mp (fun _ hw=>hw.bu 0 _ O O)<|R.mp (fun _ hw=>hw.bu 0 _ O O) ?_
 have hz:dV r p d=((⟨r.ao,r.Things.set (bQ r p 1 2).2.1.toNat (⟨x1.ID,x1.Kind,d⟩:aA),r.Held,r.Notes,r.ag,r.ah⟩:av),0):=by (unfold dV gB;(repeat' split) <;> first|rfl|(exfalso;omega)|(simp_all;done))
 rw [hz]
 exact R.w2 (z1,z2,z3,z4) [4] dh O Tryz.results38 (RV.cell 1 O O ak) (RV.tmp O) O O O (cq O O)
end
section
open Go Go.RowKit
attribute [local irreducible] Run Rg Rq Qt Qa Stp Dg Do Dm cD
theorem LZ (a8 aW aX aZ:Value)(r:av)(p:Place)(d:ByteArray)(slot:Int)(rights:Int)(w:World)(own:List Nat)(H:HN w own [] [aj.ls a8 r.ao,aj.ls aW r.Things,aj.ls aX r.Held,aj.ls aZ r.Notes])(hk:Ok r)(hI:Inv r):RC Tryz.prog 39 #[.agg #[a8,aW,aX,aZ,iV r.ag,iV r.ah],.agg #[iV p.ay,iV p.Slot],.string d,iV slot,iV rights] H (fun z:Value×Value×Value×Value => .tuple #[.agg #[z.1,z.2.1,z.2.2.1,z.2.2.2,iV (cL r p d slot rights).1.ag,iV (cL r p d slot rights).1.ah],iV (cL r p d slot rights).2]) (fun _=>[]) (fun z=>[aj.ls z.1 (cL r p d slot rights).1.ao,aj.ls z.2.1 (cL r p d slot rights).1.Things,aj.ls z.2.2.1 (cL r p d slot rights).1.Held,aj.ls z.2.2.2 (cL r p d slot rights).1.Notes]):=by
 have cB:=H.bD 0 rfl
 have cd:=H.bD 1 rfl
 have df:=H.bD 2 rfl
 have cC:=H.bD 3 rfl
 have bw:=hk.wl;have bt:=hk.tl;have bh:=hk.hl;have bn:=hk.nl;have ya:=hk.w0;have yb:=hk.w1;have yc:=hk.t0;have yd:=hk.t1
 have mn0:=jj r p 2 2;have gn2:=ft r (⟨p.ay,slot⟩:Place);have dc:=iL (aM r (⟨p.ay,slot⟩:Place)).1 r.ag rights 0
 refine R.bE [(0,.agg #[a8,aW,aX,aZ,iV r.ag,iV r.ah]),(1,.agg #[iV p.ay,iV p.Slot]),(2,.string d),(3,iV slot),(4,iV rights)] Tryz.func39 O O O O H<|U ?_
 refine R.s O (s.box O O O) fun b1=>?_
 refine R.s O (s.box O O O) fun b2=>?_
 refine R.s O (s.alloc cw O O) fun b3=>U ?_
 refine R.c (q.call NP O O (fun w hw=>(AA _ _ _ _ r p 2 2 w (hw.bz 0 O) (hw.bz 1 O) (hw.bz 2 O) (hw.bz 3 O) af af ae))) O<|U ?_
 refine R.s O (s.alloc br O O) fun b4=>?_
 refine R.s O (s.st 0 _ O O O O (.inl aH) O O O O) fun _=>U ?_
 by_cases h1:0<(bQ r p 2 2).2.2
 .
  refine U ?_
  refine R.s O (s.st 1 _ O O O O (.inl ak) O O O O) fun _=>U ?_
  refine R.iY ap aA Held Note ?_
  have hz:cL r p d slot rights=((⟨[],[],[],[],0,0⟩:av),(bQ r p 2 2).2.2):=by (unfold cL;rw [if_neg ae];(try rfl))
  rw [hz]
  exact R.w2 ((nS),nS,nS,(nS)) [4] dh O Tryz.results39 (RV.cell 1 O O ak) (RV.tmp O) O O O (cq O O)
 have mq:(bQ r p 2 2).2.2=0:=ae
 have mz:=lp mq;have mr:=hk.get mz.1;rw [<- mz.2.1] at mr
 refine U ?_
 by_cases h2:8<d.size
 .
  refine U ?_
  refine R.s O (s.st 1 _ O O O O (.inl ak) O O O O) fun _=>U ?_
  refine R.iY ap aA Held Note ?_
  have hz:cL r p d slot rights=((⟨[],[],[],[],0,0⟩:av),2):=by (unfold cL;rw [if_pos mq,if_pos ae];(try rfl))
  rw [hz]
  exact R.w2 ((nS),nS,nS,(nS)) [4] dh O Tryz.results39 (RV.cell 1 O O ak) (RV.tmp O) O O O (cq O O)
 refine U ?_
 refine R.loop (fun g_:Nat×Nat=>[(2,.string d),(3,iV slot),(4,iV rights),(5,.pointer (some ⟨b1,0,none⟩)),(6,.pointer (some ⟨b2,0,none⟩)),(10,.pointer (some ⟨b3,0,none⟩)),(12,.pointer (some ⟨b4,0,none⟩)),(15,iV (g_.2:Int)),(16,iV (g_.1:Int))]) (fun g_=>[aj.box b4 [iV (bQ r p 2 2).1.ID,iV (bQ r p 2 2).1.aA,iV (bQ r p 2 2).1.Rights,iV (bQ r p 2 2).1.aU,iV (bQ r p 2 2).1.From] 126,aj.box b3 t8 48,aj.box b2 (jO p) 32,aj.box b1 [a8,aW,aX,aZ,iV r.ag,iV r.ah] 48,aj.held w own]) (fun g_=>[aj.ls a8 r.ao,aj.ls aW r.Things,aj.ls aX r.Held,aj.ls aZ r.Notes]) (fun g_=>g_.1<=r.Notes.length/\g_.2=gu (r.Notes.take g_.1) (bQ r p 2 2).1.aA) (fun g_=>r.Notes.length-g_.1) (0,0) O (by exact ⟨ae,by simp [gu]⟩) (sF O) (eI da bm O) ?_
 rintro ⟨k,c⟩ ⟨hk1,HC⟩
 dsimp only at *
 have hc1:c<=k:=by rw [HC];exact Jr
 refine U ?_
 by_cases h3:k<r.Notes.length
 .
  refine U ?_
  obtain ⟨x1,hx1⟩:=gE r.Notes k
  by_cases h4:x1.Port=(bQ r p 2 2).1.aA
  .
   refine R.dA O mixed ai<|U ?_
   refine Q.q (q.idx (i:=k) (cb 3 O) O O dI O hx1) O<|Q.q (q.ew (j':=0) (cb 3 O) hx1 O vU O) O<|Q.q (q.gh (cb 3 O) hx1 O bg O) O<|U ?_
   refine R.q (q.aL (r:=((c+1:Nat):Int)) O O) O<|U ?_
   refine R.q (q.aL (r:=((k+1:Nat):Int)) O O) O<|U ?_
   refine R.back (k+1,c+1) O (by (exact ⟨ae,by rw [E8 hx1 af,HC]⟩)) aO (sF O) (aN da bm O)
  refine R.dA O mixed ai<|U ?_
  refine Q.q (q.idx (i:=k) (cb 3 O) O O dI O hx1) O<|Q.q (q.ew (j':=0) (cb 3 O) hx1 O vU O) O<|Q.q (q.gh (cb 3 O) hx1 O bg O) O<|U ?_
  refine R.q (q.aL (r:=((k+1:Nat):Int)) O O) O<|U ?_
  refine R.back (k+1,c) O (by (exact ⟨ae,by rw [BN hx1 af,HC]⟩)) aO (sF O) (aN da bm O)
 refine U ?_
 rw [List.take_of_length_le ae] at HC
 refine U ?_
 by_cases h5:c=3
 .
  refine U ?_
  refine R.s O (s.st 1 _ O O O O (.inl ak) O O O O) fun _=>U ?_
  refine R.iY ap aA Held Note ?_
  have hz:cL r p d slot rights=((⟨[],[],[],[],0,0⟩:av),9):=by (unfold cL;rw [if_pos mq,if_neg ae,if_pos ae];(try rfl))
  rw [hz]
  exact R.w2 ((nS),nS,nS,(nS)) [4] dh O Tryz.results39 (RV.cell 1 O O ak) (RV.tmp O) O O O (cq O O)
 refine U ?_
 refine R.s O (s.alloc dO O O) fun b5=>?_
 refine R.s O (s.st 0 _ O O O O (.inl cj) O O O O) fun _=>U ?_
 refine R.s O (s.aT nE bm _ _ _ O O O FW O O (fun w own hw H=>pn a8 aW aX aZ r w own H af) O) ?_
 rintro ⟨z1,z2,z3,z4⟩
 dsimp only
 refine R.s O (s.dE 8 _ O O O (fun _ _=>rfl) (.inl ak) (fun w hw=>(dx (hw.row 0 O) (hw.row 1 O) (hw.row 2 O) (hw.row 3 O) O O)) O O O) fun _=>U ?_
 by_cases h6:slot<0
 .
  refine U ?_
  refine R.s O (s.bs (l:=([(⟨((bQ r p 2 2).1).aA,d,(bQ r p 2 2).1.aU,0⟩:Note)]:List Note)) dI dO O O O O O O O) fun b6=>?_
  refine R.s O (s.app 4 _ O O O (bH 0 O) ea az az (fun _=>rfl) O) fun v1=>U ?_
  refine R.s O (s.dE 9 _ O O O (fun w hw=>Sl.bF (hw.row 4 O)) (.inr ⟨cQ,rfl⟩) (fun w hw=>(aJ (Sl.one (hw.row 4 O)) bq)) O O O) fun _=>U ?_
  have hcn:¬ gu r.Notes (bQ r p 2 2).1.aA=3:=ae
  refine U ?_
  refine R.s O (s.dE 7 _ O O O (fun _ _=>rfl) (.inl ak) (fun w hw=>(dx (hw.row 1 O) (hw.row 2 O) (hw.row 3 O) (hw.row 4 O) O O)) O O O) fun _=>U ?_
  refine R.mp (fun _ hw=>hw.bu 1 _ O O)<|R.mp (fun _ hw=>hw.bu 1 _ O O)<|R.mp (fun _ hw=>hw.bu 1 _ O O)<|R.mp (fun _ hw=>hw.bu 1 _ O O) ?_
  have hz:cL r p d slot rights=((⟨r.ao,r.Things,r.Held,r.Notes++([(⟨((bQ r p 2 2).1).aA,d,(bQ r p 2 2).1.aU,0⟩:Note)]),r.ag,r.ah⟩:av),0):=by (unfold cL;rw [if_pos mq,if_neg ae,if_neg ae,if_pos ae];(try rfl))
  rw [hz]
  exact R.w2 (z1,z2,z3,v1) [6] dh O Tryz.results39 (RV.cell 3 O O ak) (RV.tmp O) O O O (cq O O)
 refine U ?_
 by_cases h7:(bQ r p 2 2).1.Rights<4
 .
  refine U ?_
  refine R.s O (s.st 6 _ O O O O (.inl ak) O O O O) fun _=>U ?_
  refine R.iY ap aA Held Note ?_
  have hz:cL r p d slot rights=((⟨[],[],[],[],0,0⟩:av),7):=by (unfold cL;rw [if_pos mq,if_neg ae,if_neg ae,if_neg ae,if_neg (by rw [Kl mr ae];decide)];(try rfl))
  rw [hz]
  exact R.w2 ((nS),nS,nS,(nS)) [9] dh O Tryz.results39 (RV.cell 6 O O ak) (RV.tmp O) O O O (cq O O)
 refine U ?_
 refine R.c (q.call Co O O (fun w hw=>(pj _ _ _ _ r (⟨p.ay,slot⟩:Place) w (hw.row 0 O) (hw.row 1 O) (hw.row 2 O) (hw.row 3 O) af af))) O<|U ?_
 refine R.s O (s.alloc br O O) fun b7=>?_
 refine R.s O (s.st 0 _ O O O O (.inl aH) O O O O) fun _=>U ?_
 by_cases h8:0<(aM r (⟨p.ay,slot⟩:Place)).2
 .
  refine U ?_
  refine R.s O (s.st 7 _ O O O O (.inl ak) O O O O) fun _=>U ?_
  refine R.iY ap aA Held Note ?_
  have hz:cL r p d slot rights=((⟨[],[],[],[],0,0⟩:av),(aM r (⟨p.ay,slot⟩:Place)).2):=by (unfold cL;rw [if_pos mq,if_neg ae,if_neg ae,if_neg ae,if_pos (ny mr ae),if_neg ae];(try rfl))
  rw [hz]
  exact R.w2 ((nS),nS,nS,(nS)) [10] dh O Tryz.results39 (RV.cell 7 O O ak) (RV.tmp O) O O O (cq O O)
 have gz:(aM r (⟨p.ay,slot⟩:Place)).2=0:=ae
 have gr:=hk.get gz
 refine U ?_
 by_cases h9:999<r.ag
 .
  refine U ?_
  refine R.s O (s.st 7 _ O O O O (.inl ak) O O O O) fun _=>U ?_
  refine R.iY ap aA Held Note ?_
  have hz:cL r p d slot rights=((⟨[],[],[],[],0,0⟩:av),9):=by (unfold cL;rw [if_pos mq,if_neg ae,if_neg ae,if_neg ae,if_pos (ny mr ae),if_pos gz,if_pos ae];(try rfl))
  rw [hz]
  exact R.w2 ((nS),nS,nS,(nS)) [10] dh O Tryz.results39 (RV.cell 7 O O ak) (RV.tmp O) O O O (cq O O)
 refine U ?_
 refine R.c (q.call NN O O (fun w hw=>(np (aM r (⟨p.ay,slot⟩:Place)).1 r.ag rights 0 w ae))) O<|U ?_
 refine R.s O (s.alloc br O O) fun b8=>?_
 refine R.s O (s.st 0 _ O O O O (.inl aH) O O O O) fun _=>U ?_
 by_cases h10:0<(derived (aM r (⟨p.ay,slot⟩:Place)).1 r.ag rights 0).2
 .
  refine U ?_
  refine R.s O (s.st 8 _ O O O O (.inl ak) O O O O) fun _=>U ?_
  refine R.iY ap aA Held Note ?_
  have hz:cL r p d slot rights=((⟨[],[],[],[],0,0⟩:av),(derived (aM r (⟨p.ay,slot⟩:Place)).1 r.ag rights 0).2):=by (unfold cL;rw [if_pos mq,if_neg ae,if_neg ae,if_neg ae,if_pos (ny mr ae),if_pos gz,if_neg ae,if_neg ae];(try rfl))
  rw [hz]
  exact R.w2 ((nS),nS,nS,(nS)) [11] dh O Tryz.results39 (RV.cell 8 O O ak) (RV.tmp O) O O O (cq O O)
 have dz:(derived (aM r (⟨p.ay,slot⟩:Place)).1 r.ag rights 0).2=0:=ae
 refine U ?_
 refine R.s O (s.pre (fun _ hw=>hw.bu 2 _ O O) (s.pre (fun _ hw=>hw.bu 2 _ O O) (s.pre (fun _ hw=>hw.bu 2 _ O O) (s.pre (fun _ hw=>hw.bu 2 _ O O) (s.aT cu dh _ _ _ O O O FV O O (fun w own hw H=>rL z1 z2 z3 z4 r (derived (aM r (⟨p.ay,slot⟩:Place)).1 r.ag rights 0).1 w own H af) O))))) ?_
 rintro ⟨z5,z6,z7,z8⟩
 dsimp only
 refine R.s O (s.dE 10 _ O O O (fun _ _=>rfl) (.inl ak) (fun w hw=>(dx (hw.row 0 O) (hw.row 1 O) (hw.row 2 O) (hw.row 3 O) O O)) O O O) fun _=>U ?_
 refine R.s O (s.st 6 _ O O O O (.inr ⟨bg,rfl⟩) O O O O) fun _=>U ?_
 refine R.s O (s.bs (l:=([(⟨((bQ r p 2 2).1).aA,d,(bQ r p 2 2).1.aU,(derived (aM r (⟨p.ay,slot⟩:Place)).1 r.ag rights 0).1.ID⟩:Note)]:List Note)) dI dO O O O O O O O) fun b9=>?_
 refine R.s O (s.app 4 _ O O O (bH 0 O) ea (by (simp [aL];omega)) (by (simp [aL];omega)) (fun _=>rfl) O) fun v2=>U ?_
 refine R.s O (s.dE 11 _ O O O (fun w hw=>Sl.bF (hw.row 4 O)) (.inr ⟨cQ,rfl⟩) (fun w hw=>(aJ (Sl.one (hw.row 4 O)) bq)) O O O) fun _=>U ?_
 have hcn:¬ gu r.Notes (bQ r p 2 2).1.aA=3:=ae
 refine U ?_
 refine R.s O (s.dE 9 _ O O O (fun _ _=>rfl) (.inl ak) (fun w hw=>(dx (hw.row 1 O) (hw.row 2 O) (hw.row 3 O) (hw.row 4 O) O O)) O O O) fun _=>U ?_
 refine R.mp (fun _ hw=>hw.bu 1 _ O O)<|R.mp (fun _ hw=>hw.bu 1 _ O O)<|R.mp (fun _ hw=>hw.bu 1 _ O O)<|R.mp (fun _ hw=>hw.bu 1 _ O O) ?_
 have hz:cL r p d slot rights=((⟨(aL r (derived (aM r (⟨p.ay,slot⟩:Place)).1 r.ag rights 0).1).ao,(aL r (derived (aM r (⟨p.ay,slot⟩:Place)).1 r.ag rights 0).1).Things,(aL r (derived (aM r (⟨p.ay,slot⟩:Place)).1 r.ag rights 0).1).Held,(aL r (derived (aM r (⟨p.ay,slot⟩:Place)).1 r.ag rights 0).1).Notes++([(⟨((bQ r p 2 2).1).aA,d,(bQ r p 2 2).1.aU,(derived (aM r (⟨p.ay,slot⟩:Place)).1 r.ag rights 0).1.ID⟩:Note)]),(aL r (derived (aM r (⟨p.ay,slot⟩:Place)).1 r.ag rights 0).1).ag,(aL r (derived (aM r (⟨p.ay,slot⟩:Place)).1 r.ag rights 0).1).ah⟩:av),0):=by (unfold cL;rw [if_pos mq,if_neg ae,if_neg ae,if_neg ae,if_pos (ny mr ae),if_pos gz,if_neg ae,if_pos dz];(try rfl))
 rw [hz]
 exact R.w2 (z5,z6,z7,v2) [8] dh O Tryz.results39 (RV.cell 5 O O ak) (RV.tmp O) O O O (cq O O)
theorem L5 (a8 aW aX aZ:Value)(r:av)(p:Place)(w:World)(own:List Nat)(H:HN w own [] [aj.ls a8 r.ao,aj.ls aW r.Things,aj.ls aX r.Held,aj.ls aZ r.Notes])(hk:Ok r)(hI:Inv r):RC Tryz.prog 40 #[.agg #[a8,aW,aX,aZ,iV r.ag,iV r.ah],.agg #[iV p.ay,iV p.Slot]] H (fun z:Value×Value×Value×Value => .tuple #[.agg #[z.1,z.2.1,z.2.2.1,z.2.2.2,iV (cM r p).1.ag,iV (cM r p).1.ah],.agg #[iV (cM r p).2.1.Port,.string (cM r p).2.1.Data,iV (cM r p).2.1.aU,iV (cM r p).2.1.ap],iV (cM r p).2.2.1,iV (cM r p).2.2.2]) (fun _=>[]) (fun z=>[aj.ls z.1 (cM r p).1.ao,aj.ls z.2.1 (cM r p).1.Things,aj.ls z.2.2.1 (cM r p).1.Held,aj.ls z.2.2.2 (cM r p).1.Notes]):=by
 have cB:=H.bD 0 rfl
 have cd:=H.bD 1 rfl
 have df:=H.bD 2 rfl
 have cC:=H.bD 3 rfl
 have bw:=hk.wl;have bt:=hk.tl;have bh:=hk.hl;have bn:=hk.nl;have ya:=hk.w0;have yb:=hk.w1;have yc:=hk.t0;have yd:=hk.t1
 have mn0:=jj r p 2 1
 refine R.bE [(0,.agg #[a8,aW,aX,aZ,iV r.ag,iV r.ah]),(1,.agg #[iV p.ay,iV p.Slot])] Tryz.func40 O O O O H<|U ?_
 refine R.s O (s.box O O O) fun b1=>?_
 refine R.s O (s.box O O O) fun b2=>?_
 refine R.s O (s.alloc cw O O) fun b3=>?_
 refine R.s O (s.alloc dO O O) fun b4=>U ?_
 refine R.c (q.call NP O O (fun w hw=>(AA _ _ _ _ r p 2 1 w (hw.bz 0 O) (hw.bz 1 O) (hw.bz 2 O) (hw.bz 3 O) af af ae))) O<|U ?_
 refine R.s O (s.alloc br O O) fun b5=>?_
 refine R.s O (s.st 0 _ O O O O (.inl aH) O O O O) fun _=>U ?_
 by_cases h1:0<(bQ r p 2 1).2.2
 .
  refine U ?_
  refine R.s O (s.st 2 _ O O O O (.inl ak) O O O O) fun _=>?_
  refine R.s O (s.st 1 _ O O O O (.inl cj) O O O O) fun _=>U ?_
  refine R.iY ap aA Held Note ?_
  have hz:cM r p=((⟨[],[],[],[],0,0⟩:av),(⟨0,⟨#[]⟩,0,0⟩:Note),0,(bQ r p 2 1).2.2):=by (unfold cM;rw [if_neg ae];(try rfl))
  rw [hz]
  exact R.w4 ((nS),nS,nS,(nS)) [5] dh O Tryz.results40 (RV.cell 2 O O ak) (RV.cell 1 O O cj) (RV.tmp O) (RV.tmp O) O O O (ug O O O O)
 have mq:(bQ r p 2 1).2.2=0:=ae
 have mz:=lp mq
 refine U ?_
 refine R.s O (s.aT nE bm _ _ _ O O O FW O O (fun w own hw H=>pn a8 aW aX aZ r w own H af) O) ?_
 rintro ⟨z1,z2,z3,z4⟩
 dsimp only
 refine R.s O (s.dE 8 _ O O O (fun _ _=>rfl) (.inl ak) (fun w hw=>(dx (hw.row 0 O) (hw.row 1 O) (hw.row 2 O) (hw.row 3 O) O O)) O O O) fun _=>U ?_
 refine R.loop (fun k:Nat=>[(2,.pointer (some ⟨b1,0,none⟩)),(3,.pointer (some ⟨b2,0,none⟩)),(4,.pointer (some ⟨b3,0,none⟩)),(5,.pointer (some ⟨b4,0,none⟩)),(8,.pointer (some ⟨b5,0,none⟩)),(11,iV (k:Int))]) (fun k:Nat=>[aj.row 126 z1 r.ao,aj.row 103 z2 r.Things,aj.row 124 z3 r.Held,aj.row 91 z4 r.Notes,aj.box b5 [iV (bQ r p 2 1).1.ID,iV (bQ r p 2 1).1.aA,iV (bQ r p 2 1).1.Rights,iV (bQ r p 2 1).1.aU,iV (bQ r p 2 1).1.From] 126,aj.box b4 [iV 0,.string (⟨#[]⟩),iV 0,iV 0] 91,aj.box b3 t8 48,aj.box b2 (jO p) 32,aj.box b1 [z1,z2,z3,z4,iV r.ag,iV r.ah] 48,aj.held w own]) (fun k:Nat=>[aj.ls a8 r.ao,aj.ls aW r.Things,aj.ls aX r.Held,aj.ls aZ r.Notes]) (fun k:Nat=>k<=r.Notes.length /\ ∀ (j:Nat) y,j<k->r.Notes[j]? = some y->(y.Port==(bQ r p 2 1).1.aA)=false) (fun k:Nat=>r.Notes.length-k) 0 O (by exact ⟨ae,fun j x hj=>absurd hj (Nat.not_lt_zero _)⟩) (sF O) (eI nD bm O) ?_
 rintro k ⟨hk1,HA⟩
 refine U ?_
 by_cases h2:k<r.Notes.length
 .
  refine U ?_
  obtain ⟨x1,hx1⟩:=gE r.Notes k
  refine R.q (q.idx (i:=k) (bH 3 O) O O dI O hx1) O<|R.q (q.dj (ds:=mP x1) (bH 3 O) hx1 O cj O) O<|R.s O (s.alloc dO O O) fun b6=>?_
  refine R.s O (s.st 0 _ O O O O (.inl cj) O O O O) fun _=>U ?_
  by_cases h3:x1.Port=(bQ r p 2 1).1.aA
  .
   refine U ?_
   have hix:idxOf (fun n:Note=>n.Port==(bQ r p 2 1).1.aA) r.Notes=(k:Int):=idxOf_hit hx1 (beq_iff_eq.2 ae) HA
   have hfs:=free_spec r.Held p.ay
   refine U ?_
   by_cases h4:0<x1.ap
   .
    refine U ?_
    refine R.c (q.call Xl O O (fun w hw=>(LS _ r.Held p.ay w (hw.row 3 O) (by exact hI.good)))) O<|U ?_
    by_cases h5:gq r.Held p.ay<0
    .
     refine U ?_
     refine R.s O (s.st 7 _ O O O O (.inl ak) O O O O) fun _=>?_
     refine R.s O (s.st 6 _ O O O O (.inl cj) O O O O) fun _=>U ?_
     refine R.iY ap aA Held Note ?_
     have hz:cM r p=((⟨[],[],[],[],0,0⟩:av),(⟨0,⟨#[]⟩,0,0⟩:Note),0,9):=by (unfold cM;rw [if_pos mq,hix,Int.toNat_natCast,hx1,decide_eq_true ae];dsimp only;rw [if_pos ae,if_pos ae];rfl)
     rw [hz]
     exact R.w4 ((nS),nS,nS,(nS)) [10] dh O Tryz.results40 (RV.cell 7 O O ak) (RV.cell 6 O O cj) (RV.tmp O) (RV.tmp O) O O O (ug O O O O)
    refine U ?_
    refine R.s O (s.pre (fun _ hw=>hw.bu 3 _ O O) (s.aT nD [0] _ _ _ O O O zE O O (fun w own hw H=>nC z3 r.Held (⟨p.ay,gq r.Held p.ay⟩:Place) x1.ap w own H ae (by exact hI.good)) O)) fun z5=>U ?_
    refine R.s O (s.dE 9 _ O O O (fun w hw=>Sl.bF (hw.row 0 O)) (.inr ⟨eG,rfl⟩) (fun w hw=>(aJ (Sl.one (hw.row 0 O)) bq)) O O O) fun _=>U ?_
    refine R.eA (fuel:=13) j4 O O mixed O<|D.l [0,2,5,7,8] j4 da O<|U ?_
    refine Dm.yy O O (q.aL (r:=((k+1:Nat):Int)) O O) O<|U ?_
    refine D.two (i:=1) (j:=6) O O ?_ ?_
    .
     refine Do.s (s.c (Qt.a (q.ld 9 O O cQ O)) O) (fun _=>(aN j4 da O)) O fun _=>?_
     refine D.l [3] j4 da O<|Dm.yy O O (q.ku (i:=k) (bH 4 O) O O Tryz.underlying46 r9 O ae) O<|U ?_
     refine D.two (i:=4) (j:=6) O O ?_ ?_
     .
      refine Do.s (s.app0 O O (fun w hw=>Sl.to (hw.row 4 O) ae) ea az az O) (fun _=>(aN kK da O)) O fun v1=>?_
      refine D.one (i:=6) O<|Do.s (s.c (Qt.a (q.ld 10 O O cQ O)) O) (fun _=>(aN kK da O)) O fun _=>?_
      refine D.l [9] kK da O<|Dm.yy O O (q.dL (i:=(k+1)) (bH 4 O) O O dI O ae) O<|U ?_
      refine D.one (i:=10) O<|Do.s (s.app 0 _ O O O (fun w hw=>Sl.from (hw.row 5 O) ae) ea az az (fun _=>rfl) O) (fun _=>(aN kK da O)) O fun v2=>?_
      refine D.l [11] kK da O<|U ?_
      refine D.one (i:=12) O<|Do.s (s.dE 10 _ O O O (fun w hw=>Sl.bF (hw.row 0 O)) (.inr ⟨cQ,rfl⟩) (fun w hw=>(aJ (Sl.one (hw.row 0 O)) bq)) O O O) (fun _=>(aN kK da O)) O fun _=>?_
      refine D.done<|R.eA (fuel:=7) km O O mixed O<|D.l [0,1,2] km da O<|U ?_
      refine D.one (i:=3) O<|Do.s (s.dE 8 _ O O O (fun _ _=>rfl) (.inl ak) (fun w hw=>(dx (hw.row 3 O) (hw.row 4 O) (hw.row 1 O) (hw.row 0 O) O O)) O O O) (fun _=>(aN km da O)) O fun _=>?_
      refine D.one (i:=4) O<|Do.s (s.st 7 _ O O O O (.inl cj) O O O O) (fun _=>(aN km da O)) O fun _=>?_
      refine D.l [5,6] km da O<|U ?_
      refine D.done<|R.mp (fun _ hw=>hw.bu 3 _ O O)<|R.mp (fun _ hw=>hw.bu 3 _ O O)<|R.mp (fun _ hw=>hw.bu 1 _ O O)<|R.mp (fun _ hw=>hw.bu 0 _ O O) ?_
      have hz:cM r p=((⟨r.ao,r.Things,eW r.Held (⟨p.ay,gq r.Held p.ay⟩:Place) x1.ap,(r.Notes.take k)++(r.Notes.drop (k+1)),r.ag,r.ah⟩:av),x1,gq r.Held p.ay,0):=by (unfold cM;rw [if_pos mq,hix,Int.toNat_natCast,hx1,decide_eq_true ae];dsimp only;rw [if_pos ae,if_neg ae];rfl)
      rw [hz]
      exact R.w4 (z1,z2,z5,v2) [7] dh O Tryz.results40 (RV.cell 4 O O ak) (RV.cell 3 O O cj) (RV.tmp O) (RV.tmp O) O O O (ug O O O O)
     refine Do.s (s.c (Qt.a (q.ld 9 O O cQ O)) O) (fun _=>(aN j4 da O)) O fun _=>?_
     refine D.l [9] j4 da O<|Dm.yy O O (q.dL (i:=(k+1)) (bH 4 O) O O dI O ae) O<|U ?_
     refine D.one (i:=4) O<|Do.s (s.app0 O O (fun w hw=>Sl.to (hw.row 4 O) ae) ea az az O) (fun _=>(aN kK da O)) O fun v3=>?_
     refine D.one (i:=10) O<|Do.s (s.app 0 _ O O O (fun w hw=>Sl.from (hw.row 5 O) ae) ea az az (fun _=>rfl) O) (fun _=>(aN kK da O)) O fun v4=>?_
     refine D.l [11] kK da O<|U ?_
     refine D.one (i:=12) O<|Do.s (s.dE 10 _ O O O (fun w hw=>Sl.bF (hw.row 0 O)) (.inr ⟨cQ,rfl⟩) (fun w hw=>(aJ (Sl.one (hw.row 0 O)) bq)) O O O) (fun _=>(aN kK da O)) O fun _=>?_
     refine D.done<|R.eA (fuel:=7) km O O mixed O<|D.l [0,1,2] km da O<|U ?_
     refine D.one (i:=3) O<|Do.s (s.dE 8 _ O O O (fun _ _=>rfl) (.inl ak) (fun w hw=>(dx (hw.row 3 O) (hw.row 4 O) (hw.row 1 O) (hw.row 0 O) O O)) O O O) (fun _=>(aN km da O)) O fun _=>?_
     refine D.one (i:=4) O<|Do.s (s.st 7 _ O O O O (.inl cj) O O O O) (fun _=>(aN km da O)) O fun _=>?_
     refine D.l [5,6] km da O<|U ?_
     refine D.done<|R.mp (fun _ hw=>hw.bu 3 _ O O)<|R.mp (fun _ hw=>hw.bu 3 _ O O)<|R.mp (fun _ hw=>hw.bu 1 _ O O)<|R.mp (fun _ hw=>hw.bu 0 _ O O) ?_
     have hz:cM r p=((⟨r.ao,r.Things,eW r.Held (⟨p.ay,gq r.Held p.ay⟩:Place) x1.ap,(r.Notes.take k)++(r.Notes.drop (k+1)),r.ag,r.ah⟩:av),x1,gq r.Held p.ay,0):=by (unfold cM;rw [if_pos mq,hix,Int.toNat_natCast,hx1,decide_eq_true ae];dsimp only;rw [if_pos ae,if_neg ae];rfl)
     rw [hz]
     exact R.w4 (z1,z2,z5,v4) [7] dh O Tryz.results40 (RV.cell 4 O O ak) (RV.cell 3 O O cj) (RV.tmp O) (RV.tmp O) O O O (ug O O O O)
    refine Do.s (s.c (Qt.a (q.ld 9 O O cQ O)) O) (fun _=>(aN j4 da O)) O fun _=>?_
    refine D.l [9] j4 da O<|Dm.yy O O (q.dL (i:=(k+1)) (bH 4 O) O O dI O ae) O<|U ?_
    refine D.one (i:=1) O<|Do.s (s.c (Qt.a (q.ld 9 O O cQ O)) O) (fun _=>(aN j4 da O)) O fun _=>?_
    refine D.l [3] j4 da O<|Dm.yy O O (q.ku (i:=k) (bH 4 O) O O Tryz.underlying46 r9 O ae) O<|U ?_
    refine D.one (i:=4) O<|Do.s (s.app0 O O (fun w hw=>Sl.to (hw.row 4 O) ae) ea az az O) (fun _=>(aN kK da O)) O fun v5=>?_
    refine D.one (i:=10) O<|Do.s (s.app 0 _ O O O (fun w hw=>Sl.from (hw.row 5 O) ae) ea az az (fun _=>rfl) O) (fun _=>(aN kK da O)) O fun v6=>?_
    refine D.l [11] kK da O<|U ?_
    refine D.one (i:=12) O<|Do.s (s.dE 10 _ O O O (fun w hw=>Sl.bF (hw.row 0 O)) (.inr ⟨cQ,rfl⟩) (fun w hw=>(aJ (Sl.one (hw.row 0 O)) bq)) O O O) (fun _=>(aN kK da O)) O fun _=>?_
    refine D.done<|R.eA (fuel:=7) km O O mixed O<|D.l [0,1,2] km da O<|U ?_
    refine D.one (i:=3) O<|Do.s (s.dE 8 _ O O O (fun _ _=>rfl) (.inl ak) (fun w hw=>(dx (hw.row 3 O) (hw.row 4 O) (hw.row 1 O) (hw.row 0 O) O O)) O O O) (fun _=>(aN km da O)) O fun _=>?_
    refine D.one (i:=4) O<|Do.s (s.st 7 _ O O O O (.inl cj) O O O O) (fun _=>(aN km da O)) O fun _=>?_
    refine D.l [5,6] km da O<|U ?_
    refine D.done<|R.mp (fun _ hw=>hw.bu 3 _ O O)<|R.mp (fun _ hw=>hw.bu 3 _ O O)<|R.mp (fun _ hw=>hw.bu 1 _ O O)<|R.mp (fun _ hw=>hw.bu 0 _ O O) ?_
    have hz:cM r p=((⟨r.ao,r.Things,eW r.Held (⟨p.ay,gq r.Held p.ay⟩:Place) x1.ap,(r.Notes.take k)++(r.Notes.drop (k+1)),r.ag,r.ah⟩:av),x1,gq r.Held p.ay,0):=by (unfold cM;rw [if_pos mq,hix,Int.toNat_natCast,hx1,decide_eq_true ae];dsimp only;rw [if_pos ae,if_neg ae];rfl)
    rw [hz]
    exact R.w4 (z1,z2,z5,v6) [7] dh O Tryz.results40 (RV.cell 4 O O ak) (RV.cell 3 O O cj) (RV.tmp O) (RV.tmp O) O O O (ug O O O O)
   refine U ?_
   refine R.eA (fuel:=13) j4 O O mixed O<|D.l [0,2,5,7,8] j4 bm O<|U ?_
   refine Dm.yy O O (q.aL (r:=((k+1:Nat):Int)) O O) O<|U ?_
   refine D.two (i:=1) (j:=6) O O ?_ ?_
   .
    refine Do.s (s.c (Qt.a (q.ld 9 O O cQ O)) O) (fun _=>(aN j4 bm O)) O fun _=>?_
    refine D.l [3] j4 bm O<|Dm.yy O O (q.ku (i:=k) (bH 4 O) O O Tryz.underlying46 r9 O ae) O<|U ?_
    refine D.two (i:=4) (j:=6) O O ?_ ?_
    .
     refine Do.s (s.app0 O O (fun w hw=>Sl.to (hw.row 4 O) ae) ea az az O) (fun _=>(aN kK bm O)) O fun v7=>?_
     refine D.one (i:=6) O<|Do.s (s.c (Qt.a (q.ld 10 O O cQ O)) O) (fun _=>(aN kK bm O)) O fun _=>?_
     refine D.l [9] kK bm O<|Dm.yy O O (q.dL (i:=(k+1)) (bH 4 O) O O dI O ae) O<|U ?_
     refine D.one (i:=10) O<|Do.s (s.app 0 _ O O O (fun w hw=>Sl.from (hw.row 5 O) ae) ea az az (fun _=>rfl) O) (fun _=>(aN kK bm O)) O fun v8=>?_
     refine D.l [11] kK bm O<|U ?_
     refine D.one (i:=12) O<|Do.s (s.dE 10 _ O O O (fun w hw=>Sl.bF (hw.row 0 O)) (.inr ⟨cQ,rfl⟩) (fun w hw=>(aJ (Sl.one (hw.row 0 O)) bq)) O O O) (fun _=>(aN kK bm O)) O fun _=>?_
     refine D.done<|R.eA (fuel:=7) km O O mixed O<|D.l [0,1,2] km bm O<|U ?_
     refine D.one (i:=3) O<|Do.s (s.dE 8 _ O O O (fun _ _=>rfl) (.inl ak) (fun w hw=>(dx (hw.row 2 O) (hw.row 3 O) (hw.row 4 O) (hw.row 0 O) O O)) O O O) (fun _=>(aN km bm O)) O fun _=>?_
     refine D.one (i:=4) O<|Do.s (s.st 7 _ O O O O (.inl cj) O O O O) (fun _=>(aN km bm O)) O fun _=>?_
     refine D.l [5,6] km bm O<|U ?_
     refine D.done<|R.mp (fun _ hw=>hw.bu 2 _ O O)<|R.mp (fun _ hw=>hw.bu 2 _ O O)<|R.mp (fun _ hw=>hw.bu 2 _ O O)<|R.mp (fun _ hw=>hw.bu 0 _ O O) ?_
     have hz:cM r p=((⟨r.ao,r.Things,r.Held,(r.Notes.take k)++(r.Notes.drop (k+1)),r.ag,r.ah⟩:av),x1,-1,0):=by (unfold cM;rw [if_pos mq,hix,Int.toNat_natCast,hx1,decide_eq_true ae];dsimp only;rw [if_neg ae];rfl)
     rw [hz]
     exact R.w4 (z1,z2,z3,v8) [7] dh O Tryz.results40 (RV.cell 4 O O ak) (RV.cell 3 O O cj) (RV.tmp O) (RV.tmp O) O O O (ug O O O O)
    refine Do.s (s.c (Qt.a (q.ld 9 O O cQ O)) O) (fun _=>(aN j4 bm O)) O fun _=>?_
    refine D.l [9] j4 bm O<|Dm.yy O O (q.dL (i:=(k+1)) (bH 4 O) O O dI O ae) O<|U ?_
    refine D.one (i:=4) O<|Do.s (s.app0 O O (fun w hw=>Sl.to (hw.row 4 O) ae) ea az az O) (fun _=>(aN kK bm O)) O fun v9=>?_
    refine D.one (i:=10) O<|Do.s (s.app 0 _ O O O (fun w hw=>Sl.from (hw.row 5 O) ae) ea az az (fun _=>rfl) O) (fun _=>(aN kK bm O)) O fun v10=>?_
    refine D.l [11] kK bm O<|U ?_
    refine D.one (i:=12) O<|Do.s (s.dE 10 _ O O O (fun w hw=>Sl.bF (hw.row 0 O)) (.inr ⟨cQ,rfl⟩) (fun w hw=>(aJ (Sl.one (hw.row 0 O)) bq)) O O O) (fun _=>(aN kK bm O)) O fun _=>?_
    refine D.done<|R.eA (fuel:=7) km O O mixed O<|D.l [0,1,2] km bm O<|U ?_
    refine D.one (i:=3) O<|Do.s (s.dE 8 _ O O O (fun _ _=>rfl) (.inl ak) (fun w hw=>(dx (hw.row 2 O) (hw.row 3 O) (hw.row 4 O) (hw.row 0 O) O O)) O O O) (fun _=>(aN km bm O)) O fun _=>?_
    refine D.one (i:=4) O<|Do.s (s.st 7 _ O O O O (.inl cj) O O O O) (fun _=>(aN km bm O)) O fun _=>?_
    refine D.l [5,6] km bm O<|U ?_
    refine D.done<|R.mp (fun _ hw=>hw.bu 2 _ O O)<|R.mp (fun _ hw=>hw.bu 2 _ O O)<|R.mp (fun _ hw=>hw.bu 2 _ O O)<|R.mp (fun _ hw=>hw.bu 0 _ O O) ?_
    have hz:cM r p=((⟨r.ao,r.Things,r.Held,(r.Notes.take k)++(r.Notes.drop (k+1)),r.ag,r.ah⟩:av),x1,-1,0):=by (unfold cM;rw [if_pos mq,hix,Int.toNat_natCast,hx1,decide_eq_true ae];dsimp only;rw [if_neg ae];rfl)
    rw [hz]
    exact R.w4 (z1,z2,z3,v10) [7] dh O Tryz.results40 (RV.cell 4 O O ak) (RV.cell 3 O O cj) (RV.tmp O) (RV.tmp O) O O O (ug O O O O)
   refine Do.s (s.c (Qt.a (q.ld 9 O O cQ O)) O) (fun _=>(aN j4 bm O)) O fun _=>?_
   refine D.l [9] j4 bm O<|Dm.yy O O (q.dL (i:=(k+1)) (bH 4 O) O O dI O ae) O<|U ?_
   refine D.one (i:=1) O<|Do.s (s.c (Qt.a (q.ld 9 O O cQ O)) O) (fun _=>(aN j4 bm O)) O fun _=>?_
   refine D.l [3] j4 bm O<|Dm.yy O O (q.ku (i:=k) (bH 4 O) O O Tryz.underlying46 r9 O ae) O<|U ?_
   refine D.one (i:=4) O<|Do.s (s.app0 O O (fun w hw=>Sl.to (hw.row 4 O) ae) ea az az O) (fun _=>(aN kK bm O)) O fun v11=>?_
   refine D.one (i:=10) O<|Do.s (s.app 0 _ O O O (fun w hw=>Sl.from (hw.row 5 O) ae) ea az az (fun _=>rfl) O) (fun _=>(aN kK bm O)) O fun v12=>?_
   refine D.l [11] kK bm O<|U ?_
   refine D.one (i:=12) O<|Do.s (s.dE 10 _ O O O (fun w hw=>Sl.bF (hw.row 0 O)) (.inr ⟨cQ,rfl⟩) (fun w hw=>(aJ (Sl.one (hw.row 0 O)) bq)) O O O) (fun _=>(aN kK bm O)) O fun _=>?_
   refine D.done<|R.eA (fuel:=7) km O O mixed O<|D.l [0,1,2] km bm O<|U ?_
   refine D.one (i:=3) O<|Do.s (s.dE 8 _ O O O (fun _ _=>rfl) (.inl ak) (fun w hw=>(dx (hw.row 2 O) (hw.row 3 O) (hw.row 4 O) (hw.row 0 O) O O)) O O O) (fun _=>(aN km bm O)) O fun _=>?_
   refine D.one (i:=4) O<|Do.s (s.st 7 _ O O O O (.inl cj) O O O O) (fun _=>(aN km bm O)) O fun _=>?_
   refine D.l [5,6] km bm O<|U ?_
   refine D.done<|R.mp (fun _ hw=>hw.bu 2 _ O O)<|R.mp (fun _ hw=>hw.bu 2 _ O O)<|R.mp (fun _ hw=>hw.bu 2 _ O O)<|R.mp (fun _ hw=>hw.bu 0 _ O O) ?_
   have hz:cM r p=((⟨r.ao,r.Things,r.Held,(r.Notes.take k)++(r.Notes.drop (k+1)),r.ag,r.ah⟩:av),x1,-1,0):=by (unfold cM;rw [if_pos mq,hix,Int.toNat_natCast,hx1,decide_eq_true ae];dsimp only;rw [if_neg ae];rfl)
   rw [hz]
   exact R.w4 (z1,z2,z3,v12) [7] dh O Tryz.results40 (RV.cell 4 O O ak) (RV.cell 3 O O cj) (RV.tmp O) (RV.tmp O) O O O (ug O O O O)
  refine U ?_
  refine R.q (q.aL (r:=((k+1:Nat):Int)) O O) O<|U ?_
  refine R.back (k+1) O (by (exact ⟨ae,j8 (p:=fun y:Note=>y.Port==(bQ r p 2 1).1.aA) HA hx1 (beq_eq_false_iff_ne.2 ae)⟩)) ae (sF O) (aN j5 bm O)
 refine U ?_
 refine R.s O (s.st 6 _ O O O O (.inl ak) O O O O) fun _=>?_
 refine R.s O (s.st 5 _ O O O O (.inl cj) O O O O) fun _=>U ?_
 refine R.iY ap aA Held Note ?_
 have hz:cM r p=((⟨[],[],[],[],0,0⟩:av),(⟨0,⟨#[]⟩,0,0⟩:Note),0,5):=by (have hix:idxOf (fun n:Note=>n.Port==(bQ r p 2 1).1.aA) r.Notes = -1:=idxOf_miss ae HA;unfold cM;rw [if_pos mq,hix,show decide ((0:Int) <= -1)=false from rfl];cases r.Notes[(-1:Int).toNat]? <;> rfl)
 rw [hz]
 exact R.w4 ((nS),nS,nS,(nS)) [9] dh O Tryz.results40 (RV.cell 6 O O ak) (RV.cell 5 O O cj) (RV.tmp O) (RV.tmp O) O O O (ug O O O O)
end
section
open Go Go.RowKit
attribute [local irreducible] Run Rg Rq Qt Qa Stp Dg Do Dm cD
theorem AB (a8 aW aX aZ:Value)(r:av)(w:World)(own:List Nat)(H:HN w own [] [aj.ls a8 r.ao,aj.ls aW r.Things,aj.ls aX r.Held,aj.ls aZ r.Notes])(hk:Ok r)(hI:Inv r):RC Tryz.prog 32 #[.agg #[a8,aW,aX,aZ,iV r.ag,iV r.ah]] H (fun z:Value×Value×Value×Value => .agg #[z.1,z.2.1,z.2.2.1,z.2.2.2,iV (aP r).ag,iV (aP r).ah]) (fun _=>[]) (fun z=>[aj.ls z.1 (aP r).ao,aj.ls z.2.1 (aP r).Things,aj.ls z.2.2.1 (aP r).Held,aj.ls z.2.2.2 (aP r).Notes]):=by
 have cB:=H.bD 0 rfl
 have cd:=H.bD 1 rfl
 have df:=H.bD 2 rfl
 have cC:=H.bD 3 rfl
 have bw:=hk.wl;have bt:=hk.tl;have bh:=hk.hl;have bn:=hk.nl;have ya:=hk.w0;have yb:=hk.w1;have yc:=hk.t0;have yd:=hk.t1
 refine R.bE [(0,.agg #[a8,aW,aX,aZ,iV r.ag,iV r.ah])] Tryz.func32 O O O O H<|U ?_
 refine R.s O (s.box O O O) fun b1=>?_
 refine R.s O (s.alloc cw O O) fun b2=>U ?_
 refine R.loop (fun g_:Nat×Value×(List ap)=>[(1,.pointer (some ⟨b1,0,none⟩)),(2,.pointer (some ⟨b2,0,none⟩)),(3,iV (g_.1:Int))]) (fun g_=>[aj.box b2 t8 48,aj.box b1 [g_.2.1,aW,aX,aZ,iV r.ag,iV r.ah] 48,aj.held w own]) (fun g_=>[aj.ls g_.2.1 g_.2.2,aj.ls a8 r.ao,aj.ls aW r.Things,aj.ls aX r.Held,aj.ls aZ r.Notes]) (fun g_=>g_.1<=r.Notes.length/\g_.2.2=gG (r.Notes.take g_.1) r.ao) (fun g_=>r.Notes.length-g_.1) (0,a8,r.ao) O (by exact ⟨ae,rfl⟩) (sF O) (eI [0,1,2] [0,0,1,2,3] O) ?_
 rintro ⟨j,vw,ws⟩ ⟨hj1,HW⟩
 dsimp only at *
 have hws:ws.length<=2000:=by rw [HW];exact Nat.le_trans (tq _ _) hk.wl
 have hwt:cS ws:=by rw [HW];exact qV _ _ hI.tree
 refine U ?_
 by_cases h1:j<r.Notes.length
 .
  refine U ?_
  obtain ⟨x1,hx1⟩:=gE r.Notes j
  refine R.q (q.idx (i:=j) (cb 4 O) O O dI O hx1) O<|R.q (q.ew (j':=3) (cb 4 O) hx1 O r6 O) O<|R.q (q.gh (cb 4 O) hx1 O bg O) O ?_
  by_cases h2:0<x1.ap
  .
   refine U ?_
   refine R.eA (fuel:=11) [0,2] O O mixed O<|D.l [0,2,4] [0,2] da O<|U ?_
   refine D.two (i:=1) (j:=3) O O ?_ ?_
   .
    refine Do.s (s.c (Qt.a (q.ld 1 O O eF O)) O) (fun _=>(aN [0,2] da O)) O fun _=>?_
    refine D.one (i:=3) O<|Do.s (s.c (Qt.a (q.ld 1 O O cQ O)) O) (fun _=>(aN [0,2] da O)) O fun _=>?_
    refine D.l [5,6,7] [0,2] da O<|Dm.yy O O (q.idx (i:=j) (cb 4 O) O O dI O hx1) O<|Dm.yy O O (q.ew (j':=3) (cb 4 O) hx1 O r6 O) O<|Dm.yy O O (q.gh (cb 4 O) hx1 O bg O) O<|U ?_
    refine D.one (i:=8) O<|Do.s (s.oL J4 O O (fun w hw=>mF _ ws x1.ap w (hw.bz 0 O) ae af) O) (fun _=>(aN [1,3] da O)) O fun v1=>?_
    refine D.l [9] [1,3] da O<|U ?_
    refine D.one (i:=10) O<|Do.s (s.dE 2 _ O O O (fun w hw=>Sl.bF (hw.row 0 O)) (.inr ⟨eF,rfl⟩) (fun w hw=>(aJ (Sl.one (hw.row 0 O)) bq)) O O O) (fun _=>(aN [1,3] da O)) O fun _=>?_
    refine D.done<|U ?_
    refine R.q (q.aL (r:=((j+1:Nat):Int)) O O) O<|U ?_
    refine R.mp (fun _ hw=>hw.bu 0 _ O O)<|R.back (j+1,v1,(without ws x1.ap)) O (by (exact ⟨ae,by rw [mZ hx1,if_pos ae,HW]⟩)) aO (sF O) (aN [0,1,2] [0,2,3,4,5] O)
   refine Do.s (s.c (Qt.a (q.ld 1 O O cQ O)) O) (fun _=>(aN [0,2] da O)) O fun _=>?_
   refine D.l [5,6,7] [0,2] da O<|Dm.yy O O (q.idx (i:=j) (cb 4 O) O O dI O hx1) O<|Dm.yy O O (q.ew (j':=3) (cb 4 O) hx1 O r6 O) O<|Dm.yy O O (q.gh (cb 4 O) hx1 O bg O) O<|U ?_
   refine D.one (i:=1) O<|Do.s (s.c (Qt.a (q.ld 1 O O eF O)) O) (fun _=>(aN [0,2] da O)) O fun _=>?_
   refine D.one (i:=8) O<|Do.s (s.oL J4 O O (fun w hw=>mF _ ws x1.ap w (hw.bz 0 O) ae af) O) (fun _=>(aN [1,3] da O)) O fun v2=>?_
   refine D.l [9] [1,3] da O<|U ?_
   refine D.one (i:=10) O<|Do.s (s.dE 2 _ O O O (fun w hw=>Sl.bF (hw.row 0 O)) (.inr ⟨eF,rfl⟩) (fun w hw=>(aJ (Sl.one (hw.row 0 O)) bq)) O O O) (fun _=>(aN [1,3] da O)) O fun _=>?_
   refine D.done<|U ?_
   refine R.q (q.aL (r:=((j+1:Nat):Int)) O O) O<|U ?_
   refine R.mp (fun _ hw=>hw.bu 0 _ O O)<|R.back (j+1,v2,(without ws x1.ap)) O (by (exact ⟨ae,by rw [mZ hx1,if_pos ae,HW]⟩)) aO (sF O) (aN [0,1,2] [0,2,3,4,5] O)
  refine U ?_
  refine R.q (q.aL (r:=((j+1:Nat):Int)) O O) O<|U ?_
  refine R.back (j+1,vw,ws) O (by (exact ⟨ae,by rw [mZ hx1,if_neg ae,HW]⟩)) aO (sF O) (aN [0,1,2] da O)
 refine U ?_
 have hwq:ws=gG r.Notes r.ao:=by rw [HW,List.take_of_length_le ae]
 have hok:Ok (⟨ws,r.Things,r.Held,[],r.ag,r.ah⟩:av):=⟨hws,hk.tl,hk.hl,Nat.zero_le _,by rw [hwq];exact vD _ _ hk.ri,hk.w0,hk.w1,hk.t0,hk.t1⟩
 have hqp:Pre (⟨ws,r.Things,r.Held,[],r.ag,r.ah⟩:av):=by rw [hwq];exact hI.BX
 refine U ?_
 refine R.s O (s.st 1 _ O O O O (.inr ⟨cQ,rfl⟩) O O O O) fun _=>U ?_
 refine R.s O (s.pre (fun _ hw=>hw.Hl (α:=Note)) (s.aT [0,1,2] [1,3,4,0] _ _ _ O O O NM O O (fun w own hw H=>tQ vw aW aX (nS) (⟨ws,r.Things,r.Held,[],r.ag,r.ah⟩:av) w own H af af) O)) ?_
 rintro ⟨z1,z2,z3,z4⟩
 dsimp only
 refine R.s O (s.dE 0 _ O O O (fun _ _=>rfl) (.inl ak) (fun w hw=>(dx (hw.bz 0 O) (hw.bz 1 O) (hw.bz 2 O) (hw.bz 3 O) O O)) O O O) fun _=>U ?_
 have hz:aP r=(dt (⟨ws,r.Things,r.Held,[],r.ag,r.ah⟩:av)):=by (unfold aP;rw [hwq])
 rw [hz]
 exact R.w1 (z1,z2,z3,z4) [2] bm O Tryz.results32 (RV.cell 0 O O ak) O O O O
theorem Km (a8 aW aX aZ:Value)(r:av)(a:fL)(w:World)(own:List Nat)(H:HN w own [] [aj.ls a8 r.ao,aj.ls aW r.Things,aj.ls aX r.Held,aj.ls aZ r.Notes])(hk:Ok r)(hI:Inv r):RC Tryz.prog 12 #[.agg #[a8,aW,aX,aZ,iV r.ag,iV r.ah],.agg #[.string a.Kind,.string a.S,iV a.P.ay,iV a.P.Slot,iV a.Q.ay,iV a.Q.Slot,iV a.A,iV a.B,iV a.N,.int .u64 a.K,a.cv]] H (fun z:Value×Value×Value×Value => .tuple #[.agg #[z.1,z.2.1,z.2.2.1,z.2.2.2,iV (cp r a).1.ag,iV (cp r a).1.ah],iV (cp r a).2]) (fun _=>[]) (fun z=>[aj.ls z.1 (cp r a).1.ao,aj.ls z.2.1 (cp r a).1.Things,aj.ls z.2.2.1 (cp r a).1.Held,aj.ls z.2.2.2 (cp r a).1.Notes]):=by
 have cB:=H.bD 0 rfl
 have cd:=H.bD 1 rfl
 have df:=H.bD 2 rfl
 have cC:=H.bD 3 rfl
 refine R.bE [(0,.agg #[a8,aW,aX,aZ,iV r.ag,iV r.ah]),(1,.agg #[.string a.Kind,.string a.S,iV a.P.ay,iV a.P.Slot,iV a.Q.ay,iV a.Q.Slot,iV a.A,iV a.B,iV a.N,.int .u64 a.K,a.cv])] Tryz.func12 O O O O H<|U ?_
 refine R.s O (s.box O O O) fun b1=>?_
 refine R.s O (s.box O O O) fun b2=>?_
 refine R.s O (s.alloc cw O O) fun b3=>U ?_
 by_cases h1:a.Kind=⟨#[109,97,107,101]⟩
 .
  refine R.q (q.jG O O h1) O<|U ?_
  refine R.s O (s.aT bm bm _ _ _ O O O WV O O (fun w own hw H=>LV a8 aW aX aZ r a.P a.A w own H af af) O) ?_
  rintro ⟨z1,z2,z3,z4⟩
  dsimp only
  refine U ?_
  refine R.s O (s.dE 0 _ O O O (fun _ _=>rfl) (.inl ak) (fun w hw=>(dx (hw.bz 0 O) (hw.bz 1 O) (hw.bz 2 O) (hw.bz 3 O) O O)) O O O) fun _=>U ?_
  have hz:cp r a=(((cE r a.P a.A).1),(cE r a.P a.A).2):=by (unfold cp;(repeat' split) <;> rfl)
  rw [hz]
  exact R.w2 (z1,z2,z3,z4) [3] bm O Tryz.results12 (RV.cell 0 O O ak) (RV.tmp O) O O O (cq O O)
 refine R.q (q.jH O O h1) O<|U ?_
 by_cases h2:a.Kind=⟨#[103,105,118,101]⟩
 .
  refine R.q (q.jG O O h2) O<|U ?_
  refine R.s O (s.aT bm bm _ _ _ O O O WW O O (fun w own hw H=>LW a8 aW aX aZ r a.P a.Q a.A a.B w own H af af) O) ?_
  rintro ⟨z5,z6,z7,z8⟩
  dsimp only
  refine U ?_
  refine R.s O (s.dE 0 _ O O O (fun _ _=>rfl) (.inl ak) (fun w hw=>(dx (hw.bz 0 O) (hw.bz 1 O) (hw.bz 2 O) (hw.bz 3 O) O O)) O O O) fun _=>U ?_
  have hz:cp r a=(((dq r a.P a.Q a.A a.B).1),(dq r a.P a.Q a.A a.B).2):=by (unfold cp;(repeat' split) <;> first|rfl|(exfalso;simp_all;done)|(simp_all;done))
  rw [hz]
  exact R.w2 (z5,z6,z7,z8) [3] bm O Tryz.results12 (RV.cell 0 O O ak) (RV.tmp O) O O O (cq O O)
 refine R.q (q.jH O O h2) O<|U ?_
 by_cases h3:a.Kind=⟨#[109,111,118,101]⟩
 .
  refine R.q (q.jG O O h3) O<|U ?_
  refine R.s O (s.aT bm bm _ _ _ O O O WX O O (fun w own hw H=>LX a8 aW aX aZ r a.P a.A w own H af af) O) ?_
  rintro ⟨z9,l7,mh,z12⟩
  dsimp only
  refine U ?_
  refine R.s O (s.dE 0 _ O O O (fun _ _=>rfl) (.inl ak) (fun w hw=>(dx (hw.bz 0 O) (hw.bz 1 O) (hw.bz 2 O) (hw.bz 3 O) O O)) O O O) fun _=>U ?_
  have hz:cp r a=(((fu r a.P a.A).1),(fu r a.P a.A).2):=by (unfold cp;(repeat' split) <;> first|rfl|(exfalso;simp_all;done)|(simp_all;done))
  rw [hz]
  exact R.w2 (z9,l7,mh,z12) [3] bm O Tryz.results12 (RV.cell 0 O O ak) (RV.tmp O) O O O (cq O O)
 refine R.q (q.jH O O h3) O<|U ?_
 by_cases h4:a.Kind=⟨#[100,114,111,112]⟩
 .
  refine R.q (q.jG O O h4) O<|U ?_
  refine R.s O (s.aT bm bm _ _ _ O O O WY O O (fun w own hw H=>LY a8 aW aX aZ r a.P w own H af af) O) ?_
  rintro ⟨o6,xX,Hb,CG⟩
  dsimp only
  refine U ?_
  refine R.s O (s.dE 0 _ O O O (fun _ _=>rfl) (.inl ak) (fun w hw=>(dx (hw.bz 0 O) (hw.bz 1 O) (hw.bz 2 O) (hw.bz 3 O) O O)) O O O) fun _=>U ?_
  have hz:cp r a=(((fM r a.P).1),(fM r a.P).2):=by (unfold cp;(repeat' split) <;> first|rfl|(exfalso;simp_all;done)|(simp_all;done))
  rw [hz]
  exact R.w2 (o6,xX,Hb,CG) [3] bm O Tryz.results12 (RV.cell 0 O O ak) (RV.tmp O) O O O (cq O O)
 refine R.q (q.jH O O h4) O<|U ?_
 by_cases h5:a.Kind=⟨#[114,101,118,111,107,101]⟩
 .
  refine R.q (q.jG O O h5) O<|U ?_
  refine R.s O (s.aT bm bm _ _ _ O O O WZ O O (fun w own hw H=>G5 a8 aW aX aZ r a.P w own H af af) O) ?_
  rintro ⟨z17,xk,Bb,z20⟩
  dsimp only
  refine U ?_
  refine R.s O (s.dE 0 _ O O O (fun _ _=>rfl) (.inl ak) (fun w hw=>(dx (hw.bz 0 O) (hw.bz 1 O) (hw.bz 2 O) (hw.bz 3 O) O O)) O O O) fun _=>U ?_
  have hz:cp r a=(((dF r a.P).1),(dF r a.P).2):=by (unfold cp;(repeat' split) <;> first|rfl|(exfalso;simp_all;done)|(simp_all;done))
  rw [hz]
  exact R.w2 (z17,xk,Bb,z20) [3] bm O Tryz.results12 (RV.cell 0 O O ak) (RV.tmp O) O O O (cq O O)
 refine R.q (q.jH O O h5) O<|U ?_
 by_cases h6:a.Kind=⟨#[119,114,105,116,101]⟩
 .
  refine R.q (q.jG O O h6) O<|U ?_
  refine R.s O (s.aT bm bm _ _ _ O O O W2 O O (fun w own hw H=>I8 a8 aW aX aZ r a.P a.S w own H af af) O) ?_
  rintro ⟨z21,z22,z23,z24⟩
  dsimp only
  refine U ?_
  refine R.s O (s.dE 0 _ O O O (fun _ _=>rfl) (.inl ak) (fun w hw=>(dx (hw.bz 0 O) (hw.bz 1 O) (hw.bz 2 O) (hw.bz 3 O) O O)) O O O) fun _=>U ?_
  have hz:cp r a=(((dV r a.P a.S).1),(dV r a.P a.S).2):=by (unfold cp;(repeat' split) <;> first|rfl|(exfalso;simp_all;done)|(simp_all;done))
  rw [hz]
  exact R.w2 (z21,z22,z23,z24) [3] bm O Tryz.results12 (RV.cell 0 O O ak) (RV.tmp O) O O O (cq O O)
 refine R.q (q.jH O O h6) O<|U ?_
 by_cases h7:a.Kind=⟨#[115,101,110,100]⟩
 .
  refine R.q (q.jG O O h7) O<|U ?_
  refine R.s O (s.aT bm bm _ _ _ O O O W3 O O (fun w own hw H=>LZ a8 aW aX aZ r a.P a.S a.A a.B w own H af af) O) ?_
  rintro ⟨z25,z26,z27,z28⟩
  dsimp only
  refine U ?_
  refine R.s O (s.dE 0 _ O O O (fun _ _=>rfl) (.inl ak) (fun w hw=>(dx (hw.bz 0 O) (hw.bz 1 O) (hw.bz 2 O) (hw.bz 3 O) O O)) O O O) fun _=>U ?_
  have hz:cp r a=(((cL r a.P a.S a.A a.B).1),(cL r a.P a.S a.A a.B).2):=by (unfold cp;(repeat' split) <;> first|rfl|(exfalso;simp_all;done)|(simp_all;done))
  rw [hz]
  exact R.w2 (z25,z26,z27,z28) [3] bm O Tryz.results12 (RV.cell 0 O O ak) (RV.tmp O) O O O (cq O O)
 refine R.q (q.jH O O h7) O<|U ?_
 by_cases h8:a.Kind=⟨#[116,97,107,101]⟩
 .
  refine R.q (q.jG O O h8) O<|U ?_
  refine R.s O (s.aT bm bm _ _ _ O O O W4 O O (fun w own hw H=>L5 a8 aW aX aZ r a.P w own H af af) O) ?_
  rintro ⟨z29,z30,z31,z32⟩
  dsimp only
  refine U ?_
  refine R.s O (s.alloc cw O O) fun b4=>?_
  refine R.s O (s.alloc dO O O) fun b5=>?_
  refine R.s O (s.dE 1 _ O O O (fun _ _=>rfl) (.inl ak) (fun w hw=>(dx (hw.bz 0 O) (hw.bz 1 O) (hw.bz 2 O) (hw.bz 3 O) O O)) O O O) fun _=>?_
  refine R.s O (s.st 0 _ O O O O (.inl cj) O O O O) fun _=>U ?_
  refine R.s O (s.dE 2 _ O O O (fun _ _=>rfl) (.inl ak) (fun w hw=>(dx (hw.bz 0 O) (hw.bz 1 O) (hw.bz 2 O) (hw.bz 3 O) O O)) O O O) fun _=>U ?_
  have hz:cp r a=(((cM r a.P).1),(cM r a.P).2.2.2):=by (unfold cp;(repeat' split) <;> first|rfl|(exfalso;simp_all;done)|(simp_all;done))
  rw [hz]
  exact R.w2 (z29,z30,z31,z32) [5] bm O Tryz.results12 (RV.cell 2 O O ak) (RV.tmp O) O O O (cq O O)
 refine R.q (q.jH O O h8) O<|U ?_
 refine R.s O (s.dE 0 _ O O O (fun _ _=>rfl) (.inl ak) (fun w hw=>(dx (hw.bz 0 O) (hw.bz 1 O) (hw.bz 2 O) (hw.bz 3 O) O O)) O O O) fun _=>U ?_
 have hz:cp r a=(r,0):=by (unfold cp;(repeat' split) <;> first|rfl|(exfalso;simp_all;done)|(simp_all;done))
 rw [hz]
 exact R.w2 (a8,aW,aX,aZ) [3] bm O Tryz.results12 (RV.cell 0 O O ak) (RV.tmp O) O O O (cq O O)
end
end Go.Proofs.YtnmpibjlnninjaaGreatDoor
