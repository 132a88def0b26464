import Derived.Test.YtnmpibjlnninjaaGreatDoorKT27
namespace Go.Proofs.YtnmpibjlnninjaaGreatDoor
set_option linter.unusedVariables false
set_option linter.unusedSimpArgs false
set_option maxRecDepth 100000
set_option maxHeartbeats 90000000
section
open Go Go.RowKit
attribute [local irreducible] Run Rg Rq Qt Qa Stp Dg Do Dm bN
theorem sG (aW aS aT aU:Value)(r:aA)(w:World)(own:List Nat)(H:HN w own [] [ah.ls aW r.aj,ah.ls aS r.Things,ah.ls aT r.Held,ah.ls aU r.Notes])(hk:Ok r)(hP:Pre r):RS Tryz.prog 85 #[.agg #[aW,aS,aT,aU,iV r.ag,iV r.ai]] H (dF r) (fun s (z:Value×Value×Value×Value) => .agg #[z.1,z.2.1,z.2.2.1,z.2.2.2,iV s.ag,iV s.ai]) (fun _ _=>[]) (fun s z=>[ah.ls z.1 s.aj,ah.ls z.2.1 s.Things,ah.ls z.2.2.1 s.Held,ah.ls z.2.2.2 s.Notes]):=by
 have bS:=H.aZ 0 rfl
 have bH:=H.aZ 1 rfl
 have cu:=H.aZ 2 rfl
 have bT:=H.aZ 3 rfl
 refine R.eN H ?_
 refine R.nb fun b1=>?_
 refine R.nb fun b2=>?_
 refine R.loop (fun g_:aA×Value×Value×Value×Value=>[(1,pV b1),(2,pV b2)]) (fun g_=>[ah.box b2 sR 48,ah.box b1 [g_.2.1,g_.2.2.1,g_.2.2.2.1,g_.2.2.2.2,iV g_.1.ag,iV g_.1.ai] 48,ah.held w own]) (fun g_=>[ah.ls g_.2.1 g_.1.aj,ah.ls g_.2.2.1 g_.1.Things,ah.ls g_.2.2.2.1 g_.1.Held,ah.ls g_.2.2.2.2 g_.1.Notes,ah.ls aW r.aj,ah.ls aS r.Things,ah.ls aT r.Held,ah.ls aU r.Notes]) (fun g_=>Ok g_.1/\Pre g_.1/\dF g_.1=dF r) (fun g_=>g_.1.Notes.length) (r,aW,aS,aT,aU) O (by exact ⟨hk,hP,rfl⟩) (sF O) (dE [0,1,2] [0,1,2,3,0,1,2,3] O) ?_
 rintro ⟨m,ze,C9,CN,CO⟩ ⟨hok,hpm,HS⟩
 dsimp only at *
 have o1:=hok.wl;have o2:=hok.tl;have o3:=hok.hl;have o4:=hok.nl;have hmt:=hpm.tree
 refine U ?_
 refine R.q (q.Bu Uw O (fun w hw=>kB (Sl.Bt (hw.cq 0 O)) (kB O (kB O Bs))) O) O<|R.nb fun b3=>?_
 refine R.s O (s.nE RZ O O (fun w hw=>FD _ m.aj w (hw.cq 0 O) af) O) fun v1=>U ?_
 refine R.row0 (α:=av) 103<|R.loop (fun g_:Nat×Value×(List av)=>[(1,pV b1),(2,pV b2),(3,pV b3),(4,v1),(5,iV (g_.1:Int))]) (fun g_=>[ah.row 103 g_.2.1 g_.2.2,ah.row 3 v1 (a8 m.aj),ah.box b3 [ze,g_.2.1,nS,nS,iV m.ag,iV m.ai] 48,ah.box b2 sR 48,ah.box b1 [ze,C9,CN,CO,iV m.ag,iV m.ai] 48,ah.held w own]) (fun g_=>[ah.ls ze m.aj,ah.ls C9 m.Things,ah.ls CN m.Held,ah.ls CO m.Notes,ah.ls aW r.aj,ah.ls aS r.Things,ah.ls aT r.Held,ah.ls aU r.Notes]) (fun g_=>g_.1<=m.Things.length/\g_.2.2=(m.Things.take g_.1).filter (fun t => !!decide (t.ID∈(a8 m.aj)))) (fun g_=>m.Things.length-g_.1) (0,nS,[]) O (by exact ⟨ae,bC⟩) (sF O) (dE mH bL O) ?_
 rintro ⟨j,vt,ts⟩ ⟨hj1,HT⟩
 dsimp only at *
 have htl:ts.length<=j:=by rw [HT];exact ve _ _ _
 refine U ?_
 refine C (j<m.Things.length) ?_ ?_ <;> intro h1
 .
  obtain ⟨x1,hx1⟩:=gE m.Things j
  refine U ?_
  rcases Bool.eq_false_or_eq_true (decide (x1.ID∈(a8 m.aj))) with h2|h2
  .
   refine R.kc O O (fun w hw=>cv (congrArg Value.bool h2) (nj _ (a8 m.aj) x1.ID w (hw.row 1 O)))<|U ?_
   refine R.dC (fuel:=11) [1,3,4,5] O O mixed O<|D.l [0,2,3,4,5,6] [1,3,4,5] bL O<|U ?_
   refine D.two (i:=1) (j:=7) O O ?_ ?_
   .
    refine Do.k [1,3,4,5] bL (q.ld 2 O O kG O) ?_
    refine D.p 7 O sO bL (s.bs (l:=([x1]:List av)) kv gT O O O O O O O) fun b4=>?_
    refine D.p 8 O sO bL (s.app 1 _ O O O (cm 0 O) oS aE aE (fun _=>rfl) O) fun v2=>?_
    refine D.l [9] sO bL O<|U ?_
    refine D.p 10 O sO bL (s.lr 3 _ O O O (fun w hw=>Sl.cL (hw.row 1 O)) (.inr ⟨kG,rfl⟩) (fun w hw=>br (Sl.one (hw.row 1 O)) bV) O O O) fun _=>?_
    refine D.done<|U ?_
    refine R.back (j+1,v2,(ts++([x1]))) O (by exact ⟨ae,by rw [mE hx1 (by simpa using ‹decide (_∈a8 m.aj)=true›),HT]⟩) aG (sF O) (ck Dc bL O)
   refine Do.p sO bL (s.bs (l:=([x1]:List av)) kv gT O O O O O O O) fun b5=>?_
   refine D.k 1 O sO bL (q.ld 3 O O kG O) ?_
   refine D.p 8 O sO bL (s.app 1 _ O O O (cm 0 O) oS aE aE (fun _=>rfl) O) fun v3=>?_
   refine D.l [9] sO bL O<|U ?_
   refine D.p 10 O sO bL (s.lr 3 _ O O O (fun w hw=>Sl.cL (hw.row 1 O)) (.inr ⟨kG,rfl⟩) (fun w hw=>br (Sl.one (hw.row 1 O)) bV) O O O) fun _=>?_
   refine D.done<|U ?_
   refine R.back (j+1,v3,(ts++([x1]))) O (by exact ⟨ae,by rw [mE hx1 (by simpa using ‹decide (_∈a8 m.aj)=true›),HT]⟩) aG (sF O) (ck Dc bL O)
  refine R.kc O O (fun w hw=>cv (congrArg Value.bool h2) (nj _ (a8 m.aj) x1.ID w (hw.row 1 O)))<|U ?_
  refine R.back (j+1,vt,ts) O (by exact ⟨ae,by rw [vd hx1 (by simpa using ‹decide (_∈a8 m.aj)=false›),HT]⟩) aG (sF O) (ck mH bL O)
 refine R.row0 (α:=Held) 124<|R.loop (fun g_:Nat×Value×(List Held)=>[(1,pV b1),(2,pV b2),(3,pV b3),(4,v1),(7,iV (g_.1:Int))]) (fun g_=>[ah.row 124 g_.2.1 g_.2.2,ah.row 103 vt ts,ah.row 3 v1 (a8 m.aj),ah.box b3 [ze,vt,g_.2.1,nS,iV m.ag,iV m.ai] 48,ah.box b2 sR 48,ah.box b1 [ze,C9,CN,CO,iV m.ag,iV m.ai] 48,ah.held w own]) (fun g_=>[ah.ls ze m.aj,ah.ls C9 m.Things,ah.ls CN m.Held,ah.ls CO m.Notes,ah.ls aW r.aj,ah.ls aS r.Things,ah.ls aT r.Held,ah.ls aU r.Notes]) (fun g_=>g_.1<=m.Held.length/\g_.2.2=(m.Held.take g_.1).filter (fun h => !decide (bY m.aj h.ak<0))) (fun g_=>m.Held.length-g_.1) (0,nS,[]) O (by exact ⟨ae,bC⟩) (sF O) (dE jF bL O) ?_
 rintro ⟨i,vh,hs⟩ ⟨hi1,HH⟩
 dsimp only at *
 have Z8:hs.length<=i:=by rw [HH];exact ve _ _ _
 refine U ?_
 refine C (i<m.Held.length) ?_ ?_ <;> intro h3
 .
  obtain ⟨x2,hx2⟩:=gE m.Held i
  rcases dv m.aj x2.ak with ⟨eW,CK⟩ | ⟨vP,lz,eW,ub,QS⟩
  .
   refine R.cG O mixed ao<|U ?_
   refine Q.c (q.call Cp O O (fun w hw=>cv (congrArg (Value.int .i64) eW) (fQ _ m.aj x2.ak w (hw.cq 0 O)))) O<|U ?_
   refine R.back (i+1,vh,hs) O (by exact ⟨ae,by rw [vd hx2 aE,HH]⟩) aG (sF O) (ck jF bL O)
  refine R.cG O mixed ao<|U ?_
  refine Q.c (q.call Cp O O (fun w hw=>cv (congrArg (Value.int .i64) eW) (fQ _ m.aj x2.ak w (hw.cq 0 O)))) O<|U ?_
  refine R.dC (fuel:=11) [1,2,4,5,6] O O mixed O<|D.l [0,2,3,4,5,6] [1,2,4,5,6] bL O<|U ?_
  refine D.two (i:=1) (j:=7) O O ?_ ?_
  .
   refine Do.k [1,2,4,5,6] bL (q.ld 3 O O hX O) ?_
   refine D.p 7 O sP bL (s.bs (l:=([x2]:List Held)) cd cx O O O O O O O) fun b6=>?_
   refine D.p 8 O sP bL (s.app 1 _ O O O (cm 0 O) m7 aE aE (fun _=>rfl) O) fun v4=>?_
   refine D.l [9] sP bL O<|U ?_
   refine D.p 10 O sP bL (s.lr 4 _ O O O (fun w hw=>Sl.cL (hw.row 1 O)) (.inr ⟨hX,rfl⟩) (fun w hw=>br (Sl.one (hw.row 1 O)) bV) O O O) fun _=>?_
   refine D.done<|U ?_
   refine R.back (i+1,v4,(hs++([x2]))) O (by exact ⟨ae,by rw [mE hx2 aE,HH]⟩) aG (sF O) (ck wV bL O)
  refine Do.p sP bL (s.bs (l:=([x2]:List Held)) cd cx O O O O O O O) fun b7=>?_
  refine D.k 1 O sP bL (q.ld 4 O O hX O) ?_
  refine D.p 8 O sP bL (s.app 1 _ O O O (cm 0 O) m7 aE aE (fun _=>rfl) O) fun v5=>?_
  refine D.l [9] sP bL O<|U ?_
  refine D.p 10 O sP bL (s.lr 4 _ O O O (fun w hw=>Sl.cL (hw.row 1 O)) (.inr ⟨hX,rfl⟩) (fun w hw=>br (Sl.one (hw.row 1 O)) bV) O O O) fun _=>?_
  refine D.done<|U ?_
  refine R.back (i+1,v5,(hs++([x2]))) O (by exact ⟨ae,by rw [mE hx2 aE,HH]⟩) aG (sF O) (ck wV bL O)
 refine R.row0 (α:=Note) 91<|R.loop (fun g_:Nat×Nat×Value×(List ak)×Value×(List Note)=>[(1,pV b1),(2,pV b2),(3,pV b3),(4,v1),(8,iV (g_.2.1:Int)),(9,iV (g_.1:Int))]) (fun g_=>[ah.row 91 g_.2.2.2.2.1 g_.2.2.2.2.2,ah.row 124 vh hs,ah.row 103 vt ts,ah.row 3 v1 (a8 m.aj),ah.box b3 [g_.2.2.1,vt,vh,g_.2.2.2.2.1,iV m.ag,iV m.ai] 48,ah.box b2 sR 48,ah.box b1 [ze,C9,CN,CO,iV m.ag,iV m.ai] 48,ah.held w own]) (fun g_=>[ah.ls g_.2.2.1 g_.2.2.2.1,ah.ls ze m.aj,ah.ls C9 m.Things,ah.ls CN m.Held,ah.ls CO m.Notes,ah.ls aW r.aj,ah.ls aS r.Things,ah.ls aT r.Held,ah.ls aU r.Notes]) (fun g_=>g_.1<=m.Notes.length/\g_.2.2.2.2.2=fW m.aj (a8 m.aj) (m.Notes.take g_.1)/\g_.2.2.2.1=(gG m.aj (a8 m.aj) (m.Notes.take g_.1)).foldl without m.aj/\g_.2.1=(gG m.aj (a8 m.aj) (m.Notes.take g_.1)).length) (fun g_=>m.Notes.length-g_.1) (0,0,ze,m.aj,nS,[]) O (by exact ⟨ae,by simp [fW],by simp [gG],by simp [gG]⟩) (sF O) (dE bL [0,0,1,2,3,4,5,6,7] O) ?_
 rintro ⟨k,c,vw,ws,vn,ns⟩ ⟨hk1,HN,HW,HC⟩
 dsimp only at *
 have hkl:=nJ m.aj (a8 m.aj) (m.Notes.take k);rw [<- HN,<- HC,List.length_take] at hkl;have hwt:cb ws:=by rw [HW];exact uC _ _ hpm.tree
 have hwl:ws.length<=2000:=by rw [HW];exact Nat.le_trans (p6 _ _) hok.wl
 refine U ?_
 refine C (k<m.Notes.length) ?_ ?_ <;> intro h4
 .
  obtain ⟨x3,hx3⟩:=gE m.Notes k
  refine U ?_
  refine R.nb fun b8=>?_
  rcases dv m.aj x3.ak with ⟨IG,Z9⟩ | ⟨c2j,Xz,IG,c2e,c2m⟩
  .
   refine R.kc O O (fun w hw=>cv (congrArg (Value.int .i64) IG) (fQ _ m.aj x3.ak w (hw.cq 1 O)))<|U ?_
   rcases Bool.eq_false_or_eq_true (decide (x3.Port∈(a8 m.aj))) with h5|h5
   .
    refine R.kc O O (fun w hw=>cv (congrArg Value.bool h5) (nj _ (a8 m.aj) x3.Port w (hw.row 4 O)))<|U ?_
    refine R.s O (s.bs (l:=([(⟨x3.Port,x3.Data,x3.aO,0⟩:Note)]:List Note)) eO fy O O O O O O O) fun b9=>?_
    refine R.s O (s.app 2 _ O O O (cm 0 O) dO aE aE (fun _=>rfl) O) fun v6=>U ?_
    refine R.back (k+1,c,vw,ws,v6,(ns++([(⟨x3.Port,x3.Data,x3.aO,0⟩:Note)]))) O (by (have e0:=hx3;(have e1:=wu (ws:=m.aj) IG;have e2:=qH e0 (by rw [e1];exact of_decide_eq_true af);rw [e1] at e2;exact ⟨ae,by rw [e2.1,HN],by rw [e2.2,HW],by rw [e2.2,HC]⟩))) aG (sF O) (ck zW cy O)
   refine R.kc O O (fun w hw=>cv (congrArg Value.bool h5) (nj _ (a8 m.aj) x3.Port w (hw.row 4 O)))<|U ?_
   refine R.back (k+1,c,vw,ws,vn,ns) O (by (have e0:=hx3;(have e1:=wu (ws:=m.aj) IG;have e2:=qJ e0 (by rw [e1];exact of_decide_eq_false af) (by rw [e1];simp);exact ⟨ae,by rw [e2.1,HN],by rw [e2.2,HW],by rw [e2.2,HC]⟩))) aG (sF O) (ck sI cy O)
  refine R.kc O O (fun w hw=>cv (congrArg (Value.int .i64) IG) (fQ _ m.aj x3.ak w (hw.cq 1 O)))<|U ?_
  rcases Bool.eq_false_or_eq_true (decide (x3.Port∈(a8 m.aj))) with h6|h6
  .
   refine R.kc O O (fun w hw=>cv (congrArg Value.bool h6) (nj _ (a8 m.aj) x3.Port w (hw.row 4 O)))<|U ?_
   refine R.s O (s.bs (l:=([x3]:List Note)) eO fy O O O O O O O) fun b10=>?_
   refine R.s O (s.app 2 _ O O O (cm 0 O) dO aE aE (fun _=>rfl) O) fun v7=>U ?_
   refine R.back (k+1,c,vw,ws,v7,(ns++([x3]))) O (by (have e0:=hx3;(have e1:=nK (ws:=m.aj) IG;have e2:=qH e0 (by rw [e1];exact of_decide_eq_true af);rw [e1] at e2;exact ⟨ae,by rw [e2.1,HN],by rw [e2.2,HW],by rw [e2.2,HC]⟩))) aG (sF O) (ck zW cy O)
  refine R.kc O O (fun w hw=>cv (congrArg Value.bool h6) (nj _ (a8 m.aj) x3.Port w (hw.row 4 O)))<|U ?_
  refine C (0<x3.ak) ?_ ?_ <;> intro h7
  .
   refine R.s O (s.nE Ir O O (fun w hw=>lK _ ws x3.ak w (hw.cq 0 O) ae af) O) fun v8=>U ?_
   refine R.mp (fun _ hw=>hw.aR 0 _ O O)<|R.back (k+1,c+1,v8,without ws x3.ak,vn,ns) O (by (have e0:=hx3;(have e1:=nK (ws:=m.aj) IG;have e2:=Ag e0 (by rw [e1];exact of_decide_eq_false af) (by rw [e1];assumption);rw [e1] at e2;exact ⟨ae,by rw [e2.1,HN],by rw [e2.2,List.foldl_append,<- HW];rfl,by rw [e2.2,List.length_append,<- HC];rfl⟩))) aG (sF O) (ck sI [0,2,3,4,5,6,7,8,9] O)
  refine R.back (k+1,c,vw,ws,vn,ns) O (by (have e0:=hx3;(have e1:=nK (ws:=m.aj) IG;have e2:=qJ e0 (by rw [e1];exact of_decide_eq_false af) (by rw [e1];assumption);exact ⟨ae,by rw [e2.1,HN],by rw [e2.2,HW],by rw [e2.2,HC]⟩))) aG (sF O) (ck sI cy O)
 refine C (c=0) ?_ ?_ <;> intro h8
 .
  refine R.mp (fun _ hw=>hw.aR 2 _ O O)<|R.mp (fun _ hw=>hw.aR 1 _ O O)<|R.mp (fun _ hw=>hw.aR 0 _ O O) ?_
  have hz:dF r=(⟨ws,ts,hs,ns,m.ag,m.ai⟩:aA):=by (rw [List.take_of_length_le ae] at HT HH HN HW HC;have hl0:gG m.aj (a8 m.aj) m.Notes=[]:=List.eq_nil_of_length_eq_zero ae;rw [hl0] at HW;rw [<- HS,mU (by show (gG _ _ _).length=0;rw [hl0];rfl)];unfold eL;rw [<- HN,<- HT,<- HH,HW];rfl)
  rw [hz]
  exact R.x1 (vw,vt,vh,vn) [4] [3,2,1,0]
 refine R.mp (fun _ hw=>hw.aR 2 _ O O)<|R.mp (fun _ hw=>hw.aR 1 _ O O)<|R.mp (fun _ hw=>hw.aR 0 _ O O)<|R.back ((⟨ws,ts,hs,ns,m.ag,m.ai⟩:aA),vw,vt,vh,vn) O (by (rw [List.take_of_length_le ae] at HT HH HN HW HC;have hl:mT m=gG m.aj (a8 m.aj) m.Notes:=rfl;have e:kf m=(⟨ws,ts,hs,ns,m.ag,m.ai⟩:aA):=(by unfold kf;rw [hl,<- HW];unfold eL;rw [<- HN,<- HT,<- HH]);exact Eq.mp (congrArg (fun q:aA=>Ok q/\Pre q/\dF q=dF r) e) ⟨hok.kf,hpm.sw (ids:=mT m) (fun j hj=>hj),(vx (by rw [hl,<- HC];assumption)).symm.trans HS⟩)) aG (sF O) (ck [2,3,4] [3,2,1,0,8,9,10,11] O)
theorem Kh (aW aS aT aU:Value)(r:aA)(p:Place)(w:World)(own:List Nat)(H:HN w own [] [ah.ls aW r.aj,ah.ls aS r.Things,ah.ls aT r.Held,ah.ls aU r.Notes])(hk:Ok r)(hI:Inv r):RS Tryz.prog 36 #[.agg #[aW,aS,aT,aU,iV r.ag,iV r.ai],.agg #[iV p.aB,iV p.Slot]] H (j5 r p) (fun s (z:Value×Value×Value×Value) => .tuple #[.agg #[z.1,z.2.1,z.2.2.1,z.2.2.2,iV s.1.ag,iV s.1.ai],iV s.2]) (fun _ _=>[]) (fun s z=>[ah.ls z.1 s.1.aj,ah.ls z.2.1 s.1.Things,ah.ls z.2.2.1 s.1.Held,ah.ls z.2.2.2 s.1.Notes]):=by
 have bS:=H.aZ 0 rfl
 have bH:=H.aZ 1 rfl
 have cu:=H.aZ 2 rfl
 have bT:=H.aZ 3 rfl
 have bw:=hk.wl;have bt:=hk.tl;have bh:=hk.hl;have bn:=hk.nl;have wN:=hk.w0;have wO:=hk.w1;have wP:=hk.t0;have wQ:=hk.t1
 have gn:=eB r p
 have hkd:=hk.wo (aL r p).1.ID
 refine R.eN H ?_
 refine R.nb fun b1=>?_
 refine R.nb fun b2=>?_
 refine R.nb fun b3=>?_
 refine R.kc O O (fun w hw=>om _ _ _ _ r p w (hw.cq 0 O) (hw.cq 1 O) (hw.cq 2 O) (hw.cq 3 O) af af)<|U ?_
 refine R.nb fun b4=>?_
 refine C (0<(aL r p).2) ?_ ?_ <;> intro h1
 .
  refine R.g9 ak av Held Note ?_
  rw [show j5 r p=_ from by (unfold j5;rewrite [if_neg ae]) <;> rfl]
  exact R.x2 (nS,nS,nS,nS) [4] [3,2,1,0]
 have gz:(aL r p).2=0:=ae
 have hPd:=hI.toPre.wo (aL r p).1.ID
 refine U ?_
 refine R.s O (s.nE Ir O O (fun w hw=>lK _ r.aj (aL r p).1.ID w (hw.cq 0 O) ae (by exact hI.tree)) O) fun v1=>U ?_
 refine R.s O (s.pre (fun _ hw=>hw.aR 0 _ O O) (s.aJ ct [0,2,3,4] _ _ _ O O O Mb O O (fun w own hw H=>sG v1 aS aT aU (⟨without r.aj (aL r p).1.ID,r.Things,r.Held,r.Notes,r.ag,r.ai⟩:aA) w own H af af) O)) ?_
 rintro ⟨z1,z2,z3,z4⟩
 dsimp only
 refine U ?_
 rw [show j5 r p=_ from by (unfold j5;rewrite [if_pos gz]) <;> rfl]
 exact R.x2 (z1,z2,z3,z4) [4] [0,1,2,3]
theorem FE (aW aS aT aU:Value)(r:aA)(p:Place)(w:World)(own:List Nat)(H:HN w own [] [ah.ls aW r.aj,ah.ls aS r.Things,ah.ls aT r.Held,ah.ls aU r.Notes])(hk:Ok r)(hI:Inv r):RS Tryz.prog 37 #[.agg #[aW,aS,aT,aU,iV r.ag,iV r.ai],.agg #[iV p.aB,iV p.Slot]] H (fA r p) (fun s (z:Value×Value×Value×Value) => .tuple #[.agg #[z.1,z.2.1,z.2.2.1,z.2.2.2,iV s.1.ag,iV s.1.ai],iV s.2]) (fun _ _=>[]) (fun s z=>[ah.ls z.1 s.1.aj,ah.ls z.2.1 s.1.Things,ah.ls z.2.2.1 s.1.Held,ah.ls z.2.2.2 s.1.Notes]):=by
 have bS:=H.aZ 0 rfl
 have bH:=H.aZ 1 rfl
 have cu:=H.aZ 2 rfl
 have bT:=H.aZ 3 rfl
 have bw:=hk.wl;have bt:=hk.tl;have bh:=hk.hl;have bn:=hk.nl;have wN:=hk.w0;have wO:=hk.w1;have wP:=hk.t0;have wQ:=hk.t1
 have gn:=eB r p
 refine R.eN H ?_
 refine R.nb fun b1=>?_
 refine R.nb fun b2=>?_
 refine R.nb fun b3=>?_
 refine R.kc O O (fun w hw=>om _ _ _ _ r p w (hw.cq 0 O) (hw.cq 1 O) (hw.cq 2 O) (hw.cq 3 O) af af)<|U ?_
 refine R.nb fun b4=>?_
 refine C (0<(aL r p).2) ?_ ?_ <;> intro h1
 .
  refine R.g9 ak av Held Note ?_
  rw [show fA r p=_ from by (unfold fA;rewrite [if_neg ae]) <;> rfl]
  exact R.x2 (nS,nS,nS,nS) [4] [3,2,1,0]
 have gz:(aL r p).2=0:=ae
 have hkc:=hk.cut (aL r p).1.ID;have ZC:=hI.toPre.cut (id:=(aL r p).1.ID) (jk.2 ⟨_,(qG gz).2.1,rfl⟩)
 refine U ?_
 refine R.s O (s.nE U7 O O (fun w hw=>CX _ r.aj (aL r p).1.ID w (hw.cq 0 O) (by exact hI.tree) ae) O) fun v1=>U ?_
 refine R.row0 (α:=ak) 126<|R.loop (fun g_:Nat×Value×(List ak)=>[(2,pV b1),(4,pV b3),(8,v1),(9,g_.2.1),(10,iV (g_.1:Int))]) (fun g_=>[ah.row 126 g_.2.1 g_.2.2,ah.row 3 v1 (im (aL r p).1.ID r.aj),ah.box b4 [iV (aL r p).1.ID,iV (aL r p).1.av,iV (aL r p).1.Rights,iV (aL r p).1.aO,iV (aL r p).1.From] 126,ah.box b3 sR 48,ah.box b2 (mN p) 32,ah.box b1 [aW,aS,aT,aU,iV r.ag,iV r.ai] 48,ah.held w own]) (fun g_=>[ah.ls aW r.aj,ah.ls aS r.Things,ah.ls aT r.Held,ah.ls aU r.Notes]) (fun g_=>g_.1<=r.aj.length/\g_.2.2=(r.aj.take g_.1).filter (fun x => !decide (x.ID∈im (aL r p).1.ID r.aj))) (fun g_=>r.aj.length-g_.1) (0,nS,[]) O (by exact ⟨ae,bC⟩) (sF O) (dE jF aX O) ?_
 rintro ⟨k,vl,ls⟩ ⟨hk1,HL⟩
 dsimp only at *
 have hll:ls.length<=k:=by rw [HL];exact ve _ _ _
 refine U ?_
 refine C (k<r.aj.length) ?_ ?_ <;> intro h2
 .
  obtain ⟨x1,hx1⟩:=gE r.aj k
  refine U ?_
  rcases Bool.eq_false_or_eq_true (decide (x1.ID∈(im (aL r p).1.ID r.aj))) with h3|h3
  .
   refine R.kc O O (fun w hw=>cv (congrArg Value.bool h3) (nj _ (im (aL r p).1.ID r.aj) x1.ID w (hw.row 1 O)))<|U ?_
   refine R.back (k+1,vl,ls) O (by exact ⟨ae,by rw [vd hx1 (by simpa using ‹decide (_∈im _ _)=true›),HL]⟩) aG (sF O) (ck jF aX O)
  refine R.kc O O (fun w hw=>cv (congrArg Value.bool h3) (nj _ (im (aL r p).1.ID r.aj) x1.ID w (hw.row 1 O)))<|U ?_
  refine R.s O (s.bs (l:=([x1]:List ak)) fF dK O O O O O O O) fun b5=>?_
  refine R.s O (s.app 1 _ O O O (cm 0 O) m6 aE aE (fun _=>rfl) O) fun v2=>U ?_
  refine R.back (k+1,v2,(ls++([x1]))) O (by exact ⟨ae,by rw [mE hx1 (by simpa using ‹decide (_∈im _ _)=false›),HL]⟩) aG (sF O) (ck wV aX O)
 have hls:ls=DX r.aj (aL r p).1.ID:=by rw [HL,List.take_of_length_le ae];rfl
 have hkl:Ok (⟨ls,r.Things,r.Held,r.Notes,r.ag,r.ai⟩:aA):=by rw [hls];exact hkc
 have hPl:Pre (⟨ls,r.Things,r.Held,r.Notes,r.ag,r.ai⟩:aA):=by rw [hls];exact ZC
 refine U ?_
 refine R.s O (s.pre (fun _ hw=>hw.aR 0 _ O O) (s.aJ mH [0,2,3,4] _ _ _ O O O Mb O O (fun w own hw H=>sG vl aS aT aU (⟨ls,r.Things,r.Held,r.Notes,r.ag,r.ai⟩:aA) w own H af af) O)) ?_
 rintro ⟨z1,z2,z3,z4⟩
 dsimp only
 refine U ?_
 have hz:fA r p=((dF (⟨ls,r.Things,r.Held,r.Notes,r.ag,r.ai⟩:aA)),0):=by (unfold fA;rw [if_pos gz,hls];(try rfl))
 rw [hz]
 exact R.x2 (z1,z2,z3,z4) [5] [0,1,2,3]
theorem G3 (aW aS aT aU:Value)(r:aA)(p:Place)(d:ByteArray)(w:World)(own:List Nat)(H:HN w own [] [ah.ls aW r.aj,ah.ls aS r.Things,ah.ls aT r.Held,ah.ls aU r.Notes])(hk:Ok r)(hI:Inv r):RS Tryz.prog 38 #[.agg #[aW,aS,aT,aU,iV r.ag,iV r.ai],.agg #[iV p.aB,iV p.Slot],.string d] H (fD r p d) (fun s (z:Value×Value×Value×Value) => .tuple #[.agg #[z.1,z.2.1,z.2.2.1,z.2.2.2,iV s.1.ag,iV s.1.ai],iV s.2]) (fun _ _=>[]) (fun s z=>[ah.ls z.1 s.1.aj,ah.ls z.2.1 s.1.Things,ah.ls z.2.2.1 s.1.Held,ah.ls z.2.2.2 s.1.Notes]):=by
 have bS:=H.aZ 0 rfl
 have bH:=H.aZ 1 rfl
 have cu:=H.aZ 2 rfl
 have bT:=H.aZ 3 rfl
 have bw:=hk.wl;have bt:=hk.tl;have bh:=hk.hl;have bn:=hk.nl;have wN:=hk.w0;have wO:=hk.w1;have wP:=hk.t0;have wQ:=hk.t1
 have Yl:=iq r p 1 2
 refine R.eN H ?_
 refine R.nb fun b1=>?_
 refine R.nb fun b2=>?_
 refine R.nb fun b3=>?_
 refine R.kc O O (fun w hw=>zp _ _ _ _ r p 1 2 w (hw.cq 0 O) (hw.cq 1 O) (hw.cq 2 O) (hw.cq 3 O) af af ae)<|U ?_
 refine R.nb fun b4=>?_
 refine C (0<(bJ r p 1 2).2.2) ?_ ?_ <;> intro h1
 .
  refine R.g9 ak av Held Note ?_
  rw [show fD r p d=_ from by unfold fD fB;exact iE]
  exact R.x2 (nS,nS,nS,nS) [4] [3,2,1,0]
 have mn:=iq r p 1 2;have mq:(bJ r p 1 2).2.2=0:=ae
 obtain ⟨m1,m2,m3,i,ix,ik,ih,ii,id,ib⟩:=kj mq;have iB:=(List.getElem?_eq_some_iff.1 ih).1
 refine U ?_
 refine C (8<d.size) ?_ ?_ <;> intro h2
 .
  refine R.g9 ak av Held Note ?_
  rw [show fD r p d=_ from by unfold fD fB;exact iE]
  exact R.x2 (nS,nS,nS,nS) [4] [3,2,1,0]
 refine R.s O (s.aJ ct aX _ _ _ O O O ED O O (fun w own hw H=>oo aW aS aT aU r w own H af) O) ?_
 rintro ⟨z1,z2,z3,z4⟩
 dsimp only
 refine U ?_
 obtain ⟨x1,hx1⟩:=gE r.Things ((bJ r p 1 2).2.1.toNat)
 refine R.q (q.idx (i:=(bJ r p 1 2).2.1.toNat) (cm 1 O) O O kv ae hx1) O<|U ?_
 refine R.s O (s.stP (o:=2) (z:=(⟨x1.ID,x1.Kind,d⟩:av)) 1 _ O hx1 O O O O O (by simp [Value.oneCell']) (.inr ⟨Ck,rfl⟩) O) fun _=>U ?_
 refine R.mp (fun _ hw=>hw.aR 0 _ O O)<|R.mp (fun _ hw=>hw.aR 0 _ O O)<|R.mp (fun _ hw=>hw.aR 0 _ O O)<|R.mp (fun _ hw=>hw.aR 0 _ O O) ?_
 have hz:fD r p d=((⟨r.aj,r.Things.set (bJ r p 1 2).2.1.toNat (⟨x1.ID,x1.Kind,d⟩:av),r.Held,r.Notes,r.ag,r.ai⟩:aA),0):=by (unfold fD fB;(repeat' split) <;> first|rfl|(exfalso;omega)|(simp_all;done))
 rw [hz]
 exact R.x2 (z1,z2,z3,z4) [4] [3,2,1,0]
end
section
open Go Go.RowKit
attribute [local irreducible] Run Rg Rq Qt Qa Stp Dg Do Dm bN
theorem Ki (aW aS aT aU:Value)(r:aA)(p:Place)(d:ByteArray)(slot:Int)(rights:Int)(w:World)(own:List Nat)(H:HN w own [] [ah.ls aW r.aj,ah.ls aS r.Things,ah.ls aT r.Held,ah.ls aU r.Notes])(hk:Ok r)(hI:Inv r):RS Tryz.prog 39 #[.agg #[aW,aS,aT,aU,iV r.ag,iV r.ai],.agg #[iV p.aB,iV p.Slot],.string d,iV slot,iV rights] H (cW r p d slot rights) (fun s (z:Value×Value×Value×Value) => .tuple #[.agg #[z.1,z.2.1,z.2.2.1,z.2.2.2,iV s.1.ag,iV s.1.ai],iV s.2]) (fun _ _=>[]) (fun s z=>[ah.ls z.1 s.1.aj,ah.ls z.2.1 s.1.Things,ah.ls z.2.2.1 s.1.Held,ah.ls z.2.2.2 s.1.Notes]):=by
 have bS:=H.aZ 0 rfl
 have bH:=H.aZ 1 rfl
 have cu:=H.aZ 2 rfl
 have bT:=H.aZ 3 rfl
 have bw:=hk.wl;have bt:=hk.tl;have bh:=hk.hl;have bn:=hk.nl;have wN:=hk.w0;have wO:=hk.w1;have wP:=hk.t0;have wQ:=hk.t1
 have Yl:=iq r p 2 2;have gn2:=eB r (⟨p.aB,slot⟩:Place);have dc:=gO (aL r (⟨p.aB,slot⟩:Place)).1 r.ag rights 0
 refine R.eN H ?_
 refine R.nb fun b1=>?_
 refine R.nb fun b2=>?_
 refine R.nb fun b3=>?_
 refine R.kc O O (fun w hw=>zp _ _ _ _ r p 2 2 w (hw.cq 0 O) (hw.cq 1 O) (hw.cq 2 O) (hw.cq 3 O) af af ae)<|U ?_
 refine R.nb fun b4=>?_
 refine C (0<(bJ r p 2 2).2.2) ?_ ?_ <;> intro h1
 .
  refine R.g9 ak av Held Note ?_
  rw [show cW r p d slot rights=_ from by (unfold cW;rewrite [if_neg ae]) <;> rfl]
  exact R.x2 (nS,nS,nS,nS) [4] [3,2,1,0]
 have mq:(bJ r p 2 2).2.2=0:=ae
 have mz:=kj mq;have mr:=hk.get mz.1;rw [<- mz.2.1] at mr
 refine U ?_
 refine C (8<d.size) ?_ ?_ <;> intro h2
 .
  refine R.g9 ak av Held Note ?_
  rw [show cW r p d slot rights=_ from by (unfold cW;rewrite [if_pos mq,if_pos ae]) <;> rfl]
  exact R.x2 (nS,nS,nS,nS) [4] [3,2,1,0]
 refine R.loop (fun g_:Nat×Nat=>[(2,.string d),(3,iV slot),(4,iV rights),(5,pV b1),(6,pV b2),(10,pV b3),(12,pV b4),(15,iV (g_.2:Int)),(16,iV (g_.1:Int))]) (fun g_=>[ah.box b4 [iV (bJ r p 2 2).1.ID,iV (bJ r p 2 2).1.av,iV (bJ r p 2 2).1.Rights,iV (bJ r p 2 2).1.aO,iV (bJ r p 2 2).1.From] 126,ah.box b3 sR 48,ah.box b2 (mN p) 32,ah.box b1 [aW,aS,aT,aU,iV r.ag,iV r.ai] 48,ah.held w own]) (fun g_=>[ah.ls aW r.aj,ah.ls aS r.Things,ah.ls aT r.Held,ah.ls aU r.Notes]) (fun g_=>g_.1<=r.Notes.length/\g_.2=fk (r.Notes.take g_.1) (bJ r p 2 2).1.av) (fun g_=>r.Notes.length-g_.1) (0,0) O (by exact ⟨ae,by simp [fk]⟩) (sF O) (dE ct aX O) ?_
 rintro ⟨k,c⟩ ⟨hk1,HC⟩
 dsimp only at *
 have hc1:c<=k:=by rw [HC];exact Hw
 refine U ?_
 refine C (k<r.Notes.length) ?_ ?_ <;> intro h3
 .
  obtain ⟨x1,hx1⟩:=gE r.Notes k
  refine C (x1.Port=(bJ r p 2 2).1.av) ?_ ?_ <;> intro h4
  .
   refine R.cG O mixed ao<|U ?_
   refine R.back (k+1,c+1) O (by exact ⟨ae,by rw [DY hx1 af,HC]⟩) aG (sF O) (ck ct aX O)
  refine R.cG O mixed ao<|U ?_
  refine R.back (k+1,c) O (by exact ⟨ae,by rw [Ah hx1 af,HC]⟩) aG (sF O) (ck ct aX O)
 rw [List.take_of_length_le ae] at HC
 refine U ?_
 refine C (c=3) ?_ ?_ <;> intro h5
 .
  refine R.g9 ak av Held Note ?_
  rw [show cW r p d slot rights=_ from by (unfold cW;rewrite [if_pos mq,if_neg ae,if_pos ae]) <;> rfl]
  exact R.x2 (nS,nS,nS,nS) [4] [3,2,1,0]
 refine R.nb fun b5=>?_
 refine R.s O (s.aJ mH aX _ _ _ O O O ED O O (fun w own hw H=>oo aW aS aT aU r w own H af) O) ?_
 rintro ⟨z1,z2,z3,z4⟩
 dsimp only
 refine U ?_
 refine C (slot<0) ?_ ?_ <;> intro h6
 .
  refine R.s O (s.bs (l:=([(⟨((bJ r p 2 2).1).av,d,(bJ r p 2 2).1.aO,0⟩:Note)]:List Note)) eO fy O O O O O O O) fun b6=>?_
  refine R.s O (s.app 4 _ O O O (cm 0 O) dO aE aE (fun _=>rfl) O) fun v1=>U ?_
  have hcn:¬ fk r.Notes (bJ r p 2 2).1.av=3:=ae
  refine U ?_
  refine R.mp (fun _ hw=>hw.aR 1 _ O O)<|R.mp (fun _ hw=>hw.aR 1 _ O O)<|R.mp (fun _ hw=>hw.aR 1 _ O O)<|R.mp (fun _ hw=>hw.aR 1 _ O O) ?_
  rw [show cW r p d slot rights=_ from by (unfold cW;rewrite [if_pos mq,if_neg ae,if_neg ae,if_pos ae]) <;> rfl]
  exact R.x2 (z1,z2,z3,v1) [6] [3,2,1,0]
 refine C ((bJ r p 2 2).1.Rights<4) ?_ ?_ <;> intro h7
 .
  refine R.g9 ak av Held Note ?_
  rw [show cW r p d slot rights=_ from by (unfold cW;rewrite [if_pos mq,if_neg ae,if_neg ae,if_neg ae,if_neg (by rewrite [II mr ae];decide)]) <;> rfl]
  exact R.x2 (nS,nS,nS,nS) [9] [3,2,1,0]
 refine R.kc O O (fun w hw=>om _ _ _ _ r (⟨p.aB,slot⟩:Place) w (hw.row 0 O) (hw.row 1 O) (hw.row 2 O) (hw.row 3 O) af af)<|U ?_
 refine R.nb fun b7=>?_
 refine C (0<(aL r (⟨p.aB,slot⟩:Place)).2) ?_ ?_ <;> intro h8
 .
  refine R.g9 ak av Held Note ?_
  rw [show cW r p d slot rights=_ from by (unfold cW;rewrite [if_pos mq,if_neg ae,if_neg ae,if_neg ae,if_pos (mD mr ae),if_neg ae]) <;> rfl]
  exact R.x2 (nS,nS,nS,nS) [10] [3,2,1,0]
 have gz:(aL r (⟨p.aB,slot⟩:Place)).2=0:=ae
 have gr:=hk.get gz
 refine U ?_
 refine C (999<r.ag) ?_ ?_ <;> intro h9
 .
  refine R.g9 ak av Held Note ?_
  rw [show cW r p d slot rights=_ from by (unfold cW;rewrite [if_pos mq,if_neg ae,if_neg ae,if_neg ae,if_pos (mD mr ae),if_pos gz,if_pos ae]) <;> rfl]
  exact R.x2 (nS,nS,nS,nS) [10] [3,2,1,0]
 refine R.kc O O (fun w hw=>my (aL r (⟨p.aB,slot⟩:Place)).1 r.ag rights 0 w ae)<|U ?_
 refine R.nb fun b8=>?_
 refine C (0<(derived (aL r (⟨p.aB,slot⟩:Place)).1 r.ag rights 0).2) ?_ ?_ <;> intro h10
 .
  refine R.g9 ak av Held Note ?_
  rw [show cW r p d slot rights=_ from by (unfold cW;rewrite [if_pos mq,if_neg ae,if_neg ae,if_neg ae,if_pos (mD mr ae),if_pos gz,if_neg ae,if_neg ae]) <;> rfl]
  exact R.x2 (nS,nS,nS,nS) [11] [3,2,1,0]
 have dz:(derived (aL r (⟨p.aB,slot⟩:Place)).1 r.ag rights 0).2=0:=ae
 refine U ?_
 refine R.s O (s.pre (fun _ hw=>hw.aR 2 _ O O) (s.pre (fun _ hw=>hw.aR 2 _ O O) (s.pre (fun _ hw=>hw.aR 2 _ O O) (s.pre (fun _ hw=>hw.aR 2 _ O O) (s.aJ bL [3,2,1,0] _ _ _ O O O EC O O (fun w own hw H=>qC z1 z2 z3 z4 r (derived (aL r (⟨p.aB,slot⟩:Place)).1 r.ag rights 0).1 w own H af) O))))) ?_
 rintro ⟨z5,z6,z7,z8⟩
 dsimp only
 refine U ?_
 refine R.s O (s.bs (l:=([(⟨((bJ r p 2 2).1).av,d,(bJ r p 2 2).1.aO,(derived (aL r (⟨p.aB,slot⟩:Place)).1 r.ag rights 0).1.ID⟩:Note)]:List Note)) eO fy O O O O O O O) fun b9=>?_
 refine R.s O (s.app 4 _ O O O (cm 0 O) dO (by simp [fX];omega) (by simp [fX];omega) (fun _=>rfl) O) fun v2=>U ?_
 have hcn:¬ fk r.Notes (bJ r p 2 2).1.av=3:=ae
 refine U ?_
 refine R.mp (fun _ hw=>hw.aR 1 _ O O)<|R.mp (fun _ hw=>hw.aR 1 _ O O)<|R.mp (fun _ hw=>hw.aR 1 _ O O)<|R.mp (fun _ hw=>hw.aR 1 _ O O) ?_
 rw [show cW r p d slot rights=_ from by (unfold cW;rewrite [if_pos mq,if_neg ae,if_neg ae,if_neg ae,if_pos (mD mr ae),if_pos gz,if_neg ae,if_pos dz]) <;> rfl]
 exact R.x2 (z5,z6,z7,v2) [8] [3,2,1,0]
theorem Kj (aW aS aT aU:Value)(r:aA)(p:Place)(w:World)(own:List Nat)(H:HN w own [] [ah.ls aW r.aj,ah.ls aS r.Things,ah.ls aT r.Held,ah.ls aU r.Notes])(hk:Ok r)(hI:Inv r):RS Tryz.prog 40 #[.agg #[aW,aS,aT,aU,iV r.ag,iV r.ai],.agg #[iV p.aB,iV p.Slot]] H (dD r p) (fun s (z:Value×Value×Value×Value) => .tuple #[.agg #[z.1,z.2.1,z.2.2.1,z.2.2.2,iV s.1.ag,iV s.1.ai],.agg #[iV s.2.1.Port,.string s.2.1.Data,iV s.2.1.aO,iV s.2.1.ak],iV s.2.2.1,iV s.2.2.2]) (fun _ _=>[]) (fun s z=>[ah.ls z.1 s.1.aj,ah.ls z.2.1 s.1.Things,ah.ls z.2.2.1 s.1.Held,ah.ls z.2.2.2 s.1.Notes]):=by
 have bS:=H.aZ 0 rfl
 have bH:=H.aZ 1 rfl
 have cu:=H.aZ 2 rfl
 have bT:=H.aZ 3 rfl
 have bw:=hk.wl;have bt:=hk.tl;have bh:=hk.hl;have bn:=hk.nl;have wN:=hk.w0;have wO:=hk.w1;have wP:=hk.t0;have wQ:=hk.t1
 have Yl:=iq r p 2 1
 refine R.eN H ?_
 refine R.nb fun b1=>?_
 refine R.nb fun b2=>?_
 refine R.nb fun b3=>?_
 refine R.nb fun b4=>?_
 refine R.kc O O (fun w hw=>zp _ _ _ _ r p 2 1 w (hw.cq 0 O) (hw.cq 1 O) (hw.cq 2 O) (hw.cq 3 O) af af ae)<|U ?_
 refine R.nb fun b5=>?_
 refine C (0<(bJ r p 2 1).2.2) ?_ ?_ <;> intro h1
 .
  refine R.g9 ak av Held Note ?_
  rw [show dD r p=_ from by (unfold dD;rewrite [if_neg ae]) <;> rfl]
  exact R.x4 (nS,nS,nS,nS) [5] [3,2,1,0]
 have mq:(bJ r p 2 1).2.2=0:=ae
 have mz:=kj mq
 refine U ?_
 refine R.s O (s.aJ mH aX _ _ _ O O O ED O O (fun w own hw H=>oo aW aS aT aU r w own H af) O) ?_
 rintro ⟨z1,z2,z3,z4⟩
 dsimp only
 refine U ?_
 refine R.loop (fun k:Nat=>[(2,pV b1),(3,pV b2),(4,pV b3),(5,pV b4),(8,pV b5),(11,iV (k:Int))]) (fun k:Nat=>[ah.row 126 z1 r.aj,ah.row 103 z2 r.Things,ah.row 124 z3 r.Held,ah.row 91 z4 r.Notes,ah.box b5 [iV (bJ r p 2 1).1.ID,iV (bJ r p 2 1).1.av,iV (bJ r p 2 1).1.Rights,iV (bJ r p 2 1).1.aO,iV (bJ r p 2 1).1.From] 126,ah.box b4 [iV 0,.string (⟨#[]⟩),iV 0,iV 0] 91,ah.box b3 sR 48,ah.box b2 (mN p) 32,ah.box b1 [z1,z2,z3,z4,iV r.ag,iV r.ai] 48,ah.held w own]) (fun k:Nat=>[ah.ls aW r.aj,ah.ls aS r.Things,ah.ls aT r.Held,ah.ls aU r.Notes]) (fun k:Nat=>k<=r.Notes.length /\ ∀ (j:Nat) y,j<k->r.Notes[j]? = some y->(y.Port==(bJ r p 2 1).1.av)=false) (fun k:Nat=>r.Notes.length-k) 0 O (by exact ⟨ae,fun j x hj=>absurd hj (Nat.not_lt_zero _)⟩) (sF O) (dE j1 aX O) ?_
 rintro k ⟨hk1,HA⟩
 refine U ?_
 refine C (k<r.Notes.length) ?_ ?_ <;> intro h2
 .
  obtain ⟨x1,hx1⟩:=gE r.Notes k
  refine U ?_
  refine R.nb fun b6=>?_
  refine C (x1.Port=(bJ r p 2 1).1.av) ?_ ?_ <;> intro h3
  .
   have hix:idxOf (fun n:Note=>n.Port==(bJ r p 2 1).1.av) r.Notes=(k:Int):=idxOf_hit hx1 (beq_iff_eq.2 ae) HA
   have hfs:=free_spec r.Held p.aB
   refine U ?_
   refine C (0<x1.ak) ?_ ?_ <;> intro h4
   .
    refine R.kc O O (fun w hw=>Ka _ r.Held p.aB w (hw.row 3 O) (by exact hI.good))<|U ?_
    refine C (fj r.Held p.aB<0) ?_ ?_ <;> intro h5
    .
     refine R.g9 ak av Held Note ?_
     have hz:dD r p=((⟨[],[],[],[],0,0⟩:aA),(⟨0,⟨#[]⟩,0,0⟩:Note),0,9):=by (unfold dD;rw [if_pos mq,hix,Int.toNat_natCast,hx1,decide_eq_true ae];dsimp only;rw [if_pos ae,if_pos ae];rfl)
     rw [hz]
     exact R.x4 (nS,nS,nS,nS) [10] [3,2,1,0]
    refine R.s O (s.pre (fun _ hw=>hw.aR 3 _ O O) (s.aJ j1 [0] _ _ _ O O O yr O O (fun w own hw H=>mF z3 r.Held (⟨p.aB,fj r.Held p.aB⟩:Place) x1.ak w own H ae (by exact hI.good)) O)) fun z5=>U ?_
    refine R.dC (fuel:=13) nz O O mixed O<|D.l [0,2,5,7,8] nz ct O<|U ?_
    refine D.two (i:=1) (j:=6) O O ?_ ?_
    .
     refine Do.k nz ct (q.ld 9 O O dh O) ?_
     refine D.l [3] nz ct O<|Dm.yy O O (q.jJ (i:=k) (cm 4 O) O O Tryz.underlying46 qT O ae) O<|U ?_
     refine D.two (i:=4) (j:=6) O O ?_ ?_
     .
      refine Do.p jX ct (s.app0 O O (fun w hw=>Sl.to (hw.row 4 O) ae) dO aE aE O) fun v1=>?_
      refine D.k 6 O jX ct (q.ld 10 O O dh O) ?_
      refine D.l [9] jX ct O<|Dm.yy O O (q.cR (i:=(k+1)) (cm 4 O) O O eO O ae) O<|U ?_
      refine D.p 10 O jX ct (s.app 0 _ O O O (fun w hw=>Sl.from (hw.row 5 O) ae) dO aE aE (fun _=>rfl) O) fun v2=>?_
      refine D.l [11] jX ct O<|U ?_
      refine D.p 12 O jX ct (s.lr 10 _ O O O (fun w hw=>Sl.cL (hw.row 0 O)) (.inr ⟨dh,rfl⟩) (fun w hw=>br (Sl.one (hw.row 0 O)) bV) O O O) fun _=>?_
      refine D.done<|R.dC (fuel:=7) jG O O mixed O<|D.l [0,1,2] jG ct O<|U ?_
      refine D.p 3 O jG ct (s.lr 8 _ O O O (fun _ _=>rfl) (.inl jc) (fun w hw=>xg (hw.row 3 O) (hw.row 4 O) (hw.row 1 O) (hw.row 0 O) O O) O O O) fun _=>?_
      refine D.p 4 O jG ct (s.st 7 _ O O O O (.inl m5) O O O O) fun _=>?_
      refine D.l [5,6] jG ct O<|U ?_
      refine D.done<|R.mp (fun _ hw=>hw.aR 3 _ O O)<|R.mp (fun _ hw=>hw.aR 3 _ O O)<|R.mp (fun _ hw=>hw.aR 1 _ O O)<|R.mp (fun _ hw=>hw.aR 0 _ O O) ?_
      have hz:dD r p=((⟨r.aj,r.Things,eY r.Held (⟨p.aB,fj r.Held p.aB⟩:Place) x1.ak,(r.Notes.take k)++(r.Notes.drop (k+1)),r.ag,r.ai⟩:aA),x1,fj r.Held p.aB,0):=by (unfold dD;rw [if_pos mq,hix,Int.toNat_natCast,hx1,decide_eq_true ae];dsimp only;rw [if_pos ae,if_neg ae];rfl)
      rw [hz]
      exact R.x4 (z1,z2,z5,v2) [7] [3,2,1,0]
     refine Do.k nz ct (q.ld 9 O O dh O) ?_
     refine D.l [9] nz ct O<|Dm.yy O O (q.cR (i:=(k+1)) (cm 4 O) O O eO O ae) O<|U ?_
     refine D.p 4 O jX ct (s.app0 O O (fun w hw=>Sl.to (hw.row 4 O) ae) dO aE aE O) fun v3=>?_
     refine D.p 10 O jX ct (s.app 0 _ O O O (fun w hw=>Sl.from (hw.row 5 O) ae) dO aE aE (fun _=>rfl) O) fun v4=>?_
     refine D.l [11] jX ct O<|U ?_
     refine D.p 12 O jX ct (s.lr 10 _ O O O (fun w hw=>Sl.cL (hw.row 0 O)) (.inr ⟨dh,rfl⟩) (fun w hw=>br (Sl.one (hw.row 0 O)) bV) O O O) fun _=>?_
     refine D.done<|R.dC (fuel:=7) jG O O mixed O<|D.l [0,1,2] jG ct O<|U ?_
     refine D.p 3 O jG ct (s.lr 8 _ O O O (fun _ _=>rfl) (.inl jc) (fun w hw=>xg (hw.row 3 O) (hw.row 4 O) (hw.row 1 O) (hw.row 0 O) O O) O O O) fun _=>?_
     refine D.p 4 O jG ct (s.st 7 _ O O O O (.inl m5) O O O O) fun _=>?_
     refine D.l [5,6] jG ct O<|U ?_
     refine D.done<|R.mp (fun _ hw=>hw.aR 3 _ O O)<|R.mp (fun _ hw=>hw.aR 3 _ O O)<|R.mp (fun _ hw=>hw.aR 1 _ O O)<|R.mp (fun _ hw=>hw.aR 0 _ O O) ?_
     have hz:dD r p=((⟨r.aj,r.Things,eY r.Held (⟨p.aB,fj r.Held p.aB⟩:Place) x1.ak,(r.Notes.take k)++(r.Notes.drop (k+1)),r.ag,r.ai⟩:aA),x1,fj r.Held p.aB,0):=by (unfold dD;rw [if_pos mq,hix,Int.toNat_natCast,hx1,decide_eq_true ae];dsimp only;rw [if_pos ae,if_neg ae];rfl)
     rw [hz]
     exact R.x4 (z1,z2,z5,v4) [7] [3,2,1,0]
    refine Do.k nz ct (q.ld 9 O O dh O) ?_
    refine D.l [9] nz ct O<|Dm.yy O O (q.cR (i:=(k+1)) (cm 4 O) O O eO O ae) O<|U ?_
    refine D.k 1 O nz ct (q.ld 9 O O dh O) ?_
    refine D.l [3] nz ct O<|Dm.yy O O (q.jJ (i:=k) (cm 4 O) O O Tryz.underlying46 qT O ae) O<|U ?_
    refine D.p 4 O jX ct (s.app0 O O (fun w hw=>Sl.to (hw.row 4 O) ae) dO aE aE O) fun v5=>?_
    refine D.p 10 O jX ct (s.app 0 _ O O O (fun w hw=>Sl.from (hw.row 5 O) ae) dO aE aE (fun _=>rfl) O) fun v6=>?_
    refine D.l [11] jX ct O<|U ?_
    refine D.p 12 O jX ct (s.lr 10 _ O O O (fun w hw=>Sl.cL (hw.row 0 O)) (.inr ⟨dh,rfl⟩) (fun w hw=>br (Sl.one (hw.row 0 O)) bV) O O O) fun _=>?_
    refine D.done<|R.dC (fuel:=7) jG O O mixed O<|D.l [0,1,2] jG ct O<|U ?_
    refine D.p 3 O jG ct (s.lr 8 _ O O O (fun _ _=>rfl) (.inl jc) (fun w hw=>xg (hw.row 3 O) (hw.row 4 O) (hw.row 1 O) (hw.row 0 O) O O) O O O) fun _=>?_
    refine D.p 4 O jG ct (s.st 7 _ O O O O (.inl m5) O O O O) fun _=>?_
    refine D.l [5,6] jG ct O<|U ?_
    refine D.done<|R.mp (fun _ hw=>hw.aR 3 _ O O)<|R.mp (fun _ hw=>hw.aR 3 _ O O)<|R.mp (fun _ hw=>hw.aR 1 _ O O)<|R.mp (fun _ hw=>hw.aR 0 _ O O) ?_
    have hz:dD r p=((⟨r.aj,r.Things,eY r.Held (⟨p.aB,fj r.Held p.aB⟩:Place) x1.ak,(r.Notes.take k)++(r.Notes.drop (k+1)),r.ag,r.ai⟩:aA),x1,fj r.Held p.aB,0):=by (unfold dD;rw [if_pos mq,hix,Int.toNat_natCast,hx1,decide_eq_true ae];dsimp only;rw [if_pos ae,if_neg ae];rfl)
    rw [hz]
    exact R.x4 (z1,z2,z5,v6) [7] [3,2,1,0]
   refine R.dC (fuel:=13) nz O O mixed O<|D.l [0,2,5,7,8] nz aX O<|U ?_
   refine D.two (i:=1) (j:=6) O O ?_ ?_
   .
    refine Do.k nz aX (q.ld 9 O O dh O) ?_
    refine D.l [3] nz aX O<|Dm.yy O O (q.jJ (i:=k) (cm 4 O) O O Tryz.underlying46 qT O ae) O<|U ?_
    refine D.two (i:=4) (j:=6) O O ?_ ?_
    .
     refine Do.p jX aX (s.app0 O O (fun w hw=>Sl.to (hw.row 4 O) ae) dO aE aE O) fun v7=>?_
     refine D.k 6 O jX aX (q.ld 10 O O dh O) ?_
     refine D.l [9] jX aX O<|Dm.yy O O (q.cR (i:=(k+1)) (cm 4 O) O O eO O ae) O<|U ?_
     refine D.p 10 O jX aX (s.app 0 _ O O O (fun w hw=>Sl.from (hw.row 5 O) ae) dO aE aE (fun _=>rfl) O) fun v8=>?_
     refine D.l [11] jX aX O<|U ?_
     refine D.p 12 O jX aX (s.lr 10 _ O O O (fun w hw=>Sl.cL (hw.row 0 O)) (.inr ⟨dh,rfl⟩) (fun w hw=>br (Sl.one (hw.row 0 O)) bV) O O O) fun _=>?_
     refine D.done<|R.dC (fuel:=7) jG O O mixed O<|D.l [0,1,2] jG aX O<|U ?_
     refine D.p 3 O jG aX (s.lr 8 _ O O O (fun _ _=>rfl) (.inl jc) (fun w hw=>xg (hw.row 2 O) (hw.row 3 O) (hw.row 4 O) (hw.row 0 O) O O) O O O) fun _=>?_
     refine D.p 4 O jG aX (s.st 7 _ O O O O (.inl m5) O O O O) fun _=>?_
     refine D.l [5,6] jG aX O<|U ?_
     refine D.done<|R.mp (fun _ hw=>hw.aR 2 _ O O)<|R.mp (fun _ hw=>hw.aR 2 _ O O)<|R.mp (fun _ hw=>hw.aR 2 _ O O)<|R.mp (fun _ hw=>hw.aR 0 _ O O) ?_
     have hz:dD r p=((⟨r.aj,r.Things,r.Held,(r.Notes.take k)++(r.Notes.drop (k+1)),r.ag,r.ai⟩:aA),x1,-1,0):=by (unfold dD;rw [if_pos mq,hix,Int.toNat_natCast,hx1,decide_eq_true ae];dsimp only;rw [if_neg ae];rfl)
     rw [hz]
     exact R.x4 (z1,z2,z3,v8) [7] [3,2,1,0]
    refine Do.k nz aX (q.ld 9 O O dh O) ?_
    refine D.l [9] nz aX O<|Dm.yy O O (q.cR (i:=(k+1)) (cm 4 O) O O eO O ae) O<|U ?_
    refine D.p 4 O jX aX (s.app0 O O (fun w hw=>Sl.to (hw.row 4 O) ae) dO aE aE O) fun v9=>?_
    refine D.p 10 O jX aX (s.app 0 _ O O O (fun w hw=>Sl.from (hw.row 5 O) ae) dO aE aE (fun _=>rfl) O) fun v10=>?_
    refine D.l [11] jX aX O<|U ?_
    refine D.p 12 O jX aX (s.lr 10 _ O O O (fun w hw=>Sl.cL (hw.row 0 O)) (.inr ⟨dh,rfl⟩) (fun w hw=>br (Sl.one (hw.row 0 O)) bV) O O O) fun _=>?_
    refine D.done<|R.dC (fuel:=7) jG O O mixed O<|D.l [0,1,2] jG aX O<|U ?_
    refine D.p 3 O jG aX (s.lr 8 _ O O O (fun _ _=>rfl) (.inl jc) (fun w hw=>xg (hw.row 2 O) (hw.row 3 O) (hw.row 4 O) (hw.row 0 O) O O) O O O) fun _=>?_
    refine D.p 4 O jG aX (s.st 7 _ O O O O (.inl m5) O O O O) fun _=>?_
    refine D.l [5,6] jG aX O<|U ?_
    refine D.done<|R.mp (fun _ hw=>hw.aR 2 _ O O)<|R.mp (fun _ hw=>hw.aR 2 _ O O)<|R.mp (fun _ hw=>hw.aR 2 _ O O)<|R.mp (fun _ hw=>hw.aR 0 _ O O) ?_
    have hz:dD r p=((⟨r.aj,r.Things,r.Held,(r.Notes.take k)++(r.Notes.drop (k+1)),r.ag,r.ai⟩:aA),x1,-1,0):=by (unfold dD;rw [if_pos mq,hix,Int.toNat_natCast,hx1,decide_eq_true ae];dsimp only;rw [if_neg ae];rfl)
    rw [hz]
    exact R.x4 (z1,z2,z3,v10) [7] [3,2,1,0]
   refine Do.k nz aX (q.ld 9 O O dh O) ?_
   refine D.l [9] nz aX O<|Dm.yy O O (q.cR (i:=(k+1)) (cm 4 O) O O eO O ae) O<|U ?_
   refine D.k 1 O nz aX (q.ld 9 O O dh O) ?_
   refine D.l [3] nz aX O<|Dm.yy O O (q.jJ (i:=k) (cm 4 O) O O Tryz.underlying46 qT O ae) O<|U ?_
   refine D.p 4 O jX aX (s.app0 O O (fun w hw=>Sl.to (hw.row 4 O) ae) dO aE aE O) fun v11=>?_
   refine D.p 10 O jX aX (s.app 0 _ O O O (fun w hw=>Sl.from (hw.row 5 O) ae) dO aE aE (fun _=>rfl) O) fun v12=>?_
   refine D.l [11] jX aX O<|U ?_
   refine D.p 12 O jX aX (s.lr 10 _ O O O (fun w hw=>Sl.cL (hw.row 0 O)) (.inr ⟨dh,rfl⟩) (fun w hw=>br (Sl.one (hw.row 0 O)) bV) O O O) fun _=>?_
   refine D.done<|R.dC (fuel:=7) jG O O mixed O<|D.l [0,1,2] jG aX O<|U ?_
   refine D.p 3 O jG aX (s.lr 8 _ O O O (fun _ _=>rfl) (.inl jc) (fun w hw=>xg (hw.row 2 O) (hw.row 3 O) (hw.row 4 O) (hw.row 0 O) O O) O O O) fun _=>?_
   refine D.p 4 O jG aX (s.st 7 _ O O O O (.inl m5) O O O O) fun _=>?_
   refine D.l [5,6] jG aX O<|U ?_
   refine D.done<|R.mp (fun _ hw=>hw.aR 2 _ O O)<|R.mp (fun _ hw=>hw.aR 2 _ O O)<|R.mp (fun _ hw=>hw.aR 2 _ O O)<|R.mp (fun _ hw=>hw.aR 0 _ O O) ?_
   have hz:dD r p=((⟨r.aj,r.Things,r.Held,(r.Notes.take k)++(r.Notes.drop (k+1)),r.ag,r.ai⟩:aA),x1,-1,0):=by (unfold dD;rw [if_pos mq,hix,Int.toNat_natCast,hx1,decide_eq_true ae];dsimp only;rw [if_neg ae];rfl)
   rw [hz]
   exact R.x4 (z1,z2,z3,v12) [7] [3,2,1,0]
  refine R.back (k+1) O (by exact ⟨ae,jy (p:=fun y:Note=>y.Port==(bJ r p 2 1).1.av) HA hx1 (beq_eq_false_iff_ne.2 ae)⟩) ae (sF O) (ck mM aX O)
 refine R.g9 ak av Held Note ?_
 rw [show dD r p=_ from by (have hix:idxOf (fun n:Note=>n.Port==(bJ r p 2 1).1.av) r.Notes = -1:=idxOf_miss ae HA;unfold dD;rewrite [if_pos mq,hix,show decide ((0:Int) <= -1)=false from rfl];cases r.Notes[(-1:Int).toNat]? <;> rfl) <;> rfl]
 exact R.x4 (nS,nS,nS,nS) [9] [3,2,1,0]
end
end Go.Proofs.YtnmpibjlnninjaaGreatDoor
