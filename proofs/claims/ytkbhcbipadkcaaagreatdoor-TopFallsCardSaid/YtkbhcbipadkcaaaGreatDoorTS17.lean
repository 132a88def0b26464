import Derived.Test.YtkbhcbipadkcaaaGreatDoorTS16
namespace Go.Proofs.YtkbhcbipadkcaaaGreatDoor
set_option linter.unusedVariables false
set_option linter.unusedSimpArgs false
set_option maxRecDepth 100000
set_option maxHeartbeats 90000000
section
open Go Go.RowKit
section
variable {s:oE} {d:cw} {l:List Change} {e:Int} {n m:Nat}
end
theorem xn (cG:Nat)(aM:Value)(st:kY)(bT:Value)(l:List Change)(aH:Nat)(ay aF av:Value)(dk:cw)(bC:Nat)(lg:Lg)(w:World)(own:List Nat)(H:HN w own [ag.box cG [.pointer (some ⟨aH,0,none⟩),iV st.Epoch,iV st.Side,iV st.Size,iV st.First,.pointer (some ⟨bC,0,none⟩),aM] 133,ag.box aH [ay,aF,av,iV dk.Fuse,.bool dk.Down] 112,ag.row 9 ay dk.Kept,ag.row 9 aF dk.Now,ag.row 114 av dk.Wait,ag.box bC [.pointer (some ⟨aH,0,none⟩),iV lg.From,iV lg.Many,iV lg.First,iV lg.Next] 198] [ag.ls aM st.Rows,ag.ls bT l])(hD:fM dk.Now.length 60000 dk/\dk.Now.length<=200/\166<=dk.Now.length)(hS:0<=st.Epoch/\st.Epoch<=1000000000/\0<=st.Side/\st.Side<=1/\0<=lg.Many/\lg.Many<=1000/\1<=lg.First/\lg.First<=1000000000/\0<=lg.From/\lg.From<=1000/\0<=lg.Next/\lg.Next<=1000)(hl:st.Rows.length<=60)(hF:∀c∈st.Rows,iL c=0)(hn:l.length<=10000):RC Tryz.prog 70 #[.pointer (some ⟨cG,0,none⟩),bT] H (fun _:Value×Value×Value×Value×Nat=>df (bH (mkS st lg) dk l).2.2) (fun z=>[ag.box cG [.pointer (some ⟨aH,0,none⟩),iV (bH (mkS st lg) dk l).1.c.Epoch,iV (bH (mkS st lg) dk l).1.c.Side,iV (bH (mkS st lg) dk l).1.c.Size,iV (bH (mkS st lg) dk l).1.c.First,.pointer (some ⟨z.2.2.2.2,0,none⟩),z.1] 133,ag.box aH [z.2.1,z.2.2.1,z.2.2.2.1,iV (bH (mkS st lg) dk l).2.1.Fuse,.bool (bH (mkS st lg) dk l).2.1.Down] 112,ag.row 9 z.2.1 (bH (mkS st lg) dk l).2.1.Kept,ag.row 9 z.2.2.1 (bH (mkS st lg) dk l).2.1.Now,ag.row 114 z.2.2.2.1 (bH (mkS st lg) dk l).2.1.Wait,ag.box z.2.2.2.2 [.pointer (some ⟨aH,0,none⟩),iV (bH (mkS st lg) dk l).1.L.From,iV (bH (mkS st lg) dk l).1.L.Many,iV (bH (mkS st lg) dk l).1.L.First,iV (bH (mkS st lg) dk l).1.L.Next] 198]) (fun z=>[ag.ls z.1 (bH (mkS st lg) dk l).1.c.Rows]):=by
 have dZ:=H.cap 2 rfl;have d9:=H.cE 2 rfl
 have fh:=H.cap 3 rfl;have fj:=H.cE 3 rfl
 have ea:=H.cap 4 rfl;have ec:=H.cE 4 rfl
 have tX:=H.cq 0 rfl
 have AJ:=H.cq 1 rfl
 have hal:=vC hF;have hc0:fM dk.Now.length 70000 dk/\dk.Now.length<=200/\166<=dk.Now.length:=⟨hD.1.up (by omega),hD.2.1,hD.2.2⟩;have hc1:=Kd (s:=mkS st lg) hD.1 (Nat.le_trans hal (by omega));have hc2:=hc1.nl
 have hb0:fM dk.Now.length 80000 dk/\dk.Now.length<=100000:=⟨hD.1.up (by omega),by omega⟩;have hb1:fM (cU (mkS st lg) dk).2.1.Now.length 80000 (cU (mkS st lg) dk).2.1/\(cU (mkS st lg) dk).2.1.Now.length<=100000:=⟨hc2.symm▸hc1.up (by omega),by omega⟩
 refine R.bF [(0,.pointer (some ⟨cG,0,none⟩)),(1,bT)] Tryz.func70 O O O O H<|R.reg O<|R.u 1 O<|R.nil<|R.reg O<|R.u 1 O<|R.q (q.len' (dh 1 O) O Tryz.underlying34) O<|?_
 by_cases h1:62<l.length
 .
  refine R.q (q.eM O O) O<|R.nil<|R.az O O<|R.reg O<|R.q (q.iface O br) O<|R.u 1 O<|R.nil ?_
  have hz:((bH (mkS st lg) dk l).1.c,(bH (mkS st lg) dk l).2.1,(bH (mkS st lg) dk l).1.L,(bH (mkS st lg) dk l).2.2)=(st,dk,lg,2):=by (rw [SB ‹_›];rfl)
  have hz0:(bH (mkS st lg) dk l).1.c=st:=congrArg (fun t_=>t_.1) hz
  rw [hz0]
  have hz1:(bH (mkS st lg) dk l).2.1=dk:=congrArg (fun t_=>t_.2.1) hz
  rw [hz1]
  have hz2:(bH (mkS st lg) dk l).1.L=lg:=congrArg (fun t_=>t_.2.2.1) hz
  rw [hz2]
  have hz3:(bH (mkS st lg) dk l).2.2=2:=congrArg (fun t_=>t_.2.2.2) hz
  rw [hz3]
  exact R.w1 (aM,ay,aF,av,bC) l9 [0] O Tryz.results70 (RV.tmp O) O O O (dj (by decide) O)
 refine R.q (q.ey O O) O<|R.nil<|R.aD O O<|R.reg O<|R.u 1 O<|R.q (q.len' (dh 1 O) O Tryz.underlying34) O<|R.u 1 O<|R.nil<|R.loop (fun i:Nat=>[(0,.pointer (some ⟨cG,0,none⟩)),(1,bT),(15,bT),(16,iV (l.length:Int)),(17,iV (i:Int))]) (fun i:Nat=>[ag.box cG [.pointer (some ⟨aH,0,none⟩),iV st.Epoch,iV st.Side,iV st.Size,iV st.First,.pointer (some ⟨bC,0,none⟩),aM] 133,ag.box aH [ay,aF,av,iV dk.Fuse,.bool dk.Down] 112,ag.row 9 ay dk.Kept,ag.row 9 aF dk.Now,ag.row 114 av dk.Wait,ag.box bC [.pointer (some ⟨aH,0,none⟩),iV lg.From,iV lg.Many,iV lg.First,iV lg.Next] 198,ag.held w own]) (fun i:Nat=>[ag.ls aM st.Rows,ag.ls bT l]) (fun i:Nat=>i<=l.length/\jF (l.drop i)=jF l) (fun i:Nat=>l.length-i) 0 O (by exact ⟨by omega,rfl⟩) (sF O) (iz l9 [0,1] O) ?_
 rintro i ⟨hi,HL⟩
 refine R.reg O<|?_
 by_cases h2:i<l.length
 .
  refine R.q (q.dC O O) O<|R.nil<|R.az O O<|R.reg O<|?_
  obtain ⟨x1,hx1⟩:∃z,l[i]? = some z:=⟨_,List.getElem?_eq_getElem (by omega)⟩
  have PU:=bz x1
  refine R.q (q.idx (i:=i) (dh 1 O) O O bW O hx1) O<|R.q (q.gh (ds:=fC x1) (dh 1 O) hx1 O aX O) O<|R.s O (s.alloc cC O O) fun b1=>?_
  refine R.s O (s.st 0 _ O O O O (.inl aX) O O O O) fun _=>?_
  refine R.nil<|R.reg O<|R.q (q.cT 0 O O aX) O<|R.c (q.call tJ O O (fun w hw=>(ju x1 w ))) O<|R.u 1 O<|R.nil ?_
  refine R.reg O<|R.u 1 O<|?_
  by_cases h3:iL x1=0
  .
   refine R.q (q.dx O O Tryz.underlying38) O<|R.nil<|R.aD O O<|R.reg O<|R.q (q.bA (r:=((i+1:Nat):Int)) O O) O<|R.u 1 O<|R.nil<|R.back (i+1) O (by (exact ⟨by omega,JX HL hx1 (by omega)⟩)) (by omega) (sF O) (aA [1,2,3,4,5,6,7] [0,1] O)
  refine R.q (q.dX O O Tryz.underlying38) O<|R.nil<|R.az O O<|R.reg O<|R.u 2 O<|R.nil ?_
  have hz:((bH (mkS st lg) dk l).1.c,(bH (mkS st lg) dk l).2.1,(bH (mkS st lg) dk l).1.L,(bH (mkS st lg) dk l).2.2)=(st,dk,lg,iL x1):=by (rw [SC ‹_› (Bj HL hx1 ‹_›) ‹_›];rfl)
  have hz0:(bH (mkS st lg) dk l).1.c=st:=congrArg (fun t_=>t_.1) hz
  rw [hz0]
  have hz1:(bH (mkS st lg) dk l).2.1=dk:=congrArg (fun t_=>t_.2.1) hz
  rw [hz1]
  have hz2:(bH (mkS st lg) dk l).1.L=lg:=congrArg (fun t_=>t_.2.2.1) hz
  rw [hz2]
  have hz3:(bH (mkS st lg) dk l).2.2=iL x1:=congrArg (fun t_=>t_.2.2.2) hz
  rw [hz3]
  exact R.w1 (aM,ay,aF,av,bC) [1,2,3,4,5,6,7] [0] O Tryz.results70 (RV.tmp O) O O O O
 refine R.q (q.cS O O) O<|R.nil<|R.aD O O ?_
 have g0:jF l=0:=JY HL (by omega);have V0:=kU l st.Rows
 refine R.reg O<|R.u 1 O<|R.q (q.bR O) O<|R.q (q.aP O iY O) O<|R.q (q.ld 0 O O gx O) O<|R.u 1 O<|R.s O (s.aT l9 [0,1] _ _ _ O O O Ji O O (fun w own hw H=>oA aM st.Rows bT l w own H (by omega)) O) fun z1=>?_
 refine R.u 1 O<|R.nil<|R.reg O<|R.u 1 O<|R.q (q.len' (bD 0 O) O Tryz.underlying34) O<|?_
 by_cases h4:60<(cb st.Rows l).length
 .
  refine R.q (q.eM O O) O<|R.u 12 O<|R.nil<|R.az O O<|R.reg O<|R.q (q.iface O br) O<|R.u 1 O<|R.nil ?_
  have hz:((bH (mkS st lg) dk l).1.c,(bH (mkS st lg) dk l).2.1,(bH (mkS st lg) dk l).1.L,(bH (mkS st lg) dk l).2.2)=(st,dk,lg,9):=by (rw [N5 (s:=mkS st lg) ‹_› g0 (by exact .inl ‹_›)];rfl)
  have hz0:(bH (mkS st lg) dk l).1.c=st:=congrArg (fun t_=>t_.1) hz
  rw [hz0]
  have hz1:(bH (mkS st lg) dk l).2.1=dk:=congrArg (fun t_=>t_.2.1) hz
  rw [hz1]
  have hz2:(bH (mkS st lg) dk l).1.L=lg:=congrArg (fun t_=>t_.2.2.1) hz
  rw [hz2]
  have hz3:(bH (mkS st lg) dk l).2.2=9:=congrArg (fun t_=>t_.2.2.2) hz
  rw [hz3]
  exact R.w1 (aM,ay,aF,av,bC) [1,2,3,4,5,6,7] [0] O Tryz.results70 (RV.tmp O) O O O (dj (by decide) O)
 refine R.q (q.ey O O) O<|R.u 2 O<|R.qg O (q.len' (dh 1 O) O Tryz.underlying34) O<|R.qg O (q.bA (r:=((l.length+1:Nat):Int)) O O) O<|R.u 1 O<|R.qg O (q.bR O) O<|R.qg O (q.aP O jV O) O<|R.qg O (q.ld 1 O O jm O) O<|R.cg O (q.call uB O O (fun w hw=>(gB aH ay aF av dk w (hw.b 2 O) (hw.row 3 O) (hw.row 4 O) (hw.row 5 O) ))) O<|R.qg O (q.lS (r:=((dk.Now.length-102:Nat):Int)) O O) O<|?_
 by_cases h5:(dk.Now.length-102)<(l.length+1)
 .
  refine R.qg O (q.eM O O) O<|R.u 1 O<|R.nil<|R.az O O<|R.reg O<|R.q (q.iface O br) O<|R.u 1 O<|R.nil ?_
  have hz:((bH (mkS st lg) dk l).1.c,(bH (mkS st lg) dk l).2.1,(bH (mkS st lg) dk l).1.L,(bH (mkS st lg) dk l).2.2)=(st,dk,lg,9):=by (rw [N5 (s:=mkS st lg) ‹_› g0 (by exact .inr (by omega))];rfl)
  have hz0:(bH (mkS st lg) dk l).1.c=st:=congrArg (fun t_=>t_.1) hz
  rw [hz0]
  have hz1:(bH (mkS st lg) dk l).2.1=dk:=congrArg (fun t_=>t_.2.1) hz
  rw [hz1]
  have hz2:(bH (mkS st lg) dk l).1.L=lg:=congrArg (fun t_=>t_.2.2.1) hz
  rw [hz2]
  have hz3:(bH (mkS st lg) dk l).2.2=9:=congrArg (fun t_=>t_.2.2.2) hz
  rw [hz3]
  exact R.w1 (aM,ay,aF,av,bC) [1,2,3,4,5,6,7] [0] O Tryz.results70 (RV.tmp O) O O O (dj (by decide) O)
 refine R.qg O (q.ey O O) O<|R.u 1 O<|R.nil<|R.aD O O<|R.reg O<|R.u 1 O<|R.q (q.len' (dh 1 O) O Tryz.underlying34) O<|R.q (q.bA (r:=((l.length+1:Nat):Int)) O O) O<|R.u 1 O<|R.q (q.bR O) O<|R.q (q.aP O kN O) O<|R.q (q.ld 1 O O fD O) O<|R.c (q.call EE O O (fun w hw=>(wX bC aH lg w (hw.b 6 O) (by omega)))) O<|?_
 by_cases h6:lg.Many-lg.Next<((l.length+1):Int)
 .
  refine R.q (q.eM O O) O<|R.nil<|R.az O O<|R.reg O<|R.u 1 O<|R.s O (s.aT [1,2,3,4,5,6,0,7] [0] _ _ _ O O O RQ O O (fun w own hw H=>Kt cG aM st aH ay aF av dk bC lg w own H ‹_› (by omega) (by omega) ‹_›) O) ?_
  rintro ⟨z2,z3,z4,z5,z6⟩
  dsimp only
  refine R.u 1 O<|R.nil ?_
  have hk:(cU (mkS st lg) dk).2.2=0->0<=(cU (mkS st lg) dk).1.L.From/\(cU (mkS st lg) dk).1.L.From<=1000000000/\0<=(cU (mkS st lg) dk).1.L.Next/\(cU (mkS st lg) dk).1.L.Next<=1000000000/\0<=(cU (mkS st lg) dk).1.L.First/\(cU (mkS st lg) dk).1.L.First<=4000000000000000000/\0<=(cU (mkS st lg) dk).1.L.Many/\(cU (mkS st lg) dk).1.L.Many<=1000000000:=fun hk1=>by have hk3:=Mv (cU (mkS st lg) dk).2.1 102 (((cU (mkS st lg) dk).2.1.Now.length:Int)-102).toNat ((mkS st lg).L.First+(mkS st lg).L.Many);rw [P3 hk1];unfold Sq;dsimp only;have e1:(mkS st lg).L.First=lg.First:=rfl;have e2:(mkS st lg).L.Many=lg.Many:=rfl;refine ⟨?_,?_,?_,?_,?_,?_,?_,?_⟩ <;> omega
  refine R.reg O<|R.u 1 O<|?_
  by_cases h7:(cU (mkS st lg) dk).2.2=0
  .
   refine R.q (q.dx O O Tryz.underlying38) O<|R.nil<|R.aD O O ?_
   (have hkk:=hk ‹_›)
   refine R.reg O<|R.u 1 O<|R.q (q.bR O) O<|R.q (q.aP O kN O) O<|R.q (q.ld 0 O O fD O) O<|R.u 1 O<|R.s O (s.aT [5,1,2,3,4,0,6,7] [2] _ _ _ O O O Jn O O (fun w own hw H=>Gq z6 (cU (mkS st lg) dk).1.L bT l aH z3 z4 z5 (cU (mkS st lg) dk).2.1 w own H ‹_› ‹_›) O) ?_
   rintro ⟨z7,z8,z9⟩
   dsimp only
   refine R.u 1 O<|R.nil<|R.reg O<|R.u 1 O<|?_
   by_cases h8:(cy (cU (mkS st lg) dk).1.L (cU (mkS st lg) dk).2.1 l).2.2=0
   .
    refine R.q (q.lP O O Tryz.underlying38) O<|R.nil<|R.az O O<|R.reg O<|R.u 2 O<|R.q (q.bR O) O<|R.q (q.aP O iY O) O<|R.s O (s.fP 5 _ O O O (fun w hw=>Sl.cr (hw.row 6 O)) (.inr ⟨gx,rfl⟩) (fun w hw=>(ae (Sl.one (hw.row 6 O)) aO)) O O O) fun _=>?_
    refine R.nil<|R.reg O<|R.u 2 O<|R.nil<|R.mp (fun _ hw=>hw.cW 6 _ O O) ?_
    have hz:((bH (mkS st lg) dk l).1.c,(bH (mkS st lg) dk l).2.1,(bH (mkS st lg) dk l).1.L,(bH (mkS st lg) dk l).2.2)=((⟨((cU (mkS st lg) dk).1.c).Epoch,(cU (mkS st lg) dk).1.c.Side,(cU (mkS st lg) dk).1.c.Size,(cU (mkS st lg) dk).1.c.First,cb st.Rows l⟩:kY),(cy (cU (mkS st lg) dk).1.L (cU (mkS st lg) dk).2.1 l).2.1,(cy (cU (mkS st lg) dk).1.L (cU (mkS st lg) dk).2.1 l).1,(cy (cU (mkS st lg) dk).1.L (cU (mkS st lg) dk).2.1 l).2.2):=by (have hf:=xe (s:=mkS st lg) (d:=dk) (l:=l) ‹_› g0 (by intro hh;rcases hh with hh|hh <;> first|(exact absurd hh ‹_›)|omega);(rw [N7 hf (by show lg.Many-lg.Next<_;omega) ‹_› ‹_›];rfl))
    have hz0:(bH (mkS st lg) dk l).1.c=(⟨((cU (mkS st lg) dk).1.c).Epoch,(cU (mkS st lg) dk).1.c.Side,(cU (mkS st lg) dk).1.c.Size,(cU (mkS st lg) dk).1.c.First,cb st.Rows l⟩:kY):=congrArg (fun t_=>t_.1) hz
    rw [hz0]
    have hz1:(bH (mkS st lg) dk l).2.1=(cy (cU (mkS st lg) dk).1.L (cU (mkS st lg) dk).2.1 l).2.1:=congrArg (fun t_=>t_.2.1) hz
    rw [hz1]
    have hz2:(bH (mkS st lg) dk l).1.L=(cy (cU (mkS st lg) dk).1.L (cU (mkS st lg) dk).2.1 l).1:=congrArg (fun t_=>t_.2.2.1) hz
    rw [hz2]
    have hz3:(bH (mkS st lg) dk l).2.2=(cy (cU (mkS st lg) dk).1.L (cU (mkS st lg) dk).2.1 l).2.2:=congrArg (fun t_=>t_.2.2.2) hz
    rw [hz3]
    exact R.w1 (z1,z7,z8,z9,z6) [5,1,2,3,4,0,6] [0] O Tryz.results70 (RV.tmp O) O O O O
   refine R.q (q.jx O O Tryz.underlying38) O<|R.nil<|R.aD O O<|R.reg O<|R.u 2 O<|R.nil ?_
   have hz:((bH (mkS st lg) dk l).1.c,(bH (mkS st lg) dk l).2.1,(bH (mkS st lg) dk l).1.L,(bH (mkS st lg) dk l).2.2)=(((cU (mkS st lg) dk).1.c),(cy (cU (mkS st lg) dk).1.L (cU (mkS st lg) dk).2.1 l).2.1,(cy (cU (mkS st lg) dk).1.L (cU (mkS st lg) dk).2.1 l).1,(cy (cU (mkS st lg) dk).1.L (cU (mkS st lg) dk).2.1 l).2.2):=by (have hf:=xe (s:=mkS st lg) (d:=dk) (l:=l) ‹_› g0 (by intro hh;rcases hh with hh|hh <;> first|(exact absurd hh ‹_›)|omega);(rw [N8 hf (by show lg.Many-lg.Next<_;omega) ‹_› ‹_›];rfl))
   have hz0:(bH (mkS st lg) dk l).1.c=(cU (mkS st lg) dk).1.c:=congrArg (fun t_=>t_.1) hz
   rw [hz0]
   have hz1:(bH (mkS st lg) dk l).2.1=(cy (cU (mkS st lg) dk).1.L (cU (mkS st lg) dk).2.1 l).2.1:=congrArg (fun t_=>t_.2.1) hz
   rw [hz1]
   have hz2:(bH (mkS st lg) dk l).1.L=(cy (cU (mkS st lg) dk).1.L (cU (mkS st lg) dk).2.1 l).1:=congrArg (fun t_=>t_.2.2.1) hz
   rw [hz2]
   have hz3:(bH (mkS st lg) dk l).2.2=(cy (cU (mkS st lg) dk).1.L (cU (mkS st lg) dk).2.1 l).2.2:=congrArg (fun t_=>t_.2.2.2) hz
   rw [hz3]
   exact R.w1 (z2,z7,z8,z9,z6) [5,1,2,3,4,0,7] [0] O Tryz.results70 (RV.tmp O) O O O O
  refine R.q (q.dX O O Tryz.underlying38) O<|R.nil<|R.az O O<|R.reg O<|R.u 2 O<|R.nil ?_
  have hz:((bH (mkS st lg) dk l).1.c,(bH (mkS st lg) dk l).2.1,(bH (mkS st lg) dk l).1.L,(bH (mkS st lg) dk l).2.2)=(((cU (mkS st lg) dk).1.c),(cU (mkS st lg) dk).2.1,(cU (mkS st lg) dk).1.L,(cU (mkS st lg) dk).2.2):=by (have hf:=xe (s:=mkS st lg) (d:=dk) (l:=l) ‹_› g0 (by intro hh;rcases hh with hh|hh <;> first|(exact absurd hh ‹_›)|omega);(rw [N6 hf (by show lg.Many-lg.Next<_;omega) ‹_›]))
  have hz0:(bH (mkS st lg) dk l).1.c=(cU (mkS st lg) dk).1.c:=congrArg (fun t_=>t_.1) hz
  rw [hz0]
  have hz1:(bH (mkS st lg) dk l).2.1=(cU (mkS st lg) dk).2.1:=congrArg (fun t_=>t_.2.1) hz
  rw [hz1]
  have hz2:(bH (mkS st lg) dk l).1.L=(cU (mkS st lg) dk).1.L:=congrArg (fun t_=>t_.2.2.1) hz
  rw [hz2]
  have hz3:(bH (mkS st lg) dk l).2.2=(cU (mkS st lg) dk).2.2:=congrArg (fun t_=>t_.2.2.2) hz
  rw [hz3]
  exact R.w1 (z2,z3,z4,z5,z6) Ch [0] O Tryz.results70 (RV.tmp O) O O O O
 refine R.q (q.ey O O) O<|R.nil<|R.aD O O ?_
 skip
 refine R.reg O<|R.u 1 O<|R.q (q.bR O) O<|R.q (q.aP O kN O) O<|R.q (q.ld 1 O O fD O) O<|R.u 1 O<|R.s O (s.aT [6,2,3,4,5,0,1,7] [1] _ _ _ O O O Jn O O (fun w own hw H=>Gq bC lg bT l aH ay aF av dk w own H (by omega) ‹_›) O) ?_
 rintro ⟨mG,l5,z12⟩
 dsimp only
 refine R.u 1 O<|R.nil<|R.reg O<|R.u 1 O<|?_
 by_cases h9:(cy lg dk l).2.2=0
 .
  refine R.q (q.lP O O Tryz.underlying38) O<|R.nil<|R.az O O<|R.reg O<|R.u 2 O<|R.q (q.bR O) O<|R.q (q.aP O iY O) O<|R.s O (s.fP 6 _ O O O (fun w hw=>Sl.cr (hw.row 5 O)) (.inr ⟨gx,rfl⟩) (fun w hw=>(ae (Sl.one (hw.row 5 O)) aO)) O O O) fun _=>?_
  refine R.nil<|R.reg O<|R.u 2 O<|R.nil<|R.mp (fun _ hw=>hw.cW 5 _ O O) ?_
  have hz:((bH (mkS st lg) dk l).1.c,(bH (mkS st lg) dk l).2.1,(bH (mkS st lg) dk l).1.L,(bH (mkS st lg) dk l).2.2)=((⟨st.Epoch,st.Side,st.Size,st.First,cb st.Rows l⟩:kY),(cy lg dk l).2.1,(cy lg dk l).1,(cy lg dk l).2.2):=by (have hf:=xe (s:=mkS st lg) (d:=dk) (l:=l) ‹_› g0 (by intro hh;rcases hh with hh|hh <;> first|(exact absurd hh ‹_›)|omega);(rw [N9 hf (by show ¬ lg.Many-lg.Next<_;omega) ‹_›];rfl))
  have hz0:(bH (mkS st lg) dk l).1.c=(⟨st.Epoch,st.Side,st.Size,st.First,cb st.Rows l⟩:kY):=congrArg (fun t_=>t_.1) hz
  rw [hz0]
  have hz1:(bH (mkS st lg) dk l).2.1=(cy lg dk l).2.1:=congrArg (fun t_=>t_.2.1) hz
  rw [hz1]
  have hz2:(bH (mkS st lg) dk l).1.L=(cy lg dk l).1:=congrArg (fun t_=>t_.2.2.1) hz
  rw [hz2]
  have hz3:(bH (mkS st lg) dk l).2.2=(cy lg dk l).2.2:=congrArg (fun t_=>t_.2.2.2) hz
  rw [hz3]
  exact R.w1 (z1,mG,l5,z12,bC) [5,1,2,3,4,0,6] [0] O Tryz.results70 (RV.tmp O) O O O O
 refine R.q (q.jx O O Tryz.underlying38) O<|R.nil<|R.aD O O<|R.reg O<|R.u 2 O<|R.nil ?_
 have hz:((bH (mkS st lg) dk l).1.c,(bH (mkS st lg) dk l).2.1,(bH (mkS st lg) dk l).1.L,(bH (mkS st lg) dk l).2.2)=(st,(cy lg dk l).2.1,(cy lg dk l).1,(cy lg dk l).2.2):=by (have hf:=xe (s:=mkS st lg) (d:=dk) (l:=l) ‹_› g0 (by intro hh;rcases hh with hh|hh <;> first|(exact absurd hh ‹_›)|omega);(rw [Oa hf (by show ¬ lg.Many-lg.Next<_;omega) ‹_›];rfl))
 have hz0:(bH (mkS st lg) dk l).1.c=st:=congrArg (fun t_=>t_.1) hz
 rw [hz0]
 have hz1:(bH (mkS st lg) dk l).2.1=(cy lg dk l).2.1:=congrArg (fun t_=>t_.2.1) hz
 rw [hz1]
 have hz2:(bH (mkS st lg) dk l).1.L=(cy lg dk l).1:=congrArg (fun t_=>t_.2.2.1) hz
 rw [hz2]
 have hz3:(bH (mkS st lg) dk l).2.2=(cy lg dk l).2.2:=congrArg (fun t_=>t_.2.2.2) hz
 rw [hz3]
 exact R.w1 (aM,mG,l5,z12,bC) [6,1,2,3,4,0,7] [0] O Tryz.results70 (RV.tmp O) O O O O
end
section
open Go.RowKit
def dz (r:Int):Int:=if r<0 then 1 else if 7<r then 1 else 0
theorem gN {r:Int}(h0:0<=r)(h7:r<=7):dz r=0:=by unfold dz;rw [if_neg (by omega),if_neg (by omega)]
theorem my {r:Int}(h:r<0∨7<r):dz r=1:=by unfold dz;split;rfl;rw [if_pos (by omega)]
theorem hG (r:Int):(dz r=1/\(r<0∨7<r))∨(dz r=0/\0<=r/\r<=7):=by
 by_cases h:r<0∨7<r
 .exact .inl ⟨my h,h⟩
 .exact .inr ⟨gN (by omega) (by omega),by omega,by omega⟩
def je (r need:Int):Bool:=(r.toNat &&& need.toNat)==need.toNat
theorem E7 {r:Int}(h0:0<=r)(h7:r<=7):∃x:Fin 8,r=((x:Nat):Int):=⟨⟨r.toNat,by omega⟩,by simp;omega⟩
def cu (w:ak):Int :=
  if w.ID<1 then 1 else if 999<w.ID then 1 else if w.aE<1 then 1 else if 999<w.aE then 1 else if w.aQ<0 then 1 else if 99<w.aQ then 1 else
  if w.From<0 then 1 else if w.ID<=w.From then 1 else dz w.Rights
theorem gu (x:ak):(cu x=1/\(x.ID<1∨999<x.ID∨x.aE<1∨999<x.aE∨x.aQ<0∨99<x.aQ∨x.From<0∨x.ID<=x.From∨x.Rights<0∨7<x.Rights)) ∨
 (cu x=0/\1<=x.ID/\x.ID<=999/\1<=x.aE/\x.aE<=999/\0<=x.aQ/\x.aQ<=99/\0<=x.From/\x.From<x.ID/\0<=x.Rights/\x.Rights<=7):=by
 unfold cu dz;(repeat' split) <;> first|(left;exact ⟨rfl,by omega⟩)|(right;exact ⟨rfl,by omega⟩)
def jI:ak:=⟨0,0,0,0,0⟩
def derived (w:ak)(id rights dI:Int):ak×Int :=
  if dz rights=1 then (jI,1) else if dI<0 then (jI,1) else if 99<dI then (jI,1) else
  if je w.Rights rights=false then (jI,7) else
  if dI≠0/\w.aQ≠0/\dI≠w.aQ then (jI,7) else
  (⟨id,w.aE,rights,if dI=0 then w.aQ else dI,w.ID⟩,0)
def cD (l:List ak)(id:Int):Int:=match l.findIdx? (fun w=>w.ID==id) with|some i=>i|none => -1
theorem fk (l:List ak)(id:Int):(cD l id = -1 /\ ∀x∈l,¬ x.ID=id) ∨ ∃ (k:Nat) (h:k<l.length),cD l id=k/\l[k].ID=id /\ ∀j (hj:j<k),¬ (l[j]'(by omega)).ID=id:=by
 unfold cD
 cases h:l.findIdx? (fun w=>w.ID==id) with
 | none =>
  left
  refine ⟨rfl,fun x hx=>?_⟩
  have:=List.findIdx?_eq_none_iff.1 h x hx
  simpa using this
 | some k =>
  right
  obtain ⟨hk,h1,h2⟩:=List.findIdx?_eq_some_iff_getElem.1 h
  exact ⟨k,hk,rfl,by simpa using h1,fun j hj=>by simpa using h2 j hj⟩
theorem Kx {l:List ak}{id:Int}{k:Nat}(hk:k<l.length)(h1:l[k].ID=id)(h2:∀j x,j<k->l[j]? = some x->¬ x.ID=id):cD l id=k:=by
 unfold cD
 rw [List.findIdx?_eq_some_iff_getElem.2 ⟨hk,by simpa using h1,fun j hj=>by
  have:=h2 j l[j] hj (List.getElem?_eq_getElem (by omega));simpa using this⟩]
end
section
open Go.RowKit
theorem zB (a:Nat)(ha:a<9223372036854775808):(BitVec.ofInt 64 (a:Int)).toNat=a:=by
 rw [BitVec.ofInt_natCast,BitVec.toNat_ofNat];exact Nat.mod_eq_of_lt (by omega)
theorem Dk (a b:Nat)(ha:a<9223372036854775808)(hb:b<9223372036854775808):bits .and .i64 (a:Int) (b:Int)=((a &&& b:Nat):Int):=by
 have hx:a &&& b<2 ^ 63:=Nat.and_lt_two_pow _ (by omega)
 show IntKind.i64.wrap ((BitVec.ofInt 64 (a:Int) &&& BitVec.ofInt 64 (b:Int)).toNat:Int)=_
 rw [BitVec.toNat_and,zB a ha,zB b hb,IntKind.wrap_i64]
 omega
theorem Gv {r n:Int}{b:Bool}(r0:0<=r)(r7:r<=7)(n0:0<=n)(n7:n<=7)(h:(bits .and .i64 r n==n)=b):b=je r n:=by
 rw [<- h]
 obtain ⟨a,rfl⟩:=Int.eq_ofNat_of_zero_le r0
 obtain ⟨b,rfl⟩:=Int.eq_ofNat_of_zero_le n0
 rw [Dk a b (by omega) (by omega)]
 unfold je
 simp only [Int.toNat_natCast]
 rw [Bool.eq_iff_iff];simp only [beq_iff_eq];omega
theorem o6 {r:Int}(h:dz r=0):0<=r/\r<=7:=by
 rcases hG r with ⟨h1,_⟩ | ⟨_,h2⟩
 .omega
 .exact h2
theorem dM {r:Int}(h:¬ dz r=0):dz r=1:=by
 rcases hG r with ⟨h1,_⟩ | ⟨h1,_⟩
 .exact h1
 .exact absurd h1 h
theorem e9 {x:ak}(h:x.ID<1∨999<x.ID∨x.aE<1∨999<x.aE∨x.aQ<0∨99<x.aQ∨x.From<0∨x.ID<=x.From∨x.Rights<0∨7<x.Rights):cu x=1:=by
 rcases gu x with ⟨h1,_⟩ | ⟨_,h2⟩
 .exact h1
 .omega
theorem oH {x:ak}(h:1<=x.ID/\x.ID<=999/\1<=x.aE/\x.aE<=999/\0<=x.aQ/\x.aQ<=99/\0<=x.From/\x.From<x.ID/\0<=x.Rights/\x.Rights<=7):cu x=0:=by
 rcases gu x with ⟨_,h2⟩ | ⟨h1,_⟩
 .omega
 .exact h1
theorem xo {x:ak}(h:1<=x.ID/\x.ID<=999/\1<=x.aE/\x.aE<=999/\0<=x.aQ/\x.aQ<=99/\0<=x.From/\x.From<x.ID):cu x=dz x.Rights:=by
 rcases hG x.Rights with ⟨h1,h2⟩ | ⟨h1,h2⟩
 .rw [h1,e9 (by omega)]
 .rw [h1,oH (by omega)]
theorem rV {x:ak}{id r b:Int}(h:¬ dz r=0):derived x id r b=(jI,1):=by
 have:dz r=1:=by rcases hG r with ⟨h1,_⟩ | ⟨h1,_⟩;exact h1;exact absurd h1 h
 unfold derived;rw [if_pos this]
theorem qJ {x:ak}{id r b:Int}(h:r<0∨7<r∨b<0∨99<b):derived x id r b=(jI,1):=by
 by_cases h1:dz r=0
 .
  have:=o6 h1
  unfold derived;rw [if_neg (by rw [h1];decide)];split;rfl;rw [if_pos (by omega)]
 .exact rV h1
theorem xp {x:ak}{id r b:Int}(h:0<=r/\r<=7/\0<=b/\b<=99)(hh:je x.Rights r=false):derived x id r b=(jI,7):=by
 unfold derived;rw [if_neg (by rw [gN h.1 h.2.1];decide),if_neg (by omega),if_neg (by omega),if_pos hh]
theorem xq {x:ak}{id r b:Int}(h:0<=r/\r<=7/\0<=b/\b<=99)(hh:je x.Rights r=true)(hc:¬ b=0/\¬ x.aQ=0/\¬ b=x.aQ):derived x id r b=(jI,7):=by
 unfold derived;rw [if_neg (by rw [gN h.1 h.2.1];decide),if_neg (by omega),if_neg (by omega),if_neg (by rw [hh];decide),if_pos hc]
theorem rW {x:ak}{id r b:Int}(h:0<=r/\r<=7/\0<=b/\b<=99)(hh:je x.Rights r=true)(hc:b=0):derived x id r b=(⟨id,x.aE,r,x.aQ,x.ID⟩,0):=by
 unfold derived;rw [if_neg (by rw [gN h.1 h.2.1];decide),if_neg (by omega),if_neg (by omega),if_neg (by rw [hh];decide),if_neg (by omega),if_pos hc]
theorem rX {x:ak}{id r b:Int}(h:0<=r/\r<=7/\0<=b/\b<=99)(hh:je x.Rights r=true)(hc:¬ b=0)(hc2:x.aQ=0∨b=x.aQ):derived x id r b=(⟨id,x.aE,r,b,x.ID⟩,0):=by
 unfold derived;rw [if_neg (by rw [gN h.1 h.2.1];decide),if_neg (by omega),if_neg (by omega),if_neg (by rw [hh];decide),if_neg (by omega),if_neg hc]
theorem xt {x:ak}{id r b:Int}(h:0<=r/\r<=7/\0<=b/\b<=99)(hh:je x.Rights r=true)(hc:¬ x.aQ=0)(hc2:b=0∨b=x.aQ):derived x id r b=(⟨id,x.aE,r,x.aQ,x.ID⟩,0):=by
 by_cases hb:b=0
 .exact rW h hh hb
 .rw [rX h hh hb (by omega),show b=x.aQ by omega]
def idxOf {α:Type}(p:α->Bool)(l:List α):Int:=match l.findIdx? p with|some i=>i|none => -1
theorem idxOf_hit {α:Type}{p:α->Bool}{l:List α}{k:Nat}{x:α}(hk:l[k]? = some x)(h1:p x=true)(h2:∀ (j:Nat) x,j<k->l[j]? = some x->p x=false):idxOf p l=k:=by
 obtain ⟨hk',rfl⟩:=List.getElem?_eq_some_iff.1 hk
 unfold idxOf
 rw [List.findIdx?_eq_some_iff_getElem.2 ⟨hk',h1,fun j hj=>by
  have:=h2 j l[j] hj (List.getElem?_eq_getElem (by omega));simp [this]⟩]
theorem idxOf_miss {α:Type}{p:α->Bool}{l:List α}{k:Nat}(hk:¬ k<l.length)(h:∀ (j:Nat) x,j<k->l[j]? = some x->p x=false):idxOf p l = -1:=by
 unfold idxOf
 rw [List.findIdx?_eq_none_iff.2 (fun x hx=>by obtain ⟨j,hj⟩:=List.mem_iff_getElem?.1 hx;exact h j x (by have:=(List.getElem?_eq_some_iff.1 hj).1;omega) hj)]
theorem nU {α:Type}{p:α->Bool}{l:List α}{k:Nat}{x:α}(h:∀ (j:Nat) x,j<k->l[j]? = some x->p x=false)(hx:l[k]? = some x)(hp:p x=false):∀ (j:Nat) x,j<k+1->l[j]? = some x->p x=false:=by
 intro j y hj hy
 rcases Nat.lt_or_ge j k with h1|h1
 .exact h j y h1 hy
 .
  have:j=k:=by omega
  subst this;rw [hx] at hy;injection hy with hy;subst hy;exact hp
end
section
open Go Go.RowKit
theorem qa (r:Int)(w:World):Calls Tryz.prog 170 #[iV r] w fun e w'=>e = .returned (df (dz r))/\Ext w w':=by
 refine R.enter [] [(0,iV r)] Tryz.func170 O O O O<|R.reg O<|R.u 1 O<|R.nil<|R.reg O<|R.u 1 O<|?_
 by_cases h1:r<0
 .
  exact R.q (q.dC O O) O<|R.u 4 O<|R.nil<|R.az O O<|R.reg O<|R.q (q.iface O br) O<|R.u 1 O<|R.nil<|R.rv O Tryz.results170 O (dj (by decide) (by (exact my (by omega))))
 refine R.q (q.cS O O) O<|R.u 2 O<|?_
 by_cases h2:7<r
 .
  exact R.qg O (q.eM O O) O<|R.u 1 O<|R.nil<|R.az O O<|R.reg O<|R.q (q.iface O br) O<|R.u 1 O<|R.nil<|R.rv O Tryz.results170 O (dj (by decide) (by (exact my (by omega))))
 exact R.qg O (q.ey O O) O<|R.u 1 O<|R.nil<|R.aD O O<|R.reg O<|R.u 1 O<|R.nil<|R.rv O Tryz.results170 O (iJ (by (exact gN (by omega) (by omega))))
theorem gG (r:Int)(n:Int)(w:World)(r0:0<=r/\r<=7)(n0:0<=n/\n<=7):Calls Tryz.prog 119 #[iV r,iV n] w fun e w'=>e = .returned (.bool (je r n))/\Ext w w':=by
 refine R.enter [] [(0,iV r),(1,iV n)] Tryz.func119 O O O O<|R.reg O<|R.u 1 O<|R.nil<|R.reg O<|R.u 2 O<|R.q (q.and O O O) O<|R.u 1 O<|?_
 by_cases h1:(bits .and .i64 r n)=n
 .
  exact R.q (q.fI O O) O<|R.u 1 O<|R.nil<|R.rv O Tryz.results119 O (rB (by (exact Gv r0.1 r0.2 n0.1 n0.2 (by exact beq_iff_eq.2 ‹_›))))
 exact R.q (q.eU O O) O<|R.u 1 O<|R.nil<|R.rv O Tryz.results119 O (rB (by (exact Gv r0.1 r0.2 n0.1 n0.2 (by exact beq_eq_false_iff_ne.2 ‹_›))))
theorem yF (x:ak)(w:World):Calls Tryz.prog 188 #[.agg #[iV x.ID,iV x.aE,iV x.Rights,iV x.aQ,iV x.From]] w fun e w'=>e = .returned (df (cu x))/\Ext w w':=by
 refine R.enter [] [(0,.agg #[iV x.ID,iV x.aE,iV x.Rights,iV x.aQ,iV x.From])] Tryz.func188 O O O O<|R.reg O<|R.s O (s.box O O O) fun b1=>?_
 refine R.u 1 O<|R.nil<|R.reg O<|R.q (q.aP O bX O) O<|R.q (q.ld 0 O O ap O) O<|?_
 by_cases h1:x.ID<1
 .
  exact R.q (q.dC O O) O<|R.u 37 O<|R.nil<|R.az O O<|R.reg O<|R.q (q.iface O br) O<|R.u 1 O<|R.nil<|R.rv O Tryz.results188 O (dj (by decide) (by (exact e9 (by omega))))
 refine R.q (q.cS O O) O<|R.u 1 O<|R.qg O (q.aP O bX O) O<|R.qg O (q.ld 0 O O ap O) O<|?_
 by_cases h2:999<x.ID
 .
  exact R.qg O (q.eM O O) O<|R.u 33 O<|R.nil<|R.az O O<|R.reg O<|R.q (q.iface O br) O<|R.u 1 O<|R.nil<|R.rv O Tryz.results188 O (dj (by decide) (by (exact e9 (by omega))))
 refine R.qg O (q.ey O O) O<|R.u 2 O<|R.qg O (q.aP O fU O) O<|R.qg O (q.ld 0 O O ap O) O<|?_
 by_cases h3:x.aE<1
 .
  exact R.qg O (q.dC O O) O<|R.u 28 O<|R.nil<|R.az O O<|R.reg O<|R.q (q.iface O br) O<|R.u 1 O<|R.nil<|R.rv O Tryz.results188 O (dj (by decide) (by (exact e9 (by omega))))
 refine R.qg O (q.cS O O) O<|R.u 2 O<|R.qg O (q.aP O fU O) O<|R.qg O (q.ld 0 O O ap O) O<|?_
 by_cases h4:999<x.aE
 .
  exact R.qg O (q.eM O O) O<|R.u 23 O<|R.nil<|R.az O O<|R.reg O<|R.q (q.iface O br) O<|R.u 1 O<|R.nil<|R.rv O Tryz.results188 O (dj (by decide) (by (exact e9 (by omega))))
 refine R.qg O (q.ey O O) O<|R.u 2 O<|R.qg O (q.aP O iU O) O<|R.qg O (q.ld 0 O O ap O) O<|?_
 by_cases h5:x.aQ<0
 .
  exact R.qg O (q.dC O O) O<|R.u 18 O<|R.nil<|R.az O O<|R.reg O<|R.q (q.iface O br) O<|R.u 1 O<|R.nil<|R.rv O Tryz.results188 O (dj (by decide) (by (exact e9 (by omega))))
 refine R.qg O (q.cS O O) O<|R.u 2 O<|R.qg O (q.aP O iU O) O<|R.qg O (q.ld 0 O O ap O) O<|?_
 by_cases h6:99<x.aQ
 .
  exact R.qg O (q.eM O O) O<|R.u 13 O<|R.nil<|R.az O O<|R.reg O<|R.q (q.iface O br) O<|R.u 1 O<|R.nil<|R.rv O Tryz.results188 O (dj (by decide) (by (exact e9 (by omega))))
 refine R.qg O (q.ey O O) O<|R.u 2 O<|R.qg O (q.aP O eW O) O<|R.qg O (q.ld 0 O O ap O) O<|?_
 by_cases h7:x.From<0
 .
  exact R.qg O (q.dC O O) O<|R.u 8 O<|R.nil<|R.az O O<|R.reg O<|R.q (q.iface O br) O<|R.u 1 O<|R.nil<|R.rv O Tryz.results188 O (dj (by decide) (by (exact e9 (by omega))))
 refine R.qg O (q.cS O O) O<|R.u 2 O<|R.qg O (q.aP O eW O) O<|R.qg O (q.ld 0 O O ap O) O<|R.qg O (q.aP O bX O) O<|R.qg O (q.ld 0 O O ap O) O<|?_
 by_cases h8:x.From<x.ID
 .
  refine R.qg O (q.IQ O O) O<|R.u 1 O<|R.nil<|R.aD O O<|R.reg O<|R.q (q.aP O jT O) O<|R.q (q.ld 0 O O ap O) O<|R.c (q.call Js O O (fun w hw=>(qa x.Rights w ))) O<|R.u 1 O<|R.nil ?_
  exact R.rv O Tryz.results188 O (rE (by (exact (xo (by omega)).symm)))
 exact R.qg O (q.G3 O O) O<|R.u 1 O<|R.nil<|R.az O O<|R.reg O<|R.q (q.iface O br) O<|R.u 1 O<|R.nil<|R.rv O Tryz.results188 O (dj (by decide) (by (exact e9 (by omega))))
theorem mA (x:ak)(id:Int)(r:Int)(b:Int)(w:World)(x0:0<=x.Rights/\x.Rights<=7):Calls Tryz.prog 120 #[.agg #[iV x.ID,iV x.aE,iV x.Rights,iV x.aQ,iV x.From],iV id,iV r,iV b] w fun e w'=>e = .returned (.tuple #[ak.val (derived x id r b).1,df (derived x id r b).2])/\Ext w w':=by
 refine R.enter [] [(0,.agg #[iV x.ID,iV x.aE,iV x.Rights,iV x.aQ,iV x.From]),(1,iV id),(2,iV r),(3,iV b)] Tryz.func120 O O O O<|R.reg O<|R.s O (s.box O O O) fun b1=>?_
 refine R.s O (s.alloc bQ O O) fun b2=>?_
 refine R.u 1 O<|R.nil<|R.reg O<|R.u 1 O<|R.c (q.call Js O O (fun w hw=>(qa r w ))) O<|R.u 1 O<|R.nil ?_
 refine R.reg O<|R.u 1 O<|?_
 by_cases h1:dz r=0
 .
  refine R.q (q.dx O O Tryz.underlying38) O<|R.u 1 O<|R.nil<|R.aD O O ?_
  have hr:=o6 ‹_›
  refine R.reg O<|R.u 1 O<|?_
  by_cases h2:b<0
  .
   refine R.q (q.dC O O) O<|R.u 5 O<|R.nil<|R.az O O<|R.reg O<|R.q (q.build iT O O) O<|R.q (q.iface O br) O<|R.s O (s.st 0 _ O O O O (.inl aN) O O O O) fun _=>?_
   exact R.u 1 O<|R.nil<|R.Cc O Tryz.results120 (RV.cell 0 O O aN) (RV.tmp O) (congrArg ak.val (show (⟨0,0,0,0,0⟩:ak)=(derived x id r b).1 from by ((rw [qJ (by omega)]) <;> rfl))) (dj (by decide) (by ((rw [qJ (by omega)]) <;> first|rfl|exact dM ‹_› | (simp;omega))))
  refine R.q (q.cS O O) O<|R.u 2 O<|?_
  by_cases h3:99<b
  .
   refine R.qg O (q.eM O O) O<|R.u 2 O<|R.nil<|R.az O O<|R.reg O<|R.q (q.build iT O O) O<|R.q (q.iface O br) O<|R.s O (s.st 0 _ O O O O (.inl aN) O O O O) fun _=>?_
   exact R.u 1 O<|R.nil<|R.Cc O Tryz.results120 (RV.cell 0 O O aN) (RV.tmp O) (congrArg ak.val (show (⟨0,0,0,0,0⟩:ak)=(derived x id r b).1 from by ((rw [qJ (by omega)]) <;> rfl))) (dj (by decide) (by ((rw [qJ (by omega)]) <;> first|rfl|exact dM ‹_› | (simp;omega))))
  refine R.qg O (q.ey O O) O<|R.u 2 O<|R.nil<|R.aD O O<|R.reg O<|R.q (q.aP O jT O) O<|R.q (q.ld 1 O O ap O) O<|R.u 1 O<|?_
  rcases Bool.eq_false_or_eq_true (je x.Rights r) with h4|h4
  .
   refine R.c (q.call pO O O (fun w hw=>(cv (congrArg Value.bool h4) (gG x.Rights r w (by omega) (by omega))))) O<|R.u 2 O<|R.nil ?_
   refine R.aD O O<|R.reg O<|R.u 1 O<|?_
   by_cases h5:b=0
   .
    refine R.q (q.ny O O) O<|R.u 12 O<|R.nil<|R.aD O O<|R.reg O<|R.u 1 O<|R.q (q.fI O O) O<|R.nil<|R.az O O<|R.reg O<|R.q (q.aP O iU O) O<|R.q (q.ld 1 O O ap O) O<|R.u 1 O<|R.nil<|R.reg O<|R.u 1 O<|R.q (q.aP O fU O) O<|R.q (q.ld 1 O O ap O) O<|R.u 2 O<|R.q (q.aP O bX O) O<|R.q (q.ld 1 O O ap O) O<|R.q (q.build iT O O) O<|R.s O (s.st 0 _ O O O O (.inl aN) O O O O) fun _=>?_
    exact R.u 1 O<|R.nil<|R.Cc O Tryz.results120 (RV.cell 0 O O aN) (RV.tmp O) (congrArg ak.val (show (⟨id,x.aE,r,x.aQ,x.ID⟩:ak)=(derived x id r b).1 from by ((rw [rW (by omega) ‹_› (by omega)]) <;> first|rfl|exact dM ‹_› | (simp;omega)))) (iJ (by ((rw [rW (by omega) ‹_› (by omega)]) <;> first|rfl|exact dM ‹_› | (simp;omega))))
   refine R.q (q.nu O O) O<|R.u 1 O<|R.qg O (q.aP O iU O) O<|R.qg O (q.ld 1 O O ap O) O<|?_
   by_cases h6:x.aQ=0
   .
    refine R.qg O (q.ny O O) O<|R.u 8 O<|R.nil<|R.aD O O<|R.reg O<|R.u 1 O<|R.q (q.eU O O) O<|R.nil<|R.aD O O<|R.reg O<|R.u 1 O<|R.q (q.aP O fU O) O<|R.q (q.ld 1 O O ap O) O<|R.u 2 O<|R.q (q.aP O bX O) O<|R.q (q.ld 1 O O ap O) O<|R.q (q.build iT O O) O<|R.s O (s.st 0 _ O O O O (.inl aN) O O O O) fun _=>?_
    exact R.u 1 O<|R.nil<|R.Cc O Tryz.results120 (RV.cell 0 O O aN) (RV.tmp O) (congrArg ak.val (show (⟨id,x.aE,r,b,x.ID⟩:ak)=(derived x id r b).1 from by ((rw [rX (by omega) ‹_› (by omega) (by omega)]) <;> first|rfl|exact dM ‹_› | (simp;omega)))) (iJ (by ((rw [rX (by omega) ‹_› (by omega) (by omega)]) <;> first|rfl|exact dM ‹_› | (simp;omega))))
   refine R.qg O (q.nu O O) O<|R.u 3 O<|R.qg O (q.aP O iU O) O<|R.qg O (q.ld 1 O O ap O) O<|?_
   by_cases h7:b=x.aQ
   .
    refine R.qg O (q.ny O O) O<|R.u 2 O<|R.nil<|R.aD O O<|R.reg O<|R.u 1 O<|R.q (q.eU O O) O<|R.nil<|R.aD O O<|R.reg O<|R.u 1 O<|R.q (q.aP O fU O) O<|R.q (q.ld 1 O O ap O) O<|R.u 2 O<|R.q (q.aP O bX O) O<|R.q (q.ld 1 O O ap O) O<|R.q (q.build iT O O) O<|R.s O (s.st 0 _ O O O O (.inl aN) O O O O) fun _=>?_
    exact R.u 1 O<|R.nil<|R.Cc O Tryz.results120 (RV.cell 0 O O aN) (RV.tmp O) (congrArg ak.val (show (⟨id,x.aE,r,b,x.ID⟩:ak)=(derived x id r b).1 from by ((rw [xt (by omega) ‹_› (by omega) (by omega)]) <;> (simp;omega)))) (iJ (by ((rw [xt (by omega) ‹_› (by omega) (by omega)]) <;> first|rfl|exact dM ‹_› | (simp;omega))))
   refine R.qg O (q.nu O O) O<|R.u 2 O<|R.nil<|R.az O O<|R.reg O<|R.q (q.build iT O O) O<|R.q (q.iface O br) O<|R.s O (s.st 0 _ O O O O (.inl aN) O O O O) fun _=>?_
   exact R.u 1 O<|R.nil<|R.Cc O Tryz.results120 (RV.cell 0 O O aN) (RV.tmp O) (congrArg ak.val (show (⟨0,0,0,0,0⟩:ak)=(derived x id r b).1 from by ((rw [xq (by omega) ‹_› (by omega)]) <;> rfl))) (dj (by decide) (by ((rw [xq (by omega) ‹_› (by omega)]) <;> first|rfl|exact dM ‹_› | (simp;omega))))
  refine R.c (q.call pO O O (fun w hw=>(cv (congrArg Value.bool h4) (gG x.Rights r w (by omega) (by omega))))) O<|R.u 2 O<|R.nil ?_
  refine R.az O O<|R.reg O<|R.q (q.build iT O O) O<|R.q (q.iface O br) O<|R.s O (s.st 0 _ O O O O (.inl aN) O O O O) fun _=>?_
  exact R.u 1 O<|R.nil<|R.Cc O Tryz.results120 (RV.cell 0 O O aN) (RV.tmp O) (congrArg ak.val (show (⟨0,0,0,0,0⟩:ak)=(derived x id r b).1 from by ((rw [xp (by omega) ‹_›]) <;> rfl))) (dj (by decide) (by ((rw [xp (by omega) ‹_›]) <;> first|rfl|exact dM ‹_› | (simp;omega))))
 refine R.q (q.dX O O Tryz.underlying38) O<|R.u 1 O<|R.nil<|R.az O O<|R.reg O<|R.q (q.build iT O O) O<|R.u 1 O<|R.s O (s.st 0 _ O O O O (.inl aN) O O O O) fun _=>?_
 exact R.u 1 O<|R.nil<|R.Cc O Tryz.results120 (RV.cell 0 O O aN) (RV.tmp O) (congrArg ak.val (show (⟨0,0,0,0,0⟩:ak)=(derived x id r b).1 from by ((rw [rV ‹_›]) <;> rfl))) (rE (by ((rw [rV ‹_›]) <;> exact dM ‹_›)))
theorem Dl (x:ak)(id:Int)(MA:Nat)(w:World)(SL:(ag.box MA [iV id] 3).ok w):Calls Tryz.prog 163 #[.agg #[iV x.ID,iV x.aE,iV x.Rights,iV x.aQ,iV x.From],.pointer (some ⟨MA,0,none⟩)] w fun e w'=>e = .returned (.bool (x.ID==id))/\Ext w w':=by
 refine R.enter [] [(0,.agg #[iV x.ID,iV x.aE,iV x.Rights,iV x.aQ,iV x.From]),(1,.pointer (some ⟨MA,0,none⟩))] Tryz.func163 O O O O<|R.nC (r:=ag.box MA [iV id] 3) SL (jQ SL)<|R.reg O<|R.s O (s.box O O O) fun b1=>?_
 refine R.u 1 O<|R.nil<|R.reg O<|R.q (q.aP O bX O) O<|R.q (q.ld 0 O O ap O) O<|R.q (q.yu 0 O O ap O) O<|?_
 by_cases h1:x.ID=id
 .
  exact R.q (q.fI O O) O<|R.u 1 O<|R.nil<|R.rv O Tryz.results163 O (rB (by (exact (beq_iff_eq.2 ‹_›).symm)))
 exact R.q (q.eU O O) O<|R.u 1 O<|R.nil<|R.rv O Tryz.results163 O (rB (by (exact (beq_eq_false_iff_ne.2 ‹_›).symm)))
theorem mB (bT:Value)(l:List ak)(p:ak->Bool)(QV:Nat)(TP:List Value)(SQ:∀args w,(callFunc QV args).run Tryz.prog w = .ok (.enter QV args) w)(w:World)(eA:Sl w bT l)(U9:∀W (x1:ak),Ext w W->Calls Tryz.prog QV ([x1.val]++TP).toArray W fun e w'=>e = .returned (.bool (p x1))/\Ext W w'):Calls Tryz.prog 162 #[bT,.func (.func QV) #[] TP.toArray] w fun e w'=>e = .returned (iV (idxOf p l))/\Ext w w':=by
 have zm:=eA.gW
 refine R.enter [] [(0,bT),(1,.func (.func QV) #[] TP.toArray)] Tryz.func162 O O O O<|R.reg O<|R.u 1 O<|R.nil<|R.reg O<|R.u 1 O<|R.q (q.len' (fun _=>Wd.old eA) O Tryz.underlying43) O<|R.u 1 O<|R.nil<|R.loop (fun k:Nat=>[(0,bT),(1,.func (.func QV) #[] TP.toArray),(7,iV (l.length:Int)),(8,iV (k:Int))]) (fun k:Nat=>[]) (fun k:Nat=>[]) (fun k:Nat=>k<=l.length /\ ∀ (j:Nat) x,j<k->l[j]? = some x->p x=false) (fun k:Nat=>l.length-k) 0 O (by exact ⟨by omega,fun j x hj=>absurd hj (Nat.not_lt_zero _)⟩) (sF O) (iz [] [] O) ?_
 rintro k ⟨hk,HA⟩
 refine R.reg O<|?_
 by_cases h1:k<l.length
 .
  refine R.q (q.dC O O) O<|R.nil<|R.az O O<|R.reg O<|R.u 2 O<|R.nil<|R.reg O<|R.u 3 O<|?_
  obtain ⟨x1,hx1⟩:∃z,l[k]? = some z:=⟨_,List.getElem?_eq_getElem (by omega)⟩
  refine R.q (q.idx (i:=k) (fun _=>Wd.old eA) O O eu O hx1) O<|R.q (q.gh (ds:=jP x1) (fun _=>Wd.old eA) hx1 O aN O) O<|?_
  rcases Bool.eq_false_or_eq_true (p x1) with h2|h2
  .
   refine R.c (q.call SQ O O (fun w hw=>cv (congrArg Value.bool h2) (U9 w x1 hw.ext))) O<|R.nil ?_
   exact R.az O O<|R.reg O<|R.u 2 O<|R.nil<|R.rv O Tryz.results162 O (rI (by (exact (idxOf_hit hx1 ‹_› HA).symm)))
  refine R.c (q.call SQ O O (fun w hw=>cv (congrArg Value.bool h2) (U9 w x1 hw.ext))) O<|R.nil ?_
  refine R.aD O O<|R.reg O<|R.q (q.bA (r:=((k+1:Nat):Int)) O O) O<|R.u 1 O<|R.nil<|R.back (k+1) O (by (exact ⟨by omega,nU HA hx1 ‹_›⟩)) (by omega) (sF O) (iz [] [] O)
 exact R.q (q.cS O O) O<|R.nil<|R.aD O O<|R.reg O<|R.u 1 O<|R.nil<|R.rv O Tryz.results162 O (rI (by (exact (idxOf_miss ‹_› HA).symm)))
theorem iC (bT:Value)(l:List ak)(id:Int)(w:World)(eA:Sl w bT l):Calls Tryz.prog 109 #[bT,iV id] w fun e w'=>e = .returned (iV (cD l id))/\Ext w w':=by
 have zm:=eA.gW
 refine R.enter [] [(0,bT),(1,iV id)] Tryz.func109 O O O O<|R.reg O<|R.s O (s.box O O O) fun b1=>?_
 refine R.u 1 O<|R.nil<|R.reg O<|R.u 1 O<|R.q (q.LM (cap:=[.pointer (some ⟨b1,0,none⟩)]) O O) O<|R.c (q.call EF O O (fun w hw=>(mB _ l (fun (x:ak)=>x.ID==id) _ _ Pj w ((fun _=>Wd.old eA) w hw) (fun W x hW=>Dl x id _ W (sG (hw.b 0 O) hW) ) ))) O<|R.u 1 O<|R.nil ?_
 exact R.rv O Tryz.results109 O (rI (by rfl))
end
section
open Go.RowKit
def hX (l:List ak)(i:Nat):Int :=
  match l[i]? with
  | none=>0
  | some x =>
    if cu x=1 then 1
    else if 0<i /\ ∃y,l[i-1]? = some y/\x.ID<=y.ID then 3
    else if x.From=0 then 0
    else match (l.take i).find? (fun y=>y.ID==x.From) with
      | none=>5
      | some y=>if (derived y x.ID x.Rights x.aQ).2≠0 then (derived y x.ID x.Rights x.aQ).2 else if (derived y x.ID x.Rights x.aQ).1≠x then 7 else 0
def ef (l:List ak):Int:=match (List.range l.length).find? (fun i=>hX l i != 0) with|some i=>hX l i|none=>0
theorem gO {l:List ak}{k:Nat}{f:Int}(hk:k<l.length)(h:hX l k=f)(hf:f≠0)(h0:∀j,j<k->hX l j=0):ef l=f:=by
 unfold ef
 have:(List.range l.length).find? (fun i=>hX l i != 0)=some k:=by
  rw [List.find?_range_eq_some]
  refine ⟨by simpa [h] using hf,by simpa using hk,fun j hj=>by simp [h0 j hj]⟩
 rw [this];exact h
theorem qc {l:List ak}(h0:∀j,j<l.length->hX l j=0):ef l=0:=by
 unfold ef
 have:(List.range l.length).find? (fun i=>hX l i != 0)=none:=by
  rw [List.find?_eq_none]
  intro i hi
  simp [h0 i (List.mem_range.1 hi)]
 rw [this]
theorem vk {l:List ak}(h:ef l=0):∀j,j<l.length->hX l j=0:=by
 unfold ef at h
 cases hf:(List.range l.length).find? (fun i=>hX l i != 0) with
 | none =>
  intro j hj
  have:=List.find?_eq_none.1 hf j (List.mem_range.2 hj)
  simpa using this
 | some i =>
  rw [hf] at h
  have:=List.find?_some hf
  simp at this;exact absurd h this
theorem k9 {l:List ak}{id:Int}:(cD l id = -1/\l.find? (fun y=>y.ID==id)=none) ∨ ∃ (k:Nat) (h:k<l.length),cD l id=k/\l.find? (fun y=>y.ID==id)=some l[k]:=by
 rcases fk l id with ⟨h,h2⟩ | ⟨k,hk,h1,h2,h3⟩
 .exact .inl ⟨h,by rw [List.find?_eq_none];intro x hx;simpa using h2 x hx⟩
 .
  refine .inr ⟨k,hk,h1,?_⟩
  rw [List.find?_eq_some_iff_getElem]
  exact ⟨by simpa using h2,k,hk,rfl,fun j hj=>by simpa using h3 j hj⟩
end
section
open Go.RowKit
structure QW (x:ak):Prop where
  id1:1<=x.ID
  Og:x.ID<=999
  Qc:1<=x.aE
  Qd:x.aE<=999
  Qe:0<=x.aQ
  Qf:x.aQ<=99
  QX:0<=x.From
  Qg:x.From<x.ID
  Ky:0<=x.Rights
  Kz:x.Rights<=7
theorem Bt {x:ak}(h:cu x=0):QW x:=by
 rcases gu x with ⟨h1,_⟩ | ⟨_,h2⟩
 .omega
 .obtain ⟨a,b,c,d,e,f,g,i,j,k⟩:=h2;exact ⟨a,b,c,d,e,f,g,i,j,k⟩
theorem kz (x:ak):cu x=0∨cu x=1:=by
 rcases gu x with ⟨h1,_⟩ | ⟨h1,_⟩
 .exact .inr h1
 .exact .inl h1
theorem jf {l:List ak}{k:Nat}{x:ak}(hx:l[k]? = some x)(h:¬ cu x=0):hX l k=1:=by
 have:cu x=1:=by rcases gu x with ⟨h1,_⟩ | ⟨h1,_⟩;exact h1;exact absurd h1 h
 unfold hX;rw [hx];simp only [];rw [if_pos this]
theorem mW {l:List ak}{k:Nat}{x y:ak}(hx:l[k]? = some x)(h:cu x=0)(hk:0<k)(hy:l[k-1]? = some y)(hle:¬ y.ID<x.ID):hX l k=3:=by
 unfold hX;rw [hx];simp only [];rw [if_neg (by omega),if_pos ⟨hk,y,hy,by omega⟩]
theorem xu {l:List ak}{k:Nat}{x:ak}(hx:l[k]? = some x)(h:cu x=0)(hs:¬ 0<k ∨ ∃y,l[k-1]? = some y/\y.ID<x.ID)(h0:x.From=0):hX l k=0:=by
 unfold hX;rw [hx];simp only [];rw [if_neg (by omega),if_neg,if_pos h0]
 rintro ⟨hk,y,hy,hle⟩
 rcases hs with hs|⟨z,hz,hlt⟩
 .exact hs hk
 .rw [hy] at hz;injection hz with hz;subst hz;omega
theorem xw {l:List ak}{k:Nat}{x:ak}(hx:l[k]? = some x)(h:cu x=0)(hs:¬ 0<k ∨ ∃y,l[k-1]? = some y/\y.ID<x.ID)(h0:¬ x.From=0)(hf:cD (l.take k) x.From = -1):hX l k=5:=by
 have hn:(l.take k).find? (fun y=>y.ID==x.From)=none:=by
  rcases k9 (l:=l.take k) (id:=x.From) with ⟨_,h2⟩ | ⟨j,hj,h1,h2⟩
  .exact h2
  .omega
 unfold hX;rw [hx];simp only [];rw [if_neg (by omega),if_neg,if_neg h0,hn]
 rintro ⟨hk,y,hy,hle⟩
 rcases hs with hs|⟨z,hz,hlt⟩
 .exact hs hk
 .rw [hy] at hz;injection hz with hz;subst hz;omega
theorem jg {l:List ak}{k j:Nat}{x y:ak}(hx:l[k]? = some x)(h:cu x=0)(hs:¬ 0<k ∨ ∃y,l[k-1]? = some y/\y.ID<x.ID)(h0:¬ x.From=0)(hf:cD (l.take k) x.From=(j:Int))(hj:j<k)(hy:l[j]? = some y) :
 hX l k=if (derived y x.ID x.Rights x.aQ).2≠0 then (derived y x.ID x.Rights x.aQ).2 else if (derived y x.ID x.Rights x.aQ).1≠x then 7 else 0:=by
 have hn:(l.take k).find? (fun y=>y.ID==x.From)=some y:=by
  rcases k9 (l:=l.take k) (id:=x.From) with ⟨h1,h2⟩ | ⟨i,hi,h1,h2⟩
  .omega
  .
   have:i=j:=by omega
   subst this
   rw [h2,List.getElem_take,(List.getElem?_eq_some_iff.1 hy).2]
 unfold hX;rw [hx];simp only [];rw [if_neg (by omega),if_neg,if_neg h0,hn]
 rintro ⟨hk,y,hy,hle⟩
 rcases hs with hs|⟨z,hz,hlt⟩
 .exact hs hk
 .rw [hy] at hz;injection hz with hz;subst hz;omega
theorem sV {l:List ak}{k:Nat}{x:ak}(hx:l[k]? = some x)(h:hX l k=0):QW x:=by
 by_cases h1:cu x=0
 .exact Bt h1
 .rw [jf hx h1] at h;omega
theorem rC (x:ak)(id r b:Int):(derived x id r b).2=0∨(derived x id r b).2=1∨(derived x id r b).2=7:=by
 unfold derived;(repeat' split) <;> simp
def cL (l:List ak):Prop:=ef l=0
theorem cL.steps {l:List ak}(h:cL l):∀j,j<l.length->hX l j=0:=vk h
theorem cL.mem {l:List ak}(h:cL l){x:ak}(hx:x∈l):QW x:=by
 obtain ⟨j,hj⟩:=List.mem_iff_getElem?.1 hx
 exact sV hj (h.steps j (List.getElem?_eq_some_iff.1 hj).1)
theorem rY {l:List ak}{k:Nat}(h:∀j,j<k->hX l j=0)(hk:hX l k=0):∀j,j<k+1->hX l j=0:=by
 intro j hj
 rcases Nat.lt_or_ge j k with h1|h1
 .exact h j h1
 .
  have:j=k:=by omega
  subst this;exact hk
theorem Dm (l:List ak)(c:Int)(h:0<=cD l c):∃x,l[(cD l c).toNat]? = some x/\x.ID=c/\x∈l:=by
 rcases fk l c with ⟨h1,_⟩ | ⟨k,hk,h1,h2,_⟩
 .omega
 .
  refine ⟨l[k],?_,h2,List.getElem_mem hk⟩
  rw [h1];simp
def mJ (id from':Int)(x:ak):ak:=if x.From=id then { x with From:=from' } else x
def E8 (id from':Int)(l:List ak):List ak:=(l.filter (fun x=>decide (x.ID≠id))).map (mJ id from')
theorem Gw {id f:Int}{l:List ak}{k:Nat}{x:ak}(hx:l[k]? = some x)(h:x.ID=id):E8 id f (l.take (k+1))=E8 id f (l.take k):=by
 unfold E8
 rw [List.take_add_one,hx,List.filter_append];simp [h]
theorem sW {id f:Int}{l:List ak}{k:Nat}{x:ak}(hx:l[k]? = some x)(h:¬ x.ID=id):E8 id f (l.take (k+1))=E8 id f (l.take k)++[mJ id f x]:=by
 unfold E8
 rw [List.take_add_one,hx,List.filter_append];simp [h]
theorem Bu (id f:Int)(l:List ak):(E8 id f l).length<=l.length:=by unfold E8;simp;exact List.length_filter_le _ _
theorem Dn {id f:Int}{x:ak}(h:x.From=id):mJ id f x=⟨x.ID,x.aE,x.Rights,x.aQ,f⟩:=by unfold mJ;rw [if_pos h]
theorem zC {id f:Int}{x:ak}(h:¬ x.From=id):mJ id f x=x:=by unfold mJ;rw [if_neg h]
def eO (l:List ak)(id:Int):Int:=match l.find? (fun y=>y.ID==id) with|some y=>y.From|none=>0
theorem uG {l:List ak}{id:Int}{j:Nat}{y:ak}(hf:cD l id=(j:Int))(hy:l[j]? = some y):eO l id=y.From:=by
 unfold eO
 rcases k9 (l:=l) (id:=id) with ⟨h1,_⟩ | ⟨i,hi,h1,h2⟩
 .omega
 .
  have:i=j:=by omega
  subst this;rw [h2,(List.getElem?_eq_some_iff.1 hy).2]
theorem uH {l:List ak}{id:Int}(hf:cD l id = -1):eO l id=0:=by
 unfold eO
 rcases k9 (l:=l) (id:=id) with ⟨_,h2⟩ | ⟨i,hi,h1,h2⟩
 .rw [h2]
 .omega
def without (l:List ak)(id:Int):List ak:=E8 id (eO l id) l
def V1 (l:List ak)(id:Int)(x:ak):ak:=if cD l id<0 then x else mJ id (eO l id) x
def SR (l:List ak)(id:Int)(m:List ak):List ak:=(m.filter (fun x=>decide (x.ID≠id))).map (V1 l id)
end
end Go.Proofs.YtkbhcbipadkcaaaGreatDoor
