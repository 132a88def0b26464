import Derived.Test.YtkbhcbipadkcaaaGreatDoorTF16
namespace Go.Proofs.YtkbhcbipadkcaaaGreatDoor
set_option linter.unusedVariables false
set_option linter.unusedSimpArgs false
set_option maxRecDepth 100000
set_option maxHeartbeats 90000000
section
open Go Go.RowKit
section
variable {s:oH} {d:ct} {l:List Change} {e:Int} {n m:Nat}
end
theorem xq (cD:Nat)(aL:Value)(st:j8)(bP:Value)(l:List Change)(aH:Nat)(ay aE av:Value)(dk:ct)(bB:Nat)(lg:Lg)(w:World)(own:List Nat)(H:HN w own [ag.box cD [.pointer (some ⟨aH,0,none⟩),iV st.Epoch,iV st.Side,iV st.Size,iV st.First,.pointer (some ⟨bB,0,none⟩),aL] 133,ag.box aH [ay,aE,av,iV dk.Fuse,.bool dk.Down] 112,ag.row 9 ay dk.Kept,ag.row 9 aE dk.Now,ag.row 114 av dk.Wait,ag.box bB [.pointer (some ⟨aH,0,none⟩),iV lg.From,iV lg.Many,iV lg.First,iV lg.Next] 198] [ag.ls aL st.Rows,ag.ls bP l])(hD:fF dk.Now.length 60000 dk/\dk.Now.length<=200/\166<=dk.Now.length)(hS:0<=st.Epoch/\st.Epoch<=1000000000/\0<=st.Side/\st.Side<=1/\0<=lg.Many/\lg.Many<=1000/\1<=lg.First/\lg.First<=1000000000/\0<=lg.From/\lg.From<=1000/\0<=lg.Next/\lg.Next<=1000)(hl:st.Rows.length<=60)(hF:∀c∈st.Rows,iH c=0)(hn:l.length<=10000):RC Tryz.prog 70 #[.pointer (some ⟨cD,0,none⟩),bP] H (fun _:Value×Value×Value×Value×Nat=>dh (bG (mkS st lg) dk l).2.2) (fun z=>[ag.box cD [.pointer (some ⟨aH,0,none⟩),iV (bG (mkS st lg) dk l).1.c.Epoch,iV (bG (mkS st lg) dk l).1.c.Side,iV (bG (mkS st lg) dk l).1.c.Size,iV (bG (mkS st lg) dk l).1.c.First,.pointer (some ⟨z.2.2.2.2,0,none⟩),z.1] 133,ag.box aH [z.2.1,z.2.2.1,z.2.2.2.1,iV (bG (mkS st lg) dk l).2.1.Fuse,.bool (bG (mkS st lg) dk l).2.1.Down] 112,ag.row 9 z.2.1 (bG (mkS st lg) dk l).2.1.Kept,ag.row 9 z.2.2.1 (bG (mkS st lg) dk l).2.1.Now,ag.row 114 z.2.2.2.1 (bG (mkS st lg) dk l).2.1.Wait,ag.box z.2.2.2.2 [.pointer (some ⟨aH,0,none⟩),iV (bG (mkS st lg) dk l).1.L.From,iV (bG (mkS st lg) dk l).1.L.Many,iV (bG (mkS st lg) dk l).1.L.First,iV (bG (mkS st lg) dk l).1.L.Next] 198]) (fun z=>[ag.ls z.1 (bG (mkS st lg) dk l).1.c.Rows]):=by
 have dM:=H.cap 2 rfl;have dN:=H.cC 2 rfl
 have eU:=H.cap 3 rfl;have eV:=H.cC 3 rfl
 have dO:=H.cap 4 rfl;have dP:=H.cC 4 rfl
 have qN:=H.ck 0 rfl
 have yw:=H.ck 1 rfl
 have hal:=vE hF;have hc0:fF dk.Now.length 70000 dk/\dk.Now.length<=200/\166<=dk.Now.length:=⟨hD.1.up (by omega),hD.2.1,hD.2.2⟩;have hc1:=Kn (s:=mkS st lg) hD.1 (Nat.le_trans hal (by omega));have hc2:=hc1.nl
 have hb0:fF dk.Now.length 80000 dk/\dk.Now.length<=100000:=⟨hD.1.up (by omega),by omega⟩;have hb1:fF (cx (mkS st lg) dk).2.1.Now.length 80000 (cx (mkS st lg) dk).2.1/\(cx (mkS st lg) dk).2.1.Now.length<=100000:=⟨hc2.symm▸hc1.up (by omega),by omega⟩
 refine R.bD [(0,.pointer (some ⟨cD,0,none⟩)),(1,bP)] Tryz.func70 O O O O H<|R.reg O<|R.u 1 O<|R.nil<|R.reg O<|R.u 1 O<|R.q (q.len' (dx 1 O) O Tryz.underlying34) O<|?_
 by_cases h1:62<l.length
 .
  refine R.q (q.eM O O) O<|R.nil<|R.az O O<|R.reg O<|R.q (q.iface O br) O<|R.u 1 O<|R.nil ?_
  have hz:((bG (mkS st lg) dk l).1.c,(bG (mkS st lg) dk l).2.1,(bG (mkS st lg) dk l).1.L,(bG (mkS st lg) dk l).2.2)=(st,dk,lg,2):=by (rw [SK ‹_›];rfl)
  have hz0:(bG (mkS st lg) dk l).1.c=st:=congrArg (fun t_=>t_.1) hz
  rw [hz0]
  have hz1:(bG (mkS st lg) dk l).2.1=dk:=congrArg (fun t_=>t_.2.1) hz
  rw [hz1]
  have hz2:(bG (mkS st lg) dk l).1.L=lg:=congrArg (fun t_=>t_.2.2.1) hz
  rw [hz2]
  have hz3:(bG (mkS st lg) dk l).2.2=2:=congrArg (fun t_=>t_.2.2.2) hz
  rw [hz3]
  exact R.w1 (aL,ay,aE,av,bB) mH [0] O Tryz.results70 (RV.tmp O) O O O (dj (by decide) O)
 refine R.q (q.ey O O) O<|R.nil<|R.aC O O<|R.reg O<|R.u 1 O<|R.q (q.len' (dx 1 O) O Tryz.underlying34) O<|R.u 1 O<|R.nil<|R.loop (fun i:Nat=>[(0,.pointer (some ⟨cD,0,none⟩)),(1,bP),(15,bP),(16,iV (l.length:Int)),(17,iV (i:Int))]) (fun i:Nat=>[ag.box cD [.pointer (some ⟨aH,0,none⟩),iV st.Epoch,iV st.Side,iV st.Size,iV st.First,.pointer (some ⟨bB,0,none⟩),aL] 133,ag.box aH [ay,aE,av,iV dk.Fuse,.bool dk.Down] 112,ag.row 9 ay dk.Kept,ag.row 9 aE dk.Now,ag.row 114 av dk.Wait,ag.box bB [.pointer (some ⟨aH,0,none⟩),iV lg.From,iV lg.Many,iV lg.First,iV lg.Next] 198,ag.held w own]) (fun i:Nat=>[ag.ls aL st.Rows,ag.ls bP l]) (fun i:Nat=>i<=l.length/\jE (l.drop i)=jE l) (fun i:Nat=>l.length-i) 0 O (by exact ⟨by omega,rfl⟩) (sF O) (iz mH [0,1] O) ?_
 rintro i ⟨hi,HL⟩
 refine R.reg O<|?_
 by_cases h2:i<l.length
 .
  refine R.q (q.dD O O) O<|R.nil<|R.az O O<|R.reg O<|?_
  obtain ⟨x1,hx1⟩:∃z,l[i]? = some z:=⟨_,List.getElem?_eq_getElem (by omega)⟩
  have P2:=bz x1
  refine R.q (q.idx (i:=i) (dx 1 O) O O bW O hx1) O<|R.q (q.gk (ds:=fD x1) (dx 1 O) hx1 O aX O) O<|R.s O (s.alloc cG O O) fun b1=>?_
  refine R.s O (s.st 0 _ O O O O (.inl aX) O O O O) fun _=>?_
  refine R.nil<|R.reg O<|R.q (q.cW 0 O O aX) O<|R.c (q.call tP O O (fun w hw=>(jt x1 w ))) O<|R.u 1 O<|R.nil ?_
  refine R.reg O<|R.u 1 O<|?_
  by_cases h3:iH x1=0
  .
   refine R.q (q.dq O O Tryz.underlying38) O<|R.nil<|R.aC O O<|R.reg O<|R.q (q.bC (r:=((i+1:Nat):Int)) O O) O<|R.u 1 O<|R.nil<|R.back (i+1) O (by (exact ⟨by omega,J6 HL hx1 (by omega)⟩)) (by omega) (sF O) (aD [1,2,3,4,5,6,7] [0,1] O)
  refine R.q (q.dW O O Tryz.underlying38) O<|R.nil<|R.az O O<|R.reg O<|R.u 2 O<|R.nil ?_
  have hz:((bG (mkS st lg) dk l).1.c,(bG (mkS st lg) dk l).2.1,(bG (mkS st lg) dk l).1.L,(bG (mkS st lg) dk l).2.2)=(st,dk,lg,iH x1):=by (rw [SL ‹_› (Bn HL hx1 ‹_›) ‹_›];rfl)
  have hz0:(bG (mkS st lg) dk l).1.c=st:=congrArg (fun t_=>t_.1) hz
  rw [hz0]
  have hz1:(bG (mkS st lg) dk l).2.1=dk:=congrArg (fun t_=>t_.2.1) hz
  rw [hz1]
  have hz2:(bG (mkS st lg) dk l).1.L=lg:=congrArg (fun t_=>t_.2.2.1) hz
  rw [hz2]
  have hz3:(bG (mkS st lg) dk l).2.2=iH x1:=congrArg (fun t_=>t_.2.2.2) hz
  rw [hz3]
  exact R.w1 (aL,ay,aE,av,bB) [1,2,3,4,5,6,7] [0] O Tryz.results70 (RV.tmp O) O O O O
 refine R.q (q.cU O O) O<|R.nil<|R.aC O O ?_
 have g0:jE l=0:=J7 HL (by omega);have V2:=kU l st.Rows
 refine R.reg O<|R.u 1 O<|R.q (q.bQ O) O<|R.q (q.aP O iY O) O<|R.q (q.ld 0 O O gx O) O<|R.u 1 O<|R.s O (s.aT mH [0,1] _ _ _ O O O Jr O O (fun w own hw H=>oD aL st.Rows bP l w own H (by omega)) O) fun z1=>?_
 refine R.u 1 O<|R.nil<|R.reg O<|R.u 1 O<|R.q (q.len' (bE 0 O) O Tryz.underlying34) O<|?_
 by_cases h4:60<(bZ st.Rows l).length
 .
  refine R.q (q.eM O O) O<|R.u 12 O<|R.nil<|R.az O O<|R.reg O<|R.q (q.iface O br) O<|R.u 1 O<|R.nil ?_
  have hz:((bG (mkS st lg) dk l).1.c,(bG (mkS st lg) dk l).2.1,(bG (mkS st lg) dk l).1.L,(bG (mkS st lg) dk l).2.2)=(st,dk,lg,9):=by (rw [Og (s:=mkS st lg) ‹_› g0 (by exact .inl ‹_›)];rfl)
  have hz0:(bG (mkS st lg) dk l).1.c=st:=congrArg (fun t_=>t_.1) hz
  rw [hz0]
  have hz1:(bG (mkS st lg) dk l).2.1=dk:=congrArg (fun t_=>t_.2.1) hz
  rw [hz1]
  have hz2:(bG (mkS st lg) dk l).1.L=lg:=congrArg (fun t_=>t_.2.2.1) hz
  rw [hz2]
  have hz3:(bG (mkS st lg) dk l).2.2=9:=congrArg (fun t_=>t_.2.2.2) hz
  rw [hz3]
  exact R.w1 (aL,ay,aE,av,bB) [1,2,3,4,5,6,7] [0] O Tryz.results70 (RV.tmp O) O O O (dj (by decide) O)
 refine R.q (q.ey O O) O<|R.u 2 O<|R.qg O (q.len' (dx 1 O) O Tryz.underlying34) O<|R.qg O (q.bC (r:=((l.length+1:Nat):Int)) O O) O<|R.u 1 O<|R.qg O (q.bQ O) O<|R.qg O (q.aP O jT O) O<|R.qg O (q.ld 1 O O jm O) O<|R.cg O (q.call uG O O (fun w hw=>(gB aH ay aE av dk w (hw.b 2 O) (hw.row 3 O) (hw.row 4 O) (hw.row 5 O) ))) O<|R.qg O (q.lU (r:=((dk.Now.length-102:Nat):Int)) O O) O<|?_
 by_cases h5:(dk.Now.length-102)<(l.length+1)
 .
  refine R.qg O (q.eM O O) O<|R.u 1 O<|R.nil<|R.az O O<|R.reg O<|R.q (q.iface O br) O<|R.u 1 O<|R.nil ?_
  have hz:((bG (mkS st lg) dk l).1.c,(bG (mkS st lg) dk l).2.1,(bG (mkS st lg) dk l).1.L,(bG (mkS st lg) dk l).2.2)=(st,dk,lg,9):=by (rw [Og (s:=mkS st lg) ‹_› g0 (by exact .inr (by omega))];rfl)
  have hz0:(bG (mkS st lg) dk l).1.c=st:=congrArg (fun t_=>t_.1) hz
  rw [hz0]
  have hz1:(bG (mkS st lg) dk l).2.1=dk:=congrArg (fun t_=>t_.2.1) hz
  rw [hz1]
  have hz2:(bG (mkS st lg) dk l).1.L=lg:=congrArg (fun t_=>t_.2.2.1) hz
  rw [hz2]
  have hz3:(bG (mkS st lg) dk l).2.2=9:=congrArg (fun t_=>t_.2.2.2) hz
  rw [hz3]
  exact R.w1 (aL,ay,aE,av,bB) [1,2,3,4,5,6,7] [0] O Tryz.results70 (RV.tmp O) O O O (dj (by decide) O)
 refine R.qg O (q.ey O O) O<|R.u 1 O<|R.nil<|R.aC O O<|R.reg O<|R.u 1 O<|R.q (q.len' (dx 1 O) O Tryz.underlying34) O<|R.q (q.bC (r:=((l.length+1:Nat):Int)) O O) O<|R.u 1 O<|R.q (q.bQ O) O<|R.q (q.aP O kN O) O<|R.q (q.ld 1 O O fE O) O<|R.c (q.call EL O O (fun w hw=>(w9 bB aH lg w (hw.b 6 O) (by omega)))) O<|?_
 by_cases h6:lg.Many-lg.Next<((l.length+1):Int)
 .
  refine R.q (q.eM O O) O<|R.nil<|R.az O O<|R.reg O<|R.u 1 O<|R.s O (s.aT [1,2,3,4,5,6,0,7] [0] _ _ _ O O O N0 O O (fun w own hw H=>Dk cD aL st aH ay aE av dk bB lg w own H ‹_› (by omega) (by omega) ‹_›) O) ?_
  rintro ⟨z2,z3,z4,z5,z6⟩
  dsimp only
  refine R.u 1 O<|R.nil ?_
  have hk:(cx (mkS st lg) dk).2.2=0->0<=(cx (mkS st lg) dk).1.L.From/\(cx (mkS st lg) dk).1.L.From<=1000000000/\0<=(cx (mkS st lg) dk).1.L.Next/\(cx (mkS st lg) dk).1.L.Next<=1000000000/\0<=(cx (mkS st lg) dk).1.L.First/\(cx (mkS st lg) dk).1.L.First<=4000000000000000000/\0<=(cx (mkS st lg) dk).1.L.Many/\(cx (mkS st lg) dk).1.L.Many<=1000000000:=fun hk1=>by have hk3:=MD (cx (mkS st lg) dk).2.1 102 (((cx (mkS st lg) dk).2.1.Now.length:Int)-102).toNat ((mkS st lg).L.First+(mkS st lg).L.Many);rw [Qb hk1];unfold SC;dsimp only;have e1:(mkS st lg).L.First=lg.First:=rfl;have e2:(mkS st lg).L.Many=lg.Many:=rfl;refine ⟨?_,?_,?_,?_,?_,?_,?_,?_⟩ <;> omega
  refine R.reg O<|R.u 1 O<|?_
  by_cases h7:(cx (mkS st lg) dk).2.2=0
  .
   refine R.q (q.dq O O Tryz.underlying38) O<|R.nil<|R.aC O O ?_
   (have hkk:=hk ‹_›)
   refine R.reg O<|R.u 1 O<|R.q (q.bQ O) O<|R.q (q.aP O kN O) O<|R.q (q.ld 0 O O fE O) O<|R.u 1 O<|R.s O (s.aT [5,1,2,3,4,0,6,7] [2] _ _ _ O O O Jw O O (fun w own hw H=>Gx z6 (cx (mkS st lg) dk).1.L bP l aH z3 z4 z5 (cx (mkS st lg) dk).2.1 w own H ‹_› ‹_›) O) ?_
   rintro ⟨z7,z8,z9⟩
   dsimp only
   refine R.u 1 O<|R.nil<|R.reg O<|R.u 1 O<|?_
   by_cases h8:(cz (cx (mkS st lg) dk).1.L (cx (mkS st lg) dk).2.1 l).2.2=0
   .
    refine R.q (q.lQ O O Tryz.underlying38) O<|R.nil<|R.az O O<|R.reg O<|R.u 2 O<|R.q (q.bQ O) O<|R.q (q.aP O iY O) O<|R.s O (s.fR 5 _ O O O (fun w hw=>Sl.cq (hw.row 6 O)) (.inr ⟨gx,rfl⟩) (fun w hw=>(af (Sl.one (hw.row 6 O)) aO)) O O O) fun _=>?_
    refine R.nil<|R.reg O<|R.u 2 O<|R.nil<|R.mp (fun _ hw=>hw.cX 6 _ O O) ?_
    have hz:((bG (mkS st lg) dk l).1.c,(bG (mkS st lg) dk l).2.1,(bG (mkS st lg) dk l).1.L,(bG (mkS st lg) dk l).2.2)=((⟨((cx (mkS st lg) dk).1.c).Epoch,(cx (mkS st lg) dk).1.c.Side,(cx (mkS st lg) dk).1.c.Size,(cx (mkS st lg) dk).1.c.First,bZ st.Rows l⟩:j8),(cz (cx (mkS st lg) dk).1.L (cx (mkS st lg) dk).2.1 l).2.1,(cz (cx (mkS st lg) dk).1.L (cx (mkS st lg) dk).2.1 l).1,(cz (cx (mkS st lg) dk).1.L (cx (mkS st lg) dk).2.1 l).2.2):=by (have hf:=xj (s:=mkS st lg) (d:=dk) (l:=l) ‹_› g0 (by intro hh;rcases hh with hh|hh <;> first|(exact absurd hh ‹_›)|omega);(rw [Oi hf (by show lg.Many-lg.Next<_;omega) ‹_› ‹_›];rfl))
    have hz0:(bG (mkS st lg) dk l).1.c=(⟨((cx (mkS st lg) dk).1.c).Epoch,(cx (mkS st lg) dk).1.c.Side,(cx (mkS st lg) dk).1.c.Size,(cx (mkS st lg) dk).1.c.First,bZ st.Rows l⟩:j8):=congrArg (fun t_=>t_.1) hz
    rw [hz0]
    have hz1:(bG (mkS st lg) dk l).2.1=(cz (cx (mkS st lg) dk).1.L (cx (mkS st lg) dk).2.1 l).2.1:=congrArg (fun t_=>t_.2.1) hz
    rw [hz1]
    have hz2:(bG (mkS st lg) dk l).1.L=(cz (cx (mkS st lg) dk).1.L (cx (mkS st lg) dk).2.1 l).1:=congrArg (fun t_=>t_.2.2.1) hz
    rw [hz2]
    have hz3:(bG (mkS st lg) dk l).2.2=(cz (cx (mkS st lg) dk).1.L (cx (mkS st lg) dk).2.1 l).2.2:=congrArg (fun t_=>t_.2.2.2) hz
    rw [hz3]
    exact R.w1 (z1,z7,z8,z9,z6) [5,1,2,3,4,0,6] [0] O Tryz.results70 (RV.tmp O) O O O O
   refine R.q (q.jw O O Tryz.underlying38) O<|R.nil<|R.aC O O<|R.reg O<|R.u 2 O<|R.nil ?_
   have hz:((bG (mkS st lg) dk l).1.c,(bG (mkS st lg) dk l).2.1,(bG (mkS st lg) dk l).1.L,(bG (mkS st lg) dk l).2.2)=(((cx (mkS st lg) dk).1.c),(cz (cx (mkS st lg) dk).1.L (cx (mkS st lg) dk).2.1 l).2.1,(cz (cx (mkS st lg) dk).1.L (cx (mkS st lg) dk).2.1 l).1,(cz (cx (mkS st lg) dk).1.L (cx (mkS st lg) dk).2.1 l).2.2):=by (have hf:=xj (s:=mkS st lg) (d:=dk) (l:=l) ‹_› g0 (by intro hh;rcases hh with hh|hh <;> first|(exact absurd hh ‹_›)|omega);(rw [Oj hf (by show lg.Many-lg.Next<_;omega) ‹_› ‹_›];rfl))
   have hz0:(bG (mkS st lg) dk l).1.c=(cx (mkS st lg) dk).1.c:=congrArg (fun t_=>t_.1) hz
   rw [hz0]
   have hz1:(bG (mkS st lg) dk l).2.1=(cz (cx (mkS st lg) dk).1.L (cx (mkS st lg) dk).2.1 l).2.1:=congrArg (fun t_=>t_.2.1) hz
   rw [hz1]
   have hz2:(bG (mkS st lg) dk l).1.L=(cz (cx (mkS st lg) dk).1.L (cx (mkS st lg) dk).2.1 l).1:=congrArg (fun t_=>t_.2.2.1) hz
   rw [hz2]
   have hz3:(bG (mkS st lg) dk l).2.2=(cz (cx (mkS st lg) dk).1.L (cx (mkS st lg) dk).2.1 l).2.2:=congrArg (fun t_=>t_.2.2.2) hz
   rw [hz3]
   exact R.w1 (z2,z7,z8,z9,z6) [5,1,2,3,4,0,7] [0] O Tryz.results70 (RV.tmp O) O O O O
  refine R.q (q.dW O O Tryz.underlying38) O<|R.nil<|R.az O O<|R.reg O<|R.u 2 O<|R.nil ?_
  have hz:((bG (mkS st lg) dk l).1.c,(bG (mkS st lg) dk l).2.1,(bG (mkS st lg) dk l).1.L,(bG (mkS st lg) dk l).2.2)=(((cx (mkS st lg) dk).1.c),(cx (mkS st lg) dk).2.1,(cx (mkS st lg) dk).1.L,(cx (mkS st lg) dk).2.2):=by (have hf:=xj (s:=mkS st lg) (d:=dk) (l:=l) ‹_› g0 (by intro hh;rcases hh with hh|hh <;> first|(exact absurd hh ‹_›)|omega);(rw [Oh hf (by show lg.Many-lg.Next<_;omega) ‹_›]))
  have hz0:(bG (mkS st lg) dk l).1.c=(cx (mkS st lg) dk).1.c:=congrArg (fun t_=>t_.1) hz
  rw [hz0]
  have hz1:(bG (mkS st lg) dk l).2.1=(cx (mkS st lg) dk).2.1:=congrArg (fun t_=>t_.2.1) hz
  rw [hz1]
  have hz2:(bG (mkS st lg) dk l).1.L=(cx (mkS st lg) dk).1.L:=congrArg (fun t_=>t_.2.2.1) hz
  rw [hz2]
  have hz3:(bG (mkS st lg) dk l).2.2=(cx (mkS st lg) dk).2.2:=congrArg (fun t_=>t_.2.2.2) hz
  rw [hz3]
  exact R.w1 (z2,z3,z4,z5,z6) Ch [0] O Tryz.results70 (RV.tmp O) O O O O
 refine R.q (q.ey O O) O<|R.nil<|R.aC O O ?_
 skip
 refine R.reg O<|R.u 1 O<|R.q (q.bQ O) O<|R.q (q.aP O kN O) O<|R.q (q.ld 1 O O fE O) O<|R.u 1 O<|R.s O (s.aT [6,2,3,4,5,0,1,7] [1] _ _ _ O O O Jw O O (fun w own hw H=>Gx bB lg bP l aH ay aE av dk w own H (by omega) ‹_›) O) ?_
 rintro ⟨lE,lX,z12⟩
 dsimp only
 refine R.u 1 O<|R.nil<|R.reg O<|R.u 1 O<|?_
 by_cases h9:(cz lg dk l).2.2=0
 .
  refine R.q (q.lQ O O Tryz.underlying38) O<|R.nil<|R.az O O<|R.reg O<|R.u 2 O<|R.q (q.bQ O) O<|R.q (q.aP O iY O) O<|R.s O (s.fR 6 _ O O O (fun w hw=>Sl.cq (hw.row 5 O)) (.inr ⟨gx,rfl⟩) (fun w hw=>(af (Sl.one (hw.row 5 O)) aO)) O O O) fun _=>?_
  refine R.nil<|R.reg O<|R.u 2 O<|R.nil<|R.mp (fun _ hw=>hw.cX 5 _ O O) ?_
  have hz:((bG (mkS st lg) dk l).1.c,(bG (mkS st lg) dk l).2.1,(bG (mkS st lg) dk l).1.L,(bG (mkS st lg) dk l).2.2)=((⟨st.Epoch,st.Side,st.Size,st.First,bZ st.Rows l⟩:j8),(cz lg dk l).2.1,(cz lg dk l).1,(cz lg dk l).2.2):=by (have hf:=xj (s:=mkS st lg) (d:=dk) (l:=l) ‹_› g0 (by intro hh;rcases hh with hh|hh <;> first|(exact absurd hh ‹_›)|omega);(rw [Ol hf (by show ¬ lg.Many-lg.Next<_;omega) ‹_›];rfl))
  have hz0:(bG (mkS st lg) dk l).1.c=(⟨st.Epoch,st.Side,st.Size,st.First,bZ st.Rows l⟩:j8):=congrArg (fun t_=>t_.1) hz
  rw [hz0]
  have hz1:(bG (mkS st lg) dk l).2.1=(cz lg dk l).2.1:=congrArg (fun t_=>t_.2.1) hz
  rw [hz1]
  have hz2:(bG (mkS st lg) dk l).1.L=(cz lg dk l).1:=congrArg (fun t_=>t_.2.2.1) hz
  rw [hz2]
  have hz3:(bG (mkS st lg) dk l).2.2=(cz lg dk l).2.2:=congrArg (fun t_=>t_.2.2.2) hz
  rw [hz3]
  exact R.w1 (z1,lE,lX,z12,bB) [5,1,2,3,4,0,6] [0] O Tryz.results70 (RV.tmp O) O O O O
 refine R.q (q.jw O O Tryz.underlying38) O<|R.nil<|R.aC O O<|R.reg O<|R.u 2 O<|R.nil ?_
 have hz:((bG (mkS st lg) dk l).1.c,(bG (mkS st lg) dk l).2.1,(bG (mkS st lg) dk l).1.L,(bG (mkS st lg) dk l).2.2)=(st,(cz lg dk l).2.1,(cz lg dk l).1,(cz lg dk l).2.2):=by (have hf:=xj (s:=mkS st lg) (d:=dk) (l:=l) ‹_› g0 (by intro hh;rcases hh with hh|hh <;> first|(exact absurd hh ‹_›)|omega);(rw [Om hf (by show ¬ lg.Many-lg.Next<_;omega) ‹_›];rfl))
 have hz0:(bG (mkS st lg) dk l).1.c=st:=congrArg (fun t_=>t_.1) hz
 rw [hz0]
 have hz1:(bG (mkS st lg) dk l).2.1=(cz lg dk l).2.1:=congrArg (fun t_=>t_.2.1) hz
 rw [hz1]
 have hz2:(bG (mkS st lg) dk l).1.L=(cz lg dk l).1:=congrArg (fun t_=>t_.2.2.1) hz
 rw [hz2]
 have hz3:(bG (mkS st lg) dk l).2.2=(cz lg dk l).2.2:=congrArg (fun t_=>t_.2.2.2) hz
 rw [hz3]
 exact R.w1 (aL,lE,lX,z12,bB) [6,1,2,3,4,0,7] [0] O Tryz.results70 (RV.tmp O) O O O O
end
section
open Go.RowKit
def dz (r:Int):Int:=if r<0 then 1 else if 7<r then 1 else 0
theorem gO {r:Int}(h0:0<=r)(h7:r<=7):dz r=0:=by unfold dz;rw [if_neg (by omega),if_neg (by omega)]
theorem mA {r:Int}(h:r<0∨7<r):dz r=1:=by unfold dz;split;rfl;rw [if_pos (by omega)]
theorem g9 (r:Int):(dz r=1/\(r<0∨7<r))∨(dz r=0/\0<=r/\r<=7):=by
 by_cases h:r<0∨7<r
 .exact .inl ⟨mA h,h⟩
 .exact .inr ⟨gO (by omega) (by omega),by omega,by omega⟩
def je (r need:Int):Bool:=(r.toNat &&& need.toNat)==need.toNat
theorem Fc {r:Int}(h0:0<=r)(h7:r<=7):∃x:Fin 8,r=((x:Nat):Int):=⟨⟨r.toNat,by omega⟩,by simp;omega⟩
def cw (w:ak):Int :=
  if w.ID<1 then 1 else if 999<w.ID then 1 else if w.aF<1 then 1 else if 999<w.aF then 1 else if w.aQ<0 then 1 else if 99<w.aQ then 1 else
  if w.From<0 then 1 else if w.ID<=w.From then 1 else dz w.Rights
theorem gu (x:ak):(cw x=1/\(x.ID<1∨999<x.ID∨x.aF<1∨999<x.aF∨x.aQ<0∨99<x.aQ∨x.From<0∨x.ID<=x.From∨x.Rights<0∨7<x.Rights)) ∨
 (cw x=0/\1<=x.ID/\x.ID<=999/\1<=x.aF/\x.aF<=999/\0<=x.aQ/\x.aQ<=99/\0<=x.From/\x.From<x.ID/\0<=x.Rights/\x.Rights<=7):=by
 unfold cw dz;(repeat' split) <;> first|(left;exact ⟨rfl,by omega⟩)|(right;exact ⟨rfl,by omega⟩)
def jH:ak:=⟨0,0,0,0,0⟩
def derived (w:ak)(id rights dJ:Int):ak×Int :=
  if dz rights=1 then (jH,1) else if dJ<0 then (jH,1) else if 99<dJ then (jH,1) else
  if je w.Rights rights=false then (jH,7) else
  if dJ≠0/\w.aQ≠0/\dJ≠w.aQ then (jH,7) else
  (⟨id,w.aF,rights,if dJ=0 then w.aQ else dJ,w.ID⟩,0)
def cI (l:List ak)(id:Int):Int:=match l.findIdx? (fun w=>w.ID==id) with|some i=>i|none => -1
theorem ft (l:List ak)(id:Int):(cI l id = -1 /\ ∀x∈l,¬ x.ID=id) ∨ ∃ (k:Nat) (h:k<l.length),cI l id=k/\l[k].ID=id /\ ∀j (hj:j<k),¬ (l[j]'(by omega)).ID=id:=by
 unfold cI
 cases h:l.findIdx? (fun w=>w.ID==id) with
 | none =>
  left
  refine ⟨rfl,fun x hx=>?_⟩
  have:=List.findIdx?_eq_none_iff.1 h x hx
  simpa using this
 | some k =>
  right
  obtain ⟨hk,h1,h2⟩:=List.findIdx?_eq_some_iff_getElem.1 h
  exact ⟨k,hk,rfl,by simpa using h1,fun j hj=>by simpa using h2 j hj⟩
theorem KF {l:List ak}{id:Int}{k:Nat}(hk:k<l.length)(h1:l[k].ID=id)(h2:∀j x,j<k->l[j]? = some x->¬ x.ID=id):cI l id=k:=by
 unfold cI
 rw [List.findIdx?_eq_some_iff_getElem.2 ⟨hk,by simpa using h1,fun j hj=>by
  have:=h2 j l[j] hj (List.getElem?_eq_getElem (by omega));simpa using this⟩]
end
section
open Go.RowKit
theorem zF (a:Nat)(ha:a<9223372036854775808):(BitVec.ofInt 64 (a:Int)).toNat=a:=by
 rw [BitVec.ofInt_natCast,BitVec.toNat_ofNat];exact Nat.mod_eq_of_lt (by omega)
theorem Dl (a b:Nat)(ha:a<9223372036854775808)(hb:b<9223372036854775808):bits .and .i64 (a:Int) (b:Int)=((a &&& b:Nat):Int):=by
 have hx:a &&& b<2 ^ 63:=Nat.and_lt_two_pow _ (by omega)
 show IntKind.i64.wrap ((BitVec.ofInt 64 (a:Int) &&& BitVec.ofInt 64 (b:Int)).toNat:Int)=_
 rw [BitVec.toNat_and,zF a ha,zF b hb,IntKind.wrap_i64]
 omega
theorem GD {r n:Int}{b:Bool}(r0:0<=r)(r7:r<=7)(n0:0<=n)(n7:n<=7)(h:(bits .and .i64 r n==n)=b):b=je r n:=by
 rw [<- h]
 obtain ⟨a,rfl⟩:=Int.eq_ofNat_of_zero_le r0
 obtain ⟨b,rfl⟩:=Int.eq_ofNat_of_zero_le n0
 rw [Dl a b (by omega) (by omega)]
 unfold je
 simp only [Int.toNat_natCast]
 rw [Bool.eq_iff_iff];simp only [beq_iff_eq];omega
theorem pd {r:Int}(h:dz r=0):0<=r/\r<=7:=by
 rcases g9 r with ⟨h1,_⟩ | ⟨_,h2⟩
 .omega
 .exact h2
theorem dR {r:Int}(h:¬ dz r=0):dz r=1:=by
 rcases g9 r with ⟨h1,_⟩ | ⟨h1,_⟩
 .exact h1
 .exact absurd h1 h
theorem fe {x:ak}(h:x.ID<1∨999<x.ID∨x.aF<1∨999<x.aF∨x.aQ<0∨99<x.aQ∨x.From<0∨x.ID<=x.From∨x.Rights<0∨7<x.Rights):cw x=1:=by
 rcases gu x with ⟨h1,_⟩ | ⟨_,h2⟩
 .exact h1
 .omega
theorem oK {x:ak}(h:1<=x.ID/\x.ID<=999/\1<=x.aF/\x.aF<=999/\0<=x.aQ/\x.aQ<=99/\0<=x.From/\x.From<x.ID/\0<=x.Rights/\x.Rights<=7):cw x=0:=by
 rcases gu x with ⟨_,h2⟩ | ⟨h1,_⟩
 .omega
 .exact h1
theorem xt {x:ak}(h:1<=x.ID/\x.ID<=999/\1<=x.aF/\x.aF<=999/\0<=x.aQ/\x.aQ<=99/\0<=x.From/\x.From<x.ID):cw x=dz x.Rights:=by
 rcases g9 x.Rights with ⟨h1,h2⟩ | ⟨h1,h2⟩
 .rw [h1,fe (by omega)]
 .rw [h1,oK (by omega)]
theorem rZ {x:ak}{id r b:Int}(h:¬ dz r=0):derived x id r b=(jH,1):=by
 have:dz r=1:=by rcases g9 r with ⟨h1,_⟩ | ⟨h1,_⟩;exact h1;exact absurd h1 h
 unfold derived;rw [if_pos this]
theorem qO {x:ak}{id r b:Int}(h:r<0∨7<r∨b<0∨99<b):derived x id r b=(jH,1):=by
 by_cases h1:dz r=0
 .
  have:=pd h1
  unfold derived;rw [if_neg (by rw [h1];decide)];split;rfl;rw [if_pos (by omega)]
 .exact rZ h1
theorem xu {x:ak}{id r b:Int}(h:0<=r/\r<=7/\0<=b/\b<=99)(hh:je x.Rights r=false):derived x id r b=(jH,7):=by
 unfold derived;rw [if_neg (by rw [gO h.1 h.2.1];decide),if_neg (by omega),if_neg (by omega),if_pos hh]
theorem xw {x:ak}{id r b:Int}(h:0<=r/\r<=7/\0<=b/\b<=99)(hh:je x.Rights r=true)(hc:¬ b=0/\¬ x.aQ=0/\¬ b=x.aQ):derived x id r b=(jH,7):=by
 unfold derived;rw [if_neg (by rw [gO h.1 h.2.1];decide),if_neg (by omega),if_neg (by omega),if_neg (by rw [hh];decide),if_pos hc]
theorem r5 {x:ak}{id r b:Int}(h:0<=r/\r<=7/\0<=b/\b<=99)(hh:je x.Rights r=true)(hc:b=0):derived x id r b=(⟨id,x.aF,r,x.aQ,x.ID⟩,0):=by
 unfold derived;rw [if_neg (by rw [gO h.1 h.2.1];decide),if_neg (by omega),if_neg (by omega),if_neg (by rw [hh];decide),if_neg (by omega),if_pos hc]
theorem r6 {x:ak}{id r b:Int}(h:0<=r/\r<=7/\0<=b/\b<=99)(hh:je x.Rights r=true)(hc:¬ b=0)(hc2:x.aQ=0∨b=x.aQ):derived x id r b=(⟨id,x.aF,r,b,x.ID⟩,0):=by
 unfold derived;rw [if_neg (by rw [gO h.1 h.2.1];decide),if_neg (by omega),if_neg (by omega),if_neg (by rw [hh];decide),if_neg (by omega),if_neg hc]
theorem xx {x:ak}{id r b:Int}(h:0<=r/\r<=7/\0<=b/\b<=99)(hh:je x.Rights r=true)(hc:¬ x.aQ=0)(hc2:b=0∨b=x.aQ):derived x id r b=(⟨id,x.aF,r,x.aQ,x.ID⟩,0):=by
 by_cases hb:b=0
 .exact r5 h hh hb
 .rw [r6 h hh hb (by omega),show b=x.aQ by omega]
def idxOf {α:Type}(p:α->Bool)(l:List α):Int:=match l.findIdx? p with|some i=>i|none => -1
theorem idxOf_hit {α:Type}{p:α->Bool}{l:List α}{k:Nat}{x:α}(hk:l[k]? = some x)(h1:p x=true)(h2:∀ (j:Nat) x,j<k->l[j]? = some x->p x=false):idxOf p l=k:=by
 obtain ⟨hk',rfl⟩:=List.getElem?_eq_some_iff.1 hk
 unfold idxOf
 rw [List.findIdx?_eq_some_iff_getElem.2 ⟨hk',h1,fun j hj=>by
  have:=h2 j l[j] hj (List.getElem?_eq_getElem (by omega));simp [this]⟩]
theorem idxOf_miss {α:Type}{p:α->Bool}{l:List α}{k:Nat}(hk:¬ k<l.length)(h:∀ (j:Nat) x,j<k->l[j]? = some x->p x=false):idxOf p l = -1:=by
 unfold idxOf
 rw [List.findIdx?_eq_none_iff.2 (fun x hx=>by obtain ⟨j,hj⟩:=List.mem_iff_getElem?.1 hx;exact h j x (by have:=(List.getElem?_eq_some_iff.1 hj).1;omega) hj)]
theorem nY {α:Type}{p:α->Bool}{l:List α}{k:Nat}{x:α}(h:∀ (j:Nat) x,j<k->l[j]? = some x->p x=false)(hx:l[k]? = some x)(hp:p x=false):∀ (j:Nat) x,j<k+1->l[j]? = some x->p x=false:=by
 intro j y hj hy
 rcases Nat.lt_or_ge j k with h1|h1
 .exact h j y h1 hy
 .
  have:j=k:=by omega
  subst this;rw [hx] at hy;injection hy with hy;subst hy;exact hp
end
section
open Go Go.RowKit
theorem qc (r:Int)(w:World):Calls Tryz.prog 170 #[iV r] w fun e w'=>e = .returned (dh (dz r))/\Ext w w':=by
 refine R.enter [] [(0,iV r)] Tryz.func170 O O O O<|R.reg O<|R.u 1 O<|R.nil<|R.reg O<|R.u 1 O<|?_
 by_cases h1:r<0
 .
  exact R.q (q.dD O O) O<|R.u 4 O<|R.nil<|R.az O O<|R.reg O<|R.q (q.iface O br) O<|R.u 1 O<|R.nil<|R.rv O Tryz.results170 O (dj (by decide) (by (exact mA (by omega))))
 refine R.q (q.cU O O) O<|R.u 2 O<|?_
 by_cases h2:7<r
 .
  exact R.qg O (q.eM O O) O<|R.u 1 O<|R.nil<|R.az O O<|R.reg O<|R.q (q.iface O br) O<|R.u 1 O<|R.nil<|R.rv O Tryz.results170 O (dj (by decide) (by (exact mA (by omega))))
 exact R.qg O (q.ey O O) O<|R.u 1 O<|R.nil<|R.aC O O<|R.reg O<|R.u 1 O<|R.nil<|R.rv O Tryz.results170 O (iJ (by (exact gO (by omega) (by omega))))
theorem gG (r:Int)(n:Int)(w:World)(r0:0<=r/\r<=7)(n0:0<=n/\n<=7):Calls Tryz.prog 119 #[iV r,iV n] w fun e w'=>e = .returned (.bool (je r n))/\Ext w w':=by
 refine R.enter [] [(0,iV r),(1,iV n)] Tryz.func119 O O O O<|R.reg O<|R.u 1 O<|R.nil<|R.reg O<|R.u 2 O<|R.q (q.and O O O) O<|R.u 1 O<|?_
 by_cases h1:(bits .and .i64 r n)=n
 .
  exact R.q (q.fJ O O) O<|R.u 1 O<|R.nil<|R.rv O Tryz.results119 O (rB (by (exact GD r0.1 r0.2 n0.1 n0.2 (by exact beq_iff_eq.2 ‹_›))))
 exact R.q (q.eX O O) O<|R.u 1 O<|R.nil<|R.rv O Tryz.results119 O (rB (by (exact GD r0.1 r0.2 n0.1 n0.2 (by exact beq_eq_false_iff_ne.2 ‹_›))))
theorem yH (x:ak)(w:World):Calls Tryz.prog 188 #[.agg #[iV x.ID,iV x.aF,iV x.Rights,iV x.aQ,iV x.From]] w fun e w'=>e = .returned (dh (cw x))/\Ext w w':=by
 refine R.enter [] [(0,.agg #[iV x.ID,iV x.aF,iV x.Rights,iV x.aQ,iV x.From])] Tryz.func188 O O O O<|R.reg O<|R.s O (s.box O O O) fun b1=>?_
 refine R.u 1 O<|R.nil<|R.reg O<|R.q (q.aP O bX O) O<|R.q (q.ld 0 O O au O) O<|?_
 by_cases h1:x.ID<1
 .
  exact R.q (q.dD O O) O<|R.u 37 O<|R.nil<|R.az O O<|R.reg O<|R.q (q.iface O br) O<|R.u 1 O<|R.nil<|R.rv O Tryz.results188 O (dj (by decide) (by (exact fe (by omega))))
 refine R.q (q.cU O O) O<|R.u 1 O<|R.qg O (q.aP O bX O) O<|R.qg O (q.ld 0 O O au O) O<|?_
 by_cases h2:999<x.ID
 .
  exact R.qg O (q.eM O O) O<|R.u 33 O<|R.nil<|R.az O O<|R.reg O<|R.q (q.iface O br) O<|R.u 1 O<|R.nil<|R.rv O Tryz.results188 O (dj (by decide) (by (exact fe (by omega))))
 refine R.qg O (q.ey O O) O<|R.u 2 O<|R.qg O (q.aP O fU O) O<|R.qg O (q.ld 0 O O au O) O<|?_
 by_cases h3:x.aF<1
 .
  exact R.qg O (q.dD O O) O<|R.u 28 O<|R.nil<|R.az O O<|R.reg O<|R.q (q.iface O br) O<|R.u 1 O<|R.nil<|R.rv O Tryz.results188 O (dj (by decide) (by (exact fe (by omega))))
 refine R.qg O (q.cU O O) O<|R.u 2 O<|R.qg O (q.aP O fU O) O<|R.qg O (q.ld 0 O O au O) O<|?_
 by_cases h4:999<x.aF
 .
  exact R.qg O (q.eM O O) O<|R.u 23 O<|R.nil<|R.az O O<|R.reg O<|R.q (q.iface O br) O<|R.u 1 O<|R.nil<|R.rv O Tryz.results188 O (dj (by decide) (by (exact fe (by omega))))
 refine R.qg O (q.ey O O) O<|R.u 2 O<|R.qg O (q.aP O iU O) O<|R.qg O (q.ld 0 O O au O) O<|?_
 by_cases h5:x.aQ<0
 .
  exact R.qg O (q.dD O O) O<|R.u 18 O<|R.nil<|R.az O O<|R.reg O<|R.q (q.iface O br) O<|R.u 1 O<|R.nil<|R.rv O Tryz.results188 O (dj (by decide) (by (exact fe (by omega))))
 refine R.qg O (q.cU O O) O<|R.u 2 O<|R.qg O (q.aP O iU O) O<|R.qg O (q.ld 0 O O au O) O<|?_
 by_cases h6:99<x.aQ
 .
  exact R.qg O (q.eM O O) O<|R.u 13 O<|R.nil<|R.az O O<|R.reg O<|R.q (q.iface O br) O<|R.u 1 O<|R.nil<|R.rv O Tryz.results188 O (dj (by decide) (by (exact fe (by omega))))
 refine R.qg O (q.ey O O) O<|R.u 2 O<|R.qg O (q.aP O eZ O) O<|R.qg O (q.ld 0 O O au O) O<|?_
 by_cases h7:x.From<0
 .
  exact R.qg O (q.dD O O) O<|R.u 8 O<|R.nil<|R.az O O<|R.reg O<|R.q (q.iface O br) O<|R.u 1 O<|R.nil<|R.rv O Tryz.results188 O (dj (by decide) (by (exact fe (by omega))))
 refine R.qg O (q.cU O O) O<|R.u 2 O<|R.qg O (q.aP O eZ O) O<|R.qg O (q.ld 0 O O au O) O<|R.qg O (q.aP O bX O) O<|R.qg O (q.ld 0 O O au O) O<|?_
 by_cases h8:x.From<x.ID
 .
  refine R.qg O (q.I1 O O) O<|R.u 1 O<|R.nil<|R.aC O O<|R.reg O<|R.q (q.aP O jR O) O<|R.q (q.ld 0 O O au O) O<|R.c (q.call JB O O (fun w hw=>(qc x.Rights w ))) O<|R.u 1 O<|R.nil ?_
  exact R.rv O Tryz.results188 O (rE (by (exact (xt (by omega)).symm)))
 exact R.qg O (q.He O O) O<|R.u 1 O<|R.nil<|R.az O O<|R.reg O<|R.q (q.iface O br) O<|R.u 1 O<|R.nil<|R.rv O Tryz.results188 O (dj (by decide) (by (exact fe (by omega))))
theorem mB (x:ak)(id:Int)(r:Int)(b:Int)(w:World)(x0:0<=x.Rights/\x.Rights<=7):Calls Tryz.prog 120 #[.agg #[iV x.ID,iV x.aF,iV x.Rights,iV x.aQ,iV x.From],iV id,iV r,iV b] w fun e w'=>e = .returned (.tuple #[ak.val (derived x id r b).1,dh (derived x id r b).2])/\Ext w w':=by
 refine R.enter [] [(0,.agg #[iV x.ID,iV x.aF,iV x.Rights,iV x.aQ,iV x.From]),(1,iV id),(2,iV r),(3,iV b)] Tryz.func120 O O O O<|R.reg O<|R.s O (s.box O O O) fun b1=>?_
 refine R.s O (s.alloc bR O O) fun b2=>?_
 refine R.u 1 O<|R.nil<|R.reg O<|R.u 1 O<|R.c (q.call JB O O (fun w hw=>(qc r w ))) O<|R.u 1 O<|R.nil ?_
 refine R.reg O<|R.u 1 O<|?_
 by_cases h1:dz r=0
 .
  refine R.q (q.dq O O Tryz.underlying38) O<|R.u 1 O<|R.nil<|R.aC O O ?_
  have hr:=pd ‹_›
  refine R.reg O<|R.u 1 O<|?_
  by_cases h2:b<0
  .
   refine R.q (q.dD O O) O<|R.u 5 O<|R.nil<|R.az O O<|R.reg O<|R.q (q.build iT O O) O<|R.q (q.iface O br) O<|R.s O (s.st 0 _ O O O O (.inl aN) O O O O) fun _=>?_
   exact R.u 1 O<|R.nil<|R.Cc O Tryz.results120 (RV.cell 0 O O aN) (RV.tmp O) (congrArg ak.val (show (⟨0,0,0,0,0⟩:ak)=(derived x id r b).1 from by ((rw [qO (by omega)]) <;> rfl))) (dj (by decide) (by ((rw [qO (by omega)]) <;> first|rfl|exact dR ‹_› | (simp;omega))))
  refine R.q (q.cU O O) O<|R.u 2 O<|?_
  by_cases h3:99<b
  .
   refine R.qg O (q.eM O O) O<|R.u 2 O<|R.nil<|R.az O O<|R.reg O<|R.q (q.build iT O O) O<|R.q (q.iface O br) O<|R.s O (s.st 0 _ O O O O (.inl aN) O O O O) fun _=>?_
   exact R.u 1 O<|R.nil<|R.Cc O Tryz.results120 (RV.cell 0 O O aN) (RV.tmp O) (congrArg ak.val (show (⟨0,0,0,0,0⟩:ak)=(derived x id r b).1 from by ((rw [qO (by omega)]) <;> rfl))) (dj (by decide) (by ((rw [qO (by omega)]) <;> first|rfl|exact dR ‹_› | (simp;omega))))
  refine R.qg O (q.ey O O) O<|R.u 2 O<|R.nil<|R.aC O O<|R.reg O<|R.q (q.aP O jR O) O<|R.q (q.ld 1 O O au O) O<|R.u 1 O<|?_
  rcases Bool.eq_false_or_eq_true (je x.Rights r) with h4|h4
  .
   refine R.c (q.call pQ O O (fun w hw=>(cv (congrArg Value.bool h4) (gG x.Rights r w (by omega) (by omega))))) O<|R.u 2 O<|R.nil ?_
   refine R.aC O O<|R.reg O<|R.u 1 O<|?_
   by_cases h5:b=0
   .
    refine R.q (q.nB O O) O<|R.u 12 O<|R.nil<|R.aC O O<|R.reg O<|R.u 1 O<|R.q (q.fJ O O) O<|R.nil<|R.az O O<|R.reg O<|R.q (q.aP O iU O) O<|R.q (q.ld 1 O O au O) O<|R.u 1 O<|R.nil<|R.reg O<|R.u 1 O<|R.q (q.aP O fU O) O<|R.q (q.ld 1 O O au O) O<|R.u 2 O<|R.q (q.aP O bX O) O<|R.q (q.ld 1 O O au O) O<|R.q (q.build iT O O) O<|R.s O (s.st 0 _ O O O O (.inl aN) O O O O) fun _=>?_
    exact R.u 1 O<|R.nil<|R.Cc O Tryz.results120 (RV.cell 0 O O aN) (RV.tmp O) (congrArg ak.val (show (⟨id,x.aF,r,x.aQ,x.ID⟩:ak)=(derived x id r b).1 from by ((rw [r5 (by omega) ‹_› (by omega)]) <;> first|rfl|exact dR ‹_› | (simp;omega)))) (iJ (by ((rw [r5 (by omega) ‹_› (by omega)]) <;> first|rfl|exact dR ‹_› | (simp;omega))))
   refine R.q (q.nA O O) O<|R.u 1 O<|R.qg O (q.aP O iU O) O<|R.qg O (q.ld 1 O O au O) O<|?_
   by_cases h6:x.aQ=0
   .
    refine R.qg O (q.nB O O) O<|R.u 8 O<|R.nil<|R.aC O O<|R.reg O<|R.u 1 O<|R.q (q.eX O O) O<|R.nil<|R.aC O O<|R.reg O<|R.u 1 O<|R.q (q.aP O fU O) O<|R.q (q.ld 1 O O au O) O<|R.u 2 O<|R.q (q.aP O bX O) O<|R.q (q.ld 1 O O au O) O<|R.q (q.build iT O O) O<|R.s O (s.st 0 _ O O O O (.inl aN) O O O O) fun _=>?_
    exact R.u 1 O<|R.nil<|R.Cc O Tryz.results120 (RV.cell 0 O O aN) (RV.tmp O) (congrArg ak.val (show (⟨id,x.aF,r,b,x.ID⟩:ak)=(derived x id r b).1 from by ((rw [r6 (by omega) ‹_› (by omega) (by omega)]) <;> first|rfl|exact dR ‹_› | (simp;omega)))) (iJ (by ((rw [r6 (by omega) ‹_› (by omega) (by omega)]) <;> first|rfl|exact dR ‹_› | (simp;omega))))
   refine R.qg O (q.nA O O) O<|R.u 3 O<|R.qg O (q.aP O iU O) O<|R.qg O (q.ld 1 O O au O) O<|?_
   by_cases h7:b=x.aQ
   .
    refine R.qg O (q.nB O O) O<|R.u 2 O<|R.nil<|R.aC O O<|R.reg O<|R.u 1 O<|R.q (q.eX O O) O<|R.nil<|R.aC O O<|R.reg O<|R.u 1 O<|R.q (q.aP O fU O) O<|R.q (q.ld 1 O O au O) O<|R.u 2 O<|R.q (q.aP O bX O) O<|R.q (q.ld 1 O O au O) O<|R.q (q.build iT O O) O<|R.s O (s.st 0 _ O O O O (.inl aN) O O O O) fun _=>?_
    exact R.u 1 O<|R.nil<|R.Cc O Tryz.results120 (RV.cell 0 O O aN) (RV.tmp O) (congrArg ak.val (show (⟨id,x.aF,r,b,x.ID⟩:ak)=(derived x id r b).1 from by ((rw [xx (by omega) ‹_› (by omega) (by omega)]) <;> (simp;omega)))) (iJ (by ((rw [xx (by omega) ‹_› (by omega) (by omega)]) <;> first|rfl|exact dR ‹_› | (simp;omega))))
   refine R.qg O (q.nA O O) O<|R.u 2 O<|R.nil<|R.az O O<|R.reg O<|R.q (q.build iT O O) O<|R.q (q.iface O br) O<|R.s O (s.st 0 _ O O O O (.inl aN) O O O O) fun _=>?_
   exact R.u 1 O<|R.nil<|R.Cc O Tryz.results120 (RV.cell 0 O O aN) (RV.tmp O) (congrArg ak.val (show (⟨0,0,0,0,0⟩:ak)=(derived x id r b).1 from by ((rw [xw (by omega) ‹_› (by omega)]) <;> rfl))) (dj (by decide) (by ((rw [xw (by omega) ‹_› (by omega)]) <;> first|rfl|exact dR ‹_› | (simp;omega))))
  refine R.c (q.call pQ O O (fun w hw=>(cv (congrArg Value.bool h4) (gG x.Rights r w (by omega) (by omega))))) O<|R.u 2 O<|R.nil ?_
  refine R.az O O<|R.reg O<|R.q (q.build iT O O) O<|R.q (q.iface O br) O<|R.s O (s.st 0 _ O O O O (.inl aN) O O O O) fun _=>?_
  exact R.u 1 O<|R.nil<|R.Cc O Tryz.results120 (RV.cell 0 O O aN) (RV.tmp O) (congrArg ak.val (show (⟨0,0,0,0,0⟩:ak)=(derived x id r b).1 from by ((rw [xu (by omega) ‹_›]) <;> rfl))) (dj (by decide) (by ((rw [xu (by omega) ‹_›]) <;> first|rfl|exact dR ‹_› | (simp;omega))))
 refine R.q (q.dW O O Tryz.underlying38) O<|R.u 1 O<|R.nil<|R.az O O<|R.reg O<|R.q (q.build iT O O) O<|R.u 1 O<|R.s O (s.st 0 _ O O O O (.inl aN) O O O O) fun _=>?_
 exact R.u 1 O<|R.nil<|R.Cc O Tryz.results120 (RV.cell 0 O O aN) (RV.tmp O) (congrArg ak.val (show (⟨0,0,0,0,0⟩:ak)=(derived x id r b).1 from by ((rw [rZ ‹_›]) <;> rfl))) (rE (by ((rw [rZ ‹_›]) <;> exact dR ‹_›)))
theorem Dm (x:ak)(id:Int)(MI:Nat)(w:World)(S1:(ag.box MI [iV id] 3).ok w):Calls Tryz.prog 163 #[.agg #[iV x.ID,iV x.aF,iV x.Rights,iV x.aQ,iV x.From],.pointer (some ⟨MI,0,none⟩)] w fun e w'=>e = .returned (.bool (x.ID==id))/\Ext w w':=by
 refine R.enter [] [(0,.agg #[iV x.ID,iV x.aF,iV x.Rights,iV x.aQ,iV x.From]),(1,.pointer (some ⟨MI,0,none⟩))] Tryz.func163 O O O O<|R.nG (r:=ag.box MI [iV id] 3) S1 (jO S1)<|R.reg O<|R.s O (s.box O O O) fun b1=>?_
 refine R.u 1 O<|R.nil<|R.reg O<|R.q (q.aP O bX O) O<|R.q (q.ld 0 O O au O) O<|R.q (q.yu 0 O O au O) O<|?_
 by_cases h1:x.ID=id
 .
  exact R.q (q.fJ O O) O<|R.u 1 O<|R.nil<|R.rv O Tryz.results163 O (rB (by (exact (beq_iff_eq.2 ‹_›).symm)))
 exact R.q (q.eX O O) O<|R.u 1 O<|R.nil<|R.rv O Tryz.results163 O (rB (by (exact (beq_eq_false_iff_ne.2 ‹_›).symm)))
theorem mC (bP:Value)(l:List ak)(p:ak->Bool)(Ra:Nat)(TS:List Value)(S2:∀args w,(callFunc Ra args).run Tryz.prog w = .ok (.enter Ra args) w)(w:World)(ez:Sl w bP l)(Vb:∀W (x1:ak),Ext w W->Calls Tryz.prog Ra ([x1.val]++TS).toArray W fun e w'=>e = .returned (.bool (p x1))/\Ext W w'):Calls Tryz.prog 162 #[bP,.func (.func Ra) #[] TS.toArray] w fun e w'=>e = .returned (iV (idxOf p l))/\Ext w w':=by
 have zq:=ez.gV
 refine R.enter [] [(0,bP),(1,.func (.func Ra) #[] TS.toArray)] Tryz.func162 O O O O<|R.reg O<|R.u 1 O<|R.nil<|R.reg O<|R.u 1 O<|R.q (q.len' (fun _=>Wd.old ez) O Tryz.underlying43) O<|R.u 1 O<|R.nil<|R.loop (fun k:Nat=>[(0,bP),(1,.func (.func Ra) #[] TS.toArray),(7,iV (l.length:Int)),(8,iV (k:Int))]) (fun k:Nat=>[]) (fun k:Nat=>[]) (fun k:Nat=>k<=l.length /\ ∀ (j:Nat) x,j<k->l[j]? = some x->p x=false) (fun k:Nat=>l.length-k) 0 O (by exact ⟨by omega,fun j x hj=>absurd hj (Nat.not_lt_zero _)⟩) (sF O) (iz [] [] O) ?_
 rintro k ⟨hk,HA⟩
 refine R.reg O<|?_
 by_cases h1:k<l.length
 .
  refine R.q (q.dD O O) O<|R.nil<|R.az O O<|R.reg O<|R.u 2 O<|R.nil<|R.reg O<|R.u 3 O<|?_
  obtain ⟨x1,hx1⟩:∃z,l[k]? = some z:=⟨_,List.getElem?_eq_getElem (by omega)⟩
  refine R.q (q.idx (i:=k) (fun _=>Wd.old ez) O O eu O hx1) O<|R.q (q.gk (ds:=jN x1) (fun _=>Wd.old ez) hx1 O aN O) O<|?_
  rcases Bool.eq_false_or_eq_true (p x1) with h2|h2
  .
   refine R.c (q.call S2 O O (fun w hw=>cv (congrArg Value.bool h2) (Vb w x1 hw.ext))) O<|R.nil ?_
   exact R.az O O<|R.reg O<|R.u 2 O<|R.nil<|R.rv O Tryz.results162 O (rI (by (exact (idxOf_hit hx1 ‹_› HA).symm)))
  refine R.c (q.call S2 O O (fun w hw=>cv (congrArg Value.bool h2) (Vb w x1 hw.ext))) O<|R.nil ?_
  refine R.aC O O<|R.reg O<|R.q (q.bC (r:=((k+1:Nat):Int)) O O) O<|R.u 1 O<|R.nil<|R.back (k+1) O (by (exact ⟨by omega,nY HA hx1 ‹_›⟩)) (by omega) (sF O) (iz [] [] O)
 exact R.q (q.cU O O) O<|R.nil<|R.aC O O<|R.reg O<|R.u 1 O<|R.nil<|R.rv O Tryz.results162 O (rI (by (exact (idxOf_miss ‹_› HA).symm)))
theorem iC (bP:Value)(l:List ak)(id:Int)(w:World)(ez:Sl w bP l):Calls Tryz.prog 109 #[bP,iV id] w fun e w'=>e = .returned (iV (cI l id))/\Ext w w':=by
 have zq:=ez.gV
 refine R.enter [] [(0,bP),(1,iV id)] Tryz.func109 O O O O<|R.reg O<|R.s O (s.box O O O) fun b1=>?_
 refine R.u 1 O<|R.nil<|R.reg O<|R.u 1 O<|R.q (q.LR (cap:=[.pointer (some ⟨b1,0,none⟩)]) O O) O<|R.c (q.call EM O O (fun w hw=>(mC _ l (fun (x:ak)=>x.ID==id) _ _ Pr w ((fun _=>Wd.old ez) w hw) (fun W x hW=>Dm x id _ W (sL (hw.b 0 O) hW) ) ))) O<|R.u 1 O<|R.nil ?_
 exact R.rv O Tryz.results109 O (rI (by rfl))
end
section
open Go.RowKit
def hG (l:List ak)(i:Nat):Int :=
  match l[i]? with
  | none=>0
  | some x =>
    if cw x=1 then 1
    else if 0<i /\ ∃y,l[i-1]? = some y/\x.ID<=y.ID then 3
    else if x.From=0 then 0
    else match (l.take i).find? (fun y=>y.ID==x.From) with
      | none=>5
      | some y=>if (derived y x.ID x.Rights x.aQ).2≠0 then (derived y x.ID x.Rights x.aQ).2 else if (derived y x.ID x.Rights x.aQ).1≠x then 7 else 0
def ef (l:List ak):Int:=match (List.range l.length).find? (fun i=>hG l i != 0) with|some i=>hG l i|none=>0
theorem gP {l:List ak}{k:Nat}{f:Int}(hk:k<l.length)(h:hG l k=f)(hf:f≠0)(h0:∀j,j<k->hG l j=0):ef l=f:=by
 unfold ef
 have:(List.range l.length).find? (fun i=>hG l i != 0)=some k:=by
  rw [List.find?_range_eq_some]
  refine ⟨by simpa [h] using hf,by simpa using hk,fun j hj=>by simp [h0 j hj]⟩
 rw [this];exact h
theorem qe {l:List ak}(h0:∀j,j<l.length->hG l j=0):ef l=0:=by
 unfold ef
 have:(List.range l.length).find? (fun i=>hG l i != 0)=none:=by
  rw [List.find?_eq_none]
  intro i hi
  simp [h0 i (List.mem_range.1 hi)]
 rw [this]
theorem vo {l:List ak}(h:ef l=0):∀j,j<l.length->hG l j=0:=by
 unfold ef at h
 cases hf:(List.range l.length).find? (fun i=>hG l i != 0) with
 | none =>
  intro j hj
  have:=List.find?_eq_none.1 hf j (List.mem_range.2 hj)
  simpa using this
 | some i =>
  rw [hf] at h
  have:=List.find?_some hf
  simp at this;exact absurd h this
theorem kZ {l:List ak}{id:Int}:(cI l id = -1/\l.find? (fun y=>y.ID==id)=none) ∨ ∃ (k:Nat) (h:k<l.length),cI l id=k/\l.find? (fun y=>y.ID==id)=some l[k]:=by
 rcases ft l id with ⟨h,h2⟩ | ⟨k,hk,h1,h2,h3⟩
 .exact .inl ⟨h,by rw [List.find?_eq_none];intro x hx;simpa using h2 x hx⟩
 .
  refine .inr ⟨k,hk,h1,?_⟩
  rw [List.find?_eq_some_iff_getElem]
  exact ⟨by simpa using h2,k,hk,rfl,fun j hj=>by simpa using h3 j hj⟩
end
section
open Go.RowKit
structure Rb (x:ak):Prop where
  id1:1<=x.ID
  Ov:x.ID<=999
  Qj:1<=x.aF
  Qk:x.aF<=999
  Ql:0<=x.aQ
  Qm:x.aQ<=99
  Rc:0<=x.From
  Qn:x.From<x.ID
  KG:0<=x.Rights
  KH:x.Rights<=7
theorem Bv {x:ak}(h:cw x=0):Rb x:=by
 rcases gu x with ⟨h1,_⟩ | ⟨_,h2⟩
 .omega
 .obtain ⟨a,b,c,d,e,f,g,i,j,k⟩:=h2;exact ⟨a,b,c,d,e,f,g,i,j,k⟩
theorem kz (x:ak):cw x=0∨cw x=1:=by
 rcases gu x with ⟨h1,_⟩ | ⟨h1,_⟩
 .exact .inr h1
 .exact .inl h1
theorem jf {l:List ak}{k:Nat}{x:ak}(hx:l[k]? = some x)(h:¬ cw x=0):hG l k=1:=by
 have:cw x=1:=by rcases gu x with ⟨h1,_⟩ | ⟨h1,_⟩;exact h1;exact absurd h1 h
 unfold hG;rw [hx];simp only [];rw [if_pos this]
theorem m4 {l:List ak}{k:Nat}{x y:ak}(hx:l[k]? = some x)(h:cw x=0)(hk:0<k)(hy:l[k-1]? = some y)(hle:¬ y.ID<x.ID):hG l k=3:=by
 unfold hG;rw [hx];simp only [];rw [if_neg (by omega),if_pos ⟨hk,y,hy,by omega⟩]
theorem xy {l:List ak}{k:Nat}{x:ak}(hx:l[k]? = some x)(h:cw x=0)(hs:¬ 0<k ∨ ∃y,l[k-1]? = some y/\y.ID<x.ID)(h0:x.From=0):hG l k=0:=by
 unfold hG;rw [hx];simp only [];rw [if_neg (by omega),if_neg,if_pos h0]
 rintro ⟨hk,y,hy,hle⟩
 rcases hs with hs|⟨z,hz,hlt⟩
 .exact hs hk
 .rw [hy] at hz;injection hz with hz;subst hz;omega
theorem xA {l:List ak}{k:Nat}{x:ak}(hx:l[k]? = some x)(h:cw x=0)(hs:¬ 0<k ∨ ∃y,l[k-1]? = some y/\y.ID<x.ID)(h0:¬ x.From=0)(hf:cI (l.take k) x.From = -1):hG l k=5:=by
 have hn:(l.take k).find? (fun y=>y.ID==x.From)=none:=by
  rcases kZ (l:=l.take k) (id:=x.From) with ⟨_,h2⟩ | ⟨j,hj,h1,h2⟩
  .exact h2
  .omega
 unfold hG;rw [hx];simp only [];rw [if_neg (by omega),if_neg,if_neg h0,hn]
 rintro ⟨hk,y,hy,hle⟩
 rcases hs with hs|⟨z,hz,hlt⟩
 .exact hs hk
 .rw [hy] at hz;injection hz with hz;subst hz;omega
theorem jg {l:List ak}{k j:Nat}{x y:ak}(hx:l[k]? = some x)(h:cw x=0)(hs:¬ 0<k ∨ ∃y,l[k-1]? = some y/\y.ID<x.ID)(h0:¬ x.From=0)(hf:cI (l.take k) x.From=(j:Int))(hj:j<k)(hy:l[j]? = some y) :
 hG l k=if (derived y x.ID x.Rights x.aQ).2≠0 then (derived y x.ID x.Rights x.aQ).2 else if (derived y x.ID x.Rights x.aQ).1≠x then 7 else 0:=by
 have hn:(l.take k).find? (fun y=>y.ID==x.From)=some y:=by
  rcases kZ (l:=l.take k) (id:=x.From) with ⟨h1,h2⟩ | ⟨i,hi,h1,h2⟩
  .omega
  .
   have:i=j:=by omega
   subst this
   rw [h2,List.getElem_take,(List.getElem?_eq_some_iff.1 hy).2]
 unfold hG;rw [hx];simp only [];rw [if_neg (by omega),if_neg,if_neg h0,hn]
 rintro ⟨hk,y,hy,hle⟩
 rcases hs with hs|⟨z,hz,hlt⟩
 .exact hs hk
 .rw [hy] at hz;injection hz with hz;subst hz;omega
theorem s8 {l:List ak}{k:Nat}{x:ak}(hx:l[k]? = some x)(h:hG l k=0):Rb x:=by
 by_cases h1:cw x=0
 .exact Bv h1
 .rw [jf hx h1] at h;omega
theorem rH (x:ak)(id r b:Int):(derived x id r b).2=0∨(derived x id r b).2=1∨(derived x id r b).2=7:=by
 unfold derived;(repeat' split) <;> simp
def cO (l:List ak):Prop:=ef l=0
theorem cO.steps {l:List ak}(h:cO l):∀j,j<l.length->hG l j=0:=vo h
theorem cO.mem {l:List ak}(h:cO l){x:ak}(hx:x∈l):Rb x:=by
 obtain ⟨j,hj⟩:=List.mem_iff_getElem?.1 hx
 exact s8 hj (h.steps j (List.getElem?_eq_some_iff.1 hj).1)
theorem r8 {l:List ak}{k:Nat}(h:∀j,j<k->hG l j=0)(hk:hG l k=0):∀j,j<k+1->hG l j=0:=by
 intro j hj
 rcases Nat.lt_or_ge j k with h1|h1
 .exact h j h1
 .
  have:j=k:=by omega
  subst this;exact hk
theorem Dn (l:List ak)(c:Int)(h:0<=cI l c):∃x,l[(cI l c).toNat]? = some x/\x.ID=c/\x∈l:=by
 rcases ft l c with ⟨h1,_⟩ | ⟨k,hk,h1,h2,_⟩
 .omega
 .
  refine ⟨l[k],?_,h2,List.getElem_mem hk⟩
  rw [h1];simp
def mJ (id from':Int)(x:ak):ak:=if x.From=id then { x with From:=from' } else x
def Fe (id from':Int)(l:List ak):List ak:=(l.filter (fun x=>decide (x.ID≠id))).map (mJ id from')
theorem GF {id f:Int}{l:List ak}{k:Nat}{x:ak}(hx:l[k]? = some x)(h:x.ID=id):Fe id f (l.take (k+1))=Fe id f (l.take k):=by
 unfold Fe
 rw [List.take_add_one,hx,List.filter_append];simp [h]
theorem s9 {id f:Int}{l:List ak}{k:Nat}{x:ak}(hx:l[k]? = some x)(h:¬ x.ID=id):Fe id f (l.take (k+1))=Fe id f (l.take k)++[mJ id f x]:=by
 unfold Fe
 rw [List.take_add_one,hx,List.filter_append];simp [h]
theorem Bw (id f:Int)(l:List ak):(Fe id f l).length<=l.length:=by unfold Fe;simp;exact List.length_filter_le _ _
theorem Dp {id f:Int}{x:ak}(h:x.From=id):mJ id f x=⟨x.ID,x.aF,x.Rights,x.aQ,f⟩:=by unfold mJ;rw [if_pos h]
theorem zG {id f:Int}{x:ak}(h:¬ x.From=id):mJ id f x=x:=by unfold mJ;rw [if_neg h]
def eP (l:List ak)(id:Int):Int:=match l.find? (fun y=>y.ID==id) with|some y=>y.From|none=>0
theorem uL {l:List ak}{id:Int}{j:Nat}{y:ak}(hf:cI l id=(j:Int))(hy:l[j]? = some y):eP l id=y.From:=by
 unfold eP
 rcases kZ (l:=l) (id:=id) with ⟨h1,_⟩ | ⟨i,hi,h1,h2⟩
 .omega
 .
  have:i=j:=by omega
  subst this;rw [h2,(List.getElem?_eq_some_iff.1 hy).2]
theorem uM {l:List ak}{id:Int}(hf:cI l id = -1):eP l id=0:=by
 unfold eP
 rcases kZ (l:=l) (id:=id) with ⟨_,h2⟩ | ⟨i,hi,h1,h2⟩
 .rw [h2]
 .omega
def without (l:List ak)(id:Int):List ak:=Fe id (eP l id) l
def V4 (l:List ak)(id:Int)(x:ak):ak:=if cI l id<0 then x else mJ id (eP l id) x
def S3 (l:List ak)(id:Int)(m:List ak):List ak:=(m.filter (fun x=>decide (x.ID≠id))).map (V4 l id)
end
end Go.Proofs.YtkbhcbipadkcaaaGreatDoor
