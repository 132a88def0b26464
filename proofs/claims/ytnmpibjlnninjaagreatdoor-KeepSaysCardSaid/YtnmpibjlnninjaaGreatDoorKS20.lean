import Derived.Test.YtnmpibjlnninjaaGreatDoorKS19
namespace Go.Proofs.YtnmpibjlnninjaaGreatDoor
set_option linter.unusedVariables false
set_option linter.unusedSimpArgs false
set_option maxRecDepth 100000
set_option maxHeartbeats 90000000
section
open Go Go.RowKit
section
variable {s:p6} {d:cU} {l:List Change} {e:Int} {n m:Nat}
end
theorem Ag (cY:Nat)(aR:Value)(st:jK)(bL:Value)(l:List Change)(aI:Nat)(aE aG aF:Value)(dk:cU)(bS:Nat)(lg:Lg)(w:World)(own:List Nat)(H:HN w own [aj.box cY [.pointer (some ⟨aI,0,none⟩),iV st.Epoch,iV st.Side,iV st.Size,iV st.First,.pointer (some ⟨bS,0,none⟩),aR] 132,aj.box aI [aE,aG,aF,iV dk.Fuse,.bool dk.Down] 120,aj.row 9 aE dk.Kept,aj.row 9 aG dk.Now,aj.row 196 aF dk.Wait,aj.box bS [.pointer (some ⟨aI,0,none⟩),iV lg.From,iV lg.Many,iV lg.First,iV lg.Next] 193] [aj.ls aR st.Rows,aj.ls bL l])(hD:gy dk.Now.length 60000 dk/\dk.Now.length<=200/\166<=dk.Now.length)(hS:0<=st.Epoch/\st.Epoch<=1000000000/\0<=st.Side/\st.Side<=1/\0<=lg.Many/\lg.Many<=1000/\1<=lg.First/\lg.First<=1000000000/\0<=lg.From/\lg.From<=1000/\0<=lg.Next/\lg.Next<=1000)(hl:st.Rows.length<=60)(hF:∀c∈st.Rows,gY c=0)(hn:l.length<=10000):RC Tryz.prog 62 #[.pointer (some ⟨cY,0,none⟩),bL] H (fun _:Value×Value×Value×Value×Nat=>cD (bT (mkS st lg) dk l).2.2) (fun z=>[aj.box cY [.pointer (some ⟨aI,0,none⟩),iV (bT (mkS st lg) dk l).1.c.Epoch,iV (bT (mkS st lg) dk l).1.c.Side,iV (bT (mkS st lg) dk l).1.c.Size,iV (bT (mkS st lg) dk l).1.c.First,.pointer (some ⟨z.2.2.2.2,0,none⟩),z.1] 132,aj.box aI [z.2.1,z.2.2.1,z.2.2.2.1,iV (bT (mkS st lg) dk l).2.1.Fuse,.bool (bT (mkS st lg) dk l).2.1.Down] 120,aj.row 9 z.2.1 (bT (mkS st lg) dk l).2.1.Kept,aj.row 9 z.2.2.1 (bT (mkS st lg) dk l).2.1.Now,aj.row 196 z.2.2.2.1 (bT (mkS st lg) dk l).2.1.Wait,aj.box z.2.2.2.2 [.pointer (some ⟨aI,0,none⟩),iV (bT (mkS st lg) dk l).1.L.From,iV (bT (mkS st lg) dk l).1.L.Many,iV (bT (mkS st lg) dk l).1.L.First,iV (bT (mkS st lg) dk l).1.L.Next] 193]) (fun z=>[aj.ls z.1 (bT (mkS st lg) dk l).1.c.Rows]):=by
 have fc:=H.cap 2 rfl;have fe:=H.dr 2 rfl
 have fV:=H.cap 3 rfl;have fW:=H.dr 3 rfl
 have ff:=H.cap 4 rfl;have fh:=H.dr 4 rfl
 have sj:=H.bD 0 rfl
 have AP:=H.bD 1 rfl
 have hal:=xY hF;have hc0:gy dk.Now.length 70000 dk/\dk.Now.length<=200/\166<=dk.Now.length:=⟨hD.1.up ae,hD.2.1,hD.2.2⟩;have hc1:=Ow (s:=mkS st lg) hD.1 (Nat.le_trans hal ae);have hc2:=hc1.nl
 have hb0:gy dk.Now.length 80000 dk/\dk.Now.length<=100000:=⟨hD.1.up ae,ae⟩;have hb1:gy (cX (mkS st lg) dk).2.1.Now.length 80000 (cX (mkS st lg) dk).2.1/\(cX (mkS st lg) dk).2.1.Now.length<=100000:=⟨hc2.symm▸hc1.up ae,ae⟩
 refine R.bE [(0,.pointer (some ⟨cY,0,none⟩)),(1,bL)] Tryz.func62 O O O O H<|R.reg O<|R.ur 1 O O<|R.u 1 O<|R.q (q.len' (cb 1 O) O Tryz.underlying34) O<|?_
 by_cases h1:62<l.length
 .
  refine R.q (q.sV O O) O<|R.nA O O O<|R.q (q.iface O DG) O<|R.un 1 O ?_
  have hz:((bT (mkS st lg) dk l).1.c,(bT (mkS st lg) dk l).2.1,(bT (mkS st lg) dk l).1.L,(bT (mkS st lg) dk l).2.2)=(st,dk,lg,2):=by (rw [XC af];rfl)
  have hz0:(bT (mkS st lg) dk l).1.c=st:=congrArg (fun t_=>t_.1) hz
  rw [hz0]
  have hz1:(bT (mkS st lg) dk l).2.1=dk:=congrArg (fun t_=>t_.2.1) hz
  rw [hz1]
  have hz2:(bT (mkS st lg) dk l).1.L=lg:=congrArg (fun t_=>t_.2.2.1) hz
  rw [hz2]
  have hz3:(bT (mkS st lg) dk l).2.2=2:=congrArg (fun t_=>t_.2.2.2) hz
  rw [hz3]
  exact R.w1 (aR,aE,aG,aF,bS) kj [0] O Tryz.results62 (RV.tmp O) O O O (dU aD O)
 refine R.q (q.sW O O) O<|R.nB O O O<|R.u 1 O<|R.q (q.len' (cb 1 O) O Tryz.underlying34) O<|R.un 1 O<|R.loop (fun i:Nat=>[(0,.pointer (some ⟨cY,0,none⟩)),(1,bL),(15,bL),(16,iV (l.length:Int)),(17,iV (i:Int))]) (fun i:Nat=>[aj.box cY [.pointer (some ⟨aI,0,none⟩),iV st.Epoch,iV st.Side,iV st.Size,iV st.First,.pointer (some ⟨bS,0,none⟩),aR] 132,aj.box aI [aE,aG,aF,iV dk.Fuse,.bool dk.Down] 120,aj.row 9 aE dk.Kept,aj.row 9 aG dk.Now,aj.row 196 aF dk.Wait,aj.box bS [.pointer (some ⟨aI,0,none⟩),iV lg.From,iV lg.Many,iV lg.First,iV lg.Next] 193,aj.held w own]) (fun i:Nat=>[aj.ls aR st.Rows,aj.ls bL l]) (fun i:Nat=>i<=l.length/\iF (l.drop i)=iF l) (fun i:Nat=>l.length-i) 0 O (by exact ⟨ae,rfl⟩) (sF O) (eI kj [0,1] O) ?_
 rintro i ⟨hi,HL⟩
 refine R.reg O<|?_
 by_cases h2:i<l.length
 .
  refine R.q (q.Ks O O) O<|R.nA O O O<|?_
  obtain ⟨x1,hx1⟩:=gE l i
  have QN:=jP x1
  refine R.q (q.idx (i:=i) (cb 1 O) O O bj O hx1) O<|R.q (q.dj (ds:=dS x1) (cb 1 O) hx1 O bK O) O<|R.s O (s.alloc bR O O) fun b1=>?_
  refine R.s O (s.st 0 _ O O O O (.inl bK) O O O O) fun _=>?_
  refine R.nr O<|R.q (q.EJ 0 O O bK) O<|R.c (q.call vV O O (fun w hw=>(jx x1 w ))) O<|R.un 1 O ?_
  refine R.reg O<|R.u 1 O<|?_
  by_cases h3:gY x1=0
  .
   refine R.q (q.qD O O Tryz.underlying38) O<|R.nB O O O<|R.q (q.aL (r:=((i+1:Nat):Int)) O O) O<|R.un 1 O<|R.back (i+1) O (by (exact ⟨ae,Ns HL hx1 ae⟩)) ae (sF O) (aN yj [0,1] O)
  refine R.q (q.wQ O O Tryz.underlying38) O<|R.nA O O O<|R.un 2 O ?_
  have hz:((bT (mkS st lg) dk l).1.c,(bT (mkS st lg) dk l).2.1,(bT (mkS st lg) dk l).1.L,(bT (mkS st lg) dk l).2.2)=(st,dk,lg,gY x1):=by (rw [XD af (Dz HL hx1 af) af];rfl)
  have hz0:(bT (mkS st lg) dk l).1.c=st:=congrArg (fun t_=>t_.1) hz
  rw [hz0]
  have hz1:(bT (mkS st lg) dk l).2.1=dk:=congrArg (fun t_=>t_.2.1) hz
  rw [hz1]
  have hz2:(bT (mkS st lg) dk l).1.L=lg:=congrArg (fun t_=>t_.2.2.1) hz
  rw [hz2]
  have hz3:(bT (mkS st lg) dk l).2.2=gY x1:=congrArg (fun t_=>t_.2.2.2) hz
  rw [hz3]
  exact R.w1 (aR,aE,aG,aF,bS) yj [0] O Tryz.results62 (RV.tmp O) O O O O
 refine R.q (q.Hg O O) O<|R.nF O O ?_
 have g0:iF l=0:=H0 HL ae;have aam:=lr l st.Rows
 refine R.reg O<|R.u 1 O<|R.q (q.fD O) O<|R.q (q.jA O m9 O) O<|R.q (q.ld 0 O O jv O) O<|R.u 1 O<|R.s O (s.aT kj [0,1] _ _ _ O O O NL O O (fun w own hw H=>pZ aR st.Rows bL l w own H ae) O) fun z1=>?_
 refine R.ur 1 O O<|R.u 1 O<|R.q (q.len' (bH 0 O) O Tryz.underlying34) O<|?_
 by_cases h4:60<(cm st.Rows l).length
 .
  refine R.q (q.sV O O) O<|R.u 12 O<|R.nA O O O<|R.q (q.iface O DG) O<|R.un 1 O ?_
  have hz:((bT (mkS st lg) dk l).1.c,(bT (mkS st lg) dk l).2.1,(bT (mkS st lg) dk l).1.L,(bT (mkS st lg) dk l).2.2)=(st,dk,lg,9):=by (rw [SF (s:=mkS st lg) af g0 (by exact .inl af)];rfl)
  have hz0:(bT (mkS st lg) dk l).1.c=st:=congrArg (fun t_=>t_.1) hz
  rw [hz0]
  have hz1:(bT (mkS st lg) dk l).2.1=dk:=congrArg (fun t_=>t_.2.1) hz
  rw [hz1]
  have hz2:(bT (mkS st lg) dk l).1.L=lg:=congrArg (fun t_=>t_.2.2.1) hz
  rw [hz2]
  have hz3:(bT (mkS st lg) dk l).2.2=9:=congrArg (fun t_=>t_.2.2.2) hz
  rw [hz3]
  exact R.w1 (aR,aE,aG,aF,bS) yj [0] O Tryz.results62 (RV.tmp O) O O O (dU aD O)
 refine R.q (q.sW O O) O<|R.u 2 O<|R.qg O (q.len' (cb 1 O) O Tryz.underlying34) O<|R.qg O (q.aL (r:=((l.length+1:Nat):Int)) O O) O<|R.u 1 O<|R.qg O (q.fD O) O<|R.qg O (q.jA O jY O) O<|R.qg O (q.ld 1 O O mB O) O<|R.cg O (q.call xd O O (fun w hw=>(gM aI aE aG aF dk w (hw.b 2 O) (hw.row 3 O) (hw.row 4 O) (hw.row 5 O) ))) O<|R.qg O (q.kL (r:=((dk.Now.length-102:Nat):Int)) O O) O<|?_
 by_cases h5:(dk.Now.length-102)<(l.length+1)
 .
  refine R.qg O (q.sV O O) O<|R.u 1 O<|R.nA O O O<|R.q (q.iface O DG) O<|R.un 1 O ?_
  have hz:((bT (mkS st lg) dk l).1.c,(bT (mkS st lg) dk l).2.1,(bT (mkS st lg) dk l).1.L,(bT (mkS st lg) dk l).2.2)=(st,dk,lg,9):=by (rw [SF (s:=mkS st lg) af g0 (by exact .inr ae)];rfl)
  have hz0:(bT (mkS st lg) dk l).1.c=st:=congrArg (fun t_=>t_.1) hz
  rw [hz0]
  have hz1:(bT (mkS st lg) dk l).2.1=dk:=congrArg (fun t_=>t_.2.1) hz
  rw [hz1]
  have hz2:(bT (mkS st lg) dk l).1.L=lg:=congrArg (fun t_=>t_.2.2.1) hz
  rw [hz2]
  have hz3:(bT (mkS st lg) dk l).2.2=9:=congrArg (fun t_=>t_.2.2.2) hz
  rw [hz3]
  exact R.w1 (aR,aE,aG,aF,bS) yj [0] O Tryz.results62 (RV.tmp O) O O O (dU aD O)
 refine R.qg O (q.sW O O) O<|R.u 1 O<|R.nB O O O<|R.u 1 O<|R.q (q.len' (cb 1 O) O Tryz.underlying34) O<|R.q (q.aL (r:=((l.length+1:Nat):Int)) O O) O<|R.u 1 O<|R.q (q.fD O) O<|R.q (q.jA O lx O) O<|R.q (q.ld 1 O O m8 O) O<|R.c (q.call Ip O O (fun w hw=>(zT bS aI lg w (hw.b 6 O) ae))) O<|?_
 by_cases h6:lg.Many-lg.Next<((l.length+1):Int)
 .
  refine R.q (q.sV O O) O<|R.nA O O O<|R.u 1 O<|R.s O (s.aT [1,2,3,4,5,6,0,7] [0] _ _ _ O O O Sq O O (fun w own hw H=>Gv cY aR st aI aE aG aF dk bS lg w own H af ae ae af) O) ?_
  rintro ⟨z2,z3,z4,z5,z6⟩
  dsimp only
  refine R.un 1 O ?_
  have hk:(cX (mkS st lg) dk).2.2=0->0<=(cX (mkS st lg) dk).1.L.From/\(cX (mkS st lg) dk).1.L.From<=1000000000/\0<=(cX (mkS st lg) dk).1.L.Next/\(cX (mkS st lg) dk).1.L.Next<=1000000000/\0<=(cX (mkS st lg) dk).1.L.First/\(cX (mkS st lg) dk).1.L.First<=4000000000000000000/\0<=(cX (mkS st lg) dk).1.L.Many/\(cX (mkS st lg) dk).1.L.Many<=1000000000:=fun hk1=>by have hk3:=QV (cX (mkS st lg) dk).2.1 102 (((cX (mkS st lg) dk).2.1.Now.length:Int)-102).toNat ((mkS st lg).L.First+(mkS st lg).L.Many);rw [US hk1];unfold Xu;dsimp only;have e1:(mkS st lg).L.First=lg.First:=rfl;have e2:(mkS st lg).L.Many=lg.Many:=rfl;refine ⟨?_,?_,?_,?_,?_,?_,?_,?_⟩ <;> omega
  refine R.reg O<|R.u 1 O<|?_
  by_cases h7:(cX (mkS st lg) dk).2.2=0
  .
   refine R.q (q.qD O O Tryz.underlying38) O<|R.nF O O ?_
   (have hkk:=hk af)
   refine R.reg O<|R.u 1 O<|R.q (q.fD O) O<|R.q (q.jA O lx O) O<|R.q (q.ld 0 O O m8 O) O<|R.u 1 O<|R.s O (s.aT [5,1,2,3,4,0,6,7] [2] _ _ _ O O O NQ O O (fun w own hw H=>J9 z6 (cX (mkS st lg) dk).1.L bL l aI z3 z4 z5 (cX (mkS st lg) dk).2.1 w own H af af) O) ?_
   rintro ⟨z7,z8,z9⟩
   dsimp only
   refine R.ur 1 O O<|R.u 1 O<|?_
   by_cases h8:(cW (cX (mkS st lg) dk).1.L (cX (mkS st lg) dk).2.1 l).2.2=0
   .
    refine R.q (q.yo O O Tryz.underlying38) O<|R.nA O O O<|R.u 2 O<|R.q (q.fD O) O<|R.q (q.jA O m9 O) O<|R.s O (s.dE 5 _ O O O (fun w hw=>Sl.bF (hw.row 6 O)) (.inr ⟨jv,rfl⟩) (fun w hw=>(aJ (Sl.one (hw.row 6 O)) bq)) O O O) fun _=>?_
    refine R.nr O<|R.un 2 O<|R.mp (fun _ hw=>hw.bu 6 _ O O) ?_
    have hz:((bT (mkS st lg) dk l).1.c,(bT (mkS st lg) dk l).2.1,(bT (mkS st lg) dk l).1.L,(bT (mkS st lg) dk l).2.2)=((⟨((cX (mkS st lg) dk).1.c).Epoch,(cX (mkS st lg) dk).1.c.Side,(cX (mkS st lg) dk).1.c.Size,(cX (mkS st lg) dk).1.c.First,cm st.Rows l⟩:jK),(cW (cX (mkS st lg) dk).1.L (cX (mkS st lg) dk).2.1 l).2.1,(cW (cX (mkS st lg) dk).1.L (cX (mkS st lg) dk).2.1 l).1,(cW (cX (mkS st lg) dk).1.L (cX (mkS st lg) dk).2.1 l).2.2):=by (have hf:=Aa (s:=mkS st lg) (d:=dk) (l:=l) af g0 (by intro hh;rcases hh with hh|hh <;> first|(exact absurd hh af)|omega);(rw [SH hf (by show lg.Many-lg.Next<_;omega) af af];rfl))
    have hz0:(bT (mkS st lg) dk l).1.c=(⟨((cX (mkS st lg) dk).1.c).Epoch,(cX (mkS st lg) dk).1.c.Side,(cX (mkS st lg) dk).1.c.Size,(cX (mkS st lg) dk).1.c.First,cm st.Rows l⟩:jK):=congrArg (fun t_=>t_.1) hz
    rw [hz0]
    have hz1:(bT (mkS st lg) dk l).2.1=(cW (cX (mkS st lg) dk).1.L (cX (mkS st lg) dk).2.1 l).2.1:=congrArg (fun t_=>t_.2.1) hz
    rw [hz1]
    have hz2:(bT (mkS st lg) dk l).1.L=(cW (cX (mkS st lg) dk).1.L (cX (mkS st lg) dk).2.1 l).1:=congrArg (fun t_=>t_.2.2.1) hz
    rw [hz2]
    have hz3:(bT (mkS st lg) dk l).2.2=(cW (cX (mkS st lg) dk).1.L (cX (mkS st lg) dk).2.1 l).2.2:=congrArg (fun t_=>t_.2.2.2) hz
    rw [hz3]
    exact R.w1 (z1,z7,z8,z9,z6) [5,1,2,3,4,0,6] [0] O Tryz.results62 (RV.tmp O) O O O O
   refine R.q (q.yp O O Tryz.underlying38) O<|R.nB O O O<|R.un 2 O ?_
   have hz:((bT (mkS st lg) dk l).1.c,(bT (mkS st lg) dk l).2.1,(bT (mkS st lg) dk l).1.L,(bT (mkS st lg) dk l).2.2)=(((cX (mkS st lg) dk).1.c),(cW (cX (mkS st lg) dk).1.L (cX (mkS st lg) dk).2.1 l).2.1,(cW (cX (mkS st lg) dk).1.L (cX (mkS st lg) dk).2.1 l).1,(cW (cX (mkS st lg) dk).1.L (cX (mkS st lg) dk).2.1 l).2.2):=by (have hf:=Aa (s:=mkS st lg) (d:=dk) (l:=l) af g0 (by intro hh;rcases hh with hh|hh <;> first|(exact absurd hh af)|omega);(rw [SI hf (by show lg.Many-lg.Next<_;omega) af af];rfl))
   have hz0:(bT (mkS st lg) dk l).1.c=(cX (mkS st lg) dk).1.c:=congrArg (fun t_=>t_.1) hz
   rw [hz0]
   have hz1:(bT (mkS st lg) dk l).2.1=(cW (cX (mkS st lg) dk).1.L (cX (mkS st lg) dk).2.1 l).2.1:=congrArg (fun t_=>t_.2.1) hz
   rw [hz1]
   have hz2:(bT (mkS st lg) dk l).1.L=(cW (cX (mkS st lg) dk).1.L (cX (mkS st lg) dk).2.1 l).1:=congrArg (fun t_=>t_.2.2.1) hz
   rw [hz2]
   have hz3:(bT (mkS st lg) dk l).2.2=(cW (cX (mkS st lg) dk).1.L (cX (mkS st lg) dk).2.1 l).2.2:=congrArg (fun t_=>t_.2.2.2) hz
   rw [hz3]
   exact R.w1 (z2,z7,z8,z9,z6) [5,1,2,3,4,0,7] [0] O Tryz.results62 (RV.tmp O) O O O O
  refine R.q (q.wQ O O Tryz.underlying38) O<|R.nA O O O<|R.un 2 O ?_
  have hz:((bT (mkS st lg) dk l).1.c,(bT (mkS st lg) dk l).2.1,(bT (mkS st lg) dk l).1.L,(bT (mkS st lg) dk l).2.2)=(((cX (mkS st lg) dk).1.c),(cX (mkS st lg) dk).2.1,(cX (mkS st lg) dk).1.L,(cX (mkS st lg) dk).2.2):=by (have hf:=Aa (s:=mkS st lg) (d:=dk) (l:=l) af g0 (by intro hh;rcases hh with hh|hh <;> first|(exact absurd hh af)|omega);(rw [SG hf (by show lg.Many-lg.Next<_;omega) af]))
  have hz0:(bT (mkS st lg) dk l).1.c=(cX (mkS st lg) dk).1.c:=congrArg (fun t_=>t_.1) hz
  rw [hz0]
  have hz1:(bT (mkS st lg) dk l).2.1=(cX (mkS st lg) dk).2.1:=congrArg (fun t_=>t_.2.1) hz
  rw [hz1]
  have hz2:(bT (mkS st lg) dk l).1.L=(cX (mkS st lg) dk).1.L:=congrArg (fun t_=>t_.2.2.1) hz
  rw [hz2]
  have hz3:(bT (mkS st lg) dk l).2.2=(cX (mkS st lg) dk).2.2:=congrArg (fun t_=>t_.2.2.2) hz
  rw [hz3]
  exact R.w1 (z2,z3,z4,z5,z6) [0,1,2,3,4,5,7] [0] O Tryz.results62 (RV.tmp O) O O O O
 refine R.q (q.sW O O) O<|R.nF O O ?_
 skip
 refine R.reg O<|R.u 1 O<|R.q (q.fD O) O<|R.q (q.jA O lx O) O<|R.q (q.ld 1 O O m8 O) O<|R.u 1 O<|R.s O (s.aT [6,2,3,4,5,0,1,7] [1] _ _ _ O O O NQ O O (fun w own hw H=>J9 bS lg bL l aI aE aG aF dk w own H ae af) O) ?_
 rintro ⟨l7,mh,z12⟩
 dsimp only
 refine R.ur 1 O O<|R.u 1 O<|?_
 by_cases h9:(cW lg dk l).2.2=0
 .
  refine R.q (q.yo O O Tryz.underlying38) O<|R.nA O O O<|R.u 2 O<|R.q (q.fD O) O<|R.q (q.jA O m9 O) O<|R.s O (s.dE 6 _ O O O (fun w hw=>Sl.bF (hw.row 5 O)) (.inr ⟨jv,rfl⟩) (fun w hw=>(aJ (Sl.one (hw.row 5 O)) bq)) O O O) fun _=>?_
  refine R.nr O<|R.un 2 O<|R.mp (fun _ hw=>hw.bu 5 _ O O) ?_
  have hz:((bT (mkS st lg) dk l).1.c,(bT (mkS st lg) dk l).2.1,(bT (mkS st lg) dk l).1.L,(bT (mkS st lg) dk l).2.2)=((⟨st.Epoch,st.Side,st.Size,st.First,cm st.Rows l⟩:jK),(cW lg dk l).2.1,(cW lg dk l).1,(cW lg dk l).2.2):=by (have hf:=Aa (s:=mkS st lg) (d:=dk) (l:=l) af g0 (by intro hh;rcases hh with hh|hh <;> first|(exact absurd hh af)|omega);(rw [SJ hf (by show ¬ lg.Many-lg.Next<_;omega) af];rfl))
  have hz0:(bT (mkS st lg) dk l).1.c=(⟨st.Epoch,st.Side,st.Size,st.First,cm st.Rows l⟩:jK):=congrArg (fun t_=>t_.1) hz
  rw [hz0]
  have hz1:(bT (mkS st lg) dk l).2.1=(cW lg dk l).2.1:=congrArg (fun t_=>t_.2.1) hz
  rw [hz1]
  have hz2:(bT (mkS st lg) dk l).1.L=(cW lg dk l).1:=congrArg (fun t_=>t_.2.2.1) hz
  rw [hz2]
  have hz3:(bT (mkS st lg) dk l).2.2=(cW lg dk l).2.2:=congrArg (fun t_=>t_.2.2.2) hz
  rw [hz3]
  exact R.w1 (z1,l7,mh,z12,bS) [5,1,2,3,4,0,6] [0] O Tryz.results62 (RV.tmp O) O O O O
 refine R.q (q.yp O O Tryz.underlying38) O<|R.nB O O O<|R.un 2 O ?_
 have hz:((bT (mkS st lg) dk l).1.c,(bT (mkS st lg) dk l).2.1,(bT (mkS st lg) dk l).1.L,(bT (mkS st lg) dk l).2.2)=(st,(cW lg dk l).2.1,(cW lg dk l).1,(cW lg dk l).2.2):=by (have hf:=Aa (s:=mkS st lg) (d:=dk) (l:=l) af g0 (by intro hh;rcases hh with hh|hh <;> first|(exact absurd hh af)|omega);(rw [SK hf (by show ¬ lg.Many-lg.Next<_;omega) af];rfl))
 have hz0:(bT (mkS st lg) dk l).1.c=st:=congrArg (fun t_=>t_.1) hz
 rw [hz0]
 have hz1:(bT (mkS st lg) dk l).2.1=(cW lg dk l).2.1:=congrArg (fun t_=>t_.2.1) hz
 rw [hz1]
 have hz2:(bT (mkS st lg) dk l).1.L=(cW lg dk l).1:=congrArg (fun t_=>t_.2.2.1) hz
 rw [hz2]
 have hz3:(bT (mkS st lg) dk l).2.2=(cW lg dk l).2.2:=congrArg (fun t_=>t_.2.2.2) hz
 rw [hz3]
 exact R.w1 (aR,l7,mh,z12,bS) [6,1,2,3,4,0,7] [0] O Tryz.results62 (RV.tmp O) O O O O
end
section
open Go Go.RowKit
structure iG (l:List ByteArray)(first:Int)(W:List (List Change))(u:Nat):Prop where
  sc:scan l first=(W,u)
  Z6:∀ (j:Nat) s,u<=j->l[j]? = some s->bO s 0=99->¬ s.extract 1 5=cz (first+(j:Int))
  num:∀ (j:Nat) s,l[j]? = some s->(bO s 0=111∨bO s 0=99) -> ∃m:Int,0<=m/\m<=first+(j:Int)/\s.extract 1 5=cz m
theorem CH {s:ByteArray}{n k:Int}(h:bO s 0=99->¬ s.extract 1 5=cz n):Cd s n k=false:=by
 rw [Bool.eq_false_iff];intro hc
 simp_all [Cd,Bool.and_eq_true,decide_eq_true_eq]
theorem Gw:∀ (l:List ByteArray) (n:Int) (out:List (List Change)) (deed:List Change) (used pos:Nat),(∀ (j:Nat) s,l[j]? = some s->bO s 0=99->¬ s.extract 1 5=cz (n+(j:Int)))->iP l n out deed used pos=(out,used)
 | [],n,out,deed,used,pos,_=>rfl
 | s::r,n,out,deed,used,pos,h=>by
  rw [iP,if_neg (by rw [CH (by have:=h 0 s rfl;grind)];decide)]
  split
  .
   refine Gw r _ _ _ _ _ fun j s' hs=>?_
   have:=h (j+1) s' aB
   grind
  rfl
section
variable {l l':List ByteArray} {first:Int} {W:List (List Change)} {u:Nat} {c:List Change}
theorem iG.ule (h:iG l first W u):u<=l.length:=Ls h.sc
theorem iG.next (h:iG l first W u)(h0:0<=first)(hb:first+2*(l.length:Int)<4294967296):iG l (first+(l.length:Int)) [] 0:=by
 have key:∀ (j:Nat) s,l[j]? = some s->(bO s 0=111∨bO s 0=99) -> ∀i:Nat,i<=l.length->¬ s.extract 1 5=cz (first+(l.length:Int)+(i:Int)):=fun j s hs hk i hi e=>by
  obtain ⟨m,h1,h2,h3⟩:=h.num j s hs hk
  have hj:=(List.getElem?_eq_some_iff.1 hs).1
  have:=KZ (a:=m) (b:=first+(l.length:Int)+(i:Int)) ae ae (h3.symm.trans e)
  omega
 refine ⟨?_,fun j s _ hs hk=>key j s hs (.inr hk) j aB,fun j s hs hk=>?_⟩
 .
  cases l with
  | nil=>rfl
  | cons s r =>
   unfold scan
   have hs:(s::r)[0]? = some s:=rfl
   rw [iP,if_neg (by rw [CH (fun hk=>by have:=key 0 s hs (.inr hk) 0 (Nat.zero_le _);grind)];decide),if_neg ?_]
   intro ho
   unfold G9 at ho;simp only [Bool.and_eq_true,decide_eq_true_eq] at ho
   exact key 0 s hs (.inl ho.1.2) 0 (Nat.zero_le _) aB
 obtain ⟨m,h1,h2,h3⟩:=h.num j s hs hk
 grind
theorem iG.blank (first:Int)(h:∀s∈l,bO s 0=0):iG l first [] 0:=by
 refine ⟨?_,fun j s _ hs hk=>?_,fun j s hs hk=>?_⟩
 .
  cases l with
  | nil=>rfl
  | cons s r =>
   simp_all [scan,iP,List.mem_cons_self,if_neg,uM,Dl]
 .grind
 grind
theorem iG.keep (h:iG l first W u)(h0:0<=first)(ht:l'.take u=l.take u)(hp:∀ (j:Nat) s,l'[j]? = some s->l[j]? = some s∨bO s 0=0∨(bO s 0=111/\s.extract 1 5=cz (first+(j:Int)))):iG l' first W u:=by
 have hn:∀ (j:Nat) s,u<=j->l'[j]? = some s->bO s 0=99->¬ s.extract 1 5=cz (first+(j:Int)):=fun j s hj hs hk=>by
  rcases hp j s hs with h1|h1|h1
  .exact h.Z6 j s hj h1 hk
  .omega
  omega
 refine ⟨?_,hn,fun j s hs hk=>?_⟩
 .
  have hcut:=zq (l:=l) (l':=l') (first:=first) (by rw [h.sc];omega)
  rw [h.sc] at hcut
  rw [hcut]
  refine Gw _ _ _ _ _ _ fun j s hs hk=>?_
  rw [List.getElem?_drop] at hs
  have:=hn (u+j) s (Nat.le_add_right _ _) hs hk
  grind
 rcases hp j s hs with h1|h1|h1
 .exact h.num j s h1 hk
 .omega
 grind
theorem iG.after {r:List ByteArray}(h:iG l first W u)(h0:0<=first)(hb:first+(l.length:Int)<4294967296)(hc:∀x∈c,gY x=0)(hm:c.length<=62)(hlen:u+(c.length+1)+r.length=l.length)
 (hr:r=[] ∨ ∃r',r=full ⟨#[]⟩::r') (hrr:∀ (j:Nat) s,r[j]? = some s->l[u+(c.length+1)+j]? = some s∨bO s 0=0) :
 iG (l.take u++(jL (first+(u:Int)) c++r)) first (W++[c]) (u+c.length+1):=by
 have htl:(l.take u).length=u:=aB
 have hds:=wv (first+(u:Int)) c
 have hcut:=zq (l:=l) (l':=l.take u++(jL (first+(u:Int)) c++r)) (first:=first) (by rw [h.sc];grind)
 rw [h.sc] at hcut
 dsimp only at hcut
 rw [List.drop_append_of_le_length ae,List.drop_of_length_le ae,List.nil_append] at hcut
 have XL:∀ (j:Nat) s,u+(c.length+1)<=j->(l.take u++(jL (first+(u:Int)) c++r))[j]? = some s->l[j]? = some s∨bO s 0=0:=fun j s hj hs=>by
  grind
 refine ⟨?_,fun j s hj hs hk=>?_,fun j s hs hk=>?_⟩
 .grind [jL,List.append_assoc,List.singleton_append,JL,pR]
 .
  rcases XL j s ae hs with h1|h1
  .exact h.Z6 j s ae h1 hk
  omega
 by_cases hj:j<u
 .
  rw [List.getElem?_append_left ae,List.getElem?_take_of_lt hj] at hs
  exact h.num j s hs hk
 by_cases hj2:j<u+(c.length+1)
 .
  rw [List.getElem?_append_right ae,htl,List.getElem?_append_left ae] at hs
  refine ⟨first+(j:Int),ae,ae,?_⟩
  unfold jL at hs
  by_cases hj3:j-u<c.length
  .
   rw [List.getElem?_append_left (by grind [ij])] at hs
   obtain ⟨x,hx⟩:∃x,c[j-u]? = some x:=⟨_,List.getElem?_eq_getElem hj3⟩
   rw [vM c _ _ x hx] at hs
   grind [ig,List.mem_of_getElem?,oW,lS]
  grind [List.getElem?_append_right,ij,List.getElem?_cons_zero,Option.some.injEq,oW,jX]
 rcases XL j s ae hs with h1|h1
 .exact h.num j s h1 hk
 omega
end
theorem OQ (k:Int):∀ (w:List Turn) (i:Nat) (l:List ByteArray) (p:Nat) (s:ByteArray),((w.zipIdx i).foldl (pP k) l)[p]? = some s->l[p]? = some s ∨ ∃t∈w,t.At.toNat=p/\t.Data=s
 | [],i,l,p,s,h => .inl h
 | t::w,i,l,p,s,h=>by
  rw [List.zipIdx_cons,List.foldl_cons] at h
  rcases OQ k w (i+1) _ p s h with h1|⟨t',ht,h1⟩
  .grind [pP,List.getElem?_eq_some_iff,List.getElem?_set_self,List.mem_cons_self,List.getElem?_set_ne]
  grind
theorem Q0 {k:Int}{w:List Turn}{l:List ByteArray}{p:Nat}{s:ByteArray}(h:(oU k w l)[p]? = some s):l[p]? = some s ∨ ∃t∈w,t.At.toNat=p/\t.Data=s:=OQ k w 0 l p s h
theorem take_same {α:Type}{l l':List α}{q:Nat}(hl:l'.length=l.length)(h:∀p s,p<q->l'[p]? = some s->l[p]? = some s):l'.take q=l.take q:=by
 refine List.ext_getElem? fun p=>?_
 grind
theorem Ah:∀ (l:List Change) (p n:Int) (t:Turn),(∀x∈l,gY x=0)->t∈j2 p n l -> ∃i:Nat,i<l.length/\t.At=p+(i:Int)/\bO t.Data 0=111/\t.Data.extract 1 5=cz (n+(i:Int))
 | [],_,_,t,_,h=>by cases h
 | c::l,p,n,t,hc,h=>by
  rcases List.mem_cons.1 h with rfl|h
  .
   obtain ⟨_,_,h3,h4⟩:=ig (hc c (List.mem_cons_self ..))
   have hs:(kM c).1.size<=41:=by rw [lS (hc c (List.mem_cons_self ..))];omega
   exact ⟨0,bW,bW,by dsimp only;rw [qZ hs];decide,by dsimp only;rw [oW hs];simp⟩
  obtain ⟨i,h1,h2,h3,h4⟩:=Ah l (p+1) (n+1) t (fun x hx=>hc x (List.mem_cons_of_mem _ hx)) h
  exact ⟨i+1,az,ae,h3,by rw [h4];congr 1;omega⟩
theorem Q5 {f k u cl n dn B:Nat}(h1:f+k=n)(h2:dn=n)(h3:(cl:Int)+1<=(k:Int)-(u:Int))(h4:B+1=dn-(f+u+cl)):u+(cl+1)+B=k:=ae
structure Rest (n:Nat)(d:cU):Prop where
  ok:gy n 0 d
  down:d.Down=false
  fuse : -1<=d.Fuse
  kn:d.Kept=d.Now
  wait:d.Wait=[]
theorem Q6 {n f k u:Nat}{first:Int}{d:cU}{W:List (List Change)}{c:List Change}(hR:Rest n d)(hfk:f+k=n)(h0:0<=first)(hb:first+(k:Int)<4294967296)(hL:iG (d.Now.drop f) first W u)(ha:lX ⟨f,k,first,u⟩ c=0) :
 (∃e,cW ⟨f,k,first,u⟩ d c=(⟨f,k,first,((u+c.length+1:Nat):Int)⟩,e,0)/\Rest n e/\e.Now.take f=d.Now.take f/\iG (e.Now.drop f) first (W++[c]) (u+c.length+1)/\(d.Fuse = -1->e.Fuse = -1)) ∨
 (∃e,cW ⟨f,k,first,u⟩ d c=(⟨f,k,first,u⟩,e,10)/\¬ d.Fuse = -1 /\ ∀z,gy n 0 (iE e z)/\(oU z e.Wait e.Kept).take f=d.Now.take f /\ ∃W' u',iG ((oU z e.Wait e.Kept).drop f) first W' u'/\(W'=W∨W'=W++[c])):=by
 have hok:=xU (lg:=⟨f,k,first,u⟩) (c:=c) hR.ok
 obtain ⟨a1,a2,a3⟩:=mO ha
 dsimp only at a2
 have hnl:=hR.ok.nl
 have hLK:UV n 0 ⟨f,k,first,u⟩ d:=⟨hR.ok,by show (0:Int)<=(f:Int);omega,by show (0:Int)<=(k:Int);omega,by show (f:Int)+(k:Int)<=(n:Int);omega,by show (0:Int)<=(u:Int);omega⟩
 have hkn:=hR.kn;have hwt:=hR.wait
 have hdl0:(d.Now.drop f).length=k:=by rw [List.length_drop];omega
 have live:=fun (h:d.Fuse = -1)=>QU (lg:=⟨f,k,first,u⟩) (c:=c) (gF:=f) (many:=k) (first:=first) (u:=u) (W:=W) hR.ok hR.down h rfl ae ae ae (by
  rw [show ((k:Nat):Int).toNat=k from rfl,o9 hR.down ae,List.take_of_length_le ae];exact hL.sc)
 obtain ⟨B,b0,hB,hS⟩:=OB (c:=c) hLK hR.down hR.fuse ha
 have hq:((f:Int)+(u:Int)).toNat=f+u:=ae
 dsimp only at hB hS
 rw [hq] at hB hS
 have hBl:(b0::B).length=d.Now.length-(f+u+c.length):=by rw [<- hB,List.length_drop]
 rw [List.length_cons] at hBl
 have XM:∀ (j:Nat) s,(b0::B)[j]? = some s->d.Now[f+u+c.length+j]? = some s:=fun j s hs=>by rw [<- hB,List.getElem?_drop] at hs;exact hs
 have htl:(d.Now.take (f+u)).length=f+u:=by rw [List.length_take];omega
 generalize hC:(if (u:Int)+(c.length:Int)+1<(k:Int) then B.set 0 (full ⟨#[]⟩) else B)=C at hS
 have ZZ:C.length=B.length:=by rw [<- hC];split <;> simp
 have XO:∀ (j:Nat) s,C[j]? = some s->d.Now[f+u+(c.length+1)+j]? = some s∨bO s 0=0:=fun j s hs=>by
  have hold:∀s,B[j]? = some s->d.Now[f+u+(c.length+1)+j]? = some s:=fun s hs=>by
   have:=XM (j+1) s (by simpa using hs)
   rwa [show f+u+c.length+(j+1)=f+u+(c.length+1)+j by omega] at this
  rw [<- hC] at hs
  split at hs
  .
   by_cases hj:j=0
   .
    subst hj
    have hlt:0<B.length:=by have:=(List.getElem?_eq_some_iff.1 hs).1;simpa using this
    rw [List.getElem?_set_self hlt] at hs
    injection hs with hs
    exact .inr (by rw [<- hs];exact pR)
   rw [List.getElem?_set_ne ae] at hs;exact .inl (hold s hs)
  exact .inl (hold s hs)
 have hCr:C=[] ∨ ∃r',C=full ⟨#[]⟩::r':=by
  by_cases hr:(u:Int)+(c.length:Int)+1<(k:Int)
  .
   right
   rw [if_pos hr] at hC
   cases B with
   | nil=>simp at hBl;omega
   | cons b1 B=>exact ⟨B,hC.symm⟩
  left
  exact List.eq_nil_of_length_eq_zero ae
 have Yv:(d.Now.take (f+u)++fC (first+(u:Int)) c).length=f+u+c.length:=by rw [List.length_append,htl,ij]
 have XP:(d.Now.take (f+u)++fC (first+(u:Int)) c++b0::C).take f=d.Now.take f:=by
  rw [List.append_assoc,List.take_append_of_le_length ae,List.take_take,Nat.min_eq_left ae]
 have hdr:∀X:List ByteArray,(d.Now.take (f+u)++X).drop f=(d.Now.drop f).take u++X:=fun X=>by
  rw [List.drop_append_of_le_length ae,List.drop_take,Nat.add_sub_cancel_left]
 have Ze:((d.Now.drop f).take u).length=u:=by rw [List.length_take];omega
 have hN1:iG ((d.Now.take (f+u)++fC (first+(u:Int)) c++b0::C).drop f) first W u:=by
  rw [List.append_assoc,hdr]
  refine hL.keep h0 (by rw [List.take_append_of_le_length ae,List.take_take,Nat.min_self]) fun j s hs=>?_
  by_cases hj:j<u
  .rw [List.getElem?_append_left ae,List.getElem?_take_of_lt hj] at hs;exact .inl hs
  rw [List.getElem?_append_right ae,Ze] at hs
  by_cases hj2:j-u<c.length
  .
   rw [List.getElem?_append_left (by rw [ij];exact hj2)] at hs
   obtain ⟨x,hx⟩:∃x,c[j-u]? = some x:=⟨_,List.getElem?_eq_getElem hj2⟩
   rw [vM c _ _ x hx] at hs
   injection hs with hs
   have hz:=a3 x (List.mem_of_getElem? hx)
   obtain ⟨_,_,h3,h4⟩:=ig hz
   have hsz:(kM x).1.size<=41:=by rw [lS hz];omega
   refine .inr (.inr ⟨by rw [<- hs,qZ hsz];decide,by rw [<- hs,oW hsz];congr 1;omega⟩)
  rw [List.getElem?_append_right (by rw [ij];omega),ij] at hs
  by_cases hj3:j-u-c.length=0
  .
   rw [hj3] at hs
   have:=XM 0 s (by simpa using hs)
   left;rw [List.getElem?_drop];rwa [show f+j=f+u+c.length+0 by omega]
  obtain ⟨i,hi⟩:∃i,j-u-c.length=i+1:=⟨j-u-c.length-1,ae⟩
  rw [hi,List.getElem?_cons_succ] at hs
  rcases XO i s hs with h1|h1
  .left;rw [List.getElem?_drop];rwa [show f+j=f+u+(c.length+1)+i by omega]
  exact .inr (.inl h1)
 have XQ:(d.Now.take (f+u)++(jL (first+(u:Int)) c++C)).take f=d.Now.take f:=by
  rw [List.take_append_of_le_length ae,List.take_take,Nat.min_eq_left ae]
 have Z7:iG ((d.Now.take (f+u)++(jL (first+(u:Int)) c++C)).drop f) first (W++[c]) (u+c.length+1):=by
  rw [hdr]
  have q1:first+((d.Now.drop f).length:Int)<4294967296:=by rw [hdl0];exact hb
  have q2:u+(c.length+1)+C.length=(d.Now.drop f).length:=by rw [hdl0,ZZ];exact Q5 hfk hnl a2 hBl
  refine hL.after h0 q1 a3 a1 q2 hCr fun j s hs=>?_
  rcases XO j s hs with h1|h1
  .left;rw [List.getElem?_drop];rwa [show f+(u+(c.length+1)+j)=f+u+(c.length+1)+j by omega]
  exact .inr h1
 have hold:∀ (T:List Turn) (z:Int),(∀t∈T,t∈tM ⟨f,k,first,u⟩ c)->(oU z T d.Kept).take f=d.Now.take f/\iG ((oU z T d.Kept).drop f) first W u:=fun T z hT=>by
  have hlen:(oU z T d.Kept).length=d.Now.length:=by rw [FE,hkn]
  have hp:∀ (p:Nat) s,(oU z T d.Kept)[p]? = some s->d.Now[p]? = some s∨(f+u<=p/\(bO s 0=0∨(bO s 0=111/\s.extract 1 5=cz (first+((p-f:Nat):Int))))):=fun p s hs=>by
   rcases Q0 hs with h1|⟨t,ht,h1,h2⟩
   .left;rw [<- hkn];exact h1
   right
   have ht:=hT t ht
   unfold tM at ht
   rcases List.mem_append.1 ht with ht|ht
   .
    obtain ⟨i,g1,g2,g3,g4⟩:=Ah _ _ _ _ a3 ht
    dsimp only at g2 g4
    refine ⟨ae,.inr ⟨by rw [<- h2];exact g3,by rw [<- h2,g4];congr 1;omega⟩⟩
   split at ht
   .
    rw [List.mem_singleton.1 ht] at h1 h2
    dsimp only at h1 h2
    exact ⟨ae,.inl (by rw [<- h2];exact pR)⟩
   cases ht
  refine ⟨take_same hlen fun p s hp1 hs=>(hp p s hs).elim id fun h=>by omega,hL.keep h0 ?_ fun j s hs=>?_⟩
  .
   refine take_same (by rw [List.length_drop,List.length_drop,hlen]) fun p s hp1 hs=>?_
   rw [List.getElem?_drop] at hs ⊢
   exact (hp _ s hs).elim id fun h=>by omega
  rw [List.getElem?_drop] at hs ⊢
  rcases hp _ s hs with h1|⟨h1,h2|h2⟩
  .exact .inl h1
  .exact .inr (.inl h2)
  rw [Nat.add_sub_cancel_left] at h2;exact .inr (.inr h2)
 have fell:∀e:cU,cW ⟨f,k,first,u⟩ d c=(⟨f,k,first,u⟩,e,10)->¬ d.Fuse = -1:=fun e he hf=>by
  have:=(live hf).1
  rw [he,ha] at this;cases this
 have rest:∀ (e:cU),cW ⟨f,k,first,u⟩ d c=(⟨f,k,first,u⟩,e,10) -> ∀z,gy n 0 (iE e z):=fun e he z=>by
  rw [he] at hok;exact hok.restart z
 rcases hS with ⟨g,hg,hS⟩ | ⟨e,he,e1,e2,j,e3⟩
 rotate_left
 .
  right
  have e':=Sd (lg:=⟨f,k,first,u⟩) (d:=d) ha (by rw [he];exact wA)
  rw [he] at e'
  refine ⟨e,e',fell e e',fun z=>⟨rest e e' z,?_⟩⟩
  rw [e2,e3,hwt,List.nil_append]
  have:=hold (List.take j (tM ⟨f,k,first,u⟩ c)) z (fun t ht=>List.mem_of_mem_take ht)
  exact ⟨this.1,W,u,this.2,.inl rfl⟩
 have g0:(dY ⟨f,k,first,u⟩ d c).2=0:=by rw [hS]
 have hb1:tF ⟨f,k,first,u⟩ d c=au (dY ⟨f,k,first,u⟩ d c).1:=rfl
 rw [hS] at hb1
 rcases tL (d:=⟨d.Kept,d.Now.take (f+u)++fC (first+(u:Int)) c++b0::C,d.Wait++tM ⟨f,k,first,u⟩ c,g,false⟩) rfl hg with ⟨g2,hg2,hb'⟩ | hb'
 rotate_left
 .
  rw [hb'] at hb1
  right
  have e':=Se (lg:=⟨f,k,first,u⟩) (d:=d) ha g0 (by rw [hb1];exact wA)
  rw [hb1] at e'
  refine ⟨_,e',fell _ e',fun z=>⟨rest _ e' z,?_⟩⟩
  dsimp only
  rw [hwt,List.nil_append]
  have:=hold _ z (fun t ht=>ht)
  exact ⟨this.1,W,u,this.2,.inl rfl⟩
 rw [hb'] at hb1
 have g1:(tF ⟨f,k,first,u⟩ d c).2=0:=by rw [hb1]
 have hc1:uO ⟨f,k,first,u⟩ d c=aC (tF ⟨f,k,first,u⟩ d c).1 ((f:Int)+((u:Int)+(c.length:Int))) (eB 99 (first+((u:Int)+(c.length:Int))) (cz (c.length:Int))):=rfl
 rw [hb1] at hc1
 rcases p7 (d:=⟨d.Now.take (f+u)++fC (first+(u:Int)) c++b0::C,d.Now.take (f+u)++fC (first+(u:Int)) c++b0::C,[],g2,false⟩) (i:=(f:Int)+((u:Int)+(c.length:Int))) (x:=eB 99 (first+((u:Int)+(c.length:Int))) (cz (c.length:Int))) rfl hg2 ae (by dsimp only;rw [List.length_append,Yv,List.length_cons];omega) (by rw [oV,jX];omega) with ⟨g3,hg3,hc'⟩ | hc'
 rotate_left
 .
  dsimp only at hc1 hc'
  rw [hc'] at hc1
  right
  have e':=Sf (lg:=⟨f,k,first,u⟩) (d:=d) ha g0 g1 (by rw [hc1];exact wA)
  rw [hc1] at e'
  refine ⟨_,e',fell _ e',fun z=>⟨rest _ e' z,?_⟩⟩
  exact ⟨XP,W,u,hN1,.inl rfl⟩
 have e:((f:Int)+((u:Int)+(c.length:Int))).toNat=f+u+c.length:=ae
 have hset:(d.Now.take (f+u)++fC (first+(u:Int)) c++b0::C).set (f+u+c.length) (full (eB 99 (first+((u:Int)+(c.length:Int))) (cz (c.length:Int))))=d.Now.take (f+u)++(jL (first+(u:Int)) c++C):=by
  rw [List.set_append_right _ _ ae,Yv,Nat.sub_self,List.set_cons_zero]
  unfold jL
  rw [show first+((u:Int)+(c.length:Int))=first+(u:Int)+(c.length:Int) by omega]
  simp only [List.append_assoc,List.singleton_append,List.nil_append]
 dsimp only at hc1 hc'
 rw [hc',e,hset] at hc1
 have g2':(uO ⟨f,k,first,u⟩ d c).2=0:=by rw [hc1]
 have hdd:xx ⟨f,k,first,u⟩ d c=au (uO ⟨f,k,first,u⟩ d c).1:=rfl
 rw [hc1] at hdd
 rcases tL (d:=(⟨d.Now.take (f+u)++fC (first+(u:Int)) c++b0::C,d.Now.take (f+u)++(jL (first+(u:Int)) c++C),[]++[⟨(f:Int)+((u:Int)+(c.length:Int)),full (eB 99 (first+((u:Int)+(c.length:Int))) (cz (c.length:Int)))⟩],g3,false⟩:cU)) rfl hg3 with ⟨g4,hg4,hd'⟩ | hd'
 rotate_left
 .
  dsimp only at hdd hd'
  rw [hd'] at hdd
  right
  have e':=Sg (lg:=⟨f,k,first,u⟩) (d:=d) ha g0 g1 g2' (by rw [hdd];exact wA)
  rw [hdd] at e'
  refine ⟨_,e',fell _ e',fun z=>⟨rest _ e' z,?_⟩⟩
  dsimp only
  show (pP z _ (_,0)).take f=_ /\ ∃W' u',iG ((pP z _ (_,0)).drop f) first W' u'/\_
  by_cases hbit:Sc z 0=true
  .
   unfold pP;dsimp only
   rw [if_pos hbit,e,hset];exact ⟨XQ,_,_,Z7,.inr rfl⟩
  unfold pP;dsimp only
  rw [if_neg hbit];exact ⟨XP,_,_,hN1,.inl rfl⟩
 dsimp only at hdd hd'
 rw [hd'] at hdd
 left
 have e':=H2 (lg:=⟨f,k,first,u⟩) (d:=d) ha g0 g1 g2' (by rw [hdd])
 rw [hdd] at e'
 refine ⟨_,by rw [e'];dsimp only;congr 1,⟨?_,rfl,hg4,rfl,rfl⟩,XQ,Z7,fun hf=>?_⟩
 .
  rw [e'] at hok
  exact ⟨hok.kl,hok.nl,hok.ks,hok.ns,Nat.zero_le _,fun t ht=>(by cases ht),hok.f0,hok.f1⟩
 have:=(live hf).2.2.1
 rw [e'] at this;exact this
end
end Go.Proofs.YtnmpibjlnninjaaGreatDoor
