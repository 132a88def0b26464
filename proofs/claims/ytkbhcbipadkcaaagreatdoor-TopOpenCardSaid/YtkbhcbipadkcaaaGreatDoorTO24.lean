import Derived.Test.YtkbhcbipadkcaaaGreatDoorTO23
namespace Go.Proofs.YtkbhcbipadkcaaaGreatDoor
set_option linter.unusedVariables false
set_option linter.unusedSimpArgs false
section
open Go Go.RowKit
set_option maxRecDepth 100000
set_option maxHeartbeats 90000000
section
variable {s:oM} {d:cw} {l:List Change} {e:Int} {n m:Nat}
end
set_option maxHeartbeats 90000000 in
theorem xt (cD:Nat)(aL:Value)(st:ka)(bN:Value)(l:List Change)(aH:Nat)(ay aG az:Value)(dk:cw)(bz:Nat)(lg:Lg)(w:World)(own:List Nat)(H:HN w own [ag.box cD [.pointer (some ⟨aH,0,none⟩),iV st.Epoch,iV st.Side,iV st.Size,iV st.First,.pointer (some ⟨bz,0,none⟩),aL] 133,ag.box aH [ay,aG,az,iV dk.Fuse,.bool dk.Down] 112,ag.row 9 ay dk.Kept,ag.row 9 aG dk.Now,ag.row 114 az dk.Wait,ag.box bz [.pointer (some ⟨aH,0,none⟩),iV lg.From,iV lg.Many,iV lg.First,iV lg.Next] 198] [ag.ls aL st.Rows,ag.ls bN l])(hD:fL dk.Now.length 60000 dk/\dk.Now.length<=200/\166<=dk.Now.length)(hS:0<=st.Epoch/\st.Epoch<=1000000000/\0<=st.Side/\st.Side<=1/\0<=lg.Many/\lg.Many<=1000/\1<=lg.First/\lg.First<=1000000000/\0<=lg.From/\lg.From<=1000/\0<=lg.Next/\lg.Next<=1000)(hl:st.Rows.length<=60)(hF:∀c∈st.Rows,iI c=0)(hn:l.length<=10000):RC Tryz.prog 70 #[.pointer (some ⟨cD,0,none⟩),bN] H (fun _:Value×Value×Value×Value×Nat=>df (bD (mkS st lg) dk l).2.2) (fun z=>[ag.box cD [.pointer (some ⟨aH,0,none⟩),iV (bD (mkS st lg) dk l).1.c.Epoch,iV (bD (mkS st lg) dk l).1.c.Side,iV (bD (mkS st lg) dk l).1.c.Size,iV (bD (mkS st lg) dk l).1.c.First,.pointer (some ⟨z.2.2.2.2,0,none⟩),z.1] 133,ag.box aH [z.2.1,z.2.2.1,z.2.2.2.1,iV (bD (mkS st lg) dk l).2.1.Fuse,.bool (bD (mkS st lg) dk l).2.1.Down] 112,ag.row 9 z.2.1 (bD (mkS st lg) dk l).2.1.Kept,ag.row 9 z.2.2.1 (bD (mkS st lg) dk l).2.1.Now,ag.row 114 z.2.2.2.1 (bD (mkS st lg) dk l).2.1.Wait,ag.box z.2.2.2.2 [.pointer (some ⟨aH,0,none⟩),iV (bD (mkS st lg) dk l).1.L.From,iV (bD (mkS st lg) dk l).1.L.Many,iV (bD (mkS st lg) dk l).1.L.First,iV (bD (mkS st lg) dk l).1.L.Next] 198]) (fun z=>[ag.ls z.1 (bD (mkS st lg) dk l).1.c.Rows]):=by
 have eE:=H.cap 2 rfl;have eF:=H.cL 2 rfl
 have fC:=H.cap 3 rfl;have fD:=H.cL 3 rfl
 have eG:=H.cap 4 rfl;have eH:=H.cL 4 rfl
 have qP:=H.cq 0 rfl
 have yz:=H.cq 1 rfl
 have hal:=vA hF;have hc0:fL dk.Now.length 70000 dk/\dk.Now.length<=200/\166<=dk.Now.length:=⟨hD.1.up (by omega),hD.2.1,hD.2.2⟩;have hc1:=Kd (s:=mkS st lg) hD.1 (Nat.le_trans hal (by omega));have hc2:=hc1.nl
 have hb0:fL dk.Now.length 80000 dk/\dk.Now.length<=100000:=⟨hD.1.up (by omega),by omega⟩;have hb1:fL (ct (mkS st lg) dk).2.1.Now.length 80000 (ct (mkS st lg) dk).2.1/\(ct (mkS st lg) dk).2.1.Now.length<=100000:=⟨hc2.symm▸hc1.up (by omega),by omega⟩
 refine R.bC [(0,.pointer (some ⟨cD,0,none⟩)),(1,bN)] Tryz.func70 O O O O H<|R.reg O<|R.u 1 O<|R.nil<|R.reg O<|R.u 1 O<|R.q (q.len' (dw 1 O) O Tryz.underlying34) O<|?_
 by_cases h1:62<l.length
 .
  refine R.q (q.eL O O) O<|R.nil<|R.av O O<|R.reg O<|R.q (q.iface O bj) O<|R.u 1 O<|R.nil ?_
  have hz:((bD (mkS st lg) dk l).1.c,(bD (mkS st lg) dk l).2.1,(bD (mkS st lg) dk l).1.L,(bD (mkS st lg) dk l).2.2)=(st,dk,lg,2):=by (rw [Sx ‹_›];rfl)
  have hz0:(bD (mkS st lg) dk l).1.c=st:=congrArg (fun t_=>t_.1) hz
  rw [hz0]
  have hz1:(bD (mkS st lg) dk l).2.1=dk:=congrArg (fun t_=>t_.2.1) hz
  rw [hz1]
  have hz2:(bD (mkS st lg) dk l).1.L=lg:=congrArg (fun t_=>t_.2.2.1) hz
  rw [hz2]
  have hz3:(bD (mkS st lg) dk l).2.2=2:=congrArg (fun t_=>t_.2.2.2) hz
  rw [hz3]
  exact R.w1 (aL,ay,aG,az,bz) mg [0] O Tryz.results70 (RV.tmp O) O O O (dj (by decide) O)
 refine R.q (q.eo O O) O<|R.nil<|R.aA O O<|R.reg O<|R.u 1 O<|R.q (q.len' (dw 1 O) O Tryz.underlying34) O<|R.u 1 O<|R.nil<|R.loop (fun i:Nat=>[(0,.pointer (some ⟨cD,0,none⟩)),(1,bN),(15,bN),(16,iV (l.length:Int)),(17,iV (i:Int))]) (fun i:Nat=>[ag.box cD [.pointer (some ⟨aH,0,none⟩),iV st.Epoch,iV st.Side,iV st.Size,iV st.First,.pointer (some ⟨bz,0,none⟩),aL] 133,ag.box aH [ay,aG,az,iV dk.Fuse,.bool dk.Down] 112,ag.row 9 ay dk.Kept,ag.row 9 aG dk.Now,ag.row 114 az dk.Wait,ag.box bz [.pointer (some ⟨aH,0,none⟩),iV lg.From,iV lg.Many,iV lg.First,iV lg.Next] 198,ag.held w own]) (fun i:Nat=>[ag.ls aL st.Rows,ag.ls bN l]) (fun i:Nat=>i<=l.length/\jH (l.drop i)=jH l) (fun i:Nat=>l.length-i) 0 O (by exact ⟨by omega,rfl⟩) (sF O) (ic mg [0,1] O) ?_
 rintro i ⟨hi,HL⟩
 refine R.reg O<|?_
 by_cases h2:i<l.length
 .
  refine R.q (q.dx O O) O<|R.nil<|R.av O O<|R.reg O<|?_
  obtain ⟨x1,hx1⟩:∃z,l[i]? = some z:=⟨_,List.getElem?_eq_getElem (by omega)⟩
  have PY:=br x1
  refine R.q (q.idx (i:=i) (dw 1 O) O O cd O hx1) O<|R.q (q.eS (ds:=iz x1) (dw 1 O) hx1 O aX O) O<|R.s O (s.alloc cF O O) fun b1=>?_
  refine R.s O (s.st 0 _ O O O O (.inl aX) O O O O) fun _=>?_
  refine R.nil<|R.reg O<|R.q (q.dt 0 O O aX) O<|R.c (q.call tL O O (fun w hw=>(jx x1 w ))) O<|R.u 1 O<|R.nil ?_
  refine R.reg O<|R.u 1 O<|?_
  by_cases h3:iI x1=0
  .
   refine R.q (q.dB O O Tryz.underlying38) O<|R.nil<|R.aA O O<|R.reg O<|R.q (q.bA (r:=((i+1:Nat):Int)) O O) O<|R.u 1 O<|R.nil<|R.back (i+1) O (by (exact ⟨by omega,JX HL hx1 (by omega)⟩)) (by omega) (sF O) (aD [1,2,3,4,5,6,7] [0,1] O)
  refine R.q (q.ej O O Tryz.underlying38) O<|R.nil<|R.av O O<|R.reg O<|R.u 2 O<|R.nil ?_
  have hz:((bD (mkS st lg) dk l).1.c,(bD (mkS st lg) dk l).2.1,(bD (mkS st lg) dk l).1.L,(bD (mkS st lg) dk l).2.2)=(st,dk,lg,iI x1):=by (rw [Sy ‹_› (Bi HL hx1 ‹_›) ‹_›];rfl)
  have hz0:(bD (mkS st lg) dk l).1.c=st:=congrArg (fun t_=>t_.1) hz
  rw [hz0]
  have hz1:(bD (mkS st lg) dk l).2.1=dk:=congrArg (fun t_=>t_.2.1) hz
  rw [hz1]
  have hz2:(bD (mkS st lg) dk l).1.L=lg:=congrArg (fun t_=>t_.2.2.1) hz
  rw [hz2]
  have hz3:(bD (mkS st lg) dk l).2.2=iI x1:=congrArg (fun t_=>t_.2.2.2) hz
  rw [hz3]
  exact R.w1 (aL,ay,aG,az,bz) [1,2,3,4,5,6,7] [0] O Tryz.results70 (RV.tmp O) O O O O
 refine R.q (q.cU O O) O<|R.nil<|R.aA O O ?_
 have g0:jH l=0:=JY HL (by omega);have VL:=kU l st.Rows
 refine R.reg O<|R.u 1 O<|R.q (q.cb O) O<|R.q (q.aO O jc O) O<|R.q (q.ld 0 O O gw O) O<|R.u 1 O<|R.s O (s.aW mg [0,1] _ _ _ O O O Jg O O (fun w own hw H=>oI aL st.Rows bN l w own H (by omega)) O) fun z1=>?_
 refine R.u 1 O<|R.nil<|R.reg O<|R.u 1 O<|R.q (q.len' (bB 0 O) O Tryz.underlying34) O<|?_
 by_cases h4:60<(bW st.Rows l).length
 .
  refine R.q (q.eL O O) O<|R.u 12 O<|R.nil<|R.av O O<|R.reg O<|R.q (q.iface O bj) O<|R.u 1 O<|R.nil ?_
  have hz:((bD (mkS st lg) dk l).1.c,(bD (mkS st lg) dk l).2.1,(bD (mkS st lg) dk l).1.L,(bD (mkS st lg) dk l).2.2)=(st,dk,lg,9):=by (rw [N9 (s:=mkS st lg) ‹_› g0 (by exact .inl ‹_›)];rfl)
  have hz0:(bD (mkS st lg) dk l).1.c=st:=congrArg (fun t_=>t_.1) hz
  rw [hz0]
  have hz1:(bD (mkS st lg) dk l).2.1=dk:=congrArg (fun t_=>t_.2.1) hz
  rw [hz1]
  have hz2:(bD (mkS st lg) dk l).1.L=lg:=congrArg (fun t_=>t_.2.2.1) hz
  rw [hz2]
  have hz3:(bD (mkS st lg) dk l).2.2=9:=congrArg (fun t_=>t_.2.2.2) hz
  rw [hz3]
  exact R.w1 (aL,ay,aG,az,bz) [1,2,3,4,5,6,7] [0] O Tryz.results70 (RV.tmp O) O O O (dj (by decide) O)
 refine R.q (q.eo O O) O<|R.u 2 O<|R.qg O (q.len' (dw 1 O) O Tryz.underlying34) O<|R.qg O (q.bA (r:=((l.length+1:Nat):Int)) O O) O<|R.u 1 O<|R.qg O (q.cb O) O<|R.qg O (q.aO O jV O) O<|R.qg O (q.ld 1 O O jt O) O<|R.cg O (q.call uD O O (fun w hw=>(gE aH ay aG az dk w (hw.b 2 O) (hw.row 3 O) (hw.row 4 O) (hw.row 5 O) ))) O<|R.qg O (q.lT (r:=((dk.Now.length-102:Nat):Int)) O O) O<|?_
 by_cases h5:(dk.Now.length-102)<(l.length+1)
 .
  refine R.qg O (q.eL O O) O<|R.u 1 O<|R.nil<|R.av O O<|R.reg O<|R.q (q.iface O bj) O<|R.u 1 O<|R.nil ?_
  have hz:((bD (mkS st lg) dk l).1.c,(bD (mkS st lg) dk l).2.1,(bD (mkS st lg) dk l).1.L,(bD (mkS st lg) dk l).2.2)=(st,dk,lg,9):=by (rw [N9 (s:=mkS st lg) ‹_› g0 (by exact .inr (by omega))];rfl)
  have hz0:(bD (mkS st lg) dk l).1.c=st:=congrArg (fun t_=>t_.1) hz
  rw [hz0]
  have hz1:(bD (mkS st lg) dk l).2.1=dk:=congrArg (fun t_=>t_.2.1) hz
  rw [hz1]
  have hz2:(bD (mkS st lg) dk l).1.L=lg:=congrArg (fun t_=>t_.2.2.1) hz
  rw [hz2]
  have hz3:(bD (mkS st lg) dk l).2.2=9:=congrArg (fun t_=>t_.2.2.2) hz
  rw [hz3]
  exact R.w1 (aL,ay,aG,az,bz) [1,2,3,4,5,6,7] [0] O Tryz.results70 (RV.tmp O) O O O (dj (by decide) O)
 refine R.qg O (q.eo O O) O<|R.u 1 O<|R.nil<|R.aA O O<|R.reg O<|R.u 1 O<|R.q (q.len' (dw 1 O) O Tryz.underlying34) O<|R.q (q.bA (r:=((l.length+1:Nat):Int)) O O) O<|R.u 1 O<|R.q (q.cb O) O<|R.q (q.aO O kN O) O<|R.q (q.ld 1 O O fB O) O<|R.c (q.call EA O O (fun w hw=>(xb bz aH lg w (hw.b 6 O) (by omega)))) O<|?_
 by_cases h6:lg.Many-lg.Next<((l.length+1):Int)
 .
  refine R.q (q.eL O O) O<|R.nil<|R.av O O<|R.reg O<|R.u 1 O<|R.s O (s.aW [1,2,3,4,5,6,0,7] [0] _ _ _ O O O NS O O (fun w own hw H=>Da cD aL st aH ay aG az dk bz lg w own H ‹_› (by omega) (by omega) ‹_›) O) ?_
  rintro ⟨z2,z3,z4,z5,z6⟩
  dsimp only
  refine R.u 1 O<|R.nil ?_
  have hk:(ct (mkS st lg) dk).2.2=0->0<=(ct (mkS st lg) dk).1.L.From/\(ct (mkS st lg) dk).1.L.From<=1000000000/\0<=(ct (mkS st lg) dk).1.L.Next/\(ct (mkS st lg) dk).1.L.Next<=1000000000/\0<=(ct (mkS st lg) dk).1.L.First/\(ct (mkS st lg) dk).1.L.First<=4000000000000000000/\0<=(ct (mkS st lg) dk).1.L.Many/\(ct (mkS st lg) dk).1.L.Many<=1000000000:=fun hk1=>by have hk3:=Mz (ct (mkS st lg) dk).2.1 102 (((ct (mkS st lg) dk).2.1.Now.length:Int)-102).toNat ((mkS st lg).L.First+(mkS st lg).L.Many);rw [P6 hk1];unfold Sm;dsimp only;have e1:(mkS st lg).L.First=lg.First:=rfl;have e2:(mkS st lg).L.Many=lg.Many:=rfl;refine ⟨?_,?_,?_,?_,?_,?_,?_,?_⟩ <;> omega
  refine R.reg O<|R.u 1 O<|?_
  by_cases h7:(ct (mkS st lg) dk).2.2=0
  .
   refine R.q (q.dB O O Tryz.underlying38) O<|R.nil<|R.aA O O ?_
   (have hkk:=hk ‹_›)
   refine R.reg O<|R.u 1 O<|R.q (q.cb O) O<|R.q (q.aO O kN O) O<|R.q (q.ld 0 O O fB O) O<|R.u 1 O<|R.s O (s.aW [5,1,2,3,4,0,6,7] [2] _ _ _ O O O Jl O O (fun w own hw H=>Gl z6 (ct (mkS st lg) dk).1.L bN l aH z3 z4 z5 (ct (mkS st lg) dk).2.1 w own H ‹_› ‹_›) O) ?_
   rintro ⟨z7,z8,z9⟩
   dsimp only
   refine R.u 1 O<|R.nil<|R.reg O<|R.u 1 O<|?_
   by_cases h8:(cx (ct (mkS st lg) dk).1.L (ct (mkS st lg) dk).2.1 l).2.2=0
   .
    refine R.q (q.mo O O Tryz.underlying38) O<|R.nil<|R.av O O<|R.reg O<|R.u 2 O<|R.q (q.cb O) O<|R.q (q.aO O jc O) O<|R.s O (s.fX 5 _ O O O (fun w hw=>Sl.cm (hw.row 6 O)) (.inr ⟨gw,rfl⟩) (fun w hw=>(af (Sl.one (hw.row 6 O)) aP)) O O O) fun _=>?_
    refine R.nil<|R.reg O<|R.u 2 O<|R.nil<|R.mp (fun _ hw=>hw.cW 6 _ O O) ?_
    have hz:((bD (mkS st lg) dk l).1.c,(bD (mkS st lg) dk l).2.1,(bD (mkS st lg) dk l).1.L,(bD (mkS st lg) dk l).2.2)=((⟨((ct (mkS st lg) dk).1.c).Epoch,(ct (mkS st lg) dk).1.c.Side,(ct (mkS st lg) dk).1.c.Size,(ct (mkS st lg) dk).1.c.First,bW st.Rows l⟩:ka),(cx (ct (mkS st lg) dk).1.L (ct (mkS st lg) dk).2.1 l).2.1,(cx (ct (mkS st lg) dk).1.L (ct (mkS st lg) dk).2.1 l).1,(cx (ct (mkS st lg) dk).1.L (ct (mkS st lg) dk).2.1 l).2.2):=by (have hf:=xl (s:=mkS st lg) (d:=dk) (l:=l) ‹_› g0 (by intro hh;rcases hh with hh|hh <;> first|(exact absurd hh ‹_›)|omega);(rw [Ob hf (by show lg.Many-lg.Next<_;omega) ‹_› ‹_›];rfl))
    have hz0:(bD (mkS st lg) dk l).1.c=(⟨((ct (mkS st lg) dk).1.c).Epoch,(ct (mkS st lg) dk).1.c.Side,(ct (mkS st lg) dk).1.c.Size,(ct (mkS st lg) dk).1.c.First,bW st.Rows l⟩:ka):=congrArg (fun t_=>t_.1) hz
    rw [hz0]
    have hz1:(bD (mkS st lg) dk l).2.1=(cx (ct (mkS st lg) dk).1.L (ct (mkS st lg) dk).2.1 l).2.1:=congrArg (fun t_=>t_.2.1) hz
    rw [hz1]
    have hz2:(bD (mkS st lg) dk l).1.L=(cx (ct (mkS st lg) dk).1.L (ct (mkS st lg) dk).2.1 l).1:=congrArg (fun t_=>t_.2.2.1) hz
    rw [hz2]
    have hz3:(bD (mkS st lg) dk l).2.2=(cx (ct (mkS st lg) dk).1.L (ct (mkS st lg) dk).2.1 l).2.2:=congrArg (fun t_=>t_.2.2.2) hz
    rw [hz3]
    exact R.w1 (z1,z7,z8,z9,z6) [5,1,2,3,4,0,6] [0] O Tryz.results70 (RV.tmp O) O O O O
   refine R.q (q.jG O O Tryz.underlying38) O<|R.nil<|R.aA O O<|R.reg O<|R.u 2 O<|R.nil ?_
   have hz:((bD (mkS st lg) dk l).1.c,(bD (mkS st lg) dk l).2.1,(bD (mkS st lg) dk l).1.L,(bD (mkS st lg) dk l).2.2)=(((ct (mkS st lg) dk).1.c),(cx (ct (mkS st lg) dk).1.L (ct (mkS st lg) dk).2.1 l).2.1,(cx (ct (mkS st lg) dk).1.L (ct (mkS st lg) dk).2.1 l).1,(cx (ct (mkS st lg) dk).1.L (ct (mkS st lg) dk).2.1 l).2.2):=by (have hf:=xl (s:=mkS st lg) (d:=dk) (l:=l) ‹_› g0 (by intro hh;rcases hh with hh|hh <;> first|(exact absurd hh ‹_›)|omega);(rw [Oc hf (by show lg.Many-lg.Next<_;omega) ‹_› ‹_›];rfl))
   have hz0:(bD (mkS st lg) dk l).1.c=(ct (mkS st lg) dk).1.c:=congrArg (fun t_=>t_.1) hz
   rw [hz0]
   have hz1:(bD (mkS st lg) dk l).2.1=(cx (ct (mkS st lg) dk).1.L (ct (mkS st lg) dk).2.1 l).2.1:=congrArg (fun t_=>t_.2.1) hz
   rw [hz1]
   have hz2:(bD (mkS st lg) dk l).1.L=(cx (ct (mkS st lg) dk).1.L (ct (mkS st lg) dk).2.1 l).1:=congrArg (fun t_=>t_.2.2.1) hz
   rw [hz2]
   have hz3:(bD (mkS st lg) dk l).2.2=(cx (ct (mkS st lg) dk).1.L (ct (mkS st lg) dk).2.1 l).2.2:=congrArg (fun t_=>t_.2.2.2) hz
   rw [hz3]
   exact R.w1 (z2,z7,z8,z9,z6) [5,1,2,3,4,0,7] [0] O Tryz.results70 (RV.tmp O) O O O O
  refine R.q (q.ej O O Tryz.underlying38) O<|R.nil<|R.av O O<|R.reg O<|R.u 2 O<|R.nil ?_
  have hz:((bD (mkS st lg) dk l).1.c,(bD (mkS st lg) dk l).2.1,(bD (mkS st lg) dk l).1.L,(bD (mkS st lg) dk l).2.2)=(((ct (mkS st lg) dk).1.c),(ct (mkS st lg) dk).2.1,(ct (mkS st lg) dk).1.L,(ct (mkS st lg) dk).2.2):=by (have hf:=xl (s:=mkS st lg) (d:=dk) (l:=l) ‹_› g0 (by intro hh;rcases hh with hh|hh <;> first|(exact absurd hh ‹_›)|omega);(rw [Oa hf (by show lg.Many-lg.Next<_;omega) ‹_›]))
  have hz0:(bD (mkS st lg) dk l).1.c=(ct (mkS st lg) dk).1.c:=congrArg (fun t_=>t_.1) hz
  rw [hz0]
  have hz1:(bD (mkS st lg) dk l).2.1=(ct (mkS st lg) dk).2.1:=congrArg (fun t_=>t_.2.1) hz
  rw [hz1]
  have hz2:(bD (mkS st lg) dk l).1.L=(ct (mkS st lg) dk).1.L:=congrArg (fun t_=>t_.2.2.1) hz
  rw [hz2]
  have hz3:(bD (mkS st lg) dk l).2.2=(ct (mkS st lg) dk).2.2:=congrArg (fun t_=>t_.2.2.2) hz
  rw [hz3]
  exact R.w1 (z2,z3,z4,z5,z6) Cd [0] O Tryz.results70 (RV.tmp O) O O O O
 refine R.q (q.eo O O) O<|R.nil<|R.aA O O ?_
 skip
 refine R.reg O<|R.u 1 O<|R.q (q.cb O) O<|R.q (q.aO O kN O) O<|R.q (q.ld 1 O O fB O) O<|R.u 1 O<|R.s O (s.aW [6,2,3,4,5,0,1,7] [1] _ _ _ O O O Jl O O (fun w own hw H=>Gl bz lg bN l aH ay aG az dk w own H (by omega) ‹_›) O) ?_
 rintro ⟨lH,l9,z12⟩
 dsimp only
 refine R.u 1 O<|R.nil<|R.reg O<|R.u 1 O<|?_
 by_cases h9:(cx lg dk l).2.2=0
 .
  refine R.q (q.mo O O Tryz.underlying38) O<|R.nil<|R.av O O<|R.reg O<|R.u 2 O<|R.q (q.cb O) O<|R.q (q.aO O jc O) O<|R.s O (s.fX 6 _ O O O (fun w hw=>Sl.cm (hw.row 5 O)) (.inr ⟨gw,rfl⟩) (fun w hw=>(af (Sl.one (hw.row 5 O)) aP)) O O O) fun _=>?_
  refine R.nil<|R.reg O<|R.u 2 O<|R.nil<|R.mp (fun _ hw=>hw.cW 5 _ O O) ?_
  have hz:((bD (mkS st lg) dk l).1.c,(bD (mkS st lg) dk l).2.1,(bD (mkS st lg) dk l).1.L,(bD (mkS st lg) dk l).2.2)=((⟨st.Epoch,st.Side,st.Size,st.First,bW st.Rows l⟩:ka),(cx lg dk l).2.1,(cx lg dk l).1,(cx lg dk l).2.2):=by (have hf:=xl (s:=mkS st lg) (d:=dk) (l:=l) ‹_› g0 (by intro hh;rcases hh with hh|hh <;> first|(exact absurd hh ‹_›)|omega);(rw [Od hf (by show ¬ lg.Many-lg.Next<_;omega) ‹_›];rfl))
  have hz0:(bD (mkS st lg) dk l).1.c=(⟨st.Epoch,st.Side,st.Size,st.First,bW st.Rows l⟩:ka):=congrArg (fun t_=>t_.1) hz
  rw [hz0]
  have hz1:(bD (mkS st lg) dk l).2.1=(cx lg dk l).2.1:=congrArg (fun t_=>t_.2.1) hz
  rw [hz1]
  have hz2:(bD (mkS st lg) dk l).1.L=(cx lg dk l).1:=congrArg (fun t_=>t_.2.2.1) hz
  rw [hz2]
  have hz3:(bD (mkS st lg) dk l).2.2=(cx lg dk l).2.2:=congrArg (fun t_=>t_.2.2.2) hz
  rw [hz3]
  exact R.w1 (z1,lH,l9,z12,bz) [5,1,2,3,4,0,6] [0] O Tryz.results70 (RV.tmp O) O O O O
 refine R.q (q.jG O O Tryz.underlying38) O<|R.nil<|R.aA O O<|R.reg O<|R.u 2 O<|R.nil ?_
 have hz:((bD (mkS st lg) dk l).1.c,(bD (mkS st lg) dk l).2.1,(bD (mkS st lg) dk l).1.L,(bD (mkS st lg) dk l).2.2)=(st,(cx lg dk l).2.1,(cx lg dk l).1,(cx lg dk l).2.2):=by (have hf:=xl (s:=mkS st lg) (d:=dk) (l:=l) ‹_› g0 (by intro hh;rcases hh with hh|hh <;> first|(exact absurd hh ‹_›)|omega);(rw [Oe hf (by show ¬ lg.Many-lg.Next<_;omega) ‹_›];rfl))
 have hz0:(bD (mkS st lg) dk l).1.c=st:=congrArg (fun t_=>t_.1) hz
 rw [hz0]
 have hz1:(bD (mkS st lg) dk l).2.1=(cx lg dk l).2.1:=congrArg (fun t_=>t_.2.1) hz
 rw [hz1]
 have hz2:(bD (mkS st lg) dk l).1.L=(cx lg dk l).1:=congrArg (fun t_=>t_.2.2.1) hz
 rw [hz2]
 have hz3:(bD (mkS st lg) dk l).2.2=(cx lg dk l).2.2:=congrArg (fun t_=>t_.2.2.2) hz
 rw [hz3]
 exact R.w1 (aL,lH,l9,z12,bz) [6,1,2,3,4,0,7] [0] O Tryz.results70 (RV.tmp O) O O O O
end
section
open Go.RowKit
def dz (r:Int):Int:=if r<0 then 1 else if 7<r then 1 else 0
theorem gQ {r:Int}(h0:0<=r)(h7:r<=7):dz r=0:=by unfold dz;rw [if_neg (by omega),if_neg (by omega)]
theorem mE {r:Int}(h:r<0∨7<r):dz r=1:=by unfold dz;split;rfl;rw [if_pos (by omega)]
theorem hX (r:Int):(dz r=1/\(r<0∨7<r))∨(dz r=0/\0<=r/\r<=7):=by
 by_cases h:r<0∨7<r
 .exact .inl ⟨mE h,h⟩
 .exact .inr ⟨gQ (by omega) (by omega),by omega,by omega⟩
def ji (r need:Int):Bool:=(r.toNat &&& need.toNat)==need.toNat
theorem E0 {r:Int}(h0:0<=r)(h7:r<=7):∃x:Fin 8,r=((x:Nat):Int):=⟨⟨r.toNat,by omega⟩,by simp;omega⟩
def cr (w:aj):Int :=
  if w.ID<1 then 1 else if 999<w.ID then 1 else if w.aE<1 then 1 else if 999<w.aE then 1 else if w.aQ<0 then 1 else if 99<w.aQ then 1 else
  if w.From<0 then 1 else if w.ID<=w.From then 1 else dz w.Rights
theorem gq (x:aj):(cr x=1/\(x.ID<1∨999<x.ID∨x.aE<1∨999<x.aE∨x.aQ<0∨99<x.aQ∨x.From<0∨x.ID<=x.From∨x.Rights<0∨7<x.Rights)) ∨
 (cr x=0/\1<=x.ID/\x.ID<=999/\1<=x.aE/\x.aE<=999/\0<=x.aQ/\x.aQ<=99/\0<=x.From/\x.From<x.ID/\0<=x.Rights/\x.Rights<=7):=by
 unfold cr dz;(repeat' split) <;> first|(left;exact ⟨rfl,by omega⟩)|(right;exact ⟨rfl,by omega⟩)
def jK:aj:=⟨0,0,0,0,0⟩
def derived (w:aj)(id rights dL:Int):aj×Int :=
  if dz rights=1 then (jK,1) else if dL<0 then (jK,1) else if 99<dL then (jK,1) else
  if ji w.Rights rights=false then (jK,7) else
  if dL≠0/\w.aQ≠0/\dL≠w.aQ then (jK,7) else
  (⟨id,w.aE,rights,if dL=0 then w.aQ else dL,w.ID⟩,0)
def cG (l:List aj)(id:Int):Int:=match l.findIdx? (fun w=>w.ID==id) with|some i=>i|none => -1
theorem fj (l:List aj)(id:Int):(cG l id = -1 /\ ∀x∈l,¬ x.ID=id) ∨ ∃ (k:Nat) (h:k<l.length),cG l id=k/\l[k].ID=id /\ ∀j (hj:j<k),¬ (l[j]'(by omega)).ID=id:=by
 unfold cG
 cases h:l.findIdx? (fun w=>w.ID==id) with
 | none =>
  left
  refine ⟨rfl,fun x hx=>?_⟩
  have:=List.findIdx?_eq_none_iff.1 h x hx
  simpa using this
 | some k =>
  right
  obtain ⟨hk,h1,h2⟩:=List.findIdx?_eq_some_iff_getElem.1 h
  exact ⟨k,hk,rfl,by simpa using h1,fun j hj=>by simpa using h2 j hj⟩
theorem Kw {l:List aj}{id:Int}{k:Nat}(hk:k<l.length)(h1:l[k].ID=id)(h2:∀j x,j<k->l[j]? = some x->¬ x.ID=id):cG l id=k:=by
 unfold cG
 rw [List.findIdx?_eq_some_iff_getElem.2 ⟨hk,by simpa using h1,fun j hj=>by
  have:=h2 j l[j] hj (List.getElem?_eq_getElem (by omega));simpa using this⟩]
end
section
open Go.RowKit
theorem zF (a:Nat)(ha:a<9223372036854775808):(BitVec.ofInt 64 (a:Int)).toNat=a:=by
 rw [BitVec.ofInt_natCast,BitVec.toNat_ofNat];exact Nat.mod_eq_of_lt (by omega)
theorem Db (a b:Nat)(ha:a<9223372036854775808)(hb:b<9223372036854775808):bits .and .i64 (a:Int) (b:Int)=((a &&& b:Nat):Int):=by
 have hx:a &&& b<2 ^ 63:=Nat.and_lt_two_pow _ (by omega)
 show IntKind.i64.wrap ((BitVec.ofInt 64 (a:Int) &&& BitVec.ofInt 64 (b:Int)).toNat:Int)=_
 rw [BitVec.toNat_and,zF a ha,zF b hb,IntKind.wrap_i64]
 omega
theorem Gq {r n:Int}{b:Bool}(r0:0<=r)(r7:r<=7)(n0:0<=n)(n7:n<=7)(h:(bits .and .i64 r n==n)=b):b=ji r n:=by
 rw [<- h]
 obtain ⟨a,rfl⟩:=Int.eq_ofNat_of_zero_le r0
 obtain ⟨b,rfl⟩:=Int.eq_ofNat_of_zero_le n0
 rw [Db a b (by omega) (by omega)]
 unfold ji
 simp only [Int.toNat_natCast]
 rw [Bool.eq_iff_iff];simp only [beq_iff_eq];omega
theorem pn {r:Int}(h:dz r=0):0<=r/\r<=7:=by
 rcases hX r with ⟨h1,_⟩ | ⟨_,h2⟩
 .omega
 .exact h2
theorem dQ {r:Int}(h:¬ dz r=0):dz r=1:=by
 rcases hX r with ⟨h1,_⟩ | ⟨h1,_⟩
 .exact h1
 .exact absurd h1 h
theorem fa {x:aj}(h:x.ID<1∨999<x.ID∨x.aE<1∨999<x.aE∨x.aQ<0∨99<x.aQ∨x.From<0∨x.ID<=x.From∨x.Rights<0∨7<x.Rights):cr x=1:=by
 rcases gq x with ⟨h1,_⟩ | ⟨_,h2⟩
 .exact h1
 .omega
theorem oP {x:aj}(h:1<=x.ID/\x.ID<=999/\1<=x.aE/\x.aE<=999/\0<=x.aQ/\x.aQ<=99/\0<=x.From/\x.From<x.ID/\0<=x.Rights/\x.Rights<=7):cr x=0:=by
 rcases gq x with ⟨_,h2⟩ | ⟨h1,_⟩
 .omega
 .exact h1
theorem xu {x:aj}(h:1<=x.ID/\x.ID<=999/\1<=x.aE/\x.aE<=999/\0<=x.aQ/\x.aQ<=99/\0<=x.From/\x.From<x.ID):cr x=dz x.Rights:=by
 rcases hX x.Rights with ⟨h1,h2⟩ | ⟨h1,h2⟩
 .rw [h1,fa (by omega)]
 .rw [h1,oP (by omega)]
theorem r5 {x:aj}{id r b:Int}(h:¬ dz r=0):derived x id r b=(jK,1):=by
 have:dz r=1:=by rcases hX r with ⟨h1,_⟩ | ⟨h1,_⟩;exact h1;exact absurd h1 h
 unfold derived;rw [if_pos this]
theorem qQ {x:aj}{id r b:Int}(h:r<0∨7<r∨b<0∨99<b):derived x id r b=(jK,1):=by
 by_cases h1:dz r=0
 .
  have:=pn h1
  unfold derived;rw [if_neg (by rw [h1];decide)];split;rfl;rw [if_pos (by omega)]
 .exact r5 h1
theorem xw {x:aj}{id r b:Int}(h:0<=r/\r<=7/\0<=b/\b<=99)(hh:ji x.Rights r=false):derived x id r b=(jK,7):=by
 unfold derived;rw [if_neg (by rw [gQ h.1 h.2.1];decide),if_neg (by omega),if_neg (by omega),if_pos hh]
theorem xx {x:aj}{id r b:Int}(h:0<=r/\r<=7/\0<=b/\b<=99)(hh:ji x.Rights r=true)(hc:¬ b=0/\¬ x.aQ=0/\¬ b=x.aQ):derived x id r b=(jK,7):=by
 unfold derived;rw [if_neg (by rw [gQ h.1 h.2.1];decide),if_neg (by omega),if_neg (by omega),if_neg (by rw [hh];decide),if_pos hc]
theorem r6 {x:aj}{id r b:Int}(h:0<=r/\r<=7/\0<=b/\b<=99)(hh:ji x.Rights r=true)(hc:b=0):derived x id r b=(⟨id,x.aE,r,x.aQ,x.ID⟩,0):=by
 unfold derived;rw [if_neg (by rw [gQ h.1 h.2.1];decide),if_neg (by omega),if_neg (by omega),if_neg (by rw [hh];decide),if_neg (by omega),if_pos hc]
theorem r8 {x:aj}{id r b:Int}(h:0<=r/\r<=7/\0<=b/\b<=99)(hh:ji x.Rights r=true)(hc:¬ b=0)(hc2:x.aQ=0∨b=x.aQ):derived x id r b=(⟨id,x.aE,r,b,x.ID⟩,0):=by
 unfold derived;rw [if_neg (by rw [gQ h.1 h.2.1];decide),if_neg (by omega),if_neg (by omega),if_neg (by rw [hh];decide),if_neg (by omega),if_neg hc]
theorem xy {x:aj}{id r b:Int}(h:0<=r/\r<=7/\0<=b/\b<=99)(hh:ji x.Rights r=true)(hc:¬ x.aQ=0)(hc2:b=0∨b=x.aQ):derived x id r b=(⟨id,x.aE,r,x.aQ,x.ID⟩,0):=by
 by_cases hb:b=0
 .exact r6 h hh hb
 .rw [r8 h hh hb (by omega),show b=x.aQ by omega]
def idxOf {α:Type}(p:α->Bool)(l:List α):Int:=match l.findIdx? p with|some i=>i|none => -1
theorem idxOf_hit {α:Type}{p:α->Bool}{l:List α}{k:Nat}{x:α}(hk:l[k]? = some x)(h1:p x=true)(h2:∀ (j:Nat) x,j<k->l[j]? = some x->p x=false):idxOf p l=k:=by
 obtain ⟨hk',rfl⟩:=List.getElem?_eq_some_iff.1 hk
 unfold idxOf
 rw [List.findIdx?_eq_some_iff_getElem.2 ⟨hk',h1,fun j hj=>by
  have:=h2 j l[j] hj (List.getElem?_eq_getElem (by omega));simp [this]⟩]
theorem idxOf_miss {α:Type}{p:α->Bool}{l:List α}{k:Nat}(hk:¬ k<l.length)(h:∀ (j:Nat) x,j<k->l[j]? = some x->p x=false):idxOf p l = -1:=by
 unfold idxOf
 rw [List.findIdx?_eq_none_iff.2 (fun x hx=>by obtain ⟨j,hj⟩:=List.mem_iff_getElem?.1 hx;exact h j x (by have:=(List.getElem?_eq_some_iff.1 hj).1;omega) hj)]
theorem oa {α:Type}{p:α->Bool}{l:List α}{k:Nat}{x:α}(h:∀ (j:Nat) x,j<k->l[j]? = some x->p x=false)(hx:l[k]? = some x)(hp:p x=false):∀ (j:Nat) x,j<k+1->l[j]? = some x->p x=false:=by
 intro j y hj hy
 rcases Nat.lt_or_ge j k with h1|h1
 .exact h j y h1 hy
 .
  have:j=k:=by omega
  subst this;rw [hx] at hy;injection hy with hy;subst hy;exact hp
end
end Go.Proofs.YtkbhcbipadkcaaaGreatDoor
