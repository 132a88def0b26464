import Derived.Test.YtkbhcbipadkcaaaGreatDoorTW15
namespace Go.Proofs.YtkbhcbipadkcaaaGreatDoor
set_option linter.unusedVariables false
set_option linter.unusedSimpArgs false
set_option maxRecDepth 100000
set_option maxHeartbeats 90000000
section
open Go Go.RowKit
section
variable {s:oP} {d:cx} {l:List Change} {e:Int} {n m:Nat}
end
theorem xB (cF:Nat)(aL:Value)(st:ka)(bP:Value)(l:List Change)(aH:Nat)(ay aG az:Value)(dk:cx)(bz:Nat)(lg:Lg)(w:World)(own:List Nat)(H:HN w own [ag.box cF [.pointer (some ⟨aH,0,none⟩),iV st.Epoch,iV st.Side,iV st.Size,iV st.First,.pointer (some ⟨bz,0,none⟩),aL] 133,ag.box aH [ay,aG,az,iV dk.Fuse,.bool dk.Down] 112,ag.row 9 ay dk.Kept,ag.row 9 aG dk.Now,ag.row 114 az dk.Wait,ag.box bz [.pointer (some ⟨aH,0,none⟩),iV lg.From,iV lg.Many,iV lg.First,iV lg.Next] 198] [ag.ls aL st.Rows,ag.ls bP l])(hD:fN dk.Now.length 60000 dk/\dk.Now.length<=200/\166<=dk.Now.length)(hS:0<=st.Epoch/\st.Epoch<=1000000000/\0<=st.Side/\st.Side<=1/\0<=lg.Many/\lg.Many<=1000/\1<=lg.First/\lg.First<=1000000000/\0<=lg.From/\lg.From<=1000/\0<=lg.Next/\lg.Next<=1000)(hl:st.Rows.length<=60)(hF:∀c∈st.Rows,iI c=0)(hn:l.length<=10000):RC Tryz.prog 70 #[.pointer (some ⟨cF,0,none⟩),bP] H (fun _:Value×Value×Value×Value×Nat=>da (bE (mkS st lg) dk l).2.2) (fun z=>[ag.box cF [.pointer (some ⟨aH,0,none⟩),iV (bE (mkS st lg) dk l).1.c.Epoch,iV (bE (mkS st lg) dk l).1.c.Side,iV (bE (mkS st lg) dk l).1.c.Size,iV (bE (mkS st lg) dk l).1.c.First,.pointer (some ⟨z.2.2.2.2,0,none⟩),z.1] 133,ag.box aH [z.2.1,z.2.2.1,z.2.2.2.1,iV (bE (mkS st lg) dk l).2.1.Fuse,.bool (bE (mkS st lg) dk l).2.1.Down] 112,ag.row 9 z.2.1 (bE (mkS st lg) dk l).2.1.Kept,ag.row 9 z.2.2.1 (bE (mkS st lg) dk l).2.1.Now,ag.row 114 z.2.2.2.1 (bE (mkS st lg) dk l).2.1.Wait,ag.box z.2.2.2.2 [.pointer (some ⟨aH,0,none⟩),iV (bE (mkS st lg) dk l).1.L.From,iV (bE (mkS st lg) dk l).1.L.Many,iV (bE (mkS st lg) dk l).1.L.First,iV (bE (mkS st lg) dk l).1.L.Next] 198]) (fun z=>[ag.ls z.1 (bE (mkS st lg) dk l).1.c.Rows]):=by
 have eE:=H.cap 2 rfl;have eF:=H.cO 2 rfl
 have fD:=H.cap 3 rfl;have fE:=H.cO 3 rfl
 have eG:=H.cap 4 rfl;have eH:=H.cO 4 rfl
 have qU:=H.cq 0 rfl
 have yF:=H.cq 1 rfl
 have hal:=vH hF;have hc0:fN dk.Now.length 70000 dk/\dk.Now.length<=200/\166<=dk.Now.length:=⟨hD.1.up (by omega),hD.2.1,hD.2.2⟩;have hc1:=Kn (s:=mkS st lg) hD.1 (Nat.le_trans hal (by omega));have hc2:=hc1.nl
 have hb0:fN dk.Now.length 80000 dk/\dk.Now.length<=100000:=⟨hD.1.up (by omega),by omega⟩;have hb1:fN (cu (mkS st lg) dk).2.1.Now.length 80000 (cu (mkS st lg) dk).2.1/\(cu (mkS st lg) dk).2.1.Now.length<=100000:=⟨hc2.symm▸hc1.up (by omega),by omega⟩
 refine R.bD [(0,.pointer (some ⟨cF,0,none⟩)),(1,bP)] Tryz.func70 O O O O H<|R.reg O<|R.u 1 O<|R.nil<|R.reg O<|R.u 1 O<|R.q (q.len' (dy 1 O) O Tryz.underlying34) O<|?_
 by_cases h1:62<l.length
 .
  refine R.q (q.eL O O) O<|R.nil<|R.av O O<|R.reg O<|R.q (q.iface O bm) O<|R.u 1 O<|R.nil ?_
  have hz:((bE (mkS st lg) dk l).1.c,(bE (mkS st lg) dk l).2.1,(bE (mkS st lg) dk l).1.L,(bE (mkS st lg) dk l).2.2)=(st,dk,lg,2):=by (rw [SH ‹_›];rfl)
  have hz0:(bE (mkS st lg) dk l).1.c=st:=congrArg (fun t_=>t_.1) hz
  rw [hz0]
  have hz1:(bE (mkS st lg) dk l).2.1=dk:=congrArg (fun t_=>t_.2.1) hz
  rw [hz1]
  have hz2:(bE (mkS st lg) dk l).1.L=lg:=congrArg (fun t_=>t_.2.2.1) hz
  rw [hz2]
  have hz3:(bE (mkS st lg) dk l).2.2=2:=congrArg (fun t_=>t_.2.2.2) hz
  rw [hz3]
  exact R.w1 (aL,ay,aG,az,bz) mK [0] O Tryz.results70 (RV.tmp O) O O O (dr (by decide) O)
 refine R.q (q.eo O O) O<|R.nil<|R.aB O O<|R.reg O<|R.u 1 O<|R.q (q.len' (dy 1 O) O Tryz.underlying34) O<|R.u 1 O<|R.nil<|R.loop (fun i:Nat=>[(0,.pointer (some ⟨cF,0,none⟩)),(1,bP),(15,bP),(16,iV (l.length:Int)),(17,iV (i:Int))]) (fun i:Nat=>[ag.box cF [.pointer (some ⟨aH,0,none⟩),iV st.Epoch,iV st.Side,iV st.Size,iV st.First,.pointer (some ⟨bz,0,none⟩),aL] 133,ag.box aH [ay,aG,az,iV dk.Fuse,.bool dk.Down] 112,ag.row 9 ay dk.Kept,ag.row 9 aG dk.Now,ag.row 114 az dk.Wait,ag.box bz [.pointer (some ⟨aH,0,none⟩),iV lg.From,iV lg.Many,iV lg.First,iV lg.Next] 198,ag.held w own]) (fun i:Nat=>[ag.ls aL st.Rows,ag.ls bP l]) (fun i:Nat=>i<=l.length/\jH (l.drop i)=jH l) (fun i:Nat=>l.length-i) 0 O (by exact ⟨by omega,rfl⟩) (sF O) (ic mK [0,1] O) ?_
 rintro i ⟨hi,HL⟩
 refine R.reg O<|?_
 by_cases h2:i<l.length
 .
  refine R.q (q.dz O O) O<|R.nil<|R.av O O<|R.reg O<|?_
  obtain ⟨x1,hx1⟩:∃z,l[i]? = some z:=⟨_,List.getElem?_eq_getElem (by omega)⟩
  have P8:=br x1
  refine R.q (q.idx (i:=i) (dy 1 O) O O cd O hx1) O<|R.q (q.eS (ds:=iz x1) (dy 1 O) hx1 O aY O) O<|R.s O (s.alloc cI O O) fun b1=>?_
  refine R.s O (s.st 0 _ O O O O (.inl aY) O O O O) fun _=>?_
  refine R.nil<|R.reg O<|R.q (q.dh 0 O O aY) O<|R.c (q.call tU O O (fun w hw=>(jx x1 w ))) O<|R.u 1 O<|R.nil ?_
  refine R.reg O<|R.u 1 O<|?_
  by_cases h3:iI x1=0
  .
   refine R.q (q.dx O O Tryz.underlying38) O<|R.nil<|R.aB O O<|R.reg O<|R.q (q.bB (r:=((i+1:Nat):Int)) O O) O<|R.u 1 O<|R.nil<|R.back (i+1) O (by (exact ⟨by omega,J6 HL hx1 (by omega)⟩)) (by omega) (sF O) (aD [1,2,3,4,5,6,7] [0,1] O)
  refine R.q (q.d9 O O Tryz.underlying38) O<|R.nil<|R.av O O<|R.reg O<|R.u 2 O<|R.nil ?_
  have hz:((bE (mkS st lg) dk l).1.c,(bE (mkS st lg) dk l).2.1,(bE (mkS st lg) dk l).1.L,(bE (mkS st lg) dk l).2.2)=(st,dk,lg,iI x1):=by (rw [SI ‹_› (Bq HL hx1 ‹_›) ‹_›];rfl)
  have hz0:(bE (mkS st lg) dk l).1.c=st:=congrArg (fun t_=>t_.1) hz
  rw [hz0]
  have hz1:(bE (mkS st lg) dk l).2.1=dk:=congrArg (fun t_=>t_.2.1) hz
  rw [hz1]
  have hz2:(bE (mkS st lg) dk l).1.L=lg:=congrArg (fun t_=>t_.2.2.1) hz
  rw [hz2]
  have hz3:(bE (mkS st lg) dk l).2.2=iI x1:=congrArg (fun t_=>t_.2.2.2) hz
  rw [hz3]
  exact R.w1 (aL,ay,aG,az,bz) [1,2,3,4,5,6,7] [0] O Tryz.results70 (RV.tmp O) O O O O
 refine R.q (q.cW O O) O<|R.nil<|R.aB O O ?_
 have g0:jH l=0:=J7 HL (by omega);have VY:=kU l st.Rows
 refine R.reg O<|R.u 1 O<|R.q (q.cb O) O<|R.q (q.aO O jc O) O<|R.q (q.ld 0 O O gw O) O<|R.u 1 O<|R.s O (s.aW mK [0,1] _ _ _ O O O Jp O O (fun w own hw H=>oL aL st.Rows bP l w own H (by omega)) O) fun z1=>?_
 refine R.u 1 O<|R.nil<|R.reg O<|R.u 1 O<|R.q (q.len' (bC 0 O) O Tryz.underlying34) O<|?_
 by_cases h4:60<(bX st.Rows l).length
 .
  refine R.q (q.eL O O) O<|R.u 12 O<|R.nil<|R.av O O<|R.reg O<|R.q (q.iface O bm) O<|R.u 1 O<|R.nil ?_
  have hz:((bE (mkS st lg) dk l).1.c,(bE (mkS st lg) dk l).2.1,(bE (mkS st lg) dk l).1.L,(bE (mkS st lg) dk l).2.2)=(st,dk,lg,9):=by (rw [Oo (s:=mkS st lg) ‹_› g0 (by exact .inl ‹_›)];rfl)
  have hz0:(bE (mkS st lg) dk l).1.c=st:=congrArg (fun t_=>t_.1) hz
  rw [hz0]
  have hz1:(bE (mkS st lg) dk l).2.1=dk:=congrArg (fun t_=>t_.2.1) hz
  rw [hz1]
  have hz2:(bE (mkS st lg) dk l).1.L=lg:=congrArg (fun t_=>t_.2.2.1) hz
  rw [hz2]
  have hz3:(bE (mkS st lg) dk l).2.2=9:=congrArg (fun t_=>t_.2.2.2) hz
  rw [hz3]
  exact R.w1 (aL,ay,aG,az,bz) [1,2,3,4,5,6,7] [0] O Tryz.results70 (RV.tmp O) O O O (dr (by decide) O)
 refine R.q (q.eo O O) O<|R.u 2 O<|R.qg O (q.len' (dy 1 O) O Tryz.underlying34) O<|R.qg O (q.bB (r:=((l.length+1:Nat):Int)) O O) O<|R.u 1 O<|R.qg O (q.cb O) O<|R.qg O (q.aO O jV O) O<|R.qg O (q.ld 1 O O jt O) O<|R.cg O (q.call uJ O O (fun w hw=>(gE aH ay aG az dk w (hw.b 2 O) (hw.row 3 O) (hw.row 4 O) (hw.row 5 O) ))) O<|R.qg O (q.lV (r:=((dk.Now.length-102:Nat):Int)) O O) O<|?_
 by_cases h5:(dk.Now.length-102)<(l.length+1)
 .
  refine R.qg O (q.eL O O) O<|R.u 1 O<|R.nil<|R.av O O<|R.reg O<|R.q (q.iface O bm) O<|R.u 1 O<|R.nil ?_
  have hz:((bE (mkS st lg) dk l).1.c,(bE (mkS st lg) dk l).2.1,(bE (mkS st lg) dk l).1.L,(bE (mkS st lg) dk l).2.2)=(st,dk,lg,9):=by (rw [Oo (s:=mkS st lg) ‹_› g0 (by exact .inr (by omega))];rfl)
  have hz0:(bE (mkS st lg) dk l).1.c=st:=congrArg (fun t_=>t_.1) hz
  rw [hz0]
  have hz1:(bE (mkS st lg) dk l).2.1=dk:=congrArg (fun t_=>t_.2.1) hz
  rw [hz1]
  have hz2:(bE (mkS st lg) dk l).1.L=lg:=congrArg (fun t_=>t_.2.2.1) hz
  rw [hz2]
  have hz3:(bE (mkS st lg) dk l).2.2=9:=congrArg (fun t_=>t_.2.2.2) hz
  rw [hz3]
  exact R.w1 (aL,ay,aG,az,bz) [1,2,3,4,5,6,7] [0] O Tryz.results70 (RV.tmp O) O O O (dr (by decide) O)
 refine R.qg O (q.eo O O) O<|R.u 1 O<|R.nil<|R.aB O O<|R.reg O<|R.u 1 O<|R.q (q.len' (dy 1 O) O Tryz.underlying34) O<|R.q (q.bB (r:=((l.length+1:Nat):Int)) O O) O<|R.u 1 O<|R.q (q.cb O) O<|R.q (q.aO O kN O) O<|R.q (q.ld 1 O O fC O) O<|R.c (q.call EF O O (fun w hw=>(xj bz aH lg w (hw.b 6 O) (by omega)))) O<|?_
 by_cases h6:lg.Many-lg.Next<((l.length+1):Int)
 .
  refine R.q (q.eL O O) O<|R.nil<|R.av O O<|R.reg O<|R.u 1 O<|R.s O (s.aW [1,2,3,4,5,6,0,7] [0] _ _ _ O O O N5 O O (fun w own hw H=>Di cF aL st aH ay aG az dk bz lg w own H ‹_› (by omega) (by omega) ‹_›) O) ?_
  rintro ⟨z2,z3,z4,z5,z6⟩
  dsimp only
  refine R.u 1 O<|R.nil ?_
  have hk:(cu (mkS st lg) dk).2.2=0->0<=(cu (mkS st lg) dk).1.L.From/\(cu (mkS st lg) dk).1.L.From<=1000000000/\0<=(cu (mkS st lg) dk).1.L.Next/\(cu (mkS st lg) dk).1.L.Next<=1000000000/\0<=(cu (mkS st lg) dk).1.L.First/\(cu (mkS st lg) dk).1.L.First<=4000000000000000000/\0<=(cu (mkS st lg) dk).1.L.Many/\(cu (mkS st lg) dk).1.L.Many<=1000000000:=fun hk1=>by have hk3:=ML (cu (mkS st lg) dk).2.1 102 (((cu (mkS st lg) dk).2.1.Now.length:Int)-102).toNat ((mkS st lg).L.First+(mkS st lg).L.Many);rw [Qh hk1];unfold Sy;dsimp only;have e1:(mkS st lg).L.First=lg.First:=rfl;have e2:(mkS st lg).L.Many=lg.Many:=rfl;refine ⟨?_,?_,?_,?_,?_,?_,?_,?_⟩ <;> omega
  refine R.reg O<|R.u 1 O<|?_
  by_cases h7:(cu (mkS st lg) dk).2.2=0
  .
   refine R.q (q.dx O O Tryz.underlying38) O<|R.nil<|R.aB O O ?_
   (have hkk:=hk ‹_›)
   refine R.reg O<|R.u 1 O<|R.q (q.cb O) O<|R.q (q.aO O kN O) O<|R.q (q.ld 0 O O fC O) O<|R.u 1 O<|R.s O (s.aW [5,1,2,3,4,0,6,7] [2] _ _ _ O O O Ju O O (fun w own hw H=>Gv z6 (cu (mkS st lg) dk).1.L bP l aH z3 z4 z5 (cu (mkS st lg) dk).2.1 w own H ‹_› ‹_›) O) ?_
   rintro ⟨z7,z8,z9⟩
   dsimp only
   refine R.u 1 O<|R.nil<|R.reg O<|R.u 1 O<|?_
   by_cases h8:(cy (cu (mkS st lg) dk).1.L (cu (mkS st lg) dk).2.1 l).2.2=0
   .
    refine R.q (q.lx O O Tryz.underlying38) O<|R.nil<|R.av O O<|R.reg O<|R.u 2 O<|R.q (q.cb O) O<|R.q (q.aO O jc O) O<|R.s O (s.fS 5 _ O O O (fun w hw=>Sl.cm (hw.row 6 O)) (.inr ⟨gw,rfl⟩) (fun w hw=>(af (Sl.one (hw.row 6 O)) aP)) O O O) fun _=>?_
    refine R.nil<|R.reg O<|R.u 2 O<|R.nil<|R.mp (fun _ hw=>hw.cX 6 _ O O) ?_
    have hz:((bE (mkS st lg) dk l).1.c,(bE (mkS st lg) dk l).2.1,(bE (mkS st lg) dk l).1.L,(bE (mkS st lg) dk l).2.2)=((⟨((cu (mkS st lg) dk).1.c).Epoch,(cu (mkS st lg) dk).1.c.Side,(cu (mkS st lg) dk).1.c.Size,(cu (mkS st lg) dk).1.c.First,bX st.Rows l⟩:ka),(cy (cu (mkS st lg) dk).1.L (cu (mkS st lg) dk).2.1 l).2.1,(cy (cu (mkS st lg) dk).1.L (cu (mkS st lg) dk).2.1 l).1,(cy (cu (mkS st lg) dk).1.L (cu (mkS st lg) dk).2.1 l).2.2):=by (have hf:=xt (s:=mkS st lg) (d:=dk) (l:=l) ‹_› g0 (by intro hh;rcases hh with hh|hh <;> first|(exact absurd hh ‹_›)|omega);(rw [Ot hf (by show lg.Many-lg.Next<_;omega) ‹_› ‹_›];rfl))
    have hz0:(bE (mkS st lg) dk l).1.c=(⟨((cu (mkS st lg) dk).1.c).Epoch,(cu (mkS st lg) dk).1.c.Side,(cu (mkS st lg) dk).1.c.Size,(cu (mkS st lg) dk).1.c.First,bX st.Rows l⟩:ka):=congrArg (fun t_=>t_.1) hz
    rw [hz0]
    have hz1:(bE (mkS st lg) dk l).2.1=(cy (cu (mkS st lg) dk).1.L (cu (mkS st lg) dk).2.1 l).2.1:=congrArg (fun t_=>t_.2.1) hz
    rw [hz1]
    have hz2:(bE (mkS st lg) dk l).1.L=(cy (cu (mkS st lg) dk).1.L (cu (mkS st lg) dk).2.1 l).1:=congrArg (fun t_=>t_.2.2.1) hz
    rw [hz2]
    have hz3:(bE (mkS st lg) dk l).2.2=(cy (cu (mkS st lg) dk).1.L (cu (mkS st lg) dk).2.1 l).2.2:=congrArg (fun t_=>t_.2.2.2) hz
    rw [hz3]
    exact R.w1 (z1,z7,z8,z9,z6) [5,1,2,3,4,0,6] [0] O Tryz.results70 (RV.tmp O) O O O O
   refine R.q (q.jA O O Tryz.underlying38) O<|R.nil<|R.aB O O<|R.reg O<|R.u 2 O<|R.nil ?_
   have hz:((bE (mkS st lg) dk l).1.c,(bE (mkS st lg) dk l).2.1,(bE (mkS st lg) dk l).1.L,(bE (mkS st lg) dk l).2.2)=(((cu (mkS st lg) dk).1.c),(cy (cu (mkS st lg) dk).1.L (cu (mkS st lg) dk).2.1 l).2.1,(cy (cu (mkS st lg) dk).1.L (cu (mkS st lg) dk).2.1 l).1,(cy (cu (mkS st lg) dk).1.L (cu (mkS st lg) dk).2.1 l).2.2):=by (have hf:=xt (s:=mkS st lg) (d:=dk) (l:=l) ‹_› g0 (by intro hh;rcases hh with hh|hh <;> first|(exact absurd hh ‹_›)|omega);(rw [Ou hf (by show lg.Many-lg.Next<_;omega) ‹_› ‹_›];rfl))
   have hz0:(bE (mkS st lg) dk l).1.c=(cu (mkS st lg) dk).1.c:=congrArg (fun t_=>t_.1) hz
   rw [hz0]
   have hz1:(bE (mkS st lg) dk l).2.1=(cy (cu (mkS st lg) dk).1.L (cu (mkS st lg) dk).2.1 l).2.1:=congrArg (fun t_=>t_.2.1) hz
   rw [hz1]
   have hz2:(bE (mkS st lg) dk l).1.L=(cy (cu (mkS st lg) dk).1.L (cu (mkS st lg) dk).2.1 l).1:=congrArg (fun t_=>t_.2.2.1) hz
   rw [hz2]
   have hz3:(bE (mkS st lg) dk l).2.2=(cy (cu (mkS st lg) dk).1.L (cu (mkS st lg) dk).2.1 l).2.2:=congrArg (fun t_=>t_.2.2.2) hz
   rw [hz3]
   exact R.w1 (z2,z7,z8,z9,z6) [5,1,2,3,4,0,7] [0] O Tryz.results70 (RV.tmp O) O O O O
  refine R.q (q.d9 O O Tryz.underlying38) O<|R.nil<|R.av O O<|R.reg O<|R.u 2 O<|R.nil ?_
  have hz:((bE (mkS st lg) dk l).1.c,(bE (mkS st lg) dk l).2.1,(bE (mkS st lg) dk l).1.L,(bE (mkS st lg) dk l).2.2)=(((cu (mkS st lg) dk).1.c),(cu (mkS st lg) dk).2.1,(cu (mkS st lg) dk).1.L,(cu (mkS st lg) dk).2.2):=by (have hf:=xt (s:=mkS st lg) (d:=dk) (l:=l) ‹_› g0 (by intro hh;rcases hh with hh|hh <;> first|(exact absurd hh ‹_›)|omega);(rw [Oq hf (by show lg.Many-lg.Next<_;omega) ‹_›]))
  have hz0:(bE (mkS st lg) dk l).1.c=(cu (mkS st lg) dk).1.c:=congrArg (fun t_=>t_.1) hz
  rw [hz0]
  have hz1:(bE (mkS st lg) dk l).2.1=(cu (mkS st lg) dk).2.1:=congrArg (fun t_=>t_.2.1) hz
  rw [hz1]
  have hz2:(bE (mkS st lg) dk l).1.L=(cu (mkS st lg) dk).1.L:=congrArg (fun t_=>t_.2.2.1) hz
  rw [hz2]
  have hz3:(bE (mkS st lg) dk l).2.2=(cu (mkS st lg) dk).2.2:=congrArg (fun t_=>t_.2.2.2) hz
  rw [hz3]
  exact R.w1 (z2,z3,z4,z5,z6) Cl [0] O Tryz.results70 (RV.tmp O) O O O O
 refine R.q (q.eo O O) O<|R.nil<|R.aB O O ?_
 skip
 refine R.reg O<|R.u 1 O<|R.q (q.cb O) O<|R.q (q.aO O kN O) O<|R.q (q.ld 1 O O fC O) O<|R.u 1 O<|R.s O (s.aW [6,2,3,4,5,0,1,7] [1] _ _ _ O O O Ju O O (fun w own hw H=>Gv bz lg bP l aH ay aG az dk w own H (by omega) ‹_›) O) ?_
 rintro ⟨kY,lZ,z12⟩
 dsimp only
 refine R.u 1 O<|R.nil<|R.reg O<|R.u 1 O<|?_
 by_cases h9:(cy lg dk l).2.2=0
 .
  refine R.q (q.lx O O Tryz.underlying38) O<|R.nil<|R.av O O<|R.reg O<|R.u 2 O<|R.q (q.cb O) O<|R.q (q.aO O jc O) O<|R.s O (s.fS 6 _ O O O (fun w hw=>Sl.cm (hw.row 5 O)) (.inr ⟨gw,rfl⟩) (fun w hw=>(af (Sl.one (hw.row 5 O)) aP)) O O O) fun _=>?_
  refine R.nil<|R.reg O<|R.u 2 O<|R.nil<|R.mp (fun _ hw=>hw.cX 5 _ O O) ?_
  have hz:((bE (mkS st lg) dk l).1.c,(bE (mkS st lg) dk l).2.1,(bE (mkS st lg) dk l).1.L,(bE (mkS st lg) dk l).2.2)=((⟨st.Epoch,st.Side,st.Size,st.First,bX st.Rows l⟩:ka),(cy lg dk l).2.1,(cy lg dk l).1,(cy lg dk l).2.2):=by (have hf:=xt (s:=mkS st lg) (d:=dk) (l:=l) ‹_› g0 (by intro hh;rcases hh with hh|hh <;> first|(exact absurd hh ‹_›)|omega);(rw [Ov hf (by show ¬ lg.Many-lg.Next<_;omega) ‹_›];rfl))
  have hz0:(bE (mkS st lg) dk l).1.c=(⟨st.Epoch,st.Side,st.Size,st.First,bX st.Rows l⟩:ka):=congrArg (fun t_=>t_.1) hz
  rw [hz0]
  have hz1:(bE (mkS st lg) dk l).2.1=(cy lg dk l).2.1:=congrArg (fun t_=>t_.2.1) hz
  rw [hz1]
  have hz2:(bE (mkS st lg) dk l).1.L=(cy lg dk l).1:=congrArg (fun t_=>t_.2.2.1) hz
  rw [hz2]
  have hz3:(bE (mkS st lg) dk l).2.2=(cy lg dk l).2.2:=congrArg (fun t_=>t_.2.2.2) hz
  rw [hz3]
  exact R.w1 (z1,kY,lZ,z12,bz) [5,1,2,3,4,0,6] [0] O Tryz.results70 (RV.tmp O) O O O O
 refine R.q (q.jA O O Tryz.underlying38) O<|R.nil<|R.aB O O<|R.reg O<|R.u 2 O<|R.nil ?_
 have hz:((bE (mkS st lg) dk l).1.c,(bE (mkS st lg) dk l).2.1,(bE (mkS st lg) dk l).1.L,(bE (mkS st lg) dk l).2.2)=(st,(cy lg dk l).2.1,(cy lg dk l).1,(cy lg dk l).2.2):=by (have hf:=xt (s:=mkS st lg) (d:=dk) (l:=l) ‹_› g0 (by intro hh;rcases hh with hh|hh <;> first|(exact absurd hh ‹_›)|omega);(rw [Ow hf (by show ¬ lg.Many-lg.Next<_;omega) ‹_›];rfl))
 have hz0:(bE (mkS st lg) dk l).1.c=st:=congrArg (fun t_=>t_.1) hz
 rw [hz0]
 have hz1:(bE (mkS st lg) dk l).2.1=(cy lg dk l).2.1:=congrArg (fun t_=>t_.2.1) hz
 rw [hz1]
 have hz2:(bE (mkS st lg) dk l).1.L=(cy lg dk l).1:=congrArg (fun t_=>t_.2.2.1) hz
 rw [hz2]
 have hz3:(bE (mkS st lg) dk l).2.2=(cy lg dk l).2.2:=congrArg (fun t_=>t_.2.2.2) hz
 rw [hz3]
 exact R.w1 (aL,kY,lZ,z12,bz) [6,1,2,3,4,0,7] [0] O Tryz.results70 (RV.tmp O) O O O O
end
section
open Go.RowKit
def dB (r:Int):Int:=if r<0 then 1 else if 7<r then 1 else 0
theorem gQ {r:Int}(h0:0<=r)(h7:r<=7):dB r=0:=by unfold dB;rw [if_neg (by omega),if_neg (by omega)]
theorem mE {r:Int}(h:r<0∨7<r):dB r=1:=by unfold dB;split;rfl;rw [if_pos (by omega)]
theorem hX (r:Int):(dB r=1/\(r<0∨7<r))∨(dB r=0/\0<=r/\r<=7):=by
 by_cases h:r<0∨7<r
 .exact .inl ⟨mE h,h⟩
 .exact .inr ⟨gQ (by omega) (by omega),by omega,by omega⟩
def ji (r need:Int):Bool:=(r.toNat &&& need.toNat)==need.toNat
theorem E5 {r:Int}(h0:0<=r)(h7:r<=7):∃x:Fin 8,r=((x:Nat):Int):=⟨⟨r.toNat,by omega⟩,by simp;omega⟩
def ct (w:ak):Int :=
  if w.ID<1 then 1 else if 999<w.ID then 1 else if w.aE<1 then 1 else if 999<w.aE then 1 else if w.aQ<0 then 1 else if 99<w.aQ then 1 else
  if w.From<0 then 1 else if w.ID<=w.From then 1 else dB w.Rights
theorem gq (x:ak):(ct x=1/\(x.ID<1∨999<x.ID∨x.aE<1∨999<x.aE∨x.aQ<0∨99<x.aQ∨x.From<0∨x.ID<=x.From∨x.Rights<0∨7<x.Rights)) ∨
 (ct x=0/\1<=x.ID/\x.ID<=999/\1<=x.aE/\x.aE<=999/\0<=x.aQ/\x.aQ<=99/\0<=x.From/\x.From<x.ID/\0<=x.Rights/\x.Rights<=7):=by
 unfold ct dB;(repeat' split) <;> first|(left;exact ⟨rfl,by omega⟩)|(right;exact ⟨rfl,by omega⟩)
def jK:ak:=⟨0,0,0,0,0⟩
def derived (w:ak)(id rights dM:Int):ak×Int :=
  if dB rights=1 then (jK,1) else if dM<0 then (jK,1) else if 99<dM then (jK,1) else
  if ji w.Rights rights=false then (jK,7) else
  if dM≠0/\w.aQ≠0/\dM≠w.aQ then (jK,7) else
  (⟨id,w.aE,rights,if dM=0 then w.aQ else dM,w.ID⟩,0)
def cJ (l:List ak)(id:Int):Int:=match l.findIdx? (fun w=>w.ID==id) with|some i=>i|none => -1
theorem fk (l:List ak)(id:Int):(cJ l id = -1 /\ ∀x∈l,¬ x.ID=id) ∨ ∃ (k:Nat) (h:k<l.length),cJ l id=k/\l[k].ID=id /\ ∀j (hj:j<k),¬ (l[j]'(by omega)).ID=id:=by
 unfold cJ
 cases h:l.findIdx? (fun w=>w.ID==id) with
 | none =>
  left
  refine ⟨rfl,fun x hx=>?_⟩
  have:=List.findIdx?_eq_none_iff.1 h x hx
  simpa using this
 | some k =>
  right
  obtain ⟨hk,h1,h2⟩:=List.findIdx?_eq_some_iff_getElem.1 h
  exact ⟨k,hk,rfl,by simpa using h1,fun j hj=>by simpa using h2 j hj⟩
theorem KF {l:List ak}{id:Int}{k:Nat}(hk:k<l.length)(h1:l[k].ID=id)(h2:∀j x,j<k->l[j]? = some x->¬ x.ID=id):cJ l id=k:=by
 unfold cJ
 rw [List.findIdx?_eq_some_iff_getElem.2 ⟨hk,by simpa using h1,fun j hj=>by
  have:=h2 j l[j] hj (List.getElem?_eq_getElem (by omega));simpa using this⟩]
end
section
open Go.RowKit
theorem zK (a:Nat)(ha:a<9223372036854775808):(BitVec.ofInt 64 (a:Int)).toNat=a:=by
 rw [BitVec.ofInt_natCast,BitVec.toNat_ofNat];exact Nat.mod_eq_of_lt (by omega)
theorem Dj (a b:Nat)(ha:a<9223372036854775808)(hb:b<9223372036854775808):bits .and .i64 (a:Int) (b:Int)=((a &&& b:Nat):Int):=by
 have hx:a &&& b<2 ^ 63:=Nat.and_lt_two_pow _ (by omega)
 show IntKind.i64.wrap ((BitVec.ofInt 64 (a:Int) &&& BitVec.ofInt 64 (b:Int)).toNat:Int)=_
 rw [BitVec.toNat_and,zK a ha,zK b hb,IntKind.wrap_i64]
 omega
theorem GA {r n:Int}{b:Bool}(r0:0<=r)(r7:r<=7)(n0:0<=n)(n7:n<=7)(h:(bits .and .i64 r n==n)=b):b=ji r n:=by
 rw [<- h]
 obtain ⟨a,rfl⟩:=Int.eq_ofNat_of_zero_le r0
 obtain ⟨b,rfl⟩:=Int.eq_ofNat_of_zero_le n0
 rw [Dj a b (by omega) (by omega)]
 unfold ji
 simp only [Int.toNat_natCast]
 rw [Bool.eq_iff_iff];simp only [beq_iff_eq];omega
theorem py {r:Int}(h:dB r=0):0<=r/\r<=7:=by
 rcases hX r with ⟨h1,_⟩ | ⟨_,h2⟩
 .omega
 .exact h2
theorem dR {r:Int}(h:¬ dB r=0):dB r=1:=by
 rcases hX r with ⟨h1,_⟩ | ⟨h1,_⟩
 .exact h1
 .exact absurd h1 h
theorem fc {x:ak}(h:x.ID<1∨999<x.ID∨x.aE<1∨999<x.aE∨x.aQ<0∨99<x.aQ∨x.From<0∨x.ID<=x.From∨x.Rights<0∨7<x.Rights):ct x=1:=by
 rcases gq x with ⟨h1,_⟩ | ⟨_,h2⟩
 .exact h1
 .omega
theorem oT {x:ak}(h:1<=x.ID/\x.ID<=999/\1<=x.aE/\x.aE<=999/\0<=x.aQ/\x.aQ<=99/\0<=x.From/\x.From<x.ID/\0<=x.Rights/\x.Rights<=7):ct x=0:=by
 rcases gq x with ⟨_,h2⟩ | ⟨h1,_⟩
 .omega
 .exact h1
theorem xC {x:ak}(h:1<=x.ID/\x.ID<=999/\1<=x.aE/\x.aE<=999/\0<=x.aQ/\x.aQ<=99/\0<=x.From/\x.From<x.ID):ct x=dB x.Rights:=by
 rcases hX x.Rights with ⟨h1,h2⟩ | ⟨h1,h2⟩
 .rw [h1,fc (by omega)]
 .rw [h1,oT (by omega)]
theorem sg {x:ak}{id r b:Int}(h:¬ dB r=0):derived x id r b=(jK,1):=by
 have:dB r=1:=by rcases hX r with ⟨h1,_⟩ | ⟨h1,_⟩;exact h1;exact absurd h1 h
 unfold derived;rw [if_pos this]
theorem qV {x:ak}{id r b:Int}(h:r<0∨7<r∨b<0∨99<b):derived x id r b=(jK,1):=by
 by_cases h1:dB r=0
 .
  have:=py h1
  unfold derived;rw [if_neg (by rw [h1];decide)];split;rfl;rw [if_pos (by omega)]
 .exact sg h1
theorem xD {x:ak}{id r b:Int}(h:0<=r/\r<=7/\0<=b/\b<=99)(hh:ji x.Rights r=false):derived x id r b=(jK,7):=by
 unfold derived;rw [if_neg (by rw [gQ h.1 h.2.1];decide),if_neg (by omega),if_neg (by omega),if_pos hh]
theorem xE {x:ak}{id r b:Int}(h:0<=r/\r<=7/\0<=b/\b<=99)(hh:ji x.Rights r=true)(hc:¬ b=0/\¬ x.aQ=0/\¬ b=x.aQ):derived x id r b=(jK,7):=by
 unfold derived;rw [if_neg (by rw [gQ h.1 h.2.1];decide),if_neg (by omega),if_neg (by omega),if_neg (by rw [hh];decide),if_pos hc]
theorem sh {x:ak}{id r b:Int}(h:0<=r/\r<=7/\0<=b/\b<=99)(hh:ji x.Rights r=true)(hc:b=0):derived x id r b=(⟨id,x.aE,r,x.aQ,x.ID⟩,0):=by
 unfold derived;rw [if_neg (by rw [gQ h.1 h.2.1];decide),if_neg (by omega),if_neg (by omega),if_neg (by rw [hh];decide),if_neg (by omega),if_pos hc]
theorem si {x:ak}{id r b:Int}(h:0<=r/\r<=7/\0<=b/\b<=99)(hh:ji x.Rights r=true)(hc:¬ b=0)(hc2:x.aQ=0∨b=x.aQ):derived x id r b=(⟨id,x.aE,r,b,x.ID⟩,0):=by
 unfold derived;rw [if_neg (by rw [gQ h.1 h.2.1];decide),if_neg (by omega),if_neg (by omega),if_neg (by rw [hh];decide),if_neg (by omega),if_neg hc]
theorem xF {x:ak}{id r b:Int}(h:0<=r/\r<=7/\0<=b/\b<=99)(hh:ji x.Rights r=true)(hc:¬ x.aQ=0)(hc2:b=0∨b=x.aQ):derived x id r b=(⟨id,x.aE,r,x.aQ,x.ID⟩,0):=by
 by_cases hb:b=0
 .exact sh h hh hb
 .rw [si h hh hb (by omega),show b=x.aQ by omega]
def idxOf {α:Type}(p:α->Bool)(l:List α):Int:=match l.findIdx? p with|some i=>i|none => -1
theorem idxOf_hit {α:Type}{p:α->Bool}{l:List α}{k:Nat}{x:α}(hk:l[k]? = some x)(h1:p x=true)(h2:∀ (j:Nat) x,j<k->l[j]? = some x->p x=false):idxOf p l=k:=by
 obtain ⟨hk',rfl⟩:=List.getElem?_eq_some_iff.1 hk
 unfold idxOf
 rw [List.findIdx?_eq_some_iff_getElem.2 ⟨hk',h1,fun j hj=>by
  have:=h2 j l[j] hj (List.getElem?_eq_getElem (by omega));simp [this]⟩]
theorem idxOf_miss {α:Type}{p:α->Bool}{l:List α}{k:Nat}(hk:¬ k<l.length)(h:∀ (j:Nat) x,j<k->l[j]? = some x->p x=false):idxOf p l = -1:=by
 unfold idxOf
 rw [List.findIdx?_eq_none_iff.2 (fun x hx=>by obtain ⟨j,hj⟩:=List.mem_iff_getElem?.1 hx;exact h j x (by have:=(List.getElem?_eq_some_iff.1 hj).1;omega) hj)]
theorem od {α:Type}{p:α->Bool}{l:List α}{k:Nat}{x:α}(h:∀ (j:Nat) x,j<k->l[j]? = some x->p x=false)(hx:l[k]? = some x)(hp:p x=false):∀ (j:Nat) x,j<k+1->l[j]? = some x->p x=false:=by
 intro j y hj hy
 rcases Nat.lt_or_ge j k with h1|h1
 .exact h j y h1 hy
 .
  have:j=k:=by omega
  subst this;rw [hx] at hy;injection hy with hy;subst hy;exact hp
end
section
open Go Go.RowKit
theorem qm (r:Int)(w:World):Calls Tryz.prog 170 #[iV r] w fun e w'=>e = .returned (da (dB r))/\Ext w w':=by
 refine R.enter [] [(0,iV r)] Tryz.func170 O O O O<|R.reg O<|R.u 1 O<|R.nil<|R.reg O<|R.u 1 O<|?_
 by_cases h1:r<0
 .
  exact R.q (q.dz O O) O<|R.u 4 O<|R.nil<|R.av O O<|R.reg O<|R.q (q.iface O bm) O<|R.u 1 O<|R.nil<|R.rv O Tryz.results170 O (dr (by decide) (by (exact mE (by omega))))
 refine R.q (q.cW O O) O<|R.u 2 O<|?_
 by_cases h2:7<r
 .
  exact R.qg O (q.eL O O) O<|R.u 1 O<|R.nil<|R.av O O<|R.reg O<|R.q (q.iface O bm) O<|R.u 1 O<|R.nil<|R.rv O Tryz.results170 O (dr (by decide) (by (exact mE (by omega))))
 exact R.qg O (q.eo O O) O<|R.u 1 O<|R.nil<|R.aB O O<|R.reg O<|R.u 1 O<|R.nil<|R.rv O Tryz.results170 O (iK (by (exact gQ (by omega) (by omega))))
theorem gJ (r:Int)(n:Int)(w:World)(r0:0<=r/\r<=7)(n0:0<=n/\n<=7):Calls Tryz.prog 119 #[iV r,iV n] w fun e w'=>e = .returned (.bool (ji r n))/\Ext w w':=by
 refine R.enter [] [(0,iV r),(1,iV n)] Tryz.func119 O O O O<|R.reg O<|R.u 1 O<|R.nil<|R.reg O<|R.u 2 O<|R.q (q.and O O O) O<|R.u 1 O<|?_
 by_cases h1:(bits .and .i64 r n)=n
 .
  exact R.q (q.fI O O) O<|R.u 1 O<|R.nil<|R.rv O Tryz.results119 O (rB (by (exact GA r0.1 r0.2 n0.1 n0.2 (by exact beq_iff_eq.2 ‹_›))))
 exact R.q (q.e9 O O) O<|R.u 1 O<|R.nil<|R.rv O Tryz.results119 O (rB (by (exact GA r0.1 r0.2 n0.1 n0.2 (by exact beq_eq_false_iff_ne.2 ‹_›))))
theorem yQ (x:ak)(w:World):Calls Tryz.prog 188 #[.agg #[iV x.ID,iV x.aE,iV x.Rights,iV x.aQ,iV x.From]] w fun e w'=>e = .returned (da (ct x))/\Ext w w':=by
 refine R.enter [] [(0,.agg #[iV x.ID,iV x.aE,iV x.Rights,iV x.aQ,iV x.From])] Tryz.func188 O O O O<|R.reg O<|R.s O (s.box O O O) fun b1=>?_
 refine R.u 1 O<|R.nil<|R.reg O<|R.q (q.aO O bV O) O<|R.q (q.ld 0 O O au O) O<|?_
 by_cases h1:x.ID<1
 .
  exact R.q (q.dz O O) O<|R.u 37 O<|R.nil<|R.av O O<|R.reg O<|R.q (q.iface O bm) O<|R.u 1 O<|R.nil<|R.rv O Tryz.results188 O (dr (by decide) (by (exact fc (by omega))))
 refine R.q (q.cW O O) O<|R.u 1 O<|R.qg O (q.aO O bV O) O<|R.qg O (q.ld 0 O O au O) O<|?_
 by_cases h2:999<x.ID
 .
  exact R.qg O (q.eL O O) O<|R.u 33 O<|R.nil<|R.av O O<|R.reg O<|R.q (q.iface O bm) O<|R.u 1 O<|R.nil<|R.rv O Tryz.results188 O (dr (by decide) (by (exact fc (by omega))))
 refine R.qg O (q.eo O O) O<|R.u 2 O<|R.qg O (q.aO O fU O) O<|R.qg O (q.ld 0 O O au O) O<|?_
 by_cases h3:x.aE<1
 .
  exact R.qg O (q.dz O O) O<|R.u 28 O<|R.nil<|R.av O O<|R.reg O<|R.q (q.iface O bm) O<|R.u 1 O<|R.nil<|R.rv O Tryz.results188 O (dr (by decide) (by (exact fc (by omega))))
 refine R.qg O (q.cW O O) O<|R.u 2 O<|R.qg O (q.aO O fU O) O<|R.qg O (q.ld 0 O O au O) O<|?_
 by_cases h4:999<x.aE
 .
  exact R.qg O (q.eL O O) O<|R.u 23 O<|R.nil<|R.av O O<|R.reg O<|R.q (q.iface O bm) O<|R.u 1 O<|R.nil<|R.rv O Tryz.results188 O (dr (by decide) (by (exact fc (by omega))))
 refine R.qg O (q.eo O O) O<|R.u 2 O<|R.qg O (q.aO O iZ O) O<|R.qg O (q.ld 0 O O au O) O<|?_
 by_cases h5:x.aQ<0
 .
  exact R.qg O (q.dz O O) O<|R.u 18 O<|R.nil<|R.av O O<|R.reg O<|R.q (q.iface O bm) O<|R.u 1 O<|R.nil<|R.rv O Tryz.results188 O (dr (by decide) (by (exact fc (by omega))))
 refine R.qg O (q.cW O O) O<|R.u 2 O<|R.qg O (q.aO O iZ O) O<|R.qg O (q.ld 0 O O au O) O<|?_
 by_cases h6:99<x.aQ
 .
  exact R.qg O (q.eL O O) O<|R.u 13 O<|R.nil<|R.av O O<|R.reg O<|R.q (q.iface O bm) O<|R.u 1 O<|R.nil<|R.rv O Tryz.results188 O (dr (by decide) (by (exact fc (by omega))))
 refine R.qg O (q.eo O O) O<|R.u 2 O<|R.qg O (q.aO O eX O) O<|R.qg O (q.ld 0 O O au O) O<|?_
 by_cases h7:x.From<0
 .
  exact R.qg O (q.dz O O) O<|R.u 8 O<|R.nil<|R.av O O<|R.reg O<|R.q (q.iface O bm) O<|R.u 1 O<|R.nil<|R.rv O Tryz.results188 O (dr (by decide) (by (exact fc (by omega))))
 refine R.qg O (q.cW O O) O<|R.u 2 O<|R.qg O (q.aO O eX O) O<|R.qg O (q.ld 0 O O au O) O<|R.qg O (q.aO O bV O) O<|R.qg O (q.ld 0 O O au O) O<|?_
 by_cases h8:x.From<x.ID
 .
  refine R.qg O (q.I0 O O) O<|R.u 1 O<|R.nil<|R.aB O O<|R.reg O<|R.q (q.aO O jT O) O<|R.q (q.ld 0 O O au O) O<|R.c (q.call Jz O O (fun w hw=>(qm x.Rights w ))) O<|R.u 1 O<|R.nil ?_
  exact R.rv O Tryz.results188 O (rE (by (exact (xC (by omega)).symm)))
 exact R.qg O (q.Hb O O) O<|R.u 1 O<|R.nil<|R.av O O<|R.reg O<|R.q (q.iface O bm) O<|R.u 1 O<|R.nil<|R.rv O Tryz.results188 O (dr (by decide) (by (exact fc (by omega))))
theorem mF (x:ak)(id:Int)(r:Int)(b:Int)(w:World)(x0:0<=x.Rights/\x.Rights<=7):Calls Tryz.prog 120 #[.agg #[iV x.ID,iV x.aE,iV x.Rights,iV x.aQ,iV x.From],iV id,iV r,iV b] w fun e w'=>e = .returned (.tuple #[ak.val (derived x id r b).1,da (derived x id r b).2])/\Ext w w':=by
 refine R.enter [] [(0,.agg #[iV x.ID,iV x.aE,iV x.Rights,iV x.aQ,iV x.From]),(1,iV id),(2,iV r),(3,iV b)] Tryz.func120 O O O O<|R.reg O<|R.s O (s.box O O O) fun b1=>?_
 refine R.s O (s.alloc bQ O O) fun b2=>?_
 refine R.u 1 O<|R.nil<|R.reg O<|R.u 1 O<|R.c (q.call Jz O O (fun w hw=>(qm r w ))) O<|R.u 1 O<|R.nil ?_
 refine R.reg O<|R.u 1 O<|?_
 by_cases h1:dB r=0
 .
  refine R.q (q.dx O O Tryz.underlying38) O<|R.u 1 O<|R.nil<|R.aB O O ?_
  have hr:=py ‹_›
  refine R.reg O<|R.u 1 O<|?_
  by_cases h2:b<0
  .
   refine R.q (q.dz O O) O<|R.u 5 O<|R.nil<|R.av O O<|R.reg O<|R.q (q.build iY O O) O<|R.q (q.iface O bm) O<|R.s O (s.st 0 _ O O O O (.inl aM) O O O O) fun _=>?_
   exact R.u 1 O<|R.nil<|R.Ci O Tryz.results120 (RV.cell 0 O O aM) (RV.tmp O) (congrArg ak.val (show (⟨0,0,0,0,0⟩:ak)=(derived x id r b).1 from by ((rw [qV (by omega)]) <;> rfl))) (dr (by decide) (by ((rw [qV (by omega)]) <;> first|rfl|exact dR ‹_› | (simp;omega))))
  refine R.q (q.cW O O) O<|R.u 2 O<|?_
  by_cases h3:99<b
  .
   refine R.qg O (q.eL O O) O<|R.u 2 O<|R.nil<|R.av O O<|R.reg O<|R.q (q.build iY O O) O<|R.q (q.iface O bm) O<|R.s O (s.st 0 _ O O O O (.inl aM) O O O O) fun _=>?_
   exact R.u 1 O<|R.nil<|R.Ci O Tryz.results120 (RV.cell 0 O O aM) (RV.tmp O) (congrArg ak.val (show (⟨0,0,0,0,0⟩:ak)=(derived x id r b).1 from by ((rw [qV (by omega)]) <;> rfl))) (dr (by decide) (by ((rw [qV (by omega)]) <;> first|rfl|exact dR ‹_› | (simp;omega))))
  refine R.qg O (q.eo O O) O<|R.u 2 O<|R.nil<|R.aB O O<|R.reg O<|R.q (q.aO O jT O) O<|R.q (q.ld 1 O O au O) O<|R.u 1 O<|?_
  rcases Bool.eq_false_or_eq_true (ji x.Rights r) with h4|h4
  .
   refine R.c (q.call pY O O (fun w hw=>(cv (congrArg Value.bool h4) (gJ x.Rights r w (by omega) (by omega))))) O<|R.u 2 O<|R.nil ?_
   refine R.aB O O<|R.reg O<|R.u 1 O<|?_
   by_cases h5:b=0
   .
    refine R.q (q.lL O O) O<|R.u 12 O<|R.nil<|R.aB O O<|R.reg O<|R.u 1 O<|R.q (q.fI O O) O<|R.nil<|R.av O O<|R.reg O<|R.q (q.aO O iZ O) O<|R.q (q.ld 1 O O au O) O<|R.u 1 O<|R.nil<|R.reg O<|R.u 1 O<|R.q (q.aO O fU O) O<|R.q (q.ld 1 O O au O) O<|R.u 2 O<|R.q (q.aO O bV O) O<|R.q (q.ld 1 O O au O) O<|R.q (q.build iY O O) O<|R.s O (s.st 0 _ O O O O (.inl aM) O O O O) fun _=>?_
    exact R.u 1 O<|R.nil<|R.Ci O Tryz.results120 (RV.cell 0 O O aM) (RV.tmp O) (congrArg ak.val (show (⟨id,x.aE,r,x.aQ,x.ID⟩:ak)=(derived x id r b).1 from by ((rw [sh (by omega) ‹_› (by omega)]) <;> first|rfl|exact dR ‹_› | (simp;omega)))) (iK (by ((rw [sh (by omega) ‹_› (by omega)]) <;> first|rfl|exact dR ‹_› | (simp;omega))))
   refine R.q (q.lK O O) O<|R.u 1 O<|R.qg O (q.aO O iZ O) O<|R.qg O (q.ld 1 O O au O) O<|?_
   by_cases h6:x.aQ=0
   .
    refine R.qg O (q.lL O O) O<|R.u 8 O<|R.nil<|R.aB O O<|R.reg O<|R.u 1 O<|R.q (q.e9 O O) O<|R.nil<|R.aB O O<|R.reg O<|R.u 1 O<|R.q (q.aO O fU O) O<|R.q (q.ld 1 O O au O) O<|R.u 2 O<|R.q (q.aO O bV O) O<|R.q (q.ld 1 O O au O) O<|R.q (q.build iY O O) O<|R.s O (s.st 0 _ O O O O (.inl aM) O O O O) fun _=>?_
    exact R.u 1 O<|R.nil<|R.Ci O Tryz.results120 (RV.cell 0 O O aM) (RV.tmp O) (congrArg ak.val (show (⟨id,x.aE,r,b,x.ID⟩:ak)=(derived x id r b).1 from by ((rw [si (by omega) ‹_› (by omega) (by omega)]) <;> first|rfl|exact dR ‹_› | (simp;omega)))) (iK (by ((rw [si (by omega) ‹_› (by omega) (by omega)]) <;> first|rfl|exact dR ‹_› | (simp;omega))))
   refine R.qg O (q.lK O O) O<|R.u 3 O<|R.qg O (q.aO O iZ O) O<|R.qg O (q.ld 1 O O au O) O<|?_
   by_cases h7:b=x.aQ
   .
    refine R.qg O (q.lL O O) O<|R.u 2 O<|R.nil<|R.aB O O<|R.reg O<|R.u 1 O<|R.q (q.e9 O O) O<|R.nil<|R.aB O O<|R.reg O<|R.u 1 O<|R.q (q.aO O fU O) O<|R.q (q.ld 1 O O au O) O<|R.u 2 O<|R.q (q.aO O bV O) O<|R.q (q.ld 1 O O au O) O<|R.q (q.build iY O O) O<|R.s O (s.st 0 _ O O O O (.inl aM) O O O O) fun _=>?_
    exact R.u 1 O<|R.nil<|R.Ci O Tryz.results120 (RV.cell 0 O O aM) (RV.tmp O) (congrArg ak.val (show (⟨id,x.aE,r,b,x.ID⟩:ak)=(derived x id r b).1 from by ((rw [xF (by omega) ‹_› (by omega) (by omega)]) <;> (simp;omega)))) (iK (by ((rw [xF (by omega) ‹_› (by omega) (by omega)]) <;> first|rfl|exact dR ‹_› | (simp;omega))))
   refine R.qg O (q.lK O O) O<|R.u 2 O<|R.nil<|R.av O O<|R.reg O<|R.q (q.build iY O O) O<|R.q (q.iface O bm) O<|R.s O (s.st 0 _ O O O O (.inl aM) O O O O) fun _=>?_
   exact R.u 1 O<|R.nil<|R.Ci O Tryz.results120 (RV.cell 0 O O aM) (RV.tmp O) (congrArg ak.val (show (⟨0,0,0,0,0⟩:ak)=(derived x id r b).1 from by ((rw [xE (by omega) ‹_› (by omega)]) <;> rfl))) (dr (by decide) (by ((rw [xE (by omega) ‹_› (by omega)]) <;> first|rfl|exact dR ‹_› | (simp;omega))))
  refine R.c (q.call pY O O (fun w hw=>(cv (congrArg Value.bool h4) (gJ x.Rights r w (by omega) (by omega))))) O<|R.u 2 O<|R.nil ?_
  refine R.av O O<|R.reg O<|R.q (q.build iY O O) O<|R.q (q.iface O bm) O<|R.s O (s.st 0 _ O O O O (.inl aM) O O O O) fun _=>?_
  exact R.u 1 O<|R.nil<|R.Ci O Tryz.results120 (RV.cell 0 O O aM) (RV.tmp O) (congrArg ak.val (show (⟨0,0,0,0,0⟩:ak)=(derived x id r b).1 from by ((rw [xD (by omega) ‹_›]) <;> rfl))) (dr (by decide) (by ((rw [xD (by omega) ‹_›]) <;> first|rfl|exact dR ‹_› | (simp;omega))))
 refine R.q (q.d9 O O Tryz.underlying38) O<|R.u 1 O<|R.nil<|R.av O O<|R.reg O<|R.q (q.build iY O O) O<|R.u 1 O<|R.s O (s.st 0 _ O O O O (.inl aM) O O O O) fun _=>?_
 exact R.u 1 O<|R.nil<|R.Ci O Tryz.results120 (RV.cell 0 O O aM) (RV.tmp O) (congrArg ak.val (show (⟨0,0,0,0,0⟩:ak)=(derived x id r b).1 from by ((rw [sg ‹_›]) <;> rfl))) (rE (by ((rw [sg ‹_›]) <;> exact dR ‹_›)))
theorem Dk (x:ak)(id:Int)(MR:Nat)(w:World)(SY:(ag.box MR [iV id] 3).ok w):Calls Tryz.prog 163 #[.agg #[iV x.ID,iV x.aE,iV x.Rights,iV x.aQ,iV x.From],.pointer (some ⟨MR,0,none⟩)] w fun e w'=>e = .returned (.bool (x.ID==id))/\Ext w w':=by
 refine R.enter [] [(0,.agg #[iV x.ID,iV x.aE,iV x.Rights,iV x.aQ,iV x.From]),(1,.pointer (some ⟨MR,0,none⟩))] Tryz.func163 O O O O<|R.nK (r:=ag.box MR [iV id] 3) SY (jQ SY)<|R.reg O<|R.s O (s.box O O O) fun b1=>?_
 refine R.u 1 O<|R.nil<|R.reg O<|R.q (q.aO O bV O) O<|R.q (q.ld 0 O O au O) O<|R.q (q.yC 0 O O au O) O<|?_
 by_cases h1:x.ID=id
 .
  exact R.q (q.fI O O) O<|R.u 1 O<|R.nil<|R.rv O Tryz.results163 O (rB (by (exact (beq_iff_eq.2 ‹_›).symm)))
 exact R.q (q.e9 O O) O<|R.u 1 O<|R.nil<|R.rv O Tryz.results163 O (rB (by (exact (beq_eq_false_iff_ne.2 ‹_›).symm)))
theorem mG (bP:Value)(l:List ak)(p:ak->Bool)(Rh:Nat)(TN:List Value)(SZ:∀args w,(callFunc Rh args).run Tryz.prog w = .ok (.enter Rh args) w)(w:World)(ew:Sl w bP l)(U7:∀W (x1:ak),Ext w W->Calls Tryz.prog Rh ([x1.val]++TN).toArray W fun e w'=>e = .returned (.bool (p x1))/\Ext W w'):Calls Tryz.prog 162 #[bP,.func (.func Rh) #[] TN.toArray] w fun e w'=>e = .returned (iV (idxOf p l))/\Ext w w':=by
 have zx:=ew.fB
 refine R.enter [] [(0,bP),(1,.func (.func Rh) #[] TN.toArray)] Tryz.func162 O O O O<|R.reg O<|R.u 1 O<|R.nil<|R.reg O<|R.u 1 O<|R.q (q.len' (fun _=>Wd.old ew) O Tryz.underlying43) O<|R.u 1 O<|R.nil<|R.loop (fun k:Nat=>[(0,bP),(1,.func (.func Rh) #[] TN.toArray),(7,iV (l.length:Int)),(8,iV (k:Int))]) (fun k:Nat=>[]) (fun k:Nat=>[]) (fun k:Nat=>k<=l.length /\ ∀ (j:Nat) x,j<k->l[j]? = some x->p x=false) (fun k:Nat=>l.length-k) 0 O (by exact ⟨by omega,fun j x hj=>absurd hj (Nat.not_lt_zero _)⟩) (sF O) (ic [] [] O) ?_
 rintro k ⟨hk,HA⟩
 refine R.reg O<|?_
 by_cases h1:k<l.length
 .
  refine R.q (q.dz O O) O<|R.nil<|R.av O O<|R.reg O<|R.u 2 O<|R.nil<|R.reg O<|R.u 3 O<|?_
  obtain ⟨x1,hx1⟩:∃z,l[k]? = some z:=⟨_,List.getElem?_eq_getElem (by omega)⟩
  refine R.q (q.idx (i:=k) (fun _=>Wd.old ew) O O dK O hx1) O<|R.q (q.eS (ds:=im x1) (fun _=>Wd.old ew) hx1 O aM O) O<|?_
  rcases Bool.eq_false_or_eq_true (p x1) with h2|h2
  .
   refine R.c (q.call SZ O O (fun w hw=>cv (congrArg Value.bool h2) (U7 w x1 hw.ext))) O<|R.nil ?_
   exact R.av O O<|R.reg O<|R.u 2 O<|R.nil<|R.rv O Tryz.results162 O (rI (by (exact (idxOf_hit hx1 ‹_› HA).symm)))
  refine R.c (q.call SZ O O (fun w hw=>cv (congrArg Value.bool h2) (U7 w x1 hw.ext))) O<|R.nil ?_
  refine R.aB O O<|R.reg O<|R.q (q.bB (r:=((k+1:Nat):Int)) O O) O<|R.u 1 O<|R.nil<|R.back (k+1) O (by (exact ⟨by omega,od HA hx1 ‹_›⟩)) (by omega) (sF O) (ic [] [] O)
 exact R.q (q.cW O O) O<|R.nil<|R.aB O O<|R.reg O<|R.u 1 O<|R.nil<|R.rv O Tryz.results162 O (rI (by (exact (idxOf_miss ‹_› HA).symm)))
theorem iD (bP:Value)(l:List ak)(id:Int)(w:World)(ew:Sl w bP l):Calls Tryz.prog 109 #[bP,iV id] w fun e w'=>e = .returned (iV (cJ l id))/\Ext w w':=by
 have zx:=ew.fB
 refine R.enter [] [(0,bP),(1,iV id)] Tryz.func109 O O O O<|R.reg O<|R.s O (s.box O O O) fun b1=>?_
 refine R.u 1 O<|R.nil<|R.reg O<|R.u 1 O<|R.q (q.L9 (cap:=[.pointer (some ⟨b1,0,none⟩)]) O O) O<|R.c (q.call EG O O (fun w hw=>(mG _ l (fun (x:ak)=>x.ID==id) _ _ Px w ((fun _=>Wd.old ew) w hw) (fun W x hW=>Dk x id _ W (sQ (hw.b 0 O) hW) ) ))) O<|R.u 1 O<|R.nil ?_
 exact R.rv O Tryz.results109 O (rI (by rfl))
end
section
open Go.RowKit
def hY (l:List ak)(i:Nat):Int :=
  match l[i]? with
  | none=>0
  | some x =>
    if ct x=1 then 1
    else if 0<i /\ ∃y,l[i-1]? = some y/\x.ID<=y.ID then 3
    else if x.From=0 then 0
    else match (l.take i).find? (fun y=>y.ID==x.From) with
      | none=>5
      | some y=>if (derived y x.ID x.Rights x.aQ).2≠0 then (derived y x.ID x.Rights x.aQ).2 else if (derived y x.ID x.Rights x.aQ).1≠x then 7 else 0
def ec (l:List ak):Int:=match (List.range l.length).find? (fun i=>hY l i != 0) with|some i=>hY l i|none=>0
theorem gR {l:List ak}{k:Nat}{f:Int}(hk:k<l.length)(h:hY l k=f)(hf:f≠0)(h0:∀j,j<k->hY l j=0):ec l=f:=by
 unfold ec
 have:(List.range l.length).find? (fun i=>hY l i != 0)=some k:=by
  rw [List.find?_range_eq_some]
  refine ⟨by simpa [h] using hf,by simpa using hk,fun j hj=>by simp [h0 j hj]⟩
 rw [this];exact h
theorem qn {l:List ak}(h0:∀j,j<l.length->hY l j=0):ec l=0:=by
 unfold ec
 have:(List.range l.length).find? (fun i=>hY l i != 0)=none:=by
  rw [List.find?_eq_none]
  intro i hi
  simp [h0 i (List.mem_range.1 hi)]
 rw [this]
theorem vu {l:List ak}(h:ec l=0):∀j,j<l.length->hY l j=0:=by
 unfold ec at h
 cases hf:(List.range l.length).find? (fun i=>hY l i != 0) with
 | none =>
  intro j hj
  have:=List.find?_eq_none.1 hf j (List.mem_range.2 hj)
  simpa using this
 | some i =>
  rw [hf] at h
  have:=List.find?_some hf
  simp at this;exact absurd h this
theorem k9 {l:List ak}{id:Int}:(cJ l id = -1/\l.find? (fun y=>y.ID==id)=none) ∨ ∃ (k:Nat) (h:k<l.length),cJ l id=k/\l.find? (fun y=>y.ID==id)=some l[k]:=by
 rcases fk l id with ⟨h,h2⟩ | ⟨k,hk,h1,h2,h3⟩
 .exact .inl ⟨h,by rw [List.find?_eq_none];intro x hx;simpa using h2 x hx⟩
 .
  refine .inr ⟨k,hk,h1,?_⟩
  rw [List.find?_eq_some_iff_getElem]
  exact ⟨by simpa using h2,k,hk,rfl,fun j hj=>by simpa using h3 j hj⟩
end
section
open Go.RowKit
structure Ri (x:ak):Prop where
  id1:1<=x.ID
  OB:x.ID<=999
  Qp:1<=x.aE
  Qq:x.aE<=999
  Qr:0<=x.aQ
  Qs:x.aQ<=99
  Rj:0<=x.From
  Qu:x.From<x.ID
  KG:0<=x.Rights
  KH:x.Rights<=7
theorem BF {x:ak}(h:ct x=0):Ri x:=by
 rcases gq x with ⟨h1,_⟩ | ⟨_,h2⟩
 .omega
 .obtain ⟨a,b,c,d,e,f,g,i,j,k⟩:=h2;exact ⟨a,b,c,d,e,f,g,i,j,k⟩
theorem kz (x:ak):ct x=0∨ct x=1:=by
 rcases gq x with ⟨h1,_⟩ | ⟨h1,_⟩
 .exact .inr h1
 .exact .inl h1
theorem jj {l:List ak}{k:Nat}{x:ak}(hx:l[k]? = some x)(h:¬ ct x=0):hY l k=1:=by
 have:ct x=1:=by rcases gq x with ⟨h1,_⟩ | ⟨h1,_⟩;exact h1;exact absurd h1 h
 unfold hY;rw [hx];simp only [];rw [if_pos this]
theorem m9 {l:List ak}{k:Nat}{x y:ak}(hx:l[k]? = some x)(h:ct x=0)(hk:0<k)(hy:l[k-1]? = some y)(hle:¬ y.ID<x.ID):hY l k=3:=by
 unfold hY;rw [hx];simp only [];rw [if_neg (by omega),if_pos ⟨hk,y,hy,by omega⟩]
theorem xG {l:List ak}{k:Nat}{x:ak}(hx:l[k]? = some x)(h:ct x=0)(hs:¬ 0<k ∨ ∃y,l[k-1]? = some y/\y.ID<x.ID)(h0:x.From=0):hY l k=0:=by
 unfold hY;rw [hx];simp only [];rw [if_neg (by omega),if_neg,if_pos h0]
 rintro ⟨hk,y,hy,hle⟩
 rcases hs with hs|⟨z,hz,hlt⟩
 .exact hs hk
 .rw [hy] at hz;injection hz with hz;subst hz;omega
theorem xH {l:List ak}{k:Nat}{x:ak}(hx:l[k]? = some x)(h:ct x=0)(hs:¬ 0<k ∨ ∃y,l[k-1]? = some y/\y.ID<x.ID)(h0:¬ x.From=0)(hf:cJ (l.take k) x.From = -1):hY l k=5:=by
 have hn:(l.take k).find? (fun y=>y.ID==x.From)=none:=by
  rcases k9 (l:=l.take k) (id:=x.From) with ⟨_,h2⟩ | ⟨j,hj,h1,h2⟩
  .exact h2
  .omega
 unfold hY;rw [hx];simp only [];rw [if_neg (by omega),if_neg,if_neg h0,hn]
 rintro ⟨hk,y,hy,hle⟩
 rcases hs with hs|⟨z,hz,hlt⟩
 .exact hs hk
 .rw [hy] at hz;injection hz with hz;subst hz;omega
theorem jk {l:List ak}{k j:Nat}{x y:ak}(hx:l[k]? = some x)(h:ct x=0)(hs:¬ 0<k ∨ ∃y,l[k-1]? = some y/\y.ID<x.ID)(h0:¬ x.From=0)(hf:cJ (l.take k) x.From=(j:Int))(hj:j<k)(hy:l[j]? = some y) :
 hY l k=if (derived y x.ID x.Rights x.aQ).2≠0 then (derived y x.ID x.Rights x.aQ).2 else if (derived y x.ID x.Rights x.aQ).1≠x then 7 else 0:=by
 have hn:(l.take k).find? (fun y=>y.ID==x.From)=some y:=by
  rcases k9 (l:=l.take k) (id:=x.From) with ⟨h1,h2⟩ | ⟨i,hi,h1,h2⟩
  .omega
  .
   have:i=j:=by omega
   subst this
   rw [h2,List.getElem_take,(List.getElem?_eq_some_iff.1 hy).2]
 unfold hY;rw [hx];simp only [];rw [if_neg (by omega),if_neg,if_neg h0,hn]
 rintro ⟨hk,y,hy,hle⟩
 rcases hs with hs|⟨z,hz,hlt⟩
 .exact hs hk
 .rw [hy] at hz;injection hz with hz;subst hz;omega
theorem tg {l:List ak}{k:Nat}{x:ak}(hx:l[k]? = some x)(h:hY l k=0):Ri x:=by
 by_cases h1:ct x=0
 .exact BF h1
 .rw [jj hx h1] at h;omega
theorem rO (x:ak)(id r b:Int):(derived x id r b).2=0∨(derived x id r b).2=1∨(derived x id r b).2=7:=by
 unfold derived;(repeat' split) <;> simp
def cS (l:List ak):Prop:=ec l=0
theorem cS.steps {l:List ak}(h:cS l):∀j,j<l.length->hY l j=0:=vu h
theorem cS.mem {l:List ak}(h:cS l){x:ak}(hx:x∈l):Ri x:=by
 obtain ⟨j,hj⟩:=List.mem_iff_getElem?.1 hx
 exact tg hj (h.steps j (List.getElem?_eq_some_iff.1 hj).1)
theorem sj {l:List ak}{k:Nat}(h:∀j,j<k->hY l j=0)(hk:hY l k=0):∀j,j<k+1->hY l j=0:=by
 intro j hj
 rcases Nat.lt_or_ge j k with h1|h1
 .exact h j h1
 .
  have:j=k:=by omega
  subst this;exact hk
theorem Dl (l:List ak)(c:Int)(h:0<=cJ l c):∃x,l[(cJ l c).toNat]? = some x/\x.ID=c/\x∈l:=by
 rcases fk l c with ⟨h1,_⟩ | ⟨k,hk,h1,h2,_⟩
 .omega
 .
  refine ⟨l[k],?_,h2,List.getElem_mem hk⟩
  rw [h1];simp
def mN (id from':Int)(x:ak):ak:=if x.From=id then { x with From:=from' } else x
def E6 (id from':Int)(l:List ak):List ak:=(l.filter (fun x=>decide (x.ID≠id))).map (mN id from')
theorem GB {id f:Int}{l:List ak}{k:Nat}{x:ak}(hx:l[k]? = some x)(h:x.ID=id):E6 id f (l.take (k+1))=E6 id f (l.take k):=by
 unfold E6
 rw [List.take_add_one,hx,List.filter_append];simp [h]
theorem tj {id f:Int}{l:List ak}{k:Nat}{x:ak}(hx:l[k]? = some x)(h:¬ x.ID=id):E6 id f (l.take (k+1))=E6 id f (l.take k)++[mN id f x]:=by
 unfold E6
 rw [List.take_add_one,hx,List.filter_append];simp [h]
theorem BG (id f:Int)(l:List ak):(E6 id f l).length<=l.length:=by unfold E6;simp;exact List.length_filter_le _ _
theorem Dm {id f:Int}{x:ak}(h:x.From=id):mN id f x=⟨x.ID,x.aE,x.Rights,x.aQ,f⟩:=by unfold mN;rw [if_pos h]
theorem zL {id f:Int}{x:ak}(h:¬ x.From=id):mN id f x=x:=by unfold mN;rw [if_neg h]
def eO (l:List ak)(id:Int):Int:=match l.find? (fun y=>y.ID==id) with|some y=>y.From|none=>0
theorem uO {l:List ak}{id:Int}{j:Nat}{y:ak}(hf:cJ l id=(j:Int))(hy:l[j]? = some y):eO l id=y.From:=by
 unfold eO
 rcases k9 (l:=l) (id:=id) with ⟨h1,_⟩ | ⟨i,hi,h1,h2⟩
 .omega
 .
  have:i=j:=by omega
  subst this;rw [h2,(List.getElem?_eq_some_iff.1 hy).2]
theorem uP {l:List ak}{id:Int}(hf:cJ l id = -1):eO l id=0:=by
 unfold eO
 rcases k9 (l:=l) (id:=id) with ⟨_,h2⟩ | ⟨i,hi,h1,h2⟩
 .rw [h2]
 .omega
def without (l:List ak)(id:Int):List ak:=E6 id (eO l id) l
def VZ (l:List ak)(id:Int)(x:ak):ak:=if cJ l id<0 then x else mN id (eO l id) x
def S0 (l:List ak)(id:Int)(m:List ak):List ak:=(m.filter (fun x=>decide (x.ID≠id))).map (VZ l id)
end
end Go.Proofs.YtkbhcbipadkcaaaGreatDoor
