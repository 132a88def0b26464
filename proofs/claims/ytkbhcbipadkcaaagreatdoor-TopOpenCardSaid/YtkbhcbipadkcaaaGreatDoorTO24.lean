import Derived.Test.YtkbhcbipadkcaaaGreatDoorTO23
namespace Go.Proofs.YtkbhcbipadkcaaaGreatDoor
set_option linter.unusedVariables false
set_option linter.unusedSimpArgs false
section
open Go Go.RowKit
set_option maxRecDepth 100000
set_option maxHeartbeats 1000000
section
variable {s:oK} {d:cD} {l:List Change} {e:Int} {n m:Nat}
end
set_option maxHeartbeats 3200000 in
theorem xy (cy:Nat)(aJ:Value)(st:j8)(bJ:Value)(l:List Change)(aG:Nat)(ak aA ao:Value)(dk:cD)(aZ:Nat)(lg:Lg)(w:World)(own:List Nat)(H:HN w own [af.box cy [.pointer (some ⟨aG,0,none⟩),iV st.Epoch,iV st.Side,iV st.Size,iV st.First,.pointer (some ⟨aZ,0,none⟩),aJ] 133,af.box aG [ak,aA,ao,iV dk.Fuse,.bool dk.Down] 112,af.row 9 ak dk.Kept,af.row 9 aA dk.Now,af.row 114 ao dk.Wait,af.box aZ [.pointer (some ⟨aG,0,none⟩),iV lg.From,iV lg.Many,iV lg.First,iV lg.Next] 198] [af.ls aJ st.Rows,af.ls bJ l])(hD:fO dk.Now.length 60000 dk/\dk.Now.length<=200/\166<=dk.Now.length)(hS:0<=st.Epoch/\st.Epoch<=1000000000/\0<=st.Side/\st.Side<=1/\0<=lg.Many/\lg.Many<=1000/\1<=lg.First/\lg.First<=1000000000/\0<=lg.From/\lg.From<=1000/\0<=lg.Next/\lg.Next<=1000)(hl:st.Rows.length<=60)(hF:∀c∈st.Rows,iG c=0)(hn:l.length<=10000):RC Tryz.prog 70 #[.pointer (some ⟨cy,0,none⟩),bJ] H (fun _:Value×Value×Value×Value×Nat=>dh (bI (mkS st lg) dk l).2.2) (fun z=>[af.box cy [.pointer (some ⟨aG,0,none⟩),iV (bI (mkS st lg) dk l).1.c.Epoch,iV (bI (mkS st lg) dk l).1.c.Side,iV (bI (mkS st lg) dk l).1.c.Size,iV (bI (mkS st lg) dk l).1.c.First,.pointer (some ⟨z.2.2.2.2,0,none⟩),z.1] 133,af.box aG [z.2.1,z.2.2.1,z.2.2.2.1,iV (bI (mkS st lg) dk l).2.1.Fuse,.bool (bI (mkS st lg) dk l).2.1.Down] 112,af.row 9 z.2.1 (bI (mkS st lg) dk l).2.1.Kept,af.row 9 z.2.2.1 (bI (mkS st lg) dk l).2.1.Now,af.row 114 z.2.2.2.1 (bI (mkS st lg) dk l).2.1.Wait,af.box z.2.2.2.2 [.pointer (some ⟨aG,0,none⟩),iV (bI (mkS st lg) dk l).1.L.From,iV (bI (mkS st lg) dk l).1.L.Many,iV (bI (mkS st lg) dk l).1.L.First,iV (bI (mkS st lg) dk l).1.L.Next] 198]) (fun z=>[af.ls z.1 (bI (mkS st lg) dk l).1.c.Rows]):=by
 have eE:=H.cap 2 rfl;have eF:=H.cQ 2 rfl
 have fE:=H.cap 3 rfl;have fF:=H.cQ 3 rfl
 have eG:=H.cap 4 rfl;have eH:=H.cQ 4 rfl
 have qP:=H.cx 0 rfl
 have yD:=H.cx 1 rfl
 have hal:=vA hF;have hc0:fO dk.Now.length 70000 dk/\dk.Now.length<=200/\166<=dk.Now.length:=⟨hD.1.up (by omega),hD.2.1,hD.2.2⟩;have hc1:=Kh (s:=mkS st lg) hD.1 (Nat.le_trans hal (by omega));have hc2:=hc1.nl
 have hb0:fO dk.Now.length 80000 dk/\dk.Now.length<=100000:=⟨hD.1.up (by omega),by omega⟩;have hb1:fO (cB (mkS st lg) dk).2.1.Now.length 80000 (cB (mkS st lg) dk).2.1/\(cB (mkS st lg) dk).2.1.Now.length<=100000:=⟨hc2.symm▸hc1.up (by omega),by omega⟩
 refine R.bF [(0,.pointer (some ⟨cy,0,none⟩)),(1,bJ)] Tryz.func70 O O O O H<|R.reg O<|R.u 1 O<|R.nil<|R.reg O<|R.u 1 O<|R.q (q.len' (dr 1 O) O Tryz.underlying34) O<|?_
 by_cases h1:62<l.length
 .
  refine R.q (q.eL O O) O<|R.nil<|R.ay O O<|R.reg O<|R.q (q.iface O bm) O<|R.u 1 O<|R.nil ?_
  have hz:((bI (mkS st lg) dk l).1.c,(bI (mkS st lg) dk l).2.1,(bI (mkS st lg) dk l).1.L,(bI (mkS st lg) dk l).2.2)=(st,dk,lg,2):=by (rw [Sy ‹_›];rfl)
  have hz0:(bI (mkS st lg) dk l).1.c=st:=congrArg (fun t_=>t_.1) hz
  rw [hz0]
  have hz1:(bI (mkS st lg) dk l).2.1=dk:=congrArg (fun t_=>t_.2.1) hz
  rw [hz1]
  have hz2:(bI (mkS st lg) dk l).1.L=lg:=congrArg (fun t_=>t_.2.2.1) hz
  rw [hz2]
  have hz3:(bI (mkS st lg) dk l).2.2=2:=congrArg (fun t_=>t_.2.2.2) hz
  rw [hz3]
  exact R.w1 (aJ,ak,aA,ao,aZ) ml [0] O Tryz.results70 (RV.tmp O) O O O (dq (by decide) O)
 refine R.q (q.eu O O) O<|R.nil<|R.aB O O<|R.reg O<|R.u 1 O<|R.q (q.len' (dr 1 O) O Tryz.underlying34) O<|R.u 1 O<|R.nil<|R.loop (fun i:Nat=>[(0,.pointer (some ⟨cy,0,none⟩)),(1,bJ),(15,bJ),(16,iV (l.length:Int)),(17,iV (i:Int))]) (fun i:Nat=>[af.box cy [.pointer (some ⟨aG,0,none⟩),iV st.Epoch,iV st.Side,iV st.Size,iV st.First,.pointer (some ⟨aZ,0,none⟩),aJ] 133,af.box aG [ak,aA,ao,iV dk.Fuse,.bool dk.Down] 112,af.row 9 ak dk.Kept,af.row 9 aA dk.Now,af.row 114 ao dk.Wait,af.box aZ [.pointer (some ⟨aG,0,none⟩),iV lg.From,iV lg.Many,iV lg.First,iV lg.Next] 198,af.held w own]) (fun i:Nat=>[af.ls aJ st.Rows,af.ls bJ l]) (fun i:Nat=>i<=l.length/\jG (l.drop i)=jG l) (fun i:Nat=>l.length-i) 0 O (by exact ⟨by omega,rfl⟩) (sF O) (fun _=>Wd.pick ml [0,1] O O O) ?_
 rintro i ⟨hi,HL⟩
 refine R.reg O<|?_
 by_cases h2:i<l.length
 .
  refine R.q (q.dy O O) O<|R.nil<|R.ay O O<|R.reg O<|?_
  obtain ⟨x1,hx1⟩:∃z,l[i]? = some z:=⟨_,List.getElem?_eq_getElem (by omega)⟩
  have PZ:=br x1
  refine R.q (q.idx (i:=i) (dr 1 O) O O cp O hx1) O<|R.q (q.eV (ds:=eR x1) (dr 1 O) hx1 O aX O) O<|R.s O (s.alloc cJ O O) fun b1=>R.s O (s.st 0 _ O O O O (.inl aX) O O O O) fun _=>R.nil<|R.reg O<|R.q (q.dv 0 O O aX) O<|R.c (q.call tN O O (fun w hw=>(jw x1 w ))) O<|R.u 1 O<|R.nil<|R.reg O<|R.u 1 O<|?_
  by_cases h3:iG x1=0
  .
   refine R.q (q.dC O O Tryz.underlying38) O<|R.nil<|R.aB O O<|R.reg O<|R.q (q.bA (r:=((i+1:Nat):Int)) O O) O<|R.u 1 O<|R.nil<|R.back (i+1) O (by (exact ⟨by omega,J0 HL hx1 (by omega)⟩)) (by omega) (sF O) (aC [1,2,3,4,5,6,7] [0,1] O O O)
  refine R.q (q.eo O O Tryz.underlying38) O<|R.nil<|R.ay O O<|R.reg O<|R.u 2 O<|R.nil ?_
  have hz:((bI (mkS st lg) dk l).1.c,(bI (mkS st lg) dk l).2.1,(bI (mkS st lg) dk l).1.L,(bI (mkS st lg) dk l).2.2)=(st,dk,lg,iG x1):=by (rw [SA ‹_› (Bs HL hx1 ‹_›) ‹_›];rfl)
  have hz0:(bI (mkS st lg) dk l).1.c=st:=congrArg (fun t_=>t_.1) hz
  rw [hz0]
  have hz1:(bI (mkS st lg) dk l).2.1=dk:=congrArg (fun t_=>t_.2.1) hz
  rw [hz1]
  have hz2:(bI (mkS st lg) dk l).1.L=lg:=congrArg (fun t_=>t_.2.2.1) hz
  rw [hz2]
  have hz3:(bI (mkS st lg) dk l).2.2=iG x1:=congrArg (fun t_=>t_.2.2.2) hz
  rw [hz3]
  exact R.w1 (aJ,ak,aA,ao,aZ) [1,2,3,4,5,6,7] [0] O Tryz.results70 (RV.tmp O) O O O O
 refine R.q (q.cW O O) O<|R.nil<|R.aB O O ?_
 have g0:jG l=0:=J1 HL (by omega);have VL:=kR l st.Rows
 refine R.reg O<|R.u 1 O<|R.q (q.cm O) O<|R.q (q.aO O jc O) O<|R.q (q.ld 0 O O gx O) O<|R.u 1 O<|R.s O (s.aW ml [0,1] _ _ _ O O O Jk O O (fun w own hw H=>oG aJ st.Rows bJ l w own H (by omega)) O) fun z1=>R.u 1 O<|R.nil<|R.reg O<|R.u 1 O<|R.q (q.len' (ck 0 O) O Tryz.underlying34) O<|?_
 by_cases h4:60<(bZ st.Rows l).length
 .
  refine R.q (q.eL O O) O<|R.u 12 O<|R.nil<|R.ay O O<|R.reg O<|R.q (q.iface O bm) O<|R.u 1 O<|R.nil ?_
  have hz:((bI (mkS st lg) dk l).1.c,(bI (mkS st lg) dk l).2.1,(bI (mkS st lg) dk l).1.L,(bI (mkS st lg) dk l).2.2)=(st,dk,lg,9):=by (rw [Ob (s:=mkS st lg) ‹_› g0 (by exact .inl ‹_›)];rfl)
  have hz0:(bI (mkS st lg) dk l).1.c=st:=congrArg (fun t_=>t_.1) hz
  rw [hz0]
  have hz1:(bI (mkS st lg) dk l).2.1=dk:=congrArg (fun t_=>t_.2.1) hz
  rw [hz1]
  have hz2:(bI (mkS st lg) dk l).1.L=lg:=congrArg (fun t_=>t_.2.2.1) hz
  rw [hz2]
  have hz3:(bI (mkS st lg) dk l).2.2=9:=congrArg (fun t_=>t_.2.2.2) hz
  rw [hz3]
  exact R.w1 (aJ,ak,aA,ao,aZ) [1,2,3,4,5,6,7] [0] O Tryz.results70 (RV.tmp O) O O O (dq (by decide) O)
 refine R.q (q.eu O O) O<|R.u 2 O<|R.qg O (q.len' (dr 1 O) O Tryz.underlying34) O<|R.qg O (q.bA (r:=((l.length+1:Nat):Int)) O O) O<|R.u 1 O<|R.qg O (q.cm O) O<|R.qg O (q.aO O jT O) O<|R.qg O (q.ld 1 O O jr O) O<|R.cg O (q.call uE O O (fun w hw=>(gF aG ak aA ao dk w (hw.b 2 O) (hw.row 3 O) (hw.row 4 O) (hw.row 5 O) ))) O<|R.qg O (q.lV (r:=((dk.Now.length-102:Nat):Int)) O O) O<|?_
 by_cases h5:(dk.Now.length-102)<(l.length+1)
 .
  refine R.qg O (q.eL O O) O<|R.u 1 O<|R.nil<|R.ay O O<|R.reg O<|R.q (q.iface O bm) O<|R.u 1 O<|R.nil ?_
  have hz:((bI (mkS st lg) dk l).1.c,(bI (mkS st lg) dk l).2.1,(bI (mkS st lg) dk l).1.L,(bI (mkS st lg) dk l).2.2)=(st,dk,lg,9):=by (rw [Ob (s:=mkS st lg) ‹_› g0 (by exact .inr (by omega))];rfl)
  have hz0:(bI (mkS st lg) dk l).1.c=st:=congrArg (fun t_=>t_.1) hz
  rw [hz0]
  have hz1:(bI (mkS st lg) dk l).2.1=dk:=congrArg (fun t_=>t_.2.1) hz
  rw [hz1]
  have hz2:(bI (mkS st lg) dk l).1.L=lg:=congrArg (fun t_=>t_.2.2.1) hz
  rw [hz2]
  have hz3:(bI (mkS st lg) dk l).2.2=9:=congrArg (fun t_=>t_.2.2.2) hz
  rw [hz3]
  exact R.w1 (aJ,ak,aA,ao,aZ) [1,2,3,4,5,6,7] [0] O Tryz.results70 (RV.tmp O) O O O (dq (by decide) O)
 refine R.qg O (q.eu O O) O<|R.u 1 O<|R.nil<|R.aB O O<|R.reg O<|R.u 1 O<|R.q (q.len' (dr 1 O) O Tryz.underlying34) O<|R.q (q.bA (r:=((l.length+1:Nat):Int)) O O) O<|R.u 1 O<|R.q (q.cm O) O<|R.q (q.aO O kL O) O<|R.q (q.ld 1 O O fD O) O<|R.c (q.call EC O O (fun w hw=>(xd aZ aG lg w (hw.b 6 O) (by omega)))) O<|?_
 by_cases h6:lg.Many-lg.Next<((l.length+1):Int)
 .
  refine R.q (q.eL O O) O<|R.nil<|R.ay O O<|R.reg O<|R.u 1 O<|R.s O (s.aW [1,2,3,4,5,6,0,7] [0] _ _ _ O O O NU O O (fun w own hw H=>De cy aJ st aG ak aA ao dk aZ lg w own H ‹_› (by omega) (by omega) ‹_›) O) ?_
  rintro ⟨z2,z3,z4,z5,z6⟩
  dsimp only
  refine R.u 1 O<|R.nil ?_
  have hk:(cB (mkS st lg) dk).2.2=0->0<=(cB (mkS st lg) dk).1.L.From/\(cB (mkS st lg) dk).1.L.From<=1000000000/\0<=(cB (mkS st lg) dk).1.L.Next/\(cB (mkS st lg) dk).1.L.Next<=1000000000/\0<=(cB (mkS st lg) dk).1.L.First/\(cB (mkS st lg) dk).1.L.First<=4000000000000000000/\0<=(cB (mkS st lg) dk).1.L.Many/\(cB (mkS st lg) dk).1.L.Many<=1000000000:=fun hk1=>by have hk3:=MA (cB (mkS st lg) dk).2.1 102 (((cB (mkS st lg) dk).2.1.Now.length:Int)-102).toNat ((mkS st lg).L.First+(mkS st lg).L.Many);rw [P7 hk1];unfold Sn;dsimp only;have e1:(mkS st lg).L.First=lg.First:=rfl;have e2:(mkS st lg).L.Many=lg.Many:=rfl;refine ⟨?_,?_,?_,?_,?_,?_,?_,?_⟩ <;> omega
  refine R.reg O<|R.u 1 O<|?_
  by_cases h7:(cB (mkS st lg) dk).2.2=0
  .
   refine R.q (q.dC O O Tryz.underlying38) O<|R.nil<|R.aB O O ?_
   (have hkk:=hk ‹_›)
   refine R.reg O<|R.u 1 O<|R.q (q.cm O) O<|R.q (q.aO O kL O) O<|R.q (q.ld 0 O O fD O) O<|R.u 1 O<|R.s O (s.aW [5,1,2,3,4,0,6,7] [2] _ _ _ O O O Jp O O (fun w own hw H=>Gp z6 (cB (mkS st lg) dk).1.L bJ l aG z3 z4 z5 (cB (mkS st lg) dk).2.1 w own H ‹_› ‹_›) O) ?_
   rintro ⟨z7,z8,z9⟩
   dsimp only
   refine R.u 1 O<|R.nil<|R.reg O<|R.u 1 O<|?_
   by_cases h8:(cE (cB (mkS st lg) dk).1.L (cB (mkS st lg) dk).2.1 l).2.2=0
   .
    refine R.q (q.mB O O Tryz.underlying38) O<|R.nil<|R.ay O O<|R.reg O<|R.u 2 O<|R.q (q.cm O) O<|R.q (q.aO O jc O) O<|R.s O (s.fZ 5 _ O O O (fun w hw=>Sl.cu (hw.row 6 O)) (.inr ⟨gx,rfl⟩) (fun w hw=>(ag (Sl.one (hw.row 6 O)) aP)) O O O) fun _=>R.nil<|R.reg O<|R.u 2 O<|R.nil<|R.mp (fun _ hw=>hw.cX 6 _ O O) ?_
    have hz:((bI (mkS st lg) dk l).1.c,(bI (mkS st lg) dk l).2.1,(bI (mkS st lg) dk l).1.L,(bI (mkS st lg) dk l).2.2)=((⟨((cB (mkS st lg) dk).1.c).Epoch,(cB (mkS st lg) dk).1.c.Side,(cB (mkS st lg) dk).1.c.Size,(cB (mkS st lg) dk).1.c.First,bZ st.Rows l⟩:j8),(cE (cB (mkS st lg) dk).1.L (cB (mkS st lg) dk).2.1 l).2.1,(cE (cB (mkS st lg) dk).1.L (cB (mkS st lg) dk).2.1 l).1,(cE (cB (mkS st lg) dk).1.L (cB (mkS st lg) dk).2.1 l).2.2):=by (have hf:=xp (s:=mkS st lg) (d:=dk) (l:=l) ‹_› g0 (by intro hh;rcases hh with hh|hh <;> first|(exact absurd hh ‹_›)|omega);(rw [Od hf (by show lg.Many-lg.Next<_;omega) ‹_› ‹_›];rfl))
    have hz0:(bI (mkS st lg) dk l).1.c=(⟨((cB (mkS st lg) dk).1.c).Epoch,(cB (mkS st lg) dk).1.c.Side,(cB (mkS st lg) dk).1.c.Size,(cB (mkS st lg) dk).1.c.First,bZ st.Rows l⟩:j8):=congrArg (fun t_=>t_.1) hz
    rw [hz0]
    have hz1:(bI (mkS st lg) dk l).2.1=(cE (cB (mkS st lg) dk).1.L (cB (mkS st lg) dk).2.1 l).2.1:=congrArg (fun t_=>t_.2.1) hz
    rw [hz1]
    have hz2:(bI (mkS st lg) dk l).1.L=(cE (cB (mkS st lg) dk).1.L (cB (mkS st lg) dk).2.1 l).1:=congrArg (fun t_=>t_.2.2.1) hz
    rw [hz2]
    have hz3:(bI (mkS st lg) dk l).2.2=(cE (cB (mkS st lg) dk).1.L (cB (mkS st lg) dk).2.1 l).2.2:=congrArg (fun t_=>t_.2.2.2) hz
    rw [hz3]
    exact R.w1 (z1,z7,z8,z9,z6) [5,1,2,3,4,0,6] [0] O Tryz.results70 (RV.tmp O) O O O O
   refine R.q (q.jF O O Tryz.underlying38) O<|R.nil<|R.aB O O<|R.reg O<|R.u 2 O<|R.nil ?_
   have hz:((bI (mkS st lg) dk l).1.c,(bI (mkS st lg) dk l).2.1,(bI (mkS st lg) dk l).1.L,(bI (mkS st lg) dk l).2.2)=(((cB (mkS st lg) dk).1.c),(cE (cB (mkS st lg) dk).1.L (cB (mkS st lg) dk).2.1 l).2.1,(cE (cB (mkS st lg) dk).1.L (cB (mkS st lg) dk).2.1 l).1,(cE (cB (mkS st lg) dk).1.L (cB (mkS st lg) dk).2.1 l).2.2):=by (have hf:=xp (s:=mkS st lg) (d:=dk) (l:=l) ‹_› g0 (by intro hh;rcases hh with hh|hh <;> first|(exact absurd hh ‹_›)|omega);(rw [Oe hf (by show lg.Many-lg.Next<_;omega) ‹_› ‹_›];rfl))
   have hz0:(bI (mkS st lg) dk l).1.c=(cB (mkS st lg) dk).1.c:=congrArg (fun t_=>t_.1) hz
   rw [hz0]
   have hz1:(bI (mkS st lg) dk l).2.1=(cE (cB (mkS st lg) dk).1.L (cB (mkS st lg) dk).2.1 l).2.1:=congrArg (fun t_=>t_.2.1) hz
   rw [hz1]
   have hz2:(bI (mkS st lg) dk l).1.L=(cE (cB (mkS st lg) dk).1.L (cB (mkS st lg) dk).2.1 l).1:=congrArg (fun t_=>t_.2.2.1) hz
   rw [hz2]
   have hz3:(bI (mkS st lg) dk l).2.2=(cE (cB (mkS st lg) dk).1.L (cB (mkS st lg) dk).2.1 l).2.2:=congrArg (fun t_=>t_.2.2.2) hz
   rw [hz3]
   exact R.w1 (z2,z7,z8,z9,z6) [5,1,2,3,4,0,7] [0] O Tryz.results70 (RV.tmp O) O O O O
  refine R.q (q.eo O O Tryz.underlying38) O<|R.nil<|R.ay O O<|R.reg O<|R.u 2 O<|R.nil ?_
  have hz:((bI (mkS st lg) dk l).1.c,(bI (mkS st lg) dk l).2.1,(bI (mkS st lg) dk l).1.L,(bI (mkS st lg) dk l).2.2)=(((cB (mkS st lg) dk).1.c),(cB (mkS st lg) dk).2.1,(cB (mkS st lg) dk).1.L,(cB (mkS st lg) dk).2.2):=by (have hf:=xp (s:=mkS st lg) (d:=dk) (l:=l) ‹_› g0 (by intro hh;rcases hh with hh|hh <;> first|(exact absurd hh ‹_›)|omega);(rw [Oc hf (by show lg.Many-lg.Next<_;omega) ‹_›]))
  have hz0:(bI (mkS st lg) dk l).1.c=(cB (mkS st lg) dk).1.c:=congrArg (fun t_=>t_.1) hz
  rw [hz0]
  have hz1:(bI (mkS st lg) dk l).2.1=(cB (mkS st lg) dk).2.1:=congrArg (fun t_=>t_.2.1) hz
  rw [hz1]
  have hz2:(bI (mkS st lg) dk l).1.L=(cB (mkS st lg) dk).1.L:=congrArg (fun t_=>t_.2.2.1) hz
  rw [hz2]
  have hz3:(bI (mkS st lg) dk l).2.2=(cB (mkS st lg) dk).2.2:=congrArg (fun t_=>t_.2.2.2) hz
  rw [hz3]
  exact R.w1 (z2,z3,z4,z5,z6) [0,1,2,3,4,5,7] [0] O Tryz.results70 (RV.tmp O) O O O O
 refine R.q (q.eu O O) O<|R.nil<|R.aB O O ?_
 skip
 refine R.reg O<|R.u 1 O<|R.q (q.cm O) O<|R.q (q.aO O kL O) O<|R.q (q.ld 1 O O fD O) O<|R.u 1 O<|R.s O (s.aW [6,2,3,4,5,0,1,7] [1] _ _ _ O O O Jp O O (fun w own hw H=>Gp aZ lg bJ l aG ak aA ao dk w own H (by omega) ‹_›) O) ?_
 rintro ⟨lF,mb,z12⟩
 dsimp only
 refine R.u 1 O<|R.nil<|R.reg O<|R.u 1 O<|?_
 by_cases h9:(cE lg dk l).2.2=0
 .
  refine R.q (q.mB O O Tryz.underlying38) O<|R.nil<|R.ay O O<|R.reg O<|R.u 2 O<|R.q (q.cm O) O<|R.q (q.aO O jc O) O<|R.s O (s.fZ 6 _ O O O (fun w hw=>Sl.cu (hw.row 5 O)) (.inr ⟨gx,rfl⟩) (fun w hw=>(ag (Sl.one (hw.row 5 O)) aP)) O O O) fun _=>R.nil<|R.reg O<|R.u 2 O<|R.nil<|R.mp (fun _ hw=>hw.cX 5 _ O O) ?_
  have hz:((bI (mkS st lg) dk l).1.c,(bI (mkS st lg) dk l).2.1,(bI (mkS st lg) dk l).1.L,(bI (mkS st lg) dk l).2.2)=((⟨st.Epoch,st.Side,st.Size,st.First,bZ st.Rows l⟩:j8),(cE lg dk l).2.1,(cE lg dk l).1,(cE lg dk l).2.2):=by (have hf:=xp (s:=mkS st lg) (d:=dk) (l:=l) ‹_› g0 (by intro hh;rcases hh with hh|hh <;> first|(exact absurd hh ‹_›)|omega);(rw [Og hf (by show ¬ lg.Many-lg.Next<_;omega) ‹_›];rfl))
  have hz0:(bI (mkS st lg) dk l).1.c=(⟨st.Epoch,st.Side,st.Size,st.First,bZ st.Rows l⟩:j8):=congrArg (fun t_=>t_.1) hz
  rw [hz0]
  have hz1:(bI (mkS st lg) dk l).2.1=(cE lg dk l).2.1:=congrArg (fun t_=>t_.2.1) hz
  rw [hz1]
  have hz2:(bI (mkS st lg) dk l).1.L=(cE lg dk l).1:=congrArg (fun t_=>t_.2.2.1) hz
  rw [hz2]
  have hz3:(bI (mkS st lg) dk l).2.2=(cE lg dk l).2.2:=congrArg (fun t_=>t_.2.2.2) hz
  rw [hz3]
  exact R.w1 (z1,lF,mb,z12,aZ) [5,1,2,3,4,0,6] [0] O Tryz.results70 (RV.tmp O) O O O O
 refine R.q (q.jF O O Tryz.underlying38) O<|R.nil<|R.aB O O<|R.reg O<|R.u 2 O<|R.nil ?_
 have hz:((bI (mkS st lg) dk l).1.c,(bI (mkS st lg) dk l).2.1,(bI (mkS st lg) dk l).1.L,(bI (mkS st lg) dk l).2.2)=(st,(cE lg dk l).2.1,(cE lg dk l).1,(cE lg dk l).2.2):=by (have hf:=xp (s:=mkS st lg) (d:=dk) (l:=l) ‹_› g0 (by intro hh;rcases hh with hh|hh <;> first|(exact absurd hh ‹_›)|omega);(rw [Oh hf (by show ¬ lg.Many-lg.Next<_;omega) ‹_›];rfl))
 have hz0:(bI (mkS st lg) dk l).1.c=st:=congrArg (fun t_=>t_.1) hz
 rw [hz0]
 have hz1:(bI (mkS st lg) dk l).2.1=(cE lg dk l).2.1:=congrArg (fun t_=>t_.2.1) hz
 rw [hz1]
 have hz2:(bI (mkS st lg) dk l).1.L=(cE lg dk l).1:=congrArg (fun t_=>t_.2.2.1) hz
 rw [hz2]
 have hz3:(bI (mkS st lg) dk l).2.2=(cE lg dk l).2.2:=congrArg (fun t_=>t_.2.2.2) hz
 rw [hz3]
 exact R.w1 (aJ,lF,mb,z12,aZ) [6,1,2,3,4,0,7] [0] O Tryz.results70 (RV.tmp O) O O O O
end
section
open Go.RowKit
def dA (r:Int):Int:=if r<0 then 1 else if 7<r then 1 else 0
theorem gS {r:Int}(h0:0<=r)(h7:r<=7):dA r=0:=by unfold dA;rw [if_neg (by omega),if_neg (by omega)]
theorem mI {r:Int}(h:r<0\/7<r):dA r=1:=by unfold dA;split;rfl;rw [if_pos (by omega)]
theorem hY (r:Int):(dA r=1/\(r<0\/7<r))\/(dA r=0/\0<=r/\r<=7):=by
 by_cases h:r<0\/7<r
 .exact .inl ⟨mI h,h⟩
 .exact .inr ⟨gS (by omega) (by omega),by omega,by omega⟩
def jh (r need:Int):Bool:=(r.toNat &&& need.toNat)==need.toNat
theorem E3 {r:Int}(h0:0<=r)(h7:r<=7):∃x:Fin 8,r=((x:Nat):Int):=⟨⟨r.toNat,by omega⟩,by simp;omega⟩
def cz (w:ap):Int :=
  if w.ID<1 then 1 else if 999<w.ID then 1 else if w.aE<1 then 1 else if 999<w.aE then 1 else if w.aN<0 then 1 else if 99<w.aN then 1 else
  if w.From<0 then 1 else if w.ID<=w.From then 1 else dA w.Rights
theorem gu (x:ap):(cz x=1/\(x.ID<1\/999<x.ID\/x.aE<1\/999<x.aE\/x.aN<0\/99<x.aN\/x.From<0\/x.ID<=x.From\/x.Rights<0\/7<x.Rights)) \/
 (cz x=0/\1<=x.ID/\x.ID<=999/\1<=x.aE/\x.aE<=999/\0<=x.aN/\x.aN<=99/\0<=x.From/\x.From<x.ID/\0<=x.Rights/\x.Rights<=7):=by
 unfold cz dA;(repeat' split) <;> first|(left;exact ⟨rfl,by omega⟩)|(right;exact ⟨rfl,by omega⟩)
def jJ:ap:=⟨0,0,0,0,0⟩
def derived (w:ap)(id rights dL:Int):ap×Int :=
  if dA rights=1 then (jJ,1) else if dL<0 then (jJ,1) else if 99<dL then (jJ,1) else
  if jh w.Rights rights=false then (jJ,7) else
  if dL≠0/\w.aN≠0/\dL≠w.aN then (jJ,7) else
  (⟨id,w.aE,rights,if dL=0 then w.aN else dL,w.ID⟩,0)
def cK (l:List ap)(id:Int):Int:=match l.findIdx? (fun w=>w.ID==id) with|some i=>i|none => -1
theorem fk (l:List ap)(id:Int):(cK l id = -1 /\ ∀x∈l,¬ x.ID=id) \/ ∃ (k:Nat) (h:k<l.length),cK l id=k/\l[k].ID=id /\ ∀j (hj:j<k),¬ (l[j]'(by omega)).ID=id:=by
 unfold cK
 cases h:l.findIdx? (fun w=>w.ID==id) with
 | none =>
  left
  refine ⟨rfl,fun x hx=>?_⟩
  have:=List.findIdx?_eq_none_iff.1 h x hx
  simpa using this
 | some k =>
  right
  obtain ⟨hk,h1,h2⟩:=List.findIdx?_eq_some_iff_getElem.1 h
  exact ⟨k,hk,rfl,by simpa using h1,fun j hj=>by simpa using h2 j hj⟩
theorem Kz {l:List ap}{id:Int}{k:Nat}(hk:k<l.length)(h1:l[k].ID=id)(h2:∀j x,j<k->l[j]? = some x->¬ x.ID=id):cK l id=k:=by
 unfold cK
 rw [List.findIdx?_eq_some_iff_getElem.2 ⟨hk,by simpa using h1,fun j hj=>by
  have:=h2 j l[j] hj (List.getElem?_eq_getElem (by omega));simpa using this⟩]
end
section
open Go.RowKit
theorem zK (a:Nat)(ha:a<9223372036854775808):(BitVec.ofInt 64 (a:Int)).toNat=a:=by
 rw [BitVec.ofInt_natCast,BitVec.toNat_ofNat];exact Nat.mod_eq_of_lt (by omega)
theorem Df (a b:Nat)(ha:a<9223372036854775808)(hb:b<9223372036854775808):bits .and .i64 (a:Int) (b:Int)=((a &&& b:Nat):Int):=by
 have hx:a &&& b<2 ^ 63:=Nat.and_lt_two_pow _ (by omega)
 show IntKind.i64.wrap ((BitVec.ofInt 64 (a:Int) &&& BitVec.ofInt 64 (b:Int)).toNat:Int)=_
 rw [BitVec.toNat_and,zK a ha,zK b hb,IntKind.wrap_i64]
 omega
theorem Gt {r n:Int}{b:Bool}(r0:0<=r)(r7:r<=7)(n0:0<=n)(n7:n<=7)(h:(bits .and .i64 r n==n)=b):b=jh r n:=by
 rw [<- h]
 obtain ⟨a,rfl⟩:=Int.eq_ofNat_of_zero_le r0
 obtain ⟨b,rfl⟩:=Int.eq_ofNat_of_zero_le n0
 rw [Df a b (by omega) (by omega)]
 unfold jh
 simp only [Int.toNat_natCast]
 rw [Bool.eq_iff_iff];simp only [beq_iff_eq];omega
theorem pj {r:Int}(h:dA r=0):0<=r/\r<=7:=by
 rcases hY r with ⟨h1,_⟩ | ⟨_,h2⟩
 .omega
 .exact h2
theorem dR {r:Int}(h:¬ dA r=0):dA r=1:=by
 rcases hY r with ⟨h1,_⟩ | ⟨h1,_⟩
 .exact h1
 .exact absurd h1 h
theorem fe {x:ap}(h:x.ID<1\/999<x.ID\/x.aE<1\/999<x.aE\/x.aN<0\/99<x.aN\/x.From<0\/x.ID<=x.From\/x.Rights<0\/7<x.Rights):cz x=1:=by
 rcases gu x with ⟨h1,_⟩ | ⟨_,h2⟩
 .exact h1
 .omega
theorem oN {x:ap}(h:1<=x.ID/\x.ID<=999/\1<=x.aE/\x.aE<=999/\0<=x.aN/\x.aN<=99/\0<=x.From/\x.From<x.ID/\0<=x.Rights/\x.Rights<=7):cz x=0:=by
 rcases gu x with ⟨_,h2⟩ | ⟨h1,_⟩
 .omega
 .exact h1
theorem xA {x:ap}(h:1<=x.ID/\x.ID<=999/\1<=x.aE/\x.aE<=999/\0<=x.aN/\x.aN<=99/\0<=x.From/\x.From<x.ID):cz x=dA x.Rights:=by
 rcases hY x.Rights with ⟨h1,h2⟩ | ⟨h1,h2⟩
 .rw [h1,fe (by omega)]
 .rw [h1,oN (by omega)]
theorem r8 {x:ap}{id r b:Int}(h:¬ dA r=0):derived x id r b=(jJ,1):=by
 have:dA r=1:=by rcases hY r with ⟨h1,_⟩ | ⟨h1,_⟩;exact h1;exact absurd h1 h
 unfold derived;rw [if_pos this]
theorem qQ {x:ap}{id r b:Int}(h:r<0\/7<r\/b<0\/99<b):derived x id r b=(jJ,1):=by
 by_cases h1:dA r=0
 .
  have:=pj h1
  unfold derived;rw [if_neg (by rw [h1];decide)];split;rfl;rw [if_pos (by omega)]
 .exact r8 h1
theorem xB {x:ap}{id r b:Int}(h:0<=r/\r<=7/\0<=b/\b<=99)(hh:jh x.Rights r=false):derived x id r b=(jJ,7):=by
 unfold derived;rw [if_neg (by rw [gS h.1 h.2.1];decide),if_neg (by omega),if_neg (by omega),if_pos hh]
theorem xC {x:ap}{id r b:Int}(h:0<=r/\r<=7/\0<=b/\b<=99)(hh:jh x.Rights r=true)(hc:¬ b=0/\¬ x.aN=0/\¬ b=x.aN):derived x id r b=(jJ,7):=by
 unfold derived;rw [if_neg (by rw [gS h.1 h.2.1];decide),if_neg (by omega),if_neg (by omega),if_neg (by rw [hh];decide),if_pos hc]
theorem r9 {x:ap}{id r b:Int}(h:0<=r/\r<=7/\0<=b/\b<=99)(hh:jh x.Rights r=true)(hc:b=0):derived x id r b=(⟨id,x.aE,r,x.aN,x.ID⟩,0):=by
 unfold derived;rw [if_neg (by rw [gS h.1 h.2.1];decide),if_neg (by omega),if_neg (by omega),if_neg (by rw [hh];decide),if_neg (by omega),if_pos hc]
theorem sf {x:ap}{id r b:Int}(h:0<=r/\r<=7/\0<=b/\b<=99)(hh:jh x.Rights r=true)(hc:¬ b=0)(hc2:x.aN=0\/b=x.aN):derived x id r b=(⟨id,x.aE,r,b,x.ID⟩,0):=by
 unfold derived;rw [if_neg (by rw [gS h.1 h.2.1];decide),if_neg (by omega),if_neg (by omega),if_neg (by rw [hh];decide),if_neg (by omega),if_neg hc]
theorem xD {x:ap}{id r b:Int}(h:0<=r/\r<=7/\0<=b/\b<=99)(hh:jh x.Rights r=true)(hc:¬ x.aN=0)(hc2:b=0\/b=x.aN):derived x id r b=(⟨id,x.aE,r,x.aN,x.ID⟩,0):=by
 by_cases hb:b=0
 .exact r9 h hh hb
 .rw [sf h hh hb (by omega),show b=x.aN by omega]
def idxOf {α:Type}(p:α->Bool)(l:List α):Int:=match l.findIdx? p with|some i=>i|none => -1
theorem idxOf_hit {α:Type}{p:α->Bool}{l:List α}{k:Nat}{x:α}(hk:l[k]? = some x)(h1:p x=true)(h2:∀ (j:Nat) x,j<k->l[j]? = some x->p x=false):idxOf p l=k:=by
 obtain ⟨hk',rfl⟩:=List.getElem?_eq_some_iff.1 hk
 unfold idxOf
 rw [List.findIdx?_eq_some_iff_getElem.2 ⟨hk',h1,fun j hj=>by
  have:=h2 j l[j] hj (List.getElem?_eq_getElem (by omega));simp [this]⟩]
theorem idxOf_miss {α:Type}{p:α->Bool}{l:List α}{k:Nat}(hk:¬ k<l.length)(h:∀ (j:Nat) x,j<k->l[j]? = some x->p x=false):idxOf p l = -1:=by
 unfold idxOf
 rw [List.findIdx?_eq_none_iff.2 (fun x hx=>by obtain ⟨j,hj⟩:=List.mem_iff_getElem?.1 hx;exact h j x (by have:=(List.getElem?_eq_some_iff.1 hj).1;omega) hj)]
theorem nZ {α:Type}{p:α->Bool}{l:List α}{k:Nat}{x:α}(h:∀ (j:Nat) x,j<k->l[j]? = some x->p x=false)(hx:l[k]? = some x)(hp:p x=false):∀ (j:Nat) x,j<k+1->l[j]? = some x->p x=false:=by
 intro j y hj hy
 rcases Nat.lt_or_ge j k with h1|h1
 .exact h j y h1 hy
 .
  have:j=k:=by omega
  subst this;rw [hx] at hy;injection hy with hy;subst hy;exact hp
end
end Go.Proofs.YtkbhcbipadkcaaaGreatDoor
