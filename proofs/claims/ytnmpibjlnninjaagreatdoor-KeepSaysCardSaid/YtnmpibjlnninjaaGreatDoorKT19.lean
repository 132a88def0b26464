import Derived.Test.YtnmpibjlnninjaaGreatDoorKT18
namespace Go.Proofs.YtnmpibjlnninjaaGreatDoor
set_option linter.unusedVariables false
set_option linter.unusedSimpArgs false
set_option maxRecDepth 100000
set_option maxHeartbeats 90000000
section
open Go Go.RowKit
attribute [local irreducible] Run Rg Rq Qt Qa Stp Dg Do Dm bN
section
variable {s:oW} {d:bZ} {l:List Change} {e:Int} {n m:Nat}
end
theorem yV (cr:Nat)(aI:Value)(st:gZ)(bA:Value)(l:List Change)(aF:Nat)(ay aC az:Value)(dk:bZ)(bu:Nat)(lg:Lg)(w:World)(own:List Nat)(H:HN w own [ah.box cr [pV aF,iV st.Epoch,iV st.Side,iV st.Size,iV st.First,pV bu,aI] 132,ah.box aF [ay,aC,az,iV dk.Fuse,.bool dk.Down] 120,ah.row 9 ay dk.Kept,ah.row 9 aC dk.Now,ah.row 196 az dk.Wait,ah.box bu [pV aF,iV lg.From,iV lg.Many,iV lg.First,iV lg.Next] 193] [ah.ls aI st.Rows,ah.ls bA l])(hD:fx dk.Now.length 60000 dk/\dk.Now.length<=200/\166<=dk.Now.length)(hS:0<=st.Epoch/\st.Epoch<=1000000000/\0<=st.Side/\st.Side<=1/\0<=lg.Many/\lg.Many<=1000/\1<=lg.First/\lg.First<=1000000000/\0<=lg.From/\lg.From<=1000/\0<=lg.Next/\lg.Next<=1000)(hl:st.Rows.length<=60)(hF:∀c∈st.Rows,gu c=0)(hn:l.length<=10000):RC Tryz.prog 62 #[pV cr,bA] H (fun _:Value×Value×Value×Value×Nat=>bN (bF (mkS st lg) dk l).2.2) (fun z=>[ah.box cr [pV aF,iV (bF (mkS st lg) dk l).1.c.Epoch,iV (bF (mkS st lg) dk l).1.c.Side,iV (bF (mkS st lg) dk l).1.c.Size,iV (bF (mkS st lg) dk l).1.c.First,pV z.2.2.2.2,z.1] 132,ah.box aF [z.2.1,z.2.2.1,z.2.2.2.1,iV (bF (mkS st lg) dk l).2.1.Fuse,.bool (bF (mkS st lg) dk l).2.1.Down] 120,ah.row 9 z.2.1 (bF (mkS st lg) dk l).2.1.Kept,ah.row 9 z.2.2.1 (bF (mkS st lg) dk l).2.1.Now,ah.row 196 z.2.2.2.1 (bF (mkS st lg) dk l).2.1.Wait,ah.box z.2.2.2.2 [pV aF,iV (bF (mkS st lg) dk l).1.L.From,iV (bF (mkS st lg) dk l).1.L.Many,iV (bF (mkS st lg) dk l).1.L.First,iV (bF (mkS st lg) dk l).1.L.Next] 193]) (fun z=>[ah.ls z.1 (bF (mkS st lg) dk l).1.c.Rows]):=by
 have eo:=H.cap 2 rfl;have eu:=H.cz 2 rfl
 have e8:=H.cap 3 rfl;have e9:=H.cz 3 rfl
 have ew:=H.cap 4 rfl;have ey:=H.cz 4 rfl
 have qY:=H.aZ 0 rfl
 have zy:=H.aZ 1 rfl
 have hal:=wL hF;have hc0:fx dk.Now.length 70000 dk/\dk.Now.length<=200/\166<=dk.Now.length:=⟨hD.1.up ae,hD.2.1,hD.2.2⟩;have hc1:=MG (s:=mkS st lg) hD.1 (Nat.le_trans hal ae);have hc2:=hc1.nl
 have hb0:fx dk.Now.length 80000 dk/\dk.Now.length<=100000:=⟨hD.1.up ae,ae⟩;have hb1:fx (cj (mkS st lg) dk).2.1.Now.length 80000 (cj (mkS st lg) dk).2.1/\(cj (mkS st lg) dk).2.1.Now.length<=100000:=⟨hc2.symm▸hc1.up ae,ae⟩
 refine R.eN H ?_
 refine C (62<l.length) ?_ ?_ <;> intro h1
 .
  have hz:((bF (mkS st lg) dk l).1.c,(bF (mkS st lg) dk l).2.1,(bF (mkS st lg) dk l).1.L,(bF (mkS st lg) dk l).2.2)=(st,dk,lg,2):=by (rw [Vs af];rfl)
  have hz0:(bF (mkS st lg) dk l).1.c=st:=congrArg (fun t_=>t_.1) hz
  rw [hz0]
  have hz1:(bF (mkS st lg) dk l).2.1=dk:=congrArg (fun t_=>t_.2.1) hz
  rw [hz1]
  have hz2:(bF (mkS st lg) dk l).1.L=lg:=congrArg (fun t_=>t_.2.2.1) hz
  rw [hz2]
  have hz3:(bF (mkS st lg) dk l).2.2=2:=congrArg (fun t_=>t_.2.2.2) hz
  rw [hz3]
  exact R.x1 (aI,ay,aC,az,bu) jF [0]
 refine R.loop (fun i:Nat=>[(0,pV cr),(1,bA),(15,bA),(16,iV (l.length:Int)),(17,iV (i:Int))]) (fun i:Nat=>[ah.box cr [pV aF,iV st.Epoch,iV st.Side,iV st.Size,iV st.First,pV bu,aI] 132,ah.box aF [ay,aC,az,iV dk.Fuse,.bool dk.Down] 120,ah.row 9 ay dk.Kept,ah.row 9 aC dk.Now,ah.row 196 az dk.Wait,ah.box bu [pV aF,iV lg.From,iV lg.Many,iV lg.First,iV lg.Next] 193,ah.held w own]) (fun i:Nat=>[ah.ls aI st.Rows,ah.ls bA l]) (fun i:Nat=>i<=l.length/\gI (l.drop i)=gI l) (fun i:Nat=>l.length-i) 0 O (by exact ⟨ae,rfl⟩) (sF O) (dE jF [0,1] O) ?_
 rintro i ⟨hi,HL⟩
 refine U ?_
 refine C (i<l.length) ?_ ?_ <;> intro h2
 .
  obtain ⟨x1,hx1⟩:=gE l i
  have OJ:=i7 x1
  refine U ?_
  refine R.nb fun b1=>?_
  refine R.kc O O (fun w hw=>iG x1 w)<|U ?_
  refine C (gu x1=0) ?_ ?_ <;> intro h3
  .refine R.back (i+1) O (by exact ⟨ae,LM HL hx1 ae⟩) ae (sF O) (ck wV [0,1] O)
  have hz:((bF (mkS st lg) dk l).1.c,(bF (mkS st lg) dk l).2.1,(bF (mkS st lg) dk l).1.L,(bF (mkS st lg) dk l).2.2)=(st,dk,lg,gu x1):=by (rw [Vt af (Ci HL hx1 af) af];rfl)
  have hz0:(bF (mkS st lg) dk l).1.c=st:=congrArg (fun t_=>t_.1) hz
  rw [hz0]
  have hz1:(bF (mkS st lg) dk l).2.1=dk:=congrArg (fun t_=>t_.2.1) hz
  rw [hz1]
  have hz2:(bF (mkS st lg) dk l).1.L=lg:=congrArg (fun t_=>t_.2.2.1) hz
  rw [hz2]
  have hz3:(bF (mkS st lg) dk l).2.2=gu x1:=congrArg (fun t_=>t_.2.2.2) hz
  rw [hz3]
  exact R.x1 (aI,ay,aC,az,bu) wV [0]
 have g0:gI l=0:=Gi HL ae;have Ze:=ko l st.Rows
 refine U ?_
 refine R.s O (s.aJ jF [0,1] _ _ _ O O O Ma O O (fun w own hw H=>oU aI st.Rows bA l w own H ae) O) fun z1=>U ?_
 refine C (60<(bI st.Rows l).length) ?_ ?_ <;> intro h4
 .
  have hz:((bF (mkS st lg) dk l).1.c,(bF (mkS st lg) dk l).2.1,(bF (mkS st lg) dk l).1.L,(bF (mkS st lg) dk l).2.2)=(st,dk,lg,9):=by (rw [QA (s:=mkS st lg) af g0 (by exact .inl af)];rfl)
  have hz0:(bF (mkS st lg) dk l).1.c=st:=congrArg (fun t_=>t_.1) hz
  rw [hz0]
  have hz1:(bF (mkS st lg) dk l).2.1=dk:=congrArg (fun t_=>t_.2.1) hz
  rw [hz1]
  have hz2:(bF (mkS st lg) dk l).1.L=lg:=congrArg (fun t_=>t_.2.2.1) hz
  rw [hz2]
  have hz3:(bF (mkS st lg) dk l).2.2=9:=congrArg (fun t_=>t_.2.2.2) hz
  rw [hz3]
  exact R.x1 (aI,ay,aC,az,bu) wV [0]
 refine R.kc O O (fun w hw=>fN aF ay aC az dk w (hw.b 2 O) (hw.row 3 O) (hw.row 4 O) (hw.row 5 O))<|R.qg O (q.jY (r:=((dk.Now.length-102:Nat):Int)) O O) O<|C ((dk.Now.length-102)<(l.length+1)) ?_ ?_ <;> intro h5
 .
  have hz:((bF (mkS st lg) dk l).1.c,(bF (mkS st lg) dk l).2.1,(bF (mkS st lg) dk l).1.L,(bF (mkS st lg) dk l).2.2)=(st,dk,lg,9):=by (rw [QA (s:=mkS st lg) af g0 (by exact .inr ae)];rfl)
  have hz0:(bF (mkS st lg) dk l).1.c=st:=congrArg (fun t_=>t_.1) hz
  rw [hz0]
  have hz1:(bF (mkS st lg) dk l).2.1=dk:=congrArg (fun t_=>t_.2.1) hz
  rw [hz1]
  have hz2:(bF (mkS st lg) dk l).1.L=lg:=congrArg (fun t_=>t_.2.2.1) hz
  rw [hz2]
  have hz3:(bF (mkS st lg) dk l).2.2=9:=congrArg (fun t_=>t_.2.2.2) hz
  rw [hz3]
  exact R.x1 (aI,ay,aC,az,bu) wV [0]
 refine R.kc O O (fun w hw=>yH bu aF lg w (hw.b 6 O) ae)<|C (lg.Many-lg.Next<((l.length+1):Int)) ?_ ?_ <;> intro h6
 .
  refine R.s O (s.aJ [1,2,3,4,5,6,0,7] [0] _ _ _ O O O Qp O O (fun w own hw H=>E4 cr aI st aF ay aC az dk bu lg w own H af ae ae af) O) ?_
  rintro ⟨z2,z3,z4,z5,z6⟩
  dsimp only
  refine U ?_
  have hk:(cj (mkS st lg) dk).2.2=0->0<=(cj (mkS st lg) dk).1.L.From/\(cj (mkS st lg) dk).1.L.From<=1000000000/\0<=(cj (mkS st lg) dk).1.L.Next/\(cj (mkS st lg) dk).1.L.Next<=1000000000/\0<=(cj (mkS st lg) dk).1.L.First/\(cj (mkS st lg) dk).1.L.First<=4000000000000000000/\0<=(cj (mkS st lg) dk).1.L.Many/\(cj (mkS st lg) dk).1.L.Many<=1000000000:=fun hk1=>by have hk3:=OT (cj (mkS st lg) dk).2.1 102 (((cj (mkS st lg) dk).2.1.Now.length:Int)-102).toNat ((mkS st lg).L.First+(mkS st lg).L.Many);rw [SD hk1];unfold Vk;dsimp only;have e1:(mkS st lg).L.First=lg.First:=rfl;have e2:(mkS st lg).L.Many=lg.Many:=rfl;refine ⟨?_,?_,?_,?_,?_,?_,?_,?_⟩ <;> omega
  refine U ?_
  refine C ((cj (mkS st lg) dk).2.2=0) ?_ ?_ <;> intro h7
  .
   (have hkk:=hk af)
   refine U ?_
   refine R.s O (s.aJ [5,1,2,3,4,0,6,7] [2] _ _ _ O O O Md O O (fun w own hw H=>Iv z6 (cj (mkS st lg) dk).1.L bA l aF z3 z4 z5 (cj (mkS st lg) dk).2.1 w own H af af) O) ?_
   rintro ⟨z7,z8,z9⟩
   dsimp only
   refine U ?_
   refine C ((cw (cj (mkS st lg) dk).1.L (cj (mkS st lg) dk).2.1 l).2.2=0) ?_ ?_ <;> intro h8
   .
    refine R.mp (fun _ hw=>hw.aR 6 _ O O) ?_
    have hz:((bF (mkS st lg) dk l).1.c,(bF (mkS st lg) dk l).2.1,(bF (mkS st lg) dk l).1.L,(bF (mkS st lg) dk l).2.2)=((⟨((cj (mkS st lg) dk).1.c).Epoch,(cj (mkS st lg) dk).1.c.Side,(cj (mkS st lg) dk).1.c.Size,(cj (mkS st lg) dk).1.c.First,bI st.Rows l⟩:gZ),(cw (cj (mkS st lg) dk).1.L (cj (mkS st lg) dk).2.1 l).2.1,(cw (cj (mkS st lg) dk).1.L (cj (mkS st lg) dk).2.1 l).1,(cw (cj (mkS st lg) dk).1.L (cj (mkS st lg) dk).2.1 l).2.2):=by (have hf:=yO (s:=mkS st lg) (d:=dk) (l:=l) af g0 (by intro hh;rcases hh with hh|hh <;> first|(exact absurd hh af)|omega);(rw [QC hf (by show lg.Many-lg.Next<_;omega) af af];rfl))
    have hz0:(bF (mkS st lg) dk l).1.c=(⟨((cj (mkS st lg) dk).1.c).Epoch,(cj (mkS st lg) dk).1.c.Side,(cj (mkS st lg) dk).1.c.Size,(cj (mkS st lg) dk).1.c.First,bI st.Rows l⟩:gZ):=congrArg (fun t_=>t_.1) hz
    rw [hz0]
    have hz1:(bF (mkS st lg) dk l).2.1=(cw (cj (mkS st lg) dk).1.L (cj (mkS st lg) dk).2.1 l).2.1:=congrArg (fun t_=>t_.2.1) hz
    rw [hz1]
    have hz2:(bF (mkS st lg) dk l).1.L=(cw (cj (mkS st lg) dk).1.L (cj (mkS st lg) dk).2.1 l).1:=congrArg (fun t_=>t_.2.2.1) hz
    rw [hz2]
    have hz3:(bF (mkS st lg) dk l).2.2=(cw (cj (mkS st lg) dk).1.L (cj (mkS st lg) dk).2.1 l).2.2:=congrArg (fun t_=>t_.2.2.2) hz
    rw [hz3]
    exact R.x1 (z1,z7,z8,z9,z6) [5,1,2,3,4,0,6] [0]
   have hz:((bF (mkS st lg) dk l).1.c,(bF (mkS st lg) dk l).2.1,(bF (mkS st lg) dk l).1.L,(bF (mkS st lg) dk l).2.2)=(((cj (mkS st lg) dk).1.c),(cw (cj (mkS st lg) dk).1.L (cj (mkS st lg) dk).2.1 l).2.1,(cw (cj (mkS st lg) dk).1.L (cj (mkS st lg) dk).2.1 l).1,(cw (cj (mkS st lg) dk).1.L (cj (mkS st lg) dk).2.1 l).2.2):=by (have hf:=yO (s:=mkS st lg) (d:=dk) (l:=l) af g0 (by intro hh;rcases hh with hh|hh <;> first|(exact absurd hh af)|omega);(rw [QD hf (by show lg.Many-lg.Next<_;omega) af af];rfl))
   have hz0:(bF (mkS st lg) dk l).1.c=(cj (mkS st lg) dk).1.c:=congrArg (fun t_=>t_.1) hz
   rw [hz0]
   have hz1:(bF (mkS st lg) dk l).2.1=(cw (cj (mkS st lg) dk).1.L (cj (mkS st lg) dk).2.1 l).2.1:=congrArg (fun t_=>t_.2.1) hz
   rw [hz1]
   have hz2:(bF (mkS st lg) dk l).1.L=(cw (cj (mkS st lg) dk).1.L (cj (mkS st lg) dk).2.1 l).1:=congrArg (fun t_=>t_.2.2.1) hz
   rw [hz2]
   have hz3:(bF (mkS st lg) dk l).2.2=(cw (cj (mkS st lg) dk).1.L (cj (mkS st lg) dk).2.1 l).2.2:=congrArg (fun t_=>t_.2.2.2) hz
   rw [hz3]
   exact R.x1 (z2,z7,z8,z9,z6) [5,1,2,3,4,0,7] [0]
  have hz:((bF (mkS st lg) dk l).1.c,(bF (mkS st lg) dk l).2.1,(bF (mkS st lg) dk l).1.L,(bF (mkS st lg) dk l).2.2)=(((cj (mkS st lg) dk).1.c),(cj (mkS st lg) dk).2.1,(cj (mkS st lg) dk).1.L,(cj (mkS st lg) dk).2.2):=by (have hf:=yO (s:=mkS st lg) (d:=dk) (l:=l) af g0 (by intro hh;rcases hh with hh|hh <;> first|(exact absurd hh af)|omega);(rw [QB hf (by show lg.Many-lg.Next<_;omega) af]))
  have hz0:(bF (mkS st lg) dk l).1.c=(cj (mkS st lg) dk).1.c:=congrArg (fun t_=>t_.1) hz
  rw [hz0]
  have hz1:(bF (mkS st lg) dk l).2.1=(cj (mkS st lg) dk).2.1:=congrArg (fun t_=>t_.2.1) hz
  rw [hz1]
  have hz2:(bF (mkS st lg) dk l).1.L=(cj (mkS st lg) dk).1.L:=congrArg (fun t_=>t_.2.2.1) hz
  rw [hz2]
  have hz3:(bF (mkS st lg) dk l).2.2=(cj (mkS st lg) dk).2.2:=congrArg (fun t_=>t_.2.2.2) hz
  rw [hz3]
  exact R.x1 (z2,z3,z4,z5,z6) [0,1,2,3,4,5,7] [0]
 skip
 refine U ?_
 refine R.s O (s.aJ [6,2,3,4,5,0,1,7] [1] _ _ _ O O O Md O O (fun w own hw H=>Iv bu lg bA l aF ay aC az dk w own H ae af) O) ?_
 rintro ⟨lu,mG,z12⟩
 dsimp only
 refine U ?_
 refine C ((cw lg dk l).2.2=0) ?_ ?_ <;> intro h9
 .
  refine R.mp (fun _ hw=>hw.aR 5 _ O O) ?_
  have hz:((bF (mkS st lg) dk l).1.c,(bF (mkS st lg) dk l).2.1,(bF (mkS st lg) dk l).1.L,(bF (mkS st lg) dk l).2.2)=((⟨st.Epoch,st.Side,st.Size,st.First,bI st.Rows l⟩:gZ),(cw lg dk l).2.1,(cw lg dk l).1,(cw lg dk l).2.2):=by (have hf:=yO (s:=mkS st lg) (d:=dk) (l:=l) af g0 (by intro hh;rcases hh with hh|hh <;> first|(exact absurd hh af)|omega);(rw [QE hf (by show ¬ lg.Many-lg.Next<_;omega) af];rfl))
  have hz0:(bF (mkS st lg) dk l).1.c=(⟨st.Epoch,st.Side,st.Size,st.First,bI st.Rows l⟩:gZ):=congrArg (fun t_=>t_.1) hz
  rw [hz0]
  have hz1:(bF (mkS st lg) dk l).2.1=(cw lg dk l).2.1:=congrArg (fun t_=>t_.2.1) hz
  rw [hz1]
  have hz2:(bF (mkS st lg) dk l).1.L=(cw lg dk l).1:=congrArg (fun t_=>t_.2.2.1) hz
  rw [hz2]
  have hz3:(bF (mkS st lg) dk l).2.2=(cw lg dk l).2.2:=congrArg (fun t_=>t_.2.2.2) hz
  rw [hz3]
  exact R.x1 (z1,lu,mG,z12,bu) [5,1,2,3,4,0,6] [0]
 have hz:((bF (mkS st lg) dk l).1.c,(bF (mkS st lg) dk l).2.1,(bF (mkS st lg) dk l).1.L,(bF (mkS st lg) dk l).2.2)=(st,(cw lg dk l).2.1,(cw lg dk l).1,(cw lg dk l).2.2):=by (have hf:=yO (s:=mkS st lg) (d:=dk) (l:=l) af g0 (by intro hh;rcases hh with hh|hh <;> first|(exact absurd hh af)|omega);(rw [QF hf (by show ¬ lg.Many-lg.Next<_;omega) af];rfl))
 have hz0:(bF (mkS st lg) dk l).1.c=st:=congrArg (fun t_=>t_.1) hz
 rw [hz0]
 have hz1:(bF (mkS st lg) dk l).2.1=(cw lg dk l).2.1:=congrArg (fun t_=>t_.2.1) hz
 rw [hz1]
 have hz2:(bF (mkS st lg) dk l).1.L=(cw lg dk l).1:=congrArg (fun t_=>t_.2.2.1) hz
 rw [hz2]
 have hz3:(bF (mkS st lg) dk l).2.2=(cw lg dk l).2.2:=congrArg (fun t_=>t_.2.2.2) hz
 rw [hz3]
 exact R.x1 (aI,lu,mG,z12,bu) [6,1,2,3,4,0,7] [0]
end
section
open Go Go.RowKit
structure gK (l:List ByteArray)(first:Int)(W:List (List Change))(u:Nat):Prop where
  sc:scan l first=(W,u)
  Yd:∀ (j:Nat) s,u<=j->l[j]? = some s->bq s 0=99->¬ s.extract 1 5=bW (first+(j:Int))
  num:∀ (j:Nat) s,l[j]? = some s->(bq s 0=111∨bq s 0=99) -> ∃m:Int,0<=m/\m<=first+(j:Int)/\s.extract 1 5=bW m
theorem Bb {s:ByteArray}{n k:Int}(h:bq s 0=99->¬ s.extract 1 5=bW n):AB s n k=false:=by
 rw [Bool.eq_false_iff];intro hc
 simp_all [AB,Bool.and_eq_true,decide_eq_true_eq]
theorem E5:∀ (l:List ByteArray) (n:Int) (out:List (List Change)) (deed:List Change) (used pos:Nat),(∀ (j:Nat) s,l[j]? = some s->bq s 0=99->¬ s.extract 1 5=bW (n+(j:Int)))->gS l n out deed used pos=(out,used)
 | [],n,out,deed,used,pos,_=>rfl
 | s::r,n,out,deed,used,pos,h=>by
  rw [gS,if_neg (by rw [Bb (by have:=h 0 s rfl;grind)];decide)]
  split
  .
   refine E5 r _ _ _ _ _ fun j s' hs=>?_
   have:=h (j+1) s' au
   grind
  rfl
section
variable {l l':List ByteArray} {first:Int} {W:List (List Change)} {u:Nat} {c:List Change}
theorem gK.ule (h:gK l first W u):u<=l.length:=JI h.sc
theorem gK.next (h:gK l first W u)(h0:0<=first)(hb:first+2*(l.length:Int)<4294967296):gK l (first+(l.length:Int)) [] 0:=by
 have key:∀ (j:Nat) s,l[j]? = some s->(bq s 0=111∨bq s 0=99) -> ∀i:Nat,i<=l.length->¬ s.extract 1 5=bW (first+(l.length:Int)+(i:Int)):=fun j s hs hk i hi e=>by
  obtain ⟨m,h1,h2,h3⟩:=h.num j s hs hk
  have hj:=(List.getElem?_eq_some_iff.1 hs).1
  have:=Js (a:=m) (b:=first+(l.length:Int)+(i:Int)) ae ae (h3.symm.trans e)
  omega
 refine ⟨?_,fun j s _ hs hk=>key j s hs (.inr hk) j au,fun j s hs hk=>?_⟩
 .
  cases l with
  | nil=>rfl
  | cons s r =>
   unfold scan
   have hs:(s::r)[0]? = some s:=rfl
   rw [gS,if_neg (by rw [Bb (fun hk=>by have:=key 0 s hs (.inr hk) 0 (Nat.zero_le _);grind)];decide),if_neg ?_]
   intro ho
   unfold FL at ho;simp only [Bool.and_eq_true,decide_eq_true_eq] at ho
   exact key 0 s hs (.inl ho.1.2) 0 (Nat.zero_le _) au
 obtain ⟨m,h1,h2,h3⟩:=h.num j s hs hk
 grind
theorem gK.blank (first:Int)(h:∀s∈l,bq s 0=0):gK l first [] 0:=by
 refine ⟨?_,fun j s _ hs hk=>?_,fun j s hs hk=>?_⟩
 .
  cases l with
  | nil=>rfl
  | cons s r =>
   simp_all [scan,gS,List.mem_cons_self,if_neg,tM,B5]
 .grind
 grind
theorem gK.keep (h:gK l first W u)(h0:0<=first)(ht:l'.take u=l.take u)(hp:∀ (j:Nat) s,l'[j]? = some s->l[j]? = some s∨bq s 0=0∨(bq s 0=111/\s.extract 1 5=bW (first+(j:Int)))):gK l' first W u:=by
 have hn:∀ (j:Nat) s,u<=j->l'[j]? = some s->bq s 0=99->¬ s.extract 1 5=bW (first+(j:Int)):=fun j s hj hs hk=>by
  rcases hp j s hs with h1|h1|h1
  .exact h.Yd j s hj h1 hk
  .omega
  omega
 refine ⟨?_,hn,fun j s hs hk=>?_⟩
 .
  have hcut:=ye (l:=l) (l':=l') (first:=first) (by rw [h.sc];omega)
  rw [h.sc] at hcut
  rw [hcut]
  refine E5 _ _ _ _ _ _ fun j s hs hk=>?_
  rw [List.getElem?_drop] at hs
  have:=hn (u+j) s (Nat.le_add_right _ _) hs hk
  grind
 rcases hp j s hs with h1|h1|h1
 .exact h.num j s h1 hk
 .omega
 grind
theorem gK.after {r:List ByteArray}(h:gK l first W u)(h0:0<=first)(hb:first+(l.length:Int)<4294967296)(hc:∀x∈c,gu x=0)(hm:c.length<=62)(hlen:u+(c.length+1)+r.length=l.length)
 (hr:r=[] ∨ ∃r',r=full ⟨#[]⟩::r') (hrr:∀ (j:Nat) s,r[j]? = some s->l[u+(c.length+1)+j]? = some s∨bq s 0=0) :
 gK (l.take u++(iX (first+(u:Int)) c++r)) first (W++[c]) (u+c.length+1):=by
 have htl:(l.take u).length=u:=au
 have hds:=uT (first+(u:Int)) c
 have hcut:=ye (l:=l) (l':=l.take u++(iX (first+(u:Int)) c++r)) (first:=first) (by rw [h.sc];grind)
 rw [h.sc] at hcut
 dsimp only at hcut
 rw [List.drop_append_of_le_length ae,List.drop_of_length_le ae,List.nil_append] at hcut
 have VB:∀ (j:Nat) s,u+(c.length+1)<=j->(l.take u++(iX (first+(u:Int)) c++r))[j]? = some s->l[j]? = some s∨bq s 0=0:=fun j s hj hs=>by
  grind
 refine ⟨?_,fun j s hj hs hk=>?_,fun j s hs hk=>?_⟩
 .grind [iX,List.append_assoc,List.singleton_append,Ia,oP]
 .
  rcases VB j s ae hs with h1|h1
  .exact h.Yd j s ae h1 hk
  omega
 by_cases hj:j<u
 .
  rw [List.getElem?_append_left ae,List.getElem?_take_of_lt hj] at hs
  exact h.num j s hs hk
 by_cases hj2:j<u+(c.length+1)
 .
  rw [List.getElem?_append_right ae,htl,List.getElem?_append_left ae] at hs
  refine ⟨first+(j:Int),ae,ae,?_⟩
  unfold iX at hs
  by_cases hj3:j-u<c.length
  .
   rw [List.getElem?_append_left (by grind [gw])] at hs
   obtain ⟨x,hx⟩:∃x,c[j-u]? = some x:=⟨_,List.getElem?_eq_getElem hj3⟩
   rw [uJ c _ _ x hx] at hs
   grind [gv,List.mem_of_getElem?,nQ,kS]
  grind [List.getElem?_append_right,gw,List.getElem?_cons_zero,Option.some.injEq,nQ,jm]
 rcases VB j s ae hs with h1|h1
 .exact h.num j s h1 hk
 omega
end
theorem MZ (k:Int):∀ (w:List Turn) (i:Nat) (l:List ByteArray) (p:Nat) (s:ByteArray),((w.zipIdx i).foldl (oN k) l)[p]? = some s->l[p]? = some s ∨ ∃t∈w,t.At.toNat=p/\t.Data=s
 | [],i,l,p,s,h => .inl h
 | t::w,i,l,p,s,h=>by
  rw [List.zipIdx_cons,List.foldl_cons] at h
  rcases MZ k w (i+1) _ p s h with h1|⟨t',ht,h1⟩
  .grind [oN,List.getElem?_eq_some_iff,List.getElem?_set_self,List.mem_cons_self,List.getElem?_set_ne]
  grind
theorem O0 {k:Int}{w:List Turn}{l:List ByteArray}{p:Nat}{s:ByteArray}(h:(nO k w l)[p]? = some s):l[p]? = some s ∨ ∃t∈w,t.At.toNat=p/\t.Data=s:=MZ k w 0 l p s h
theorem take_same {α:Type}{l l':List α}{q:Nat}(hl:l'.length=l.length)(h:∀p s,p<q->l'[p]? = some s->l[p]? = some s):l'.take q=l.take q:=by
 refine List.ext_getElem? fun p=>?_
 grind
theorem yW:∀ (l:List Change) (p n:Int) (t:Turn),(∀x∈l,gu x=0)->t∈ju p n l -> ∃i:Nat,i<l.length/\t.At=p+(i:Int)/\bq t.Data 0=111/\t.Data.extract 1 5=bW (n+(i:Int))
 | [],_,_,t,_,h=>by cases h
 | c::l,p,n,t,hc,h=>by
  rcases List.mem_cons.1 h with rfl|h
  .
   obtain ⟨_,_,h3,h4⟩:=gv (hc c (List.mem_cons_self ..))
   have hs:(jZ c).1.size<=41:=by rw [kS (hc c (List.mem_cons_self ..))];omega
   exact ⟨0,bC,bC,by dsimp only;rw [qh hs];decide,by dsimp only;rw [nQ hs];simp⟩
  obtain ⟨i,h1,h2,h3,h4⟩:=yW l (p+1) (n+1) t (fun x hx=>hc x (List.mem_cons_of_mem _ hx)) h
  exact ⟨i+1,aE,ae,h3,by rw [h4];congr 1;omega⟩
theorem O1 {f k u cl n dn B:Nat}(h1:f+k=n)(h2:dn=n)(h3:(cl:Int)+1<=(k:Int)-(u:Int))(h4:B+1=dn-(f+u+cl)):u+(cl+1)+B=k:=ae
structure Rest (n:Nat)(d:bZ):Prop where
  ok:fx n 0 d
  down:d.Down=false
  fuse : -1<=d.Fuse
  kn:d.Kept=d.Now
  wait:d.Wait=[]
theorem O2 {n f k u:Nat}{first:Int}{d:bZ}{W:List (List Change)}{c:List Change}(hR:Rest n d)(Zf:f+k=n)(h0:0<=first)(hb:first+(k:Int)<4294967296)(hL:gK (d.Now.drop f) first W u)(ha:lf ⟨f,k,first,u⟩ c=0) :
 (∃e,cw ⟨f,k,first,u⟩ d c=(⟨f,k,first,((u+c.length+1:Nat):Int)⟩,e,0)/\Rest n e/\e.Now.take f=d.Now.take f/\gK (e.Now.drop f) first (W++[c]) (u+c.length+1)/\(d.Fuse = -1->e.Fuse = -1)) ∨
 (∃e,cw ⟨f,k,first,u⟩ d c=(⟨f,k,first,u⟩,e,10)/\¬ d.Fuse = -1 /\ ∀z,fx n 0 (gH e z)/\(nO z e.Wait e.Kept).take f=d.Now.take f /\ ∃W' u',gK ((nO z e.Wait e.Kept).drop f) first W' u'/\(W'=W∨W'=W++[c])):=by
 have hok:=wH (lg:=⟨f,k,first,u⟩) (c:=c) hR.ok
 obtain ⟨a1,a2,a3⟩:=lS ha
 dsimp only at a2
 have hnl:=hR.ok.nl
 have Zg:SG n 0 ⟨f,k,first,u⟩ d:=⟨hR.ok,by show (0:Int)<=(f:Int);omega,by show (0:Int)<=(k:Int);omega,by show (f:Int)+(k:Int)<=(n:Int);omega,by show (0:Int)<=(u:Int);omega⟩
 have hkn:=hR.kn;have hwt:=hR.wait
 have hdl0:(d.Now.drop f).length=k:=by rw [List.length_drop];omega
 have live:=fun (h:d.Fuse = -1)=>OQ (lg:=⟨f,k,first,u⟩) (c:=c) (fI:=f) (many:=k) (first:=first) (u:=u) (W:=W) hR.ok hR.down h rfl ae ae ae (by
  rw [show ((k:Nat):Int).toNat=k from rfl,oa hR.down ae,List.take_of_length_le ae];exact hL.sc)
 obtain ⟨B,b0,hB,hS⟩:=ML (c:=c) Zg hR.down hR.fuse ha
 have hq:((f:Int)+(u:Int)).toNat=f+u:=ae
 dsimp only at hB hS
 rw [hq] at hB hS
 have hBl:(b0::B).length=d.Now.length-(f+u+c.length):=by rw [<- hB,List.length_drop]
 rw [List.length_cons] at hBl
 have VD:∀ (j:Nat) s,(b0::B)[j]? = some s->d.Now[f+u+c.length+j]? = some s:=fun j s hs=>by rw [<- hB,List.getElem?_drop] at hs;exact hs
 have htl:(d.Now.take (f+u)).length=f+u:=by rw [List.length_take];omega
 generalize hC:(if (u:Int)+(c.length:Int)+1<(k:Int) then B.set 0 (full ⟨#[]⟩) else B)=C at hS
 have X6:C.length=B.length:=by rw [<- hC];split <;> simp
 have VE:∀ (j:Nat) s,C[j]? = some s->d.Now[f+u+(c.length+1)+j]? = some s∨bq s 0=0:=fun j s hs=>by
  have hold:∀s,B[j]? = some s->d.Now[f+u+(c.length+1)+j]? = some s:=fun s hs=>by
   have:=VD (j+1) s (by simpa using hs)
   rwa [show f+u+c.length+(j+1)=f+u+(c.length+1)+j by omega] at this
  rw [<- hC] at hs
  split at hs
  .
   by_cases hj:j=0
   .
    subst hj
    have hlt:0<B.length:=by have:=(List.getElem?_eq_some_iff.1 hs).1;simpa using this
    rw [List.getElem?_set_self hlt] at hs
    injection hs with hs
    exact .inr (by rw [<- hs];exact oP)
   rw [List.getElem?_set_ne ae] at hs;exact .inl (hold s hs)
  exact .inl (hold s hs)
 have Zh:C=[] ∨ ∃r',C=full ⟨#[]⟩::r':=by
  by_cases hr:(u:Int)+(c.length:Int)+1<(k:Int)
  .
   right
   rw [if_pos hr] at hC
   cases B with
   | nil=>simp at hBl;omega
   | cons b1 B=>exact ⟨B,hC.symm⟩
  left
  exact List.eq_nil_of_length_eq_zero ae
 have Wg:(d.Now.take (f+u)++eH (first+(u:Int)) c).length=f+u+c.length:=by rw [List.length_append,htl,gw]
 have VF:(d.Now.take (f+u)++eH (first+(u:Int)) c++b0::C).take f=d.Now.take f:=by
  rw [List.append_assoc,List.take_append_of_le_length ae,List.take_take,Nat.min_eq_left ae]
 have hdr:∀X:List ByteArray,(d.Now.take (f+u)++X).drop f=(d.Now.drop f).take u++X:=fun X=>by
  rw [List.drop_append_of_le_length ae,List.drop_take,Nat.add_sub_cancel_left]
 have W7:((d.Now.drop f).take u).length=u:=by rw [List.length_take];omega
 have hN1:gK ((d.Now.take (f+u)++eH (first+(u:Int)) c++b0::C).drop f) first W u:=by
  rw [List.append_assoc,hdr]
  refine hL.keep h0 (by rw [List.take_append_of_le_length ae,List.take_take,Nat.min_self]) fun j s hs=>?_
  by_cases hj:j<u
  .rw [List.getElem?_append_left ae,List.getElem?_take_of_lt hj] at hs;exact .inl hs
  rw [List.getElem?_append_right ae,W7] at hs
  by_cases hj2:j-u<c.length
  .
   rw [List.getElem?_append_left (by rw [gw];exact hj2)] at hs
   obtain ⟨x,hx⟩:∃x,c[j-u]? = some x:=⟨_,List.getElem?_eq_getElem hj2⟩
   rw [uJ c _ _ x hx] at hs
   injection hs with hs
   have hz:=a3 x (List.mem_of_getElem? hx)
   obtain ⟨_,_,h3,h4⟩:=gv hz
   have hsz:(jZ x).1.size<=41:=by rw [kS hz];omega
   refine .inr (.inr ⟨by rw [<- hs,qh hsz];decide,by rw [<- hs,nQ hsz];congr 1;omega⟩)
  rw [List.getElem?_append_right (by rw [gw];omega),gw] at hs
  by_cases hj3:j-u-c.length=0
  .
   rw [hj3] at hs
   have:=VD 0 s (by simpa using hs)
   left;rw [List.getElem?_drop];rwa [show f+j=f+u+c.length+0 by omega]
  obtain ⟨i,hi⟩:∃i,j-u-c.length=i+1:=⟨j-u-c.length-1,ae⟩
  rw [hi,List.getElem?_cons_succ] at hs
  rcases VE i s hs with h1|h1
  .left;rw [List.getElem?_drop];rwa [show f+j=f+u+(c.length+1)+i by omega]
  exact .inr (.inl h1)
 have VG:(d.Now.take (f+u)++(iX (first+(u:Int)) c++C)).take f=d.Now.take f:=by
  rw [List.take_append_of_le_length ae,List.take_take,Nat.min_eq_left ae]
 have Ye:gK ((d.Now.take (f+u)++(iX (first+(u:Int)) c++C)).drop f) first (W++[c]) (u+c.length+1):=by
  rw [hdr]
  have q1:first+((d.Now.drop f).length:Int)<4294967296:=by rw [hdl0];exact hb
  have q2:u+(c.length+1)+C.length=(d.Now.drop f).length:=by rw [hdl0,X6];exact O1 Zf hnl a2 hBl
  refine hL.after h0 q1 a3 a1 q2 Zh fun j s hs=>?_
  rcases VE j s hs with h1|h1
  .left;rw [List.getElem?_drop];rwa [show f+(u+(c.length+1)+j)=f+u+(c.length+1)+j by omega]
  exact .inr h1
 have hold:∀ (T:List Turn) (z:Int),(∀t∈T,t∈sB ⟨f,k,first,u⟩ c)->(nO z T d.Kept).take f=d.Now.take f/\gK ((nO z T d.Kept).drop f) first W u:=fun T z hT=>by
  have hlen:(nO z T d.Kept).length=d.Now.length:=by rw [En,hkn]
  have hp:∀ (p:Nat) s,(nO z T d.Kept)[p]? = some s->d.Now[p]? = some s∨(f+u<=p/\(bq s 0=0∨(bq s 0=111/\s.extract 1 5=bW (first+((p-f:Nat):Int))))):=fun p s hs=>by
   rcases O0 hs with h1|⟨t,ht,h1,h2⟩
   .left;rw [<- hkn];exact h1
   right
   have ht:=hT t ht
   unfold sB at ht
   rcases List.mem_append.1 ht with ht|ht
   .
    obtain ⟨i,g1,g2,g3,g4⟩:=yW _ _ _ _ a3 ht
    dsimp only at g2 g4
    refine ⟨ae,.inr ⟨by rw [<- h2];exact g3,by rw [<- h2,g4];congr 1;omega⟩⟩
   split at ht
   .
    rw [List.mem_singleton.1 ht] at h1 h2
    dsimp only at h1 h2
    exact ⟨ae,.inl (by rw [<- h2];exact oP)⟩
   cases ht
  refine ⟨take_same hlen fun p s hp1 hs=>(hp p s hs).elim id fun h=>by omega,hL.keep h0 ?_ fun j s hs=>?_⟩
  .
   refine take_same (by rw [List.length_drop,List.length_drop,hlen]) fun p s hp1 hs=>?_
   rw [List.getElem?_drop] at hs ⊢
   exact (hp _ s hs).elim id fun h=>by omega
  rw [List.getElem?_drop] at hs ⊢
  rcases hp _ s hs with h1|⟨h1,h2|h2⟩
  .exact .inl h1
  .exact .inr (.inl h2)
  rw [Nat.add_sub_cancel_left] at h2;exact .inr (.inr h2)
 have fell:∀e:bZ,cw ⟨f,k,first,u⟩ d c=(⟨f,k,first,u⟩,e,10)->¬ d.Fuse = -1:=fun e he hf=>by
  have:=(live hf).1
  rw [he,ha] at this;cases this
 have rest:∀ (e:bZ),cw ⟨f,k,first,u⟩ d c=(⟨f,k,first,u⟩,e,10) -> ∀z,fx n 0 (gH e z):=fun e he z=>by
  rw [he] at hok;exact hok.restart z
 rcases hS with ⟨g,hg,hS⟩ | ⟨e,he,e1,e2,j,e3⟩
 rotate_left
 .
  right
  have e':=Qi (lg:=⟨f,k,first,u⟩) (d:=d) ha (by rw [he];exact uU)
  rw [he] at e'
  refine ⟨e,e',fell e e',fun z=>⟨rest e e' z,?_⟩⟩
  rw [e2,e3,hwt,List.nil_append]
  have:=hold (List.take j (sB ⟨f,k,first,u⟩ c)) z (fun t ht=>List.mem_of_mem_take ht)
  exact ⟨this.1,W,u,this.2,.inl rfl⟩
 have g0:(dG ⟨f,k,first,u⟩ d c).2=0:=by rw [hS]
 have hb1:sr ⟨f,k,first,u⟩ d c=aN (dG ⟨f,k,first,u⟩ d c).1:=rfl
 rw [hS] at hb1
 rcases sA (d:=⟨d.Kept,d.Now.take (f+u)++eH (first+(u:Int)) c++b0::C,d.Wait++sB ⟨f,k,first,u⟩ c,g,false⟩) rfl hg with ⟨g2,hg2,hb'⟩ | hb'
 rotate_left
 .
  rw [hb'] at hb1
  right
  have e':=Qj (lg:=⟨f,k,first,u⟩) (d:=d) ha g0 (by rw [hb1];exact uU)
  rw [hb1] at e'
  refine ⟨_,e',fell _ e',fun z=>⟨rest _ e' z,?_⟩⟩
  dsimp only
  rw [hwt,List.nil_append]
  have:=hold _ z (fun t ht=>ht)
  exact ⟨this.1,W,u,this.2,.inl rfl⟩
 rw [hb'] at hb1
 have g1:(sr ⟨f,k,first,u⟩ d c).2=0:=by rw [hb1]
 have hc1:tN ⟨f,k,first,u⟩ d c=aP (sr ⟨f,k,first,u⟩ d c).1 ((f:Int)+((u:Int)+(c.length:Int))) (dN 99 (first+((u:Int)+(c.length:Int))) (bW (c.length:Int))):=rfl
 rw [hb1] at hc1
 rcases oX (d:=⟨d.Now.take (f+u)++eH (first+(u:Int)) c++b0::C,d.Now.take (f+u)++eH (first+(u:Int)) c++b0::C,[],g2,false⟩) (i:=(f:Int)+((u:Int)+(c.length:Int))) (x:=dN 99 (first+((u:Int)+(c.length:Int))) (bW (c.length:Int))) rfl hg2 ae (by dsimp only;rw [List.length_append,Wg,List.length_cons];omega) (by rw [nP,jm];omega) with ⟨g3,hg3,hc'⟩ | hc'
 rotate_left
 .
  dsimp only at hc1 hc'
  rw [hc'] at hc1
  right
  have e':=Qk (lg:=⟨f,k,first,u⟩) (d:=d) ha g0 g1 (by rw [hc1];exact uU)
  rw [hc1] at e'
  refine ⟨_,e',fell _ e',fun z=>⟨rest _ e' z,?_⟩⟩
  exact ⟨VF,W,u,hN1,.inl rfl⟩
 have e:((f:Int)+((u:Int)+(c.length:Int))).toNat=f+u+c.length:=ae
 have hset:(d.Now.take (f+u)++eH (first+(u:Int)) c++b0::C).set (f+u+c.length) (full (dN 99 (first+((u:Int)+(c.length:Int))) (bW (c.length:Int))))=d.Now.take (f+u)++(iX (first+(u:Int)) c++C):=by
  rw [List.set_append_right _ _ ae,Wg,Nat.sub_self,List.set_cons_zero]
  unfold iX
  rw [show first+((u:Int)+(c.length:Int))=first+(u:Int)+(c.length:Int) by omega]
  simp only [List.append_assoc,List.singleton_append,List.nil_append]
 dsimp only at hc1 hc'
 rw [hc',e,hset] at hc1
 have g2':(tN ⟨f,k,first,u⟩ d c).2=0:=by rw [hc1]
 have hdd:vW ⟨f,k,first,u⟩ d c=aN (tN ⟨f,k,first,u⟩ d c).1:=rfl
 rw [hc1] at hdd
 rcases sA (d:=(⟨d.Now.take (f+u)++eH (first+(u:Int)) c++b0::C,d.Now.take (f+u)++(iX (first+(u:Int)) c++C),[]++[⟨(f:Int)+((u:Int)+(c.length:Int)),full (dN 99 (first+((u:Int)+(c.length:Int))) (bW (c.length:Int)))⟩],g3,false⟩:bZ)) rfl hg3 with ⟨g4,hg4,hd'⟩ | hd'
 rotate_left
 .
  dsimp only at hdd hd'
  rw [hd'] at hdd
  right
  have e':=Ql (lg:=⟨f,k,first,u⟩) (d:=d) ha g0 g1 g2' (by rw [hdd];exact uU)
  rw [hdd] at e'
  refine ⟨_,e',fell _ e',fun z=>⟨rest _ e' z,?_⟩⟩
  dsimp only
  show (oN z _ (_,0)).take f=_ /\ ∃W' u',gK ((oN z _ (_,0)).drop f) first W' u'/\_
  by_cases hbit:Qh z 0=true
  .
   unfold oN;dsimp only
   rw [if_pos hbit,e,hset];exact ⟨VG,_,_,Ye,.inr rfl⟩
  unfold oN;dsimp only
  rw [if_neg hbit];exact ⟨VF,_,_,hN1,.inl rfl⟩
 dsimp only at hdd hd'
 rw [hd'] at hdd
 left
 have e':=Gj (lg:=⟨f,k,first,u⟩) (d:=d) ha g0 g1 g2' (by rw [hdd])
 rw [hdd] at e'
 refine ⟨_,by rw [e'];dsimp only;congr 1,⟨?_,rfl,hg4,rfl,rfl⟩,VG,Ye,fun hf=>?_⟩
 .
  rw [e'] at hok
  exact ⟨hok.kl,hok.nl,hok.ks,hok.ns,Nat.zero_le _,fun t ht=>(by cases ht),hok.f0,hok.f1⟩
 have:=(live hf).2.2.1
 rw [e'] at this;exact this
end
end Go.Proofs.YtnmpibjlnninjaaGreatDoor
