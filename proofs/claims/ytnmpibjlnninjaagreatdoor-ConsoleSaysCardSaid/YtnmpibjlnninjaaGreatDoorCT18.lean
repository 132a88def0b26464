import Derived.Test.YtnmpibjlnninjaaGreatDoorCT17
namespace Go.Proofs.YtnmpibjlnninjaaGreatDoor
set_option linter.unusedVariables false
set_option linter.unusedSimpArgs false
set_option maxRecDepth 100000
set_option maxHeartbeats 90000000
section
open Go Go.RowKit
attribute [local irreducible] Run Rg Rq Qt Qa Stp Dg Do Dm bQ
section
variable {s:qN} {d:cq} {l:List Change} {e:Int} {n m:Nat}
end
theorem Bm (bB:Nat)(aE:Value)(st:fu)(bR:Value)(l:List Change)(aF:Nat)(au av ao:Value)(dk:cq)(aZ:Nat)(lg:Lg)(w:World)(own:List Nat)(H:HN w own [ag.box bB [pV aF,iV st.Epoch,iV st.Side,iV st.Size,iV st.First,pV aZ,aE] 132,ag.box aF [au,av,ao,iV dk.Fuse,.bool dk.Down] 120,ag.row 9 au dk.Kept,ag.row 9 av dk.Now,ag.row 196 ao dk.Wait,ag.box aZ [pV aF,iV lg.From,iV lg.Many,iV lg.First,iV lg.Next] 193] [ag.ls aE st.Rows,ag.ls bR l])(hD:gw dk.Now.length 60000 dk/\dk.Now.length<=200/\166<=dk.Now.length)(hS:0<=st.Epoch/\st.Epoch<=1000000000/\0<=st.Side/\st.Side<=1/\0<=lg.Many/\lg.Many<=1000/\1<=lg.First/\lg.First<=1000000000/\0<=lg.From/\lg.From<=1000/\0<=lg.Next/\lg.Next<=1000)(hl:st.Rows.length<=60)(hF:∀c∈st.Rows,iT c=0)(hn:l.length<=10000):RC Tryz.prog 62 #[pV bB,bR] H (fun _:Value×Value×Value×Value×Nat=>bQ (bL (mkS st lg) dk l).2.2) (fun z=>[ag.box bB [pV aF,iV (bL (mkS st lg) dk l).1.c.Epoch,iV (bL (mkS st lg) dk l).1.c.Side,iV (bL (mkS st lg) dk l).1.c.Size,iV (bL (mkS st lg) dk l).1.c.First,pV z.2.2.2.2,z.1] 132,ag.box aF [z.2.1,z.2.2.1,z.2.2.2.1,iV (bL (mkS st lg) dk l).2.1.Fuse,.bool (bL (mkS st lg) dk l).2.1.Down] 120,ag.row 9 z.2.1 (bL (mkS st lg) dk l).2.1.Kept,ag.row 9 z.2.2.1 (bL (mkS st lg) dk l).2.1.Now,ag.row 196 z.2.2.2.1 (bL (mkS st lg) dk l).2.1.Wait,ag.box z.2.2.2.2 [pV aF,iV (bL (mkS st lg) dk l).1.L.From,iV (bL (mkS st lg) dk l).1.L.Many,iV (bL (mkS st lg) dk l).1.L.First,iV (bL (mkS st lg) dk l).1.L.Next] 193]) (fun z=>[ag.ls z.1 (bL (mkS st lg) dk l).1.c.Rows]):=by
 have dD:=H.cap 2 rfl;have dE:=H.ck 2 rfl
 have ew:=H.cap 3 rfl;have ey:=H.ck 3 rfl
 have dF:=H.cap 4 rfl;have dG:=H.ck 4 rfl
 have j1:=H.aL 0 rfl
 have BV:=H.aL 1 rfl
 have hal:=yX hF;have hc0:gw dk.Now.length 70000 dk/\dk.Now.length<=200/\166<=dk.Now.length:=⟨hD.1.up ae,hD.2.1,hD.2.2⟩;have hc1:=Ps (s:=mkS st lg) hD.1 (Nat.le_trans hal ae);have hc2:=hc1.nl
 have hb0:gw dk.Now.length 80000 dk/\dk.Now.length<=100000:=⟨hD.1.up ae,ae⟩;have hb1:gw (cC (mkS st lg) dk).2.1.Now.length 80000 (cC (mkS st lg) dk).2.1/\(cC (mkS st lg) dk).2.1.Now.length<=100000:=⟨hc2.symm▸hc1.up ae,ae⟩
 refine R.eN H ?_
 refine C (62<l.length) ?_ ?_ <;> intro h1
 .
  have hz:((bL (mkS st lg) dk l).1.c,(bL (mkS st lg) dk l).2.1,(bL (mkS st lg) dk l).1.L,(bL (mkS st lg) dk l).2.2)=(st,dk,lg,2):=by (rw [Zr af];rfl)
  have hz0:(bL (mkS st lg) dk l).1.c=st:=congrArg (fun t_=>t_.1) hz
  rw [hz0]
  have hz1:(bL (mkS st lg) dk l).2.1=dk:=congrArg (fun t_=>t_.2.1) hz
  rw [hz1]
  have hz2:(bL (mkS st lg) dk l).1.L=lg:=congrArg (fun t_=>t_.2.2.1) hz
  rw [hz2]
  have hz3:(bL (mkS st lg) dk l).2.2=2:=congrArg (fun t_=>t_.2.2.2) hz
  rw [hz3]
  exact R.x1 (aE,au,av,ao,aZ) du [0]
 refine R.loop (fun i:Nat=>[(0,pV bB),(1,bR),(15,bR),(16,iV (l.length:Int)),(17,iV (i:Int))]) (fun i:Nat=>[ag.box bB [pV aF,iV st.Epoch,iV st.Side,iV st.Size,iV st.First,pV aZ,aE] 132,ag.box aF [au,av,ao,iV dk.Fuse,.bool dk.Down] 120,ag.row 9 au dk.Kept,ag.row 9 av dk.Now,ag.row 196 ao dk.Wait,ag.box aZ [pV aF,iV lg.From,iV lg.Many,iV lg.First,iV lg.Next] 193,ag.held w own]) (fun i:Nat=>[ag.ls aE st.Rows,ag.ls bR l]) (fun i:Nat=>i<=l.length/\jh (l.drop i)=jh l) (fun i:Nat=>l.length-i) 0 O (by exact ⟨ae,rfl⟩) (sF O) (dX du [0,1] O) ?_
 rintro i ⟨hi,HL⟩
 refine U ?_
 refine C (i<l.length) ?_ ?_ <;> intro h2
 .
  obtain ⟨x1,hx1⟩:=gE l i
  have Sk:=ku x1
  refine U ?_
  refine R.nb fun b1=>?_
  refine R.kc O O (fun w hw=>jX x1 w)<|U ?_
  refine C (iT x1=0) ?_ ?_ <;> intro h3
  .refine R.back (i+1) O (by exact ⟨ae,Ou HL hx1 ae⟩) ae (sF O) (cw fj [0,1] O)
  have hz:((bL (mkS st lg) dk l).1.c,(bL (mkS st lg) dk l).2.1,(bL (mkS st lg) dk l).1.L,(bL (mkS st lg) dk l).2.2)=(st,dk,lg,iT x1):=by (rw [Zs af (EJ HL hx1 af) af];rfl)
  have hz0:(bL (mkS st lg) dk l).1.c=st:=congrArg (fun t_=>t_.1) hz
  rw [hz0]
  have hz1:(bL (mkS st lg) dk l).2.1=dk:=congrArg (fun t_=>t_.2.1) hz
  rw [hz1]
  have hz2:(bL (mkS st lg) dk l).1.L=lg:=congrArg (fun t_=>t_.2.2.1) hz
  rw [hz2]
  have hz3:(bL (mkS st lg) dk l).2.2=iT x1:=congrArg (fun t_=>t_.2.2.2) hz
  rw [hz3]
  exact R.x1 (aE,au,av,ao,aZ) fj [0]
 have g0:jh l=0:=I3 HL ae;have ab0:=lX l st.Rows
 refine U ?_
 refine R.s O (s.aH du [0,1] _ _ _ O O O OO O O (fun w own hw H=>qL aE st.Rows bR l w own H ae) O) fun z1=>U ?_
 refine C (60<(bX st.Rows l).length) ?_ ?_ <;> intro h4
 .
  have hz:((bL (mkS st lg) dk l).1.c,(bL (mkS st lg) dk l).2.1,(bL (mkS st lg) dk l).1.L,(bL (mkS st lg) dk l).2.2)=(st,dk,lg,9):=by (rw [Um (s:=mkS st lg) af g0 (by exact .inl af)];rfl)
  have hz0:(bL (mkS st lg) dk l).1.c=st:=congrArg (fun t_=>t_.1) hz
  rw [hz0]
  have hz1:(bL (mkS st lg) dk l).2.1=dk:=congrArg (fun t_=>t_.2.1) hz
  rw [hz1]
  have hz2:(bL (mkS st lg) dk l).1.L=lg:=congrArg (fun t_=>t_.2.2.1) hz
  rw [hz2]
  have hz3:(bL (mkS st lg) dk l).2.2=9:=congrArg (fun t_=>t_.2.2.2) hz
  rw [hz3]
  exact R.x1 (aE,au,av,ao,aZ) fj [0]
 refine R.kc O O (fun w hw=>gZ aF au av ao dk w (hw.b 2 O) (hw.row 3 O) (hw.row 4 O) (hw.row 5 O))<|R.qg O (q.lG (r:=((dk.Now.length-102:Nat):Int)) O O) O<|C ((dk.Now.length-102)<(l.length+1)) ?_ ?_ <;> intro h5
 .
  have hz:((bL (mkS st lg) dk l).1.c,(bL (mkS st lg) dk l).2.1,(bL (mkS st lg) dk l).1.L,(bL (mkS st lg) dk l).2.2)=(st,dk,lg,9):=by (rw [Um (s:=mkS st lg) af g0 (by exact .inr ae)];rfl)
  have hz0:(bL (mkS st lg) dk l).1.c=st:=congrArg (fun t_=>t_.1) hz
  rw [hz0]
  have hz1:(bL (mkS st lg) dk l).2.1=dk:=congrArg (fun t_=>t_.2.1) hz
  rw [hz1]
  have hz2:(bL (mkS st lg) dk l).1.L=lg:=congrArg (fun t_=>t_.2.2.1) hz
  rw [hz2]
  have hz3:(bL (mkS st lg) dk l).2.2=9:=congrArg (fun t_=>t_.2.2.2) hz
  rw [hz3]
  exact R.x1 (aE,au,av,ao,aZ) fj [0]
 refine R.kc O O (fun w hw=>AY aZ aF lg w (hw.b 6 O) ae)<|C (lg.Many-lg.Next<((l.length+1):Int)) ?_ ?_ <;> intro h6
 .
  refine R.s O (s.aH [1,2,3,4,5,6,0,7] [0] _ _ _ O O O T7 O O (fun w own hw H=>Ho bB aE st aF au av ao dk aZ lg w own H af ae ae af) O) ?_
  rintro ⟨z2,z3,z4,z5,z6⟩
  dsimp only
  refine U ?_
  have hk:(cC (mkS st lg) dk).2.2=0->0<=(cC (mkS st lg) dk).1.L.From/\(cC (mkS st lg) dk).1.L.From<=1000000000/\0<=(cC (mkS st lg) dk).1.L.Next/\(cC (mkS st lg) dk).1.L.Next<=1000000000/\0<=(cC (mkS st lg) dk).1.L.First/\(cC (mkS st lg) dk).1.L.First<=4000000000000000000/\0<=(cC (mkS st lg) dk).1.L.Many/\(cC (mkS st lg) dk).1.L.Many<=1000000000:=fun hk1=>by have hk3:=Ss (cC (mkS st lg) dk).2.1 102 (((cC (mkS st lg) dk).2.1.Now.length:Int)-102).toNat ((mkS st lg).L.First+(mkS st lg).L.Many);rw [WG hk1];unfold Zj;dsimp only;have e1:(mkS st lg).L.First=lg.First:=rfl;have e2:(mkS st lg).L.Many=lg.Many:=rfl;refine ⟨?_,?_,?_,?_,?_,?_,?_,?_⟩ <;> omega
  refine U ?_
  refine C ((cC (mkS st lg) dk).2.2=0) ?_ ?_ <;> intro h7
  .
   (have hkk:=hk af)
   refine U ?_
   refine R.s O (s.aH [5,1,2,3,4,0,6,7] [2] _ _ _ O O O OU O O (fun w own hw H=>KQ z6 (cC (mkS st lg) dk).1.L bR l aF z3 z4 z5 (cC (mkS st lg) dk).2.1 w own H af af) O) ?_
   rintro ⟨z7,z8,z9⟩
   dsimp only
   refine U ?_
   refine C ((cQ (cC (mkS st lg) dk).1.L (cC (mkS st lg) dk).2.1 l).2.2=0) ?_ ?_ <;> intro h8
   .
    refine R.mp (fun _ hw=>hw.aO 6 _ O O) ?_
    have hz:((bL (mkS st lg) dk l).1.c,(bL (mkS st lg) dk l).2.1,(bL (mkS st lg) dk l).1.L,(bL (mkS st lg) dk l).2.2)=((⟨((cC (mkS st lg) dk).1.c).Epoch,(cC (mkS st lg) dk).1.c.Side,(cC (mkS st lg) dk).1.c.Size,(cC (mkS st lg) dk).1.c.First,bX st.Rows l⟩:fu),(cQ (cC (mkS st lg) dk).1.L (cC (mkS st lg) dk).2.1 l).2.1,(cQ (cC (mkS st lg) dk).1.L (cC (mkS st lg) dk).2.1 l).1,(cQ (cC (mkS st lg) dk).1.L (cC (mkS st lg) dk).2.1 l).2.2):=by (have hf:=Bd (s:=mkS st lg) (d:=dk) (l:=l) af g0 (by intro hh;rcases hh with hh|hh <;> first|(exact absurd hh af)|omega);(rw [Uo hf (by show lg.Many-lg.Next<_;omega) af af];rfl))
    have hz0:(bL (mkS st lg) dk l).1.c=(⟨((cC (mkS st lg) dk).1.c).Epoch,(cC (mkS st lg) dk).1.c.Side,(cC (mkS st lg) dk).1.c.Size,(cC (mkS st lg) dk).1.c.First,bX st.Rows l⟩:fu):=congrArg (fun t_=>t_.1) hz
    rw [hz0]
    have hz1:(bL (mkS st lg) dk l).2.1=(cQ (cC (mkS st lg) dk).1.L (cC (mkS st lg) dk).2.1 l).2.1:=congrArg (fun t_=>t_.2.1) hz
    rw [hz1]
    have hz2:(bL (mkS st lg) dk l).1.L=(cQ (cC (mkS st lg) dk).1.L (cC (mkS st lg) dk).2.1 l).1:=congrArg (fun t_=>t_.2.2.1) hz
    rw [hz2]
    have hz3:(bL (mkS st lg) dk l).2.2=(cQ (cC (mkS st lg) dk).1.L (cC (mkS st lg) dk).2.1 l).2.2:=congrArg (fun t_=>t_.2.2.2) hz
    rw [hz3]
    exact R.x1 (z1,z7,z8,z9,z6) [5,1,2,3,4,0,6] [0]
   have hz:((bL (mkS st lg) dk l).1.c,(bL (mkS st lg) dk l).2.1,(bL (mkS st lg) dk l).1.L,(bL (mkS st lg) dk l).2.2)=(((cC (mkS st lg) dk).1.c),(cQ (cC (mkS st lg) dk).1.L (cC (mkS st lg) dk).2.1 l).2.1,(cQ (cC (mkS st lg) dk).1.L (cC (mkS st lg) dk).2.1 l).1,(cQ (cC (mkS st lg) dk).1.L (cC (mkS st lg) dk).2.1 l).2.2):=by (have hf:=Bd (s:=mkS st lg) (d:=dk) (l:=l) af g0 (by intro hh;rcases hh with hh|hh <;> first|(exact absurd hh af)|omega);(rw [Up hf (by show lg.Many-lg.Next<_;omega) af af];rfl))
   have hz0:(bL (mkS st lg) dk l).1.c=(cC (mkS st lg) dk).1.c:=congrArg (fun t_=>t_.1) hz
   rw [hz0]
   have hz1:(bL (mkS st lg) dk l).2.1=(cQ (cC (mkS st lg) dk).1.L (cC (mkS st lg) dk).2.1 l).2.1:=congrArg (fun t_=>t_.2.1) hz
   rw [hz1]
   have hz2:(bL (mkS st lg) dk l).1.L=(cQ (cC (mkS st lg) dk).1.L (cC (mkS st lg) dk).2.1 l).1:=congrArg (fun t_=>t_.2.2.1) hz
   rw [hz2]
   have hz3:(bL (mkS st lg) dk l).2.2=(cQ (cC (mkS st lg) dk).1.L (cC (mkS st lg) dk).2.1 l).2.2:=congrArg (fun t_=>t_.2.2.2) hz
   rw [hz3]
   exact R.x1 (z2,z7,z8,z9,z6) [5,1,2,3,4,0,7] [0]
  have hz:((bL (mkS st lg) dk l).1.c,(bL (mkS st lg) dk l).2.1,(bL (mkS st lg) dk l).1.L,(bL (mkS st lg) dk l).2.2)=(((cC (mkS st lg) dk).1.c),(cC (mkS st lg) dk).2.1,(cC (mkS st lg) dk).1.L,(cC (mkS st lg) dk).2.2):=by (have hf:=Bd (s:=mkS st lg) (d:=dk) (l:=l) af g0 (by intro hh;rcases hh with hh|hh <;> first|(exact absurd hh af)|omega);(rw [Un hf (by show lg.Many-lg.Next<_;omega) af]))
  have hz0:(bL (mkS st lg) dk l).1.c=(cC (mkS st lg) dk).1.c:=congrArg (fun t_=>t_.1) hz
  rw [hz0]
  have hz1:(bL (mkS st lg) dk l).2.1=(cC (mkS st lg) dk).2.1:=congrArg (fun t_=>t_.2.1) hz
  rw [hz1]
  have hz2:(bL (mkS st lg) dk l).1.L=(cC (mkS st lg) dk).1.L:=congrArg (fun t_=>t_.2.2.1) hz
  rw [hz2]
  have hz3:(bL (mkS st lg) dk l).2.2=(cC (mkS st lg) dk).2.2:=congrArg (fun t_=>t_.2.2.2) hz
  rw [hz3]
  exact R.x1 (z2,z3,z4,z5,z6) [0,1,2,3,4,5,7] [0]
 skip
 refine U ?_
 refine R.s O (s.aH [6,2,3,4,5,0,1,7] [1] _ _ _ O O O OU O O (fun w own hw H=>KQ aZ lg bR l aF au av ao dk w own H ae af) O) ?_
 rintro ⟨kM,lA,z12⟩
 dsimp only
 refine U ?_
 refine C ((cQ lg dk l).2.2=0) ?_ ?_ <;> intro h9
 .
  refine R.mp (fun _ hw=>hw.aO 5 _ O O) ?_
  have hz:((bL (mkS st lg) dk l).1.c,(bL (mkS st lg) dk l).2.1,(bL (mkS st lg) dk l).1.L,(bL (mkS st lg) dk l).2.2)=((⟨st.Epoch,st.Side,st.Size,st.First,bX st.Rows l⟩:fu),(cQ lg dk l).2.1,(cQ lg dk l).1,(cQ lg dk l).2.2):=by (have hf:=Bd (s:=mkS st lg) (d:=dk) (l:=l) af g0 (by intro hh;rcases hh with hh|hh <;> first|(exact absurd hh af)|omega);(rw [Ur hf (by show ¬ lg.Many-lg.Next<_;omega) af];rfl))
  have hz0:(bL (mkS st lg) dk l).1.c=(⟨st.Epoch,st.Side,st.Size,st.First,bX st.Rows l⟩:fu):=congrArg (fun t_=>t_.1) hz
  rw [hz0]
  have hz1:(bL (mkS st lg) dk l).2.1=(cQ lg dk l).2.1:=congrArg (fun t_=>t_.2.1) hz
  rw [hz1]
  have hz2:(bL (mkS st lg) dk l).1.L=(cQ lg dk l).1:=congrArg (fun t_=>t_.2.2.1) hz
  rw [hz2]
  have hz3:(bL (mkS st lg) dk l).2.2=(cQ lg dk l).2.2:=congrArg (fun t_=>t_.2.2.2) hz
  rw [hz3]
  exact R.x1 (z1,kM,lA,z12,aZ) [5,1,2,3,4,0,6] [0]
 have hz:((bL (mkS st lg) dk l).1.c,(bL (mkS st lg) dk l).2.1,(bL (mkS st lg) dk l).1.L,(bL (mkS st lg) dk l).2.2)=(st,(cQ lg dk l).2.1,(cQ lg dk l).1,(cQ lg dk l).2.2):=by (have hf:=Bd (s:=mkS st lg) (d:=dk) (l:=l) af g0 (by intro hh;rcases hh with hh|hh <;> first|(exact absurd hh af)|omega);(rw [Ut hf (by show ¬ lg.Many-lg.Next<_;omega) af];rfl))
 have hz0:(bL (mkS st lg) dk l).1.c=st:=congrArg (fun t_=>t_.1) hz
 rw [hz0]
 have hz1:(bL (mkS st lg) dk l).2.1=(cQ lg dk l).2.1:=congrArg (fun t_=>t_.2.1) hz
 rw [hz1]
 have hz2:(bL (mkS st lg) dk l).1.L=(cQ lg dk l).1:=congrArg (fun t_=>t_.2.2.1) hz
 rw [hz2]
 have hz3:(bL (mkS st lg) dk l).2.2=(cQ lg dk l).2.2:=congrArg (fun t_=>t_.2.2.2) hz
 rw [hz3]
 exact R.x1 (aE,kM,lA,z12,aZ) [6,1,2,3,4,0,7] [0]
end
section
open Go Go.RowKit
structure jk (l:List ByteArray)(first:Int)(W:List (List Change))(u:Nat):Prop where
  sc:scan l first=(W,u)
  noC:∀ (j:Nat) s,u<=j->l[j]? = some s->bC s 0=99->¬ s.extract 1 5=cB (first+(j:Int))
  num:∀ (j:Nat) s,l[j]? = some s->(bC s 0=111∨bC s 0=99) -> ∃m:Int,0<=m/\m<=first+(j:Int)/\s.extract 1 5=cB m
theorem Dw {s:ByteArray}{n k:Int}(h:bC s 0=99->¬ s.extract 1 5=cB n):C8 s n k=false:=by
 rw [Bool.eq_false_iff];intro hc
 simp_all [C8,Bool.and_eq_true,decide_eq_true_eq]
theorem Hq:∀ (l:List ByteArray) (n:Int) (out:List (List Change)) (deed:List Change) (used pos:Nat),(∀ (j:Nat) s,l[j]? = some s->bC s 0=99->¬ s.extract 1 5=cB (n+(j:Int)))->jv l n out deed used pos=(out,used)
 | [],n,out,deed,used,pos,_=>rfl
 | s::r,n,out,deed,used,pos,h=>by
  rw [jv,if_neg (by rw [Dw (by have:=h 0 s rfl;grind)];decide)]
  split
  .
   refine Hq r _ _ _ _ _ fun j s' hs=>?_
   have:=h (j+1) s' az
   grind
  rfl
section
variable {l l':List ByteArray} {first:Int} {W:List (List Change)} {u:Nat} {c:List Change}
theorem jk.ule (h:jk l first W u):u<=l.length:=Mh h.sc
theorem jk.next (h:jk l first W u)(h0:0<=first)(hb:first+2*(l.length:Int)<4294967296):jk l (first+(l.length:Int)) [] 0:=by
 have key:∀ (j:Nat) s,l[j]? = some s->(bC s 0=111∨bC s 0=99) -> ∀i:Nat,i<=l.length->¬ s.extract 1 5=cB (first+(l.length:Int)+(i:Int)):=fun j s hs hk i hi e=>by
  obtain ⟨m,h1,h2,h3⟩:=h.num j s hs hk
  have hj:=(List.getElem?_eq_some_iff.1 hs).1
  have:=LY (a:=m) (b:=first+(l.length:Int)+(i:Int)) ae ae (h3.symm.trans e)
  omega
 refine ⟨?_,fun j s _ hs hk=>key j s hs (.inr hk) j az,fun j s hs hk=>?_⟩
 .
  cases l with
  | nil=>rfl
  | cons s r =>
   unfold scan
   have hs:(s::r)[0]? = some s:=rfl
   rw [jv,if_neg (by rw [Dw (fun hk=>by have:=key 0 s hs (.inr hk) 0 (Nat.zero_le _);grind)];decide),if_neg ?_]
   intro ho
   unfold Iv at ho;simp only [Bool.and_eq_true,decide_eq_true_eq] at ho
   exact key 0 s hs (.inl ho.1.2) 0 (Nat.zero_le _) az
 obtain ⟨m,h1,h2,h3⟩:=h.num j s hs hk
 grind
theorem jk.blank (first:Int)(h:∀s∈l,bC s 0=0):jk l first [] 0:=by
 refine ⟨?_,fun j s _ hs hk=>?_,fun j s hs hk=>?_⟩
 .
  cases l with
  | nil=>rfl
  | cons s r =>
   simp_all [scan,jv,List.mem_cons_self,if_neg,vW,ED]
 .grind
 grind
theorem jk.keep (h:jk l first W u)(h0:0<=first)(ht:l'.take u=l.take u)(hp:∀ (j:Nat) s,l'[j]? = some s->l[j]? = some s∨bC s 0=0∨(bC s 0=111/\s.extract 1 5=cB (first+(j:Int)))):jk l' first W u:=by
 have hn:∀ (j:Nat) s,u<=j->l'[j]? = some s->bC s 0=99->¬ s.extract 1 5=cB (first+(j:Int)):=fun j s hj hs hk=>by
  rcases hp j s hs with h1|h1|h1
  .exact h.noC j s hj h1 hk
  .omega
  omega
 refine ⟨?_,hn,fun j s hs hk=>?_⟩
 .
  have hcut:=Aw (l:=l) (l':=l') (first:=first) (by rw [h.sc];omega)
  rw [h.sc] at hcut
  rw [hcut]
  refine Hq _ _ _ _ _ _ fun j s hs hk=>?_
  rw [List.getElem?_drop] at hs
  have:=hn (u+j) s (Nat.le_add_right _ _) hs hk
  grind
 rcases hp j s hs with h1|h1|h1
 .exact h.num j s h1 hk
 .omega
 grind
theorem jk.after {r:List ByteArray}(h:jk l first W u)(h0:0<=first)(hb:first+(l.length:Int)<4294967296)(hc:∀x∈c,iT x=0)(hm:c.length<=62)(hlen:u+(c.length+1)+r.length=l.length)
 (hr:r=[] ∨ ∃r',r=full ⟨#[]⟩::r') (hrr:∀ (j:Nat) s,r[j]? = some s->l[u+(c.length+1)+j]? = some s∨bC s 0=0) :
 jk (l.take u++(kj (first+(u:Int)) c++r)) first (W++[c]) (u+c.length+1):=by
 have htl:(l.take u).length=u:=az
 have hds:=xm (first+(u:Int)) c
 have hcut:=Aw (l:=l) (l':=l.take u++(kj (first+(u:Int)) c++r)) (first:=first) (by rw [h.sc];grind)
 rw [h.sc] at hcut
 dsimp only at hcut
 rw [List.drop_append_of_le_length ae,List.drop_of_length_le ae,List.nil_append] at hcut
 have ZA:∀ (j:Nat) s,u+(c.length+1)<=j->(l.take u++(kj (first+(u:Int)) c++r))[j]? = some s->l[j]? = some s∨bC s 0=0:=fun j s hj hs=>by
  grind
 refine ⟨?_,fun j s hj hs hk=>?_,fun j s hs hk=>?_⟩
 .grind [kj,List.append_assoc,List.singleton_append,Ky,qG]
 .
  rcases ZA j s ae hs with h1|h1
  .exact h.noC j s ae h1 hk
  omega
 by_cases hj:j<u
 .
  rw [List.getElem?_append_left ae,List.getElem?_take_of_lt hj] at hs
  exact h.num j s hs hk
 by_cases hj2:j<u+(c.length+1)
 .
  rw [List.getElem?_append_right ae,htl,List.getElem?_append_left ae] at hs
  refine ⟨first+(j:Int),ae,ae,?_⟩
  unfold kj at hs
  by_cases hj3:j-u<c.length
  .
   rw [List.getElem?_append_left (by grind [iN])] at hs
   obtain ⟨x,hx⟩:∃x,c[j-u]? = some x:=⟨_,List.getElem?_eq_getElem hj3⟩
   rw [xc c _ _ x hx] at hs
   grind [iM,List.mem_of_getElem?,pR,mD]
  grind [List.getElem?_append_right,iN,List.getElem?_cons_zero,Option.some.injEq,pR,kG]
 rcases ZA j s ae hs with h1|h1
 .exact h.num j s h1 hk
 omega
end
theorem PQ (k:Int):∀ (w:List Turn) (i:Nat) (l:List ByteArray) (p:Nat) (s:ByteArray),((w.zipIdx i).foldl (pP k) l)[p]? = some s->l[p]? = some s ∨ ∃t∈w,t.At.toNat=p/\t.Data=s
 | [],i,l,p,s,h => .inl h
 | t::w,i,l,p,s,h=>by
  rw [List.zipIdx_cons,List.foldl_cons] at h
  rcases PQ k w (i+1) _ p s h with h1|⟨t',ht,h1⟩
  .grind [pP,List.getElem?_eq_some_iff,List.getElem?_set_self,List.mem_cons_self,List.getElem?_set_ne]
  grind
theorem SB {k:Int}{w:List Turn}{l:List ByteArray}{p:Nat}{s:ByteArray}(h:(mF k w l)[p]? = some s):l[p]? = some s ∨ ∃t∈w,t.At.toNat=p/\t.Data=s:=PQ k w 0 l p s h
theorem take_same {α:Type}{l l':List α}{q:Nat}(hl:l'.length=l.length)(h:∀p s,p<q->l'[p]? = some s->l[p]? = some s):l'.take q=l.take q:=by
 refine List.ext_getElem? fun p=>?_
 grind
theorem Bn:∀ (l:List Change) (p n:Int) (t:Turn),(∀x∈l,iT x=0)->t∈kO p n l -> ∃i:Nat,i<l.length/\t.At=p+(i:Int)/\bC t.Data 0=111/\t.Data.extract 1 5=cB (n+(i:Int))
 | [],_,_,t,_,h=>by cases h
 | c::l,p,n,t,hc,h=>by
  rcases List.mem_cons.1 h with rfl|h
  .
   obtain ⟨_,_,h3,h4⟩:=iM (hc c (List.mem_cons_self ..))
   have hs:(lI c).1.size<=41:=by rw [mD (hc c (List.mem_cons_self ..))];omega
   exact ⟨0,bA,bA,by dsimp only;rw [sy hs];decide,by dsimp only;rw [pR hs];simp⟩
  obtain ⟨i,h1,h2,h3,h4⟩:=Bn l (p+1) (n+1) t (fun x hx=>hc x (List.mem_cons_of_mem _ hx)) h
  exact ⟨i+1,aG,ae,h3,by rw [h4];congr 1;omega⟩
theorem SC {f k u cl n dn B:Nat}(h1:f+k=n)(h2:dn=n)(h3:(cl:Int)+1<=(k:Int)-(u:Int))(h4:B+1=dn-(f+u+cl)):u+(cl+1)+B=k:=ae
structure Rest (n:Nat)(d:cq):Prop where
  ok:gw n 0 d
  down:d.Down=false
  fuse : -1<=d.Fuse
  kn:d.Kept=d.Now
  wait:d.Wait=[]
theorem SD {n f k u:Nat}{first:Int}{d:cq}{W:List (List Change)}{c:List Change}(hR:Rest n d)(hfk:f+k=n)(h0:0<=first)(hb:first+(k:Int)<4294967296)(hL:jk (d.Now.drop f) first W u)(ha:mJ ⟨f,k,first,u⟩ c=0) :
 (∃e,cQ ⟨f,k,first,u⟩ d c=(⟨f,k,first,((u+c.length+1:Nat):Int)⟩,e,0)/\Rest n e/\e.Now.take f=d.Now.take f/\jk (e.Now.drop f) first (W++[c]) (u+c.length+1)/\(d.Fuse = -1->e.Fuse = -1)) ∨
 (∃e,cQ ⟨f,k,first,u⟩ d c=(⟨f,k,first,u⟩,e,10)/\¬ d.Fuse = -1 /\ ∀z,gw n 0 (eo e z)/\(mF z e.Wait e.Kept).take f=d.Now.take f /\ ∃W' u',jk ((mF z e.Wait e.Kept).drop f) first W' u'/\(W'=W∨W'=W++[c])):=by
 have hok:=yU (lg:=⟨f,k,first,u⟩) (c:=c) hR.ok
 obtain ⟨a1,a2,a3⟩:=nJ ha
 dsimp only at a2
 have hnl:=hR.ok.nl
 have hLK:WJ n 0 ⟨f,k,first,u⟩ d:=⟨hR.ok,by show (0:Int)<=(f:Int);omega,by show (0:Int)<=(k:Int);omega,by show (f:Int)+(k:Int)<=(n:Int);omega,by show (0:Int)<=(u:Int);omega⟩
 have hkn:=hR.kn;have hwt:=hR.wait
 have hdl0:(d.Now.drop f).length=k:=by rw [List.length_drop];omega
 have live:=fun (h:d.Fuse = -1)=>Sr (lg:=⟨f,k,first,u⟩) (c:=c) (gS:=f) (many:=k) (first:=first) (u:=u) (W:=W) hR.ok hR.down h rfl ae ae ae (by
  rw [show ((k:Nat):Int).toNat=k from rfl,pZ hR.down ae,List.take_of_length_le ae];exact hL.sc)
 obtain ⟨B,b0,hB,hS⟩:=Px (c:=c) hLK hR.down hR.fuse ha
 have hq:((f:Int)+(u:Int)).toNat=f+u:=ae
 dsimp only at hB hS
 rw [hq] at hB hS
 have hBl:(b0::B).length=d.Now.length-(f+u+c.length):=by rw [<- hB,List.length_drop]
 rw [List.length_cons] at hBl
 have ZB:∀ (j:Nat) s,(b0::B)[j]? = some s->d.Now[f+u+c.length+j]? = some s:=fun j s hs=>by rw [<- hB,List.getElem?_drop] at hs;exact hs
 have htl:(d.Now.take (f+u)).length=f+u:=by rw [List.length_take];omega
 generalize hC:(if (u:Int)+(c.length:Int)+1<(k:Int) then B.set 0 (full ⟨#[]⟩) else B)=C at hS
 have hCl:C.length=B.length:=by rw [<- hC];split <;> simp
 have ZC:∀ (j:Nat) s,C[j]? = some s->d.Now[f+u+(c.length+1)+j]? = some s∨bC s 0=0:=fun j s hs=>by
  have hold:∀s,B[j]? = some s->d.Now[f+u+(c.length+1)+j]? = some s:=fun s hs=>by
   have:=ZB (j+1) s (by simpa using hs)
   rwa [show f+u+c.length+(j+1)=f+u+(c.length+1)+j by omega] at this
  rw [<- hC] at hs
  split at hs
  .
   by_cases hj:j=0
   .
    subst hj
    have hlt:0<B.length:=by have:=(List.getElem?_eq_some_iff.1 hs).1;simpa using this
    rw [List.getElem?_set_self hlt] at hs
    injection hs with hs
    exact .inr (by rw [<- hs];exact qG)
   rw [List.getElem?_set_ne ae] at hs;exact .inl (hold s hs)
  exact .inl (hold s hs)
 have hCr:C=[] ∨ ∃r',C=full ⟨#[]⟩::r':=by
  by_cases hr:(u:Int)+(c.length:Int)+1<(k:Int)
  .
   right
   rw [if_pos hr] at hC
   cases B with
   | nil=>simp at hBl;omega
   | cons b1 B=>exact ⟨B,hC.symm⟩
  left
  exact List.eq_nil_of_length_eq_zero ae
 have hAO:(d.Now.take (f+u)++fy (first+(u:Int)) c).length=f+u+c.length:=by rw [List.length_append,htl,iN]
 have ZD:(d.Now.take (f+u)++fy (first+(u:Int)) c++b0::C).take f=d.Now.take f:=by
  rw [List.append_assoc,List.take_append_of_le_length ae,List.take_take,Nat.min_eq_left ae]
 have hdr:∀X:List ByteArray,(d.Now.take (f+u)++X).drop f=(d.Now.drop f).take u++X:=fun X=>by
  rw [List.drop_append_of_le_length ae,List.drop_take,Nat.add_sub_cancel_left]
 have hul:((d.Now.drop f).take u).length=u:=by rw [List.length_take];omega
 have hN1:jk ((d.Now.take (f+u)++fy (first+(u:Int)) c++b0::C).drop f) first W u:=by
  rw [List.append_assoc,hdr]
  refine hL.keep h0 (by rw [List.take_append_of_le_length ae,List.take_take,Nat.min_self]) fun j s hs=>?_
  by_cases hj:j<u
  .rw [List.getElem?_append_left ae,List.getElem?_take_of_lt hj] at hs;exact .inl hs
  rw [List.getElem?_append_right ae,hul] at hs
  by_cases hj2:j-u<c.length
  .
   rw [List.getElem?_append_left (by rw [iN];exact hj2)] at hs
   obtain ⟨x,hx⟩:∃x,c[j-u]? = some x:=⟨_,List.getElem?_eq_getElem hj2⟩
   rw [xc c _ _ x hx] at hs
   injection hs with hs
   have hz:=a3 x (List.mem_of_getElem? hx)
   obtain ⟨_,_,h3,h4⟩:=iM hz
   have hsz:(lI x).1.size<=41:=by rw [mD hz];omega
   refine .inr (.inr ⟨by rw [<- hs,sy hsz];decide,by rw [<- hs,pR hsz];congr 1;omega⟩)
  rw [List.getElem?_append_right (by rw [iN];omega),iN] at hs
  by_cases hj3:j-u-c.length=0
  .
   rw [hj3] at hs
   have:=ZB 0 s (by simpa using hs)
   left;rw [List.getElem?_drop];rwa [show f+j=f+u+c.length+0 by omega]
  obtain ⟨i,hi⟩:∃i,j-u-c.length=i+1:=⟨j-u-c.length-1,ae⟩
  rw [hi,List.getElem?_cons_succ] at hs
  rcases ZC i s hs with h1|h1
  .left;rw [List.getElem?_drop];rwa [show f+j=f+u+(c.length+1)+i by omega]
  exact .inr (.inl h1)
 have ZE:(d.Now.take (f+u)++(kj (first+(u:Int)) c++C)).take f=d.Now.take f:=by
  rw [List.take_append_of_le_length ae,List.take_take,Nat.min_eq_left ae]
 have hN2:jk ((d.Now.take (f+u)++(kj (first+(u:Int)) c++C)).drop f) first (W++[c]) (u+c.length+1):=by
  rw [hdr]
  have q1:first+((d.Now.drop f).length:Int)<4294967296:=by rw [hdl0];exact hb
  have q2:u+(c.length+1)+C.length=(d.Now.drop f).length:=by rw [hdl0,hCl];exact SC hfk hnl a2 hBl
  refine hL.after h0 q1 a3 a1 q2 hCr fun j s hs=>?_
  rcases ZC j s hs with h1|h1
  .left;rw [List.getElem?_drop];rwa [show f+(u+(c.length+1)+j)=f+u+(c.length+1)+j by omega]
  exact .inr h1
 have hold:∀ (T:List Turn) (z:Int),(∀t∈T,t∈uR ⟨f,k,first,u⟩ c)->(mF z T d.Kept).take f=d.Now.take f/\jk ((mF z T d.Kept).drop f) first W u:=fun T z hT=>by
  have hlen:(mF z T d.Kept).length=d.Now.length:=by rw [Ar,hkn]
  have hp:∀ (p:Nat) s,(mF z T d.Kept)[p]? = some s->d.Now[p]? = some s∨(f+u<=p/\(bC s 0=0∨(bC s 0=111/\s.extract 1 5=cB (first+((p-f:Nat):Int))))):=fun p s hs=>by
   rcases SB hs with h1|⟨t,ht,h1,h2⟩
   .left;rw [<- hkn];exact h1
   right
   have ht:=hT t ht
   unfold uR at ht
   rcases List.mem_append.1 ht with ht|ht
   .
    obtain ⟨i,g1,g2,g3,g4⟩:=Bn _ _ _ _ a3 ht
    dsimp only at g2 g4
    refine ⟨ae,.inr ⟨by rw [<- h2];exact g3,by rw [<- h2,g4];congr 1;omega⟩⟩
   split at ht
   .
    rw [List.mem_singleton.1 ht] at h1 h2
    dsimp only at h1 h2
    exact ⟨ae,.inl (by rw [<- h2];exact qG)⟩
   cases ht
  refine ⟨take_same hlen fun p s hp1 hs=>(hp p s hs).elim id fun h=>by omega,hL.keep h0 ?_ fun j s hs=>?_⟩
  .
   refine take_same (by rw [List.length_drop,List.length_drop,hlen]) fun p s hp1 hs=>?_
   rw [List.getElem?_drop] at hs ⊢
   exact (hp _ s hs).elim id fun h=>by omega
  rw [List.getElem?_drop] at hs ⊢
  rcases hp _ s hs with h1|⟨h1,h2|h2⟩
  .exact .inl h1
  .exact .inr (.inl h2)
  rw [Nat.add_sub_cancel_left] at h2;exact .inr (.inr h2)
 have fell:∀e:cq,cQ ⟨f,k,first,u⟩ d c=(⟨f,k,first,u⟩,e,10)->¬ d.Fuse = -1:=fun e he hf=>by
  have:=(live hf).1
  rw [he,ha] at this;cases this
 have rest:∀ (e:cq),cQ ⟨f,k,first,u⟩ d c=(⟨f,k,first,u⟩,e,10) -> ∀z,gw n 0 (eo e z):=fun e he z=>by
  rw [he] at hok;exact hok.restart z
 rcases hS with ⟨g,hg,hS⟩ | ⟨e,he,e1,e2,j,e3⟩
 rotate_left
 .
  right
  have e':=T2 (lg:=⟨f,k,first,u⟩) (d:=d) ha (by rw [he];exact xn)
  rw [he] at e'
  refine ⟨e,e',fell e e',fun z=>⟨rest e e' z,?_⟩⟩
  rw [e2,e3,hwt,List.nil_append]
  have:=hold (List.take j (uR ⟨f,k,first,u⟩ c)) z (fun t ht=>List.mem_of_mem_take ht)
  exact ⟨this.1,W,u,this.2,.inl rfl⟩
 have g0:(eC ⟨f,k,first,u⟩ d c).2=0:=by rw [hS]
 have hb1:uN ⟨f,k,first,u⟩ d c=aQ (eC ⟨f,k,first,u⟩ d c).1:=rfl
 rw [hS] at hb1
 rcases uQ (d:=⟨d.Kept,d.Now.take (f+u)++fy (first+(u:Int)) c++b0::C,d.Wait++uR ⟨f,k,first,u⟩ c,g,false⟩) rfl hg with ⟨g2,hg2,hb'⟩ | hb'
 rotate_left
 .
  rw [hb'] at hb1
  right
  have e':=T3 (lg:=⟨f,k,first,u⟩) (d:=d) ha g0 (by rw [hb1];exact xn)
  rw [hb1] at e'
  refine ⟨_,e',fell _ e',fun z=>⟨rest _ e' z,?_⟩⟩
  dsimp only
  rw [hwt,List.nil_append]
  have:=hold _ z (fun t ht=>ht)
  exact ⟨this.1,W,u,this.2,.inl rfl⟩
 rw [hb'] at hb1
 have g1:(uN ⟨f,k,first,u⟩ d c).2=0:=by rw [hb1]
 have hc1:vX ⟨f,k,first,u⟩ d c=aU (uN ⟨f,k,first,u⟩ d c).1 ((f:Int)+((u:Int)+(c.length:Int))) (eK 99 (first+((u:Int)+(c.length:Int))) (cB (c.length:Int))):=rfl
 rw [hb1] at hc1
 rcases qO (d:=⟨d.Now.take (f+u)++fy (first+(u:Int)) c++b0::C,d.Now.take (f+u)++fy (first+(u:Int)) c++b0::C,[],g2,false⟩) (i:=(f:Int)+((u:Int)+(c.length:Int))) (x:=eK 99 (first+((u:Int)+(c.length:Int))) (cB (c.length:Int))) rfl hg2 ae (by dsimp only;rw [List.length_append,hAO,List.length_cons];omega) (by rw [pQ,kG];omega) with ⟨g3,hg3,hc'⟩ | hc'
 rotate_left
 .
  dsimp only at hc1 hc'
  rw [hc'] at hc1
  right
  have e':=T4 (lg:=⟨f,k,first,u⟩) (d:=d) ha g0 g1 (by rw [hc1];exact xn)
  rw [hc1] at e'
  refine ⟨_,e',fell _ e',fun z=>⟨rest _ e' z,?_⟩⟩
  exact ⟨ZD,W,u,hN1,.inl rfl⟩
 have e:((f:Int)+((u:Int)+(c.length:Int))).toNat=f+u+c.length:=ae
 have hset:(d.Now.take (f+u)++fy (first+(u:Int)) c++b0::C).set (f+u+c.length) (full (eK 99 (first+((u:Int)+(c.length:Int))) (cB (c.length:Int))))=d.Now.take (f+u)++(kj (first+(u:Int)) c++C):=by
  rw [List.set_append_right _ _ ae,hAO,Nat.sub_self,List.set_cons_zero]
  unfold kj
  rw [show first+((u:Int)+(c.length:Int))=first+(u:Int)+(c.length:Int) by omega]
  simp only [List.append_assoc,List.singleton_append,List.nil_append]
 dsimp only at hc1 hc'
 rw [hc',e,hset] at hc1
 have g2':(vX ⟨f,k,first,u⟩ d c).2=0:=by rw [hc1]
 have hdd:yw ⟨f,k,first,u⟩ d c=aQ (vX ⟨f,k,first,u⟩ d c).1:=rfl
 rw [hc1] at hdd
 rcases uQ (d:=(⟨d.Now.take (f+u)++fy (first+(u:Int)) c++b0::C,d.Now.take (f+u)++(kj (first+(u:Int)) c++C),[]++[⟨(f:Int)+((u:Int)+(c.length:Int)),full (eK 99 (first+((u:Int)+(c.length:Int))) (cB (c.length:Int)))⟩],g3,false⟩:cq)) rfl hg3 with ⟨g4,hg4,hd'⟩ | hd'
 rotate_left
 .
  dsimp only at hdd hd'
  rw [hd'] at hdd
  right
  have e':=T5 (lg:=⟨f,k,first,u⟩) (d:=d) ha g0 g1 g2' (by rw [hdd];exact xn)
  rw [hdd] at e'
  refine ⟨_,e',fell _ e',fun z=>⟨rest _ e' z,?_⟩⟩
  dsimp only
  show (pP z _ (_,0)).take f=_ /\ ∃W' u',jk ((pP z _ (_,0)).drop f) first W' u'/\_
  by_cases hbit:C5 z 0=true
  .
   unfold pP;dsimp only
   rw [if_pos hbit,e,hset];exact ⟨ZE,_,_,hN2,.inr rfl⟩
  unfold pP;dsimp only
  rw [if_neg hbit];exact ⟨ZD,_,_,hN1,.inl rfl⟩
 dsimp only at hdd hd'
 rw [hd'] at hdd
 left
 have e':=I4 (lg:=⟨f,k,first,u⟩) (d:=d) ha g0 g1 g2' (by rw [hdd])
 rw [hdd] at e'
 refine ⟨_,by rw [e'];dsimp only;congr 1,⟨?_,rfl,hg4,rfl,rfl⟩,ZE,hN2,fun hf=>?_⟩
 .
  rw [e'] at hok
  exact ⟨hok.kl,hok.nl,hok.ks,hok.ns,Nat.zero_le _,fun t ht=>(by cases ht),hok.f0,hok.f1⟩
 have:=(live hf).2.2.1
 rw [e'] at this;exact this
end
end Go.Proofs.YtnmpibjlnninjaaGreatDoor
