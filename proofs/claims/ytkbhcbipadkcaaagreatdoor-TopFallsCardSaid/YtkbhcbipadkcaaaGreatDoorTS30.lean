import Derived.Test.YtkbhcbipadkcaaaGreatDoorTS29
import Derived.Test.YtkbhcbipadkcaaaGreatDoorRows
import Derived.Stop.LaidErr
import Derived.Lib.LaidTab
import Derived.MakeChecks
import Derived.Test.YtkbhcbipadkcaaaGreatDoorTie
import Derived.Test.YtkbhcbipadkcaaaGreatDoorCards
import Derived.LaidMore
import Derived.LaidLaws
import Derived.SevenTiedAt
import Derived.Stop.Joined
/-
  behind many falls, one behind the other, what was done is there. No condition: the library's table and its error are tied to the program's text.
-/
namespace Go.Proofs.YtkbhcbipadkcaaaGreatDoor
set_option linter.unusedVariables false
set_option linter.unusedSimpArgs false
set_option maxRecDepth 100000
set_option maxHeartbeats 90000000
section
open Go Go.RowKit
attribute [local irreducible] bH cU aY kx dH dNew cp
theorem sr (b_k:Nat)(po pq pw px:Value)(OC:Nat)(k:jM)(w:World)(own:List Nat)(H:HN w own [ag.box b_k [.pointer (some ⟨OC,0,none⟩),po,pq,pw,px,iV k.R.af,iV k.R.ah] 78] [ag.ls po k.R.ao,ag.ls pq k.R.Things,ag.ls pw k.R.Held,ag.ls px k.R.Notes])(hk:Ok k.R):RC Tryz.prog 20 #[.pointer (some ⟨b_k,0,none⟩)] H (fun z:Value×Value×Value×Value×Value×Value×Value×Value => .agg #[z.2.2.2.2.1,z.2.2.2.2.2.1,z.2.2.2.2.2.2.1,z.2.2.2.2.2.2.2,iV k.R.af,iV k.R.ah]) (fun z=>[ag.box b_k [.pointer (some ⟨OC,0,none⟩),z.1,z.2.1,z.2.2.1,z.2.2.2.1,iV k.R.af,iV k.R.ah] 78]) (fun z=>[ag.ls z.1 k.R.ao,ag.ls z.2.1 k.R.Things,ag.ls z.2.2.1 k.R.Held,ag.ls z.2.2.2.1 k.R.Notes,ag.ls z.2.2.2.2.1 k.R.ao,ag.ls z.2.2.2.2.2.1 k.R.Things,ag.ls z.2.2.2.2.2.2.1 k.R.Held,ag.ls z.2.2.2.2.2.2.2 k.R.Notes]):=by
 have uX:=H.cq 0 rfl
 have tA:=H.cq 1 rfl
 have yr:=H.cq 2 rfl
 have uY:=H.cq 3 rfl
 refine R.bF [(0,.pointer (some ⟨b_k,0,none⟩))] Tryz.func20 O O O O H<|R.reg O<|R.s O (s.alloc dq O O) fun b1=>?_
 refine R.nil<|R.reg O<|R.u 1 O<|R.q (q.bR O) O<|R.q (q.aP O nE O) O<|R.q (q.G4 (ds:=[po,pq,pw,px,iV k.R.af,iV k.R.ah]) 1 O O aj O) O<|R.s O (s.aT [0,1,2] bJ _ _ _ O O O NR O O (fun w own hw H=>zU po pq pw px k.R w own H ‹_›) O) ?_
 rintro ⟨z1,z2,z3,z4⟩
 dsimp only
 refine R.s O (s.fP 0 _ O O O (fun _ _=>rfl) (.inl aj) (fun w hw=>(ae (Sl.one (hw.bO 0 O)) (ae (Sl.one (hw.bO 1 O)) (ae (Sl.one (hw.bO 2 O)) (ae (Sl.one (hw.bO 3 O)) (ae O (ae O aO))))))) O O O) fun _=>?_
 exact R.nil<|R.w1 (po,pq,pw,px,z1,z2,z3,z4) [1,2] [4,5,6,7,0,1,2,3] O Tryz.results20 (RV.cell 0 O O aj) O O O O
theorem En (bU bK bL bM:Value)(r:aB)(LN:Nat)(a:ft)(w:World)(own:List Nat)(H:HN w own [ag.box LN (Am a) 36] [ag.ls bU r.ao,ag.ls bK r.Things,ag.ls bL r.Held,ag.ls bM r.Notes])(hk:Ok r):RC Tryz.prog 50 #[.agg #[bU,bK,bL,bM,iV r.af,iV r.ah],.pointer (some ⟨LN,0,none⟩)] H (fun z:Value×Value×Value×Value => .tuple #[.agg #[z.1,z.2.1,z.2.2.1,z.2.2.2,iV (cp r a).1.af,iV (cp r a).1.ah],df (cp r a).2]) (fun _=>[]) (fun z=>[ag.ls z.1 (cp r a).1.ao,ag.ls z.2.1 (cp r a).1.Things,ag.ls z.2.2.1 (cp r a).1.Held,ag.ls z.2.2.2 (cp r a).1.Notes]):=by
 have eK:=H.cq 0 rfl
 have dJ:=H.cq 1 rfl
 have fG:=H.cq 2 rfl
 have eL:=H.cq 3 rfl
 refine R.bF [(0,.agg #[bU,bK,bL,bM,iV r.af,iV r.ah]),(1,.pointer (some ⟨LN,0,none⟩))] Tryz.func50 O O O O H<|R.reg O<|R.s O (s.box O O O) fun b1=>?_
 refine R.s O (s.alloc dq O O) fun b2=>?_
 refine R.u 1 O<|R.nil<|R.reg O<|R.q (q.cT 1 O O aj) O<|R.q (q.cT 2 O O Aq) O<|R.s O (s.aT bJ bJ _ _ _ O O O Jd O O (fun w own hw H=>BH bU bK bL bM r a w own H ‹_›) O) ?_
 rintro ⟨z1,z2,z3,z4⟩
 dsimp only
 refine R.u 2 O<|R.s O (s.fP 0 _ O O O (fun _ _=>rfl) (.inl aj) (fun w hw=>(ae (Sl.one (hw.bO 0 O)) (ae (Sl.one (hw.bO 1 O)) (ae (Sl.one (hw.bO 2 O)) (ae (Sl.one (hw.bO 3 O)) (ae O (ae O aO))))))) O O O) fun _=>?_
 refine R.u 1 O<|R.nil ?_
 have hz:cp r a=(((cp r a).1),(cp r a).2):=by (rfl)
 rw [hz]
 exact R.w2 (z1,z2,z3,z4) [3] bJ O Tryz.results50 (RV.cell 0 O O aj) (RV.tmp O) O O O (dy O O)
theorem Nr (b_k:Nat)(po pq pw px:Value)(k:jM)(LN:Nat)(a:ft)(cG:Nat)(aM:Value)(st:kY)(aH:Nat)(ay aF av:Value)(dk:cw)(bC:Nat)(lg:Lg)(w:World)(own:List Nat)(H:HN w own [ag.box b_k [.pointer (some ⟨cG,0,none⟩),po,pq,pw,px,iV k.R.af,iV k.R.ah] 78,ag.box LN (Am a) 36,ag.box cG [.pointer (some ⟨aH,0,none⟩),iV st.Epoch,iV st.Side,iV st.Size,iV st.First,.pointer (some ⟨bC,0,none⟩),aM] 133,ag.box aH [ay,aF,av,iV dk.Fuse,.bool dk.Down] 112,ag.row 9 ay dk.Kept,ag.row 9 aF dk.Now,ag.row 114 av dk.Wait,ag.box bC [.pointer (some ⟨aH,0,none⟩),iV lg.From,iV lg.Many,iV lg.First,iV lg.Next] 198] [ag.ls po k.R.ao,ag.ls pq k.R.Things,ag.ls pw k.R.Held,ag.ls px k.R.Notes,ag.ls aM st.Rows,ew])(hD:fM dk.Now.length 60000 dk/\dk.Now.length<=200/\166<=dk.Now.length)(hS:0<=st.Epoch/\st.Epoch<=1000000000/\0<=st.Side/\st.Side<=1/\0<=lg.Many/\lg.Many<=1000/\1<=lg.First/\lg.First<=1000000000/\0<=lg.From/\lg.From<=1000/\0<=lg.Next/\lg.Next<=1000)(hl:st.Rows.length<=60)(hF:∀c∈st.Rows,iL c=0)(hk:Ok k.R)(hI:Inv k.R)(hz:(cp k.R a).2=0->Ok (cp k.R a).1):RC Tryz.prog 49 #[.pointer (some ⟨b_k,0,none⟩),.func (.func 50) #[] #[.pointer (some ⟨LN,0,none⟩)]] H (fun _:Value×Value×Value×Value×Value×Value×Value×Value×Nat=>df (dL k st dk lg (cp k.R a)).2.2.2.2) (fun z=>[ag.box b_k [.pointer (some ⟨cG,0,none⟩),z.1,z.2.1,z.2.2.1,z.2.2.2.1,iV (dL k st dk lg (cp k.R a)).1.R.af,iV (dL k st dk lg (cp k.R a)).1.R.ah] 78,ag.box cG [.pointer (some ⟨aH,0,none⟩),iV (dL k st dk lg (cp k.R a)).2.1.Epoch,iV (dL k st dk lg (cp k.R a)).2.1.Side,iV (dL k st dk lg (cp k.R a)).2.1.Size,iV (dL k st dk lg (cp k.R a)).2.1.First,.pointer (some ⟨z.2.2.2.2.2.2.2.2,0,none⟩),z.2.2.2.2.1] 133,ag.box aH [z.2.2.2.2.2.1,z.2.2.2.2.2.2.1,z.2.2.2.2.2.2.2.1,iV (dL k st dk lg (cp k.R a)).2.2.1.Fuse,.bool (dL k st dk lg (cp k.R a)).2.2.1.Down] 112,ag.row 9 z.2.2.2.2.2.1 (dL k st dk lg (cp k.R a)).2.2.1.Kept,ag.row 9 z.2.2.2.2.2.2.1 (dL k st dk lg (cp k.R a)).2.2.1.Now,ag.row 114 z.2.2.2.2.2.2.2.1 (dL k st dk lg (cp k.R a)).2.2.1.Wait,ag.box z.2.2.2.2.2.2.2.2 [.pointer (some ⟨aH,0,none⟩),iV (dL k st dk lg (cp k.R a)).2.2.2.1.From,iV (dL k st dk lg (cp k.R a)).2.2.2.1.Many,iV (dL k st dk lg (cp k.R a)).2.2.2.1.First,iV (dL k st dk lg (cp k.R a)).2.2.2.1.Next] 198]) (fun z=>[ag.ls z.1 (dL k st dk lg (cp k.R a)).1.R.ao,ag.ls z.2.1 (dL k st dk lg (cp k.R a)).1.R.Things,ag.ls z.2.2.1 (dL k st dk lg (cp k.R a)).1.R.Held,ag.ls z.2.2.2.1 (dL k st dk lg (cp k.R a)).1.R.Notes,ag.ls z.2.2.2.2.1 (dL k st dk lg (cp k.R a)).2.1.Rows]):=by
 have dZ:=H.cap 4 rfl;have d9:=H.cE 4 rfl
 have fh:=H.cap 5 rfl;have fj:=H.cE 5 rfl
 have ea:=H.cap 6 rfl;have ec:=H.cE 6 rfl
 have uX:=H.cq 0 rfl
 have tA:=H.cq 1 rfl
 have yr:=H.cq 2 rfl
 have uY:=H.cq 3 rfl
 have tX:=H.cq 4 rfl
 have g0:=lj hI;have g1:=vM hI a;have g2:=Af (r:=k.R) a;have g3:=fun (h:(cp k.R a).2=0)=>lj (g1 h).1
 refine R.bF [(0,.pointer (some ⟨b_k,0,none⟩)),(1,.func (.func 50) #[] #[.pointer (some ⟨LN,0,none⟩)])] Tryz.func49 O O O O H<|R.reg O<|R.u 1 O<|R.nil<|R.reg O<|R.u 2 O<|R.q (q.bR O) O<|R.q (q.aP O nE O) O<|R.q (q.G4 (ds:=[po,pq,pw,px,iV k.R.af,iV k.R.ah]) 0 O O aj O) O<|R.s O (s.aT bZ bJ _ _ _ O O O NR O O (fun w own hw H=>zU po pq pw px k.R w own H ‹_›) O) ?_
 rintro ⟨z1,z2,z3,z4⟩
 dsimp only
 refine R.s O (s.aT [1,0,2,3,4,5,6,7,8] bJ _ _ _ O O O RX O O (fun w own hw H=>En z1 z2 z3 z4 k.R LN a w own H ‹_›) O) ?_
 rintro ⟨z5,z6,z7,z8⟩
 dsimp only
 refine R.u 3 O<|R.s O (s.alloc dq O O) fun b1=>?_
 refine R.s O (s.fP 0 _ O O O (fun _ _=>rfl) (.inl aj) (fun w hw=>(ae (Sl.one (hw.bO 0 O)) (ae (Sl.one (hw.bO 1 O)) (ae (Sl.one (hw.bO 2 O)) (ae (Sl.one (hw.bO 3 O)) (ae O (ae O aO))))))) O O O) fun _=>?_
 refine R.u 1 O<|R.nil<|R.reg O<|R.u 1 O<|?_
 by_cases h1:(cp k.R a).2=0
 .
  have hk2:=hz ‹_›;have hI2:=(g1 ‹_›).1;have g4:(gR (mK (bf k.R) (bf (cp k.R a).1))).length<=59:=(g1 ‹_›).2;have g5:=g3 ‹_›
  refine R.q (q.dx O O Tryz.underlying38) O<|R.nil<|R.aD O O<|R.fJ (fuel:=9) bZ O O mixed O<|D.q (i:=0) O (aA bZ sA O) O (q.mv O) O<|D.q (i:=1) O (aA bZ sA O) O (q.bR O) O<|D.q (i:=2) O (aA bZ sA O) O (q.aP O nE O) O<|D.q (i:=3) O (aA bZ sA O) O (q.G4 (ds:=[po,pq,pw,px,iV k.R.af,iV k.R.ah]) 1 O O aj O) O<|D.q (i:=5) O (aA bZ sA O) O (q.cT 0 O O aj) O<|D.one (i:=4) O<|Do.s (s.aT bZ [8,9,10,11,13] _ _ _ O O O Cx O O (fun w own hw H=>qp po pq pw px k.R w own H ‹_› ‹_›) O) (fun _=>(aA Cg sA O)) O fun z12=>?_
  refine D.one (i:=6) O<|Do.s (s.aT [0,1,2,3,4,5,6,7,8,9] [0,1,2,3,13] _ _ _ O O O Cx O O (fun w own hw H=>qp z5 z6 z7 z8 (cp k.R a).1 w own H ‹_› ‹_›) O) (fun _=>(aA [2,3,4,5,6,7,8,9,10] sA O)) O fun py=>?_
  refine D.one (i:=7) O<|Do.s (s.EJ (Bl:=[ag.row 117 z12 (bf k.R),ag.row 117 py (bf (cp k.R a).1)]) (Fl:=[ag.ls z12 (bf k.R),ag.ls py (bf (cp k.R a).1)]) [1,0,2,3,4,5,6,7,8,9,10] [0,1] (fun kQ:Value=>kQ) (fun kQ:Value=>[ag.row 117 kQ (gR (mK (bf k.R) (bf (cp k.R a).1)))]) O O (qw (qw wC)) O OW O O (fun w own hw H=>Eg z12 (bf k.R) py (bf (cp k.R a).1) w own H (by omega)) O) (fun _=>(aA [3,4,5,6,7,8,9,10,11] sA O)) O fun yv=>?_
  refine D.q (i:=8) O (aA [3,4,5,6,7,8,9,10,11] sA O) O (q.as O) O<|D.done<|R.reg O<|R.u 1 O<|R.q (q.len' (bD 0 O) O Tryz.underlying34) O<|?_
  by_cases h2:0<(gR (mK (bf k.R) (bf (cp k.R a).1))).length
  .
   refine R.q (q.eM O O) O<|R.nil<|R.az O O<|R.reg O<|R.u 1 O<|R.q (q.bR O) O<|R.q (q.aP O Hh O) O<|R.q (q.ld 4 O O jo O) O<|R.u 1 O<|R.s O (s.pre (fun _ hw=>hw.cW 0 _ O O) (s.aT [4,5,6,7,8,9,0,1,2,3,10] [13,0] _ _ _ O O O NT O O (fun w own hw H=>xn cG aM st yv (gR (mK (bf k.R) (bf (cp k.R a).1))) aH ay aF av dk bC lg w own H ‹_› ‹_› (by omega) ‹_› (by omega)) O)) ?_
   rintro ⟨Gt,Ce,z17,vj,xm⟩
   dsimp only
   refine R.u 1 O<|R.nil<|R.reg O<|R.u 1 O<|?_
   by_cases h3:(bH (mkS st lg) dk (gR (mK (bf k.R) (bf (cp k.R a).1)))).2.2=0
   .
    refine R.q (q.lP O O Tryz.underlying38) O<|R.nil<|R.az O O<|R.reg O<|R.u 1 O<|R.q (q.cT 8 O O aj) O<|R.q (q.bR O) O<|R.q (q.aP O nE O) O<|R.s O (s.fP 9 _ O O O (fun _ _=>rfl) (.inl aj) (fun w hw=>(ae (Sl.one (hw.bO 2 O)) (ae (Sl.one (hw.bO 3 O)) (ae (Sl.one (hw.bO 4 O)) (ae (Sl.one (hw.bO 5 O)) (ae O (ae O aO))))))) O O O) fun _=>?_
    refine R.nil<|R.reg O<|R.u 2 O<|R.nil ?_
    have hz:dL k st dk lg (cp k.R a)=((⟨(cp k.R a).1⟩:jM),(bH (mkS st lg) dk (gR (mK (bf k.R) (bf (cp k.R a).1)))).1.c,(bH (mkS st lg) dk (gR (mK (bf k.R) (bf (cp k.R a).1)))).2.1,(bH (mkS st lg) dk (gR (mK (bf k.R) (bf (cp k.R a).1)))).1.L,(bH (mkS st lg) dk (gR (mK (bf k.R) (bf (cp k.R a).1)))).2.2):=by (rw [Oz (k:=k) (sc:=st) (d:=dk) (lg:=lg) (z:=cp k.R a) ‹_› ‹_› ‹_›];done)
    rw [hz]
    exact R.w1 (z5,z6,z7,z8,Gt,Ce,z17,vj,xm) [9,0,1,2,3,4,5,10] [2,3,4,5,0] O Tryz.results49 (RV.tmp O) O O O O
   refine R.q (q.jx O O Tryz.underlying38) O<|R.nil<|R.aD O O<|R.reg O<|R.u 2 O<|R.nil ?_
   have hz:dL k st dk lg (cp k.R a)=(k,(bH (mkS st lg) dk (gR (mK (bf k.R) (bf (cp k.R a).1)))).1.c,(bH (mkS st lg) dk (gR (mK (bf k.R) (bf (cp k.R a).1)))).2.1,(bH (mkS st lg) dk (gR (mK (bf k.R) (bf (cp k.R a).1)))).1.L,(bH (mkS st lg) dk (gR (mK (bf k.R) (bf (cp k.R a).1)))).2.2):=by (rw [OA (k:=k) (sc:=st) (d:=dk) (lg:=lg) (z:=cp k.R a) ‹_› ‹_› ‹_›];done)
   rw [hz]
   exact R.w1 (po,pq,pw,px,Gt,Ce,z17,vj,xm) [9,0,1,2,3,4,5,10] [10,11,12,13,0] O Tryz.results49 (RV.tmp O) O O O O
  refine R.q (q.ey O O) O<|R.nil<|R.aD O O<|R.reg O<|R.u 1 O<|R.q (q.lP O O Tryz.underlying38) O<|R.nil<|R.az O O<|R.reg O<|R.u 1 O<|R.q (q.cT 3 O O aj) O<|R.q (q.bR O) O<|R.q (q.aP O nE O) O<|R.s O (s.fP 4 _ O O O (fun _ _=>rfl) (.inl aj) (fun w hw=>(ae (Sl.one (hw.bO 0 O)) (ae (Sl.one (hw.bO 1 O)) (ae (Sl.one (hw.bO 2 O)) (ae (Sl.one (hw.bO 3 O)) (ae O (ae O aO))))))) O O O) fun _=>?_
  refine R.nil<|R.reg O<|R.u 2 O<|R.nil ?_
  have hz:dL k st dk lg (cp k.R a)=((⟨(cp k.R a).1⟩:jM),st,dk,lg,(cp k.R a).2):=by (rw [Oy (k:=k) (sc:=st) (d:=dk) (lg:=lg) (z:=cp k.R a) ‹_› ‹_›];done)
  rw [hz]
  exact R.w1 (z5,z6,z7,z8,aM,ay,aF,av,bC) [4,5,6,7,8,9,10,11] [0,1,2,3,12] O Tryz.results49 (RV.tmp O) O O O O
 refine R.q (q.dX O O Tryz.underlying38) O<|R.nil<|R.az O O<|R.reg O<|R.u 2 O<|R.nil ?_
 have hz:dL k st dk lg (cp k.R a)=(k,st,dk,lg,(cp k.R a).2):=by (rw [Ox (k:=k) (sc:=st) (d:=dk) (lg:=lg) (z:=cp k.R a) ‹_›];done)
 rw [hz]
 exact R.w1 (po,pq,pw,px,aM,ay,aF,av,bC) su [8,9,10,11,12] O Tryz.results49 (RV.tmp O) O O O O
theorem yt (b_k:Nat)(po pq pw px:Value)(k:jM)(a:ft)(cG:Nat)(aM:Value)(st:kY)(aH:Nat)(ay aF av:Value)(dk:cw)(bC:Nat)(lg:Lg)(w:World)(own:List Nat)(H:HN w own [ag.box b_k [.pointer (some ⟨cG,0,none⟩),po,pq,pw,px,iV k.R.af,iV k.R.ah] 78,ag.box cG [.pointer (some ⟨aH,0,none⟩),iV st.Epoch,iV st.Side,iV st.Size,iV st.First,.pointer (some ⟨bC,0,none⟩),aM] 133,ag.box aH [ay,aF,av,iV dk.Fuse,.bool dk.Down] 112,ag.row 9 ay dk.Kept,ag.row 9 aF dk.Now,ag.row 114 av dk.Wait,ag.box bC [.pointer (some ⟨aH,0,none⟩),iV lg.From,iV lg.Many,iV lg.First,iV lg.Next] 198] [ag.ls po k.R.ao,ag.ls pq k.R.Things,ag.ls pw k.R.Held,ag.ls px k.R.Notes,ag.ls aM st.Rows,ew])(hD:fM dk.Now.length 60000 dk/\dk.Now.length<=200/\166<=dk.Now.length)(hS:0<=st.Epoch/\st.Epoch<=1000000000/\0<=st.Side/\st.Side<=1/\0<=lg.Many/\lg.Many<=1000/\1<=lg.First/\lg.First<=1000000000/\0<=lg.From/\lg.From<=1000/\0<=lg.Next/\lg.Next<=1000)(hl:st.Rows.length<=60)(hF:∀c∈st.Rows,iL c=0)(hk:Ok k.R)(hI:Inv k.R)(hz:(cp k.R a).2=0->Ok (cp k.R a).1):RC Tryz.prog 18 #[.pointer (some ⟨b_k,0,none⟩),.agg #[.string a.Kind,.string a.S,iV a.P.aC,iV a.P.Slot,iV a.Q.aC,iV a.Q.Slot,iV a.A,iV a.B,iV a.N,.int .u64 a.K,a.cv]] H (fun _:Value×Value×Value×Value×Value×Value×Value×Value×Nat=>df (dL k st dk lg (cp k.R a)).2.2.2.2) (fun z=>[ag.box b_k [.pointer (some ⟨cG,0,none⟩),z.1,z.2.1,z.2.2.1,z.2.2.2.1,iV (dL k st dk lg (cp k.R a)).1.R.af,iV (dL k st dk lg (cp k.R a)).1.R.ah] 78,ag.box cG [.pointer (some ⟨aH,0,none⟩),iV (dL k st dk lg (cp k.R a)).2.1.Epoch,iV (dL k st dk lg (cp k.R a)).2.1.Side,iV (dL k st dk lg (cp k.R a)).2.1.Size,iV (dL k st dk lg (cp k.R a)).2.1.First,.pointer (some ⟨z.2.2.2.2.2.2.2.2,0,none⟩),z.2.2.2.2.1] 133,ag.box aH [z.2.2.2.2.2.1,z.2.2.2.2.2.2.1,z.2.2.2.2.2.2.2.1,iV (dL k st dk lg (cp k.R a)).2.2.1.Fuse,.bool (dL k st dk lg (cp k.R a)).2.2.1.Down] 112,ag.row 9 z.2.2.2.2.2.1 (dL k st dk lg (cp k.R a)).2.2.1.Kept,ag.row 9 z.2.2.2.2.2.2.1 (dL k st dk lg (cp k.R a)).2.2.1.Now,ag.row 114 z.2.2.2.2.2.2.2.1 (dL k st dk lg (cp k.R a)).2.2.1.Wait,ag.box z.2.2.2.2.2.2.2.2 [.pointer (some ⟨aH,0,none⟩),iV (dL k st dk lg (cp k.R a)).2.2.2.1.From,iV (dL k st dk lg (cp k.R a)).2.2.2.1.Many,iV (dL k st dk lg (cp k.R a)).2.2.2.1.First,iV (dL k st dk lg (cp k.R a)).2.2.2.1.Next] 198]) (fun z=>[ag.ls z.1 (dL k st dk lg (cp k.R a)).1.R.ao,ag.ls z.2.1 (dL k st dk lg (cp k.R a)).1.R.Things,ag.ls z.2.2.1 (dL k st dk lg (cp k.R a)).1.R.Held,ag.ls z.2.2.2.1 (dL k st dk lg (cp k.R a)).1.R.Notes,ag.ls z.2.2.2.2.1 (dL k st dk lg (cp k.R a)).2.1.Rows]):=by
 have dZ:=H.cap 3 rfl;have d9:=H.cE 3 rfl
 have fh:=H.cap 4 rfl;have fj:=H.cE 4 rfl
 have ea:=H.cap 5 rfl;have ec:=H.cE 5 rfl
 have uX:=H.cq 0 rfl
 have tA:=H.cq 1 rfl
 have yr:=H.cq 2 rfl
 have uY:=H.cq 3 rfl
 have tX:=H.cq 4 rfl
 refine R.bF [(0,.pointer (some ⟨b_k,0,none⟩)),(1,.agg #[.string a.Kind,.string a.S,iV a.P.aC,iV a.P.Slot,iV a.Q.aC,iV a.Q.Slot,iV a.A,iV a.B,iV a.N,.int .u64 a.K,a.cv])] Tryz.func18 O O O O H<|R.reg O<|R.s O (s.box O O O) fun b1=>?_
 refine R.u 1 O<|R.nil<|R.reg O<|R.u 1 O<|R.q (q.LM (cap:=[.pointer (some ⟨b1,0,none⟩)]) O O) O<|R.s O (s.aT [1,0,2,3,4,5,6,7,8] qY _ _ _ O O O RU O O (fun w own hw H=>Nr b_k po pq pw px k b1 a cG aM st aH ay aF av dk bC lg w own H ‹_› ‹_› (by omega) ‹_› ‹_› ‹_› ‹_›) O) ?_
 rintro ⟨z1,z2,z3,z4,z5,z6,z7,z8,z9⟩
 dsimp only
 refine R.u 1 O<|R.nil ?_
 have hz:dL k st dk lg (cp k.R a)=(((dL k st dk lg (cp k.R a)).1),(dL k st dk lg (cp k.R a)).2.1,(dL k st dk lg (cp k.R a)).2.2.1,(dL k st dk lg (cp k.R a)).2.2.2.1,(dL k st dk lg (cp k.R a)).2.2.2.2):=by (rfl)
 rw [hz]
 exact R.w1 (z1,z2,z3,z4,z5,z6,z7,z8,z9) dU gV O Tryz.results18 (RV.tmp O) O O O O
theorem ut (aH:Nat)(ay aF av:Value)(dk:cw)(w:World)(own:List Nat)(H:HN w own [ag.box aH [ay,aF,av,iV dk.Fuse,.bool dk.Down] 112,ag.row 9 ay dk.Kept,ag.row 9 aF dk.Now,ag.row 114 av dk.Wait] [ew])(hd:dk.Down=false)(ho:kx dk=0)(hD:fM dk.Now.length 90000 dk/\dk.Now.length<=200)(hp:(bE (aY dk).c.Rows).2=0)(hr:(aY dk).c.Rows.length<=60 /\ ∀c∈(aY dk).c.Rows,c.Key.size<=1000/\c.Val.size<=1000):RC Tryz.prog 13 #[.pointer (some ⟨aH,0,none⟩)] H (fun z:Value×Value×Value×Nat×Value×Value×Value×Value×Nat×Value×Nat => .tuple #[.pointer (some ⟨z.2.2.2.1,0,none⟩),.nilIface]) (fun z=>[ag.box aH [z.1,z.2.1,z.2.2.1,iV dk.Fuse,.bool dk.Down] 112,ag.row 9 z.1 dk.Kept,ag.row 9 z.2.1 dk.Now,ag.row 114 z.2.2.1 dk.Wait,ag.box z.2.2.2.1 [.pointer (some ⟨z.2.2.2.2.2.2.2.2.1,0,none⟩),z.2.2.2.2.1,z.2.2.2.2.2.1,z.2.2.2.2.2.2.1,z.2.2.2.2.2.2.2.1,iV (⟨(bE (aY dk).c.Rows).1⟩:jM).R.af,iV (⟨(bE (aY dk).c.Rows).1⟩:jM).R.ah] 78,ag.box z.2.2.2.2.2.2.2.2.1 [.pointer (some ⟨aH,0,none⟩),iV (aY dk).c.Epoch,iV (aY dk).c.Side,iV (aY dk).c.Size,iV (aY dk).c.First,.pointer (some ⟨z.2.2.2.2.2.2.2.2.2.2,0,none⟩),z.2.2.2.2.2.2.2.2.2.1] 133,ag.box z.2.2.2.2.2.2.2.2.2.2 [.pointer (some ⟨aH,0,none⟩),iV (aY dk).L.From,iV (aY dk).L.Many,iV (aY dk).L.First,iV (aY dk).L.Next] 198]) (fun z=>[ag.ls z.2.2.2.2.1 ((⟨(bE (aY dk).c.Rows).1⟩:jM).R.ao:List ak),ag.ls z.2.2.2.2.2.1 ((⟨(bE (aY dk).c.Rows).1⟩:jM).R.Things:List aE),ag.ls z.2.2.2.2.2.2.1 ((⟨(bE (aY dk).c.Rows).1⟩:jM).R.Held:List Held),ag.ls z.2.2.2.2.2.2.2.1 ((⟨(bE (aY dk).c.Rows).1⟩:jM).R.Notes:List Note),ag.ls z.2.2.2.2.2.2.2.2.2.1 (aY dk).c.Rows]):=by
 have dZ:=H.cap 1 rfl;have d9:=H.cE 1 rfl
 have fh:=H.cap 2 rfl;have fj:=H.cE 2 rfl
 have ea:=H.cap 3 rfl;have ec:=H.cE 3 rfl
 obtain ⟨hr1,hr2⟩:=hr
 refine R.bF [(0,.pointer (some ⟨aH,0,none⟩))] Tryz.func13 O O O O H<|R.reg O<|R.u 2 O<|R.nil<|R.reg O<|R.u 1 O<|R.s O (s.aT gV [] _ _ _ O O O NQ O O (fun w own hw H=>zA aH ay aF av dk w own H ‹_› ‹_› ‹_›) O) ?_
 rintro ⟨z1,z2,z3,z4,z5,z6⟩
 dsimp only
 refine R.u 5 O<|R.nil<|R.reg O<|R.u 1 O<|R.q (q.ux O O Tryz.underlying38) O<|R.nil<|R.aD O O<|R.reg O<|R.u 1 O<|R.s O (s.vT RS O O (fun w hw=>HZ z4 z5 aH z6 (aY dk).c w (hw.b 4 O) (hw.bO 0 O) (by omega)) O) fun v1=>?_
 refine R.s O (s.pre (fun _ hw=>hw.cW 0 _ O O) (s.aT l9 [0,2] _ _ _ O O O RR O O (fun w own hw H=>IA v1 (aY dk).c.Rows w own H (by omega) ‹_›) O)) ?_
 rintro ⟨z7,z8,z9,mG⟩
 dsimp only
 refine R.u 3 O<|R.s O (s.alloc dq O O) fun b1=>?_
 refine R.s O (s.fP 0 _ O O O (fun _ _=>rfl) (.inl aj) (fun w hw=>(ae (Sl.one (hw.bO 0 O)) (ae (Sl.one (hw.bO 1 O)) (ae (Sl.one (hw.bO 2 O)) (ae (Sl.one (hw.bO 3 O)) (ae O (ae O aO))))))) O O O) fun _=>?_
 refine R.u 1 O<|R.nil<|R.reg O<|R.u 1 O<|R.q (q.dx O O Tryz.underlying38) O<|R.nil<|R.aD O O<|R.reg O<|R.u 1 O<|R.q (q.cT 0 O O aj) O<|R.q (q.JB RG O (fun w hw=>(sN O (sN O JA))) O) O<|R.s O (s.box O O O) fun b2=>?_
 refine R.u 2 O<|R.nil ?_
 have hz:(dk,(⟨(bE (aY dk).c.Rows).1⟩:jM),(aY dk).c,(aY dk).L)=(dk,(⟨(bE (aY dk).c.Rows).1⟩:jM),(aY dk).c,(aY dk).L):=by (rfl)
 have hz0:(bE (aY dk).c.Rows).1=(bE (aY dk).c.Rows).1:=congrArg (fun t_=>t_.2.1.R) hz
 rw [hz0]
 exact R.w2 (z1,z2,z3,b2,z7,z8,z9,mG,z4,z5,z6) [2,3,4,5,0,6,7,8] nq O Tryz.results13 (RV.tmp O) (RV.tmp O) O O O (dy O O)
theorem Eo (aH:Nat)(ay aF av:Value)(dk:cw)(w:World)(own:List Nat)(H:HN w own [ag.box aH [ay,aF,av,iV dk.Fuse,.bool dk.Down] 112,ag.row 9 ay dk.Kept,ag.row 9 aF dk.Now,ag.row 114 av dk.Wait] [ew])(h0:dk=dNew 170):RC Tryz.prog 31 #[.pointer (some ⟨aH,0,none⟩)] H (fun _:Value×Value×Value=>df (rk dk).2.2) (fun z=>[ag.box aH [z.1,z.2.1,z.2.2,iV (rk dk).2.1.Fuse,.bool (rk dk).2.1.Down] 112,ag.row 9 z.1 (rk dk).2.1.Kept,ag.row 9 z.2.1 (rk dk).2.1.Now,ag.row 114 z.2.2 (rk dk).2.1.Wait]) (fun _=>[]):=by
 have dZ:=H.cap 1 rfl;have d9:=H.cE 1 rfl
 have fh:=H.cap 2 rfl;have fj:=H.cE 2 rfl
 have ea:=H.cap 3 rfl;have ec:=H.cE 3 rfl
 obtain ⟨f1,f2,f3,f4,f5⟩:=Em h0;have f6:=f4.ok;have f7:=f4.room;have f8:=f4.bnd (by omega);have f9:=f4.good;obtain ⟨f10,f11,f12⟩:=f9;have f13:=f7.2.2.1;have f14:fM (dH dk).1.Now.length 90000 (dH dk).1/\(dH dk).1.Now.length<=200:=⟨f6.1.up (by omega),f6.2.1⟩;have p0:fM dk.Now.length 80000 dk/\dk.Now.length<=1000:=(by rw [h0];have:=(AH 170).nl;exact ⟨this.symm▸(AH 170).up (by omega),by omega⟩)
 have n1:=LG;have n2:=lY;have n3:=lj lY
 refine R.bF [(0,.pointer (some ⟨aH,0,none⟩))] Tryz.func31 O O O O H<|R.reg O<|R.u 1 O<|R.nil<|R.reg O<|R.u 1 O<|R.s O (s.aT gV [] _ _ _ O O O R8 O O (fun w own hw H=>EY aH ay aF av dk w own H ‹_›) O) ?_
 rintro ⟨z1,z2,z3⟩
 dsimp only
 refine R.u 1 O<|R.nil<|R.reg O<|R.u 1 O<|R.q (q.dx O O Tryz.underlying38) O<|R.nil<|R.aD O O<|R.reg O<|R.u 1 O<|R.s O (s.aT gV [] _ _ _ O O O NQ O O (fun w own hw H=>zA aH z1 z2 z3 (dH dk).1 w own H ‹_› ‹_› ‹_›) O) ?_
 rintro ⟨z4,z5,z6,z7,z8,z9⟩
 dsimp only
 refine R.u 5 O<|R.nil<|R.reg O<|R.u 1 O<|R.q (q.ux O O Tryz.underlying38) O<|R.nil<|R.aD O O<|R.reg O<|R.u 1 O<|R.s O (s.aT l9 [] _ _ _ O O O R9 O O (fun w own hw H=>KJ w own H ) O) ?_
 rintro ⟨mG,l5,z12,py⟩
 dsimp only
 refine R.s O (s.aT l9 nq _ _ _ O O O Cx O O (fun w own hw H=>qp mG l5 z12 py (⟨[],[],[],[],1,1⟩:aB) w own H ‹_› ‹_›) O) fun yv=>?_
 refine R.s O (s.pre (fun _ hw=>hw.cW 0 _ O O) (s.aT [4,0,1,2,3,5,6] [5,0] _ _ _ O O O NT O O (fun w own hw H=>xn z7 z8 (aY (dH dk).1).c yv (bf (⟨[],[],[],[],1,1⟩:aB)) aH z4 z5 z6 (dH dk).1 z9 (aY (dH dk).1).L w own H ‹_› ‹_› (by omega) ‹_› (by decide)) O)) ?_
 rintro ⟨Gt,Ce,z17,vj,xm⟩
 dsimp only
 refine R.u 1 O<|R.nil ?_
 have hz:((rk dk).2.1,(rk dk).2.2)=(((bH (mkS (aY (dH dk).1).c (aY (dH dk).1).L) (dH dk).1 (bf (⟨[],[],[],[],1,1⟩:aB))).2.1),(bH (mkS (aY (dH dk).1).c (aY (dH dk).1).L) (dH dk).1 (bf (⟨[],[],[],[],1,1⟩:aB))).2.2):=by (rfl)
 have hz0:(rk dk).2.1=(bH (mkS (aY (dH dk).1).c (aY (dH dk).1).L) (dH dk).1 (bf (⟨[],[],[],[],1,1⟩:aB))).2.1:=congrArg (fun t_=>t_.1) hz
 rw [hz0]
 have hz1:(rk dk).2.2=(bH (mkS (aY (dH dk).1).c (aY (dH dk).1).L) (dH dk).1 (bf (⟨[],[],[],[],1,1⟩:aB))).2.2:=congrArg (fun t_=>t_.2) hz
 rw [hz1]
 exact R.w1 (Ce,z17,vj) sy [] O Tryz.results31 (RV.tmp O) O O O O
end
section
open Go Go.RowKit
attribute [local irreducible] bH cU aY kx dH dNew cp dL
theorem Ep (w:World)(own:List Nat)(H:HN w own [] [ew]):RC Tryz.prog 10 #[] H (fun z:Nat×Value×Value×Value×Nat×Value×Value×Value×Value×Nat×Value×Nat => .tuple #[.pointer (some ⟨z.1,0,none⟩),.pointer (some ⟨z.2.2.2.2.1,0,none⟩),.bool true]) (fun z=>[ag.box z.1 [z.2.1,z.2.2.1,z.2.2.2.1,iV iF.Fuse,.bool iF.Down] 112,ag.row 9 z.2.1 iF.Kept,ag.row 9 z.2.2.1 iF.Now,ag.row 114 z.2.2.2.1 iF.Wait,ag.box z.2.2.2.2.1 [.pointer (some ⟨z.2.2.2.2.2.2.2.2.2.1,0,none⟩),z.2.2.2.2.2.1,z.2.2.2.2.2.2.1,z.2.2.2.2.2.2.2.1,z.2.2.2.2.2.2.2.2.1,iV fH.R.af,iV fH.R.ah] 78,ag.box z.2.2.2.2.2.2.2.2.2.1 [.pointer (some ⟨z.1,0,none⟩),iV iP.Epoch,iV iP.Side,iV iP.Size,iV iP.First,.pointer (some ⟨z.2.2.2.2.2.2.2.2.2.2.2,0,none⟩),z.2.2.2.2.2.2.2.2.2.2.1] 133,ag.box z.2.2.2.2.2.2.2.2.2.2.2 [.pointer (some ⟨z.1,0,none⟩),iV mF.From,iV mF.Many,iV mF.First,iV mF.Next] 198]) (fun z=>[ag.ls z.2.2.2.2.2.1 fH.R.ao,ag.ls z.2.2.2.2.2.2.1 fH.R.Things,ag.ls z.2.2.2.2.2.2.2.1 fH.R.Held,ag.ls z.2.2.2.2.2.2.2.2.1 fH.R.Notes,ag.ls z.2.2.2.2.2.2.2.2.2.2.1 iP.Rows]):=by
 obtain ⟨w1,w2,w3,w4,w5,u0,w6⟩:=B3;have w7:=w6.anew (by omega);have w8:=w6.pre (by omega)
 have x1:(rk (dNew (Int.toNat 170))).2.2=0:=w1;have x2:(rk (dNew (Int.toNat 170))).2.1.Down=false:=w7.1;have x3:kx (rk (dNew (Int.toNat 170))).2.1=0:=w7.2.1;have x4:fM (rk (dNew (Int.toNat 170))).2.1.Now.length 90000 (rk (dNew (Int.toNat 170))).2.1/\(rk (dNew (Int.toNat 170))).2.1.Now.length<=200:=w7.2.2.1;have x5:(bE (aY (rk (dNew (Int.toNat 170))).2.1).c.Rows).2=0:=w7.2.2.2.1;have x6:(aY (rk (dNew (Int.toNat 170))).2.1).c.Rows.length<=60 /\ ∀c∈(aY (rk (dNew (Int.toNat 170))).2.1).c.Rows,c.Key.size<=1000/\c.Val.size<=1000:=w7.2.2.2.2.1
 refine R.bF [] Tryz.func10 O O O O H<|R.reg O<|R.u 3 O<|R.nil<|R.reg O<|R.s O (s.aT [0] [] _ _ _ O O O RO O O (fun w own hw H=>JE 170 w own H (by omega)) O) ?_
 rintro ⟨z1,z2,z3,z4⟩
 dsimp only
 refine R.u 5 O<|R.nil<|R.reg O<|R.u 1 O<|R.q (q.ux O O Tryz.underlying38) O<|R.u 2 O<|R.qg O (q.OO O O Tryz.underlying25) O<|R.u 3 O<|R.s O (s.aT gV [0] _ _ _ O O O RP O O (fun w own hw H=>Eo z1 z2 z3 z4 (dNew (Int.toNat 170)) w own H (by rfl)) O) ?_
 rintro ⟨z5,z6,z7⟩
 dsimp only
 refine R.qg O (q.dx O O Tryz.underlying38) O<|R.u 1 O<|R.nil<|R.aD O O<|R.reg O<|R.u 1 O<|R.s O (s.aT gV [0] _ _ _ O O O Jb O O (fun w own hw H=>ut z1 z5 z6 z7 (rk (dNew (Int.toNat 170))).2.1 w own H ‹_› ‹_› ‹_› ‹_› ‹_›) O) ?_
 rintro ⟨z8,z9,mG,l5,z12,py,yv,Gt,Ce,z17,vj⟩
 dsimp only
 refine R.u 5 O<|R.nil<|R.reg O<|R.u 3 O<|R.q (q.FR O O Tryz.underlying38) O<|R.u 2 O<|R.qg O (q.RA O O Tryz.underlying26) O<|R.u 4 O<|R.nil ?_
 have hz:(iF,fH,iP,mF)=(((rk (dNew (Int.toNat 170))).2.1),(⟨(bE (aY (rk (dNew (Int.toNat 170))).2.1).c.Rows).1⟩:jM),(aY (rk (dNew (Int.toNat 170))).2.1).c,(aY (rk (dNew (Int.toNat 170))).2.1).L):=by (rfl)
 have hz0:iF=(rk (dNew (Int.toNat 170))).2.1:=congrArg (fun t_=>t_.1) hz
 rw [hz0]
 have hz1:fH=(⟨(bE (aY (rk (dNew (Int.toNat 170))).2.1).c.Rows).1⟩:jM):=congrArg (fun t_=>t_.2.1) hz
 rw [hz1]
 have hz2:iP=(aY (rk (dNew (Int.toNat 170))).2.1).c:=congrArg (fun t_=>t_.2.2.1) hz
 rw [hz2]
 have hz3:mF=(aY (rk (dNew (Int.toNat 170))).2.1).L:=congrArg (fun t_=>t_.2.2.2) hz
 rw [hz3]
 exact R.w3 (z1,z8,z9,mG,l5,z12,py,yv,Gt,Ce,z17,vj) dU gV O Tryz.results10 (RV.tmp O) (RV.tmp O) (RV.tmp O) O O O (IW O O O)
theorem oc (Ns Nt Nu Nv:Value)(a:aB)(Nw Nx Ny Nz:Value)(b:aB)(w:World)(own:List Nat)(H:HN w own [] [ag.ls Ns a.ao,ag.ls Nt a.Things,ag.ls Nu a.Held,ag.ls Nv a.Notes,ag.ls Nw b.ao,ag.ls Nx b.Things,ag.ls Ny b.Held,ag.ls Nz b.Notes,ew])(h1:Ok a/\Inv a/\Ok b/\Inv b):RC Tryz.prog 28 #[.agg #[Ns,Nt,Nu,Nv,iV a.af,iV a.ah],.agg #[Nw,Nx,Ny,Nz,iV b.af,iV b.ah]] H (fun _:Unit => .bool (decide (bf a=bf b))) (fun _=>[]) (fun _=>[]):=by
 have Q7:=H.cq 0 rfl
 have QN:=H.cq 1 rfl
 have Tz:=H.cq 2 rfl
 have Q8:=H.cq 3 rfl
 have Q9:=H.cq 4 rfl
 have QO:=H.cq 5 rfl
 have TA:=H.cq 6 rfl
 have Ra:=H.cq 7 rfl
 obtain ⟨h2,h3,h4,h5⟩:=h1;have g1:=lj h3;have g2:=lj h5
 refine R.bF [(0,.agg #[Ns,Nt,Nu,Nv,iV a.af,iV a.ah]),(1,.agg #[Nw,Nx,Ny,Nz,iV b.af,iV b.ah])] Tryz.func28 O O O O H<|R.reg O<|R.s O (s.box O O O) fun b1=>?_
 refine R.s O (s.box O O O) fun b2=>?_
 refine R.u 1 O<|R.nil<|R.reg O<|R.q (q.cT 1 O O aj) O<|R.s O (s.aT [0,1,2] mH _ _ _ O O O Cx O O (fun w own hw H=>qp Ns Nt Nu Nv a w own H ‹_› ‹_›) O) fun z1=>?_
 refine R.u 1 O<|R.nil<|R.reg O<|R.u 1 O<|R.q (q.cT 1 O O aj) O<|R.s O (s.aT bJ [4,5,6,7,8] _ _ _ O O O Cx O O (fun w own hw H=>qp Nw Nx Ny Nz b w own H ‹_› ‹_›) O) fun z2=>?_
 rcases Bool.eq_false_or_eq_true (decide ((bf a)=(bf b))) with h1|h1
 .
  refine R.c (q.call NS O O (fun w hw=>(cv (congrArg Value.bool h1) (oZ _ (bf a) _ (bf b) w (hw.row 1 O) (hw.row 0 O) )))) O<|R.u 1 O<|R.nil ?_
  have hz:decide (bf a=bf b)=true:=by (assumption)
  rw [hz]
  exact R.w1 () [4] [] O Tryz.results28 (RV.tmp O) O O O O
 refine R.c (q.call NS O O (fun w hw=>(cv (congrArg Value.bool h1) (oZ _ (bf a) _ (bf b) w (hw.row 1 O) (hw.row 0 O) )))) O<|R.u 1 O<|R.nil ?_
 have hz:decide (bf a=bf b)=false:=by (assumption)
 rw [hz]
 exact R.w1 () [4] [] O Tryz.results28 (RV.tmp O) O O O O
theorem FJ {d:cw}{sc:kY}{lg:Lg}{u:Nat}{k:jM}{a:ft}(h:KI d sc lg nR u 1)(hf:d.Fuse = -1)(e:k.R=nR)(h1:a.Kind=(⟨#[109,97,107,101]⟩:ByteArray))(h2:a.P=⟨1,0⟩)(h3:a.A=1) :
 (dL k sc d lg (cp k.R a)).2.2.2.2=0 /\ ∃z u1,KI (dL k sc d lg (cp k.R a)).2.2.1 (dL k sc d lg (cp k.R a)).2.1 (dL k sc d lg (cp k.R a)).2.2.2.1 z u1 2/\(bm z).Things.length=1/\Ok (bm z):=by
 have hd:cp nR a=(⟨[⟨1,1,7,0,0⟩],[⟨1,1,⟨#[]⟩⟩],[⟨⟨1,0⟩,1⟩],[],2,2⟩,0):=by unfold cp;rw [if_pos h1,h2,h3];exact Ql
 have h0:(cp nR a).2=0:=by rw [hd]
 obtain ⟨_,b⟩:=h.do (z:=cp nR a) (by omega) (vM h.inv a)
 have ek:k=⟨nR⟩:=by rw [<- e]
 rw [e,ek]
 have hs:Sz 1 (cp nR a).1:=KT Sz.new a
 rcases b h0 with ⟨c1,c2,c3,u2,c4⟩ | ⟨_,_,c3,_⟩
 .
  refine ⟨c1,_,u2,c4,?_,(DK hs).ok (by omega)⟩
  rw [yi c4.inv (by rw [hd])]
  rw [hd];rfl
 .exact absurd hf c3
theorem IP (w:World)(ht:DU w):Calls Tryz.prog 21 #[] w fun e w'=>e = .returned (.bool true)/\Ext w w':=by
 obtain ⟨w1,w2,w3,w4,w5,u0,w6⟩:=B3;have w7:=w6.anew (by omega);have w8:=w6.pre (by omega)
 have wi:Inv fH.R:=w5.symm▸lY;have wo:Ok fH.R:=w5.symm▸LG;obtain ⟨wa,wb,wc,wd⟩:=w8;have wz:(cp fH.R (⟨⟨#[109,97,107,101]⟩,⟨#[]⟩,⟨1,0⟩,⟨0,0⟩,1,0,0,0,none,0,0,[]⟩:ft)).2=0->Ok (cp fH.R (⟨⟨#[109,97,107,101]⟩,⟨#[]⟩,⟨1,0⟩,⟨0,0⟩,1,0,0,0,none,0,0,[]⟩:ft)).1:=OB (k:=0) (w5.symm▸Sz.new) _ (by omega)
 obtain ⟨v1,z1,u1,v2,v3,v13⟩:=FJ w6 w2 w5 (a:=(⟨⟨#[109,97,107,101]⟩,⟨#[]⟩,⟨1,0⟩,⟨0,0⟩,1,0,0,0,none,0,0,[]⟩:ft)) rfl rfl rfl;have v4:=v2.anew (by omega);obtain ⟨v5,v6,v7,v8,v9,v10,v11⟩:=v4;have v12:(bE (aY (dL fH iP iF mF (cp fH.R (⟨⟨#[109,97,107,101]⟩,⟨#[]⟩,⟨1,0⟩,⟨0,0⟩,1,0,0,0,none,0,0,[]⟩:ft))).2.2.1).c.Rows).1.Things.length=1:=(by rw [v10];exact v3);have v14:Ok (bE (aY (dL fH iP iF mF (cp fH.R (⟨⟨#[109,97,107,101]⟩,⟨#[]⟩,⟨1,0⟩,⟨0,0⟩,1,0,0,0,none,0,0,[]⟩:ft))).2.2.1).c.Rows).1:=(by rw [v10];exact v13)
 refine R.enter [] [] Tryz.func21 O O O O<|R.nC (r:=ew) ht (BN ht)<|R.reg O<|R.u 1 O<|R.nil<|R.reg O<|R.s O (s.aT [] [0] _ _ _ O O O NM O O (fun w own hw H=>Ep w own H ) O) ?_
 rintro ⟨z1,z2,z3,z4,z5,z6,z7,z8,z9,mG,l5,z12⟩
 dsimp only
 refine R.u 7 O<|R.nil<|R.reg O<|R.u 4 O<|R.qg O (q.build wk O O) O<|R.qg O (q.build RE O O) O<|R.s O (s.aT [4,5,0,1,2,3,6] qY _ _ _ O O O NN O O (fun w own hw H=>yt z5 z6 z7 z8 z9 fH (⟨⟨#[109,97,107,101]⟩,⟨#[]⟩,⟨1,0⟩,⟨0,0⟩,1,0,0,0,none,0,0,[]⟩:ft) mG l5 iP z1 z2 z3 z4 iF z12 mF w own H ‹_› ‹_› (by omega) ‹_› ‹_› ‹_› ‹_›) O) ?_
 rintro ⟨py,yv,Gt,Ce,z17,vj,xm,z20,z21⟩
 dsimp only
 refine R.qg O (q.dx O O Tryz.underlying38) O<|R.u 1 O<|R.nil<|R.aD O O<|R.reg O<|R.u 1 O<|R.s O (s.aT [2,3,4,5,0,1,6] [10] _ _ _ O O O Jb O O (fun w own hw H=>ut z1 vj xm z20 (dL fH iP iF mF (cp fH.R (⟨⟨#[109,97,107,101]⟩,⟨#[]⟩,⟨1,0⟩,⟨0,0⟩,1,0,0,0,none,0,0,[]⟩:ft))).2.2.1 w own H ‹_› ‹_› ‹_› ‹_› ‹_›) O) ?_
 rintro ⟨z22,z23,z24,z25,z26,z27,z28,z29,z30,z31,z32⟩
 dsimp only
 refine R.u 5 O<|R.nil<|R.reg O<|R.u 1 O<|R.q (q.FR O O Tryz.underlying38) O<|R.u 2 O<|R.qg O (q.RA O O Tryz.underlying26) O<|R.u 3 O<|R.s O (s.aT [4,0,1,2,3,5,6,7,8,9] bJ _ _ _ O O O Jc O O (fun w own hw H=>sr z25 z26 z27 z28 z29 z30 (⟨(bE (aY (dL fH iP iF mF (cp fH.R (⟨⟨#[109,97,107,101]⟩,⟨#[]⟩,⟨1,0⟩,⟨0,0⟩,1,0,0,0,none,0,0,[]⟩:ft))).2.2.1).c.Rows).1⟩:jM) w own H ‹_›) O) ?_
 rintro ⟨z33,z34,z35,z36,z37,z38,z39,z40⟩
 dsimp only
 exact R.qg O (q.field O I7 O) O<|R.qg O (q.len' (dh 5 O) O Tryz.underlying44) O<|R.qg O (q.fI O O) O<|R.u 2 O<|R.nil<|R.rv O Tryz.results21 O (rB (by rfl))
end
section
open Go Go.RowKit
attribute [local irreducible] bH cU aY kx dH dNew cp dL Tx bE
def gP (m:Int)(k:Nat):Nat:=(m % 18446744073709551616).toNat &&& k
theorem LJ {m:Int}{k:Nat}(hk:k<=9223372036854775807):bits .and .i64 m (k:Int)=((gP m k:Nat):Int):=by
 show IntKind.i64.wrap ((BitVec.ofInt 64 m &&& BitVec.ofInt 64 ((k:Nat):Int)).toNat:Int)=_
 have e:(BitVec.ofInt 64 m).toNat=(m % 18446744073709551616).toNat:=by simp [BitVec.toNat_ofInt]
 rw [BitVec.toNat_and,ofInt_u64 k (by omega),e]
 have hl:(m % 18446744073709551616).toNat &&& k<=k:=Nat.and_le_right
 unfold gP
 rw [IntKind.wrap_i64]
 omega
theorem LK {α:Type}[DecidableEq α]{a b:α}(h:(!decide (a=b))=true)(e:a=b):False:=by subst e;simp at h
theorem NA (m:Int)(k:Nat):gP m k<=k:=Nat.and_le_right
theorem B5 (bT:Value)(l:List ft)(w:World)(eA:Sl w bT l)(Ht:∀x∈l,Sl w x.cv x.Changes)(ht:DU w)(hF:∀a∈l,a.N<=9223372036854775807/\0<=a.K/\a.K<=18446744073709551615):Calls Tryz.prog 6 #[bT] w fun e w'=>e = .returned (.bool true)/\Ext w w':=by
 have zm:=eA.gW
 refine R.enter [] [(0,bT)] Tryz.func6 O O O O<|R.nC (r:=ew) ht (BN ht)<|R.pK eA<|R.nC (r:=ag.acts l) Ht (FZ Ht)<|R.reg O<|R.u 1 O<|R.nil<|R.reg O<|R.c (q.call RI O O (fun w hw=>(IP w (by exact hw.okF ew (by repeat (first|exact List.Mem.head _|refine List.Mem.tail _ ?_)))))) O<|R.u 1 O<|R.nil ?_
 refine R.reg O<|R.u 2 O<|R.nil<|R.aD O O<|R.reg O<|R.u 1 O<|?_
 rcases Bool.eq_false_or_eq_true (pY l 60) with h1|h1
 .
  refine R.c (q.call RH O O (fun w hw=>(cv (congrArg Value.bool h1) (xM _ l 60 w (hw.bO 1 O) (hw.acts 0 O) )))) O<|R.u 1 O<|R.nil ?_
  refine R.aD O O ?_
  have hll:=ES (l:=l) (most:=60) ‹_›
  refine R.reg O<|R.s O (s.aT [] [2] _ _ _ O O O NM O O (fun w own hw H=>Ep w own H ) O) ?_
  rintro ⟨z1,z2,z3,z4,z5,z6,z7,z8,z9,mG,l5,z12⟩
  dsimp only
  refine R.u 7 O<|R.nil<|R.reg O<|R.u 2 O<|R.nil<|R.aD O O ?_
  obtain ⟨w1,w2,w3,w4,w5,u0,w6⟩:=B3;have w7:=w6.anew (by omega);have w8:=w6.pre (by omega)
  refine R.reg O<|R.u 1 O<|R.nil<|R.loop (fun g_:Nat×Nat×cw×Value×Value×Value×jM×Value×Value×Value×Value×Nat×kY×Value×Nat×Lg×Nat=>[(0,bT),(4,.pointer (some ⟨z1,0,none⟩)),(5,.pointer (some ⟨g_.2.2.2.2.2.2.2.2.2.2.2.1,0,none⟩)),(6,iV (g_.1:Int))]) (fun g_=>[ag.box z1 [g_.2.2.2.1,g_.2.2.2.2.1,g_.2.2.2.2.2.1,iV g_.2.2.1.Fuse,.bool g_.2.2.1.Down] 112,ag.row 9 g_.2.2.2.1 g_.2.2.1.Kept,ag.row 9 g_.2.2.2.2.1 g_.2.2.1.Now,ag.row 114 g_.2.2.2.2.2.1 g_.2.2.1.Wait,ag.box g_.2.2.2.2.2.2.2.2.2.2.2.1 [.pointer (some ⟨g_.2.2.2.2.2.2.2.2.2.2.2.2.2.2.1,0,none⟩),g_.2.2.2.2.2.2.2.1,g_.2.2.2.2.2.2.2.2.1,g_.2.2.2.2.2.2.2.2.2.1,g_.2.2.2.2.2.2.2.2.2.2.1,iV g_.2.2.2.2.2.2.1.R.af,iV g_.2.2.2.2.2.2.1.R.ah] 78,ag.box g_.2.2.2.2.2.2.2.2.2.2.2.2.2.2.1 [.pointer (some ⟨z1,0,none⟩),iV g_.2.2.2.2.2.2.2.2.2.2.2.2.1.Epoch,iV g_.2.2.2.2.2.2.2.2.2.2.2.2.1.Side,iV g_.2.2.2.2.2.2.2.2.2.2.2.2.1.Size,iV g_.2.2.2.2.2.2.2.2.2.2.2.2.1.First,.pointer (some ⟨g_.2.2.2.2.2.2.2.2.2.2.2.2.2.2.2.2,0,none⟩),g_.2.2.2.2.2.2.2.2.2.2.2.2.2.1] 133,ag.box g_.2.2.2.2.2.2.2.2.2.2.2.2.2.2.2.2 [.pointer (some ⟨z1,0,none⟩),iV g_.2.2.2.2.2.2.2.2.2.2.2.2.2.2.2.1.From,iV g_.2.2.2.2.2.2.2.2.2.2.2.2.2.2.2.1.Many,iV g_.2.2.2.2.2.2.2.2.2.2.2.2.2.2.2.1.First,iV g_.2.2.2.2.2.2.2.2.2.2.2.2.2.2.2.1.Next] 198]) (fun g_=>[ag.ls g_.2.2.2.2.2.2.2.1 g_.2.2.2.2.2.2.1.R.ao,ag.ls g_.2.2.2.2.2.2.2.2.1 g_.2.2.2.2.2.2.1.R.Things,ag.ls g_.2.2.2.2.2.2.2.2.2.1 g_.2.2.2.2.2.2.1.R.Held,ag.ls g_.2.2.2.2.2.2.2.2.2.2.1 g_.2.2.2.2.2.2.1.R.Notes,ag.ls g_.2.2.2.2.2.2.2.2.2.2.2.2.2.1 g_.2.2.2.2.2.2.2.2.2.2.2.2.1.Rows,ag.ls z6 fH.R.ao,ag.ls z7 fH.R.Things,ag.ls z8 fH.R.Held,ag.ls z9 fH.R.Notes,ag.ls l5 iP.Rows,ag.acts l,ag.ls bT l,ew]) (fun g_=>g_.1<=l.length/\KI g_.2.2.1 g_.2.2.2.2.2.2.2.2.2.2.2.2.1 g_.2.2.2.2.2.2.2.2.2.2.2.2.2.2.2.1 g_.2.2.2.2.2.2.1.R g_.2.1 (2*g_.1+1)/\Sz g_.1 g_.2.2.2.2.2.2.1.R) (fun g_=>l.length-g_.1) (0,u0,iF,z2,z3,z4,fH,z6,z7,z8,z9,z5,iP,l5,mG,mF,z12) O (by (try dsimp only);exact ⟨by omega,w5.symm▸w6,w5.symm▸Sz.new⟩) (sF O) (iz l9 [0,1,2,3,4,0,1,2,3,4,5,6,7] O) ?_
  rintro ⟨i,u,em,B6,FK,Ca,kc,TB,TD,TE,TF,bk,sc,Cb,bs,lg,bl⟩ ⟨hi,hV,hS⟩
  dsimp only at *
  have hI:=hV.inv;have hk:=hS.ok (by omega)
  refine R.reg O<|R.u 2 O<|R.q (q.len' (dh 11 O) O Tryz.underlying22) O<|?_
  by_cases h2:i<l.length
  .
   refine R.q (q.dC O O) O<|R.nil<|R.az O O<|R.reg O<|R.u 1 O<|R.s O (s.aT [4,0,1,2,3,5,6] bJ _ _ _ O O O Jc O O (fun w own hw H=>sr bk TB TD TE TF bs kc w own H ‹_›) O) ?_
   rintro ⟨py,yv,Gt,Ce,z17,vj,xm,z20⟩
   dsimp only
   refine R.s O (s.alloc dq O O) fun b1=>?_
   refine R.s O (s.fP 0 _ O O O (fun _ _=>rfl) (.inl aj) (fun w hw=>(ae (Sl.one (hw.bO 4 O)) (ae (Sl.one (hw.bO 5 O)) (ae (Sl.one (hw.bO 6 O)) (ae (Sl.one (hw.bO 7 O)) (ae O (ae O aO))))))) O O O) fun _=>?_
   refine R.nil ?_
   obtain ⟨x1,hx1⟩:∃z,l[i]? = some z:=⟨_,List.getElem?_eq_getElem (by omega)⟩
   have Wq:=NA x1.N 31;have Wr:=(hF x1 (List.mem_of_getElem? hx1)).2;have UM:=OB hS x1 (by omega);have TG:=Af (r:=kc.R) x1;have zi:=vM hI x1;have q1:=hV.arm (k:=((gP x1.N 31:Nat):Int)) (by omega) (by omega);have g1:=q1.pre (by omega);obtain ⟨g2,g3,g4,g5⟩:=g1;obtain ⟨f1,f2,f3,p,u2,WR,WS,f4,f5,f6,f7⟩:=q1.fall (z:=cp kc.R x1) (by omega) zi TG x1.K;have k4:=f4.anew (by omega);obtain ⟨v5,v6,v7,v8,v9,v10,v11⟩:=k4
   refine R.cut 1 (fun g_:Value×Value×Value×Value×Nat=>[(0,bT),(4,.pointer (some ⟨z1,0,none⟩)),(5,.pointer (some ⟨bk,0,none⟩)),(6,iV (i:Int)),(7,.pointer (some ⟨b1,0,none⟩)),(8,.pointer (some ⟨g_.2.2.2.2,0,none⟩)),(9,df (cp kc.R x1).2)]) (fun g_:Value×Value×Value×Value×Nat=>[ag.box g_.2.2.2.2 [g_.1,g_.2.1,g_.2.2.1,g_.2.2.2.1,iV (cp kc.R x1).1.af,iV (cp kc.R x1).1.ah] 48,ag.box b1 [z17,vj,xm,z20,iV kc.R.af,iV kc.R.ah] 48,ag.box bk [.pointer (some ⟨bs,0,none⟩),py,yv,Gt,Ce,iV kc.R.af,iV kc.R.ah] 78,ag.box z1 [B6,FK,Ca,iV em.Fuse,.bool em.Down] 112,ag.row 9 B6 em.Kept,ag.row 9 FK em.Now,ag.row 114 Ca em.Wait,ag.box bs [.pointer (some ⟨z1,0,none⟩),iV sc.Epoch,iV sc.Side,iV sc.Size,iV sc.First,.pointer (some ⟨bl,0,none⟩),Cb] 133,ag.box bl [.pointer (some ⟨z1,0,none⟩),iV lg.From,iV lg.Many,iV lg.First,iV lg.Next] 198]) (fun g_:Value×Value×Value×Value×Nat=>[ag.ls g_.1 (cp kc.R x1).1.ao,ag.ls g_.2.1 (cp kc.R x1).1.Things,ag.ls g_.2.2.1 (cp kc.R x1).1.Held,ag.ls g_.2.2.2.1 (cp kc.R x1).1.Notes,ag.ls py kc.R.ao,ag.ls yv kc.R.Things,ag.ls Gt kc.R.Held,ag.ls Ce kc.R.Notes,ag.ls z17 kc.R.ao,ag.ls vj kc.R.Things,ag.ls xm kc.R.Held,ag.ls z20 kc.R.Notes,ag.ls TB kc.R.ao,ag.ls TD kc.R.Things,ag.ls TE kc.R.Held,ag.ls TF kc.R.Notes,ag.ls Cb sc.Rows,ag.ls z6 fH.R.ao,ag.ls z7 fH.R.Things,ag.ls z8 fH.R.Held,ag.ls z9 fH.R.Notes,ag.ls l5 iP.Rows,ag.acts l,ag.ls bT l,ew]) (fun g_:Value×Value×Value×Value×Nat=>True) O O O ?_ ?_
   .
    refine R.fJ (fuel:=12) dU O O mixed O<|D.q (i:=0) O (aA dU yP O) O (q.cT 0 O O aj) O<|D.q (i:=1) O (aA dU yP O) O (q.mv O) O<|D.q (i:=2) O (aA dU yP O) O (q.mv O) O<|D.q (i:=3) O (aA dU yP O) O (q.idx (i:=i) (dh 19 O) O O tF O hx1) O<|D.q (i:=4) O (aA dU yP O) O (q.gh (ds:=Am x1) (dh 19 O) hx1 O Aq O) O<|D.two (i:=5) (j:=9) O O ?_ ?_
    .
     refine Do.s (s.aT dU [4,5,6,7] _ _ _ O O O Jd O O (fun w own hw H=>BH z17 vj xm z20 kc.R x1 w own H ‹_›) O) (fun _=>(aA dU pz O)) O ?_
     rintro ⟨z33,z34,z35,z36⟩
     dsimp only
     refine D.q (i:=6) O (aA dU pz O) O (q.mv O) O<|D.q (i:=7) O (aA dU pz O) O (q.ext O O) O<|D.q (i:=8) O (aA dU pz O) O (q.ext O O) O<|D.one (i:=9) O<|Do.s (s.alloc dq O O) (fun _=>(aA su pz O)) O fun b5=>?_
     refine D.one (i:=10) O<|Do.s (s.fP 0 _ O O O (fun _ _=>rfl) (.inl aj) (fun w hw=>(ae (Sl.one (hw.bO 0 O)) (ae (Sl.one (hw.bO 1 O)) (ae (Sl.one (hw.bO 2 O)) (ae (Sl.one (hw.bO 3 O)) (ae O (ae O aO))))))) O O O) (fun _=>(aA su pz O)) O fun _=>?_
     exact D.q (i:=11) rfl (fun _=>Wd.pk [1,2,3,4,5,6,7,8] [4,5,6,7,8,9,10,11,12,13,14,15,16,17,18,19,20,21,22,23,24] rfl) rfl (q.as rfl) rfl<|D.done<|R.meet (z33,z34,z35,z36,b5) rfl (by trivial) (sF rfl) (fun _=>Wd.pc [0,1,2,3,4,5,6,7,8] [0,1,2,3,4,5,6,7,8,9,10,11,12,13,14,15,16,17,18,19,20,21,22,23,24] rfl)
    refine Do.s (s.alloc dq O O) (fun _=>(aA su yP O)) O fun b6=>?_
    refine D.one (i:=5) O<|Do.s (s.aT bZ [4,5,6,7] _ _ _ O O O Jd O O (fun w own hw H=>BH z17 vj xm z20 kc.R x1 w own H ‹_›) O) (fun _=>(aA su pz O)) O ?_
    rintro ⟨z37,z38,z39,z40⟩
    dsimp only
    refine D.q (i:=6) O (aA su pz O) O (q.mv O) O<|D.q (i:=7) O (aA su pz O) O (q.ext O O) O<|D.q (i:=8) O (aA su pz O) O (q.ext O O) O<|D.one (i:=10) O<|Do.s (s.fP 0 _ O O O (fun _ _=>rfl) (.inl aj) (fun w hw=>(ae (Sl.one (hw.bO 0 O)) (ae (Sl.one (hw.bO 1 O)) (ae (Sl.one (hw.bO 2 O)) (ae (Sl.one (hw.bO 3 O)) (ae O (ae O aO))))))) O O O) (fun _=>(aA su pz O)) O fun _=>?_
    exact D.q (i:=11) rfl (fun _=>Wd.pk [1,2,3,4,5,6,7,8] [4,5,6,7,8,9,10,11,12,13,14,15,16,17,18,19,20,21,22,23,24] rfl) rfl (q.as rfl) rfl<|D.done<|R.meet (z37,z38,z39,z40,b6) rfl (by trivial) (sF rfl) (fun _=>Wd.pc [0,1,2,3,4,5,6,7,8] [0,1,2,3,4,5,6,7,8,9,10,11,12,13,14,15,16,17,18,19,20,21,22,23,24] rfl)
   rintro ⟨z25,z26,z27,z28,b3⟩ _
   dsimp only
   have sp:Sz (i+1) p/\Inv p:=(by refine ⟨?_,f4.inv⟩;rcases f7 with e|e;(rw [e];exact hS.up (by omega));(rw [e];exact KT hS x1))
   have e0:bf (bE (aY (a8 (dL kc sc (fS em ((gP x1.N 31:Nat):Int)) lg (cp kc.R x1)).2.2.1 x1.K)).c.Rows).1=bf p:=(congrArg bf v10).trans (yl f4.inv);have sq:Sz (i+1) (bE (aY (a8 (dL kc sc (fS em ((gP x1.N 31:Nat):Int)) lg (cp kc.R x1)).2.2.1 x1.K)).c.Rows).1/\Inv (bE (aY (a8 (dL kc sc (fS em ((gP x1.N 31:Nat):Int)) lg (cp kc.R x1)).2.2.1 x1.K)).c.Rows).1:=(by rw [v10];exact ⟨DK sp.1,v11.inv⟩);obtain ⟨Rb,WT⟩:=sq;have WU:=Rb.ok (by omega);have WV:=fun (h:(cp kc.R x1).2=0)=>(zi h).1
   refine R.reg O<|R.u 3 O<|R.q (q.idx (i:=i) (dh 23 O) O O tF O hx1) O<|R.q (q.m9 (j':=8) (dh 23 O) hx1 O He O) O<|R.q (q.ln (dh 23 O) hx1 O ap O) O<|R.q (q.and (r:=(((gP x1.N 31):Nat):Int)) O O (LJ (by decide))) O<|R.s O (s.aT [3,4,5,6,0,1,2,7,8] [] _ _ _ O O O RL O O (fun w own hw H=>JF z1 B6 FK Ca em ((gP x1.N 31):Int) w own H ) O) ?_
   rintro ⟨z41,z42,z43⟩
   dsimp only
   refine R.nil<|R.reg O<|R.u 3 O<|R.q (q.idx (i:=i) (dh 23 O) O O tF O hx1) O<|R.q (q.gh (ds:=Am x1) (dh 23 O) hx1 O Aq O) O<|R.s O (s.aT [6,7,0,1,2,3,8,4,5] [4,5,6,7,16,24] _ _ _ O O O NN O O (fun w own hw H=>yt bk py yv Gt Ce kc x1 bs Cb sc z1 z41 z42 z43 (fS em ((gP x1.N 31):Int)) bl lg w own H ‹_› ‹_› (by omega) ‹_› ‹_› ‹_› ‹_›) O) ?_
   rintro ⟨z44,z45,z46,z47,z48,z49,z50,z51,z52⟩
   dsimp only
   refine R.u 1 O<|R.nil<|R.reg O<|R.u 3 O<|R.q (q.idx (i:=i) (dh 28 O) O O tF O hx1) O<|R.q (q.m9 (j':=9) (dh 28 O) hx1 O Hf O) O<|R.q (q.ln (dh 28 O) hx1 O L5 O) O<|R.s O (s.aT [2,3,4,5,0,1,6,7,8] [] _ _ _ O O O RN O O (fun w own hw H=>AK z1 z49 z50 z51 (dL kc sc (fS em ((gP x1.N 31):Int)) lg (cp kc.R x1)).2.2.1 x1.K w own H ‹_› ‹_›) O) ?_
   rintro ⟨z53,z54,z55⟩
   dsimp only
   refine R.nil<|R.reg O<|R.u 1 O<|R.s O (s.aT bZ [29] _ _ _ O O O Jb O O (fun w own hw H=>ut z1 z53 z54 z55 (a8 (dL kc sc (fS em ((gP x1.N 31):Int)) lg (cp kc.R x1)).2.2.1 x1.K) w own H ‹_› ‹_› ‹_› ‹_› ‹_›) O) ?_
   rintro ⟨z56,z57,z58,z59,z60,z61,z62,z63,z64,z65,z66⟩
   dsimp only
   refine R.u 5 O<|R.nil<|R.reg O<|R.u 1 O<|R.q (q.ux O O Tryz.underlying38) O<|R.nil<|R.aD O O<|R.reg O<|R.u 2 O<|R.nil<|R.reg O<|R.u 1 O<|R.s O (s.aT [4,0,1,2,3,5,6,7,8,9,10,11] bJ _ _ _ O O O Jc O O (fun w own hw H=>sr z59 z60 z61 z62 z63 z64 (⟨(bE (aY (a8 (dL kc sc (fS em ((gP x1.N 31):Int)) lg (cp kc.R x1)).2.2.1 x1.K)).c.Rows).1⟩:jM) w own H ‹_›) O) ?_
   rintro ⟨z67,z68,z69,z70,z71,z72,z73,z74⟩
   dsimp only
   refine R.s O (s.alloc dq O O) fun b7=>?_
   refine R.s O (s.fP 0 _ O O O (fun _ _=>rfl) (.inl aj) (fun w hw=>(ae (Sl.one (hw.bO 4 O)) (ae (Sl.one (hw.bO 5 O)) (ae (Sl.one (hw.bO 6 O)) (ae (Sl.one (hw.bO 7 O)) (ae O (ae O aO))))))) O O O) fun _=>?_
   refine R.nil<|R.reg O<|R.u 1 O<|?_
   by_cases h3:(cp kc.R x1).2=0
   .
    refine R.q (q.dx O O Tryz.underlying38) O<|R.nil<|R.aD O O ?_
    have hz1:=UM ‹_›;have hz2:=(zi ‹_›).1
    refine R.reg O<|R.u 1 O<|?_
    by_cases h4:(dL kc sc (fS em ((gP x1.N 31):Int)) lg (cp kc.R x1)).2.2.2.2=0
    .
     refine R.q (q.lP O O Tryz.underlying38) O<|R.u 1 O<|R.qg O (q.cT 0 O O aj) O<|R.qg O (q.cT 11 O O aj) O<|R.s O (s.aT yQ [4,5,6,7,18,19,20,21,42] _ _ _ O O O za O O (fun w own hw H=>oc z71 z72 z73 z74 (bE (aY (a8 (dL kc sc (fS em ((gP x1.N 31):Int)) lg (cp kc.R x1)).2.2.1 x1.K)).c.Rows).1 z25 z26 z27 z28 (cp kc.R x1).1 w own H (by exact ⟨by assumption,by assumption,by assumption,by assumption⟩)) O) fun _=>?_
     refine R.qg O (q.not O) O<|R.u 2 O<|?_
     rcases Bool.eq_false_or_eq_true (decide (bf (bE (aY (a8 (dL kc sc (fS em ((gP x1.N 31):Int)) lg (cp kc.R x1)).2.2.1 x1.K)).c.Rows).1=bf (cp kc.R x1).1)) with h5|h5
     .
      rw [h5]
      refine R.qg O (q.cT 0 O O aj) O<|R.qg O (q.cT 12 O O aj) O<|R.s O (s.aT yQ [4,5,6,7,26,27,28,29,42] _ _ _ O O O za O O (fun w own hw H=>oc z71 z72 z73 z74 (bE (aY (a8 (dL kc sc (fS em ((gP x1.N 31):Int)) lg (cp kc.R x1)).2.2.1 x1.K)).c.Rows).1 z17 vj xm z20 kc.R w own H (by exact ⟨by assumption,by assumption,by assumption,by assumption⟩)) O) fun _=>?_
      refine R.qg O (q.not O) O<|R.u 1 O<|?_
      rcases Bool.eq_false_or_eq_true (decide (bf (bE (aY (a8 (dL kc sc (fS em ((gP x1.N 31):Int)) lg (cp kc.R x1)).2.2.1 x1.K)).c.Rows).1=bf kc.R)) with h6|h6
      .
       rw [h6]
       refine R.u 6 O<|R.nil<|R.aD O O<|R.reg O<|R.u 1 O<|R.q (q.bA (r:=((i+1:Nat):Int)) O O) O<|R.u 1 O<|R.nil<|R.back (i+1,u2,(a8 (dL kc sc (fS em ((gP x1.N 31):Int)) lg (cp kc.R x1)).2.2.1 x1.K),z56,z57,z58,(⟨(bE (aY (a8 (dL kc sc (fS em ((gP x1.N 31):Int)) lg (cp kc.R x1)).2.2.1 x1.K)).c.Rows).1⟩:jM),z67,z68,z69,z70,z59,(aY (a8 (dL kc sc (fS em ((gP x1.N 31):Int)) lg (cp kc.R x1)).2.2.1 x1.K)).c,z65,z64,(aY (a8 (dL kc sc (fS em ((gP x1.N 31):Int)) lg (cp kc.R x1)).2.2.1 x1.K)).L,z66) O (by ((try dsimp only);exact ⟨by omega,by rw [v10];exact v11.up (by omega),Rb⟩)) (by dsimp only;omega) (sF O) (aA Ci Cj O)
      rw [h6]
      refine R.qg O (q.cT 0 O O aj) O<|R.qg O (q.cT 11 O O aj) O<|R.s O (s.aT yQ [4,5,6,7,18,19,20,21,42] _ _ _ O O O za O O (fun w own hw H=>oc z71 z72 z73 z74 (bE (aY (a8 (dL kc sc (fS em ((gP x1.N 31):Int)) lg (cp kc.R x1)).2.2.1 x1.K)).c.Rows).1 z25 z26 z27 z28 (cp kc.R x1).1 w own H (by exact ⟨by assumption,by assumption,by assumption,by assumption⟩)) O) fun _=>?_
      refine R.qg O (q.not O) O<|R.u 2 O<|R.nil<|R.cond O O (fun h7=>?_) (fun h7=>?_)
      .exact absurd h7 (by rw [h5];decide)
      refine R.reg O<|R.u 1 O<|R.q (q.bA (r:=((i+1:Nat):Int)) O O) O<|R.u 1 O<|R.nil<|R.back (i+1,u2,(a8 (dL kc sc (fS em ((gP x1.N 31):Int)) lg (cp kc.R x1)).2.2.1 x1.K),z56,z57,z58,(⟨(bE (aY (a8 (dL kc sc (fS em ((gP x1.N 31):Int)) lg (cp kc.R x1)).2.2.1 x1.K)).c.Rows).1⟩:jM),z67,z68,z69,z70,z59,(aY (a8 (dL kc sc (fS em ((gP x1.N 31):Int)) lg (cp kc.R x1)).2.2.1 x1.K)).c,z65,z64,(aY (a8 (dL kc sc (fS em ((gP x1.N 31):Int)) lg (cp kc.R x1)).2.2.1 x1.K)).L,z66) O (by ((try dsimp only);exact ⟨by omega,by rw [v10];exact v11.up (by omega),Rb⟩)) (by dsimp only;omega) (sF O) (aA Ci Cj O)
     rw [h5]
     exact R.u 11 O<|R.nil<|R.az O O<|R.reg O<|R.u 1 O<|R.nil<|R.rv O Tryz.results6 O (rB (by (exfalso;exact Ow ‹_› (e0.trans (congrArg bf (f6 ‹_›))))))
    refine R.q (q.jx O O Tryz.underlying38) O<|R.u 7 O<|R.qg O (q.cT 0 O O aj) O<|R.qg O (q.cT 12 O O aj) O<|R.s O (s.aT yQ [4,5,6,7,26,27,28,29,42] _ _ _ O O O za O O (fun w own hw H=>oc z71 z72 z73 z74 (bE (aY (a8 (dL kc sc (fS em ((gP x1.N 31):Int)) lg (cp kc.R x1)).2.2.1 x1.K)).c.Rows).1 z17 vj xm z20 kc.R w own H (by exact ⟨by assumption,by assumption,by assumption,by assumption⟩)) O) fun _=>?_
    refine R.qg O (q.not O) O<|R.u 1 O<|?_
    rcases Bool.eq_false_or_eq_true (decide (bf (bE (aY (a8 (dL kc sc (fS em ((gP x1.N 31):Int)) lg (cp kc.R x1)).2.2.1 x1.K)).c.Rows).1=bf kc.R)) with h8|h8
    .
     rw [h8]
     refine R.u 6 O<|R.nil<|R.aD O O<|R.reg O<|R.u 1 O<|R.q (q.bA (r:=((i+1:Nat):Int)) O O) O<|R.u 1 O<|R.nil<|R.back (i+1,u2,(a8 (dL kc sc (fS em ((gP x1.N 31):Int)) lg (cp kc.R x1)).2.2.1 x1.K),z56,z57,z58,(⟨(bE (aY (a8 (dL kc sc (fS em ((gP x1.N 31):Int)) lg (cp kc.R x1)).2.2.1 x1.K)).c.Rows).1⟩:jM),z67,z68,z69,z70,z59,(aY (a8 (dL kc sc (fS em ((gP x1.N 31):Int)) lg (cp kc.R x1)).2.2.1 x1.K)).c,z65,z64,(aY (a8 (dL kc sc (fS em ((gP x1.N 31):Int)) lg (cp kc.R x1)).2.2.1 x1.K)).L,z66) O (by ((try dsimp only);exact ⟨by omega,by rw [v10];exact v11.up (by omega),Rb⟩)) (by dsimp only;omega) (sF O) (aA Ci Cj O)
    rw [h8]
    refine R.qg O (q.cT 0 O O aj) O<|R.qg O (q.cT 11 O O aj) O<|R.s O (s.aT yQ [4,5,6,7,18,19,20,21,42] _ _ _ O O O za O O (fun w own hw H=>oc z71 z72 z73 z74 (bE (aY (a8 (dL kc sc (fS em ((gP x1.N 31):Int)) lg (cp kc.R x1)).2.2.1 x1.K)).c.Rows).1 z25 z26 z27 z28 (cp kc.R x1).1 w own H (by exact ⟨by assumption,by assumption,by assumption,by assumption⟩)) O) fun _=>?_
    refine R.qg O (q.not O) O<|R.u 2 O<|R.nil<|R.cond O O (fun h9=>?_) (fun h9=>?_)
    .
     exact R.reg O<|R.u 1 O<|R.nil<|R.rv O Tryz.results6 O (rB (by (exfalso;(rcases f7 with e|e <;> first|exact Ow ‹_› (e0.trans (congrArg bf e))|exact LK ‹_› (e0.trans (congrArg bf e))))))
    refine R.reg O<|R.u 1 O<|R.q (q.bA (r:=((i+1:Nat):Int)) O O) O<|R.u 1 O<|R.nil<|R.back (i+1,u2,(a8 (dL kc sc (fS em ((gP x1.N 31):Int)) lg (cp kc.R x1)).2.2.1 x1.K),z56,z57,z58,(⟨(bE (aY (a8 (dL kc sc (fS em ((gP x1.N 31):Int)) lg (cp kc.R x1)).2.2.1 x1.K)).c.Rows).1⟩:jM),z67,z68,z69,z70,z59,(aY (a8 (dL kc sc (fS em ((gP x1.N 31):Int)) lg (cp kc.R x1)).2.2.1 x1.K)).c,z65,z64,(aY (a8 (dL kc sc (fS em ((gP x1.N 31):Int)) lg (cp kc.R x1)).2.2.1 x1.K)).L,z66) O (by ((try dsimp only);exact ⟨by omega,by rw [v10];exact v11.up (by omega),Rb⟩)) (by dsimp only;omega) (sF O) (aA Ci Cj O)
   refine R.q (q.dX O O Tryz.underlying38) O<|R.nil<|R.az O O<|R.reg O<|R.q (q.cT 0 O O aj) O<|R.q (q.cT 12 O O aj) O<|R.s O (s.aT yQ [4,5,6,7,26,27,28,29,42] _ _ _ O O O za O O (fun w own hw H=>oc z71 z72 z73 z74 (bE (aY (a8 (dL kc sc (fS em ((gP x1.N 31):Int)) lg (cp kc.R x1)).2.2.1 x1.K)).c.Rows).1 z17 vj xm z20 kc.R w own H (by exact ⟨by assumption,by assumption,by assumption,by assumption⟩)) O) fun _=>?_
   refine R.q (q.not O) O<|R.nil<|R.cond O O (fun h10=>?_) (fun h10=>?_)
   .
    exact R.reg O<|R.u 1 O<|R.nil<|R.rv O Tryz.results6 O (rB (by (exfalso;exact LK ‹_› (e0.trans (congrArg bf (f5 ‹_›))))))
   refine R.reg O<|R.u 1 O<|R.q (q.bA (r:=((i+1:Nat):Int)) O O) O<|R.u 1 O<|R.nil<|R.back (i+1,u2,(a8 (dL kc sc (fS em ((gP x1.N 31):Int)) lg (cp kc.R x1)).2.2.1 x1.K),z56,z57,z58,(⟨(bE (aY (a8 (dL kc sc (fS em ((gP x1.N 31):Int)) lg (cp kc.R x1)).2.2.1 x1.K)).c.Rows).1⟩:jM),z67,z68,z69,z70,z59,(aY (a8 (dL kc sc (fS em ((gP x1.N 31):Int)) lg (cp kc.R x1)).2.2.1 x1.K)).c,z65,z64,(aY (a8 (dL kc sc (fS em ((gP x1.N 31):Int)) lg (cp kc.R x1)).2.2.1 x1.K)).L,z66) O (by ((try dsimp only);exact ⟨by omega,by rw [v10];exact v11.up (by omega),Rb⟩)) (by dsimp only;omega) (sF O) (aA Ci Cj O)
  exact R.q (q.cS O O) O<|R.nil<|R.aD O O<|R.reg O<|R.u 1 O<|R.nil<|R.rv O Tryz.results6 O (rB (by rfl))
 refine R.c (q.call RH O O (fun w hw=>(cv (congrArg Value.bool h1) (xM _ l 60 w (hw.bO 1 O) (hw.acts 0 O) )))) O<|R.u 1 O<|R.nil ?_
 exact R.az O O<|R.reg O<|R.u 1 O<|R.nil<|R.rv O Tryz.results6 O (rB (by rfl))
end
section
open Go Go.RowKit
theorem TH:(Tryz.prog.globals[1]?).map (·.type)=some 294:=by kernel_rfl
theorem TI:(Tryz.prog.globals[2]?).map (·.type)=some 38:=by kernel_rfl
theorem NC:Tryz.prog.cellsOf 294=20:=by kernel_rfl
theorem QP:∀t,Tryz.prog.underlying 294=some (.array 20 t)->Tryz.prog.cellsOf t=1:=fun t h=>by
 rw [Tryz.underlying294] at h;injection h with h;injection h with _ h;subst h;kernel_rfl
theorem OD : "*" ++ "errors.errorString" = "*errors.errorString" :=by decide
theorem QQ:∀u,Tryz.prog.typeName? 3 u=some "*errors.errorString" → u=308:=fun u h =>
 typeName_ptr_named (nm:= "errors.errorString") (by rw [OD];kernel_rfl) (by kernel_rfl) (by decide) u (by rw [OD];exact h)
theorem ND {W:World}(h:laidMetH Tryz.prog [("math/bits.deBruijn32tab",Rows.laid_math_bits_deBruijn32tab),("math/bits.deBruijn64tab",Rows.laid_math_bits_deBruijn64tab),("internal/strconv.uint64pow10",Rows.laid_internal_strconv_uint64pow10),("strconv.ErrRange",Rows.laid_strconv_ErrRange),("strconv.ErrSyntax",Rows.laid_strconv_ErrSyntax)] W):DU W:=by
 rw [MakeChecks.laidMetH_plain _ _ _ (by kernel_rfl)] at h
 have h3:=h.tail.tail
 have h5:=h3.tail.tail
 refine ⟨Lib.tabIs_of_head Qu TH Tryz.underlying294 Tryz.underlying33 (QP _ Tryz.underlying294) NC (rest:=[("strconv.ErrRange",Rows.laid_strconv_ErrRange),("strconv.ErrSyntax",Rows.laid_strconv_ErrSyntax)]) h3,?_⟩
 obtain ⟨a,s,h6,_⟩:=laid_sentinel (text:=[105,110,118,97,108,105,100,32,115,121,110,116,97,120]) h5 Qv TI Tryz.underlying38 QQ Tryz.underlying308 Tryz.underlying310 rfl rfl Tryz.underlying9 (by kernel_rfl) (by kernel_rfl)
 exact ⟨_,_,h6⟩
end
end Go.Proofs.YtkbhcbipadkcaaaGreatDoor
section
namespace Go.Proofs.YtkbhcbipadkcaaaGreatDoor.TopFalls
open Go.ChangeShapes Go.WideShapes Go.ChangeAt Go.RowKit
set_option linter.unusedVariables false
set_option linter.unusedSimpArgs false
theorem own:ownKnob Tryz.prog.godebug=none:=by kernel_rfl
theorem laidOut:laidOutB Tryz.prog=true:=by kernel_rfl
theorem back:∀t∈Tryz.f6.params.toList,Tryz.prog.readableRec t=true/\t<Tryz.prog.types.size:=by
 rw [Tryz.params6];intro t ht;simp at ht
 (repeat' rcases ht with rfl|ht) <;> first|exact ⟨by kernel_rfl,of_decide_eq_true (by kernel_rfl)⟩ | (subst ht;exact ⟨by kernel_rfl,of_decide_eq_true (by kernel_rfl)⟩)
theorem LL (os:Os)(args:Array Value):laidMetH Tryz.prog Rows.topFallsRow.laid ((World.doorLaid Tryz.prog 400 os).forCall (fun _ _=>0) ⟨#[],args,[]⟩).memory :=
 laidMetH_of_parts3 (fuel:=8) (laidMet_of_run' 8 (by kernel_rfl) (by kernel_rfl)) (by kernel_rfl) (by kernel_rfl)
set_option maxRecDepth 100000 in
theorem lifted (os:Os)(started:os.Started)(H:Type)(enc:TypeId×Value->H) :
 ReturnsInHanded {} Tryz.checked os 6 .any (fun w args=>(Rows.topFallsSpec.pre enc Tryz.prog Tryz.f6 [] false w args/\laidMetH Tryz.prog Rows.topFallsRow.laid w)/\sizedMet enc Tryz.prog Tryz.f6 (OpenSpec.ofChange Rows.topFallsSpec) false w args)
  (Rows.topFallsSpec.post enc Tryz.prog Tryz.f6 false true false false):=by
 refine returnsInHanded_of_change_and (C:=Tryz.checked) (X:=fun w _=>laidMetH Tryz.prog Rows.topFallsRow.laid w) (fun _ _ _ hh h=>h.of_heap hh) own started (by kernel_rfl) Tryz.func6
  (ChangeSpec.witness_shaped (enc:=enc) (C:=Tryz.checked) (os:=os) (X:=fun w _=>laidMetH Tryz.prog Rows.topFallsRow.laid w) false (World.doorLaid Tryz.prog 400 os) #[.slice none 0 0] 8 rfl (World.shaped_of_RefB (by kernel_rfl) (by kernel_rfl)) (by kernel_rfl) (by kernel_rfl) (by kernel_rfl) (LL os _)) ?_
 intro W base args ds gs before hval0 hW _ _ hL _
 have hval:∀ (j:Nat) t v,Tryz.f6.params[j]? = some t->args[j]? = some v->Value.okWide Tryz.prog W .any base t v:=hval0
 have hW':=hW
 obtain ⟨p,q,Vl,hV,rfl,hfz,hnd⟩:=hW
 have hA:DataW.TrodAll enc Tryz.prog W 0 (fun _=>true) true Tryz.f6.params.toList args.toList ds p:=Vl
 have hA2:=hA
 have hback:=back
 rw [Tryz.params6] at hA hval hA2 hback
 obtain ⟨v0,WW,d0,ds0,p0,q0,hargs,rfl,rfl,h0,r0⟩:=trodAll_cons hA
 obtain ⟨rfl,rfl,rfl⟩:=trodAll_nil r0
 obtain rfl:args = #[v0]:=by cases args;simp_all
 obtain ⟨rfl,rfl⟩:=trodVars_none hV
 obtain ⟨x0,s0,c0,f0⟩:=I3 (hval 0 _ v0 rfl rfl) h0
 clear Vl hval0
 refine (B5 _ x0 W s0 c0 (ND hL) (fun a ha=>⟨(f0 a ha).2.2.2.2.2.2.1.2,(f0 a ha).2.2.2.2.2.2.2.1.1,(f0 a ha).2.2.2.2.2.2.2.1.2⟩)).mono fun e W' ⟨he,Vm⟩=>?_
 subst he
 exact ⟨_,rfl,_,_,_,[],_,[],hW',trodAll_mk1 (shut_bool Tryz.underlying4 _),trodAll_back laidOut Vm.below hback hA2,rfl,Vm.below.frame _,fun h=>by cases h⟩
theorem over:Rows.topFallsRow.holds Tryz.pinned (OpenSpec.ofChange Rows.topFallsSpec) :=
 OpenClaim.holds_of_wide 6 Tryz.f6 rfl rfl rfl rfl rfl rfl rfl ⟨rfl,rfl,rfl,rfl,rfl⟩ rfl rfl rfl rfl rfl (by kernel_rfl) Tryz.func6 (by kernel_rfl)
  (of_decide_eq_true (by kernel_rfl)) (by unfold Func.isWrapper;first|(rw [if_pos (by decide +kernel)];kernel_rfl)|(rw [if_neg (by decide +kernel)];exact ⟨rfl,rfl⟩))
  (fun os started H enc _=>lifted os started H enc)
theorem proved:Rows.TopFallsCardSaid :=
 Claim7.holds_tied_plain_at .later [] [.data,.data,.data,.sentinel,.sentinel] true (true,"740941bdca030c52b5d405e0b18da6d55d3bb80363adaeeb70679935f3666678") true
  over (fun _ h=>by cases h) (by kernel_rfl) (fun _ h=>by cases h) topFalls_row_tie rfl ⟨rfl,rfl⟩ (by kernel_rfl) rfl
  (fun f fn hf hfn=>by
   obtain rfl:f=6:=Option.some.inj ((show Tryz.prog.funcNamed "writkeep/writkeeptop.TopFalls" = some 6 by kernel_rfl).symm.trans hf) |>.symm
   obtain rfl:fn=Tryz.f6:=(Option.some.inj (Tryz.func6.symm.trans hfn)).symm
   exact ⟨by kernel_rfl,fun j t ht=>by
    have hall:(Tryz.f6.params.toList.all fun u => !Tryz.prog.wantsStandIn u)=true:=by kernel_rfl
    have hm:t∈Tryz.f6.params.toList:=by simpa using Array.mem_of_getElem? ht
    have hq:=List.all_eq_true.1 hall t hm
    exact (show Tryz.prog.wantsStandIn t=false by simpa using hq)⟩)
  (by kernel_rfl)
end Go.Proofs.YtkbhcbipadkcaaaGreatDoor.TopFalls
end
