import Derived.Test.YtkbhcbipadkcaaaGreatDoorTW29
import Derived.Test.YtkbhcbipadkcaaaGreatDoorRows
import Derived.Stop.LaidErr
import Derived.Lib.LaidTab
import Derived.MakeChecks
import Derived.Test.YtkbhcbipadkcaaaGreatDoorTie
import Derived.Test.YtkbhcbipadkcaaaGreatDoorCards
import Derived.LaidMore
import Derived.LaidLaws
import Derived.SevenTiedAt
import Derived.Stop.Joined
/-
  what is done on a disk is done as it is without one, whole, or not at all. No condition: the library's table and its error are tied to the program's text.
-/
namespace Go.Proofs.YtkbhcbipadkcaaaGreatDoor
set_option linter.unusedVariables false
set_option linter.unusedSimpArgs false
set_option maxRecDepth 100000
set_option maxHeartbeats 90000000
section
open Go Go.RowKit
attribute [local irreducible] bE cu bA kx dL dNew cE
theorem IX (b_k:Nat)(mP mQ mR mS:Value)(k:kF)(cF:Nat)(aL:Value)(st:ka)(aH:Nat)(ay aG az:Value)(dk:cx)(bz:Nat)(lg:Lg)(w:World)(own:List Nat)(H:HN w own [ag.box b_k [.pointer (some ⟨cF,0,none⟩),mP,mQ,mR,mS,iV k.R.ae,iV k.R.ah] 78,ag.box cF [.pointer (some ⟨aH,0,none⟩),iV st.Epoch,iV st.Side,iV st.Size,iV st.First,.pointer (some ⟨bz,0,none⟩),aL] 133,ag.box aH [ay,aG,az,iV dk.Fuse,.bool dk.Down] 112,ag.row 9 ay dk.Kept,ag.row 9 aG dk.Now,ag.row 114 az dk.Wait,ag.box bz [.pointer (some ⟨aH,0,none⟩),iV lg.From,iV lg.Many,iV lg.First,iV lg.Next] 198] [ag.ls mP k.R.ao,ag.ls mQ k.R.Things,ag.ls mR k.R.Held,ag.ls mS k.R.Notes,ag.ls aL st.Rows])(hD:fN dk.Now.length 60000 dk/\dk.Now.length<=200/\166<=dk.Now.length)(hS:0<=st.Epoch/\st.Epoch<=1000000000/\0<=st.Side/\st.Side<=1/\0<=lg.Many/\lg.Many<=1000/\1<=lg.First/\lg.First<=1000000000/\0<=lg.From/\lg.From<=1000/\0<=lg.Next/\lg.Next<=1000)(hl:st.Rows.length<=60)(hF:∀c∈st.Rows,iI c=0):RC Tryz.prog 12 #[.pointer (some ⟨b_k,0,none⟩)] H (fun _:Value×Value×Value×Value×Value×Value×Value×Value×Nat=>da (cu (mkS st lg) dk).2.2) (fun z=>[ag.box b_k [.pointer (some ⟨cF,0,none⟩),z.1,z.2.1,z.2.2.1,z.2.2.2.1,iV k.R.ae,iV k.R.ah] 78,ag.box cF [.pointer (some ⟨aH,0,none⟩),iV (cu (mkS st lg) dk).1.c.Epoch,iV (cu (mkS st lg) dk).1.c.Side,iV (cu (mkS st lg) dk).1.c.Size,iV (cu (mkS st lg) dk).1.c.First,.pointer (some ⟨z.2.2.2.2.2.2.2.2,0,none⟩),z.2.2.2.2.1] 133,ag.box aH [z.2.2.2.2.2.1,z.2.2.2.2.2.2.1,z.2.2.2.2.2.2.2.1,iV (cu (mkS st lg) dk).2.1.Fuse,.bool (cu (mkS st lg) dk).2.1.Down] 112,ag.row 9 z.2.2.2.2.2.1 (cu (mkS st lg) dk).2.1.Kept,ag.row 9 z.2.2.2.2.2.2.1 (cu (mkS st lg) dk).2.1.Now,ag.row 114 z.2.2.2.2.2.2.2.1 (cu (mkS st lg) dk).2.1.Wait,ag.box z.2.2.2.2.2.2.2.2 [.pointer (some ⟨aH,0,none⟩),iV (cu (mkS st lg) dk).1.L.From,iV (cu (mkS st lg) dk).1.L.Many,iV (cu (mkS st lg) dk).1.L.First,iV (cu (mkS st lg) dk).1.L.Next] 198]) (fun z=>[ag.ls z.1 k.R.ao,ag.ls z.2.1 k.R.Things,ag.ls z.2.2.1 k.R.Held,ag.ls z.2.2.2.1 k.R.Notes,ag.ls z.2.2.2.2.1 (cu (mkS st lg) dk).1.c.Rows]):=by
 have eE:=H.cap 3 rfl;have eF:=H.cO 3 rfl
 have fD:=H.cap 4 rfl;have fE:=H.cO 4 rfl
 have eG:=H.cap 5 rfl;have eH:=H.cO 5 rfl
 have qD:=H.cq 0 rfl
 have pb:=H.cq 1 rfl
 have sH:=H.cq 2 rfl
 have qE:=H.cq 3 rfl
 have qU:=H.cq 4 rfl
 have hD2:fN dk.Now.length 70000 dk/\dk.Now.length<=200/\166<=dk.Now.length:=⟨hD.1.up (by omega),hD.2⟩
 refine R.bD [(0,.pointer (some ⟨b_k,0,none⟩))] Tryz.func12 O O O O H<|R.reg O<|R.u 1 O<|R.nil<|R.reg O<|R.u 1 O<|R.q (q.cb O) O<|R.q (q.aO O zm O) O<|R.q (q.ld 0 O O iP O) O<|R.s O (s.aW [1,2,3,4,5,6,0,7] [4] _ _ _ O O O N5 O O (fun w own hw H=>Di cF aL st aH ay aG az dk bz lg w own H ‹_› (by omega) (by omega) ‹_›) O) ?_
 rintro ⟨z1,z2,z3,z4,z5⟩
 dsimp only
 refine R.u 1 O<|R.nil ?_
 have hz:(k,(cu (mkS st lg) dk).1.c,(cu (mkS st lg) dk).2.1,(cu (mkS st lg) dk).1.L,(cu (mkS st lg) dk).2.2)=(k,(cu (mkS st lg) dk).1.c,(cu (mkS st lg) dk).2.1,(cu (mkS st lg) dk).1.L,(cu (mkS st lg) dk).2.2):=by (rfl)
 exact R.w1 (mP,mQ,mR,mS,z1,z2,z3,z4,z5) [6,0,1,2,3,4,5,7] [1,2,3,4,0] O Tryz.results12 (RV.tmp O) O O O O
theorem pd (b_k:Nat)(mP mQ mR mS:Value)(OW:Nat)(k:kF)(w:World)(own:List Nat)(H:HN w own [ag.box b_k [.pointer (some ⟨OW,0,none⟩),mP,mQ,mR,mS,iV k.R.ae,iV k.R.ah] 78] [ag.ls mP k.R.ao,ag.ls mQ k.R.Things,ag.ls mR k.R.Held,ag.ls mS k.R.Notes])(hk:Ok k.R):RC Tryz.prog 20 #[.pointer (some ⟨b_k,0,none⟩)] H (fun z:Value×Value×Value×Value×Value×Value×Value×Value => .agg #[z.2.2.2.2.1,z.2.2.2.2.2.1,z.2.2.2.2.2.2.1,z.2.2.2.2.2.2.2,iV k.R.ae,iV k.R.ah]) (fun z=>[ag.box b_k [.pointer (some ⟨OW,0,none⟩),z.1,z.2.1,z.2.2.1,z.2.2.2.1,iV k.R.ae,iV k.R.ah] 78]) (fun z=>[ag.ls z.1 k.R.ao,ag.ls z.2.1 k.R.Things,ag.ls z.2.2.1 k.R.Held,ag.ls z.2.2.2.1 k.R.Notes,ag.ls z.2.2.2.2.1 k.R.ao,ag.ls z.2.2.2.2.2.1 k.R.Things,ag.ls z.2.2.2.2.2.2.1 k.R.Held,ag.ls z.2.2.2.2.2.2.2 k.R.Notes]):=by
 have qD:=H.cq 0 rfl
 have pb:=H.cq 1 rfl
 have sH:=H.cq 2 rfl
 have qE:=H.cq 3 rfl
 refine R.bD [(0,.pointer (some ⟨b_k,0,none⟩))] Tryz.func20 O O O O H<|R.reg O<|R.s O (s.alloc dI O O) fun b1=>?_
 refine R.nil<|R.reg O<|R.u 1 O<|R.q (q.cb O) O<|R.q (q.aO O nM O) O<|R.q (q.Hc (ds:=[mP,mQ,mR,mS,iV k.R.ae,iV k.R.ah]) 1 O O aj O) O<|R.s O (s.aW [0,1,2] bJ _ _ _ O O O N8 O O (fun w own hw H=>Ad mP mQ mR mS k.R w own H ‹_›) O) ?_
 rintro ⟨z1,z2,z3,z4⟩
 dsimp only
 refine R.s O (s.fS 0 _ O O O (fun _ _=>rfl) (.inl aj) (fun w hw=>(af (Sl.one (hw.bG 0 O)) (af (Sl.one (hw.bG 1 O)) (af (Sl.one (hw.bG 2 O)) (af (Sl.one (hw.bG 3 O)) (af O (af O aP))))))) O O O) fun _=>?_
 exact R.nil<|R.w1 (mP,mQ,mR,mS,z1,z2,z3,z4) [1,2] [4,5,6,7,0,1,2,3] O Tryz.results20 (RV.cell 0 O O aj) O O O O
theorem En (bS bK bL bM:Value)(r:aC)(JJ:Nat)(a:dQ)(w:World)(own:List Nat)(H:HN w own [ag.box JJ (Ez a) 36] [ag.ls bS r.ao,ag.ls bK r.Things,ag.ls bL r.Held,ag.ls bM r.Notes])(hk:Ok r):RC Tryz.prog 50 #[.agg #[bS,bK,bL,bM,iV r.ae,iV r.ah],.pointer (some ⟨JJ,0,none⟩)] H (fun z:Value×Value×Value×Value => .tuple #[.agg #[z.1,z.2.1,z.2.2.1,z.2.2.2,iV (cE r a).1.ae,iV (cE r a).1.ah],da (cE r a).2]) (fun _=>[]) (fun z=>[ag.ls z.1 (cE r a).1.ao,ag.ls z.2.1 (cE r a).1.Things,ag.ls z.2.2.1 (cE r a).1.Held,ag.ls z.2.2.2 (cE r a).1.Notes]):=by
 have eJ:=H.cq 0 rfl
 have dN:=H.cq 1 rfl
 have fH:=H.cq 2 rfl
 have eK:=H.cq 3 rfl
 refine R.bD [(0,.agg #[bS,bK,bL,bM,iV r.ae,iV r.ah]),(1,.pointer (some ⟨JJ,0,none⟩))] Tryz.func50 O O O O H<|R.reg O<|R.s O (s.box O O O) fun b1=>?_
 refine R.s O (s.alloc dI O O) fun b2=>?_
 refine R.u 1 O<|R.nil<|R.reg O<|R.q (q.dh 1 O O aj) O<|R.q (q.dh 2 O O sT) O<|R.s O (s.aW bJ bJ _ _ _ O O O N2 O O (fun w own hw H=>GJ bS bK bL bM r a w own H ‹_›) O) ?_
 rintro ⟨z1,z2,z3,z4⟩
 dsimp only
 refine R.u 2 O<|R.s O (s.fS 0 _ O O O (fun _ _=>rfl) (.inl aj) (fun w hw=>(af (Sl.one (hw.bG 0 O)) (af (Sl.one (hw.bG 1 O)) (af (Sl.one (hw.bG 2 O)) (af (Sl.one (hw.bG 3 O)) (af O (af O aP))))))) O O O) fun _=>?_
 refine R.u 1 O<|R.nil ?_
 have hz:cE r a=(((cE r a).1),(cE r a).2):=by (rfl)
 rw [hz]
 exact R.w2 (z1,z2,z3,z4) [3] bJ O Tryz.results50 (RV.cell 0 O O aj) (RV.tmp O) O O O (dA O O)
theorem NM (b_k:Nat)(mP mQ mR mS:Value)(k:kF)(JJ:Nat)(a:dQ)(cF:Nat)(aL:Value)(st:ka)(aH:Nat)(ay aG az:Value)(dk:cx)(bz:Nat)(lg:Lg)(w:World)(own:List Nat)(H:HN w own [ag.box b_k [.pointer (some ⟨cF,0,none⟩),mP,mQ,mR,mS,iV k.R.ae,iV k.R.ah] 78,ag.box JJ (Ez a) 36,ag.box cF [.pointer (some ⟨aH,0,none⟩),iV st.Epoch,iV st.Side,iV st.Size,iV st.First,.pointer (some ⟨bz,0,none⟩),aL] 133,ag.box aH [ay,aG,az,iV dk.Fuse,.bool dk.Down] 112,ag.row 9 ay dk.Kept,ag.row 9 aG dk.Now,ag.row 114 az dk.Wait,ag.box bz [.pointer (some ⟨aH,0,none⟩),iV lg.From,iV lg.Many,iV lg.First,iV lg.Next] 198] [ag.ls mP k.R.ao,ag.ls mQ k.R.Things,ag.ls mR k.R.Held,ag.ls mS k.R.Notes,ag.ls aL st.Rows,eC])(hD:fN dk.Now.length 60000 dk/\dk.Now.length<=200/\166<=dk.Now.length)(hS:0<=st.Epoch/\st.Epoch<=1000000000/\0<=st.Side/\st.Side<=1/\0<=lg.Many/\lg.Many<=1000/\1<=lg.First/\lg.First<=1000000000/\0<=lg.From/\lg.From<=1000/\0<=lg.Next/\lg.Next<=1000)(hl:st.Rows.length<=60)(hF:∀c∈st.Rows,iI c=0)(hk:Ok k.R)(hI:Inv k.R)(hz:(cE k.R a).2=0->Ok (cE k.R a).1):RC Tryz.prog 49 #[.pointer (some ⟨b_k,0,none⟩),.func (.func 50) #[] #[.pointer (some ⟨JJ,0,none⟩)]] H (fun _:Value×Value×Value×Value×Value×Value×Value×Value×Nat=>da (e8 k st dk lg (cE k.R a)).2.2.2.2) (fun z=>[ag.box b_k [.pointer (some ⟨cF,0,none⟩),z.1,z.2.1,z.2.2.1,z.2.2.2.1,iV (e8 k st dk lg (cE k.R a)).1.R.ae,iV (e8 k st dk lg (cE k.R a)).1.R.ah] 78,ag.box cF [.pointer (some ⟨aH,0,none⟩),iV (e8 k st dk lg (cE k.R a)).2.1.Epoch,iV (e8 k st dk lg (cE k.R a)).2.1.Side,iV (e8 k st dk lg (cE k.R a)).2.1.Size,iV (e8 k st dk lg (cE k.R a)).2.1.First,.pointer (some ⟨z.2.2.2.2.2.2.2.2,0,none⟩),z.2.2.2.2.1] 133,ag.box aH [z.2.2.2.2.2.1,z.2.2.2.2.2.2.1,z.2.2.2.2.2.2.2.1,iV (e8 k st dk lg (cE k.R a)).2.2.1.Fuse,.bool (e8 k st dk lg (cE k.R a)).2.2.1.Down] 112,ag.row 9 z.2.2.2.2.2.1 (e8 k st dk lg (cE k.R a)).2.2.1.Kept,ag.row 9 z.2.2.2.2.2.2.1 (e8 k st dk lg (cE k.R a)).2.2.1.Now,ag.row 114 z.2.2.2.2.2.2.2.1 (e8 k st dk lg (cE k.R a)).2.2.1.Wait,ag.box z.2.2.2.2.2.2.2.2 [.pointer (some ⟨aH,0,none⟩),iV (e8 k st dk lg (cE k.R a)).2.2.2.1.From,iV (e8 k st dk lg (cE k.R a)).2.2.2.1.Many,iV (e8 k st dk lg (cE k.R a)).2.2.2.1.First,iV (e8 k st dk lg (cE k.R a)).2.2.2.1.Next] 198]) (fun z=>[ag.ls z.1 (e8 k st dk lg (cE k.R a)).1.R.ao,ag.ls z.2.1 (e8 k st dk lg (cE k.R a)).1.R.Things,ag.ls z.2.2.1 (e8 k st dk lg (cE k.R a)).1.R.Held,ag.ls z.2.2.2.1 (e8 k st dk lg (cE k.R a)).1.R.Notes,ag.ls z.2.2.2.2.1 (e8 k st dk lg (cE k.R a)).2.1.Rows]):=by
 have eE:=H.cap 4 rfl;have eF:=H.cO 4 rfl
 have fD:=H.cap 5 rfl;have fE:=H.cO 5 rfl
 have eG:=H.cap 6 rfl;have eH:=H.cO 6 rfl
 have qD:=H.cq 0 rfl
 have pb:=H.cq 1 rfl
 have sH:=H.cq 2 rfl
 have qE:=H.cq 3 rfl
 have qU:=H.cq 4 rfl
 have g0:=oq hI;have g1:=vR hI a;have g2:=Ap (r:=k.R) a;have g3:=fun (h:(cE k.R a).2=0)=>oq (g1 h).1
 refine R.bD [(0,.pointer (some ⟨b_k,0,none⟩)),(1,.func (.func 50) #[] #[.pointer (some ⟨JJ,0,none⟩)])] Tryz.func49 O O O O H<|R.reg O<|R.u 1 O<|R.nil<|R.reg O<|R.u 2 O<|R.q (q.cb O) O<|R.q (q.aO O nM O) O<|R.q (q.Hc (ds:=[mP,mQ,mR,mS,iV k.R.ae,iV k.R.ah]) 0 O O aj O) O<|R.s O (s.aW bZ bJ _ _ _ O O O N8 O O (fun w own hw H=>Ad mP mQ mR mS k.R w own H ‹_›) O) ?_
 rintro ⟨z1,z2,z3,z4⟩
 dsimp only
 refine R.s O (s.aW [1,0,2,3,4,5,6,7,8] bJ _ _ _ O O O R3 O O (fun w own hw H=>En z1 z2 z3 z4 k.R JJ a w own H ‹_›) O) ?_
 rintro ⟨z5,z6,z7,z8⟩
 dsimp only
 refine R.u 3 O<|R.s O (s.alloc dI O O) fun b1=>?_
 refine R.s O (s.fS 0 _ O O O (fun _ _=>rfl) (.inl aj) (fun w hw=>(af (Sl.one (hw.bG 0 O)) (af (Sl.one (hw.bG 1 O)) (af (Sl.one (hw.bG 2 O)) (af (Sl.one (hw.bG 3 O)) (af O (af O aP))))))) O O O) fun _=>?_
 refine R.u 1 O<|R.nil<|R.reg O<|R.u 1 O<|?_
 by_cases h1:(cE k.R a).2=0
 .
  have hk2:=hz ‹_›;have hI2:=(g1 ‹_›).1;have g4:(gT (mO (bH k.R) (bH (cE k.R a).1))).length<=59:=(g1 ‹_›).2;have g5:=g3 ‹_›
  refine R.q (q.dx O O Tryz.underlying38) O<|R.nil<|R.aB O O<|R.fP (fuel:=9) bZ O O mixed O<|D.q (i:=0) O (aD bZ sK O) O (q.mv O) O<|D.q (i:=1) O (aD bZ sK O) O (q.cb O) O<|D.q (i:=2) O (aD bZ sK O) O (q.aO O nM O) O<|D.q (i:=3) O (aD bZ sK O) O (q.Hc (ds:=[mP,mQ,mR,mS,iV k.R.ae,iV k.R.ah]) 1 O O aj O) O<|D.q (i:=5) O (aD bZ sK O) O (q.dh 0 O O aj) O<|D.one (i:=4) O<|Do.s (s.aW bZ [8,9,10,11,13] _ _ _ O O O Jm O O (fun w own hw H=>yr mP mQ mR mS k.R w own H ‹_› ‹_›) O) (fun _=>(aD Ck sK O)) O fun z12=>?_
  refine D.one (i:=6) O<|Do.s (s.aW [0,1,2,3,4,5,6,7,8,9] [0,1,2,3,13] _ _ _ O O O Jm O O (fun w own hw H=>yr z5 z6 z7 z8 (cE k.R a).1 w own H ‹_› ‹_›) O) (fun _=>(aD [2,3,4,5,6,7,8,9,10] sK O)) O fun pI=>?_
  refine D.one (i:=7) O<|Do.s (s.EJ (Bl:=[ag.row 117 z12 (bH k.R),ag.row 117 pI (bH (cE k.R a).1)]) (Fl:=[ag.ls z12 (bH k.R),ag.ls pI (bH (cE k.R a).1)]) [1,0,2,3,4,5,6,7,8,9,10] [0,1] (fun kQ:Value=>kQ) (fun kQ:Value=>[ag.row 117 kQ (gT (mO (bH k.R) (bH (cE k.R a).1)))]) O O (qJ (qJ wN)) O O9 O O (fun w own hw H=>Ee z12 (bH k.R) pI (bH (cE k.R a).1) w own H (by omega)) O) (fun _=>(aD [3,4,5,6,7,8,9,10,11] sK O)) O fun yE=>?_
  refine D.q (i:=8) O (aD [3,4,5,6,7,8,9,10,11] sK O) O (q.as O) O<|D.done<|R.reg O<|R.u 1 O<|R.q (q.len' (bC 0 O) O Tryz.underlying34) O<|?_
  by_cases h2:0<(gT (mO (bH k.R) (bH (cE k.R a).1))).length
  .
   refine R.q (q.eL O O) O<|R.nil<|R.av O O<|R.reg O<|R.u 1 O<|R.q (q.cb O) O<|R.q (q.aO O zm O) O<|R.q (q.ld 4 O O iP O) O<|R.u 1 O<|R.s O (s.pre (fun _ hw=>hw.cX 0 _ O O) (s.aW [4,5,6,7,8,9,0,1,2,3,10] [13,0] _ _ _ O O O N9 O O (fun w own hw H=>xB cF aL st yE (gT (mO (bH k.R) (bH (cE k.R a).1))) aH ay aG az dk bz lg w own H ‹_› ‹_› (by omega) ‹_› (by omega)) O)) ?_
   rintro ⟨Gy,Cj,z17,yP,BD⟩
   dsimp only
   refine R.u 1 O<|R.nil<|R.reg O<|R.u 1 O<|?_
   by_cases h3:(bE (mkS st lg) dk (gT (mO (bH k.R) (bH (cE k.R a).1)))).2.2=0
   .
    refine R.q (q.lx O O Tryz.underlying38) O<|R.nil<|R.av O O<|R.reg O<|R.u 1 O<|R.q (q.dh 8 O O aj) O<|R.q (q.cb O) O<|R.q (q.aO O nM O) O<|R.s O (s.fS 9 _ O O O (fun _ _=>rfl) (.inl aj) (fun w hw=>(af (Sl.one (hw.bG 2 O)) (af (Sl.one (hw.bG 3 O)) (af (Sl.one (hw.bG 4 O)) (af (Sl.one (hw.bG 5 O)) (af O (af O aP))))))) O O O) fun _=>?_
    refine R.nil<|R.reg O<|R.u 2 O<|R.nil ?_
    have hz:e8 k st dk lg (cE k.R a)=((⟨(cE k.R a).1⟩:kF),(bE (mkS st lg) dk (gT (mO (bH k.R) (bH (cE k.R a).1)))).1.c,(bE (mkS st lg) dk (gT (mO (bH k.R) (bH (cE k.R a).1)))).2.1,(bE (mkS st lg) dk (gT (mO (bH k.R) (bH (cE k.R a).1)))).1.L,(bE (mkS st lg) dk (gT (mO (bH k.R) (bH (cE k.R a).1)))).2.2):=by (rw [OU (k:=k) (sc:=st) (d:=dk) (lg:=lg) (z:=cE k.R a) ‹_› ‹_› ‹_›];done)
    rw [hz]
    exact R.w1 (z5,z6,z7,z8,Gy,Cj,z17,yP,BD) [9,0,1,2,3,4,5,10] [2,3,4,5,0] O Tryz.results49 (RV.tmp O) O O O O
   refine R.q (q.jA O O Tryz.underlying38) O<|R.nil<|R.aB O O<|R.reg O<|R.u 2 O<|R.nil ?_
   have hz:e8 k st dk lg (cE k.R a)=(k,(bE (mkS st lg) dk (gT (mO (bH k.R) (bH (cE k.R a).1)))).1.c,(bE (mkS st lg) dk (gT (mO (bH k.R) (bH (cE k.R a).1)))).2.1,(bE (mkS st lg) dk (gT (mO (bH k.R) (bH (cE k.R a).1)))).1.L,(bE (mkS st lg) dk (gT (mO (bH k.R) (bH (cE k.R a).1)))).2.2):=by (rw [OV (k:=k) (sc:=st) (d:=dk) (lg:=lg) (z:=cE k.R a) ‹_› ‹_› ‹_›];done)
   rw [hz]
   exact R.w1 (mP,mQ,mR,mS,Gy,Cj,z17,yP,BD) [9,0,1,2,3,4,5,10] [10,11,12,13,0] O Tryz.results49 (RV.tmp O) O O O O
  refine R.q (q.eo O O) O<|R.nil<|R.aB O O<|R.reg O<|R.u 1 O<|R.q (q.lx O O Tryz.underlying38) O<|R.nil<|R.av O O<|R.reg O<|R.u 1 O<|R.q (q.dh 3 O O aj) O<|R.q (q.cb O) O<|R.q (q.aO O nM O) O<|R.s O (s.fS 4 _ O O O (fun _ _=>rfl) (.inl aj) (fun w hw=>(af (Sl.one (hw.bG 0 O)) (af (Sl.one (hw.bG 1 O)) (af (Sl.one (hw.bG 2 O)) (af (Sl.one (hw.bG 3 O)) (af O (af O aP))))))) O O O) fun _=>?_
  refine R.nil<|R.reg O<|R.u 2 O<|R.nil ?_
  have hz:e8 k st dk lg (cE k.R a)=((⟨(cE k.R a).1⟩:kF),st,dk,lg,(cE k.R a).2):=by (rw [OT (k:=k) (sc:=st) (d:=dk) (lg:=lg) (z:=cE k.R a) ‹_› ‹_›];done)
  rw [hz]
  exact R.w1 (z5,z6,z7,z8,aL,ay,aG,az,bz) [4,5,6,7,8,9,10,11] [0,1,2,3,12] O Tryz.results49 (RV.tmp O) O O O O
 refine R.q (q.d9 O O Tryz.underlying38) O<|R.nil<|R.av O O<|R.reg O<|R.u 2 O<|R.nil ?_
 have hz:e8 k st dk lg (cE k.R a)=(k,st,dk,lg,(cE k.R a).2):=by (rw [OQ (k:=k) (sc:=st) (d:=dk) (lg:=lg) (z:=cE k.R a) ‹_›];done)
 rw [hz]
 exact R.w1 (mP,mQ,mR,mS,aL,ay,aG,az,bz) za [8,9,10,11,12] O Tryz.results49 (RV.tmp O) O O O O
theorem sI (b_k:Nat)(mP mQ mR mS:Value)(k:kF)(a:dQ)(cF:Nat)(aL:Value)(st:ka)(aH:Nat)(ay aG az:Value)(dk:cx)(bz:Nat)(lg:Lg)(w:World)(own:List Nat)(H:HN w own [ag.box b_k [.pointer (some ⟨cF,0,none⟩),mP,mQ,mR,mS,iV k.R.ae,iV k.R.ah] 78,ag.box cF [.pointer (some ⟨aH,0,none⟩),iV st.Epoch,iV st.Side,iV st.Size,iV st.First,.pointer (some ⟨bz,0,none⟩),aL] 133,ag.box aH [ay,aG,az,iV dk.Fuse,.bool dk.Down] 112,ag.row 9 ay dk.Kept,ag.row 9 aG dk.Now,ag.row 114 az dk.Wait,ag.box bz [.pointer (some ⟨aH,0,none⟩),iV lg.From,iV lg.Many,iV lg.First,iV lg.Next] 198] [ag.ls mP k.R.ao,ag.ls mQ k.R.Things,ag.ls mR k.R.Held,ag.ls mS k.R.Notes,ag.ls aL st.Rows,eC])(hD:fN dk.Now.length 60000 dk/\dk.Now.length<=200/\166<=dk.Now.length)(hS:0<=st.Epoch/\st.Epoch<=1000000000/\0<=st.Side/\st.Side<=1/\0<=lg.Many/\lg.Many<=1000/\1<=lg.First/\lg.First<=1000000000/\0<=lg.From/\lg.From<=1000/\0<=lg.Next/\lg.Next<=1000)(hl:st.Rows.length<=60)(hF:∀c∈st.Rows,iI c=0)(hk:Ok k.R)(hI:Inv k.R)(hz:(cE k.R a).2=0->Ok (cE k.R a).1):RC Tryz.prog 18 #[.pointer (some ⟨b_k,0,none⟩),.agg #[.string a.Kind,.string a.S,iV a.P.aA,iV a.P.Slot,iV a.Q.aA,iV a.Q.Slot,iV a.A,iV a.B,iV a.N,.int .u64 a.K,a.cv]] H (fun _:Value×Value×Value×Value×Value×Value×Value×Value×Nat=>da (e8 k st dk lg (cE k.R a)).2.2.2.2) (fun z=>[ag.box b_k [.pointer (some ⟨cF,0,none⟩),z.1,z.2.1,z.2.2.1,z.2.2.2.1,iV (e8 k st dk lg (cE k.R a)).1.R.ae,iV (e8 k st dk lg (cE k.R a)).1.R.ah] 78,ag.box cF [.pointer (some ⟨aH,0,none⟩),iV (e8 k st dk lg (cE k.R a)).2.1.Epoch,iV (e8 k st dk lg (cE k.R a)).2.1.Side,iV (e8 k st dk lg (cE k.R a)).2.1.Size,iV (e8 k st dk lg (cE k.R a)).2.1.First,.pointer (some ⟨z.2.2.2.2.2.2.2.2,0,none⟩),z.2.2.2.2.1] 133,ag.box aH [z.2.2.2.2.2.1,z.2.2.2.2.2.2.1,z.2.2.2.2.2.2.2.1,iV (e8 k st dk lg (cE k.R a)).2.2.1.Fuse,.bool (e8 k st dk lg (cE k.R a)).2.2.1.Down] 112,ag.row 9 z.2.2.2.2.2.1 (e8 k st dk lg (cE k.R a)).2.2.1.Kept,ag.row 9 z.2.2.2.2.2.2.1 (e8 k st dk lg (cE k.R a)).2.2.1.Now,ag.row 114 z.2.2.2.2.2.2.2.1 (e8 k st dk lg (cE k.R a)).2.2.1.Wait,ag.box z.2.2.2.2.2.2.2.2 [.pointer (some ⟨aH,0,none⟩),iV (e8 k st dk lg (cE k.R a)).2.2.2.1.From,iV (e8 k st dk lg (cE k.R a)).2.2.2.1.Many,iV (e8 k st dk lg (cE k.R a)).2.2.2.1.First,iV (e8 k st dk lg (cE k.R a)).2.2.2.1.Next] 198]) (fun z=>[ag.ls z.1 (e8 k st dk lg (cE k.R a)).1.R.ao,ag.ls z.2.1 (e8 k st dk lg (cE k.R a)).1.R.Things,ag.ls z.2.2.1 (e8 k st dk lg (cE k.R a)).1.R.Held,ag.ls z.2.2.2.1 (e8 k st dk lg (cE k.R a)).1.R.Notes,ag.ls z.2.2.2.2.1 (e8 k st dk lg (cE k.R a)).2.1.Rows]):=by
 have eE:=H.cap 3 rfl;have eF:=H.cO 3 rfl
 have fD:=H.cap 4 rfl;have fE:=H.cO 4 rfl
 have eG:=H.cap 5 rfl;have eH:=H.cO 5 rfl
 have qD:=H.cq 0 rfl
 have pb:=H.cq 1 rfl
 have sH:=H.cq 2 rfl
 have qE:=H.cq 3 rfl
 have qU:=H.cq 4 rfl
 refine R.bD [(0,.pointer (some ⟨b_k,0,none⟩)),(1,.agg #[.string a.Kind,.string a.S,iV a.P.aA,iV a.P.Slot,iV a.Q.aA,iV a.Q.Slot,iV a.A,iV a.B,iV a.N,.int .u64 a.K,a.cv])] Tryz.func18 O O O O H<|R.reg O<|R.s O (s.box O O O) fun b1=>?_
 refine R.u 1 O<|R.nil<|R.reg O<|R.u 1 O<|R.q (q.L9 (cap:=[.pointer (some ⟨b1,0,none⟩)]) O O) O<|R.s O (s.aW [1,0,2,3,4,5,6,7,8] rz _ _ _ O O O R2 O O (fun w own hw H=>NM b_k mP mQ mR mS k b1 a cF aL st aH ay aG az dk bz lg w own H ‹_› ‹_› (by omega) ‹_› ‹_› ‹_› ‹_›) O) ?_
 rintro ⟨z1,z2,z3,z4,z5,z6,z7,z8,z9⟩
 dsimp only
 refine R.u 1 O<|R.nil ?_
 have hz:e8 k st dk lg (cE k.R a)=(((e8 k st dk lg (cE k.R a)).1),(e8 k st dk lg (cE k.R a)).2.1,(e8 k st dk lg (cE k.R a)).2.2.1,(e8 k st dk lg (cE k.R a)).2.2.2.1,(e8 k st dk lg (cE k.R a)).2.2.2.2):=by (rfl)
 rw [hz]
 exact R.w1 (z1,z2,z3,z4,z5,z6,z7,z8,z9) fh gX O Tryz.results18 (RV.tmp O) O O O O
theorem Au (aH:Nat)(ay aG az:Value)(dk:cx)(w:World)(own:List Nat)(H:HN w own [ag.box aH [ay,aG,az,iV dk.Fuse,.bool dk.Down] 112,ag.row 9 ay dk.Kept,ag.row 9 aG dk.Now,ag.row 114 az dk.Wait] [eC])(hd:dk.Down=false)(ho:kx dk=0)(hD:fN dk.Now.length 90000 dk/\dk.Now.length<=200)(hp:(cr (bA dk).c.Rows).2=0)(hr:(bA dk).c.Rows.length<=60 /\ ∀c∈(bA dk).c.Rows,c.Key.size<=1000/\c.Val.size<=1000):RC Tryz.prog 13 #[.pointer (some ⟨aH,0,none⟩)] H (fun z:Value×Value×Value×Nat×Value×Value×Value×Value×Nat×Value×Nat => .tuple #[.pointer (some ⟨z.2.2.2.1,0,none⟩),.nilIface]) (fun z=>[ag.box aH [z.1,z.2.1,z.2.2.1,iV dk.Fuse,.bool dk.Down] 112,ag.row 9 z.1 dk.Kept,ag.row 9 z.2.1 dk.Now,ag.row 114 z.2.2.1 dk.Wait,ag.box z.2.2.2.1 [.pointer (some ⟨z.2.2.2.2.2.2.2.2.1,0,none⟩),z.2.2.2.2.1,z.2.2.2.2.2.1,z.2.2.2.2.2.2.1,z.2.2.2.2.2.2.2.1,iV (⟨(cr (bA dk).c.Rows).1⟩:kF).R.ae,iV (⟨(cr (bA dk).c.Rows).1⟩:kF).R.ah] 78,ag.box z.2.2.2.2.2.2.2.2.1 [.pointer (some ⟨aH,0,none⟩),iV (bA dk).c.Epoch,iV (bA dk).c.Side,iV (bA dk).c.Size,iV (bA dk).c.First,.pointer (some ⟨z.2.2.2.2.2.2.2.2.2.2,0,none⟩),z.2.2.2.2.2.2.2.2.2.1] 133,ag.box z.2.2.2.2.2.2.2.2.2.2 [.pointer (some ⟨aH,0,none⟩),iV (bA dk).L.From,iV (bA dk).L.Many,iV (bA dk).L.First,iV (bA dk).L.Next] 198]) (fun z=>[ag.ls z.2.2.2.2.1 ((⟨(cr (bA dk).c.Rows).1⟩:kF).R.ao:List ak),ag.ls z.2.2.2.2.2.1 ((⟨(cr (bA dk).c.Rows).1⟩:kF).R.Things:List aE),ag.ls z.2.2.2.2.2.2.1 ((⟨(cr (bA dk).c.Rows).1⟩:kF).R.Held:List Held),ag.ls z.2.2.2.2.2.2.2.1 ((⟨(cr (bA dk).c.Rows).1⟩:kF).R.Notes:List Note),ag.ls z.2.2.2.2.2.2.2.2.2.1 (bA dk).c.Rows]):=by
 have eE:=H.cap 1 rfl;have eF:=H.cO 1 rfl
 have fD:=H.cap 2 rfl;have fE:=H.cO 2 rfl
 have eG:=H.cap 3 rfl;have eH:=H.cO 3 rfl
 obtain ⟨hr1,hr2⟩:=hr
 refine R.bD [(0,.pointer (some ⟨aH,0,none⟩))] Tryz.func13 O O O O H<|R.reg O<|R.u 2 O<|R.nil<|R.reg O<|R.u 1 O<|R.s O (s.aW gX [] _ _ _ O O O N6 O O (fun w own hw H=>zJ aH ay aG az dk w own H ‹_› ‹_› ‹_›) O) ?_
 rintro ⟨z1,z2,z3,z4,z5,z6⟩
 dsimp only
 refine R.u 5 O<|R.nil<|R.reg O<|R.u 1 O<|R.q (q.vY O O Tryz.underlying38) O<|R.nil<|R.aB O O<|R.reg O<|R.u 1 O<|R.s O (s.vW R1 O O (fun w hw=>H2 z4 z5 aH z6 (bA dk).c w (hw.b 4 O) (hw.bG 0 O) (by omega)) O) fun v1=>?_
 refine R.s O (s.pre (fun _ hw=>hw.cX 0 _ O O) (s.aW mK [0,2] _ _ _ O O O R0 O O (fun w own hw H=>IG v1 (bA dk).c.Rows w own H (by omega) ‹_›) O)) ?_
 rintro ⟨z7,z8,z9,kY⟩
 dsimp only
 refine R.u 3 O<|R.s O (s.alloc dI O O) fun b1=>?_
 refine R.s O (s.fS 0 _ O O O (fun _ _=>rfl) (.inl aj) (fun w hw=>(af (Sl.one (hw.bG 0 O)) (af (Sl.one (hw.bG 1 O)) (af (Sl.one (hw.bG 2 O)) (af (Sl.one (hw.bG 3 O)) (af O (af O aP))))))) O O O) fun _=>?_
 refine R.u 1 O<|R.nil<|R.reg O<|R.u 1 O<|R.q (q.dx O O Tryz.underlying38) O<|R.nil<|R.aB O O<|R.reg O<|R.u 1 O<|R.q (q.dh 0 O O aj) O<|R.q (q.JL RR O (fun w hw=>(sY O (sY O JK))) O) O<|R.s O (s.box O O O) fun b2=>?_
 refine R.u 2 O<|R.nil ?_
 have hz:(dk,(⟨(cr (bA dk).c.Rows).1⟩:kF),(bA dk).c,(bA dk).L)=(dk,(⟨(cr (bA dk).c.Rows).1⟩:kF),(bA dk).c,(bA dk).L):=by (rfl)
 have hz0:(cr (bA dk).c.Rows).1=(cr (bA dk).c.Rows).1:=congrArg (fun t_=>t_.2.1.R) hz
 rw [hz0]
 exact R.w2 (z1,z2,z3,b2,z7,z8,z9,kY,z4,z5,z6) [2,3,4,5,0,6,7,8] nD O Tryz.results13 (RV.tmp O) (RV.tmp O) O O O (dA O O)
theorem Eo (aH:Nat)(ay aG az:Value)(dk:cx)(w:World)(own:List Nat)(H:HN w own [ag.box aH [ay,aG,az,iV dk.Fuse,.bool dk.Down] 112,ag.row 9 ay dk.Kept,ag.row 9 aG dk.Now,ag.row 114 az dk.Wait] [eC])(h0:dk=dNew 170):RC Tryz.prog 31 #[.pointer (some ⟨aH,0,none⟩)] H (fun _:Value×Value×Value=>da (rG dk).2.2) (fun z=>[ag.box aH [z.1,z.2.1,z.2.2,iV (rG dk).2.1.Fuse,.bool (rG dk).2.1.Down] 112,ag.row 9 z.1 (rG dk).2.1.Kept,ag.row 9 z.2.1 (rG dk).2.1.Now,ag.row 114 z.2.2 (rG dk).2.1.Wait]) (fun _=>[]):=by
 have eE:=H.cap 1 rfl;have eF:=H.cO 1 rfl
 have fD:=H.cap 2 rfl;have fE:=H.cO 2 rfl
 have eG:=H.cap 3 rfl;have eH:=H.cO 3 rfl
 obtain ⟨f1,f2,f3,f4,f5⟩:=El h0;have f6:=f4.ok;have f7:=f4.room;have f8:=f4.bnd (by omega);have f9:=f4.good;obtain ⟨f10,f11,f12⟩:=f9;have f13:=f7.2.2.1;have f14:fN (dL dk).1.Now.length 90000 (dL dk).1/\(dL dk).1.Now.length<=200:=⟨f6.1.up (by omega),f6.2.1⟩;have p0:fN dk.Now.length 80000 dk/\dk.Now.length<=1000:=(by rw [h0];have:=(AR 170).nl;exact ⟨this.symm▸(AR 170).up (by omega),by omega⟩)
 have n1:=LZ;have n2:=l8;have n3:=oq l8
 refine R.bD [(0,.pointer (some ⟨aH,0,none⟩))] Tryz.func31 O O O O H<|R.reg O<|R.u 1 O<|R.nil<|R.reg O<|R.u 1 O<|R.s O (s.aW gX [] _ _ _ O O O Sf O O (fun w own hw H=>EW aH ay aG az dk w own H ‹_›) O) ?_
 rintro ⟨z1,z2,z3⟩
 dsimp only
 refine R.u 1 O<|R.nil<|R.reg O<|R.u 1 O<|R.q (q.dx O O Tryz.underlying38) O<|R.nil<|R.aB O O<|R.reg O<|R.u 1 O<|R.s O (s.aW gX [] _ _ _ O O O N6 O O (fun w own hw H=>zJ aH z1 z2 z3 (dL dk).1 w own H ‹_› ‹_› ‹_›) O) ?_
 rintro ⟨z4,z5,z6,z7,z8,z9⟩
 dsimp only
 refine R.u 5 O<|R.nil<|R.reg O<|R.u 1 O<|R.q (q.vY O O Tryz.underlying38) O<|R.nil<|R.aB O O<|R.reg O<|R.u 1 O<|R.s O (s.aW mK [] _ _ _ O O O Sg O O (fun w own hw H=>KS w own H ) O) ?_
 rintro ⟨kY,lZ,z12,pI⟩
 dsimp only
 refine R.s O (s.aW mK nD _ _ _ O O O Jm O O (fun w own hw H=>yr kY lZ z12 pI (⟨[],[],[],[],1,1⟩:aC) w own H ‹_› ‹_›) O) fun yE=>?_
 refine R.s O (s.pre (fun _ hw=>hw.cX 0 _ O O) (s.aW [4,0,1,2,3,5,6] [5,0] _ _ _ O O O N9 O O (fun w own hw H=>xB z7 z8 (bA (dL dk).1).c yE (bH (⟨[],[],[],[],1,1⟩:aC)) aH z4 z5 z6 (dL dk).1 z9 (bA (dL dk).1).L w own H ‹_› ‹_› (by omega) ‹_› (by decide)) O)) ?_
 rintro ⟨Gy,Cj,z17,yP,BD⟩
 dsimp only
 refine R.u 1 O<|R.nil ?_
 have hz:((rG dk).2.1,(rG dk).2.2)=(((bE (mkS (bA (dL dk).1).c (bA (dL dk).1).L) (dL dk).1 (bH (⟨[],[],[],[],1,1⟩:aC))).2.1),(bE (mkS (bA (dL dk).1).c (bA (dL dk).1).L) (dL dk).1 (bH (⟨[],[],[],[],1,1⟩:aC))).2.2):=by (rfl)
 have hz0:(rG dk).2.1=(bE (mkS (bA (dL dk).1).c (bA (dL dk).1).L) (dL dk).1 (bH (⟨[],[],[],[],1,1⟩:aC))).2.1:=congrArg (fun t_=>t_.1) hz
 rw [hz0]
 have hz1:(rG dk).2.2=(bE (mkS (bA (dL dk).1).c (bA (dL dk).1).L) (dL dk).1 (bH (⟨[],[],[],[],1,1⟩:aC))).2.2:=congrArg (fun t_=>t_.2) hz
 rw [hz1]
 exact R.w1 (Cj,z17,yP) sJ [] O Tryz.results31 (RV.tmp O) O O O O
end
section
open Go Go.RowKit
attribute [local irreducible] bE cu bA kx dL dNew cE e8
theorem Ep (w:World)(own:List Nat)(H:HN w own [] [eC]):RC Tryz.prog 10 #[] H (fun z:Nat×Value×Value×Value×Nat×Value×Value×Value×Value×Nat×Value×Nat => .tuple #[.pointer (some ⟨z.1,0,none⟩),.pointer (some ⟨z.2.2.2.2.1,0,none⟩),.bool true]) (fun z=>[ag.box z.1 [z.2.1,z.2.2.1,z.2.2.2.1,iV ij.Fuse,.bool ij.Down] 112,ag.row 9 z.2.1 ij.Kept,ag.row 9 z.2.2.1 ij.Now,ag.row 114 z.2.2.2.1 ij.Wait,ag.box z.2.2.2.2.1 [.pointer (some ⟨z.2.2.2.2.2.2.2.2.2.1,0,none⟩),z.2.2.2.2.2.1,z.2.2.2.2.2.2.1,z.2.2.2.2.2.2.2.1,z.2.2.2.2.2.2.2.2.1,iV gi.R.ae,iV gi.R.ah] 78,ag.box z.2.2.2.2.2.2.2.2.2.1 [.pointer (some ⟨z.1,0,none⟩),iV iR.Epoch,iV iR.Side,iV iR.Size,iV iR.First,.pointer (some ⟨z.2.2.2.2.2.2.2.2.2.2.2,0,none⟩),z.2.2.2.2.2.2.2.2.2.2.1] 133,ag.box z.2.2.2.2.2.2.2.2.2.2.2 [.pointer (some ⟨z.1,0,none⟩),iV lT.From,iV lT.Many,iV lT.First,iV lT.Next] 198]) (fun z=>[ag.ls z.2.2.2.2.2.1 gi.R.ao,ag.ls z.2.2.2.2.2.2.1 gi.R.Things,ag.ls z.2.2.2.2.2.2.2.1 gi.R.Held,ag.ls z.2.2.2.2.2.2.2.2.1 gi.R.Notes,ag.ls z.2.2.2.2.2.2.2.2.2.2.1 iR.Rows]):=by
 obtain ⟨w1,w2,w3,w4,w5,u0,w6⟩:=Cc;have w7:=w6.anew (by omega);have w8:=w6.pre (by omega)
 have x1:(rG (dNew (Int.toNat 170))).2.2=0:=w1;have x2:(rG (dNew (Int.toNat 170))).2.1.Down=false:=w7.1;have x3:kx (rG (dNew (Int.toNat 170))).2.1=0:=w7.2.1;have x4:fN (rG (dNew (Int.toNat 170))).2.1.Now.length 90000 (rG (dNew (Int.toNat 170))).2.1/\(rG (dNew (Int.toNat 170))).2.1.Now.length<=200:=w7.2.2.1;have x5:(cr (bA (rG (dNew (Int.toNat 170))).2.1).c.Rows).2=0:=w7.2.2.2.1;have x6:(bA (rG (dNew (Int.toNat 170))).2.1).c.Rows.length<=60 /\ ∀c∈(bA (rG (dNew (Int.toNat 170))).2.1).c.Rows,c.Key.size<=1000/\c.Val.size<=1000:=w7.2.2.2.2.1
 refine R.bD [] Tryz.func10 O O O O H<|R.reg O<|R.u 3 O<|R.nil<|R.reg O<|R.s O (s.aW [0] [] _ _ _ O O O RY O O (fun w own hw H=>JO 170 w own H (by omega)) O) ?_
 rintro ⟨z1,z2,z3,z4⟩
 dsimp only
 refine R.u 5 O<|R.nil<|R.reg O<|R.u 1 O<|R.q (q.vY O O Tryz.underlying38) O<|R.u 2 O<|R.qg O (q.O4 O O Tryz.underlying25) O<|R.u 3 O<|R.s O (s.aW gX [0] _ _ _ O O O RZ O O (fun w own hw H=>Eo z1 z2 z3 z4 (dNew (Int.toNat 170)) w own H (by rfl)) O) ?_
 rintro ⟨z5,z6,z7⟩
 dsimp only
 refine R.qg O (q.dx O O Tryz.underlying38) O<|R.u 1 O<|R.nil<|R.aB O O<|R.reg O<|R.u 1 O<|R.s O (s.aW gX [0] _ _ _ O O O NZ O O (fun w own hw H=>Au z1 z5 z6 z7 (rG (dNew (Int.toNat 170))).2.1 w own H ‹_› ‹_› ‹_› ‹_› ‹_›) O) ?_
 rintro ⟨z8,z9,kY,lZ,z12,pI,yE,Gy,Cj,z17,yP⟩
 dsimp only
 refine R.u 5 O<|R.nil<|R.reg O<|R.u 3 O<|R.q (q.FW O O Tryz.underlying38) O<|R.u 2 O<|R.qg O (q.RO O O Tryz.underlying26) O<|R.u 4 O<|R.nil ?_
 have hz:(ij,gi,iR,lT)=(((rG (dNew (Int.toNat 170))).2.1),(⟨(cr (bA (rG (dNew (Int.toNat 170))).2.1).c.Rows).1⟩:kF),(bA (rG (dNew (Int.toNat 170))).2.1).c,(bA (rG (dNew (Int.toNat 170))).2.1).L):=by (rfl)
 have hz0:ij=(rG (dNew (Int.toNat 170))).2.1:=congrArg (fun t_=>t_.1) hz
 rw [hz0]
 have hz1:gi=(⟨(cr (bA (rG (dNew (Int.toNat 170))).2.1).c.Rows).1⟩:kF):=congrArg (fun t_=>t_.2.1) hz
 rw [hz1]
 have hz2:iR=(bA (rG (dNew (Int.toNat 170))).2.1).c:=congrArg (fun t_=>t_.2.2.1) hz
 rw [hz2]
 have hz3:lT=(bA (rG (dNew (Int.toNat 170))).2.1).L:=congrArg (fun t_=>t_.2.2.2) hz
 rw [hz3]
 exact R.w3 (z1,z8,z9,kY,lZ,z12,pI,yE,Gy,Cj,z17,yP) fh gX O Tryz.results10 (RV.tmp O) (RV.tmp O) (RV.tmp O) O O O (Ex O O O)
theorem FK (bP:Value)(l:List dQ)(w:World)(own:List Nat)(H:HN w own [] [ag.ls bP l,ag.acts l,eC])(hla:lO l 60=true):RC Tryz.prog 22 #[bP] H (fun z:Nat×Value×Value×Value×Nat×Value×Value×Value×Value×Nat×Value×Nat => .tuple #[.pointer (some ⟨z.1,0,none⟩),.pointer (some ⟨z.2.2.2.2.1,0,none⟩),.bool true]) (fun z=>[ag.box z.1 [z.2.1,z.2.2.1,z.2.2.2.1,iV (aX l).2.2.1.Fuse,.bool (aX l).2.2.1.Down] 112,ag.row 9 z.2.1 (aX l).2.2.1.Kept,ag.row 9 z.2.2.1 (aX l).2.2.1.Now,ag.row 114 z.2.2.2.1 (aX l).2.2.1.Wait,ag.box z.2.2.2.2.1 [.pointer (some ⟨z.2.2.2.2.2.2.2.2.2.1,0,none⟩),z.2.2.2.2.2.1,z.2.2.2.2.2.2.1,z.2.2.2.2.2.2.2.1,z.2.2.2.2.2.2.2.2.1,iV (aX l).1.R.ae,iV (aX l).1.R.ah] 78,ag.box z.2.2.2.2.2.2.2.2.2.1 [.pointer (some ⟨z.1,0,none⟩),iV (aX l).2.1.Epoch,iV (aX l).2.1.Side,iV (aX l).2.1.Size,iV (aX l).2.1.First,.pointer (some ⟨z.2.2.2.2.2.2.2.2.2.2.2,0,none⟩),z.2.2.2.2.2.2.2.2.2.2.1] 133,ag.box z.2.2.2.2.2.2.2.2.2.2.2 [.pointer (some ⟨z.1,0,none⟩),iV (aX l).2.2.2.From,iV (aX l).2.2.2.Many,iV (aX l).2.2.2.First,iV (aX l).2.2.2.Next] 198]) (fun z=>[ag.ls z.2.2.2.2.2.1 (aX l).1.R.ao,ag.ls z.2.2.2.2.2.2.1 (aX l).1.R.Things,ag.ls z.2.2.2.2.2.2.2.1 (aX l).1.R.Held,ag.ls z.2.2.2.2.2.2.2.2.1 (aX l).1.R.Notes,ag.ls z.2.2.2.2.2.2.2.2.2.2.1 (aX l).2.1.Rows]):=by
 have yF:=H.cq 0 rfl
 have hll:=xc hla
 refine R.bD [(0,bP)] Tryz.func22 O O O O H<|R.reg O<|R.u 3 O<|R.nil<|R.reg O<|R.u 1 O<|R.c (q.call Mn O O (fun w hw=>(cv (congrArg Value.bool hla) (oZ _ l 60 w (hw.bG 0 O) (hw.acts 1 O) )))) O<|R.u 1 O<|R.nil ?_
 refine R.aB O O<|R.reg O<|R.s O (s.aW [0] [2] _ _ _ O O O NY O O (fun w own hw H=>Ep w own H ) O) ?_
 rintro ⟨z1,z2,z3,z4,z5,z6,z7,z8,z9,kY,lZ,z12⟩
 dsimp only
 refine R.u 7 O<|R.nil<|R.reg O<|R.u 2 O<|R.nil<|R.aB O O<|R.reg O<|R.u 1 O<|R.nil<|R.loop (fun g_:Nat×cx×Value×Value×Value×kF×Value×Value×Value×Value×ka×Value×Lg×Nat=>[(0,bP),(5,.pointer (some ⟨z1,0,none⟩)),(6,.pointer (some ⟨z5,0,none⟩)),(8,iV (g_.1:Int))]) (fun g_=>[ag.box z1 [g_.2.2.1,g_.2.2.2.1,g_.2.2.2.2.1,iV g_.2.1.Fuse,.bool g_.2.1.Down] 112,ag.row 9 g_.2.2.1 g_.2.1.Kept,ag.row 9 g_.2.2.2.1 g_.2.1.Now,ag.row 114 g_.2.2.2.2.1 g_.2.1.Wait,ag.box z5 [.pointer (some ⟨kY,0,none⟩),g_.2.2.2.2.2.2.1,g_.2.2.2.2.2.2.2.1,g_.2.2.2.2.2.2.2.2.1,g_.2.2.2.2.2.2.2.2.2.1,iV g_.2.2.2.2.2.1.R.ae,iV g_.2.2.2.2.2.1.R.ah] 78,ag.box kY [.pointer (some ⟨z1,0,none⟩),iV g_.2.2.2.2.2.2.2.2.2.2.1.Epoch,iV g_.2.2.2.2.2.2.2.2.2.2.1.Side,iV g_.2.2.2.2.2.2.2.2.2.2.1.Size,iV g_.2.2.2.2.2.2.2.2.2.2.1.First,.pointer (some ⟨g_.2.2.2.2.2.2.2.2.2.2.2.2.2,0,none⟩),g_.2.2.2.2.2.2.2.2.2.2.2.1] 133,ag.box g_.2.2.2.2.2.2.2.2.2.2.2.2.2 [.pointer (some ⟨z1,0,none⟩),iV g_.2.2.2.2.2.2.2.2.2.2.2.2.1.From,iV g_.2.2.2.2.2.2.2.2.2.2.2.2.1.Many,iV g_.2.2.2.2.2.2.2.2.2.2.2.2.1.First,iV g_.2.2.2.2.2.2.2.2.2.2.2.2.1.Next] 198,ag.held w own]) (fun g_=>[ag.ls g_.2.2.2.2.2.2.1 g_.2.2.2.2.2.1.R.ao,ag.ls g_.2.2.2.2.2.2.2.1 g_.2.2.2.2.2.1.R.Things,ag.ls g_.2.2.2.2.2.2.2.2.1 g_.2.2.2.2.2.1.R.Held,ag.ls g_.2.2.2.2.2.2.2.2.2.1 g_.2.2.2.2.2.1.R.Notes,ag.ls g_.2.2.2.2.2.2.2.2.2.2.2.1 g_.2.2.2.2.2.2.2.2.2.2.1.Rows,ag.ls z6 gi.R.ao,ag.ls z7 gi.R.Things,ag.ls z8 gi.R.Held,ag.ls z9 gi.R.Notes,ag.ls lZ iR.Rows,ag.ls bP l,ag.acts l,eC]) (fun g_=>g_.1<=l.length/\aX (l.take g_.1)=(g_.2.2.2.2.2.1,g_.2.2.2.2.2.2.2.2.2.2.1,g_.2.1,g_.2.2.2.2.2.2.2.2.2.2.2.2.1)) (fun g_=>l.length-g_.1) (0,ij,z2,z3,z4,gi,z6,z7,z8,z9,iR,lZ,lT,z12) O (by (try dsimp only);exact ⟨by omega,rfl⟩) (sF O) (ic fh [0,1,2,3,4,0,1,2,3,4,5,6,7] O) ?_
 rintro ⟨i,em,Cd,FL,Ce,kc,QZ,Q0,Q5,Q6,sc,Cg,lg,bl⟩ ⟨hi,HP⟩
 dsimp only at *
 have hp:=G6 (l.take i) (by rw [List.length_take];omega);rw [HP] at hp;obtain ⟨⟨u1,hp1⟩,hp2,hp3⟩:=hp;dsimp only at hp1 hp2 hp3;rw [List.length_take] at hp1 hp3;have hI:=hp1.inv;have hk:=hp3.ok (by omega);have g1:=hp1.pre (by omega);obtain ⟨g2,g3,g4,g5⟩:=g1
 refine R.reg O<|R.u 2 O<|R.q (q.len' (dy 10 O) O Tryz.underlying22) O<|?_
 by_cases h1:i<l.length
 .
  refine R.q (q.dz O O) O<|R.nil<|R.av O O<|R.reg O<|R.u 2 O<|?_
  obtain ⟨x1,hx1⟩:∃z,l[i]? = some z:=⟨_,List.getElem?_eq_getElem (by omega)⟩
  have Wp:=L6 hp3 x1 (by omega)
  refine R.q (q.idx (i:=i) (dy 10 O) O O wv O hx1) O<|R.q (q.nI (j':=0) (dy 10 O) hx1 O zj O) O<|R.q (q.lw (dy 10 O) hx1 O bF O) O<|?_
  by_cases h2:x1.Kind=⟨#[115,97,118,101]⟩
  .
   refine R.q (q.pQ O O h2) O<|R.nil<|R.av O O<|R.reg O<|R.u 1 O<|R.s O (s.aW [4,5,0,1,2,3,6,7] gX _ _ _ O O O RS O O (fun w own hw H=>IX z5 QZ Q0 Q5 Q6 kc kY Cg sc z1 Cd FL Ce em bl lg w own H ‹_› ‹_› (by omega) ‹_›) O) ?_
   rintro ⟨pI,yE,Gy,Cj,z17,yP,BD,z20,z21⟩
   dsimp only
   refine R.nil<|R.reg O<|R.u 1 O<|R.q (q.bB (r:=((i+1:Nat):Int)) O O) O<|R.u 1 O<|R.nil<|R.back (i+1,(cu (mkS sc lg) em).2.1,yP,BD,z20,kc,pI,yE,Gy,Cj,(cu (mkS sc lg) em).1.c,z17,(cu (mkS sc lg) em).1.L,z21) O (by ((try dsimp only);exact ⟨by omega,by rw [Ar hx1,HP];exact Em ‹_›⟩)) (by dsimp only;omega) (sF O) (aD [2,3,4,5,0,1,6,7] [0,1,2,3,4,10,11,12,13,14,15,16,17] O)
  refine R.q (q.pR O O h2) O<|R.nil<|R.aB O O<|R.reg O<|R.u 3 O<|R.q (q.idx (i:=i) (dy 10 O) O O wv O hx1) O<|R.q (q.eS (ds:=Ez x1) (dy 10 O) hx1 O sT O) O<|R.s O (s.aW [4,5,0,1,2,3,6,7] [0,1,2,3,4,12] _ _ _ O O O Jj O O (fun w own hw H=>sI z5 QZ Q0 Q5 Q6 kc x1 kY Cg sc z1 Cd FL Ce em bl lg w own H ‹_› ‹_› (by omega) ‹_› ‹_› ‹_› ‹_›) O) ?_
  rintro ⟨z22,z23,z24,z25,z26,z27,z28,z29,z30⟩
  dsimp only
  refine R.nil<|R.reg O<|R.u 1 O<|R.q (q.bB (r:=((i+1:Nat):Int)) O O) O<|R.u 1 O<|R.nil<|R.back (i+1,(e8 kc sc em lg (cE kc.R x1)).2.2.1,z27,z28,z29,(e8 kc sc em lg (cE kc.R x1)).1,z22,z23,z24,z25,(e8 kc sc em lg (cE kc.R x1)).2.1,z26,(e8 kc sc em lg (cE kc.R x1)).2.2.2.1,z30) O (by ((try dsimp only);exact ⟨by omega,by rw [Ar hx1,HP];exact IW ‹_›⟩)) (by dsimp only;omega) (sF O) (aD [2,3,4,5,0,1,6,7] [0,1,2,3,4,10,11,12,13,14,15,16,17] O)
 refine R.q (q.cW O O) O<|R.nil<|R.aB O O<|R.reg O<|R.u 5 O<|R.nil ?_
 have hz:((aX l).2.2.1,(aX l).1,(aX l).2.1,(aX l).2.2.2)=(em,kc,sc,lg):=by (rw [show l=l.take i from (List.take_of_length_le (by omega)).symm,HP])
 have hz0:(aX l).2.2.1=em:=congrArg (fun t_=>t_.1) hz
 rw [hz0]
 have hz1:(aX l).1=kc:=congrArg (fun t_=>t_.2.1) hz
 rw [hz1]
 have hz2:(aX l).2.1=sc:=congrArg (fun t_=>t_.2.2.1) hz
 rw [hz2]
 have hz3:(aX l).2.2.2=lg:=congrArg (fun t_=>t_.2.2.2) hz
 rw [hz3]
 exact R.w3 (z1,Cd,FL,Ce,z5,QZ,Q0,Q5,Q6,kY,Cg,bl) fh gX O Tryz.results22 (RV.tmp O) (RV.tmp O) (RV.tmp O) O O O (Ex O O O)
theorem IY (bP:Value)(l:List dQ)(w:World)(own:List Nat)(H:HN w own [] [ag.ls bP l,ag.acts l])(hla:lO l 60=false):RC Tryz.prog 22 #[bP] H (fun _:Unit => .tuple #[.pointer none,.pointer none,.bool false]) (fun _=>[]) (fun _=>[]):=by
 have yF:=H.cq 0 rfl
 refine R.bD [(0,bP)] Tryz.func22 O O O O H<|R.reg O<|R.u 3 O<|R.nil<|R.reg O<|R.u 1 O<|R.c (q.call Mn O O (fun w hw=>(cv (congrArg Value.bool hla) (oZ _ l 60 w (hw.bG 0 O) (hw.acts 1 O) )))) O<|R.u 1 O<|R.nil ?_
 exact R.av O O<|R.reg O<|R.u 3 O<|R.nil<|R.w3 () [0] [] O Tryz.results22 (RV.tmp O) (RV.tmp O) (RV.tmp O) O O O (Ex O O O)
theorem FM {d:cx}{sc:ka}{lg:Lg}{u:Nat}{k:kF}{a:dQ}(h:KI d sc lg nR u 1)(hf:d.Fuse = -1)(e:k.R=nR)(h1:a.Kind=(⟨#[109,97,107,101]⟩:ByteArray))(h2:a.P=⟨1,0⟩)(h3:a.A=1) :
 (e8 k sc d lg (cE k.R a)).2.2.2.2=0 /\ ∃z u1,KI (e8 k sc d lg (cE k.R a)).2.2.1 (e8 k sc d lg (cE k.R a)).2.1 (e8 k sc d lg (cE k.R a)).2.2.2.1 z u1 2/\(bj z).Things.length=1/\Ok (bj z):=by
 have hd:cE nR a=(⟨[⟨1,1,7,0,0⟩],[⟨1,1,⟨#[]⟩⟩],[⟨⟨1,0⟩,1⟩],[],2,2⟩,0):=by unfold cE;rw [if_pos h1,h2,h3];exact Qz
 have h0:(cE nR a).2=0:=by rw [hd]
 obtain ⟨_,b⟩:=h.do (z:=cE nR a) (by omega) (vR h.inv a)
 have ek:k=⟨nR⟩:=by rw [<- e]
 rw [e,ek]
 have hs:Sz 1 (cE nR a).1:=K1 Sz.new a
 rcases b h0 with ⟨c1,c2,c3,u2,c4⟩ | ⟨_,_,c3,_⟩
 .
  refine ⟨c1,_,u2,c4,?_,(Li hs).ok (by omega)⟩
  rw [yu c4.inv (by rw [hd])]
  rw [hd];rfl
 .exact absurd hf c3
theorem IZ (w:World)(ht:DR w):Calls Tryz.prog 21 #[] w fun e w'=>e = .returned (.bool true)/\Ext w w':=by
 obtain ⟨w1,w2,w3,w4,w5,u0,w6⟩:=Cc;have w7:=w6.anew (by omega);have w8:=w6.pre (by omega)
 have wi:Inv gi.R:=w5.symm▸l8;have wo:Ok gi.R:=w5.symm▸LZ;obtain ⟨wa,wb,wc,wd⟩:=w8;have wz:(cE gi.R (⟨⟨#[109,97,107,101]⟩,⟨#[]⟩,⟨1,0⟩,⟨0,0⟩,1,0,0,0,none,0,0,[]⟩:dQ)).2=0->Ok (cE gi.R (⟨⟨#[109,97,107,101]⟩,⟨#[]⟩,⟨1,0⟩,⟨0,0⟩,1,0,0,0,none,0,0,[]⟩:dQ)).1:=L6 (k:=0) (w5.symm▸Sz.new) _ (by omega)
 obtain ⟨v1,z1,u1,v2,v3,v13⟩:=FM w6 w2 w5 (a:=(⟨⟨#[109,97,107,101]⟩,⟨#[]⟩,⟨1,0⟩,⟨0,0⟩,1,0,0,0,none,0,0,[]⟩:dQ)) rfl rfl rfl;have v4:=v2.anew (by omega);obtain ⟨v5,v6,v7,v8,v9,v10,v11⟩:=v4;have v12:(cr (bA (e8 gi iR ij lT (cE gi.R (⟨⟨#[109,97,107,101]⟩,⟨#[]⟩,⟨1,0⟩,⟨0,0⟩,1,0,0,0,none,0,0,[]⟩:dQ))).2.2.1).c.Rows).1.Things.length=1:=(by rw [v10];exact v3);have v14:Ok (cr (bA (e8 gi iR ij lT (cE gi.R (⟨⟨#[109,97,107,101]⟩,⟨#[]⟩,⟨1,0⟩,⟨0,0⟩,1,0,0,0,none,0,0,[]⟩:dQ))).2.2.1).c.Rows).1:=(by rw [v10];exact v13)
 refine R.enter [] [] Tryz.func21 O O O O<|R.nK (r:=eC) ht (BS ht)<|R.reg O<|R.u 1 O<|R.nil<|R.reg O<|R.s O (s.aW [] [0] _ _ _ O O O NY O O (fun w own hw H=>Ep w own H ) O) ?_
 rintro ⟨z1,z2,z3,z4,z5,z6,z7,z8,z9,kY,lZ,z12⟩
 dsimp only
 refine R.u 7 O<|R.nil<|R.reg O<|R.u 4 O<|R.qg O (q.build wA O O) O<|R.qg O (q.build RQ O O) O<|R.s O (s.aW [4,5,0,1,2,3,6] rz _ _ _ O O O Jj O O (fun w own hw H=>sI z5 z6 z7 z8 z9 gi (⟨⟨#[109,97,107,101]⟩,⟨#[]⟩,⟨1,0⟩,⟨0,0⟩,1,0,0,0,none,0,0,[]⟩:dQ) kY lZ iR z1 z2 z3 z4 ij z12 lT w own H ‹_› ‹_› (by omega) ‹_› ‹_› ‹_› ‹_›) O) ?_
 rintro ⟨pI,yE,Gy,Cj,z17,yP,BD,z20,z21⟩
 dsimp only
 refine R.qg O (q.dx O O Tryz.underlying38) O<|R.u 1 O<|R.nil<|R.aB O O<|R.reg O<|R.u 1 O<|R.s O (s.aW [2,3,4,5,0,1,6] [10] _ _ _ O O O NZ O O (fun w own hw H=>Au z1 yP BD z20 (e8 gi iR ij lT (cE gi.R (⟨⟨#[109,97,107,101]⟩,⟨#[]⟩,⟨1,0⟩,⟨0,0⟩,1,0,0,0,none,0,0,[]⟩:dQ))).2.2.1 w own H ‹_› ‹_› ‹_› ‹_› ‹_›) O) ?_
 rintro ⟨z22,z23,z24,z25,z26,z27,z28,z29,z30,z31,z32⟩
 dsimp only
 refine R.u 5 O<|R.nil<|R.reg O<|R.u 1 O<|R.q (q.FW O O Tryz.underlying38) O<|R.u 2 O<|R.qg O (q.RO O O Tryz.underlying26) O<|R.u 3 O<|R.s O (s.aW [4,0,1,2,3,5,6,7,8,9] bJ _ _ _ O O O F9 O O (fun w own hw H=>pd z25 z26 z27 z28 z29 z30 (⟨(cr (bA (e8 gi iR ij lT (cE gi.R (⟨⟨#[109,97,107,101]⟩,⟨#[]⟩,⟨1,0⟩,⟨0,0⟩,1,0,0,0,none,0,0,[]⟩:dQ))).2.2.1).c.Rows).1⟩:kF) w own H ‹_›) O) ?_
 rintro ⟨z33,z34,z35,z36,z37,z38,z39,z40⟩
 dsimp only
 exact R.qg O (q.field O Jf O) O<|R.qg O (q.len' (dy 5 O) O Tryz.underlying44) O<|R.qg O (q.fI O O) O<|R.u 2 O<|R.nil<|R.rv O Tryz.results21 O (rB (by rfl))
end
section
open Go Go.RowKit
attribute [local irreducible] bE cu bA kx dL dNew cE e8 aX cr
theorem Ch (bP:Value)(l:List dQ)(a:dQ)(w:World)(ew:Sl w bP l)(Hw:∀x∈l,Sl w x.cv x.Changes)(vj:Sl w a.cv a.Changes)(ht:DR w):Calls Tryz.prog 5 #[bP,.agg #[.string a.Kind,.string a.S,iV a.P.aA,iV a.P.Slot,iV a.Q.aA,iV a.Q.Slot,iV a.A,iV a.B,iV a.N,.int .u64 a.K,a.cv]] w fun e w'=>e = .returned (.bool true)/\Ext w w':=by
 have zx:=ew.fB
 refine R.enter [] [(0,bP),(1,.agg #[.string a.Kind,.string a.S,iV a.P.aA,iV a.P.Slot,iV a.Q.aA,iV a.Q.Slot,iV a.A,iV a.B,iV a.N,.int .u64 a.K,a.cv])] Tryz.func5 O O O O<|R.nK (r:=eC) ht (BS ht)<|R.pC ew<|R.nK (r:=ag.acts l) Hw (F4 Hw)<|R.pC vj<|R.reg O<|R.s O (s.box O O O) fun b1=>?_
 refine R.u 1 O<|R.nil<|R.reg O<|R.c (q.call RU O O (fun w hw=>(IZ w (by exact hw.okF eC (by repeat (first|exact List.Mem.head _|refine List.Mem.tail _ ?_)))))) O<|R.u 1 O<|R.nil ?_
 refine R.reg O<|R.u 2 O<|R.nil<|R.aB O O<|R.reg O<|R.u 1 O<|?_
 by_cases h1:lO l 60=true
 .
  refine R.s O (s.aW [0] [2,1,3] _ _ _ O O O N1 O O (fun w own hw H=>FK bP l w own H ‹_›) O) ?_
  rintro ⟨z1,z2,z3,z4,z5,z6,z7,z8,z9,kY,lZ,z12⟩
  dsimp only
  refine R.u 7 O<|R.nil<|R.reg O<|R.u 3 O<|R.qg O (q.dh 7 O O sT) O<|R.s O (s.bs (l:=([a]:List dQ)) wv Jc O O O O O O O) fun b2=>?_
  rcases Bool.eq_false_or_eq_true (lO ([a]) 1) with h2|h2
  .
   refine R.cg O (q.call Mn O O (fun w hw=>(cv (congrArg Value.bool h2) (oZ _ ([a]) 1 w (hw.row 0 O) (Cv (hw.bG 5 O)) )))) O<|R.u 2 O<|R.nil<|R.aB O O ?_
   have hla:lO l 60=true:=by assumption
   have hll:=xc hla;have pp:=G6 l (by omega);have pq:=pp;obtain ⟨⟨u1,p1⟩,p2,p3⟩:=pq;have hI:=p1.inv;have hk:=p3.ok (by omega);have g1:=p1.pre (by omega);obtain ⟨g2,g3,g4,g5⟩:=g1;have hz:=L6 p3 a (by omega);have z0:=Ap (r:=(aX l).1.R) a
   obtain ⟨d1,d2,d3⟩:=pp.acts (by omega) a;have d4:decide ((e8 (aX l).1 (aX l).2.1 (aX l).2.2.1 (aX l).2.2.2 (cE (aX l).1.R a)).2.2.2.2=(cE (aX l).1.R a).2)=true:=decide_eq_true d1;have d5:Ok (e8 (aX l).1 (aX l).2.1 (aX l).2.2.1 (aX l).2.2.2 (cE (aX l).1.R a)).1.R:=(by by_cases q:(cE (aX l).1.R a).2=0;exact (d3 q).symm▸hz q;exact (d2 q).symm▸hk)
   refine R.reg O<|R.u 1 O<|R.s O (s.aW [5,0,1,2,3,4,6,7,8] bJ _ _ _ O O O F9 O O (fun w own hw H=>pd z5 z6 z7 z8 z9 kY (aX l).1 w own H ‹_›) O) ?_
   rintro ⟨pI,yE,Gy,Cj,z17,yP,BD,z20⟩
   dsimp only
   refine R.s O (s.alloc dI O O) fun b3=>?_
   refine R.s O (s.fS 0 _ O O O (fun _ _=>rfl) (.inl aj) (fun w hw=>(af (Sl.one (hw.bG 4 O)) (af (Sl.one (hw.bG 5 O)) (af (Sl.one (hw.bG 6 O)) (af (Sl.one (hw.bG 7 O)) (af O (af O aP))))))) O O O) fun _=>?_
   refine R.nil<|R.reg O<|R.q (q.dh 0 O O aj) O<|R.q (q.dh 9 O O sT) O<|R.s O (s.aW [0,1,2,3,4,5,6,7,8,9] [4,5,6,7] _ _ _ O O O N2 O O (fun w own hw H=>GJ z17 yP BD z20 (aX l).1.R a w own H ‹_›) O) ?_
   rintro ⟨z21,z22,z23,z24⟩
   dsimp only
   refine R.u 3 O<|R.s O (s.alloc dI O O) fun b4=>?_
   refine R.s O (s.fS 0 _ O O O (fun _ _=>rfl) (.inl aj) (fun w hw=>(af (Sl.one (hw.bG 0 O)) (af (Sl.one (hw.bG 1 O)) (af (Sl.one (hw.bG 2 O)) (af (Sl.one (hw.bG 3 O)) (af O (af O aP))))))) O O O) fun _=>?_
   refine R.u 1 O<|R.nil<|R.reg O<|R.u 1 O<|R.q (q.dh 10 O O sT) O<|R.s O (s.aW [2,8,4,5,6,7,9,0,1,3,10] [4,5,6,7,16,20] _ _ _ O O O Jj O O (fun w own hw H=>sI z5 pI yE Gy Cj (aX l).1 a kY lZ (aX l).2.1 z1 z2 z3 z4 (aX l).2.2.1 z12 (aX l).2.2.2 w own H ‹_› ‹_› (by omega) ‹_› ‹_› ‹_› ‹_›) O) ?_
   rintro ⟨z25,z26,z27,z28,z29,z30,z31,z32,z33⟩
   dsimp only
   refine R.u 1 O<|R.nil<|R.reg O<|R.u 1 O<|?_
   by_cases h3:(e8 (aX l).1 (aX l).2.1 (aX l).2.2.1 (aX l).2.2.2 (cE (aX l).1.R a)).2.2.2.2=0
   .
    refine R.q (q.dx O O Tryz.underlying38) O<|R.nil<|R.aB O O ?_
    have e1:decide ((e8 (aX l).1 (aX l).2.1 (aX l).2.2.1 (aX l).2.2.2 (cE (aX l).1.R a)).1.R=(cE (aX l).1.R a).1)=true:=decide_eq_true (d3 (by omega))
    have h4:(decide (((e8 (aX l).1 (aX l).2.1 (aX l).2.2.1 (aX l).2.2.2 (cE (aX l).1.R a)).1.R)=(cE (aX l).1.R a).1))=true:=by have UK:(decide (((e8 (aX l).1 (aX l).2.1 (aX l).2.2.1 (aX l).2.2.2 (cE (aX l).1.R a)).1.R)=(cE (aX l).1.R a).1))=true:=(by exact e1);simp only [UK];done
    refine R.fP (fuel:=9) ow O O mixed O<|D.q (i:=0) O (aD ow nE O) O (q.mv O) O<|D.q (i:=1) O (aD ow nE O) O (q.lx O O Tryz.underlying38) O<|D.q (i:=2) O (aD ow nE O) O (q.mv O) O<|D.q (i:=3) O (aD ow nE O) O (q.mv O) O<|D.q (i:=5) O (aD ow nE O) O (q.dh 6 O O aj) O<|D.one (i:=4) O<|Do.s (s.aW [0,1,2,3,4,5,6,7,8,9,10] bJ _ _ _ O O O F9 O O (fun w own hw H=>pd z5 z25 z26 z27 z28 kY (e8 (aX l).1 (aX l).2.1 (aX l).2.2.1 (aX l).2.2.2 (cE (aX l).1.R a)).1 w own H ‹_›) O) (fun _=>(aD ow FN O)) O ?_
    rintro ⟨z50,z51,z52,z53,z54,z55,z56,z57⟩
    dsimp only
    refine D.one (i:=6) O<|Do.s (s.c (q.call N0 O O (fun w hw=>(cv (congrArg Value.bool h4) (rQ _ _ _ _ (e8 (aX l).1 (aX l).2.1 (aX l).2.2.1 (aX l).2.2.2 (cE (aX l).1.R a)).1.R _ _ _ _ (cE (aX l).1.R a).1 w (hw.bG 4 O) (hw.bG 5 O) (hw.bG 6 O) (hw.bG 7 O) (hw.bG 13 O) (hw.bG 14 O) (hw.bG 15 O) (hw.bG 16 O) )))) O) (fun _=>(aD ow FN O)) O fun _=>?_
    exact D.q (i:=7) rfl (fun _=>Wd.pk [1,2,3,4,5,6,7,8,9,10] [8,9,10,11,12,13,14,15,16,17,18,19,20,21,22,23,24,25,26,27,28,29,30,31,32,33] rfl) rfl (q.FT rfl rfl) rfl<|D.q (i:=8) rfl (fun _=>Wd.pk [1,2,3,4,5,6,7,8,9,10] [8,9,10,11,12,13,14,15,16,17,18,19,20,21,22,23,24,25,26,27,28,29,30,31,32,33] rfl) rfl (q.as rfl) rfl<|D.done<|R.rv rfl Tryz.results5 rfl (rB (by rfl))
   refine R.q (q.d9 O O Tryz.underlying38) O<|R.nil<|R.av O O ?_
   have e1:decide ((e8 (aX l).1 (aX l).2.1 (aX l).2.2.1 (aX l).2.2.2 (cE (aX l).1.R a)).1.R=(aX l).1.R)=true:=decide_eq_true (d2 (by omega))
   have h5:(decide (((e8 (aX l).1 (aX l).2.1 (aX l).2.2.1 (aX l).2.2.2 (cE (aX l).1.R a)).1.R)=(aX l).1.R))=true:=by have UK:(decide (((e8 (aX l).1 (aX l).2.1 (aX l).2.2.1 (aX l).2.2.2 (cE (aX l).1.R a)).1.R)=(aX l).1.R))=true:=(by exact e1);simp only [UK];done
   refine R.fP (fuel:=12) ow O O mixed O<|D.q (i:=0) O (aD ow nE O) O (q.mv O) O<|D.q (i:=2) O (aD ow nE O) O (q.mv O) O<|D.one (i:=1) O<|Do.s (s.c (q.call N3 O O (fun w hw=>(xY (e8 (aX l).1 (aX l).2.1 (aX l).2.2.1 (aX l).2.2.2 (cE (aX l).1.R a)).2.2.2.2 w ))) O) (fun _=>(aD ow nE O)) O fun _=>?_
   refine D.one (i:=3) O<|Do.s (s.c (q.call N3 O O (fun w hw=>(xY (cE (aX l).1.R a).2 w ))) O) (fun _=>(aD ow nE O)) O fun _=>?_
   refine D.q (i:=4) O (aD ow nE O) O (q.fI O O) O<|D.q (i:=5) O (aD ow nE O) O (q.mv O) O<|D.q (i:=6) O (aD ow nE O) O (q.mv O) O<|D.q (i:=8) O (aD ow nE O) O (q.dh 7 O O aj) O<|D.one (i:=7) O<|Do.s (s.aW [0,1,2,3,4,5,6,7,8,9,10] bJ _ _ _ O O O F9 O O (fun w own hw H=>pd z5 z25 z26 z27 z28 kY (e8 (aX l).1 (aX l).2.1 (aX l).2.2.1 (aX l).2.2.2 (cE (aX l).1.R a)).1 w own H ‹_›) O) (fun _=>(aD ow FN O)) O ?_
   rintro ⟨z74,z75,z76,z77,z78,z79,z80,WO⟩
   dsimp only
   refine D.one (i:=9) O<|Do.s (s.c (q.call N0 O O (fun w hw=>(cv (congrArg Value.bool h5) (rQ _ _ _ _ (e8 (aX l).1 (aX l).2.1 (aX l).2.2.1 (aX l).2.2.2 (cE (aX l).1.R a)).1.R _ _ _ _ (aX l).1.R w (hw.bG 4 O) (hw.bG 5 O) (hw.bG 6 O) (hw.bG 7 O) (hw.bG 21 O) (hw.bG 22 O) (hw.bG 23 O) (hw.bG 24 O) )))) O) (fun _=>(aD ow FN O)) O fun _=>?_
   exact D.q (i:=10) rfl (fun _=>Wd.pk [1,2,3,4,5,6,7,8,9,10] [8,9,10,11,12,13,14,15,16,17,18,19,20,21,22,23,24,25,26,27,28,29,30,31,32,33] rfl) rfl (q.FT rfl rfl) rfl<|D.q (i:=11) rfl (fun _=>Wd.pk [1,2,3,4,5,6,7,8,9,10] [8,9,10,11,12,13,14,15,16,17,18,19,20,21,22,23,24,25,26,27,28,29,30,31,32,33] rfl) rfl (q.as rfl) rfl<|D.done<|R.rv rfl Tryz.results5 rfl (rB (by rfl))
  exact R.cg O (q.call Mn O O (fun w hw=>(cv (congrArg Value.bool h2) (oZ _ ([a]) 1 w (hw.row 0 O) (Cv (hw.bG 5 O)) )))) O<|R.u 2 O<|R.nil<|R.av O O<|R.reg O<|R.u 1 O<|R.nil<|R.rv O Tryz.results5 O (rB (by rfl))
 refine R.s O (s.aW [0] [2,1] _ _ _ O O O N1 O O (fun w own hw H=>IY bP l w own H (by exact Bool.eq_false_iff.2 ‹_›)) O) fun _=>?_
 exact R.u 7 O<|R.nil<|R.reg O<|R.u 8 O<|R.nil<|R.av O O<|R.reg O<|R.u 1 O<|R.nil<|R.rv O Tryz.results5 O (rB (by rfl))
end
section
open Go Go.RowKit
theorem TG:(Tryz.prog.globals[1]?).map (·.type)=some 294:=by kernel_rfl
theorem TH:(Tryz.prog.globals[2]?).map (·.type)=some 38:=by kernel_rfl
theorem NN:Tryz.prog.cellsOf 294=20:=by kernel_rfl
theorem Q7:∀t,Tryz.prog.underlying 294=some (.array 20 t)->Tryz.prog.cellsOf t=1:=fun t h=>by
 rw [Tryz.underlying294] at h;injection h with h;injection h with _ h;subst h;kernel_rfl
theorem OX : "*" ++ "errors.errorString" = "*errors.errorString" :=by decide
theorem Q8:∀u,Tryz.prog.typeName? 3 u=some "*errors.errorString" → u=308:=fun u h =>
 typeName_ptr_named (nm:= "errors.errorString") (by rw [OX];kernel_rfl) (by kernel_rfl) (by decide) u (by rw [OX];exact h)
theorem NP {W:World}(h:laidMetH Tryz.prog [("math/bits.deBruijn32tab",Rows.laid_math_bits_deBruijn32tab),("math/bits.deBruijn64tab",Rows.laid_math_bits_deBruijn64tab),("internal/strconv.uint64pow10",Rows.laid_internal_strconv_uint64pow10),("strconv.ErrRange",Rows.laid_strconv_ErrRange),("strconv.ErrSyntax",Rows.laid_strconv_ErrSyntax)] W):DR W:=by
 rw [MakeChecks.laidMetH_plain _ _ _ (by kernel_rfl)] at h
 have h3:=h.tail.tail
 have h5:=h3.tail.tail
 refine ⟨Lib.tabIs_of_head QH TG Tryz.underlying294 Tryz.underlying33 (Q7 _ Tryz.underlying294) NN (rest:=[("strconv.ErrRange",Rows.laid_strconv_ErrRange),("strconv.ErrSyntax",Rows.laid_strconv_ErrSyntax)]) h3,?_⟩
 obtain ⟨a,s,h6,_⟩:=laid_sentinel (text:=[105,110,118,97,108,105,100,32,115,121,110,116,97,120]) h5 QI TH Tryz.underlying38 Q8 Tryz.underlying308 Tryz.underlying310 rfl rfl Tryz.underlying9 (by kernel_rfl) (by kernel_rfl)
 exact ⟨_,_,h6⟩
end
end Go.Proofs.YtkbhcbipadkcaaaGreatDoor
section
namespace Go.Proofs.YtkbhcbipadkcaaaGreatDoor.TopWhole
open Go.ChangeShapes Go.WideShapes Go.ChangeAt Go.RowKit
set_option linter.unusedVariables false
set_option linter.unusedSimpArgs false
theorem own:ownKnob Tryz.prog.godebug=none:=by kernel_rfl
theorem laidOut:laidOutB Tryz.prog=true:=by kernel_rfl
theorem back:∀t∈Tryz.f5.params.toList,Tryz.prog.readableRec t=true/\t<Tryz.prog.types.size:=by
 rw [Tryz.params5];intro t ht;simp at ht
 (repeat' rcases ht with rfl|ht) <;> first|exact ⟨by kernel_rfl,of_decide_eq_true (by kernel_rfl)⟩ | (subst ht;exact ⟨by kernel_rfl,of_decide_eq_true (by kernel_rfl)⟩)
theorem L8 (os:Os)(args:Array Value):laidMetH Tryz.prog Rows.topWholeRow.laid ((World.doorLaid Tryz.prog 400 os).forCall (fun _ _=>0) ⟨#[],args,[]⟩).memory :=
 laidMetH_of_parts3 (fuel:=8) (laidMet_of_run' 8 (by kernel_rfl) (by kernel_rfl)) (by kernel_rfl) (by kernel_rfl)
set_option maxRecDepth 100000 in
theorem lifted (os:Os)(started:os.Started)(H:Type)(enc:TypeId×Value->H) :
 ReturnsInHanded {} Tryz.checked os 5 .any (fun w args=>(Rows.topWholeSpec.pre enc Tryz.prog Tryz.f5 [] false w args/\laidMetH Tryz.prog Rows.topWholeRow.laid w)/\sizedMet enc Tryz.prog Tryz.f5 (OpenSpec.ofChange Rows.topWholeSpec) false w args)
  (Rows.topWholeSpec.post enc Tryz.prog Tryz.f5 false true false false):=by
 refine returnsInHanded_of_change_and (C:=Tryz.checked) (X:=fun w _=>laidMetH Tryz.prog Rows.topWholeRow.laid w) (fun _ _ _ hh h=>h.of_heap hh) own started (by kernel_rfl) Tryz.func5
  (ChangeSpec.witness_shaped (enc:=enc) (C:=Tryz.checked) (os:=os) (X:=fun w _=>laidMetH Tryz.prog Rows.topWholeRow.laid w) false (World.doorLaid Tryz.prog 400 os) #[.slice none 0 0,.agg #[.string ⟨#[]⟩,.string ⟨#[]⟩,.int .i64 0,.int .i64 0,.int .i64 0,.int .i64 0,.int .i64 0,.int .i64 0,.int .i64 0,.int .u64 0,.slice none 0 0]] 8 rfl (World.shaped_of_RefB (by kernel_rfl) (by kernel_rfl)) (by kernel_rfl) (by kernel_rfl) (by kernel_rfl) (L8 os _)) ?_
 intro W base args ds gs before hval0 hW _ _ hL _
 have hval:∀ (j:Nat) t v,Tryz.f5.params[j]? = some t->args[j]? = some v->Value.okWide Tryz.prog W .any base t v:=hval0
 have hW':=hW
 obtain ⟨p,q,Vk,hV,rfl,hfz,hnd⟩:=hW
 have hA:DataW.TrodAll enc Tryz.prog W 0 (fun _=>true) true Tryz.f5.params.toList args.toList ds p:=Vk
 have hA2:=hA
 have hback:=back
 rw [Tryz.params5] at hA hval hA2 hback
 obtain ⟨v0,WQ,d0,ds0,p0,q0,hargs,rfl,rfl,h0,r0⟩:=trodAll_cons hA
 obtain ⟨v1,vs1,d1,ds1,p1,q1,rfl,rfl,rfl,h1,r1⟩:=trodAll_cons r0
 obtain ⟨rfl,rfl,rfl⟩:=trodAll_nil r1
 obtain rfl:args = #[v0,v1]:=by cases args;simp_all
 obtain ⟨rfl,rfl⟩:=trodVars_none hV
 obtain ⟨x0,s0,c0,f0⟩:=Ja (hval 0 _ v0 rfl rfl) h0
 obtain ⟨x1,rfl,s1,f1⟩:=Ml (hval 1 _ v1 rfl rfl) h1
 clear Vk hval0
 refine (Ch _ x0 x1 W s0 c0 s1 (NP hL)).mono fun e W' ⟨he,Vl⟩=>?_
 subst he
 exact ⟨_,rfl,_,_,_,[],_,[],hW',trodAll_mk1 (shut_bool Tryz.underlying4 _),trodAll_back laidOut Vl.below hback hA2,rfl,Vl.below.frame _,fun h=>by cases h⟩
theorem over:Rows.topWholeRow.holds Tryz.pinned (OpenSpec.ofChange Rows.topWholeSpec) :=
 OpenClaim.holds_of_wide 5 Tryz.f5 rfl rfl rfl rfl rfl rfl rfl ⟨rfl,rfl,rfl,rfl,rfl⟩ rfl rfl rfl rfl rfl (by kernel_rfl) Tryz.func5 (by kernel_rfl)
  (of_decide_eq_true (by kernel_rfl)) (by unfold Func.isWrapper;first|(rw [if_pos (by decide +kernel)];kernel_rfl)|(rw [if_neg (by decide +kernel)];exact ⟨rfl,rfl⟩))
  (fun os started H enc _=>lifted os started H enc)
theorem proved:Rows.TopWholeCardSaid :=
 Claim7.holds_tied_plain_at .later [] [.data,.data,.data,.sentinel,.sentinel] true (true,"740941bdca030c52b5d405e0b18da6d55d3bb80363adaeeb70679935f3666678") true
  over (fun _ h=>by cases h) (by kernel_rfl) (fun _ h=>by cases h) topWhole_row_tie rfl ⟨rfl,rfl⟩ (by kernel_rfl) rfl
  (fun f fn hf hfn=>by
   obtain rfl:f=5:=Option.some.inj ((show Tryz.prog.funcNamed "writkeep/writkeeptop.TopWhole" = some 5 by kernel_rfl).symm.trans hf) |>.symm
   obtain rfl:fn=Tryz.f5:=(Option.some.inj (Tryz.func5.symm.trans hfn)).symm
   exact ⟨by kernel_rfl,fun j t ht=>by
    have hall:(Tryz.f5.params.toList.all fun u => !Tryz.prog.wantsStandIn u)=true:=by kernel_rfl
    have hm:t∈Tryz.f5.params.toList:=by simpa using Array.mem_of_getElem? ht
    have hq:=List.all_eq_true.1 hall t hm
    exact (show Tryz.prog.wantsStandIn t=false by simpa using hq)⟩)
  (by kernel_rfl)
end Go.Proofs.YtkbhcbipadkcaaaGreatDoor.TopWhole
end
