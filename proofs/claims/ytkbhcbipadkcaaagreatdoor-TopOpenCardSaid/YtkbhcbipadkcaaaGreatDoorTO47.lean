import Derived.Test.YtkbhcbipadkcaaaGreatDoorTO46
namespace Go.Proofs.YtkbhcbipadkcaaaGreatDoor
set_option linter.unusedVariables false
set_option linter.unusedSimpArgs false
open Go Go.RowKit
set_option maxRecDepth 100000
set_option maxHeartbeats 90000000
attribute [local irreducible] bD ct bm ky dK dNew cQ
theorem IJ (b_k:Nat)(mO mP mQ mR:Value)(k:kb)(cD:Nat)(aL:Value)(st:ka)(aH:Nat)(ay aG az:Value)(dk:cw)(bz:Nat)(lg:Lg)(w:World)(own:List Nat)(H:HN w own [ag.box b_k [.pointer (some ⟨cD,0,none⟩),mO,mP,mQ,mR,iV k.R.ae,iV k.R.ah] 78,ag.box cD [.pointer (some ⟨aH,0,none⟩),iV st.Epoch,iV st.Side,iV st.Size,iV st.First,.pointer (some ⟨bz,0,none⟩),aL] 133,ag.box aH [ay,aG,az,iV dk.Fuse,.bool dk.Down] 112,ag.row 9 ay dk.Kept,ag.row 9 aG dk.Now,ag.row 114 az dk.Wait,ag.box bz [.pointer (some ⟨aH,0,none⟩),iV lg.From,iV lg.Many,iV lg.First,iV lg.Next] 198] [ag.ls mO k.R.ak,ag.ls mP k.R.Things,ag.ls mQ k.R.Held,ag.ls mR k.R.Notes,ag.ls aL st.Rows])(hD:fL dk.Now.length 60000 dk/\dk.Now.length<=200/\166<=dk.Now.length)(hS:0<=st.Epoch/\st.Epoch<=1000000000/\0<=st.Side/\st.Side<=1/\0<=lg.Many/\lg.Many<=1000/\1<=lg.First/\lg.First<=1000000000/\0<=lg.From/\lg.From<=1000/\0<=lg.Next/\lg.Next<=1000)(hl:st.Rows.length<=60)(hF:∀c∈st.Rows,iI c=0):RC Tryz.prog 12 #[.pointer (some ⟨b_k,0,none⟩)] H (fun _:Value×Value×Value×Value×Value×Value×Value×Value×Nat=>df (ct (mkS st lg) dk).2.2) (fun z=>[ag.box b_k [.pointer (some ⟨cD,0,none⟩),z.1,z.2.1,z.2.2.1,z.2.2.2.1,iV k.R.ae,iV k.R.ah] 78,ag.box cD [.pointer (some ⟨aH,0,none⟩),iV (ct (mkS st lg) dk).1.c.Epoch,iV (ct (mkS st lg) dk).1.c.Side,iV (ct (mkS st lg) dk).1.c.Size,iV (ct (mkS st lg) dk).1.c.First,.pointer (some ⟨z.2.2.2.2.2.2.2.2,0,none⟩),z.2.2.2.2.1] 133,ag.box aH [z.2.2.2.2.2.1,z.2.2.2.2.2.2.1,z.2.2.2.2.2.2.2.1,iV (ct (mkS st lg) dk).2.1.Fuse,.bool (ct (mkS st lg) dk).2.1.Down] 112,ag.row 9 z.2.2.2.2.2.1 (ct (mkS st lg) dk).2.1.Kept,ag.row 9 z.2.2.2.2.2.2.1 (ct (mkS st lg) dk).2.1.Now,ag.row 114 z.2.2.2.2.2.2.2.1 (ct (mkS st lg) dk).2.1.Wait,ag.box z.2.2.2.2.2.2.2.2 [.pointer (some ⟨aH,0,none⟩),iV (ct (mkS st lg) dk).1.L.From,iV (ct (mkS st lg) dk).1.L.Many,iV (ct (mkS st lg) dk).1.L.First,iV (ct (mkS st lg) dk).1.L.Next] 198]) (fun z=>[ag.ls z.1 k.R.ak,ag.ls z.2.1 k.R.Things,ag.ls z.2.2.1 k.R.Held,ag.ls z.2.2.2.1 k.R.Notes,ag.ls z.2.2.2.2.1 (ct (mkS st lg) dk).1.c.Rows]):=by
 have eE:=H.cap 3 rfl;have eF:=H.cL 3 rfl
 have fC:=H.cap 4 rfl;have fD:=H.cL 4 rfl
 have eG:=H.cap 5 rfl;have eH:=H.cL 5 rfl
 have qx:=H.cq 0 rfl
 have o7:=H.cq 1 rfl
 have sB:=H.cq 2 rfl
 have qy:=H.cq 3 rfl
 have qP:=H.cq 4 rfl
 have hD2:fL dk.Now.length 70000 dk/\dk.Now.length<=200/\166<=dk.Now.length:=⟨hD.1.up (by omega),hD.2⟩
 refine R.bC [(0,.pointer (some ⟨b_k,0,none⟩))] Tryz.func12 O O O O H<|R.reg O<|R.u 1 O<|R.nil<|R.reg O<|R.u 1 O<|R.q (q.cb O) O<|R.q (q.aO O zg O) O<|R.q (q.ld 0 O O iP O) O<|R.s O (s.aW [1,2,3,4,5,6,0,7] [4] _ _ _ O O O NS O O (fun w own hw H=>Da cD aL st aH ay aG az dk bz lg w own H ‹_› (by omega) (by omega) ‹_›) O) ?_
 rintro ⟨z1,z2,z3,z4,z5⟩
 dsimp only
 refine R.u 1 O<|R.nil ?_
 have hz:(k,(ct (mkS st lg) dk).1.c,(ct (mkS st lg) dk).2.1,(ct (mkS st lg) dk).1.L,(ct (mkS st lg) dk).2.2)=(k,(ct (mkS st lg) dk).1.c,(ct (mkS st lg) dk).2.1,(ct (mkS st lg) dk).1.L,(ct (mkS st lg) dk).2.2):=by (rfl)
 exact R.w1 (mO,mP,mQ,mR,z1,z2,z3,z4,z5) [6,0,1,2,3,4,5,7] [1,2,3,4,0] O Tryz.results12 (RV.tmp O) O O O O
theorem sC (b_k:Nat)(mO mP mQ mR:Value)(OH:Nat)(k:kb)(w:World)(own:List Nat)(H:HN w own [ag.box b_k [.pointer (some ⟨OH,0,none⟩),mO,mP,mQ,mR,iV k.R.ae,iV k.R.ah] 78] [ag.ls mO k.R.ak,ag.ls mP k.R.Things,ag.ls mQ k.R.Held,ag.ls mR k.R.Notes])(hk:Ok k.R):RC Tryz.prog 20 #[.pointer (some ⟨b_k,0,none⟩)] H (fun z:Value×Value×Value×Value×Value×Value×Value×Value => .agg #[z.2.2.2.2.1,z.2.2.2.2.2.1,z.2.2.2.2.2.2.1,z.2.2.2.2.2.2.2,iV k.R.ae,iV k.R.ah]) (fun z=>[ag.box b_k [.pointer (some ⟨OH,0,none⟩),z.1,z.2.1,z.2.2.1,z.2.2.2.1,iV k.R.ae,iV k.R.ah] 78]) (fun z=>[ag.ls z.1 k.R.ak,ag.ls z.2.1 k.R.Things,ag.ls z.2.2.1 k.R.Held,ag.ls z.2.2.2.1 k.R.Notes,ag.ls z.2.2.2.2.1 k.R.ak,ag.ls z.2.2.2.2.2.1 k.R.Things,ag.ls z.2.2.2.2.2.2.1 k.R.Held,ag.ls z.2.2.2.2.2.2.2 k.R.Notes]):=by
 have qx:=H.cq 0 rfl
 have o7:=H.cq 1 rfl
 have sB:=H.cq 2 rfl
 have qy:=H.cq 3 rfl
 refine R.bC [(0,.pointer (some ⟨b_k,0,none⟩))] Tryz.func20 O O O O H<|R.reg O<|R.s O (s.alloc dP O O) fun b1=>?_
 refine R.nil<|R.reg O<|R.u 1 O<|R.q (q.cb O) O<|R.q (q.aO O nK O) O<|R.q (q.G1 (ds:=[mO,mP,mQ,mR,iV k.R.ae,iV k.R.ah]) 1 O O ao O) O<|R.s O (s.aW [0,1,2] bL _ _ _ O O O NV O O (fun w own hw H=>zY mO mP mQ mR k.R w own H ‹_›) O) ?_
 rintro ⟨z1,z2,z3,z4⟩
 dsimp only
 refine R.s O (s.fX 0 _ O O O (fun _ _=>rfl) (.inl ao) (fun w hw=>(af (Sl.one (hw.bP 0 O)) (af (Sl.one (hw.bP 1 O)) (af (Sl.one (hw.bP 2 O)) (af (Sl.one (hw.bP 3 O)) (af O (af O aP))))))) O O O) fun _=>?_
 exact R.nil<|R.w1 (mO,mP,mQ,mR,z1,z2,z3,z4) [1,2] [4,5,6,7,0,1,2,3] O Tryz.results20 (RV.cell 0 O O ao) O O O O
theorem Eh (bR bH bI bJ:Value)(r:aC)(JA:Nat)(a:eh)(w:World)(own:List Nat)(H:HN w own [ag.box JA (Eu a) 36] [ag.ls bR r.ak,ag.ls bH r.Things,ag.ls bI r.Held,ag.ls bJ r.Notes])(hk:Ok r):RC Tryz.prog 50 #[.agg #[bR,bH,bI,bJ,iV r.ae,iV r.ah],.pointer (some ⟨JA,0,none⟩)] H (fun z:Value×Value×Value×Value => .tuple #[.agg #[z.1,z.2.1,z.2.2.1,z.2.2.2,iV (cQ r a).1.ae,iV (cQ r a).1.ah],df (cQ r a).2]) (fun _=>[]) (fun z=>[ag.ls z.1 (cQ r a).1.ak,ag.ls z.2.1 (cQ r a).1.Things,ag.ls z.2.2.1 (cQ r a).1.Held,ag.ls z.2.2.2 (cQ r a).1.Notes]):=by
 have eJ:=H.cq 0 rfl
 have dM:=H.cq 1 rfl
 have fG:=H.cq 2 rfl
 have eK:=H.cq 3 rfl
 refine R.bC [(0,.agg #[bR,bH,bI,bJ,iV r.ae,iV r.ah]),(1,.pointer (some ⟨JA,0,none⟩))] Tryz.func50 O O O O H<|R.reg O<|R.s O (s.box O O O) fun b1=>?_
 refine R.s O (s.alloc dP O O) fun b2=>?_
 refine R.u 1 O<|R.nil<|R.reg O<|R.q (q.dt 1 O O ao) O<|R.q (q.dt 2 O O FU) O<|R.s O (s.aW bL bL _ _ _ O O O RJ O O (fun w own hw H=>MW bR bH bI bJ r a w own H ‹_›) O) ?_
 rintro ⟨z1,z2,z3,z4⟩
 dsimp only
 refine R.u 2 O<|R.s O (s.fX 0 _ O O O (fun _ _=>rfl) (.inl ao) (fun w hw=>(af (Sl.one (hw.bP 0 O)) (af (Sl.one (hw.bP 1 O)) (af (Sl.one (hw.bP 2 O)) (af (Sl.one (hw.bP 3 O)) (af O (af O aP))))))) O O O) fun _=>?_
 refine R.u 1 O<|R.nil ?_
 have hz:cQ r a=(((cQ r a).1),(cQ r a).2):=by (rfl)
 rw [hz]
 exact R.w2 (z1,z2,z3,z4) [3] bL O Tryz.results50 (RV.cell 0 O O ao) (RV.tmp O) O O O (dy O O)
set_option maxHeartbeats 90000000 in
theorem Nz (b_k:Nat)(mO mP mQ mR:Value)(k:kb)(JA:Nat)(a:eh)(cD:Nat)(aL:Value)(st:ka)(aH:Nat)(ay aG az:Value)(dk:cw)(bz:Nat)(lg:Lg)(w:World)(own:List Nat)(H:HN w own [ag.box b_k [.pointer (some ⟨cD,0,none⟩),mO,mP,mQ,mR,iV k.R.ae,iV k.R.ah] 78,ag.box JA (Eu a) 36,ag.box cD [.pointer (some ⟨aH,0,none⟩),iV st.Epoch,iV st.Side,iV st.Size,iV st.First,.pointer (some ⟨bz,0,none⟩),aL] 133,ag.box aH [ay,aG,az,iV dk.Fuse,.bool dk.Down] 112,ag.row 9 ay dk.Kept,ag.row 9 aG dk.Now,ag.row 114 az dk.Wait,ag.box bz [.pointer (some ⟨aH,0,none⟩),iV lg.From,iV lg.Many,iV lg.First,iV lg.Next] 198] [ag.ls mO k.R.ak,ag.ls mP k.R.Things,ag.ls mQ k.R.Held,ag.ls mR k.R.Notes,ag.ls aL st.Rows,eC])(hD:fL dk.Now.length 60000 dk/\dk.Now.length<=200/\166<=dk.Now.length)(hS:0<=st.Epoch/\st.Epoch<=1000000000/\0<=st.Side/\st.Side<=1/\0<=lg.Many/\lg.Many<=1000/\1<=lg.First/\lg.First<=1000000000/\0<=lg.From/\lg.From<=1000/\0<=lg.Next/\lg.Next<=1000)(hl:st.Rows.length<=60)(hF:∀c∈st.Rows,iI c=0)(hk:Ok k.R)(hI:Inv k.R)(hz:(cQ k.R a).2=0->Ok (cQ k.R a).1):RC Tryz.prog 49 #[.pointer (some ⟨b_k,0,none⟩),.func (.func 50) #[] #[.pointer (some ⟨JA,0,none⟩)]] H (fun _:Value×Value×Value×Value×Value×Value×Value×Value×Nat=>df (fQ k st dk lg (cQ k.R a)).2.2.2.2) (fun z=>[ag.box b_k [.pointer (some ⟨cD,0,none⟩),z.1,z.2.1,z.2.2.1,z.2.2.2.1,iV (fQ k st dk lg (cQ k.R a)).1.R.ae,iV (fQ k st dk lg (cQ k.R a)).1.R.ah] 78,ag.box cD [.pointer (some ⟨aH,0,none⟩),iV (fQ k st dk lg (cQ k.R a)).2.1.Epoch,iV (fQ k st dk lg (cQ k.R a)).2.1.Side,iV (fQ k st dk lg (cQ k.R a)).2.1.Size,iV (fQ k st dk lg (cQ k.R a)).2.1.First,.pointer (some ⟨z.2.2.2.2.2.2.2.2,0,none⟩),z.2.2.2.2.1] 133,ag.box aH [z.2.2.2.2.2.1,z.2.2.2.2.2.2.1,z.2.2.2.2.2.2.2.1,iV (fQ k st dk lg (cQ k.R a)).2.2.1.Fuse,.bool (fQ k st dk lg (cQ k.R a)).2.2.1.Down] 112,ag.row 9 z.2.2.2.2.2.1 (fQ k st dk lg (cQ k.R a)).2.2.1.Kept,ag.row 9 z.2.2.2.2.2.2.1 (fQ k st dk lg (cQ k.R a)).2.2.1.Now,ag.row 114 z.2.2.2.2.2.2.2.1 (fQ k st dk lg (cQ k.R a)).2.2.1.Wait,ag.box z.2.2.2.2.2.2.2.2 [.pointer (some ⟨aH,0,none⟩),iV (fQ k st dk lg (cQ k.R a)).2.2.2.1.From,iV (fQ k st dk lg (cQ k.R a)).2.2.2.1.Many,iV (fQ k st dk lg (cQ k.R a)).2.2.2.1.First,iV (fQ k st dk lg (cQ k.R a)).2.2.2.1.Next] 198]) (fun z=>[ag.ls z.1 (fQ k st dk lg (cQ k.R a)).1.R.ak,ag.ls z.2.1 (fQ k st dk lg (cQ k.R a)).1.R.Things,ag.ls z.2.2.1 (fQ k st dk lg (cQ k.R a)).1.R.Held,ag.ls z.2.2.2.1 (fQ k st dk lg (cQ k.R a)).1.R.Notes,ag.ls z.2.2.2.2.1 (fQ k st dk lg (cQ k.R a)).2.1.Rows]):=by
 have eE:=H.cap 4 rfl;have eF:=H.cL 4 rfl
 have fC:=H.cap 5 rfl;have fD:=H.cL 5 rfl
 have eG:=H.cap 6 rfl;have eH:=H.cL 6 rfl
 have qx:=H.cq 0 rfl
 have o7:=H.cq 1 rfl
 have sB:=H.cq 2 rfl
 have qy:=H.cq 3 rfl
 have qP:=H.cq 4 rfl
 have g0:=om hI;have g1:=vK hI a;have g2:=IG (r:=k.R) a;have g3:=fun (h:(cQ k.R a).2=0)=>om (g1 h).1
 refine R.bC [(0,.pointer (some ⟨b_k,0,none⟩)),(1,.func (.func 50) #[] #[.pointer (some ⟨JA,0,none⟩)])] Tryz.func49 O O O O H<|R.reg O<|R.u 1 O<|R.nil<|R.reg O<|R.u 2 O<|R.q (q.cb O) O<|R.q (q.aO O nK O) O<|R.q (q.G1 (ds:=[mO,mP,mQ,mR,iV k.R.ae,iV k.R.ah]) 0 O O ao O) O<|R.s O (s.aW bZ bL _ _ _ O O O NV O O (fun w own hw H=>zY mO mP mQ mR k.R w own H ‹_›) O) ?_
 rintro ⟨z1,z2,z3,z4⟩
 dsimp only
 refine R.s O (s.aW [1,0,2,3,4,5,6,7,8] bL _ _ _ O O O RR O O (fun w own hw H=>Eh z1 z2 z3 z4 k.R JA a w own H ‹_›) O) ?_
 rintro ⟨z5,z6,z7,z8⟩
 dsimp only
 refine R.u 3 O<|R.s O (s.alloc dP O O) fun b1=>?_
 refine R.s O (s.fX 0 _ O O O (fun _ _=>rfl) (.inl ao) (fun w hw=>(af (Sl.one (hw.bP 0 O)) (af (Sl.one (hw.bP 1 O)) (af (Sl.one (hw.bP 2 O)) (af (Sl.one (hw.bP 3 O)) (af O (af O aP))))))) O O O) fun _=>?_
 refine R.u 1 O<|R.nil<|R.reg O<|R.u 1 O<|?_
 by_cases h1:(cQ k.R a).2=0
 .
  have hk2:=hz ‹_›;have hI2:=(g1 ‹_›).1;have g4:(gT (mN (bF k.R) (bF (cQ k.R a).1))).length<=59:=(g1 ‹_›).2;have g5:=g3 ‹_›
  refine R.q (q.dB O O Tryz.underlying38) O<|R.nil<|R.aA O O<|R.fY (fuel:=9) bZ O O mixed O<|D.q (i:=0) O (aD bZ sE O) O (q.mv O) O<|D.q (i:=1) O (aD bZ sE O) O (q.cb O) O<|D.q (i:=2) O (aD bZ sE O) O (q.aO O nK O) O<|D.q (i:=3) O (aD bZ sE O) O (q.G1 (ds:=[mO,mP,mQ,mR,iV k.R.ae,iV k.R.ah]) 1 O O ao O) O<|D.q (i:=5) O (aD bZ sE O) O (q.dt 0 O O ao) O<|D.one (i:=4) O<|Do.s (s.aW bZ [8,9,10,11,13] _ _ _ O O O Jd O O (fun w own hw H=>yl mO mP mQ mR k.R w own H ‹_› ‹_›) O) (fun _=>(aD Cc sE O)) O fun z12=>?_
  refine D.one (i:=6) O<|Do.s (s.aW [0,1,2,3,4,5,6,7,8,9] [0,1,2,3,13] _ _ _ O O O Jd O O (fun w own hw H=>yl z5 z6 z7 z8 (cQ k.R a).1 w own H ‹_› ‹_›) O) (fun _=>(aD [2,3,4,5,6,7,8,9,10] sE O)) O fun qc=>?_
  refine D.one (i:=7) O<|Do.s (s.EE (Bl:=[ag.row 117 z12 (bF k.R),ag.row 117 qc (bF (cQ k.R a).1)]) (Fl:=[ag.ls z12 (bF k.R),ag.ls qc (bF (cQ k.R a).1)]) [1,0,2,3,4,5,6,7,8,9,10] [0,1] (fun kQ:Value=>kQ) (fun kQ:Value=>[ag.row 117 kQ (gT (mN (bF k.R) (bF (cQ k.R a).1)))]) O O (qD (qD wH)) O OZ O O (fun w own hw H=>D8 z12 (bF k.R) qc (bF (cQ k.R a).1) w own H (by omega)) O) (fun _=>(aD [3,4,5,6,7,8,9,10,11] sE O)) O fun yD=>?_
  refine D.q (i:=8) O (aD [3,4,5,6,7,8,9,10,11] sE O) O (q.as O) O<|D.done<|R.reg O<|R.u 1 O<|R.q (q.len' (bB 0 O) O Tryz.underlying34) O<|?_
  by_cases h2:0<(gT (mN (bF k.R) (bF (cQ k.R a).1))).length
  .
   refine R.q (q.eL O O) O<|R.nil<|R.av O O<|R.reg O<|R.u 1 O<|R.q (q.cb O) O<|R.q (q.aO O zg O) O<|R.q (q.ld 4 O O iP O) O<|R.u 1 O<|R.s O (s.pre (fun _ hw=>hw.cW 0 _ O O) (s.aW [4,5,6,7,8,9,0,1,2,3,10] [13,0] _ _ _ O O O NW O O (fun w own hw H=>xt cD aL st yD (gT (mN (bF k.R) (bF (cQ k.R a).1))) aH ay aG az dk bz lg w own H ‹_› ‹_› (by omega) ‹_› (by omega)) O)) ?_
   rintro ⟨HD,Cb,z17,yK,Bs⟩
   dsimp only
   refine R.u 1 O<|R.nil<|R.reg O<|R.u 1 O<|?_
   by_cases h3:(bD (mkS st lg) dk (gT (mN (bF k.R) (bF (cQ k.R a).1)))).2.2=0
   .
    refine R.q (q.mo O O Tryz.underlying38) O<|R.nil<|R.av O O<|R.reg O<|R.u 1 O<|R.q (q.dt 8 O O ao) O<|R.q (q.cb O) O<|R.q (q.aO O nK O) O<|R.s O (s.fX 9 _ O O O (fun _ _=>rfl) (.inl ao) (fun w hw=>(af (Sl.one (hw.bP 2 O)) (af (Sl.one (hw.bP 3 O)) (af (Sl.one (hw.bP 4 O)) (af (Sl.one (hw.bP 5 O)) (af O (af O aP))))))) O O O) fun _=>?_
    refine R.nil<|R.reg O<|R.u 2 O<|R.nil ?_
    have hz:fQ k st dk lg (cQ k.R a)=((⟨(cQ k.R a).1⟩:kb),(bD (mkS st lg) dk (gT (mN (bF k.R) (bF (cQ k.R a).1)))).1.c,(bD (mkS st lg) dk (gT (mN (bF k.R) (bF (cQ k.R a).1)))).2.1,(bD (mkS st lg) dk (gT (mN (bF k.R) (bF (cQ k.R a).1)))).1.L,(bD (mkS st lg) dk (gT (mN (bF k.R) (bF (cQ k.R a).1)))).2.2):=by (rw [OD (k:=k) (sc:=st) (d:=dk) (lg:=lg) (z:=cQ k.R a) ‹_› ‹_› ‹_›];done)
    rw [hz]
    exact R.w1 (z5,z6,z7,z8,HD,Cb,z17,yK,Bs) [9,0,1,2,3,4,5,10] [2,3,4,5,0] O Tryz.results49 (RV.tmp O) O O O O
   refine R.q (q.jG O O Tryz.underlying38) O<|R.nil<|R.aA O O<|R.reg O<|R.u 2 O<|R.nil ?_
   have hz:fQ k st dk lg (cQ k.R a)=(k,(bD (mkS st lg) dk (gT (mN (bF k.R) (bF (cQ k.R a).1)))).1.c,(bD (mkS st lg) dk (gT (mN (bF k.R) (bF (cQ k.R a).1)))).2.1,(bD (mkS st lg) dk (gT (mN (bF k.R) (bF (cQ k.R a).1)))).1.L,(bD (mkS st lg) dk (gT (mN (bF k.R) (bF (cQ k.R a).1)))).2.2):=by (rw [OE (k:=k) (sc:=st) (d:=dk) (lg:=lg) (z:=cQ k.R a) ‹_› ‹_› ‹_›];done)
   rw [hz]
   exact R.w1 (mO,mP,mQ,mR,HD,Cb,z17,yK,Bs) [9,0,1,2,3,4,5,10] [10,11,12,13,0] O Tryz.results49 (RV.tmp O) O O O O
  refine R.q (q.eo O O) O<|R.nil<|R.aA O O<|R.reg O<|R.u 1 O<|R.q (q.mo O O Tryz.underlying38) O<|R.nil<|R.av O O<|R.reg O<|R.u 1 O<|R.q (q.dt 3 O O ao) O<|R.q (q.cb O) O<|R.q (q.aO O nK O) O<|R.s O (s.fX 4 _ O O O (fun _ _=>rfl) (.inl ao) (fun w hw=>(af (Sl.one (hw.bP 0 O)) (af (Sl.one (hw.bP 1 O)) (af (Sl.one (hw.bP 2 O)) (af (Sl.one (hw.bP 3 O)) (af O (af O aP))))))) O O O) fun _=>?_
  refine R.nil<|R.reg O<|R.u 2 O<|R.nil ?_
  have hz:fQ k st dk lg (cQ k.R a)=((⟨(cQ k.R a).1⟩:kb),st,dk,lg,(cQ k.R a).2):=by (rw [OC (k:=k) (sc:=st) (d:=dk) (lg:=lg) (z:=cQ k.R a) ‹_› ‹_›];done)
  rw [hz]
  exact R.w1 (z5,z6,z7,z8,aL,ay,aG,az,bz) [4,5,6,7,8,9,10,11] [0,1,2,3,12] O Tryz.results49 (RV.tmp O) O O O O
 refine R.q (q.ej O O Tryz.underlying38) O<|R.nil<|R.av O O<|R.reg O<|R.u 2 O<|R.nil ?_
 have hz:fQ k st dk lg (cQ k.R a)=(k,st,dk,lg,(cQ k.R a).2):=by (rw [OB (k:=k) (sc:=st) (d:=dk) (lg:=lg) (z:=cQ k.R a) ‹_›];done)
 rw [hz]
 exact R.w1 (mO,mP,mQ,mR,aL,ay,aG,az,bz) yX [8,9,10,11,12] O Tryz.results49 (RV.tmp O) O O O O
theorem yw (b_k:Nat)(mO mP mQ mR:Value)(k:kb)(a:eh)(cD:Nat)(aL:Value)(st:ka)(aH:Nat)(ay aG az:Value)(dk:cw)(bz:Nat)(lg:Lg)(w:World)(own:List Nat)(H:HN w own [ag.box b_k [.pointer (some ⟨cD,0,none⟩),mO,mP,mQ,mR,iV k.R.ae,iV k.R.ah] 78,ag.box cD [.pointer (some ⟨aH,0,none⟩),iV st.Epoch,iV st.Side,iV st.Size,iV st.First,.pointer (some ⟨bz,0,none⟩),aL] 133,ag.box aH [ay,aG,az,iV dk.Fuse,.bool dk.Down] 112,ag.row 9 ay dk.Kept,ag.row 9 aG dk.Now,ag.row 114 az dk.Wait,ag.box bz [.pointer (some ⟨aH,0,none⟩),iV lg.From,iV lg.Many,iV lg.First,iV lg.Next] 198] [ag.ls mO k.R.ak,ag.ls mP k.R.Things,ag.ls mQ k.R.Held,ag.ls mR k.R.Notes,ag.ls aL st.Rows,eC])(hD:fL dk.Now.length 60000 dk/\dk.Now.length<=200/\166<=dk.Now.length)(hS:0<=st.Epoch/\st.Epoch<=1000000000/\0<=st.Side/\st.Side<=1/\0<=lg.Many/\lg.Many<=1000/\1<=lg.First/\lg.First<=1000000000/\0<=lg.From/\lg.From<=1000/\0<=lg.Next/\lg.Next<=1000)(hl:st.Rows.length<=60)(hF:∀c∈st.Rows,iI c=0)(hk:Ok k.R)(hI:Inv k.R)(hz:(cQ k.R a).2=0->Ok (cQ k.R a).1):RC Tryz.prog 18 #[.pointer (some ⟨b_k,0,none⟩),.agg #[.string a.Kind,.string a.S,iV a.P.aB,iV a.P.Slot,iV a.Q.aB,iV a.Q.Slot,iV a.A,iV a.B,iV a.N,.int .u64 a.K,a.cv]] H (fun _:Value×Value×Value×Value×Value×Value×Value×Value×Nat=>df (fQ k st dk lg (cQ k.R a)).2.2.2.2) (fun z=>[ag.box b_k [.pointer (some ⟨cD,0,none⟩),z.1,z.2.1,z.2.2.1,z.2.2.2.1,iV (fQ k st dk lg (cQ k.R a)).1.R.ae,iV (fQ k st dk lg (cQ k.R a)).1.R.ah] 78,ag.box cD [.pointer (some ⟨aH,0,none⟩),iV (fQ k st dk lg (cQ k.R a)).2.1.Epoch,iV (fQ k st dk lg (cQ k.R a)).2.1.Side,iV (fQ k st dk lg (cQ k.R a)).2.1.Size,iV (fQ k st dk lg (cQ k.R a)).2.1.First,.pointer (some ⟨z.2.2.2.2.2.2.2.2,0,none⟩),z.2.2.2.2.1] 133,ag.box aH [z.2.2.2.2.2.1,z.2.2.2.2.2.2.1,z.2.2.2.2.2.2.2.1,iV (fQ k st dk lg (cQ k.R a)).2.2.1.Fuse,.bool (fQ k st dk lg (cQ k.R a)).2.2.1.Down] 112,ag.row 9 z.2.2.2.2.2.1 (fQ k st dk lg (cQ k.R a)).2.2.1.Kept,ag.row 9 z.2.2.2.2.2.2.1 (fQ k st dk lg (cQ k.R a)).2.2.1.Now,ag.row 114 z.2.2.2.2.2.2.2.1 (fQ k st dk lg (cQ k.R a)).2.2.1.Wait,ag.box z.2.2.2.2.2.2.2.2 [.pointer (some ⟨aH,0,none⟩),iV (fQ k st dk lg (cQ k.R a)).2.2.2.1.From,iV (fQ k st dk lg (cQ k.R a)).2.2.2.1.Many,iV (fQ k st dk lg (cQ k.R a)).2.2.2.1.First,iV (fQ k st dk lg (cQ k.R a)).2.2.2.1.Next] 198]) (fun z=>[ag.ls z.1 (fQ k st dk lg (cQ k.R a)).1.R.ak,ag.ls z.2.1 (fQ k st dk lg (cQ k.R a)).1.R.Things,ag.ls z.2.2.1 (fQ k st dk lg (cQ k.R a)).1.R.Held,ag.ls z.2.2.2.1 (fQ k st dk lg (cQ k.R a)).1.R.Notes,ag.ls z.2.2.2.2.1 (fQ k st dk lg (cQ k.R a)).2.1.Rows]):=by
 have eE:=H.cap 3 rfl;have eF:=H.cL 3 rfl
 have fC:=H.cap 4 rfl;have fD:=H.cL 4 rfl
 have eG:=H.cap 5 rfl;have eH:=H.cL 5 rfl
 have qx:=H.cq 0 rfl
 have o7:=H.cq 1 rfl
 have sB:=H.cq 2 rfl
 have qy:=H.cq 3 rfl
 have qP:=H.cq 4 rfl
 refine R.bC [(0,.pointer (some ⟨b_k,0,none⟩)),(1,.agg #[.string a.Kind,.string a.S,iV a.P.aB,iV a.P.Slot,iV a.Q.aB,iV a.Q.Slot,iV a.A,iV a.B,iV a.N,.int .u64 a.K,a.cv])] Tryz.func18 O O O O H<|R.reg O<|R.s O (s.box O O O) fun b1=>?_
 refine R.u 1 O<|R.nil<|R.reg O<|R.u 1 O<|R.q (q.LR (cap:=[.pointer (some ⟨b1,0,none⟩)]) O O) O<|R.s O (s.aW [1,0,2,3,4,5,6,7,8] rm _ _ _ O O O RQ O O (fun w own hw H=>Nz b_k mO mP mQ mR k b1 a cD aL st aH ay aG az dk bz lg w own H ‹_› ‹_› (by omega) ‹_› ‹_› ‹_› ‹_›) O) ?_
 rintro ⟨z1,z2,z3,z4,z5,z6,z7,z8,z9⟩
 dsimp only
 refine R.u 1 O<|R.nil ?_
 have hz:fQ k st dk lg (cQ k.R a)=(((fQ k st dk lg (cQ k.R a)).1),(fQ k st dk lg (cQ k.R a)).2.1,(fQ k st dk lg (cQ k.R a)).2.2.1,(fQ k st dk lg (cQ k.R a)).2.2.2.1,(fQ k st dk lg (cQ k.R a)).2.2.2.2):=by (rfl)
 rw [hz]
 exact R.w1 (z1,z2,z3,z4,z5,z6,z7,z8,z9) ff gX O Tryz.results18 (RV.tmp O) O O O O
theorem uv (aH:Nat)(ay aG az:Value)(dk:cw)(w:World)(own:List Nat)(H:HN w own [ag.box aH [ay,aG,az,iV dk.Fuse,.bool dk.Down] 112,ag.row 9 ay dk.Kept,ag.row 9 aG dk.Now,ag.row 114 az dk.Wait] [eC])(hd:dk.Down=false)(ho:ky dk=0)(hD:fL dk.Now.length 90000 dk/\dk.Now.length<=200)(hp:(bX (bm dk).c.Rows).2=0)(hr:(bm dk).c.Rows.length<=60 /\ ∀c∈(bm dk).c.Rows,c.Key.size<=1000/\c.Val.size<=1000):RC Tryz.prog 13 #[.pointer (some ⟨aH,0,none⟩)] H (fun z:Value×Value×Value×Nat×Value×Value×Value×Value×Nat×Value×Nat => .tuple #[.pointer (some ⟨z.2.2.2.1,0,none⟩),.nilIface]) (fun z=>[ag.box aH [z.1,z.2.1,z.2.2.1,iV dk.Fuse,.bool dk.Down] 112,ag.row 9 z.1 dk.Kept,ag.row 9 z.2.1 dk.Now,ag.row 114 z.2.2.1 dk.Wait,ag.box z.2.2.2.1 [.pointer (some ⟨z.2.2.2.2.2.2.2.2.1,0,none⟩),z.2.2.2.2.1,z.2.2.2.2.2.1,z.2.2.2.2.2.2.1,z.2.2.2.2.2.2.2.1,iV (⟨(bX (bm dk).c.Rows).1⟩:kb).R.ae,iV (⟨(bX (bm dk).c.Rows).1⟩:kb).R.ah] 78,ag.box z.2.2.2.2.2.2.2.2.1 [.pointer (some ⟨aH,0,none⟩),iV (bm dk).c.Epoch,iV (bm dk).c.Side,iV (bm dk).c.Size,iV (bm dk).c.First,.pointer (some ⟨z.2.2.2.2.2.2.2.2.2.2,0,none⟩),z.2.2.2.2.2.2.2.2.2.1] 133,ag.box z.2.2.2.2.2.2.2.2.2.2 [.pointer (some ⟨aH,0,none⟩),iV (bm dk).L.From,iV (bm dk).L.Many,iV (bm dk).L.First,iV (bm dk).L.Next] 198]) (fun z=>[ag.ls z.2.2.2.2.1 ((⟨(bX (bm dk).c.Rows).1⟩:kb).R.ak:List aj),ag.ls z.2.2.2.2.2.1 ((⟨(bX (bm dk).c.Rows).1⟩:kb).R.Things:List aE),ag.ls z.2.2.2.2.2.2.1 ((⟨(bX (bm dk).c.Rows).1⟩:kb).R.Held:List Held),ag.ls z.2.2.2.2.2.2.2.1 ((⟨(bX (bm dk).c.Rows).1⟩:kb).R.Notes:List Note),ag.ls z.2.2.2.2.2.2.2.2.2.1 (bm dk).c.Rows]):=by
 have eE:=H.cap 1 rfl;have eF:=H.cL 1 rfl
 have fC:=H.cap 2 rfl;have fD:=H.cL 2 rfl
 have eG:=H.cap 3 rfl;have eH:=H.cL 3 rfl
 obtain ⟨hr1,hr2⟩:=hr
 refine R.bC [(0,.pointer (some ⟨aH,0,none⟩))] Tryz.func13 O O O O H<|R.reg O<|R.u 2 O<|R.nil<|R.reg O<|R.u 1 O<|R.s O (s.aW gX [] _ _ _ O O O NT O O (fun w own hw H=>zE aH ay aG az dk w own H ‹_› ‹_› ‹_›) O) ?_
 rintro ⟨z1,z2,z3,z4,z5,z6⟩
 dsimp only
 refine R.u 5 O<|R.nil<|R.reg O<|R.u 1 O<|R.q (q.vS O O Tryz.underlying38) O<|R.nil<|R.aA O O<|R.reg O<|R.u 1 O<|R.s O (s.vQ RP O O (fun w hw=>HM z4 z5 aH z6 (bm dk).c w (hw.b 4 O) (hw.bP 0 O) (by omega)) O) fun v1=>?_
 refine R.s O (s.pre (fun _ hw=>hw.cW 0 _ O O) (s.aW mg [0,2] _ _ _ O O O RO O O (fun w own hw H=>Iv v1 (bm dk).c.Rows w own H (by omega) ‹_›) O)) ?_
 rintro ⟨z7,z8,z9,lH⟩
 dsimp only
 refine R.u 3 O<|R.s O (s.alloc dP O O) fun b1=>?_
 refine R.s O (s.fX 0 _ O O O (fun _ _=>rfl) (.inl ao) (fun w hw=>(af (Sl.one (hw.bP 0 O)) (af (Sl.one (hw.bP 1 O)) (af (Sl.one (hw.bP 2 O)) (af (Sl.one (hw.bP 3 O)) (af O (af O aP))))))) O O O) fun _=>?_
 refine R.u 1 O<|R.nil<|R.reg O<|R.u 1 O<|R.q (q.dB O O Tryz.underlying38) O<|R.nil<|R.aA O O<|R.reg O<|R.u 1 O<|R.q (q.dt 0 O O ao) O<|R.q (q.JC RE O (fun w hw=>(sR O (sR O JB))) O) O<|R.s O (s.box O O O) fun b2=>?_
 refine R.u 2 O<|R.nil ?_
 have hz:(dk,(⟨(bX (bm dk).c.Rows).1⟩:kb),(bm dk).c,(bm dk).L)=(dk,(⟨(bX (bm dk).c.Rows).1⟩:kb),(bm dk).c,(bm dk).L):=by (rfl)
 have hz0:(bX (bm dk).c.Rows).1=(bX (bm dk).c.Rows).1:=congrArg (fun t_=>t_.2.1.R) hz
 rw [hz0]
 exact R.w2 (z1,z2,z3,b2,z7,z8,z9,lH,z4,z5,z6) [2,3,4,5,0,6,7,8] nC O Tryz.results13 (RV.tmp O) (RV.tmp O) O O O (dy O O)
theorem Ei (aH:Nat)(ay aG az:Value)(dk:cw)(w:World)(own:List Nat)(H:HN w own [ag.box aH [ay,aG,az,iV dk.Fuse,.bool dk.Down] 112,ag.row 9 ay dk.Kept,ag.row 9 aG dk.Now,ag.row 114 az dk.Wait] [eC])(h0:dk=dNew 170):RC Tryz.prog 31 #[.pointer (some ⟨aH,0,none⟩)] H (fun _:Value×Value×Value=>df (rA dk).2.2) (fun z=>[ag.box aH [z.1,z.2.1,z.2.2,iV (rA dk).2.1.Fuse,.bool (rA dk).2.1.Down] 112,ag.row 9 z.1 (rA dk).2.1.Kept,ag.row 9 z.2.1 (rA dk).2.1.Now,ag.row 114 z.2.2 (rA dk).2.1.Wait]) (fun _=>[]):=by
 have eE:=H.cap 1 rfl;have eF:=H.cL 1 rfl
 have fC:=H.cap 2 rfl;have fD:=H.cL 2 rfl
 have eG:=H.cap 3 rfl;have eH:=H.cL 3 rfl
 obtain ⟨f1,f2,f3,f4,f5⟩:=Ef h0;have f6:=f4.ok;have f7:=f4.room;have f8:=f4.bnd (by omega);have f9:=f4.good;obtain ⟨f10,f11,f12⟩:=f9;have f13:=f7.2.2.1;have f14:fL (dK dk).1.Now.length 90000 (dK dk).1/\(dK dk).1.Now.length<=200:=⟨f6.1.up (by omega),f6.2.1⟩;have p0:fL dk.Now.length 80000 dk/\dk.Now.length<=1000:=(by rw [h0];have:=(AJ 170).nl;exact ⟨this.symm▸(AJ 170).up (by omega),by omega⟩)
 have n1:=LO;have n2:=l5;have n3:=om l5
 refine R.bC [(0,.pointer (some ⟨aH,0,none⟩))] Tryz.func31 O O O O H<|R.reg O<|R.u 1 O<|R.nil<|R.reg O<|R.u 1 O<|R.s O (s.aW gX [] _ _ _ O O O R5 O O (fun w own hw H=>ER aH ay aG az dk w own H ‹_›) O) ?_
 rintro ⟨z1,z2,z3⟩
 dsimp only
 refine R.u 1 O<|R.nil<|R.reg O<|R.u 1 O<|R.q (q.dB O O Tryz.underlying38) O<|R.nil<|R.aA O O<|R.reg O<|R.u 1 O<|R.s O (s.aW gX [] _ _ _ O O O NT O O (fun w own hw H=>zE aH z1 z2 z3 (dK dk).1 w own H ‹_› ‹_› ‹_›) O) ?_
 rintro ⟨z4,z5,z6,z7,z8,z9⟩
 dsimp only
 refine R.u 5 O<|R.nil<|R.reg O<|R.u 1 O<|R.q (q.vS O O Tryz.underlying38) O<|R.nil<|R.aA O O<|R.reg O<|R.u 1 O<|R.s O (s.aW mg [] _ _ _ O O O R6 O O (fun w own hw H=>KH w own H ) O) ?_
 rintro ⟨lH,l9,z12,qc⟩
 dsimp only
 refine R.s O (s.aW mg nC _ _ _ O O O Jd O O (fun w own hw H=>yl lH l9 z12 qc (⟨[],[],[],[],1,1⟩:aC) w own H ‹_› ‹_›) O) fun yD=>?_
 refine R.s O (s.pre (fun _ hw=>hw.cW 0 _ O O) (s.aW [4,0,1,2,3,5,6] [5,0] _ _ _ O O O NW O O (fun w own hw H=>xt z7 z8 (bm (dK dk).1).c yD (bF (⟨[],[],[],[],1,1⟩:aC)) aH z4 z5 z6 (dK dk).1 z9 (bm (dK dk).1).L w own H ‹_› ‹_› (by omega) ‹_› (by decide)) O)) ?_
 rintro ⟨HD,Cb,z17,yK,Bs⟩
 dsimp only
 refine R.u 1 O<|R.nil ?_
 have hz:((rA dk).2.1,(rA dk).2.2)=(((bD (mkS (bm (dK dk).1).c (bm (dK dk).1).L) (dK dk).1 (bF (⟨[],[],[],[],1,1⟩:aC))).2.1),(bD (mkS (bm (dK dk).1).c (bm (dK dk).1).L) (dK dk).1 (bF (⟨[],[],[],[],1,1⟩:aC))).2.2):=by (rfl)
 have hz0:(rA dk).2.1=(bD (mkS (bm (dK dk).1).c (bm (dK dk).1).L) (dK dk).1 (bF (⟨[],[],[],[],1,1⟩:aC))).2.1:=congrArg (fun t_=>t_.1) hz
 rw [hz0]
 have hz1:(rA dk).2.2=(bD (mkS (bm (dK dk).1).c (bm (dK dk).1).L) (dK dk).1 (bF (⟨[],[],[],[],1,1⟩:aC))).2.2:=congrArg (fun t_=>t_.2) hz
 rw [hz1]
 exact R.w1 (Cb,z17,yK) sD [] O Tryz.results31 (RV.tmp O) O O O O
end Go.Proofs.YtkbhcbipadkcaaaGreatDoor
