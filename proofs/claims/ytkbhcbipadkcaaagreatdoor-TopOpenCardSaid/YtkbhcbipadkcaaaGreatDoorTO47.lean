import Derived.Test.YtkbhcbipadkcaaaGreatDoorTO46
namespace Go.Proofs.YtkbhcbipadkcaaaGreatDoor
set_option linter.unusedVariables false
set_option linter.unusedSimpArgs false
open Go Go.RowKit
set_option maxRecDepth 100000
set_option maxHeartbeats 90000000
attribute [local irreducible] bF ct bm kx dL dNew cQ
theorem IU (b_k:Nat)(mP mQ mR mS:Value)(k:kb)(cD:Nat)(aL:Value)(st:ka)(aH:Nat)(ay aG az:Value)(dk:cw)(bz:Nat)(lg:Lg)(w:World)(own:List Nat)(H:HN w own [ag.box b_k [.pointer (some ⟨cD,0,none⟩),mP,mQ,mR,mS,iV k.R.ae,iV k.R.ah] 78,ag.box cD [.pointer (some ⟨aH,0,none⟩),iV st.Epoch,iV st.Side,iV st.Size,iV st.First,.pointer (some ⟨bz,0,none⟩),aL] 133,ag.box aH [ay,aG,az,iV dk.Fuse,.bool dk.Down] 112,ag.row 9 ay dk.Kept,ag.row 9 aG dk.Now,ag.row 114 az dk.Wait,ag.box bz [.pointer (some ⟨aH,0,none⟩),iV lg.From,iV lg.Many,iV lg.First,iV lg.Next] 198] [ag.ls mP k.R.ak,ag.ls mQ k.R.Things,ag.ls mR k.R.Held,ag.ls mS k.R.Notes,ag.ls aL st.Rows])(hD:fL dk.Now.length 60000 dk/\dk.Now.length<=200/\166<=dk.Now.length)(hS:0<=st.Epoch/\st.Epoch<=1000000000/\0<=st.Side/\st.Side<=1/\0<=lg.Many/\lg.Many<=1000/\1<=lg.First/\lg.First<=1000000000/\0<=lg.From/\lg.From<=1000/\0<=lg.Next/\lg.Next<=1000)(hl:st.Rows.length<=60)(hF:∀c∈st.Rows,iI c=0):RC Tryz.prog 12 #[.pointer (some ⟨b_k,0,none⟩)] H (fun _:Value×Value×Value×Value×Value×Value×Value×Value×Nat=>df (ct (mkS st lg) dk).2.2) (fun z=>[ag.box b_k [.pointer (some ⟨cD,0,none⟩),z.1,z.2.1,z.2.2.1,z.2.2.2.1,iV k.R.ae,iV k.R.ah] 78,ag.box cD [.pointer (some ⟨aH,0,none⟩),iV (ct (mkS st lg) dk).1.c.Epoch,iV (ct (mkS st lg) dk).1.c.Side,iV (ct (mkS st lg) dk).1.c.Size,iV (ct (mkS st lg) dk).1.c.First,.pointer (some ⟨z.2.2.2.2.2.2.2.2,0,none⟩),z.2.2.2.2.1] 133,ag.box aH [z.2.2.2.2.2.1,z.2.2.2.2.2.2.1,z.2.2.2.2.2.2.2.1,iV (ct (mkS st lg) dk).2.1.Fuse,.bool (ct (mkS st lg) dk).2.1.Down] 112,ag.row 9 z.2.2.2.2.2.1 (ct (mkS st lg) dk).2.1.Kept,ag.row 9 z.2.2.2.2.2.2.1 (ct (mkS st lg) dk).2.1.Now,ag.row 114 z.2.2.2.2.2.2.2.1 (ct (mkS st lg) dk).2.1.Wait,ag.box z.2.2.2.2.2.2.2.2 [.pointer (some ⟨aH,0,none⟩),iV (ct (mkS st lg) dk).1.L.From,iV (ct (mkS st lg) dk).1.L.Many,iV (ct (mkS st lg) dk).1.L.First,iV (ct (mkS st lg) dk).1.L.Next] 198]) (fun z=>[ag.ls z.1 k.R.ak,ag.ls z.2.1 k.R.Things,ag.ls z.2.2.1 k.R.Held,ag.ls z.2.2.2.1 k.R.Notes,ag.ls z.2.2.2.2.1 (ct (mkS st lg) dk).1.c.Rows]):=by
 have eF:=H.cap 3 rfl;have eG:=H.cL 3 rfl
 have fC:=H.cap 4 rfl;have fD:=H.cL 4 rfl
 have eH:=H.cap 5 rfl;have eI:=H.cL 5 rfl
 have qB:=H.cq 0 rfl
 have o8:=H.cq 1 rfl
 have sG:=H.cq 2 rfl
 have qC:=H.cq 3 rfl
 have qS:=H.cq 4 rfl
 have hD2:fL dk.Now.length 70000 dk/\dk.Now.length<=200/\166<=dk.Now.length:=⟨hD.1.up (by omega),hD.2⟩
 refine R.bD [(0,.pointer (some ⟨b_k,0,none⟩))] Tryz.func12 O O O O H<|R.reg O<|R.u 1 O<|R.nil<|R.reg O<|R.u 1 O<|R.q (q.cb O) O<|R.q (q.aO O zm O) O<|R.q (q.ld 0 O O iP O) O<|R.s O (s.aW [1,2,3,4,5,6,0,7] [4] _ _ _ O O O N0 O O (fun w own hw H=>De cD aL st aH ay aG az dk bz lg w own H ‹_› (by omega) (by omega) ‹_›) O) ?_
 rintro ⟨z1,z2,z3,z4,z5⟩
 dsimp only
 refine R.u 1 O<|R.nil ?_
 have hz:(k,(ct (mkS st lg) dk).1.c,(ct (mkS st lg) dk).2.1,(ct (mkS st lg) dk).1.L,(ct (mkS st lg) dk).2.2)=(k,(ct (mkS st lg) dk).1.c,(ct (mkS st lg) dk).2.1,(ct (mkS st lg) dk).1.L,(ct (mkS st lg) dk).2.2):=by (rfl)
 exact R.w1 (mP,mQ,mR,mS,z1,z2,z3,z4,z5) [6,0,1,2,3,4,5,7] [1,2,3,4,0] O Tryz.results12 (RV.tmp O) O O O O
theorem sH (b_k:Nat)(mP mQ mR mS:Value)(OQ:Nat)(k:kb)(w:World)(own:List Nat)(H:HN w own [ag.box b_k [.pointer (some ⟨OQ,0,none⟩),mP,mQ,mR,mS,iV k.R.ae,iV k.R.ah] 78] [ag.ls mP k.R.ak,ag.ls mQ k.R.Things,ag.ls mR k.R.Held,ag.ls mS k.R.Notes])(hk:Ok k.R):RC Tryz.prog 20 #[.pointer (some ⟨b_k,0,none⟩)] H (fun z:Value×Value×Value×Value×Value×Value×Value×Value => .agg #[z.2.2.2.2.1,z.2.2.2.2.2.1,z.2.2.2.2.2.2.1,z.2.2.2.2.2.2.2,iV k.R.ae,iV k.R.ah]) (fun z=>[ag.box b_k [.pointer (some ⟨OQ,0,none⟩),z.1,z.2.1,z.2.2.1,z.2.2.2.1,iV k.R.ae,iV k.R.ah] 78]) (fun z=>[ag.ls z.1 k.R.ak,ag.ls z.2.1 k.R.Things,ag.ls z.2.2.1 k.R.Held,ag.ls z.2.2.2.1 k.R.Notes,ag.ls z.2.2.2.2.1 k.R.ak,ag.ls z.2.2.2.2.2.1 k.R.Things,ag.ls z.2.2.2.2.2.2.1 k.R.Held,ag.ls z.2.2.2.2.2.2.2 k.R.Notes]):=by
 have qB:=H.cq 0 rfl
 have o8:=H.cq 1 rfl
 have sG:=H.cq 2 rfl
 have qC:=H.cq 3 rfl
 refine R.bD [(0,.pointer (some ⟨b_k,0,none⟩))] Tryz.func20 O O O O H<|R.reg O<|R.s O (s.alloc dQ O O) fun b1=>?_
 refine R.nil<|R.reg O<|R.u 1 O<|R.q (q.cb O) O<|R.q (q.aO O nL O) O<|R.q (q.G6 (ds:=[mP,mQ,mR,mS,iV k.R.ae,iV k.R.ah]) 1 O O ao O) O<|R.s O (s.aW [0,1,2] bC _ _ _ O O O N3 O O (fun w own hw H=>Ad mP mQ mR mS k.R w own H ‹_›) O) ?_
 rintro ⟨z1,z2,z3,z4⟩
 dsimp only
 refine R.s O (s.fX 0 _ O O O (fun _ _=>rfl) (.inl ao) (fun w hw=>(af (Sl.one (hw.bQ 0 O)) (af (Sl.one (hw.bQ 1 O)) (af (Sl.one (hw.bQ 2 O)) (af (Sl.one (hw.bQ 3 O)) (af O (af O aP))))))) O O O) fun _=>?_
 exact R.nil<|R.w1 (mP,mQ,mR,mS,z1,z2,z3,z4) [1,2] [4,5,6,7,0,1,2,3] O Tryz.results20 (RV.cell 0 O O ao) O O O O
theorem El (bS bJ bK bL:Value)(r:aC)(JG:Nat)(a:ej)(w:World)(own:List Nat)(H:HN w own [ag.box JG (Ey a) 36] [ag.ls bS r.ak,ag.ls bJ r.Things,ag.ls bK r.Held,ag.ls bL r.Notes])(hk:Ok r):RC Tryz.prog 50 #[.agg #[bS,bJ,bK,bL,iV r.ae,iV r.ah],.pointer (some ⟨JG,0,none⟩)] H (fun z:Value×Value×Value×Value => .tuple #[.agg #[z.1,z.2.1,z.2.2.1,z.2.2.2,iV (cQ r a).1.ae,iV (cQ r a).1.ah],df (cQ r a).2]) (fun _=>[]) (fun z=>[ag.ls z.1 (cQ r a).1.ak,ag.ls z.2.1 (cQ r a).1.Things,ag.ls z.2.2.1 (cQ r a).1.Held,ag.ls z.2.2.2 (cQ r a).1.Notes]):=by
 have eK:=H.cq 0 rfl
 have dN:=H.cq 1 rfl
 have fG:=H.cq 2 rfl
 have eL:=H.cq 3 rfl
 refine R.bD [(0,.agg #[bS,bJ,bK,bL,iV r.ae,iV r.ah]),(1,.pointer (some ⟨JG,0,none⟩))] Tryz.func50 O O O O H<|R.reg O<|R.s O (s.box O O O) fun b1=>?_
 refine R.s O (s.alloc dQ O O) fun b2=>?_
 refine R.u 1 O<|R.nil<|R.reg O<|R.q (q.du 1 O O ao) O<|R.q (q.du 2 O O FZ) O<|R.s O (s.aW bC bC _ _ _ O O O RS O O (fun w own hw H=>M3 bS bJ bK bL r a w own H ‹_›) O) ?_
 rintro ⟨z1,z2,z3,z4⟩
 dsimp only
 refine R.u 2 O<|R.s O (s.fX 0 _ O O O (fun _ _=>rfl) (.inl ao) (fun w hw=>(af (Sl.one (hw.bQ 0 O)) (af (Sl.one (hw.bQ 1 O)) (af (Sl.one (hw.bQ 2 O)) (af (Sl.one (hw.bQ 3 O)) (af O (af O aP))))))) O O O) fun _=>?_
 refine R.u 1 O<|R.nil ?_
 have hz:cQ r a=(((cQ r a).1),(cQ r a).2):=by (rfl)
 rw [hz]
 exact R.w2 (z1,z2,z3,z4) [3] bC O Tryz.results50 (RV.cell 0 O O ao) (RV.tmp O) O O O (dy O O)
set_option maxHeartbeats 90000000 in
theorem NH (b_k:Nat)(mP mQ mR mS:Value)(k:kb)(JG:Nat)(a:ej)(cD:Nat)(aL:Value)(st:ka)(aH:Nat)(ay aG az:Value)(dk:cw)(bz:Nat)(lg:Lg)(w:World)(own:List Nat)(H:HN w own [ag.box b_k [.pointer (some ⟨cD,0,none⟩),mP,mQ,mR,mS,iV k.R.ae,iV k.R.ah] 78,ag.box JG (Ey a) 36,ag.box cD [.pointer (some ⟨aH,0,none⟩),iV st.Epoch,iV st.Side,iV st.Size,iV st.First,.pointer (some ⟨bz,0,none⟩),aL] 133,ag.box aH [ay,aG,az,iV dk.Fuse,.bool dk.Down] 112,ag.row 9 ay dk.Kept,ag.row 9 aG dk.Now,ag.row 114 az dk.Wait,ag.box bz [.pointer (some ⟨aH,0,none⟩),iV lg.From,iV lg.Many,iV lg.First,iV lg.Next] 198] [ag.ls mP k.R.ak,ag.ls mQ k.R.Things,ag.ls mR k.R.Held,ag.ls mS k.R.Notes,ag.ls aL st.Rows,eD])(hD:fL dk.Now.length 60000 dk/\dk.Now.length<=200/\166<=dk.Now.length)(hS:0<=st.Epoch/\st.Epoch<=1000000000/\0<=st.Side/\st.Side<=1/\0<=lg.Many/\lg.Many<=1000/\1<=lg.First/\lg.First<=1000000000/\0<=lg.From/\lg.From<=1000/\0<=lg.Next/\lg.Next<=1000)(hl:st.Rows.length<=60)(hF:∀c∈st.Rows,iI c=0)(hk:Ok k.R)(hI:Inv k.R)(hz:(cQ k.R a).2=0->Ok (cQ k.R a).1):RC Tryz.prog 49 #[.pointer (some ⟨b_k,0,none⟩),.func (.func 50) #[] #[.pointer (some ⟨JG,0,none⟩)]] H (fun _:Value×Value×Value×Value×Value×Value×Value×Value×Nat=>df (fQ k st dk lg (cQ k.R a)).2.2.2.2) (fun z=>[ag.box b_k [.pointer (some ⟨cD,0,none⟩),z.1,z.2.1,z.2.2.1,z.2.2.2.1,iV (fQ k st dk lg (cQ k.R a)).1.R.ae,iV (fQ k st dk lg (cQ k.R a)).1.R.ah] 78,ag.box cD [.pointer (some ⟨aH,0,none⟩),iV (fQ k st dk lg (cQ k.R a)).2.1.Epoch,iV (fQ k st dk lg (cQ k.R a)).2.1.Side,iV (fQ k st dk lg (cQ k.R a)).2.1.Size,iV (fQ k st dk lg (cQ k.R a)).2.1.First,.pointer (some ⟨z.2.2.2.2.2.2.2.2,0,none⟩),z.2.2.2.2.1] 133,ag.box aH [z.2.2.2.2.2.1,z.2.2.2.2.2.2.1,z.2.2.2.2.2.2.2.1,iV (fQ k st dk lg (cQ k.R a)).2.2.1.Fuse,.bool (fQ k st dk lg (cQ k.R a)).2.2.1.Down] 112,ag.row 9 z.2.2.2.2.2.1 (fQ k st dk lg (cQ k.R a)).2.2.1.Kept,ag.row 9 z.2.2.2.2.2.2.1 (fQ k st dk lg (cQ k.R a)).2.2.1.Now,ag.row 114 z.2.2.2.2.2.2.2.1 (fQ k st dk lg (cQ k.R a)).2.2.1.Wait,ag.box z.2.2.2.2.2.2.2.2 [.pointer (some ⟨aH,0,none⟩),iV (fQ k st dk lg (cQ k.R a)).2.2.2.1.From,iV (fQ k st dk lg (cQ k.R a)).2.2.2.1.Many,iV (fQ k st dk lg (cQ k.R a)).2.2.2.1.First,iV (fQ k st dk lg (cQ k.R a)).2.2.2.1.Next] 198]) (fun z=>[ag.ls z.1 (fQ k st dk lg (cQ k.R a)).1.R.ak,ag.ls z.2.1 (fQ k st dk lg (cQ k.R a)).1.R.Things,ag.ls z.2.2.1 (fQ k st dk lg (cQ k.R a)).1.R.Held,ag.ls z.2.2.2.1 (fQ k st dk lg (cQ k.R a)).1.R.Notes,ag.ls z.2.2.2.2.1 (fQ k st dk lg (cQ k.R a)).2.1.Rows]):=by
 have eF:=H.cap 4 rfl;have eG:=H.cL 4 rfl
 have fC:=H.cap 5 rfl;have fD:=H.cL 5 rfl
 have eH:=H.cap 6 rfl;have eI:=H.cL 6 rfl
 have qB:=H.cq 0 rfl
 have o8:=H.cq 1 rfl
 have sG:=H.cq 2 rfl
 have qC:=H.cq 3 rfl
 have qS:=H.cq 4 rfl
 have g0:=oo hI;have g1:=vP hI a;have g2:=IP (r:=k.R) a;have g3:=fun (h:(cQ k.R a).2=0)=>oo (g1 h).1
 refine R.bD [(0,.pointer (some ⟨b_k,0,none⟩)),(1,.func (.func 50) #[] #[.pointer (some ⟨JG,0,none⟩)])] Tryz.func49 O O O O H<|R.reg O<|R.u 1 O<|R.nil<|R.reg O<|R.u 2 O<|R.q (q.cb O) O<|R.q (q.aO O nL O) O<|R.q (q.G6 (ds:=[mP,mQ,mR,mS,iV k.R.ae,iV k.R.ah]) 0 O O ao O) O<|R.s O (s.aW bE bC _ _ _ O O O N3 O O (fun w own hw H=>Ad mP mQ mR mS k.R w own H ‹_›) O) ?_
 rintro ⟨z1,z2,z3,z4⟩
 dsimp only
 refine R.s O (s.aW [1,0,2,3,4,5,6,7,8] bC _ _ _ O O O R1 O O (fun w own hw H=>El z1 z2 z3 z4 k.R JG a w own H ‹_›) O) ?_
 rintro ⟨z5,z6,z7,z8⟩
 dsimp only
 refine R.u 3 O<|R.s O (s.alloc dQ O O) fun b1=>?_
 refine R.s O (s.fX 0 _ O O O (fun _ _=>rfl) (.inl ao) (fun w hw=>(af (Sl.one (hw.bQ 0 O)) (af (Sl.one (hw.bQ 1 O)) (af (Sl.one (hw.bQ 2 O)) (af (Sl.one (hw.bQ 3 O)) (af O (af O aP))))))) O O O) fun _=>?_
 refine R.u 1 O<|R.nil<|R.reg O<|R.u 1 O<|?_
 by_cases h1:(cQ k.R a).2=0
 .
  have hk2:=hz ‹_›;have hI2:=(g1 ‹_›).1;have g4:(gT (mO (bH k.R) (bH (cQ k.R a).1))).length<=59:=(g1 ‹_›).2;have g5:=g3 ‹_›
  refine R.q (q.dB O O Tryz.underlying38) O<|R.nil<|R.aA O O<|R.fY (fuel:=9) bE O O mixed O<|D.q (i:=0) O (aD bE sJ O) O (q.mv O) O<|D.q (i:=1) O (aD bE sJ O) O (q.cb O) O<|D.q (i:=2) O (aD bE sJ O) O (q.aO O nL O) O<|D.q (i:=3) O (aD bE sJ O) O (q.G6 (ds:=[mP,mQ,mR,mS,iV k.R.ae,iV k.R.ah]) 1 O O ao O) O<|D.q (i:=5) O (aD bE sJ O) O (q.du 0 O O ao) O<|D.one (i:=4) O<|Do.s (s.aW bE [8,9,10,11,13] _ _ _ O O O Jj O O (fun w own hw H=>yq mP mQ mR mS k.R w own H ‹_› ‹_›) O) (fun _=>(aD pE sJ O)) O fun z12=>?_
  refine D.one (i:=6) O<|Do.s (s.aW NK [0,1,2,3,13] _ _ _ O O O Jj O O (fun w own hw H=>yq z5 z6 z7 z8 (cQ k.R a).1 w own H ‹_› ‹_›) O) (fun _=>(aD [2,3,4,5,6,7,8,9,10] sJ O)) O fun qh=>?_
  refine D.one (i:=7) O<|Do.s (s.EI (Bl:=[ag.row 117 z12 (bH k.R),ag.row 117 qh (bH (cQ k.R a).1)]) (Fl:=[ag.ls z12 (bH k.R),ag.ls qh (bH (cQ k.R a).1)]) [1,0,2,3,4,5,6,7,8,9,10] [0,1] (fun kP:Value=>kP) (fun kP:Value=>[ag.row 117 kP (gT (mO (bH k.R) (bH (cQ k.R a).1)))]) O O (qG (qG wM)) O O6 O O (fun w own hw H=>Ec z12 (bH k.R) qh (bH (cQ k.R a).1) w own H (by omega)) O) (fun _=>(aD [3,4,5,6,7,8,9,10,11] sJ O)) O fun yI=>?_
  refine D.q (i:=8) O (aD [3,4,5,6,7,8,9,10,11] sJ O) O (q.as O) O<|D.done<|R.reg O<|R.u 1 O<|R.q (q.len' (bB 0 O) O Tryz.underlying34) O<|?_
  by_cases h2:0<(gT (mO (bH k.R) (bH (cQ k.R a).1))).length
  .
   refine R.q (q.eM O O) O<|R.nil<|R.av O O<|R.reg O<|R.u 1 O<|R.q (q.cb O) O<|R.q (q.aO O zm O) O<|R.q (q.ld 4 O O iP O) O<|R.u 1 O<|R.s O (s.pre (fun _ hw=>hw.cW 0 _ O O) (s.aW [4,5,6,7,8,9,0,1,2,3,10] [13,0] _ _ _ O O O N4 O O (fun w own hw H=>xA cD aL st yI (gT (mO (bH k.R) (bH (cQ k.R a).1))) aH ay aG az dk bz lg w own H ‹_› ‹_› (by omega) ‹_› (by omega)) O)) ?_
   rintro ⟨HM,Ch,z17,yP,BA⟩
   dsimp only
   refine R.u 1 O<|R.nil<|R.reg O<|R.u 1 O<|?_
   by_cases h3:(bF (mkS st lg) dk (gT (mO (bH k.R) (bH (cQ k.R a).1)))).2.2=0
   .
    refine R.q (q.mq O O Tryz.underlying38) O<|R.nil<|R.av O O<|R.reg O<|R.u 1 O<|R.q (q.du 8 O O ao) O<|R.q (q.cb O) O<|R.q (q.aO O nL O) O<|R.s O (s.fX 9 _ O O O (fun _ _=>rfl) (.inl ao) (fun w hw=>(af (Sl.one (hw.bQ 2 O)) (af (Sl.one (hw.bQ 3 O)) (af (Sl.one (hw.bQ 4 O)) (af (Sl.one (hw.bQ 5 O)) (af O (af O aP))))))) O O O) fun _=>?_
    refine R.nil<|R.reg O<|R.u 2 O<|R.nil ?_
    have hz:fQ k st dk lg (cQ k.R a)=((⟨(cQ k.R a).1⟩:kb),(bF (mkS st lg) dk (gT (mO (bH k.R) (bH (cQ k.R a).1)))).1.c,(bF (mkS st lg) dk (gT (mO (bH k.R) (bH (cQ k.R a).1)))).2.1,(bF (mkS st lg) dk (gT (mO (bH k.R) (bH (cQ k.R a).1)))).1.L,(bF (mkS st lg) dk (gT (mO (bH k.R) (bH (cQ k.R a).1)))).2.2):=by (rw [OM (k:=k) (sc:=st) (d:=dk) (lg:=lg) (z:=cQ k.R a) ‹_› ‹_› ‹_›];done)
    rw [hz]
    exact R.w1 (z5,z6,z7,z8,HM,Ch,z17,yP,BA) [9,0,1,2,3,4,5,10] [2,3,4,5,0] O Tryz.results49 (RV.tmp O) O O O O
   refine R.q (q.jG O O Tryz.underlying38) O<|R.nil<|R.aA O O<|R.reg O<|R.u 2 O<|R.nil ?_
   have hz:fQ k st dk lg (cQ k.R a)=(k,(bF (mkS st lg) dk (gT (mO (bH k.R) (bH (cQ k.R a).1)))).1.c,(bF (mkS st lg) dk (gT (mO (bH k.R) (bH (cQ k.R a).1)))).2.1,(bF (mkS st lg) dk (gT (mO (bH k.R) (bH (cQ k.R a).1)))).1.L,(bF (mkS st lg) dk (gT (mO (bH k.R) (bH (cQ k.R a).1)))).2.2):=by (rw [OO (k:=k) (sc:=st) (d:=dk) (lg:=lg) (z:=cQ k.R a) ‹_› ‹_› ‹_›];done)
   rw [hz]
   exact R.w1 (mP,mQ,mR,mS,HM,Ch,z17,yP,BA) [9,0,1,2,3,4,5,10] [10,11,12,13,0] O Tryz.results49 (RV.tmp O) O O O O
  refine R.q (q.eu O O) O<|R.nil<|R.aA O O<|R.reg O<|R.u 1 O<|R.q (q.mq O O Tryz.underlying38) O<|R.nil<|R.av O O<|R.reg O<|R.u 1 O<|R.q (q.du 3 O O ao) O<|R.q (q.cb O) O<|R.q (q.aO O nL O) O<|R.s O (s.fX 4 _ O O O (fun _ _=>rfl) (.inl ao) (fun w hw=>(af (Sl.one (hw.bQ 0 O)) (af (Sl.one (hw.bQ 1 O)) (af (Sl.one (hw.bQ 2 O)) (af (Sl.one (hw.bQ 3 O)) (af O (af O aP))))))) O O O) fun _=>?_
  refine R.nil<|R.reg O<|R.u 2 O<|R.nil ?_
  have hz:fQ k st dk lg (cQ k.R a)=((⟨(cQ k.R a).1⟩:kb),st,dk,lg,(cQ k.R a).2):=by (rw [OL (k:=k) (sc:=st) (d:=dk) (lg:=lg) (z:=cQ k.R a) ‹_› ‹_›];done)
  rw [hz]
  exact R.w1 (z5,z6,z7,z8,aL,ay,aG,az,bz) [4,5,6,7,8,9,10,11] [0,1,2,3,12] O Tryz.results49 (RV.tmp O) O O O O
 refine R.q (q.eo O O Tryz.underlying38) O<|R.nil<|R.av O O<|R.reg O<|R.u 2 O<|R.nil ?_
 have hz:fQ k st dk lg (cQ k.R a)=(k,st,dk,lg,(cQ k.R a).2):=by (rw [OJ (k:=k) (sc:=st) (d:=dk) (lg:=lg) (z:=cQ k.R a) ‹_›];done)
 rw [hz]
 exact R.w1 (mP,mQ,mR,mS,aL,ay,aG,az,bz) zb [8,9,10,11,12] O Tryz.results49 (RV.tmp O) O O O O
theorem yB (b_k:Nat)(mP mQ mR mS:Value)(k:kb)(a:ej)(cD:Nat)(aL:Value)(st:ka)(aH:Nat)(ay aG az:Value)(dk:cw)(bz:Nat)(lg:Lg)(w:World)(own:List Nat)(H:HN w own [ag.box b_k [.pointer (some ⟨cD,0,none⟩),mP,mQ,mR,mS,iV k.R.ae,iV k.R.ah] 78,ag.box cD [.pointer (some ⟨aH,0,none⟩),iV st.Epoch,iV st.Side,iV st.Size,iV st.First,.pointer (some ⟨bz,0,none⟩),aL] 133,ag.box aH [ay,aG,az,iV dk.Fuse,.bool dk.Down] 112,ag.row 9 ay dk.Kept,ag.row 9 aG dk.Now,ag.row 114 az dk.Wait,ag.box bz [.pointer (some ⟨aH,0,none⟩),iV lg.From,iV lg.Many,iV lg.First,iV lg.Next] 198] [ag.ls mP k.R.ak,ag.ls mQ k.R.Things,ag.ls mR k.R.Held,ag.ls mS k.R.Notes,ag.ls aL st.Rows,eD])(hD:fL dk.Now.length 60000 dk/\dk.Now.length<=200/\166<=dk.Now.length)(hS:0<=st.Epoch/\st.Epoch<=1000000000/\0<=st.Side/\st.Side<=1/\0<=lg.Many/\lg.Many<=1000/\1<=lg.First/\lg.First<=1000000000/\0<=lg.From/\lg.From<=1000/\0<=lg.Next/\lg.Next<=1000)(hl:st.Rows.length<=60)(hF:∀c∈st.Rows,iI c=0)(hk:Ok k.R)(hI:Inv k.R)(hz:(cQ k.R a).2=0->Ok (cQ k.R a).1):RC Tryz.prog 18 #[.pointer (some ⟨b_k,0,none⟩),.agg #[.string a.Kind,.string a.S,iV a.P.aB,iV a.P.Slot,iV a.Q.aB,iV a.Q.Slot,iV a.A,iV a.B,iV a.N,.int .u64 a.K,a.cv]] H (fun _:Value×Value×Value×Value×Value×Value×Value×Value×Nat=>df (fQ k st dk lg (cQ k.R a)).2.2.2.2) (fun z=>[ag.box b_k [.pointer (some ⟨cD,0,none⟩),z.1,z.2.1,z.2.2.1,z.2.2.2.1,iV (fQ k st dk lg (cQ k.R a)).1.R.ae,iV (fQ k st dk lg (cQ k.R a)).1.R.ah] 78,ag.box cD [.pointer (some ⟨aH,0,none⟩),iV (fQ k st dk lg (cQ k.R a)).2.1.Epoch,iV (fQ k st dk lg (cQ k.R a)).2.1.Side,iV (fQ k st dk lg (cQ k.R a)).2.1.Size,iV (fQ k st dk lg (cQ k.R a)).2.1.First,.pointer (some ⟨z.2.2.2.2.2.2.2.2,0,none⟩),z.2.2.2.2.1] 133,ag.box aH [z.2.2.2.2.2.1,z.2.2.2.2.2.2.1,z.2.2.2.2.2.2.2.1,iV (fQ k st dk lg (cQ k.R a)).2.2.1.Fuse,.bool (fQ k st dk lg (cQ k.R a)).2.2.1.Down] 112,ag.row 9 z.2.2.2.2.2.1 (fQ k st dk lg (cQ k.R a)).2.2.1.Kept,ag.row 9 z.2.2.2.2.2.2.1 (fQ k st dk lg (cQ k.R a)).2.2.1.Now,ag.row 114 z.2.2.2.2.2.2.2.1 (fQ k st dk lg (cQ k.R a)).2.2.1.Wait,ag.box z.2.2.2.2.2.2.2.2 [.pointer (some ⟨aH,0,none⟩),iV (fQ k st dk lg (cQ k.R a)).2.2.2.1.From,iV (fQ k st dk lg (cQ k.R a)).2.2.2.1.Many,iV (fQ k st dk lg (cQ k.R a)).2.2.2.1.First,iV (fQ k st dk lg (cQ k.R a)).2.2.2.1.Next] 198]) (fun z=>[ag.ls z.1 (fQ k st dk lg (cQ k.R a)).1.R.ak,ag.ls z.2.1 (fQ k st dk lg (cQ k.R a)).1.R.Things,ag.ls z.2.2.1 (fQ k st dk lg (cQ k.R a)).1.R.Held,ag.ls z.2.2.2.1 (fQ k st dk lg (cQ k.R a)).1.R.Notes,ag.ls z.2.2.2.2.1 (fQ k st dk lg (cQ k.R a)).2.1.Rows]):=by
 have eF:=H.cap 3 rfl;have eG:=H.cL 3 rfl
 have fC:=H.cap 4 rfl;have fD:=H.cL 4 rfl
 have eH:=H.cap 5 rfl;have eI:=H.cL 5 rfl
 have qB:=H.cq 0 rfl
 have o8:=H.cq 1 rfl
 have sG:=H.cq 2 rfl
 have qC:=H.cq 3 rfl
 have qS:=H.cq 4 rfl
 refine R.bD [(0,.pointer (some ⟨b_k,0,none⟩)),(1,.agg #[.string a.Kind,.string a.S,iV a.P.aB,iV a.P.Slot,iV a.Q.aB,iV a.Q.Slot,iV a.A,iV a.B,iV a.N,.int .u64 a.K,a.cv])] Tryz.func18 O O O O H<|R.reg O<|R.s O (s.box O O O) fun b1=>?_
 refine R.u 1 O<|R.nil<|R.reg O<|R.u 1 O<|R.q (q.LY (cap:=[.pointer (some ⟨b1,0,none⟩)]) O O) O<|R.s O (s.aW [1,0,2,3,4,5,6,7,8] rx _ _ _ O O O R0 O O (fun w own hw H=>NH b_k mP mQ mR mS k b1 a cD aL st aH ay aG az dk bz lg w own H ‹_› ‹_› (by omega) ‹_› ‹_› ‹_› ‹_›) O) ?_
 rintro ⟨z1,z2,z3,z4,z5,z6,z7,z8,z9⟩
 dsimp only
 refine R.u 1 O<|R.nil ?_
 have hz:fQ k st dk lg (cQ k.R a)=(((fQ k st dk lg (cQ k.R a)).1),(fQ k st dk lg (cQ k.R a)).2.1,(fQ k st dk lg (cQ k.R a)).2.2.1,(fQ k st dk lg (cQ k.R a)).2.2.2.1,(fQ k st dk lg (cQ k.R a)).2.2.2.2):=by (rfl)
 rw [hz]
 exact R.w1 (z1,z2,z3,z4,z5,z6,z7,z8,z9) fh gX O Tryz.results18 (RV.tmp O) O O O O
theorem uz (aH:Nat)(ay aG az:Value)(dk:cw)(w:World)(own:List Nat)(H:HN w own [ag.box aH [ay,aG,az,iV dk.Fuse,.bool dk.Down] 112,ag.row 9 ay dk.Kept,ag.row 9 aG dk.Now,ag.row 114 az dk.Wait] [eD])(hd:dk.Down=false)(ho:kx dk=0)(hD:fL dk.Now.length 90000 dk/\dk.Now.length<=200)(hp:(bY (bm dk).c.Rows).2=0)(hr:(bm dk).c.Rows.length<=60 /\ ∀c∈(bm dk).c.Rows,c.Key.size<=1000/\c.Val.size<=1000):RC Tryz.prog 13 #[.pointer (some ⟨aH,0,none⟩)] H (fun z:Value×Value×Value×Nat×Value×Value×Value×Value×Nat×Value×Nat => .tuple #[.pointer (some ⟨z.2.2.2.1,0,none⟩),.nilIface]) (fun z=>[ag.box aH [z.1,z.2.1,z.2.2.1,iV dk.Fuse,.bool dk.Down] 112,ag.row 9 z.1 dk.Kept,ag.row 9 z.2.1 dk.Now,ag.row 114 z.2.2.1 dk.Wait,ag.box z.2.2.2.1 [.pointer (some ⟨z.2.2.2.2.2.2.2.2.1,0,none⟩),z.2.2.2.2.1,z.2.2.2.2.2.1,z.2.2.2.2.2.2.1,z.2.2.2.2.2.2.2.1,iV (⟨(bY (bm dk).c.Rows).1⟩:kb).R.ae,iV (⟨(bY (bm dk).c.Rows).1⟩:kb).R.ah] 78,ag.box z.2.2.2.2.2.2.2.2.1 [.pointer (some ⟨aH,0,none⟩),iV (bm dk).c.Epoch,iV (bm dk).c.Side,iV (bm dk).c.Size,iV (bm dk).c.First,.pointer (some ⟨z.2.2.2.2.2.2.2.2.2.2,0,none⟩),z.2.2.2.2.2.2.2.2.2.1] 133,ag.box z.2.2.2.2.2.2.2.2.2.2 [.pointer (some ⟨aH,0,none⟩),iV (bm dk).L.From,iV (bm dk).L.Many,iV (bm dk).L.First,iV (bm dk).L.Next] 198]) (fun z=>[ag.ls z.2.2.2.2.1 ((⟨(bY (bm dk).c.Rows).1⟩:kb).R.ak:List aj),ag.ls z.2.2.2.2.2.1 ((⟨(bY (bm dk).c.Rows).1⟩:kb).R.Things:List aE),ag.ls z.2.2.2.2.2.2.1 ((⟨(bY (bm dk).c.Rows).1⟩:kb).R.Held:List Held),ag.ls z.2.2.2.2.2.2.2.1 ((⟨(bY (bm dk).c.Rows).1⟩:kb).R.Notes:List Note),ag.ls z.2.2.2.2.2.2.2.2.2.1 (bm dk).c.Rows]):=by
 have eF:=H.cap 1 rfl;have eG:=H.cL 1 rfl
 have fC:=H.cap 2 rfl;have fD:=H.cL 2 rfl
 have eH:=H.cap 3 rfl;have eI:=H.cL 3 rfl
 obtain ⟨hr1,hr2⟩:=hr
 refine R.bD [(0,.pointer (some ⟨aH,0,none⟩))] Tryz.func13 O O O O H<|R.reg O<|R.u 2 O<|R.nil<|R.reg O<|R.u 1 O<|R.s O (s.aW gX [] _ _ _ O O O N1 O O (fun w own hw H=>zJ aH ay aG az dk w own H ‹_› ‹_› ‹_›) O) ?_
 rintro ⟨z1,z2,z3,z4,z5,z6⟩
 dsimp only
 refine R.u 5 O<|R.nil<|R.reg O<|R.u 1 O<|R.q (q.vX O O Tryz.underlying38) O<|R.nil<|R.aA O O<|R.reg O<|R.u 1 O<|R.s O (s.vV RZ O O (fun w hw=>HX z4 z5 aH z6 (bm dk).c w (hw.b 4 O) (hw.bQ 0 O) (by omega)) O) fun v1=>?_
 refine R.s O (s.pre (fun _ hw=>hw.cW 0 _ O O) (s.aW mh [0,2] _ _ _ O O O RY O O (fun w own hw H=>IA v1 (bm dk).c.Rows w own H (by omega) ‹_›) O)) ?_
 rintro ⟨z7,z8,z9,lG⟩
 dsimp only
 refine R.u 3 O<|R.s O (s.alloc dQ O O) fun b1=>?_
 refine R.s O (s.fX 0 _ O O O (fun _ _=>rfl) (.inl ao) (fun w hw=>(af (Sl.one (hw.bQ 0 O)) (af (Sl.one (hw.bQ 1 O)) (af (Sl.one (hw.bQ 2 O)) (af (Sl.one (hw.bQ 3 O)) (af O (af O aP))))))) O O O) fun _=>?_
 refine R.u 1 O<|R.nil<|R.reg O<|R.u 1 O<|R.q (q.dB O O Tryz.underlying38) O<|R.nil<|R.aA O O<|R.reg O<|R.u 1 O<|R.q (q.du 0 O O ao) O<|R.q (q.JI RO O (fun w hw=>(sV O (sV O JH))) O) O<|R.s O (s.box O O O) fun b2=>?_
 refine R.u 2 O<|R.nil ?_
 have hz:(dk,(⟨(bY (bm dk).c.Rows).1⟩:kb),(bm dk).c,(bm dk).L)=(dk,(⟨(bY (bm dk).c.Rows).1⟩:kb),(bm dk).c,(bm dk).L):=by (rfl)
 have hz0:(bY (bm dk).c.Rows).1=(bY (bm dk).c.Rows).1:=congrArg (fun t_=>t_.2.1.R) hz
 rw [hz0]
 exact R.w2 (z1,z2,z3,b2,z7,z8,z9,lG,z4,z5,z6) [2,3,4,5,0,6,7,8] nD O Tryz.results13 (RV.tmp O) (RV.tmp O) O O O (dy O O)
theorem Em (aH:Nat)(ay aG az:Value)(dk:cw)(w:World)(own:List Nat)(H:HN w own [ag.box aH [ay,aG,az,iV dk.Fuse,.bool dk.Down] 112,ag.row 9 ay dk.Kept,ag.row 9 aG dk.Now,ag.row 114 az dk.Wait] [eD])(h0:dk=dNew 170):RC Tryz.prog 31 #[.pointer (some ⟨aH,0,none⟩)] H (fun _:Value×Value×Value=>df (rD dk).2.2) (fun z=>[ag.box aH [z.1,z.2.1,z.2.2,iV (rD dk).2.1.Fuse,.bool (rD dk).2.1.Down] 112,ag.row 9 z.1 (rD dk).2.1.Kept,ag.row 9 z.2.1 (rD dk).2.1.Now,ag.row 114 z.2.2 (rD dk).2.1.Wait]) (fun _=>[]):=by
 have eF:=H.cap 1 rfl;have eG:=H.cL 1 rfl
 have fC:=H.cap 2 rfl;have fD:=H.cL 2 rfl
 have eH:=H.cap 3 rfl;have eI:=H.cL 3 rfl
 obtain ⟨f1,f2,f3,f4,f5⟩:=Ej h0;have f6:=f4.ok;have f7:=f4.room;have f8:=f4.bnd (by omega);have f9:=f4.good;obtain ⟨f10,f11,f12⟩:=f9;have f13:=f7.2.2.1;have f14:fL (dL dk).1.Now.length 90000 (dL dk).1/\(dL dk).1.Now.length<=200:=⟨f6.1.up (by omega),f6.2.1⟩;have p0:fL dk.Now.length 80000 dk/\dk.Now.length<=1000:=(by rw [h0];have:=(AQ 170).nl;exact ⟨this.symm▸(AQ 170).up (by omega),by omega⟩)
 have n1:=LV;have n2:=l5;have n3:=oo l5
 refine R.bD [(0,.pointer (some ⟨aH,0,none⟩))] Tryz.func31 O O O O H<|R.reg O<|R.u 1 O<|R.nil<|R.reg O<|R.u 1 O<|R.s O (s.aW gX [] _ _ _ O O O Sd O O (fun w own hw H=>EV aH ay aG az dk w own H ‹_›) O) ?_
 rintro ⟨z1,z2,z3⟩
 dsimp only
 refine R.u 1 O<|R.nil<|R.reg O<|R.u 1 O<|R.q (q.dB O O Tryz.underlying38) O<|R.nil<|R.aA O O<|R.reg O<|R.u 1 O<|R.s O (s.aW gX [] _ _ _ O O O N1 O O (fun w own hw H=>zJ aH z1 z2 z3 (dL dk).1 w own H ‹_› ‹_› ‹_›) O) ?_
 rintro ⟨z4,z5,z6,z7,z8,z9⟩
 dsimp only
 refine R.u 5 O<|R.nil<|R.reg O<|R.u 1 O<|R.q (q.vX O O Tryz.underlying38) O<|R.nil<|R.aA O O<|R.reg O<|R.u 1 O<|R.s O (s.aW mh [] _ _ _ O O O Se O O (fun w own hw H=>KP w own H ) O) ?_
 rintro ⟨lG,l9,z12,qh⟩
 dsimp only
 refine R.s O (s.aW mh nD _ _ _ O O O Jj O O (fun w own hw H=>yq lG l9 z12 qh (⟨[],[],[],[],1,1⟩:aC) w own H ‹_› ‹_›) O) fun yI=>?_
 refine R.s O (s.pre (fun _ hw=>hw.cW 0 _ O O) (s.aW [4,0,1,2,3,5,6] [5,0] _ _ _ O O O N4 O O (fun w own hw H=>xA z7 z8 (bm (dL dk).1).c yI (bH (⟨[],[],[],[],1,1⟩:aC)) aH z4 z5 z6 (dL dk).1 z9 (bm (dL dk).1).L w own H ‹_› ‹_› (by omega) ‹_› (by decide)) O)) ?_
 rintro ⟨HM,Ch,z17,yP,BA⟩
 dsimp only
 refine R.u 1 O<|R.nil ?_
 have hz:((rD dk).2.1,(rD dk).2.2)=(((bF (mkS (bm (dL dk).1).c (bm (dL dk).1).L) (dL dk).1 (bH (⟨[],[],[],[],1,1⟩:aC))).2.1),(bF (mkS (bm (dL dk).1).c (bm (dL dk).1).L) (dL dk).1 (bH (⟨[],[],[],[],1,1⟩:aC))).2.2):=by (rfl)
 have hz0:(rD dk).2.1=(bF (mkS (bm (dL dk).1).c (bm (dL dk).1).L) (dL dk).1 (bH (⟨[],[],[],[],1,1⟩:aC))).2.1:=congrArg (fun t_=>t_.1) hz
 rw [hz0]
 have hz1:(rD dk).2.2=(bF (mkS (bm (dL dk).1).c (bm (dL dk).1).L) (dL dk).1 (bH (⟨[],[],[],[],1,1⟩:aC))).2.2:=congrArg (fun t_=>t_.2) hz
 rw [hz1]
 exact R.w1 (Ch,z17,yP) sI [] O Tryz.results31 (RV.tmp O) O O O O
end Go.Proofs.YtkbhcbipadkcaaaGreatDoor
