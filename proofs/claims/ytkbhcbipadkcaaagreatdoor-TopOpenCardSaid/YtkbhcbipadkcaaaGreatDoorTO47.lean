import Derived.Test.YtkbhcbipadkcaaaGreatDoorTO46
namespace Go.Proofs.YtkbhcbipadkcaaaGreatDoor
set_option linter.unusedVariables false
set_option linter.unusedSimpArgs false
open Go Go.RowKit
set_option maxRecDepth 100000
set_option maxHeartbeats 1000000
attribute [local irreducible] bI cB bq ku dK dNew cR
theorem IP (b_k:Nat)(lN lO lP lQ:Value)(k:j9)(cy:Nat)(aJ:Value)(st:j8)(aG:Nat)(ak aA ao:Value)(dk:cD)(aZ:Nat)(lg:Lg)(w:World)(own:List Nat)(H:HN w own [af.box b_k [.pointer (some ⟨cy,0,none⟩),lN,lO,lP,lQ,iV k.R.ae,iV k.R.ah] 78,af.box cy [.pointer (some ⟨aG,0,none⟩),iV st.Epoch,iV st.Side,iV st.Size,iV st.First,.pointer (some ⟨aZ,0,none⟩),aJ] 133,af.box aG [ak,aA,ao,iV dk.Fuse,.bool dk.Down] 112,af.row 9 ak dk.Kept,af.row 9 aA dk.Now,af.row 114 ao dk.Wait,af.box aZ [.pointer (some ⟨aG,0,none⟩),iV lg.From,iV lg.Many,iV lg.First,iV lg.Next] 198] [af.ls lN k.R.aj,af.ls lO k.R.Things,af.ls lP k.R.Held,af.ls lQ k.R.Notes,af.ls aJ st.Rows])(hD:fO dk.Now.length 60000 dk/\dk.Now.length<=200/\166<=dk.Now.length)(hS:0<=st.Epoch/\st.Epoch<=1000000000/\0<=st.Side/\st.Side<=1/\0<=lg.Many/\lg.Many<=1000/\1<=lg.First/\lg.First<=1000000000/\0<=lg.From/\lg.From<=1000/\0<=lg.Next/\lg.Next<=1000)(hl:st.Rows.length<=60)(hF:∀c∈st.Rows,iG c=0):RC Tryz.prog 12 #[.pointer (some ⟨b_k,0,none⟩)] H (fun _:Value×Value×Value×Value×Value×Value×Value×Value×Nat=>dh (cB (mkS st lg) dk).2.2) (fun z=>[af.box b_k [.pointer (some ⟨cy,0,none⟩),z.1,z.2.1,z.2.2.1,z.2.2.2.1,iV k.R.ae,iV k.R.ah] 78,af.box cy [.pointer (some ⟨aG,0,none⟩),iV (cB (mkS st lg) dk).1.c.Epoch,iV (cB (mkS st lg) dk).1.c.Side,iV (cB (mkS st lg) dk).1.c.Size,iV (cB (mkS st lg) dk).1.c.First,.pointer (some ⟨z.2.2.2.2.2.2.2.2,0,none⟩),z.2.2.2.2.1] 133,af.box aG [z.2.2.2.2.2.1,z.2.2.2.2.2.2.1,z.2.2.2.2.2.2.2.1,iV (cB (mkS st lg) dk).2.1.Fuse,.bool (cB (mkS st lg) dk).2.1.Down] 112,af.row 9 z.2.2.2.2.2.1 (cB (mkS st lg) dk).2.1.Kept,af.row 9 z.2.2.2.2.2.2.1 (cB (mkS st lg) dk).2.1.Now,af.row 114 z.2.2.2.2.2.2.2.1 (cB (mkS st lg) dk).2.1.Wait,af.box z.2.2.2.2.2.2.2.2 [.pointer (some ⟨aG,0,none⟩),iV (cB (mkS st lg) dk).1.L.From,iV (cB (mkS st lg) dk).1.L.Many,iV (cB (mkS st lg) dk).1.L.First,iV (cB (mkS st lg) dk).1.L.Next] 198]) (fun z=>[af.ls z.1 k.R.aj,af.ls z.2.1 k.R.Things,af.ls z.2.2.1 k.R.Held,af.ls z.2.2.2.1 k.R.Notes,af.ls z.2.2.2.2.1 (cB (mkS st lg) dk).1.c.Rows]):=by
 have eE:=H.cap 3 rfl;have eF:=H.cQ 3 rfl
 have fE:=H.cap 4 rfl;have fF:=H.cQ 4 rfl
 have eG:=H.cap 5 rfl;have eH:=H.cQ 5 rfl
 have qx:=H.cx 0 rfl
 have o5:=H.cx 1 rfl
 have sD:=H.cx 2 rfl
 have qy:=H.cx 3 rfl
 have qP:=H.cx 4 rfl
 have hD2:fO dk.Now.length 70000 dk/\dk.Now.length<=200/\166<=dk.Now.length:=⟨hD.1.up (by omega),hD.2⟩
 refine R.bF [(0,.pointer (some ⟨b_k,0,none⟩))] Tryz.func12 O O O O H<|R.reg O<|R.u 1 O<|R.nil<|R.reg O<|R.u 1 O<|R.q (q.cm O) O<|R.q (q.aO O zk O) O<|R.q (q.ld 0 O O iN O) O<|R.s O (s.aW [1,2,3,4,5,6,0,7] [4] _ _ _ O O O NU O O (fun w own hw H=>De cy aJ st aG ak aA ao dk aZ lg w own H ‹_› (by omega) (by omega) ‹_›) O) ?_
 rintro ⟨z1,z2,z3,z4,z5⟩
 dsimp only
 refine R.u 1 O<|R.nil ?_
 have hz:(k,(cB (mkS st lg) dk).1.c,(cB (mkS st lg) dk).2.1,(cB (mkS st lg) dk).1.L,(cB (mkS st lg) dk).2.2)=(k,(cB (mkS st lg) dk).1.c,(cB (mkS st lg) dk).2.1,(cB (mkS st lg) dk).1.L,(cB (mkS st lg) dk).2.2):=by (rfl)
 exact R.w1 (lN,lO,lP,lQ,z1,z2,z3,z4,z5) [6,0,1,2,3,4,5,7] [1,2,3,4,0] O Tryz.results12 (RV.tmp O) O O O O
theorem sE (b_k:Nat)(lN lO lP lQ:Value)(OJ:Nat)(k:j9)(w:World)(own:List Nat)(H:HN w own [af.box b_k [.pointer (some ⟨OJ,0,none⟩),lN,lO,lP,lQ,iV k.R.ae,iV k.R.ah] 78] [af.ls lN k.R.aj,af.ls lO k.R.Things,af.ls lP k.R.Held,af.ls lQ k.R.Notes])(hk:Ok k.R):RC Tryz.prog 20 #[.pointer (some ⟨b_k,0,none⟩)] H (fun z:Value×Value×Value×Value×Value×Value×Value×Value => .agg #[z.2.2.2.2.1,z.2.2.2.2.2.1,z.2.2.2.2.2.2.1,z.2.2.2.2.2.2.2,iV k.R.ae,iV k.R.ah]) (fun z=>[af.box b_k [.pointer (some ⟨OJ,0,none⟩),z.1,z.2.1,z.2.2.1,z.2.2.2.1,iV k.R.ae,iV k.R.ah] 78]) (fun z=>[af.ls z.1 k.R.aj,af.ls z.2.1 k.R.Things,af.ls z.2.2.1 k.R.Held,af.ls z.2.2.2.1 k.R.Notes,af.ls z.2.2.2.2.1 k.R.aj,af.ls z.2.2.2.2.2.1 k.R.Things,af.ls z.2.2.2.2.2.2.1 k.R.Held,af.ls z.2.2.2.2.2.2.2 k.R.Notes]):=by
 have qx:=H.cx 0 rfl
 have o5:=H.cx 1 rfl
 have sD:=H.cx 2 rfl
 have qy:=H.cx 3 rfl
 refine R.bF [(0,.pointer (some ⟨b_k,0,none⟩))] Tryz.func20 O O O O H<|R.reg O<|R.s O (s.alloc dQ O O) fun b1=>R.nil<|R.reg O<|R.u 1 O<|R.q (q.cm O) O<|R.q (q.aO O nJ O) O<|R.q (q.G3 (ds:=[lN,lO,lP,lQ,iV k.R.ae,iV k.R.ah]) 1 O O ar O) O<|R.s O (s.aW [0,1,2] bS _ _ _ O O O NY O O (fun w own hw H=>Ad lN lO lP lQ k.R w own H ‹_›) O) ?_
 rintro ⟨z1,z2,z3,z4⟩
 dsimp only
 exact R.s O (s.fZ 0 _ O O O (fun _ _=>rfl) (.inl ar) (fun w hw=>(ag (Sl.one (hw.bT 0 O)) (ag (Sl.one (hw.bT 1 O)) (ag (Sl.one (hw.bT 2 O)) (ag (Sl.one (hw.bT 3 O)) (ag O (ag O aP))))))) O O O) fun _=>R.nil<|R.w1 (lN,lO,lP,lQ,z1,z2,z3,z4) [1,2] [4,5,6,7,0,1,2,3] O Tryz.results20 (RV.cell 0 O O ar) O O O O
theorem Em (bH bB bC bD:Value)(r:aD)(IV:Nat)(a:ej)(w:World)(own:List Nat)(H:HN w own [af.box IV (Ay a) 36] [af.ls bH r.aj,af.ls bB r.Things,af.ls bC r.Held,af.ls bD r.Notes])(hk:Ok r):RC Tryz.prog 50 #[.agg #[bH,bB,bC,bD,iV r.ae,iV r.ah],.pointer (some ⟨IV,0,none⟩)] H (fun z:Value×Value×Value×Value => .tuple #[.agg #[z.1,z.2.1,z.2.2.1,z.2.2.2,iV (cR r a).1.ae,iV (cR r a).1.ah],dh (cR r a).2]) (fun _=>[]) (fun z=>[af.ls z.1 (cR r a).1.aj,af.ls z.2.1 (cR r a).1.Things,af.ls z.2.2.1 (cR r a).1.Held,af.ls z.2.2.2 (cR r a).1.Notes]):=by
 have eJ:=H.cx 0 rfl
 have dM:=H.cx 1 rfl
 have fI:=H.cx 2 rfl
 have eK:=H.cx 3 rfl
 refine R.bF [(0,.agg #[bH,bB,bC,bD,iV r.ae,iV r.ah]),(1,.pointer (some ⟨IV,0,none⟩))] Tryz.func50 O O O O H<|R.reg O<|R.s O (s.box O O O) fun b1=>R.s O (s.alloc dQ O O) fun b2=>R.u 1 O<|R.nil<|R.reg O<|R.q (q.dv 1 O O ar) O<|R.q (q.dv 2 O O FY) O<|R.s O (s.aW bS bS _ _ _ O O O RL O O (fun w own hw H=>MX bH bB bC bD r a w own H ‹_›) O) ?_
 rintro ⟨z1,z2,z3,z4⟩
 dsimp only
 refine R.u 2 O<|R.s O (s.fZ 0 _ O O O (fun _ _=>rfl) (.inl ar) (fun w hw=>(ag (Sl.one (hw.bT 0 O)) (ag (Sl.one (hw.bT 1 O)) (ag (Sl.one (hw.bT 2 O)) (ag (Sl.one (hw.bT 3 O)) (ag O (ag O aP))))))) O O O) fun _=>R.u 1 O<|R.nil ?_
 have hz:cR r a=(((cR r a).1),(cR r a).2):=by (rfl)
 rw [hz]
 exact R.w2 (z1,z2,z3,z4) [3] bS O Tryz.results50 (RV.cell 0 O O ar) (RV.tmp O) O O O (dz O O)
set_option maxHeartbeats 1600000 in
theorem NA (b_k:Nat)(lN lO lP lQ:Value)(k:j9)(IV:Nat)(a:ej)(cy:Nat)(aJ:Value)(st:j8)(aG:Nat)(ak aA ao:Value)(dk:cD)(aZ:Nat)(lg:Lg)(w:World)(own:List Nat)(H:HN w own [af.box b_k [.pointer (some ⟨cy,0,none⟩),lN,lO,lP,lQ,iV k.R.ae,iV k.R.ah] 78,af.box IV (Ay a) 36,af.box cy [.pointer (some ⟨aG,0,none⟩),iV st.Epoch,iV st.Side,iV st.Size,iV st.First,.pointer (some ⟨aZ,0,none⟩),aJ] 133,af.box aG [ak,aA,ao,iV dk.Fuse,.bool dk.Down] 112,af.row 9 ak dk.Kept,af.row 9 aA dk.Now,af.row 114 ao dk.Wait,af.box aZ [.pointer (some ⟨aG,0,none⟩),iV lg.From,iV lg.Many,iV lg.First,iV lg.Next] 198] [af.ls lN k.R.aj,af.ls lO k.R.Things,af.ls lP k.R.Held,af.ls lQ k.R.Notes,af.ls aJ st.Rows,dc])(hD:fO dk.Now.length 60000 dk/\dk.Now.length<=200/\166<=dk.Now.length)(hS:0<=st.Epoch/\st.Epoch<=1000000000/\0<=st.Side/\st.Side<=1/\0<=lg.Many/\lg.Many<=1000/\1<=lg.First/\lg.First<=1000000000/\0<=lg.From/\lg.From<=1000/\0<=lg.Next/\lg.Next<=1000)(hl:st.Rows.length<=60)(hF:∀c∈st.Rows,iG c=0)(hk:Ok k.R)(hI:Inv k.R)(hz:(cR k.R a).2=0->Ok (cR k.R a).1):RC Tryz.prog 49 #[.pointer (some ⟨b_k,0,none⟩),.func (.func 50) #[] #[.pointer (some ⟨IV,0,none⟩)]] H (fun _:Value×Value×Value×Value×Value×Value×Value×Value×Nat=>dh (fS k st dk lg (cR k.R a)).2.2.2.2) (fun z=>[af.box b_k [.pointer (some ⟨cy,0,none⟩),z.1,z.2.1,z.2.2.1,z.2.2.2.1,iV (fS k st dk lg (cR k.R a)).1.R.ae,iV (fS k st dk lg (cR k.R a)).1.R.ah] 78,af.box cy [.pointer (some ⟨aG,0,none⟩),iV (fS k st dk lg (cR k.R a)).2.1.Epoch,iV (fS k st dk lg (cR k.R a)).2.1.Side,iV (fS k st dk lg (cR k.R a)).2.1.Size,iV (fS k st dk lg (cR k.R a)).2.1.First,.pointer (some ⟨z.2.2.2.2.2.2.2.2,0,none⟩),z.2.2.2.2.1] 133,af.box aG [z.2.2.2.2.2.1,z.2.2.2.2.2.2.1,z.2.2.2.2.2.2.2.1,iV (fS k st dk lg (cR k.R a)).2.2.1.Fuse,.bool (fS k st dk lg (cR k.R a)).2.2.1.Down] 112,af.row 9 z.2.2.2.2.2.1 (fS k st dk lg (cR k.R a)).2.2.1.Kept,af.row 9 z.2.2.2.2.2.2.1 (fS k st dk lg (cR k.R a)).2.2.1.Now,af.row 114 z.2.2.2.2.2.2.2.1 (fS k st dk lg (cR k.R a)).2.2.1.Wait,af.box z.2.2.2.2.2.2.2.2 [.pointer (some ⟨aG,0,none⟩),iV (fS k st dk lg (cR k.R a)).2.2.2.1.From,iV (fS k st dk lg (cR k.R a)).2.2.2.1.Many,iV (fS k st dk lg (cR k.R a)).2.2.2.1.First,iV (fS k st dk lg (cR k.R a)).2.2.2.1.Next] 198]) (fun z=>[af.ls z.1 (fS k st dk lg (cR k.R a)).1.R.aj,af.ls z.2.1 (fS k st dk lg (cR k.R a)).1.R.Things,af.ls z.2.2.1 (fS k st dk lg (cR k.R a)).1.R.Held,af.ls z.2.2.2.1 (fS k st dk lg (cR k.R a)).1.R.Notes,af.ls z.2.2.2.2.1 (fS k st dk lg (cR k.R a)).2.1.Rows]):=by
 have eE:=H.cap 4 rfl;have eF:=H.cQ 4 rfl
 have fE:=H.cap 5 rfl;have fF:=H.cQ 5 rfl
 have eG:=H.cap 6 rfl;have eH:=H.cQ 6 rfl
 have qx:=H.cx 0 rfl
 have o5:=H.cx 1 rfl
 have sD:=H.cx 2 rfl
 have qy:=H.cx 3 rfl
 have qP:=H.cx 4 rfl
 have g0:=og hI;have g1:=vK hI a;have g2:=IK (r:=k.R) a;have g3:=fun (h:(cR k.R a).2=0)=>og (g1 h).1
 refine R.bF [(0,.pointer (some ⟨b_k,0,none⟩)),(1,.func (.func 50) #[] #[.pointer (some ⟨IV,0,none⟩)])] Tryz.func49 O O O O H<|R.reg O<|R.u 1 O<|R.nil<|R.reg O<|R.u 2 O<|R.q (q.cm O) O<|R.q (q.aO O nJ O) O<|R.q (q.G3 (ds:=[lN,lO,lP,lQ,iV k.R.ae,iV k.R.ah]) 0 O O ar O) O<|R.s O (s.aW bN bS _ _ _ O O O NY O O (fun w own hw H=>Ad lN lO lP lQ k.R w own H ‹_›) O) ?_
 rintro ⟨z1,z2,z3,z4⟩
 dsimp only
 refine R.s O (s.aW [1,0,2,3,4,5,6,7,8] bS _ _ _ O O O RS O O (fun w own hw H=>Em z1 z2 z3 z4 k.R IV a w own H ‹_›) O) ?_
 rintro ⟨z5,z6,z7,z8⟩
 dsimp only
 refine R.u 3 O<|R.s O (s.alloc dQ O O) fun b1=>R.s O (s.fZ 0 _ O O O (fun _ _=>rfl) (.inl ar) (fun w hw=>(ag (Sl.one (hw.bT 0 O)) (ag (Sl.one (hw.bT 1 O)) (ag (Sl.one (hw.bT 2 O)) (ag (Sl.one (hw.bT 3 O)) (ag O (ag O aP))))))) O O O) fun _=>R.u 1 O<|R.nil<|R.reg O<|R.u 1 O<|?_
 by_cases h1:(cR k.R a).2=0
 .
  have hk2:=hz ‹_›;have hI2:=(g1 ‹_›).1;have g4:(gV (mQ (bL k.R) (bL (cR k.R a).1))).length<=59:=(g1 ‹_›).2;have g5:=g3 ‹_›
  refine R.q (q.dC O O Tryz.underlying38) O<|R.nil<|R.aB O O<|R.fu (fuel:=9) (Wd w (blks [af.box b_k [.pointer (some ⟨cy,0,none⟩),lN,lO,lP,lQ,iV k.R.ae,iV k.R.ah] 78,af.box IV (Ay a) 36,af.box cy [.pointer (some ⟨aG,0,none⟩),iV st.Epoch,iV st.Side,iV st.Size,iV st.First,.pointer (some ⟨aZ,0,none⟩),aJ] 133,af.box aG [ak,aA,ao,iV dk.Fuse,.bool dk.Down] 112,af.row 9 ak dk.Kept,af.row 9 aA dk.Now,af.row 114 ao dk.Wait,af.box aZ [.pointer (some ⟨aG,0,none⟩),iV lg.From,iV lg.Many,iV lg.First,iV lg.Next] 198]++own) [af.box b1 [z5,z6,z7,z8,iV (cR k.R a).1.ae,iV (cR k.R a).1.ah] 48,af.box b_k [.pointer (some ⟨cy,0,none⟩),lN,lO,lP,lQ,iV k.R.ae,iV k.R.ah] 78,af.box cy [.pointer (some ⟨aG,0,none⟩),iV st.Epoch,iV st.Side,iV st.Size,iV st.First,.pointer (some ⟨aZ,0,none⟩),aJ] 133,af.box aG [ak,aA,ao,iV dk.Fuse,.bool dk.Down] 112,af.row 9 ak dk.Kept,af.row 9 aA dk.Now,af.row 114 ao dk.Wait,af.box aZ [.pointer (some ⟨aG,0,none⟩),iV lg.From,iV lg.Many,iV lg.First,iV lg.Next] 198,af.held w own] [af.ls z5 (cR k.R a).1.aj,af.ls z6 (cR k.R a).1.Things,af.ls z7 (cR k.R a).1.Held,af.ls z8 (cR k.R a).1.Notes,af.ls z1 k.R.aj,af.ls z2 k.R.Things,af.ls z3 k.R.Held,af.ls z4 k.R.Notes,af.ls lN k.R.aj,af.ls lO k.R.Things,af.ls lP k.R.Held,af.ls lQ k.R.Notes,af.ls aJ st.Rows,dc]) O mixed O<|D.q (i:=0) O (aC bN sH O O O) O (q.mv O) O<|D.q (i:=1) O (aC bN sH O O O) O (q.cm O) O<|D.q (i:=2) O (aC bN sH O O O) O (q.aO O nJ O) O<|D.q (i:=3) O (aC bN sH O O O) O (q.G3 (ds:=[lN,lO,lP,lQ,iV k.R.ae,iV k.R.ah]) 1 O O ar O) O<|D.q (i:=5) O (aC bN sH O O O) O (q.dv 0 O O ar) O<|D.one (i:=4) O<|Do.s (s.aW bN [8,9,10,11,13] _ _ _ O O O Jh O O (fun w own hw H=>yp lN lO lP lQ k.R w own H ‹_› ‹_›) O) (fun _=>(aC Ci sH O O O)) O fun z12=>D.one (i:=6) O<|Do.s (s.aW NF [0,1,2,3,13] _ _ _ O O O Jh O O (fun w own hw H=>yp z5 z6 z7 z8 (cR k.R a).1 w own H ‹_› ‹_›) O) (fun _=>(aC [2,3,4,5,6,7,8,9,10] sH O O O)) O fun qc=>D.one (i:=7) O<|Do.s (s.EG (Bl:=[af.row 117 z12 (bL k.R),af.row 117 qc (bL (cR k.R a).1)]) (Fl:=[af.ls z12 (bL k.R),af.ls qc (bL (cR k.R a).1)]) [1,0,2,3,4,5,6,7,8,9,10] [0,1] (fun kO:Value=>kO) (fun kO:Value=>[af.row 117 kO (gV (mQ (bL k.R) (bL (cR k.R a).1)))]) O O (qD (qD wJ)) O O1 O O (fun w own hw H=>Ed z12 (bL k.R) qc (bL (cR k.R a).1) w own H (by omega)) O) (fun _=>(aC [3,4,5,6,7,8,9,10,11] sH O O O)) O fun yH=>D.q (i:=8) O (aC [3,4,5,6,7,8,9,10,11] sH O O O) O (q.as O) O<|D.done<|R.reg O<|R.u 1 O<|R.q (q.len' (ck 0 O) O Tryz.underlying34) O<|?_
  by_cases h2:0<(gV (mQ (bL k.R) (bL (cR k.R a).1))).length
  .
   refine R.q (q.eL O O) O<|R.nil<|R.ay O O<|R.reg O<|R.u 1 O<|R.q (q.cm O) O<|R.q (q.aO O zk O) O<|R.q (q.ld 4 O O iN O) O<|R.u 1 O<|R.s O (s.pre (fun _ hw=>hw.cX 0 _ O O) (s.aW [4,5,6,7,8,9,0,1,2,3,10] [13,0] _ _ _ O O O NZ O O (fun w own hw H=>xy cy aJ st yH (gV (mQ (bL k.R) (bL (cR k.R a).1))) aG ak aA ao dk aZ lg w own H ‹_› ‹_› (by omega) ‹_› (by omega)) O)) ?_
   rintro ⟨HI,Ch,z17,yO,BA⟩
   dsimp only
   refine R.u 1 O<|R.nil<|R.reg O<|R.u 1 O<|?_
   by_cases h3:(bI (mkS st lg) dk (gV (mQ (bL k.R) (bL (cR k.R a).1)))).2.2=0
   .
    refine R.q (q.mB O O Tryz.underlying38) O<|R.nil<|R.ay O O<|R.reg O<|R.u 1 O<|R.q (q.dv 8 O O ar) O<|R.q (q.cm O) O<|R.q (q.aO O nJ O) O<|R.s O (s.fZ 9 _ O O O (fun _ _=>rfl) (.inl ar) (fun w hw=>(ag (Sl.one (hw.bT 2 O)) (ag (Sl.one (hw.bT 3 O)) (ag (Sl.one (hw.bT 4 O)) (ag (Sl.one (hw.bT 5 O)) (ag O (ag O aP))))))) O O O) fun _=>R.nil<|R.reg O<|R.u 2 O<|R.nil ?_
    have hz:fS k st dk lg (cR k.R a)=((⟨(cR k.R a).1⟩:j9),(bI (mkS st lg) dk (gV (mQ (bL k.R) (bL (cR k.R a).1)))).1.c,(bI (mkS st lg) dk (gV (mQ (bL k.R) (bL (cR k.R a).1)))).2.1,(bI (mkS st lg) dk (gV (mQ (bL k.R) (bL (cR k.R a).1)))).1.L,(bI (mkS st lg) dk (gV (mQ (bL k.R) (bL (cR k.R a).1)))).2.2):=by (rw [OG (k:=k) (sc:=st) (d:=dk) (lg:=lg) (z:=cR k.R a) ‹_› ‹_› ‹_›];done)
    rw [hz]
    exact R.w1 (z5,z6,z7,z8,HI,Ch,z17,yO,BA) [9,0,1,2,3,4,5,10] [2,3,4,5,0] O Tryz.results49 (RV.tmp O) O O O O
   refine R.q (q.jF O O Tryz.underlying38) O<|R.nil<|R.aB O O<|R.reg O<|R.u 2 O<|R.nil ?_
   have hz:fS k st dk lg (cR k.R a)=(k,(bI (mkS st lg) dk (gV (mQ (bL k.R) (bL (cR k.R a).1)))).1.c,(bI (mkS st lg) dk (gV (mQ (bL k.R) (bL (cR k.R a).1)))).2.1,(bI (mkS st lg) dk (gV (mQ (bL k.R) (bL (cR k.R a).1)))).1.L,(bI (mkS st lg) dk (gV (mQ (bL k.R) (bL (cR k.R a).1)))).2.2):=by (rw [OH (k:=k) (sc:=st) (d:=dk) (lg:=lg) (z:=cR k.R a) ‹_› ‹_› ‹_›];done)
   rw [hz]
   exact R.w1 (lN,lO,lP,lQ,HI,Ch,z17,yO,BA) [9,0,1,2,3,4,5,10] [10,11,12,13,0] O Tryz.results49 (RV.tmp O) O O O O
  refine R.q (q.eu O O) O<|R.nil<|R.aB O O<|R.reg O<|R.u 1 O<|R.q (q.mB O O Tryz.underlying38) O<|R.nil<|R.ay O O<|R.reg O<|R.u 1 O<|R.q (q.dv 3 O O ar) O<|R.q (q.cm O) O<|R.q (q.aO O nJ O) O<|R.s O (s.fZ 4 _ O O O (fun _ _=>rfl) (.inl ar) (fun w hw=>(ag (Sl.one (hw.bT 0 O)) (ag (Sl.one (hw.bT 1 O)) (ag (Sl.one (hw.bT 2 O)) (ag (Sl.one (hw.bT 3 O)) (ag O (ag O aP))))))) O O O) fun _=>R.nil<|R.reg O<|R.u 2 O<|R.nil ?_
  have hz:fS k st dk lg (cR k.R a)=((⟨(cR k.R a).1⟩:j9),st,dk,lg,(cR k.R a).2):=by (rw [OE (k:=k) (sc:=st) (d:=dk) (lg:=lg) (z:=cR k.R a) ‹_› ‹_›];done)
  rw [hz]
  exact R.w1 (z5,z6,z7,z8,aJ,ak,aA,ao,aZ) [4,5,6,7,8,9,10,11] [0,1,2,3,12] O Tryz.results49 (RV.tmp O) O O O O
 refine R.q (q.eo O O Tryz.underlying38) O<|R.nil<|R.ay O O<|R.reg O<|R.u 2 O<|R.nil ?_
 have hz:fS k st dk lg (cR k.R a)=(k,st,dk,lg,(cR k.R a).2):=by (rw [OD (k:=k) (sc:=st) (d:=dk) (lg:=lg) (z:=cR k.R a) ‹_›];done)
 rw [hz]
 exact R.w1 (lN,lO,lP,lQ,aJ,ak,aA,ao,aZ) za [8,9,10,11,12] O Tryz.results49 (RV.tmp O) O O O O
theorem yA (b_k:Nat)(lN lO lP lQ:Value)(k:j9)(a:ej)(cy:Nat)(aJ:Value)(st:j8)(aG:Nat)(ak aA ao:Value)(dk:cD)(aZ:Nat)(lg:Lg)(w:World)(own:List Nat)(H:HN w own [af.box b_k [.pointer (some ⟨cy,0,none⟩),lN,lO,lP,lQ,iV k.R.ae,iV k.R.ah] 78,af.box cy [.pointer (some ⟨aG,0,none⟩),iV st.Epoch,iV st.Side,iV st.Size,iV st.First,.pointer (some ⟨aZ,0,none⟩),aJ] 133,af.box aG [ak,aA,ao,iV dk.Fuse,.bool dk.Down] 112,af.row 9 ak dk.Kept,af.row 9 aA dk.Now,af.row 114 ao dk.Wait,af.box aZ [.pointer (some ⟨aG,0,none⟩),iV lg.From,iV lg.Many,iV lg.First,iV lg.Next] 198] [af.ls lN k.R.aj,af.ls lO k.R.Things,af.ls lP k.R.Held,af.ls lQ k.R.Notes,af.ls aJ st.Rows,dc])(hD:fO dk.Now.length 60000 dk/\dk.Now.length<=200/\166<=dk.Now.length)(hS:0<=st.Epoch/\st.Epoch<=1000000000/\0<=st.Side/\st.Side<=1/\0<=lg.Many/\lg.Many<=1000/\1<=lg.First/\lg.First<=1000000000/\0<=lg.From/\lg.From<=1000/\0<=lg.Next/\lg.Next<=1000)(hl:st.Rows.length<=60)(hF:∀c∈st.Rows,iG c=0)(hk:Ok k.R)(hI:Inv k.R)(hz:(cR k.R a).2=0->Ok (cR k.R a).1):RC Tryz.prog 18 #[.pointer (some ⟨b_k,0,none⟩),.agg #[.string a.Kind,.string a.S,iV a.P.az,iV a.P.Slot,iV a.Q.az,iV a.Q.Slot,iV a.A,iV a.B,iV a.N,.int .u64 a.K,a.cv]] H (fun _:Value×Value×Value×Value×Value×Value×Value×Value×Nat=>dh (fS k st dk lg (cR k.R a)).2.2.2.2) (fun z=>[af.box b_k [.pointer (some ⟨cy,0,none⟩),z.1,z.2.1,z.2.2.1,z.2.2.2.1,iV (fS k st dk lg (cR k.R a)).1.R.ae,iV (fS k st dk lg (cR k.R a)).1.R.ah] 78,af.box cy [.pointer (some ⟨aG,0,none⟩),iV (fS k st dk lg (cR k.R a)).2.1.Epoch,iV (fS k st dk lg (cR k.R a)).2.1.Side,iV (fS k st dk lg (cR k.R a)).2.1.Size,iV (fS k st dk lg (cR k.R a)).2.1.First,.pointer (some ⟨z.2.2.2.2.2.2.2.2,0,none⟩),z.2.2.2.2.1] 133,af.box aG [z.2.2.2.2.2.1,z.2.2.2.2.2.2.1,z.2.2.2.2.2.2.2.1,iV (fS k st dk lg (cR k.R a)).2.2.1.Fuse,.bool (fS k st dk lg (cR k.R a)).2.2.1.Down] 112,af.row 9 z.2.2.2.2.2.1 (fS k st dk lg (cR k.R a)).2.2.1.Kept,af.row 9 z.2.2.2.2.2.2.1 (fS k st dk lg (cR k.R a)).2.2.1.Now,af.row 114 z.2.2.2.2.2.2.2.1 (fS k st dk lg (cR k.R a)).2.2.1.Wait,af.box z.2.2.2.2.2.2.2.2 [.pointer (some ⟨aG,0,none⟩),iV (fS k st dk lg (cR k.R a)).2.2.2.1.From,iV (fS k st dk lg (cR k.R a)).2.2.2.1.Many,iV (fS k st dk lg (cR k.R a)).2.2.2.1.First,iV (fS k st dk lg (cR k.R a)).2.2.2.1.Next] 198]) (fun z=>[af.ls z.1 (fS k st dk lg (cR k.R a)).1.R.aj,af.ls z.2.1 (fS k st dk lg (cR k.R a)).1.R.Things,af.ls z.2.2.1 (fS k st dk lg (cR k.R a)).1.R.Held,af.ls z.2.2.2.1 (fS k st dk lg (cR k.R a)).1.R.Notes,af.ls z.2.2.2.2.1 (fS k st dk lg (cR k.R a)).2.1.Rows]):=by
 have eE:=H.cap 3 rfl;have eF:=H.cQ 3 rfl
 have fE:=H.cap 4 rfl;have fF:=H.cQ 4 rfl
 have eG:=H.cap 5 rfl;have eH:=H.cQ 5 rfl
 have qx:=H.cx 0 rfl
 have o5:=H.cx 1 rfl
 have sD:=H.cx 2 rfl
 have qy:=H.cx 3 rfl
 have qP:=H.cx 4 rfl
 refine R.bF [(0,.pointer (some ⟨b_k,0,none⟩)),(1,.agg #[.string a.Kind,.string a.S,iV a.P.az,iV a.P.Slot,iV a.Q.az,iV a.Q.Slot,iV a.A,iV a.B,iV a.N,.int .u64 a.K,a.cv])] Tryz.func18 O O O O H<|R.reg O<|R.s O (s.box O O O) fun b1=>R.u 1 O<|R.nil<|R.reg O<|R.u 1 O<|R.q (q.LU (cap:=[.pointer (some ⟨b1,0,none⟩)]) O O) O<|R.s O (s.aW [1,0,2,3,4,5,6,7,8] rO _ _ _ O O O RR O O (fun w own hw H=>NA b_k lN lO lP lQ k b1 a cy aJ st aG ak aA ao dk aZ lg w own H ‹_› ‹_› (by omega) ‹_› ‹_› ‹_› ‹_›) O) ?_
 rintro ⟨z1,z2,z3,z4,z5,z6,z7,z8,z9⟩
 dsimp only
 refine R.u 1 O<|R.nil ?_
 have hz:fS k st dk lg (cR k.R a)=(((fS k st dk lg (cR k.R a)).1),(fS k st dk lg (cR k.R a)).2.1,(fS k st dk lg (cR k.R a)).2.2.1,(fS k st dk lg (cR k.R a)).2.2.2.1,(fS k st dk lg (cR k.R a)).2.2.2.2):=by (rfl)
 rw [hz]
 exact R.w1 (z1,z2,z3,z4,z5,z6,z7,z8,z9) ft ig O Tryz.results18 (RV.tmp O) O O O O
theorem ux (aG:Nat)(ak aA ao:Value)(dk:cD)(w:World)(own:List Nat)(H:HN w own [af.box aG [ak,aA,ao,iV dk.Fuse,.bool dk.Down] 112,af.row 9 ak dk.Kept,af.row 9 aA dk.Now,af.row 114 ao dk.Wait] [dc])(hd:dk.Down=false)(ho:ku dk=0)(hD:fO dk.Now.length 90000 dk/\dk.Now.length<=200)(hp:(cb (bq dk).c.Rows).2=0)(hr:(bq dk).c.Rows.length<=60 /\ ∀c∈(bq dk).c.Rows,c.Key.size<=1000/\c.Val.size<=1000):RC Tryz.prog 13 #[.pointer (some ⟨aG,0,none⟩)] H (fun z:Value×Value×Value×Nat×Value×Value×Value×Value×Nat×Value×Nat => .tuple #[.pointer (some ⟨z.2.2.2.1,0,none⟩),.nilIface]) (fun z=>[af.box aG [z.1,z.2.1,z.2.2.1,iV dk.Fuse,.bool dk.Down] 112,af.row 9 z.1 dk.Kept,af.row 9 z.2.1 dk.Now,af.row 114 z.2.2.1 dk.Wait,af.box z.2.2.2.1 [.pointer (some ⟨z.2.2.2.2.2.2.2.2.1,0,none⟩),z.2.2.2.2.1,z.2.2.2.2.2.1,z.2.2.2.2.2.2.1,z.2.2.2.2.2.2.2.1,iV (⟨(cb (bq dk).c.Rows).1⟩:j9).R.ae,iV (⟨(cb (bq dk).c.Rows).1⟩:j9).R.ah] 78,af.box z.2.2.2.2.2.2.2.2.1 [.pointer (some ⟨aG,0,none⟩),iV (bq dk).c.Epoch,iV (bq dk).c.Side,iV (bq dk).c.Size,iV (bq dk).c.First,.pointer (some ⟨z.2.2.2.2.2.2.2.2.2.2,0,none⟩),z.2.2.2.2.2.2.2.2.2.1] 133,af.box z.2.2.2.2.2.2.2.2.2.2 [.pointer (some ⟨aG,0,none⟩),iV (bq dk).L.From,iV (bq dk).L.Many,iV (bq dk).L.First,iV (bq dk).L.Next] 198]) (fun z=>[af.ls z.2.2.2.2.1 ((⟨(cb (bq dk).c.Rows).1⟩:j9).R.aj:List ap),af.ls z.2.2.2.2.2.1 ((⟨(cb (bq dk).c.Rows).1⟩:j9).R.Things:List aE),af.ls z.2.2.2.2.2.2.1 ((⟨(cb (bq dk).c.Rows).1⟩:j9).R.Held:List Held),af.ls z.2.2.2.2.2.2.2.1 ((⟨(cb (bq dk).c.Rows).1⟩:j9).R.Notes:List Note),af.ls z.2.2.2.2.2.2.2.2.2.1 (bq dk).c.Rows]):=by
 have eE:=H.cap 1 rfl;have eF:=H.cQ 1 rfl
 have fE:=H.cap 2 rfl;have fF:=H.cQ 2 rfl
 have eG:=H.cap 3 rfl;have eH:=H.cQ 3 rfl
 obtain ⟨hr1,hr2⟩:=hr
 refine R.bF [(0,.pointer (some ⟨aG,0,none⟩))] Tryz.func13 O O O O H<|R.reg O<|R.u 2 O<|R.nil<|R.reg O<|R.u 1 O<|R.s O (s.aW ig [] _ _ _ O O O NV O O (fun w own hw H=>zJ aG ak aA ao dk w own H ‹_› ‹_› ‹_›) O) ?_
 rintro ⟨z1,z2,z3,z4,z5,z6⟩
 dsimp only
 refine R.u 5 O<|R.nil<|R.reg O<|R.u 1 O<|R.q (q.vU O O Tryz.underlying38) O<|R.nil<|R.aB O O<|R.reg O<|R.u 1 O<|R.s O (s.vS RQ O O (fun w hw=>HU z4 z5 aG z6 (bq dk).c w (hw.b 4 O) (hw.bT 0 O) (by omega)) O) fun v1=>R.s O (s.pre (fun _ hw=>hw.cX 0 _ O O) (s.aW ml [0,2] _ _ _ O O O RP O O (fun w own hw H=>Iy v1 (bq dk).c.Rows w own H (by omega) ‹_›) O)) ?_
 rintro ⟨z7,z8,z9,lF⟩
 dsimp only
 refine R.u 3 O<|R.s O (s.alloc dQ O O) fun b1=>R.s O (s.fZ 0 _ O O O (fun _ _=>rfl) (.inl ar) (fun w hw=>(ag (Sl.one (hw.bT 0 O)) (ag (Sl.one (hw.bT 1 O)) (ag (Sl.one (hw.bT 2 O)) (ag (Sl.one (hw.bT 3 O)) (ag O (ag O aP))))))) O O O) fun _=>R.u 1 O<|R.nil<|R.reg O<|R.u 1 O<|R.q (q.dC O O Tryz.underlying38) O<|R.nil<|R.aB O O<|R.reg O<|R.u 1 O<|R.q (q.dv 0 O O ar) O<|R.q (q.JF RG O (fun w hw=>(sT O (sT O JE))) O) O<|R.s O (s.box O O O) fun b2=>R.u 2 O<|R.nil ?_
 have hz:(dk,(⟨(cb (bq dk).c.Rows).1⟩:j9),(bq dk).c,(bq dk).L)=(dk,(⟨(cb (bq dk).c.Rows).1⟩:j9),(bq dk).c,(bq dk).L):=by (rfl)
 have hz0:(cb (bq dk).c.Rows).1=(cb (bq dk).c.Rows).1:=congrArg (fun t_=>t_.2.1.R) hz
 rw [hz0]
 exact R.w2 (z1,z2,z3,b2,z7,z8,z9,lF,z4,z5,z6) [2,3,4,5,0,6,7,8] pB O Tryz.results13 (RV.tmp O) (RV.tmp O) O O O (dz O O)
theorem En (aG:Nat)(ak aA ao:Value)(dk:cD)(w:World)(own:List Nat)(H:HN w own [af.box aG [ak,aA,ao,iV dk.Fuse,.bool dk.Down] 112,af.row 9 ak dk.Kept,af.row 9 aA dk.Now,af.row 114 ao dk.Wait] [dc])(h0:dk=dNew 170):RC Tryz.prog 31 #[.pointer (some ⟨aG,0,none⟩)] H (fun _:Value×Value×Value=>dh (rx dk).2.2) (fun z=>[af.box aG [z.1,z.2.1,z.2.2,iV (rx dk).2.1.Fuse,.bool (rx dk).2.1.Down] 112,af.row 9 z.1 (rx dk).2.1.Kept,af.row 9 z.2.1 (rx dk).2.1.Now,af.row 114 z.2.2 (rx dk).2.1.Wait]) (fun _=>[]):=by
 have eE:=H.cap 1 rfl;have eF:=H.cQ 1 rfl
 have fE:=H.cap 2 rfl;have fF:=H.cQ 2 rfl
 have eG:=H.cap 3 rfl;have eH:=H.cQ 3 rfl
 obtain ⟨f1,f2,f3,f4,f5⟩:=Ek h0;have f6:=f4.ok;have f7:=f4.room;have f8:=f4.bnd (by omega);have f9:=f4.good;obtain ⟨f10,f11,f12⟩:=f9;have f13:=f7.2.2.1;have f14:fO (dK dk).1.Now.length 90000 (dK dk).1/\(dK dk).1.Now.length<=200:=⟨f6.1.up (by omega),f6.2.1⟩;have p0:fO dk.Now.length 80000 dk/\dk.Now.length<=1000:=(by rw [h0];have:=(AR 170).nl;exact ⟨this.symm▸(AR 170).up (by omega),by omega⟩)
 have n1:=LQ;have n2:=l7;have n3:=og l7
 refine R.bF [(0,.pointer (some ⟨aG,0,none⟩))] Tryz.func31 O O O O H<|R.reg O<|R.u 1 O<|R.nil<|R.reg O<|R.u 1 O<|R.s O (s.aW ig [] _ _ _ O O O R6 O O (fun w own hw H=>EU aG ak aA ao dk w own H ‹_›) O) ?_
 rintro ⟨z1,z2,z3⟩
 dsimp only
 refine R.u 1 O<|R.nil<|R.reg O<|R.u 1 O<|R.q (q.dC O O Tryz.underlying38) O<|R.nil<|R.aB O O<|R.reg O<|R.u 1 O<|R.s O (s.aW ig [] _ _ _ O O O NV O O (fun w own hw H=>zJ aG z1 z2 z3 (dK dk).1 w own H ‹_› ‹_› ‹_›) O) ?_
 rintro ⟨z4,z5,z6,z7,z8,z9⟩
 dsimp only
 refine R.u 5 O<|R.nil<|R.reg O<|R.u 1 O<|R.q (q.vU O O Tryz.underlying38) O<|R.nil<|R.aB O O<|R.reg O<|R.u 1 O<|R.s O (s.aW ml [] _ _ _ O O O R7 O O (fun w own hw H=>KM w own H ) O) ?_
 rintro ⟨lF,mb,z12,qc⟩
 dsimp only
 refine R.s O (s.aW ml pB _ _ _ O O O Jh O O (fun w own hw H=>yp lF mb z12 qc (⟨[],[],[],[],1,1⟩:aD) w own H ‹_› ‹_›) O) fun yH=>R.s O (s.pre (fun _ hw=>hw.cX 0 _ O O) (s.aW [4,0,1,2,3,5,6] [5,0] _ _ _ O O O NZ O O (fun w own hw H=>xy z7 z8 (bq (dK dk).1).c yH (bL (⟨[],[],[],[],1,1⟩:aD)) aG z4 z5 z6 (dK dk).1 z9 (bq (dK dk).1).L w own H ‹_› ‹_› (by omega) ‹_› (by decide)) O)) ?_
 rintro ⟨HI,Ch,z17,yO,BA⟩
 dsimp only
 refine R.u 1 O<|R.nil ?_
 have hz:((rx dk).2.1,(rx dk).2.2)=(((bI (mkS (bq (dK dk).1).c (bq (dK dk).1).L) (dK dk).1 (bL (⟨[],[],[],[],1,1⟩:aD))).2.1),(bI (mkS (bq (dK dk).1).c (bq (dK dk).1).L) (dK dk).1 (bL (⟨[],[],[],[],1,1⟩:aD))).2.2):=by (rfl)
 have hz0:(rx dk).2.1=(bI (mkS (bq (dK dk).1).c (bq (dK dk).1).L) (dK dk).1 (bL (⟨[],[],[],[],1,1⟩:aD))).2.1:=congrArg (fun t_=>t_.1) hz
 rw [hz0]
 have hz1:(rx dk).2.2=(bI (mkS (bq (dK dk).1).c (bq (dK dk).1).L) (dK dk).1 (bL (⟨[],[],[],[],1,1⟩:aD))).2.2:=congrArg (fun t_=>t_.2) hz
 rw [hz1]
 exact R.w1 (Ch,z17,yO) sG [] O Tryz.results31 (RV.tmp O) O O O O
end Go.Proofs.YtkbhcbipadkcaaaGreatDoor
