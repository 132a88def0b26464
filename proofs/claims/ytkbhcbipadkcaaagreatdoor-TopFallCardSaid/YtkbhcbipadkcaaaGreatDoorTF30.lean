import Derived.Test.YtkbhcbipadkcaaaGreatDoorTF29
import Derived.Test.YtkbhcbipadkcaaaGreatDoorRows
import Derived.Stop.LaidErr
import Derived.Lib.LaidTab
import Derived.MakeChecks
import Derived.Test.YtkbhcbipadkcaaaGreatDoorTie
import Derived.Test.YtkbhcbipadkcaaaGreatDoorCards
import Derived.LaidMore
import Derived.LaidLaws
import Derived.SevenTiedAt
import Derived.Stop.Joined
/-
  behind a fall at any step it is as it was, or as it would have become. No condition: the library's table and its error are tied to the program's text.
-/
namespace Go.Proofs.YtkbhcbipadkcaaaGreatDoor
set_option linter.unusedVariables false
set_option linter.unusedSimpArgs false
set_option maxRecDepth 100000
set_option maxHeartbeats 90000000
section
open Go Go.RowKit
attribute [local irreducible] bG cx bj kx dI dNew cF
theorem IY (b_k:Nat)(mL mM mN mO:Value)(k:j9)(cD:Nat)(aL:Value)(st:j8)(aH:Nat)(ay aE av:Value)(dk:ct)(bB:Nat)(lg:Lg)(w:World)(own:List Nat)(H:HN w own [ag.box b_k [.pointer (some ⟨cD,0,none⟩),mL,mM,mN,mO,iV k.R.ae,iV k.R.ah] 78,ag.box cD [.pointer (some ⟨aH,0,none⟩),iV st.Epoch,iV st.Side,iV st.Size,iV st.First,.pointer (some ⟨bB,0,none⟩),aL] 133,ag.box aH [ay,aE,av,iV dk.Fuse,.bool dk.Down] 112,ag.row 9 ay dk.Kept,ag.row 9 aE dk.Now,ag.row 114 av dk.Wait,ag.box bB [.pointer (some ⟨aH,0,none⟩),iV lg.From,iV lg.Many,iV lg.First,iV lg.Next] 198] [ag.ls mL k.R.ao,ag.ls mM k.R.Things,ag.ls mN k.R.Held,ag.ls mO k.R.Notes,ag.ls aL st.Rows])(hD:fF dk.Now.length 60000 dk/\dk.Now.length<=200/\166<=dk.Now.length)(hS:0<=st.Epoch/\st.Epoch<=1000000000/\0<=st.Side/\st.Side<=1/\0<=lg.Many/\lg.Many<=1000/\1<=lg.First/\lg.First<=1000000000/\0<=lg.From/\lg.From<=1000/\0<=lg.Next/\lg.Next<=1000)(hl:st.Rows.length<=60)(hF:∀c∈st.Rows,iH c=0):RC Tryz.prog 12 #[.pointer (some ⟨b_k,0,none⟩)] H (fun _:Value×Value×Value×Value×Value×Value×Value×Value×Nat=>dh (cx (mkS st lg) dk).2.2) (fun z=>[ag.box b_k [.pointer (some ⟨cD,0,none⟩),z.1,z.2.1,z.2.2.1,z.2.2.2.1,iV k.R.ae,iV k.R.ah] 78,ag.box cD [.pointer (some ⟨aH,0,none⟩),iV (cx (mkS st lg) dk).1.c.Epoch,iV (cx (mkS st lg) dk).1.c.Side,iV (cx (mkS st lg) dk).1.c.Size,iV (cx (mkS st lg) dk).1.c.First,.pointer (some ⟨z.2.2.2.2.2.2.2.2,0,none⟩),z.2.2.2.2.1] 133,ag.box aH [z.2.2.2.2.2.1,z.2.2.2.2.2.2.1,z.2.2.2.2.2.2.2.1,iV (cx (mkS st lg) dk).2.1.Fuse,.bool (cx (mkS st lg) dk).2.1.Down] 112,ag.row 9 z.2.2.2.2.2.1 (cx (mkS st lg) dk).2.1.Kept,ag.row 9 z.2.2.2.2.2.2.1 (cx (mkS st lg) dk).2.1.Now,ag.row 114 z.2.2.2.2.2.2.2.1 (cx (mkS st lg) dk).2.1.Wait,ag.box z.2.2.2.2.2.2.2.2 [.pointer (some ⟨aH,0,none⟩),iV (cx (mkS st lg) dk).1.L.From,iV (cx (mkS st lg) dk).1.L.Many,iV (cx (mkS st lg) dk).1.L.First,iV (cx (mkS st lg) dk).1.L.Next] 198]) (fun z=>[ag.ls z.1 k.R.ao,ag.ls z.2.1 k.R.Things,ag.ls z.2.2.1 k.R.Held,ag.ls z.2.2.2.1 k.R.Notes,ag.ls z.2.2.2.2.1 (cx (mkS st lg) dk).1.c.Rows]):=by
 have dM:=H.cap 3 rfl;have dN:=H.cC 3 rfl
 have eU:=H.cap 4 rfl;have eV:=H.cC 4 rfl
 have dO:=H.cap 5 rfl;have dP:=H.cC 5 rfl
 have qw:=H.ck 0 rfl
 have oY:=H.ck 1 rfl
 have sB:=H.ck 2 rfl
 have qx:=H.ck 3 rfl
 have qN:=H.ck 4 rfl
 have hD2:fF dk.Now.length 70000 dk/\dk.Now.length<=200/\166<=dk.Now.length:=⟨hD.1.up (by omega),hD.2⟩
 refine R.bD [(0,.pointer (some ⟨b_k,0,none⟩))] Tryz.func12 O O O O H<|R.reg O<|R.u 1 O<|R.nil<|R.reg O<|R.u 1 O<|R.q (q.bQ O) O<|R.q (q.aP O zd O) O<|R.q (q.ld 0 O O iN O) O<|R.s O (s.aT [1,2,3,4,5,6,0,7] [4] _ _ _ O O O N0 O O (fun w own hw H=>Dk cD aL st aH ay aE av dk bB lg w own H ‹_› (by omega) (by omega) ‹_›) O) ?_
 rintro ⟨z1,z2,z3,z4,z5⟩
 dsimp only
 refine R.u 1 O<|R.nil ?_
 have hz:(k,(cx (mkS st lg) dk).1.c,(cx (mkS st lg) dk).2.1,(cx (mkS st lg) dk).1.L,(cx (mkS st lg) dk).2.2)=(k,(cx (mkS st lg) dk).1.c,(cx (mkS st lg) dk).2.1,(cx (mkS st lg) dk).1.L,(cx (mkS st lg) dk).2.2):=by (rfl)
 exact R.w1 (mL,mM,mN,mO,z1,z2,z3,z4,z5) [6,0,1,2,3,4,5,7] [1,2,3,4,0] O Tryz.results12 (RV.tmp O) O O O O
theorem sC (b_k:Nat)(mL mM mN mO:Value)(OM:Nat)(k:j9)(w:World)(own:List Nat)(H:HN w own [ag.box b_k [.pointer (some ⟨OM,0,none⟩),mL,mM,mN,mO,iV k.R.ae,iV k.R.ah] 78] [ag.ls mL k.R.ao,ag.ls mM k.R.Things,ag.ls mN k.R.Held,ag.ls mO k.R.Notes])(hk:Ok k.R):RC Tryz.prog 20 #[.pointer (some ⟨b_k,0,none⟩)] H (fun z:Value×Value×Value×Value×Value×Value×Value×Value => .agg #[z.2.2.2.2.1,z.2.2.2.2.2.1,z.2.2.2.2.2.2.1,z.2.2.2.2.2.2.2,iV k.R.ae,iV k.R.ah]) (fun z=>[ag.box b_k [.pointer (some ⟨OM,0,none⟩),z.1,z.2.1,z.2.2.1,z.2.2.2.1,iV k.R.ae,iV k.R.ah] 78]) (fun z=>[ag.ls z.1 k.R.ao,ag.ls z.2.1 k.R.Things,ag.ls z.2.2.1 k.R.Held,ag.ls z.2.2.2.1 k.R.Notes,ag.ls z.2.2.2.2.1 k.R.ao,ag.ls z.2.2.2.2.2.1 k.R.Things,ag.ls z.2.2.2.2.2.2.1 k.R.Held,ag.ls z.2.2.2.2.2.2.2 k.R.Notes]):=by
 have qw:=H.ck 0 rfl
 have oY:=H.ck 1 rfl
 have sB:=H.ck 2 rfl
 have qx:=H.ck 3 rfl
 refine R.bD [(0,.pointer (some ⟨b_k,0,none⟩))] Tryz.func20 O O O O H<|R.reg O<|R.s O (s.alloc dB O O) fun b1=>?_
 refine R.nil<|R.reg O<|R.u 1 O<|R.q (q.bQ O) O<|R.q (q.aP O nI O) O<|R.q (q.Hf (ds:=[mL,mM,mN,mO,iV k.R.ae,iV k.R.ah]) 1 O O aj O) O<|R.s O (s.aT [0,1,2] bI _ _ _ O O O N2 O O (fun w own hw H=>zY mL mM mN mO k.R w own H ‹_›) O) ?_
 rintro ⟨z1,z2,z3,z4⟩
 dsimp only
 refine R.s O (s.fR 0 _ O O O (fun _ _=>rfl) (.inl aj) (fun w hw=>(af (Sl.one (hw.bN 0 O)) (af (Sl.one (hw.bN 1 O)) (af (Sl.one (hw.bN 2 O)) (af (Sl.one (hw.bN 3 O)) (af O (af O aO))))))) O O O) fun _=>?_
 exact R.nil<|R.w1 (mL,mM,mN,mO,z1,z2,z3,z4) [1,2] [4,5,6,7,0,1,2,3] O Tryz.results20 (RV.cell 0 O O aj) O O O O
theorem Er (bU bJ bK bL:Value)(r:aB)(LS:Nat)(a:dQ)(w:World)(own:List Nat)(H:HN w own [ag.box LS (EE a) 36] [ag.ls bU r.ao,ag.ls bJ r.Things,ag.ls bK r.Held,ag.ls bL r.Notes])(hk:Ok r):RC Tryz.prog 50 #[.agg #[bU,bJ,bK,bL,iV r.ae,iV r.ah],.pointer (some ⟨LS,0,none⟩)] H (fun z:Value×Value×Value×Value => .tuple #[.agg #[z.1,z.2.1,z.2.2.1,z.2.2.2,iV (cF r a).1.ae,iV (cF r a).1.ah],dh (cF r a).2]) (fun _=>[]) (fun z=>[ag.ls z.1 (cF r a).1.ao,ag.ls z.2.1 (cF r a).1.Things,ag.ls z.2.2.1 (cF r a).1.Held,ag.ls z.2.2.2 (cF r a).1.Notes]):=by
 have eJ:=H.ck 0 rfl
 have dK:=H.ck 1 rfl
 have fI:=H.ck 2 rfl
 have eK:=H.ck 3 rfl
 refine R.bD [(0,.agg #[bU,bJ,bK,bL,iV r.ae,iV r.ah]),(1,.pointer (some ⟨LS,0,none⟩))] Tryz.func50 O O O O H<|R.reg O<|R.s O (s.box O O O) fun b1=>?_
 refine R.s O (s.alloc dB O O) fun b2=>?_
 refine R.u 1 O<|R.nil<|R.reg O<|R.q (q.cW 1 O O aj) O<|R.q (q.cW 2 O O sO) O<|R.s O (s.aT bI bI _ _ _ O O O NY O O (fun w own hw H=>GM bU bJ bK bL r a w own H ‹_›) O) ?_
 rintro ⟨z1,z2,z3,z4⟩
 dsimp only
 refine R.u 2 O<|R.s O (s.fR 0 _ O O O (fun _ _=>rfl) (.inl aj) (fun w hw=>(af (Sl.one (hw.bN 0 O)) (af (Sl.one (hw.bN 1 O)) (af (Sl.one (hw.bN 2 O)) (af (Sl.one (hw.bN 3 O)) (af O (af O aO))))))) O O O) fun _=>?_
 refine R.u 1 O<|R.nil ?_
 have hz:cF r a=(((cF r a).1),(cF r a).2):=by (rfl)
 rw [hz]
 exact R.w2 (z1,z2,z3,z4) [3] bI O Tryz.results50 (RV.cell 0 O O aj) (RV.tmp O) O O O (dy O O)
theorem NA (b_k:Nat)(mL mM mN mO:Value)(k:j9)(LS:Nat)(a:dQ)(cD:Nat)(aL:Value)(st:j8)(aH:Nat)(ay aE av:Value)(dk:ct)(bB:Nat)(lg:Lg)(w:World)(own:List Nat)(H:HN w own [ag.box b_k [.pointer (some ⟨cD,0,none⟩),mL,mM,mN,mO,iV k.R.ae,iV k.R.ah] 78,ag.box LS (EE a) 36,ag.box cD [.pointer (some ⟨aH,0,none⟩),iV st.Epoch,iV st.Side,iV st.Size,iV st.First,.pointer (some ⟨bB,0,none⟩),aL] 133,ag.box aH [ay,aE,av,iV dk.Fuse,.bool dk.Down] 112,ag.row 9 ay dk.Kept,ag.row 9 aE dk.Now,ag.row 114 av dk.Wait,ag.box bB [.pointer (some ⟨aH,0,none⟩),iV lg.From,iV lg.Many,iV lg.First,iV lg.Next] 198] [ag.ls mL k.R.ao,ag.ls mM k.R.Things,ag.ls mN k.R.Held,ag.ls mO k.R.Notes,ag.ls aL st.Rows,ew])(hD:fF dk.Now.length 60000 dk/\dk.Now.length<=200/\166<=dk.Now.length)(hS:0<=st.Epoch/\st.Epoch<=1000000000/\0<=st.Side/\st.Side<=1/\0<=lg.Many/\lg.Many<=1000/\1<=lg.First/\lg.First<=1000000000/\0<=lg.From/\lg.From<=1000/\0<=lg.Next/\lg.Next<=1000)(hl:st.Rows.length<=60)(hF:∀c∈st.Rows,iH c=0)(hk:Ok k.R)(hI:Inv k.R)(hz:(cF k.R a).2=0->Ok (cF k.R a).1):RC Tryz.prog 49 #[.pointer (some ⟨b_k,0,none⟩),.func (.func 50) #[] #[.pointer (some ⟨LS,0,none⟩)]] H (fun _:Value×Value×Value×Value×Value×Value×Value×Value×Nat=>dh (eL k st dk lg (cF k.R a)).2.2.2.2) (fun z=>[ag.box b_k [.pointer (some ⟨cD,0,none⟩),z.1,z.2.1,z.2.2.1,z.2.2.2.1,iV (eL k st dk lg (cF k.R a)).1.R.ae,iV (eL k st dk lg (cF k.R a)).1.R.ah] 78,ag.box cD [.pointer (some ⟨aH,0,none⟩),iV (eL k st dk lg (cF k.R a)).2.1.Epoch,iV (eL k st dk lg (cF k.R a)).2.1.Side,iV (eL k st dk lg (cF k.R a)).2.1.Size,iV (eL k st dk lg (cF k.R a)).2.1.First,.pointer (some ⟨z.2.2.2.2.2.2.2.2,0,none⟩),z.2.2.2.2.1] 133,ag.box aH [z.2.2.2.2.2.1,z.2.2.2.2.2.2.1,z.2.2.2.2.2.2.2.1,iV (eL k st dk lg (cF k.R a)).2.2.1.Fuse,.bool (eL k st dk lg (cF k.R a)).2.2.1.Down] 112,ag.row 9 z.2.2.2.2.2.1 (eL k st dk lg (cF k.R a)).2.2.1.Kept,ag.row 9 z.2.2.2.2.2.2.1 (eL k st dk lg (cF k.R a)).2.2.1.Now,ag.row 114 z.2.2.2.2.2.2.2.1 (eL k st dk lg (cF k.R a)).2.2.1.Wait,ag.box z.2.2.2.2.2.2.2.2 [.pointer (some ⟨aH,0,none⟩),iV (eL k st dk lg (cF k.R a)).2.2.2.1.From,iV (eL k st dk lg (cF k.R a)).2.2.2.1.Many,iV (eL k st dk lg (cF k.R a)).2.2.2.1.First,iV (eL k st dk lg (cF k.R a)).2.2.2.1.Next] 198]) (fun z=>[ag.ls z.1 (eL k st dk lg (cF k.R a)).1.R.ao,ag.ls z.2.1 (eL k st dk lg (cF k.R a)).1.R.Things,ag.ls z.2.2.1 (eL k st dk lg (cF k.R a)).1.R.Held,ag.ls z.2.2.2.1 (eL k st dk lg (cF k.R a)).1.R.Notes,ag.ls z.2.2.2.2.1 (eL k st dk lg (cF k.R a)).2.1.Rows]):=by
 have dM:=H.cap 4 rfl;have dN:=H.cC 4 rfl
 have eU:=H.cap 5 rfl;have eV:=H.cC 5 rfl
 have dO:=H.cap 6 rfl;have dP:=H.cC 6 rfl
 have qw:=H.ck 0 rfl
 have oY:=H.ck 1 rfl
 have sB:=H.ck 2 rfl
 have qx:=H.ck 3 rfl
 have qN:=H.ck 4 rfl
 have g0:=lh hI;have g1:=tH hI a;have g2:=Aj (r:=k.R) a;have g3:=fun (h:(cF k.R a).2=0)=>lh (g1 h).1
 refine R.bD [(0,.pointer (some ⟨b_k,0,none⟩)),(1,.func (.func 50) #[] #[.pointer (some ⟨LS,0,none⟩)])] Tryz.func49 O O O O H<|R.reg O<|R.u 1 O<|R.nil<|R.reg O<|R.u 2 O<|R.q (q.bQ O) O<|R.q (q.aP O nI O) O<|R.q (q.Hf (ds:=[mL,mM,mN,mO,iV k.R.ae,iV k.R.ah]) 0 O O aj O) O<|R.s O (s.aT cj bI _ _ _ O O O N2 O O (fun w own hw H=>zY mL mM mN mO k.R w own H ‹_›) O) ?_
 rintro ⟨z1,z2,z3,z4⟩
 dsimp only
 refine R.s O (s.aT [1,0,2,3,4,5,6,7,8] bI _ _ _ O O O R6 O O (fun w own hw H=>Er z1 z2 z3 z4 k.R LS a w own H ‹_›) O) ?_
 rintro ⟨z5,z6,z7,z8⟩
 dsimp only
 refine R.u 3 O<|R.s O (s.alloc dB O O) fun b1=>?_
 refine R.s O (s.fR 0 _ O O O (fun _ _=>rfl) (.inl aj) (fun w hw=>(af (Sl.one (hw.bN 0 O)) (af (Sl.one (hw.bN 1 O)) (af (Sl.one (hw.bN 2 O)) (af (Sl.one (hw.bN 3 O)) (af O (af O aO))))))) O O O) fun _=>?_
 refine R.u 1 O<|R.nil<|R.reg O<|R.u 1 O<|?_
 by_cases h1:(cF k.R a).2=0
 .
  have hk2:=hz ‹_›;have hI2:=(g1 ‹_›).1;have g4:(gR (mK (bg k.R) (bg (cF k.R a).1))).length<=59:=(g1 ‹_›).2;have g5:=g3 ‹_›
  refine R.q (q.dq O O Tryz.underlying38) O<|R.nil<|R.aC O O<|R.fP (fuel:=9) cj O O mixed O<|D.q (i:=0) O (aD cj sG O) O (q.mv O) O<|D.q (i:=1) O (aD cj sG O) O (q.bQ O) O<|D.q (i:=2) O (aD cj sG O) O (q.aP O nI O) O<|D.q (i:=3) O (aD cj sG O) O (q.Hf (ds:=[mL,mM,mN,mO,iV k.R.ae,iV k.R.ah]) 1 O O aj O) O<|D.q (i:=5) O (aD cj sG O) O (q.cW 0 O O aj) O<|D.one (i:=4) O<|Do.s (s.aT cj [8,9,10,11,13] _ _ _ O O O Cw O O (fun w own hw H=>qq mL mM mN mO k.R w own H ‹_› ‹_›) O) (fun _=>(aD Cg sG O)) O fun z12=>?_
  refine D.one (i:=6) O<|Do.s (s.aT [0,1,2,3,4,5,6,7,8,9] [0,1,2,3,13] _ _ _ O O O Cw O O (fun w own hw H=>qq z5 z6 z7 z8 (cF k.R a).1 w own H ‹_› ‹_›) O) (fun _=>(aD [2,3,4,5,6,7,8,9,10] sG O)) O fun pA=>?_
  refine D.one (i:=7) O<|Do.s (s.EP (Bl:=[ag.row 117 z12 (bg k.R),ag.row 117 pA (bg (cF k.R a).1)]) (Fl:=[ag.ls z12 (bg k.R),ag.ls pA (bg (cF k.R a).1)]) [1,0,2,3,4,5,6,7,8,9,10] [0,1] (fun kQ:Value=>kQ) (fun kQ:Value=>[ag.row 117 kQ (gR (mK (bg k.R) (bg (cF k.R a).1)))]) O O (qB (qB wE)) O O3 O O (fun w own hw H=>Eh z12 (bg k.R) pA (bg (cF k.R a).1) w own H (by omega)) O) (fun _=>(aD [3,4,5,6,7,8,9,10,11] sG O)) O fun yv=>?_
  refine D.q (i:=8) O (aD [3,4,5,6,7,8,9,10,11] sG O) O (q.as O) O<|D.done<|R.reg O<|R.u 1 O<|R.q (q.len' (bE 0 O) O Tryz.underlying34) O<|?_
  by_cases h2:0<(gR (mK (bg k.R) (bg (cF k.R a).1))).length
  .
   refine R.q (q.eM O O) O<|R.nil<|R.az O O<|R.reg O<|R.u 1 O<|R.q (q.bQ O) O<|R.q (q.aP O zd O) O<|R.q (q.ld 4 O O iN O) O<|R.u 1 O<|R.s O (s.pre (fun _ hw=>hw.cX 0 _ O O) (s.aT [4,5,6,7,8,9,0,1,2,3,10] [13,0] _ _ _ O O O N4 O O (fun w own hw H=>xq cD aL st yv (gR (mK (bg k.R) (bg (cF k.R a).1))) aH ay aE av dk bB lg w own H ‹_› ‹_› (by omega) ‹_› (by omega)) O)) ?_
   rintro ⟨GA,Ce,z17,xp,yG⟩
   dsimp only
   refine R.u 1 O<|R.nil<|R.reg O<|R.u 1 O<|?_
   by_cases h3:(bG (mkS st lg) dk (gR (mK (bg k.R) (bg (cF k.R a).1)))).2.2=0
   .
    refine R.q (q.lQ O O Tryz.underlying38) O<|R.nil<|R.az O O<|R.reg O<|R.u 1 O<|R.q (q.cW 8 O O aj) O<|R.q (q.bQ O) O<|R.q (q.aP O nI O) O<|R.s O (s.fR 9 _ O O O (fun _ _=>rfl) (.inl aj) (fun w hw=>(af (Sl.one (hw.bN 2 O)) (af (Sl.one (hw.bN 3 O)) (af (Sl.one (hw.bN 4 O)) (af (Sl.one (hw.bN 5 O)) (af O (af O aO))))))) O O O) fun _=>?_
    refine R.nil<|R.reg O<|R.u 2 O<|R.nil ?_
    have hz:eL k st dk lg (cF k.R a)=((⟨(cF k.R a).1⟩:j9),(bG (mkS st lg) dk (gR (mK (bg k.R) (bg (cF k.R a).1)))).1.c,(bG (mkS st lg) dk (gR (mK (bg k.R) (bg (cF k.R a).1)))).2.1,(bG (mkS st lg) dk (gR (mK (bg k.R) (bg (cF k.R a).1)))).1.L,(bG (mkS st lg) dk (gR (mK (bg k.R) (bg (cF k.R a).1)))).2.2):=by (rw [OJ (k:=k) (sc:=st) (d:=dk) (lg:=lg) (z:=cF k.R a) ‹_› ‹_› ‹_›];done)
    rw [hz]
    exact R.w1 (z5,z6,z7,z8,GA,Ce,z17,xp,yG) [9,0,1,2,3,4,5,10] [2,3,4,5,0] O Tryz.results49 (RV.tmp O) O O O O
   refine R.q (q.jw O O Tryz.underlying38) O<|R.nil<|R.aC O O<|R.reg O<|R.u 2 O<|R.nil ?_
   have hz:eL k st dk lg (cF k.R a)=(k,(bG (mkS st lg) dk (gR (mK (bg k.R) (bg (cF k.R a).1)))).1.c,(bG (mkS st lg) dk (gR (mK (bg k.R) (bg (cF k.R a).1)))).2.1,(bG (mkS st lg) dk (gR (mK (bg k.R) (bg (cF k.R a).1)))).1.L,(bG (mkS st lg) dk (gR (mK (bg k.R) (bg (cF k.R a).1)))).2.2):=by (rw [OL (k:=k) (sc:=st) (d:=dk) (lg:=lg) (z:=cF k.R a) ‹_› ‹_› ‹_›];done)
   rw [hz]
   exact R.w1 (mL,mM,mN,mO,GA,Ce,z17,xp,yG) [9,0,1,2,3,4,5,10] [10,11,12,13,0] O Tryz.results49 (RV.tmp O) O O O O
  refine R.q (q.ey O O) O<|R.nil<|R.aC O O<|R.reg O<|R.u 1 O<|R.q (q.lQ O O Tryz.underlying38) O<|R.nil<|R.az O O<|R.reg O<|R.u 1 O<|R.q (q.cW 3 O O aj) O<|R.q (q.bQ O) O<|R.q (q.aP O nI O) O<|R.s O (s.fR 4 _ O O O (fun _ _=>rfl) (.inl aj) (fun w hw=>(af (Sl.one (hw.bN 0 O)) (af (Sl.one (hw.bN 1 O)) (af (Sl.one (hw.bN 2 O)) (af (Sl.one (hw.bN 3 O)) (af O (af O aO))))))) O O O) fun _=>?_
  refine R.nil<|R.reg O<|R.u 2 O<|R.nil ?_
  have hz:eL k st dk lg (cF k.R a)=((⟨(cF k.R a).1⟩:j9),st,dk,lg,(cF k.R a).2):=by (rw [OI (k:=k) (sc:=st) (d:=dk) (lg:=lg) (z:=cF k.R a) ‹_› ‹_›];done)
  rw [hz]
  exact R.w1 (z5,z6,z7,z8,aL,ay,aE,av,bB) [4,5,6,7,8,9,10,11] [0,1,2,3,12] O Tryz.results49 (RV.tmp O) O O O O
 refine R.q (q.dW O O Tryz.underlying38) O<|R.nil<|R.az O O<|R.reg O<|R.u 2 O<|R.nil ?_
 have hz:eL k st dk lg (cF k.R a)=(k,st,dk,lg,(cF k.R a).2):=by (rw [OH (k:=k) (sc:=st) (d:=dk) (lg:=lg) (z:=cF k.R a) ‹_›];done)
 rw [hz]
 exact R.w1 (mL,mM,mN,mO,aL,ay,aE,av,bB) yR [8,9,10,11,12] O Tryz.results49 (RV.tmp O) O O O O
theorem sD (b_k:Nat)(mL mM mN mO:Value)(k:j9)(a:dQ)(cD:Nat)(aL:Value)(st:j8)(aH:Nat)(ay aE av:Value)(dk:ct)(bB:Nat)(lg:Lg)(w:World)(own:List Nat)(H:HN w own [ag.box b_k [.pointer (some ⟨cD,0,none⟩),mL,mM,mN,mO,iV k.R.ae,iV k.R.ah] 78,ag.box cD [.pointer (some ⟨aH,0,none⟩),iV st.Epoch,iV st.Side,iV st.Size,iV st.First,.pointer (some ⟨bB,0,none⟩),aL] 133,ag.box aH [ay,aE,av,iV dk.Fuse,.bool dk.Down] 112,ag.row 9 ay dk.Kept,ag.row 9 aE dk.Now,ag.row 114 av dk.Wait,ag.box bB [.pointer (some ⟨aH,0,none⟩),iV lg.From,iV lg.Many,iV lg.First,iV lg.Next] 198] [ag.ls mL k.R.ao,ag.ls mM k.R.Things,ag.ls mN k.R.Held,ag.ls mO k.R.Notes,ag.ls aL st.Rows,ew])(hD:fF dk.Now.length 60000 dk/\dk.Now.length<=200/\166<=dk.Now.length)(hS:0<=st.Epoch/\st.Epoch<=1000000000/\0<=st.Side/\st.Side<=1/\0<=lg.Many/\lg.Many<=1000/\1<=lg.First/\lg.First<=1000000000/\0<=lg.From/\lg.From<=1000/\0<=lg.Next/\lg.Next<=1000)(hl:st.Rows.length<=60)(hF:∀c∈st.Rows,iH c=0)(hk:Ok k.R)(hI:Inv k.R)(hz:(cF k.R a).2=0->Ok (cF k.R a).1):RC Tryz.prog 18 #[.pointer (some ⟨b_k,0,none⟩),.agg #[.string a.Kind,.string a.S,iV a.P.aA,iV a.P.Slot,iV a.Q.aA,iV a.Q.Slot,iV a.A,iV a.B,iV a.N,.int .u64 a.K,a.cv]] H (fun _:Value×Value×Value×Value×Value×Value×Value×Value×Nat=>dh (eL k st dk lg (cF k.R a)).2.2.2.2) (fun z=>[ag.box b_k [.pointer (some ⟨cD,0,none⟩),z.1,z.2.1,z.2.2.1,z.2.2.2.1,iV (eL k st dk lg (cF k.R a)).1.R.ae,iV (eL k st dk lg (cF k.R a)).1.R.ah] 78,ag.box cD [.pointer (some ⟨aH,0,none⟩),iV (eL k st dk lg (cF k.R a)).2.1.Epoch,iV (eL k st dk lg (cF k.R a)).2.1.Side,iV (eL k st dk lg (cF k.R a)).2.1.Size,iV (eL k st dk lg (cF k.R a)).2.1.First,.pointer (some ⟨z.2.2.2.2.2.2.2.2,0,none⟩),z.2.2.2.2.1] 133,ag.box aH [z.2.2.2.2.2.1,z.2.2.2.2.2.2.1,z.2.2.2.2.2.2.2.1,iV (eL k st dk lg (cF k.R a)).2.2.1.Fuse,.bool (eL k st dk lg (cF k.R a)).2.2.1.Down] 112,ag.row 9 z.2.2.2.2.2.1 (eL k st dk lg (cF k.R a)).2.2.1.Kept,ag.row 9 z.2.2.2.2.2.2.1 (eL k st dk lg (cF k.R a)).2.2.1.Now,ag.row 114 z.2.2.2.2.2.2.2.1 (eL k st dk lg (cF k.R a)).2.2.1.Wait,ag.box z.2.2.2.2.2.2.2.2 [.pointer (some ⟨aH,0,none⟩),iV (eL k st dk lg (cF k.R a)).2.2.2.1.From,iV (eL k st dk lg (cF k.R a)).2.2.2.1.Many,iV (eL k st dk lg (cF k.R a)).2.2.2.1.First,iV (eL k st dk lg (cF k.R a)).2.2.2.1.Next] 198]) (fun z=>[ag.ls z.1 (eL k st dk lg (cF k.R a)).1.R.ao,ag.ls z.2.1 (eL k st dk lg (cF k.R a)).1.R.Things,ag.ls z.2.2.1 (eL k st dk lg (cF k.R a)).1.R.Held,ag.ls z.2.2.2.1 (eL k st dk lg (cF k.R a)).1.R.Notes,ag.ls z.2.2.2.2.1 (eL k st dk lg (cF k.R a)).2.1.Rows]):=by
 have dM:=H.cap 3 rfl;have dN:=H.cC 3 rfl
 have eU:=H.cap 4 rfl;have eV:=H.cC 4 rfl
 have dO:=H.cap 5 rfl;have dP:=H.cC 5 rfl
 have qw:=H.ck 0 rfl
 have oY:=H.ck 1 rfl
 have sB:=H.ck 2 rfl
 have qx:=H.ck 3 rfl
 have qN:=H.ck 4 rfl
 refine R.bD [(0,.pointer (some ⟨b_k,0,none⟩)),(1,.agg #[.string a.Kind,.string a.S,iV a.P.aA,iV a.P.Slot,iV a.Q.aA,iV a.Q.Slot,iV a.A,iV a.B,iV a.N,.int .u64 a.K,a.cv])] Tryz.func18 O O O O H<|R.reg O<|R.s O (s.box O O O) fun b1=>?_
 refine R.u 1 O<|R.nil<|R.reg O<|R.u 1 O<|R.q (q.LR (cap:=[.pointer (some ⟨b1,0,none⟩)]) O O) O<|R.s O (s.aT [1,0,2,3,4,5,6,7,8] rk _ _ _ O O O R5 O O (fun w own hw H=>NA b_k mL mM mN mO k b1 a cD aL st aH ay aE av dk bB lg w own H ‹_› ‹_› (by omega) ‹_› ‹_› ‹_› ‹_›) O) ?_
 rintro ⟨z1,z2,z3,z4,z5,z6,z7,z8,z9⟩
 dsimp only
 refine R.u 1 O<|R.nil ?_
 have hz:eL k st dk lg (cF k.R a)=(((eL k st dk lg (cF k.R a)).1),(eL k st dk lg (cF k.R a)).2.1,(eL k st dk lg (cF k.R a)).2.2.1,(eL k st dk lg (cF k.R a)).2.2.2.1,(eL k st dk lg (cF k.R a)).2.2.2.2):=by (rfl)
 rw [hz]
 exact R.w1 (z1,z2,z3,z4,z5,z6,z7,z8,z9) fj gJ O Tryz.results18 (RV.tmp O) O O O O
theorem uy (aH:Nat)(ay aE av:Value)(dk:ct)(w:World)(own:List Nat)(H:HN w own [ag.box aH [ay,aE,av,iV dk.Fuse,.bool dk.Down] 112,ag.row 9 ay dk.Kept,ag.row 9 aE dk.Now,ag.row 114 av dk.Wait] [ew])(hd:dk.Down=false)(ho:kx dk=0)(hD:fF dk.Now.length 90000 dk/\dk.Now.length<=200)(hp:(bS (bj dk).c.Rows).2=0)(hr:(bj dk).c.Rows.length<=60 /\ ∀c∈(bj dk).c.Rows,c.Key.size<=1000/\c.Val.size<=1000):RC Tryz.prog 13 #[.pointer (some ⟨aH,0,none⟩)] H (fun z:Value×Value×Value×Nat×Value×Value×Value×Value×Nat×Value×Nat => .tuple #[.pointer (some ⟨z.2.2.2.1,0,none⟩),.nilIface]) (fun z=>[ag.box aH [z.1,z.2.1,z.2.2.1,iV dk.Fuse,.bool dk.Down] 112,ag.row 9 z.1 dk.Kept,ag.row 9 z.2.1 dk.Now,ag.row 114 z.2.2.1 dk.Wait,ag.box z.2.2.2.1 [.pointer (some ⟨z.2.2.2.2.2.2.2.2.1,0,none⟩),z.2.2.2.2.1,z.2.2.2.2.2.1,z.2.2.2.2.2.2.1,z.2.2.2.2.2.2.2.1,iV (⟨(bS (bj dk).c.Rows).1⟩:j9).R.ae,iV (⟨(bS (bj dk).c.Rows).1⟩:j9).R.ah] 78,ag.box z.2.2.2.2.2.2.2.2.1 [.pointer (some ⟨aH,0,none⟩),iV (bj dk).c.Epoch,iV (bj dk).c.Side,iV (bj dk).c.Size,iV (bj dk).c.First,.pointer (some ⟨z.2.2.2.2.2.2.2.2.2.2,0,none⟩),z.2.2.2.2.2.2.2.2.2.1] 133,ag.box z.2.2.2.2.2.2.2.2.2.2 [.pointer (some ⟨aH,0,none⟩),iV (bj dk).L.From,iV (bj dk).L.Many,iV (bj dk).L.First,iV (bj dk).L.Next] 198]) (fun z=>[ag.ls z.2.2.2.2.1 ((⟨(bS (bj dk).c.Rows).1⟩:j9).R.ao:List ak),ag.ls z.2.2.2.2.2.1 ((⟨(bS (bj dk).c.Rows).1⟩:j9).R.Things:List aF),ag.ls z.2.2.2.2.2.2.1 ((⟨(bS (bj dk).c.Rows).1⟩:j9).R.Held:List Held),ag.ls z.2.2.2.2.2.2.2.1 ((⟨(bS (bj dk).c.Rows).1⟩:j9).R.Notes:List Note),ag.ls z.2.2.2.2.2.2.2.2.2.1 (bj dk).c.Rows]):=by
 have dM:=H.cap 1 rfl;have dN:=H.cC 1 rfl
 have eU:=H.cap 2 rfl;have eV:=H.cC 2 rfl
 have dO:=H.cap 3 rfl;have dP:=H.cC 3 rfl
 obtain ⟨hr1,hr2⟩:=hr
 refine R.bD [(0,.pointer (some ⟨aH,0,none⟩))] Tryz.func13 O O O O H<|R.reg O<|R.u 2 O<|R.nil<|R.reg O<|R.u 1 O<|R.s O (s.aT gJ [] _ _ _ O O O N1 O O (fun w own hw H=>zE aH ay aE av dk w own H ‹_› ‹_› ‹_›) O) ?_
 rintro ⟨z1,z2,z3,z4,z5,z6⟩
 dsimp only
 refine R.u 5 O<|R.nil<|R.reg O<|R.u 1 O<|R.q (q.uC O O Tryz.underlying38) O<|R.nil<|R.aC O O<|R.reg O<|R.u 1 O<|R.s O (s.vU R4 O O (fun w hw=>H5 z4 z5 aH z6 (bj dk).c w (hw.b 4 O) (hw.bN 0 O) (by omega)) O) fun v1=>?_
 refine R.s O (s.pre (fun _ hw=>hw.cX 0 _ O O) (s.aT mH [0,2] _ _ _ O O O R3 O O (fun w own hw H=>II v1 (bj dk).c.Rows w own H (by omega) ‹_›) O)) ?_
 rintro ⟨z7,z8,z9,lE⟩
 dsimp only
 refine R.u 3 O<|R.s O (s.alloc dB O O) fun b1=>?_
 refine R.s O (s.fR 0 _ O O O (fun _ _=>rfl) (.inl aj) (fun w hw=>(af (Sl.one (hw.bN 0 O)) (af (Sl.one (hw.bN 1 O)) (af (Sl.one (hw.bN 2 O)) (af (Sl.one (hw.bN 3 O)) (af O (af O aO))))))) O O O) fun _=>?_
 refine R.u 1 O<|R.nil<|R.reg O<|R.u 1 O<|R.q (q.dq O O Tryz.underlying38) O<|R.nil<|R.aC O O<|R.reg O<|R.u 1 O<|R.q (q.cW 0 O O aj) O<|R.q (q.JK RS O (fun w hw=>(sT O (sT O JJ))) O) O<|R.s O (s.box O O O) fun b2=>?_
 refine R.u 2 O<|R.nil ?_
 have hz:(dk,(⟨(bS (bj dk).c.Rows).1⟩:j9),(bj dk).c,(bj dk).L)=(dk,(⟨(bS (bj dk).c.Rows).1⟩:j9),(bj dk).c,(bj dk).L):=by (rfl)
 have hz0:(bS (bj dk).c.Rows).1=(bS (bj dk).c.Rows).1:=congrArg (fun t_=>t_.2.1.R) hz
 rw [hz0]
 exact R.w2 (z1,z2,z3,b2,z7,z8,z9,lE,z4,z5,z6) [2,3,4,5,0,6,7,8] ny O Tryz.results13 (RV.tmp O) (RV.tmp O) O O O (dy O O)
theorem Es (aH:Nat)(ay aE av:Value)(dk:ct)(w:World)(own:List Nat)(H:HN w own [ag.box aH [ay,aE,av,iV dk.Fuse,.bool dk.Down] 112,ag.row 9 ay dk.Kept,ag.row 9 aE dk.Now,ag.row 114 av dk.Wait] [ew])(h0:dk=dNew 170):RC Tryz.prog 31 #[.pointer (some ⟨aH,0,none⟩)] H (fun _:Value×Value×Value=>dh (ry dk).2.2) (fun z=>[ag.box aH [z.1,z.2.1,z.2.2,iV (ry dk).2.1.Fuse,.bool (ry dk).2.1.Down] 112,ag.row 9 z.1 (ry dk).2.1.Kept,ag.row 9 z.2.1 (ry dk).2.1.Now,ag.row 114 z.2.2 (ry dk).2.1.Wait]) (fun _=>[]):=by
 have dM:=H.cap 1 rfl;have dN:=H.cC 1 rfl
 have eU:=H.cap 2 rfl;have eV:=H.cC 2 rfl
 have dO:=H.cap 3 rfl;have dP:=H.cC 3 rfl
 obtain ⟨f1,f2,f3,f4,f5⟩:=Eo h0;have f6:=f4.ok;have f7:=f4.room;have f8:=f4.bnd (by omega);have f9:=f4.good;obtain ⟨f10,f11,f12⟩:=f9;have f13:=f7.2.2.1;have f14:fF (dI dk).1.Now.length 90000 (dI dk).1/\(dI dk).1.Now.length<=200:=⟨f6.1.up (by omega),f6.2.1⟩;have p0:fF dk.Now.length 80000 dk/\dk.Now.length<=1000:=(by rw [h0];have:=(AL 170).nl;exact ⟨this.symm▸(AL 170).up (by omega),by omega⟩)
 have n1:=LN;have n2:=l5;have n3:=lh l5
 refine R.bD [(0,.pointer (some ⟨aH,0,none⟩))] Tryz.func31 O O O O H<|R.reg O<|R.u 1 O<|R.nil<|R.reg O<|R.u 1 O<|R.s O (s.aT gJ [] _ _ _ O O O Sj O O (fun w own hw H=>E3 aH ay aE av dk w own H ‹_›) O) ?_
 rintro ⟨z1,z2,z3⟩
 dsimp only
 refine R.u 1 O<|R.nil<|R.reg O<|R.u 1 O<|R.q (q.dq O O Tryz.underlying38) O<|R.nil<|R.aC O O<|R.reg O<|R.u 1 O<|R.s O (s.aT gJ [] _ _ _ O O O N1 O O (fun w own hw H=>zE aH z1 z2 z3 (dI dk).1 w own H ‹_› ‹_› ‹_›) O) ?_
 rintro ⟨z4,z5,z6,z7,z8,z9⟩
 dsimp only
 refine R.u 5 O<|R.nil<|R.reg O<|R.u 1 O<|R.q (q.uC O O Tryz.underlying38) O<|R.nil<|R.aC O O<|R.reg O<|R.u 1 O<|R.s O (s.aT mH [] _ _ _ O O O Sk O O (fun w own hw H=>KS w own H ) O) ?_
 rintro ⟨lE,lX,z12,pA⟩
 dsimp only
 refine R.s O (s.aT mH ny _ _ _ O O O Cw O O (fun w own hw H=>qq lE lX z12 pA (⟨[],[],[],[],1,1⟩:aB) w own H ‹_› ‹_›) O) fun yv=>?_
 refine R.s O (s.pre (fun _ hw=>hw.cX 0 _ O O) (s.aT [4,0,1,2,3,5,6] [5,0] _ _ _ O O O N4 O O (fun w own hw H=>xq z7 z8 (bj (dI dk).1).c yv (bg (⟨[],[],[],[],1,1⟩:aB)) aH z4 z5 z6 (dI dk).1 z9 (bj (dI dk).1).L w own H ‹_› ‹_› (by omega) ‹_› (by decide)) O)) ?_
 rintro ⟨GA,Ce,z17,xp,yG⟩
 dsimp only
 refine R.u 1 O<|R.nil ?_
 have hz:((ry dk).2.1,(ry dk).2.2)=(((bG (mkS (bj (dI dk).1).c (bj (dI dk).1).L) (dI dk).1 (bg (⟨[],[],[],[],1,1⟩:aB))).2.1),(bG (mkS (bj (dI dk).1).c (bj (dI dk).1).L) (dI dk).1 (bg (⟨[],[],[],[],1,1⟩:aB))).2.2):=by (rfl)
 have hz0:(ry dk).2.1=(bG (mkS (bj (dI dk).1).c (bj (dI dk).1).L) (dI dk).1 (bg (⟨[],[],[],[],1,1⟩:aB))).2.1:=congrArg (fun t_=>t_.1) hz
 rw [hz0]
 have hz1:(ry dk).2.2=(bG (mkS (bj (dI dk).1).c (bj (dI dk).1).L) (dI dk).1 (bg (⟨[],[],[],[],1,1⟩:aB))).2.2:=congrArg (fun t_=>t_.2) hz
 rw [hz1]
 exact R.w1 (Ce,z17,xp) sE [] O Tryz.results31 (RV.tmp O) O O O O
end
section
open Go Go.RowKit
attribute [local irreducible] bG cx bj kx dI dNew cF eL
theorem Et (w:World)(own:List Nat)(H:HN w own [] [ew]):RC Tryz.prog 10 #[] H (fun z:Nat×Value×Value×Value×Nat×Value×Value×Value×Value×Nat×Value×Nat => .tuple #[.pointer (some ⟨z.1,0,none⟩),.pointer (some ⟨z.2.2.2.2.1,0,none⟩),.bool true]) (fun z=>[ag.box z.1 [z.2.1,z.2.2.1,z.2.2.2.1,iV ia.Fuse,.bool ia.Down] 112,ag.row 9 z.2.1 ia.Kept,ag.row 9 z.2.2.1 ia.Now,ag.row 114 z.2.2.2.1 ia.Wait,ag.box z.2.2.2.2.1 [.pointer (some ⟨z.2.2.2.2.2.2.2.2.2.1,0,none⟩),z.2.2.2.2.2.1,z.2.2.2.2.2.2.1,z.2.2.2.2.2.2.2.1,z.2.2.2.2.2.2.2.2.1,iV gi.R.ae,iV gi.R.ah] 78,ag.box z.2.2.2.2.2.2.2.2.2.1 [.pointer (some ⟨z.1,0,none⟩),iV iP.Epoch,iV iP.Side,iV iP.Size,iV iP.First,.pointer (some ⟨z.2.2.2.2.2.2.2.2.2.2.2,0,none⟩),z.2.2.2.2.2.2.2.2.2.2.1] 133,ag.box z.2.2.2.2.2.2.2.2.2.2.2 [.pointer (some ⟨z.1,0,none⟩),iV lS.From,iV lS.Many,iV lS.First,iV lS.Next] 198]) (fun z=>[ag.ls z.2.2.2.2.2.1 gi.R.ao,ag.ls z.2.2.2.2.2.2.1 gi.R.Things,ag.ls z.2.2.2.2.2.2.2.1 gi.R.Held,ag.ls z.2.2.2.2.2.2.2.2.1 gi.R.Notes,ag.ls z.2.2.2.2.2.2.2.2.2.2.1 iP.Rows]):=by
 obtain ⟨w1,w2,w3,w4,w5,u0,w6⟩:=B5;have w7:=w6.anew (by omega);have w8:=w6.pre (by omega)
 have x1:(ry (dNew (Int.toNat 170))).2.2=0:=w1;have x2:(ry (dNew (Int.toNat 170))).2.1.Down=false:=w7.1;have x3:kx (ry (dNew (Int.toNat 170))).2.1=0:=w7.2.1;have x4:fF (ry (dNew (Int.toNat 170))).2.1.Now.length 90000 (ry (dNew (Int.toNat 170))).2.1/\(ry (dNew (Int.toNat 170))).2.1.Now.length<=200:=w7.2.2.1;have x5:(bS (bj (ry (dNew (Int.toNat 170))).2.1).c.Rows).2=0:=w7.2.2.2.1;have x6:(bj (ry (dNew (Int.toNat 170))).2.1).c.Rows.length<=60 /\ ∀c∈(bj (ry (dNew (Int.toNat 170))).2.1).c.Rows,c.Key.size<=1000/\c.Val.size<=1000:=w7.2.2.2.2.1
 refine R.bD [] Tryz.func10 O O O O H<|R.reg O<|R.u 3 O<|R.nil<|R.reg O<|R.s O (s.aT [0] [] _ _ _ O O O R1 O O (fun w own hw H=>JN 170 w own H (by omega)) O) ?_
 rintro ⟨z1,z2,z3,z4⟩
 dsimp only
 refine R.u 5 O<|R.nil<|R.reg O<|R.u 1 O<|R.q (q.uC O O Tryz.underlying38) O<|R.u 2 O<|R.qg O (q.OY O O Tryz.underlying25) O<|R.u 3 O<|R.s O (s.aT gJ [0] _ _ _ O O O R2 O O (fun w own hw H=>Es z1 z2 z3 z4 (dNew (Int.toNat 170)) w own H (by rfl)) O) ?_
 rintro ⟨z5,z6,z7⟩
 dsimp only
 refine R.qg O (q.dq O O Tryz.underlying38) O<|R.u 1 O<|R.nil<|R.aC O O<|R.reg O<|R.u 1 O<|R.s O (s.aT gJ [0] _ _ _ O O O Jk O O (fun w own hw H=>uy z1 z5 z6 z7 (ry (dNew (Int.toNat 170))).2.1 w own H ‹_› ‹_› ‹_› ‹_› ‹_›) O) ?_
 rintro ⟨z8,z9,lE,lX,z12,pA,yv,GA,Ce,z17,xp⟩
 dsimp only
 refine R.u 5 O<|R.nil<|R.reg O<|R.u 3 O<|R.q (q.FY O O Tryz.underlying38) O<|R.u 2 O<|R.qg O (q.RP O O Tryz.underlying26) O<|R.u 4 O<|R.nil ?_
 have hz:(ia,gi,iP,lS)=(((ry (dNew (Int.toNat 170))).2.1),(⟨(bS (bj (ry (dNew (Int.toNat 170))).2.1).c.Rows).1⟩:j9),(bj (ry (dNew (Int.toNat 170))).2.1).c,(bj (ry (dNew (Int.toNat 170))).2.1).L):=by (rfl)
 have hz0:ia=(ry (dNew (Int.toNat 170))).2.1:=congrArg (fun t_=>t_.1) hz
 rw [hz0]
 have hz1:gi=(⟨(bS (bj (ry (dNew (Int.toNat 170))).2.1).c.Rows).1⟩:j9):=congrArg (fun t_=>t_.2.1) hz
 rw [hz1]
 have hz2:iP=(bj (ry (dNew (Int.toNat 170))).2.1).c:=congrArg (fun t_=>t_.2.2.1) hz
 rw [hz2]
 have hz3:lS=(bj (ry (dNew (Int.toNat 170))).2.1).L:=congrArg (fun t_=>t_.2.2.2) hz
 rw [hz3]
 exact R.w3 (z1,z8,z9,lE,lX,z12,pA,yv,GA,Ce,z17,xp) fj gJ O Tryz.results10 (RV.tmp O) (RV.tmp O) (RV.tmp O) O O O (EC O O O)
theorem FP (bP:Value)(l:List dQ)(w:World)(own:List Nat)(H:HN w own [] [ag.ls bP l,ag.acts l,ew])(hla:lM l 60=true):RC Tryz.prog 22 #[bP] H (fun z:Nat×Value×Value×Value×Nat×Value×Value×Value×Value×Nat×Value×Nat => .tuple #[.pointer (some ⟨z.1,0,none⟩),.pointer (some ⟨z.2.2.2.2.1,0,none⟩),.bool true]) (fun z=>[ag.box z.1 [z.2.1,z.2.2.1,z.2.2.2.1,iV (aZ l).2.2.1.Fuse,.bool (aZ l).2.2.1.Down] 112,ag.row 9 z.2.1 (aZ l).2.2.1.Kept,ag.row 9 z.2.2.1 (aZ l).2.2.1.Now,ag.row 114 z.2.2.2.1 (aZ l).2.2.1.Wait,ag.box z.2.2.2.2.1 [.pointer (some ⟨z.2.2.2.2.2.2.2.2.2.1,0,none⟩),z.2.2.2.2.2.1,z.2.2.2.2.2.2.1,z.2.2.2.2.2.2.2.1,z.2.2.2.2.2.2.2.2.1,iV (aZ l).1.R.ae,iV (aZ l).1.R.ah] 78,ag.box z.2.2.2.2.2.2.2.2.2.1 [.pointer (some ⟨z.1,0,none⟩),iV (aZ l).2.1.Epoch,iV (aZ l).2.1.Side,iV (aZ l).2.1.Size,iV (aZ l).2.1.First,.pointer (some ⟨z.2.2.2.2.2.2.2.2.2.2.2,0,none⟩),z.2.2.2.2.2.2.2.2.2.2.1] 133,ag.box z.2.2.2.2.2.2.2.2.2.2.2 [.pointer (some ⟨z.1,0,none⟩),iV (aZ l).2.2.2.From,iV (aZ l).2.2.2.Many,iV (aZ l).2.2.2.First,iV (aZ l).2.2.2.Next] 198]) (fun z=>[ag.ls z.2.2.2.2.2.1 (aZ l).1.R.ao,ag.ls z.2.2.2.2.2.2.1 (aZ l).1.R.Things,ag.ls z.2.2.2.2.2.2.2.1 (aZ l).1.R.Held,ag.ls z.2.2.2.2.2.2.2.2.1 (aZ l).1.R.Notes,ag.ls z.2.2.2.2.2.2.2.2.2.2.1 (aZ l).2.1.Rows]):=by
 have yw:=H.ck 0 rfl
 have hll:=wV hla
 refine R.bD [(0,bP)] Tryz.func22 O O O O H<|R.reg O<|R.u 3 O<|R.nil<|R.reg O<|R.u 1 O<|R.c (q.call Mf O O (fun w hw=>(cv (congrArg Value.bool hla) (oQ _ l 60 w (hw.bN 0 O) (hw.acts 1 O) )))) O<|R.u 1 O<|R.nil ?_
 refine R.aC O O<|R.reg O<|R.s O (s.aT [0] [2] _ _ _ O O O NV O O (fun w own hw H=>Et w own H ) O) ?_
 rintro ⟨z1,z2,z3,z4,z5,z6,z7,z8,z9,lE,lX,z12⟩
 dsimp only
 refine R.u 7 O<|R.nil<|R.reg O<|R.u 2 O<|R.nil<|R.aC O O<|R.reg O<|R.u 1 O<|R.nil<|R.loop (fun g_:Nat×ct×Value×Value×Value×j9×Value×Value×Value×Value×j8×Value×Lg×Nat=>[(0,bP),(5,.pointer (some ⟨z1,0,none⟩)),(6,.pointer (some ⟨z5,0,none⟩)),(8,iV (g_.1:Int))]) (fun g_=>[ag.box z1 [g_.2.2.1,g_.2.2.2.1,g_.2.2.2.2.1,iV g_.2.1.Fuse,.bool g_.2.1.Down] 112,ag.row 9 g_.2.2.1 g_.2.1.Kept,ag.row 9 g_.2.2.2.1 g_.2.1.Now,ag.row 114 g_.2.2.2.2.1 g_.2.1.Wait,ag.box z5 [.pointer (some ⟨lE,0,none⟩),g_.2.2.2.2.2.2.1,g_.2.2.2.2.2.2.2.1,g_.2.2.2.2.2.2.2.2.1,g_.2.2.2.2.2.2.2.2.2.1,iV g_.2.2.2.2.2.1.R.ae,iV g_.2.2.2.2.2.1.R.ah] 78,ag.box lE [.pointer (some ⟨z1,0,none⟩),iV g_.2.2.2.2.2.2.2.2.2.2.1.Epoch,iV g_.2.2.2.2.2.2.2.2.2.2.1.Side,iV g_.2.2.2.2.2.2.2.2.2.2.1.Size,iV g_.2.2.2.2.2.2.2.2.2.2.1.First,.pointer (some ⟨g_.2.2.2.2.2.2.2.2.2.2.2.2.2,0,none⟩),g_.2.2.2.2.2.2.2.2.2.2.2.1] 133,ag.box g_.2.2.2.2.2.2.2.2.2.2.2.2.2 [.pointer (some ⟨z1,0,none⟩),iV g_.2.2.2.2.2.2.2.2.2.2.2.2.1.From,iV g_.2.2.2.2.2.2.2.2.2.2.2.2.1.Many,iV g_.2.2.2.2.2.2.2.2.2.2.2.2.1.First,iV g_.2.2.2.2.2.2.2.2.2.2.2.2.1.Next] 198,ag.held w own]) (fun g_=>[ag.ls g_.2.2.2.2.2.2.1 g_.2.2.2.2.2.1.R.ao,ag.ls g_.2.2.2.2.2.2.2.1 g_.2.2.2.2.2.1.R.Things,ag.ls g_.2.2.2.2.2.2.2.2.1 g_.2.2.2.2.2.1.R.Held,ag.ls g_.2.2.2.2.2.2.2.2.2.1 g_.2.2.2.2.2.1.R.Notes,ag.ls g_.2.2.2.2.2.2.2.2.2.2.2.1 g_.2.2.2.2.2.2.2.2.2.2.1.Rows,ag.ls z6 gi.R.ao,ag.ls z7 gi.R.Things,ag.ls z8 gi.R.Held,ag.ls z9 gi.R.Notes,ag.ls lX iP.Rows,ag.ls bP l,ag.acts l,ew]) (fun g_=>g_.1<=l.length/\aZ (l.take g_.1)=(g_.2.2.2.2.2.1,g_.2.2.2.2.2.2.2.2.2.2.1,g_.2.1,g_.2.2.2.2.2.2.2.2.2.2.2.2.1)) (fun g_=>l.length-g_.1) (0,ia,z2,z3,z4,gi,z6,z7,z8,z9,iP,lX,lS,z12) O (by (try dsimp only);exact ⟨by omega,rfl⟩) (sF O) (iz fj [0,1,2,3,4,0,1,2,3,4,5,6,7] O) ?_
 rintro ⟨i,em,B6,FQ,Ca,kc,QU,QV,QW,QX,sc,Cb,lg,bl⟩ ⟨hi,HP⟩
 dsimp only at *
 have hp:=G9 (l.take i) (by rw [List.length_take];omega);rw [HP] at hp;obtain ⟨⟨u1,hp1⟩,hp2,hp3⟩:=hp;dsimp only at hp1 hp2 hp3;rw [List.length_take] at hp1 hp3;have hI:=hp1.inv;have hk:=hp3.ok (by omega);have g1:=hp1.pre (by omega);obtain ⟨g2,g3,g4,g5⟩:=g1
 refine R.reg O<|R.u 2 O<|R.q (q.len' (dx 10 O) O Tryz.underlying22) O<|?_
 by_cases h1:i<l.length
 .
  refine R.q (q.dD O O) O<|R.nil<|R.az O O<|R.reg O<|R.u 2 O<|?_
  obtain ⟨x1,hx1⟩:∃z,l[i]? = some z:=⟨_,List.getElem?_eq_getElem (by omega)⟩
  have Ws:=LP hp3 x1 (by omega)
  refine R.q (q.idx (i:=i) (dx 10 O) O O wm O hx1) O<|R.q (q.nD (j':=0) (dx 10 O) hx1 O zb O) O<|R.q (q.lw (dx 10 O) hx1 O bF O) O<|?_
  by_cases h2:x1.Kind=⟨#[115,97,118,101]⟩
  .
   refine R.q (q.pI O O h2) O<|R.nil<|R.az O O<|R.reg O<|R.u 1 O<|R.s O (s.aT [4,5,0,1,2,3,6,7] gJ _ _ _ O O O RU O O (fun w own hw H=>IY z5 QU QV QW QX kc lE Cb sc z1 B6 FQ Ca em bl lg w own H ‹_› ‹_› (by omega) ‹_›) O) ?_
   rintro ⟨pA,yv,GA,Ce,z17,xp,yG,z20,z21⟩
   dsimp only
   refine R.nil<|R.reg O<|R.u 1 O<|R.q (q.bC (r:=((i+1:Nat):Int)) O O) O<|R.u 1 O<|R.nil<|R.back (i+1,(cx (mkS sc lg) em).2.1,xp,yG,z20,kc,pA,yv,GA,Ce,(cx (mkS sc lg) em).1.c,z17,(cx (mkS sc lg) em).1.L,z21) O (by ((try dsimp only);exact ⟨by omega,by rw [Al hx1,HP];exact Ep ‹_›⟩)) (by dsimp only;omega) (sF O) (aD [2,3,4,5,0,1,6,7] [0,1,2,3,4,10,11,12,13,14,15,16,17] O)
  refine R.q (q.pJ O O h2) O<|R.nil<|R.aC O O<|R.reg O<|R.u 3 O<|R.q (q.idx (i:=i) (dx 10 O) O O wm O hx1) O<|R.q (q.gk (ds:=EE x1) (dx 10 O) hx1 O sO O) O<|R.s O (s.aT [4,5,0,1,2,3,6,7] [0,1,2,3,4,12] _ _ _ O O O Jl O O (fun w own hw H=>sD z5 QU QV QW QX kc x1 lE Cb sc z1 B6 FQ Ca em bl lg w own H ‹_› ‹_› (by omega) ‹_› ‹_› ‹_› ‹_›) O) ?_
  rintro ⟨z22,z23,z24,z25,z26,z27,z28,z29,z30⟩
  dsimp only
  refine R.nil<|R.reg O<|R.u 1 O<|R.q (q.bC (r:=((i+1:Nat):Int)) O O) O<|R.u 1 O<|R.nil<|R.back (i+1,(eL kc sc em lg (cF kc.R x1)).2.2.1,z27,z28,z29,(eL kc sc em lg (cF kc.R x1)).1,z22,z23,z24,z25,(eL kc sc em lg (cF kc.R x1)).2.1,z26,(eL kc sc em lg (cF kc.R x1)).2.2.2.1,z30) O (by ((try dsimp only);exact ⟨by omega,by rw [Al hx1,HP];exact IX ‹_›⟩)) (by dsimp only;omega) (sF O) (aD [2,3,4,5,0,1,6,7] [0,1,2,3,4,10,11,12,13,14,15,16,17] O)
 refine R.q (q.cU O O) O<|R.nil<|R.aC O O<|R.reg O<|R.u 5 O<|R.nil ?_
 have hz:((aZ l).2.2.1,(aZ l).1,(aZ l).2.1,(aZ l).2.2.2)=(em,kc,sc,lg):=by (rw [show l=l.take i from (List.take_of_length_le (by omega)).symm,HP])
 have hz0:(aZ l).2.2.1=em:=congrArg (fun t_=>t_.1) hz
 rw [hz0]
 have hz1:(aZ l).1=kc:=congrArg (fun t_=>t_.2.1) hz
 rw [hz1]
 have hz2:(aZ l).2.1=sc:=congrArg (fun t_=>t_.2.2.1) hz
 rw [hz2]
 have hz3:(aZ l).2.2.2=lg:=congrArg (fun t_=>t_.2.2.2) hz
 rw [hz3]
 exact R.w3 (z1,B6,FQ,Ca,z5,QU,QV,QW,QX,lE,Cb,bl) fj gJ O Tryz.results22 (RV.tmp O) (RV.tmp O) (RV.tmp O) O O O (EC O O O)
theorem IZ (bP:Value)(l:List dQ)(w:World)(own:List Nat)(H:HN w own [] [ag.ls bP l,ag.acts l])(hla:lM l 60=false):RC Tryz.prog 22 #[bP] H (fun _:Unit => .tuple #[.pointer none,.pointer none,.bool false]) (fun _=>[]) (fun _=>[]):=by
 have yw:=H.ck 0 rfl
 refine R.bD [(0,bP)] Tryz.func22 O O O O H<|R.reg O<|R.u 3 O<|R.nil<|R.reg O<|R.u 1 O<|R.c (q.call Mf O O (fun w hw=>(cv (congrArg Value.bool hla) (oQ _ l 60 w (hw.bN 0 O) (hw.acts 1 O) )))) O<|R.u 1 O<|R.nil ?_
 exact R.az O O<|R.reg O<|R.u 3 O<|R.nil<|R.w3 () [0] [] O Tryz.results22 (RV.tmp O) (RV.tmp O) (RV.tmp O) O O O (EC O O O)
theorem tI (NC ND NF NG:Value)(a:aB)(NH NI NJ NK:Value)(b:aB)(w:World)(own:List Nat)(H:HN w own [] [ag.ls NC a.ao,ag.ls ND a.Things,ag.ls NF a.Held,ag.ls NG a.Notes,ag.ls NH b.ao,ag.ls NI b.Things,ag.ls NJ b.Held,ag.ls NK b.Notes,ew])(h1:Ok a/\Inv a/\Ok b/\Inv b):RC Tryz.prog 28 #[.agg #[NC,ND,NF,NG,iV a.ae,iV a.ah],.agg #[NH,NI,NJ,NK,iV b.ae,iV b.ah]] H (fun _:Unit => .bool (decide (bg a=bg b))) (fun _=>[]) (fun _=>[]):=by
 have Rl:=H.ck 0 rfl
 have QY:=H.ck 1 rfl
 have TI:=H.ck 2 rfl
 have Rm:=H.ck 3 rfl
 have Rn:=H.ck 4 rfl
 have QZ:=H.ck 5 rfl
 have TJ:=H.ck 6 rfl
 have Ro:=H.ck 7 rfl
 obtain ⟨h2,h3,h4,h5⟩:=h1;have g1:=lh h3;have g2:=lh h5
 refine R.bD [(0,.agg #[NC,ND,NF,NG,iV a.ae,iV a.ah]),(1,.agg #[NH,NI,NJ,NK,iV b.ae,iV b.ah])] Tryz.func28 O O O O H<|R.reg O<|R.s O (s.box O O O) fun b1=>?_
 refine R.s O (s.box O O O) fun b2=>?_
 refine R.u 1 O<|R.nil<|R.reg O<|R.q (q.cW 1 O O aj) O<|R.s O (s.aT [0,1,2] mG _ _ _ O O O Cw O O (fun w own hw H=>qq NC ND NF NG a w own H ‹_› ‹_›) O) fun z1=>?_
 refine R.u 1 O<|R.nil<|R.reg O<|R.u 1 O<|R.q (q.cW 1 O O aj) O<|R.s O (s.aT bI [4,5,6,7,8] _ _ _ O O O Cw O O (fun w own hw H=>qq NH NI NJ NK b w own H ‹_› ‹_›) O) fun z2=>?_
 rcases Bool.eq_false_or_eq_true (decide ((bg a)=(bg b))) with h1|h1
 .
  refine R.c (q.call N3 O O (fun w hw=>(cv (congrArg Value.bool h1) (o8 _ (bg a) _ (bg b) w (hw.row 1 O) (hw.row 0 O) )))) O<|R.u 1 O<|R.nil ?_
  have hz:decide (bg a=bg b)=true:=by (assumption)
  rw [hz]
  exact R.w1 () [4] [] O Tryz.results28 (RV.tmp O) O O O O
 refine R.c (q.call N3 O O (fun w hw=>(cv (congrArg Value.bool h1) (o8 _ (bg a) _ (bg b) w (hw.row 1 O) (hw.row 0 O) )))) O<|R.u 1 O<|R.nil ?_
 have hz:decide (bg a=bg b)=false:=by (assumption)
 rw [hz]
 exact R.w1 () [4] [] O Tryz.results28 (RV.tmp O) O O O O
theorem FR {d:ct}{sc:j8}{lg:Lg}{u:Nat}{k:j9}{a:dQ}(h:KI d sc lg nR u 1)(hf:d.Fuse = -1)(e:k.R=nR)(h1:a.Kind=(⟨#[109,97,107,101]⟩:ByteArray))(h2:a.P=⟨1,0⟩)(h3:a.A=1) :
 (eL k sc d lg (cF k.R a)).2.2.2.2=0 /\ ∃z u1,KI (eL k sc d lg (cF k.R a)).2.2.1 (eL k sc d lg (cF k.R a)).2.1 (eL k sc d lg (cF k.R a)).2.2.2.1 z u1 2/\(bm z).Things.length=1/\Ok (bm z):=by
 have hd:cF nR a=(⟨[⟨1,1,7,0,0⟩],[⟨1,1,⟨#[]⟩⟩],[⟨⟨1,0⟩,1⟩],[],2,2⟩,0):=by unfold cF;rw [if_pos h1,h2,h3];exact Qs
 have h0:(cF nR a).2=0:=by rw [hd]
 obtain ⟨_,b⟩:=h.do (z:=cF nR a) (by omega) (tH h.inv a)
 have ek:k=⟨nR⟩:=by rw [<- e]
 rw [e,ek]
 have hs:Sz 1 (cF nR a).1:=GK Sz.new a
 rcases b h0 with ⟨c1,c2,c3,u2,c4⟩ | ⟨_,_,c3,_⟩
 .
  refine ⟨c1,_,u2,c4,?_,(DL hs).ok (by omega)⟩
  rw [yk c4.inv (by rw [hd])]
  rw [hd];rfl
 .exact absurd hf c3
theorem I0 (w:World)(ht:DV w):Calls Tryz.prog 21 #[] w fun e w'=>e = .returned (.bool true)/\Ext w w':=by
 obtain ⟨w1,w2,w3,w4,w5,u0,w6⟩:=B5;have w7:=w6.anew (by omega);have w8:=w6.pre (by omega)
 have wi:Inv gi.R:=w5.symm▸l5;have wo:Ok gi.R:=w5.symm▸LN;obtain ⟨wa,wb,wc,wd⟩:=w8;have wz:(cF gi.R (⟨⟨#[109,97,107,101]⟩,⟨#[]⟩,⟨1,0⟩,⟨0,0⟩,1,0,0,0,none,0,0,[]⟩:dQ)).2=0->Ok (cF gi.R (⟨⟨#[109,97,107,101]⟩,⟨#[]⟩,⟨1,0⟩,⟨0,0⟩,1,0,0,0,none,0,0,[]⟩:dQ)).1:=LP (k:=0) (w5.symm▸Sz.new) _ (by omega)
 obtain ⟨v1,z1,u1,v2,v3,v13⟩:=FR w6 w2 w5 (a:=(⟨⟨#[109,97,107,101]⟩,⟨#[]⟩,⟨1,0⟩,⟨0,0⟩,1,0,0,0,none,0,0,[]⟩:dQ)) rfl rfl rfl;have v4:=v2.anew (by omega);obtain ⟨v5,v6,v7,v8,v9,v10,v11⟩:=v4;have v12:(bS (bj (eL gi iP ia lS (cF gi.R (⟨⟨#[109,97,107,101]⟩,⟨#[]⟩,⟨1,0⟩,⟨0,0⟩,1,0,0,0,none,0,0,[]⟩:dQ))).2.2.1).c.Rows).1.Things.length=1:=(by rw [v10];exact v3);have v14:Ok (bS (bj (eL gi iP ia lS (cF gi.R (⟨⟨#[109,97,107,101]⟩,⟨#[]⟩,⟨1,0⟩,⟨0,0⟩,1,0,0,0,none,0,0,[]⟩:dQ))).2.2.1).c.Rows).1:=(by rw [v10];exact v13)
 refine R.enter [] [] Tryz.func21 O O O O<|R.nG (r:=ew) ht (BO ht)<|R.reg O<|R.u 1 O<|R.nil<|R.reg O<|R.s O (s.aT [] [0] _ _ _ O O O NV O O (fun w own hw H=>Et w own H ) O) ?_
 rintro ⟨z1,z2,z3,z4,z5,z6,z7,z8,z9,lE,lX,z12⟩
 dsimp only
 refine R.u 7 O<|R.nil<|R.reg O<|R.u 4 O<|R.qg O (q.build wn O O) O<|R.qg O (q.build RR O O) O<|R.s O (s.aT [4,5,0,1,2,3,6] rk _ _ _ O O O Jl O O (fun w own hw H=>sD z5 z6 z7 z8 z9 gi (⟨⟨#[109,97,107,101]⟩,⟨#[]⟩,⟨1,0⟩,⟨0,0⟩,1,0,0,0,none,0,0,[]⟩:dQ) lE lX iP z1 z2 z3 z4 ia z12 lS w own H ‹_› ‹_› (by omega) ‹_› ‹_› ‹_› ‹_›) O) ?_
 rintro ⟨pA,yv,GA,Ce,z17,xp,yG,z20,z21⟩
 dsimp only
 refine R.qg O (q.dq O O Tryz.underlying38) O<|R.u 1 O<|R.nil<|R.aC O O<|R.reg O<|R.u 1 O<|R.s O (s.aT [2,3,4,5,0,1,6] [10] _ _ _ O O O Jk O O (fun w own hw H=>uy z1 xp yG z20 (eL gi iP ia lS (cF gi.R (⟨⟨#[109,97,107,101]⟩,⟨#[]⟩,⟨1,0⟩,⟨0,0⟩,1,0,0,0,none,0,0,[]⟩:dQ))).2.2.1 w own H ‹_› ‹_› ‹_› ‹_› ‹_›) O) ?_
 rintro ⟨z22,z23,z24,z25,z26,z27,z28,z29,z30,z31,z32⟩
 dsimp only
 refine R.u 5 O<|R.nil<|R.reg O<|R.u 1 O<|R.q (q.FY O O Tryz.underlying38) O<|R.u 2 O<|R.qg O (q.RP O O Tryz.underlying26) O<|R.u 3 O<|R.s O (s.aT [4,0,1,2,3,5,6,7,8,9] bI _ _ _ O O O Jm O O (fun w own hw H=>sC z25 z26 z27 z28 z29 z30 (⟨(bS (bj (eL gi iP ia lS (cF gi.R (⟨⟨#[109,97,107,101]⟩,⟨#[]⟩,⟨1,0⟩,⟨0,0⟩,1,0,0,0,none,0,0,[]⟩:dQ))).2.2.1).c.Rows).1⟩:j9) w own H ‹_›) O) ?_
 rintro ⟨z33,z34,z35,z36,z37,z38,z39,z40⟩
 dsimp only
 exact R.qg O (q.field O Jg O) O<|R.qg O (q.len' (dx 5 O) O Tryz.underlying44) O<|R.qg O (q.fJ O O) O<|R.u 2 O<|R.nil<|R.rv O Tryz.results21 O (rB (by rfl))
end
section
open Go Go.RowKit
attribute [local irreducible] bG cx bj kx dI dNew cF eL aZ bS
theorem Eu (bP:Value)(l:List dQ)(a:dQ)(fuse:Int)(kp:Int)(w:World)(ez:Sl w bP l)(HD:∀x∈l,Sl w x.cv x.Changes)(CC:Sl w a.cv a.Changes)(ht:DV w)(hkp:0<=kp/\kp<=18446744073709551615)(hfu : -9223372036854775808<=fuse/\fuse<=9223372036854775807):Calls Tryz.prog 7 #[bP,.agg #[.string a.Kind,.string a.S,iV a.P.aA,iV a.P.Slot,iV a.Q.aA,iV a.Q.Slot,iV a.A,iV a.B,iV a.N,.int .u64 a.K,a.cv],iV fuse,.int .u64 kp] w fun e w'=>e = .returned (.bool true)/\Ext w w':=by
 have zq:=ez.gV
 refine R.enter [] [(0,bP),(1,.agg #[.string a.Kind,.string a.S,iV a.P.aA,iV a.P.Slot,iV a.Q.aA,iV a.Q.Slot,iV a.A,iV a.B,iV a.N,.int .u64 a.K,a.cv]),(2,iV fuse),(3,.int .u64 kp)] Tryz.func7 O O O O<|R.nG (r:=ew) ht (BO ht)<|R.po ez<|R.nG (r:=ag.acts l) HD (F8 HD)<|R.po CC<|R.reg O<|R.s O (s.box O O O) fun b1=>?_
 refine R.u 1 O<|R.nil<|R.reg O<|R.c (q.call RX O O (fun w hw=>(I0 w (by exact hw.okF ew (by repeat (first|exact List.Mem.head _|refine List.Mem.tail _ ?_)))))) O<|R.u 1 O<|R.nil ?_
 refine R.reg O<|R.u 2 O<|R.nil<|R.aC O O<|R.reg O<|R.u 1 O<|?_
 by_cases h1:lM l 60=true
 .
  refine R.s O (s.aT [0] [2,1,3] _ _ _ O O O NW O O (fun w own hw H=>FP bP l w own H ‹_›) O) ?_
  rintro ⟨z1,z2,z3,z4,z5,z6,z7,z8,z9,lE,lX,z12⟩
  dsimp only
  refine R.u 7 O<|R.nil<|R.reg O<|R.u 3 O<|R.qg O (q.cW 7 O O sO) O<|R.s O (s.bs (l:=([a]:List dQ)) wm Jd O O O O O O O) fun b2=>?_
  rcases Bool.eq_false_or_eq_true (lM ([a]) 1) with h2|h2
  .
   refine R.cg O (q.call Mf O O (fun w hw=>(cv (congrArg Value.bool h2) (oQ _ ([a]) 1 w (hw.row 0 O) (Cp (hw.bN 5 O)) )))) O<|R.u 2 O<|R.nil<|R.aC O O ?_
   have hla:lM l 60=true:=by assumption
   have hll:=wV hla;have pp:=G9 l (by omega);obtain ⟨⟨u1,p1⟩,p2,p3⟩:=pp;have hI:=p1.inv;have hk:=p3.ok (by omega);have hz:=LP p3 a (by omega);have Wt:=Aj (r:=(aZ l).1.R) a;have zi:=tH hI a
   refine R.reg O<|R.u 1 O<|R.s O (s.aT [5,0,1,2,3,4,6,7,8] bI _ _ _ O O O Jm O O (fun w own hw H=>sC z5 z6 z7 z8 z9 lE (aZ l).1 w own H ‹_›) O) ?_
   rintro ⟨pA,yv,GA,Ce,z17,xp,yG,z20⟩
   dsimp only
   refine R.s O (s.alloc dB O O) fun b3=>?_
   refine R.s O (s.fR 0 _ O O O (fun _ _=>rfl) (.inl aj) (fun w hw=>(af (Sl.one (hw.bN 4 O)) (af (Sl.one (hw.bN 5 O)) (af (Sl.one (hw.bN 6 O)) (af (Sl.one (hw.bN 7 O)) (af O (af O aO))))))) O O O) fun _=>?_
   refine R.nil<|R.reg O<|R.q (q.cW 0 O O aj) O<|R.q (q.cW 9 O O sO) O<|R.s O (s.aT [0,1,2,3,4,5,6,7,8,9] [4,5,6,7] _ _ _ O O O NY O O (fun w own hw H=>GM z17 xp yG z20 (aZ l).1.R a w own H ‹_›) O) ?_
   rintro ⟨z21,z22,z23,z24⟩
   dsimp only
   refine R.u 3 O<|R.s O (s.alloc dB O O) fun b4=>?_
   refine R.s O (s.fR 0 _ O O O (fun _ _=>rfl) (.inl aj) (fun w hw=>(af (Sl.one (hw.bN 0 O)) (af (Sl.one (hw.bN 1 O)) (af (Sl.one (hw.bN 2 O)) (af (Sl.one (hw.bN 3 O)) (af O (af O aO))))))) O O O) fun _=>?_
   refine R.u 1 O<|R.nil ?_
   have q1:=p1.arm (k:=(min (max fuse (-1)) 200)) (by omega) (by omega);have g1:=q1.pre (by omega);obtain ⟨g2,g3,g4,g5⟩:=g1;obtain ⟨f1,f2,f3,p,u2,WT,WU,f4,f5,f6,f7⟩:=q1.fall (by omega) zi Wt kp;have k4:=f4.anew (by omega);obtain ⟨v5,v6,v7,v8,v9,v10,v11⟩:=k4
   have sp:Sz 62 p/\Inv p:=(by refine ⟨?_,f4.inv⟩;rcases f7 with e|e;(rw [e];exact p3.up (by omega));(rw [e];exact (GK p3 a).up (by omega)))
   have e0:bg (bS (bj (cu (eL (aZ l).1 (aZ l).2.1 (lL (aZ l).2.2.1 (min (max fuse (-1)) 200)) (aZ l).2.2.2 (cF (aZ l).1.R a)).2.2.1 kp)).c.Rows).1=bg p:=(congrArg bg v10).trans (yn f4.inv);have sq:Ok (bS (bj (cu (eL (aZ l).1 (aZ l).2.1 (lL (aZ l).2.2.1 (min (max fuse (-1)) 200)) (aZ l).2.2.2 (cF (aZ l).1.R a)).2.2.1 kp)).c.Rows).1/\Inv (bS (bj (cu (eL (aZ l).1 (aZ l).2.1 (lL (aZ l).2.2.1 (min (max fuse (-1)) 200)) (aZ l).2.2.2 (cF (aZ l).1.R a)).2.2.1 kp)).c.Rows).1:=(by rw [v10];exact ⟨(DL sp.1).ok (by omega),v11.inv⟩);obtain ⟨WV,WW⟩:=sq;have WX:=fun (h:(cF (aZ l).1.R a).2=0)=>(zi h).1
   refine R.reg O<|R.u 2 O<|R.q (q.max (r:=max fuse (-1)) O O O) O<|R.q (q.min (r:=min (max fuse (-1)) 200) O O O) O<|R.s O (s.aT [4,5,6,7,0,1,2,3,8,9,10] [] _ _ _ O O O RZ O O (fun w own hw H=>JO z1 z2 z3 z4 (aZ l).2.2.1 (min (max fuse (-1)) 200) w own H ) O) ?_
   rintro ⟨z25,z26,z27⟩
   dsimp only
   refine R.nil<|R.reg O<|R.u 1 O<|R.q (q.cW 10 O O sO) O<|R.s O (s.aT [6,8,0,1,2,3,9,4,5,7,10] [4,5,6,7,16,20] _ _ _ O O O Jl O O (fun w own hw H=>sD z5 pA yv GA Ce (aZ l).1 a lE lX (aZ l).2.1 z1 z25 z26 z27 (lL (aZ l).2.2.1 (min (max fuse (-1)) 200)) z12 (aZ l).2.2.2 w own H ‹_› ‹_› (by omega) ‹_› ‹_› ‹_› ‹_›) O) ?_
   rintro ⟨z28,z29,z30,z31,z32,z33,z34,z35,z36⟩
   dsimp only
   refine R.u 1 O<|R.nil<|R.reg O<|R.u 2 O<|R.s O (s.aT [2,3,4,5,0,1,6,7,8,9,10] [] _ _ _ O O O R0 O O (fun w own hw H=>AO z1 z33 z34 z35 (eL (aZ l).1 (aZ l).2.1 (lL (aZ l).2.2.1 (min (max fuse (-1)) 200)) (aZ l).2.2.2 (cF (aZ l).1.R a)).2.2.1 kp w own H ‹_› ‹_›) O) ?_
   rintro ⟨z37,z38,z39⟩
   dsimp only
   refine R.nil<|R.reg O<|R.u 1 O<|R.s O (s.aT [0,1,2,3,4,5,6,7,8,9,10] [25] _ _ _ O O O Jk O O (fun w own hw H=>uy z1 z37 z38 z39 (cu (eL (aZ l).1 (aZ l).2.1 (lL (aZ l).2.2.1 (min (max fuse (-1)) 200)) (aZ l).2.2.2 (cF (aZ l).1.R a)).2.2.1 kp) w own H ‹_› ‹_› ‹_› ‹_› ‹_›) O) ?_
   rintro ⟨z40,z41,z42,z43,z44,z45,z46,z47,z48,z49,z50⟩
   dsimp only
   refine R.u 5 O<|R.nil<|R.reg O<|R.u 1 O<|R.q (q.uC O O Tryz.underlying38) O<|R.nil<|R.aC O O<|R.reg O<|R.u 1 O<|R.s O (s.aT [4,0,1,2,3,5,6,7,8,9,10,11,12,13] bI _ _ _ O O O Jm O O (fun w own hw H=>sC z43 z44 z45 z46 z47 z48 (⟨(bS (bj (cu (eL (aZ l).1 (aZ l).2.1 (lL (aZ l).2.2.1 (min (max fuse (-1)) 200)) (aZ l).2.2.2 (cF (aZ l).1.R a)).2.2.1 kp)).c.Rows).1⟩:j9) w own H ‹_›) O) ?_
   rintro ⟨z51,z52,z53,z54,z55,z56,z57,z58⟩
   dsimp only
   refine R.s O (s.alloc dB O O) fun b5=>?_
   refine R.s O (s.fR 0 _ O O O (fun _ _=>rfl) (.inl aj) (fun w hw=>(af (Sl.one (hw.bN 4 O)) (af (Sl.one (hw.bN 5 O)) (af (Sl.one (hw.bN 6 O)) (af (Sl.one (hw.bN 7 O)) (af O (af O aO))))))) O O O) fun _=>?_
   refine R.nil<|R.reg O<|R.u 1 O<|?_
   by_cases h3:(cF (aZ l).1.R a).2=0
   .
    refine R.q (q.dq O O Tryz.underlying38) O<|R.nil<|R.aC O O ?_
    have hz1:=hz ‹_›;have hz2:=(zi ‹_›).1
    refine R.reg O<|R.u 1 O<|?_
    by_cases h4:(eL (aZ l).1 (aZ l).2.1 (lL (aZ l).2.2.1 (min (max fuse (-1)) 200)) (aZ l).2.2.2 (cF (aZ l).1.R a)).2.2.2.2=0
    .
     refine R.q (q.lQ O O Tryz.underlying38) O<|R.nil<|R.az O O<|R.reg O<|R.q (q.cW 0 O O aj) O<|R.q (q.cW 11 O O aj) O<|R.s O (s.aT FV [4,5,6,7,18,19,20,21,38] _ _ _ O O O Gd O O (fun w own hw H=>tI z55 z56 z57 z58 (bS (bj (cu (eL (aZ l).1 (aZ l).2.1 (lL (aZ l).2.2.1 (min (max fuse (-1)) 200)) (aZ l).2.2.2 (cF (aZ l).1.R a)).2.2.1 kp)).c.Rows).1 z21 z22 z23 z24 (cF (aZ l).1.R a).1 w own H (by exact ⟨by assumption,by assumption,by assumption,by assumption⟩)) O) fun _=>?_
     exact R.u 1 O<|R.nil<|R.rv O Tryz.results7 O (rB (by (exact decide_eq_true (e0.trans (congrArg bg (f6 ‹_›))))))
    refine R.q (q.jw O O Tryz.underlying38) O<|R.nil<|R.aC O O<|R.reg O<|R.q (q.cW 0 O O aj) O<|R.q (q.cW 12 O O aj) O<|R.s O (s.aT FV [4,5,6,7,26,27,28,29,38] _ _ _ O O O Gd O O (fun w own hw H=>tI z55 z56 z57 z58 (bS (bj (cu (eL (aZ l).1 (aZ l).2.1 (lL (aZ l).2.2.1 (min (max fuse (-1)) 200)) (aZ l).2.2.2 (cF (aZ l).1.R a)).2.2.1 kp)).c.Rows).1 z17 xp yG z20 (aZ l).1.R w own H (by exact ⟨by assumption,by assumption,by assumption,by assumption⟩)) O) fun _=>?_
    refine R.u 1 O<|?_
    rcases Bool.eq_false_or_eq_true (decide (bg (bS (bj (cu (eL (aZ l).1 (aZ l).2.1 (lL (aZ l).2.2.1 (min (max fuse (-1)) 200)) (aZ l).2.2.2 (cF (aZ l).1.R a)).2.2.1 kp)).c.Rows).1=bg (aZ l).1.R)) with h5|h5
    .
     rw [h5]
     exact R.u 5 O<|R.nil<|R.rv O Tryz.results7 O (rB (by rfl))
    rw [h5]
    refine R.qg O (q.cW 0 O O aj) O<|R.qg O (q.cW 11 O O aj) O<|R.s O (s.aT FV [4,5,6,7,18,19,20,21,38] _ _ _ O O O Gd O O (fun w own hw H=>tI z55 z56 z57 z58 (bS (bj (cu (eL (aZ l).1 (aZ l).2.1 (lL (aZ l).2.2.1 (min (max fuse (-1)) 200)) (aZ l).2.2.2 (cF (aZ l).1.R a)).2.2.1 kp)).c.Rows).1 z21 z22 z23 z24 (cF (aZ l).1.R a).1 w own H (by exact ⟨by assumption,by assumption,by assumption,by assumption⟩)) O) fun _=>?_
    exact R.u 2 O<|R.nil<|R.rv O Tryz.results7 O (rB (by (rcases f7 with e|e <;> first|exact (TF ‹_› (e0.trans (congrArg bg e))).elim|exact decide_eq_true (e0.trans (congrArg bg e)))))
   refine R.q (q.dW O O Tryz.underlying38) O<|R.nil<|R.az O O<|R.reg O<|R.u 1 O<|?_
   by_cases h6:(eL (aZ l).1 (aZ l).2.1 (lL (aZ l).2.2.1 (min (max fuse (-1)) 200)) (aZ l).2.2.2 (cF (aZ l).1.R a)).2.2.2.2=0
   .
    exact R.q (q.dq O O Tryz.underlying38) O<|R.u 6 O<|R.nil<|R.rv O Tryz.results7 O (rB (by (exact (f3 ‹_› ‹_›).elim)))
   refine R.q (q.dW O O Tryz.underlying38) O<|R.u 1 O<|R.qg O (q.cW 0 O O aj) O<|R.qg O (q.cW 12 O O aj) O<|R.s O (s.aT FV [4,5,6,7,26,27,28,29,38] _ _ _ O O O Gd O O (fun w own hw H=>tI z55 z56 z57 z58 (bS (bj (cu (eL (aZ l).1 (aZ l).2.1 (lL (aZ l).2.2.1 (min (max fuse (-1)) 200)) (aZ l).2.2.2 (cF (aZ l).1.R a)).2.2.1 kp)).c.Rows).1 z17 xp yG z20 (aZ l).1.R w own H (by exact ⟨by assumption,by assumption,by assumption,by assumption⟩)) O) fun _=>?_
   exact R.u 2 O<|R.nil<|R.rv O Tryz.results7 O (rB (by (exact decide_eq_true (e0.trans (congrArg bg (f5 ‹_›))))))
  exact R.cg O (q.call Mf O O (fun w hw=>(cv (congrArg Value.bool h2) (oQ _ ([a]) 1 w (hw.row 0 O) (Cp (hw.bN 5 O)) )))) O<|R.u 2 O<|R.nil<|R.az O O<|R.reg O<|R.u 1 O<|R.nil<|R.rv O Tryz.results7 O (rB (by rfl))
 refine R.s O (s.aT [0] [2,1] _ _ _ O O O NW O O (fun w own hw H=>IZ bP l w own H (by exact Bool.eq_false_iff.2 ‹_›)) O) fun _=>?_
 exact R.u 7 O<|R.nil<|R.reg O<|R.u 8 O<|R.nil<|R.az O O<|R.reg O<|R.u 1 O<|R.nil<|R.rv O Tryz.results7 O (rB (by rfl))
end
section
open Go Go.RowKit
theorem TK:(Tryz.prog.globals[1]?).map (·.type)=some 294:=by kernel_rfl
theorem TM:(Tryz.prog.globals[2]?).map (·.type)=some 38:=by kernel_rfl
theorem NL:Tryz.prog.cellsOf 294=20:=by kernel_rfl
theorem Q0:∀t,Tryz.prog.underlying 294=some (.array 20 t)->Tryz.prog.cellsOf t=1:=fun t h=>by
 rw [Tryz.underlying294] at h;injection h with h;injection h with _ h;subst h;kernel_rfl
theorem OO : "*" ++ "errors.errorString" = "*errors.errorString" :=by decide
theorem Q5:∀u,Tryz.prog.typeName? 3 u=some "*errors.errorString" → u=308:=fun u h =>
 typeName_ptr_named (nm:= "errors.errorString") (by rw [OO];kernel_rfl) (by kernel_rfl) (by decide) u (by rw [OO];exact h)
theorem NM {W:World}(h:laidMetH Tryz.prog [("math/bits.deBruijn32tab",Rows.laid_math_bits_deBruijn32tab),("math/bits.deBruijn64tab",Rows.laid_math_bits_deBruijn64tab),("internal/strconv.uint64pow10",Rows.laid_internal_strconv_uint64pow10),("strconv.ErrRange",Rows.laid_strconv_ErrRange),("strconv.ErrSyntax",Rows.laid_strconv_ErrSyntax)] W):DV W:=by
 rw [MakeChecks.laidMetH_plain _ _ _ (by kernel_rfl)] at h
 have h3:=h.tail.tail
 have h5:=h3.tail.tail
 refine ⟨Lib.tabIs_of_head QB TK Tryz.underlying294 Tryz.underlying33 (Q0 _ Tryz.underlying294) NL (rest:=[("strconv.ErrRange",Rows.laid_strconv_ErrRange),("strconv.ErrSyntax",Rows.laid_strconv_ErrSyntax)]) h3,?_⟩
 obtain ⟨a,s,h6,_⟩:=laid_sentinel (text:=[105,110,118,97,108,105,100,32,115,121,110,116,97,120]) h5 QC TM Tryz.underlying38 Q5 Tryz.underlying308 Tryz.underlying310 rfl rfl Tryz.underlying9 (by kernel_rfl) (by kernel_rfl)
 exact ⟨_,_,h6⟩
end
end Go.Proofs.YtkbhcbipadkcaaaGreatDoor
section
namespace Go.Proofs.YtkbhcbipadkcaaaGreatDoor.TopFall
open Go.ChangeShapes Go.WideShapes Go.ChangeAt Go.RowKit
set_option linter.unusedVariables false
set_option linter.unusedSimpArgs false
theorem own:ownKnob Tryz.prog.godebug=none:=by kernel_rfl
theorem laidOut:laidOutB Tryz.prog=true:=by kernel_rfl
theorem back:∀t∈Tryz.f7.params.toList,Tryz.prog.readableRec t=true/\t<Tryz.prog.types.size:=by
 rw [Tryz.params7];intro t ht;simp at ht
 (repeat' rcases ht with rfl|ht) <;> first|exact ⟨by kernel_rfl,of_decide_eq_true (by kernel_rfl)⟩ | (subst ht;exact ⟨by kernel_rfl,of_decide_eq_true (by kernel_rfl)⟩)
theorem LQ (os:Os)(args:Array Value):laidMetH Tryz.prog Rows.topFallRow.laid ((World.doorLaid Tryz.prog 400 os).forCall (fun _ _=>0) ⟨#[],args,[]⟩).memory :=
 laidMetH_of_parts3 (fuel:=8) (laidMet_of_run' 8 (by kernel_rfl) (by kernel_rfl)) (by kernel_rfl) (by kernel_rfl)
set_option maxRecDepth 100000 in
theorem lifted (os:Os)(started:os.Started)(H:Type)(enc:TypeId×Value->H) :
 ReturnsInHanded {} Tryz.checked os 7 .any (fun w args=>(Rows.topFallSpec.pre enc Tryz.prog Tryz.f7 [] false w args/\laidMetH Tryz.prog Rows.topFallRow.laid w)/\sizedMet enc Tryz.prog Tryz.f7 (OpenSpec.ofChange Rows.topFallSpec) false w args)
  (Rows.topFallSpec.post enc Tryz.prog Tryz.f7 false true false false):=by
 refine returnsInHanded_of_change_and (C:=Tryz.checked) (X:=fun w _=>laidMetH Tryz.prog Rows.topFallRow.laid w) (fun _ _ _ hh h=>h.of_heap hh) own started (by kernel_rfl) Tryz.func7
  (ChangeSpec.witness_shaped (enc:=enc) (C:=Tryz.checked) (os:=os) (X:=fun w _=>laidMetH Tryz.prog Rows.topFallRow.laid w) false (World.doorLaid Tryz.prog 400 os) #[.slice none 0 0,.agg #[.string ⟨#[]⟩,.string ⟨#[]⟩,.int .i64 0,.int .i64 0,.int .i64 0,.int .i64 0,.int .i64 0,.int .i64 0,.int .i64 0,.int .u64 0,.slice none 0 0],.int .i64 0,.int .u64 0] 8 rfl (World.shaped_of_RefB (by kernel_rfl) (by kernel_rfl)) (by kernel_rfl) (by kernel_rfl) (by kernel_rfl) (LQ os _)) ?_
 intro W base args ds gs before hval0 hW _ _ hL _
 have hval:∀ (j:Nat) t v,Tryz.f7.params[j]? = some t->args[j]? = some v->Value.okWide Tryz.prog W .any base t v:=hval0
 have hW':=hW
 obtain ⟨p,q,Vn,hV,rfl,hfz,hnd⟩:=hW
 have hA:DataW.TrodAll enc Tryz.prog W 0 (fun _=>true) true Tryz.f7.params.toList args.toList ds p:=Vn
 have hA2:=hA
 have hback:=back
 rw [Tryz.params7] at hA hval hA2 hback
 obtain ⟨v0,WY,d0,ds0,p0,q0,hargs,rfl,rfl,h0,r0⟩:=trodAll_cons hA
 obtain ⟨v1,vs1,d1,ds1,p1,q1,rfl,rfl,rfl,h1,r1⟩:=trodAll_cons r0
 obtain ⟨v2,vs2,d2,WZ,p2,q2,rfl,rfl,rfl,h2,r2⟩:=trodAll_cons r1
 obtain ⟨v3,vs3,d3,ds3,p3,q3,rfl,rfl,rfl,h3,r3⟩:=trodAll_cons r2
 obtain ⟨rfl,rfl,rfl⟩:=trodAll_nil r3
 obtain rfl:args = #[v0,v1,v2,v3]:=by cases args;simp_all
 obtain ⟨rfl,rfl⟩:=trodVars_none hV
 obtain ⟨x0,s0,c0,f0⟩:=Jb (hval 0 _ v0 rfl rfl) h0
 obtain ⟨x1,rfl,s1,f1⟩:=Mc (hval 1 _ v1 rfl rfl) h1
 obtain ⟨x2,rfl,f2⟩:=LV (hval 2 _ v2 rfl rfl) h2
 obtain ⟨x3,rfl,f3⟩:=Md (hval 3 _ v3 rfl rfl) h3
 clear Vn hval0
 refine (Eu _ x0 x1 x2 x3 W s0 c0 s1 (NM hL) f3 f2).mono fun e W' ⟨he,Vo⟩=>?_
 subst he
 exact ⟨_,rfl,_,_,_,[],_,[],hW',trodAll_mk1 (shut_bool Tryz.underlying4 _),trodAll_back laidOut Vo.below hback hA2,rfl,Vo.below.frame _,fun h=>by cases h⟩
theorem over:Rows.topFallRow.holds Tryz.pinned (OpenSpec.ofChange Rows.topFallSpec) :=
 OpenClaim.holds_of_wide 7 Tryz.f7 rfl rfl rfl rfl rfl rfl rfl ⟨rfl,rfl,rfl,rfl,rfl⟩ rfl rfl rfl rfl rfl (by kernel_rfl) Tryz.func7 (by kernel_rfl)
  (of_decide_eq_true (by kernel_rfl)) (by unfold Func.isWrapper;first|(rw [if_pos (by decide +kernel)];kernel_rfl)|(rw [if_neg (by decide +kernel)];exact ⟨rfl,rfl⟩))
  (fun os started H enc _=>lifted os started H enc)
theorem proved:Rows.TopFallCardSaid :=
 Claim7.holds_tied_plain_at .later [] [.data,.data,.data,.sentinel,.sentinel] true (true,"740941bdca030c52b5d405e0b18da6d55d3bb80363adaeeb70679935f3666678") true
  over (fun _ h=>by cases h) (by kernel_rfl) (fun _ h=>by cases h) topFall_row_tie rfl ⟨rfl,rfl⟩ (by kernel_rfl) rfl
  (fun f fn hf hfn=>by
   obtain rfl:f=7:=Option.some.inj ((show Tryz.prog.funcNamed "writkeep/writkeeptop.TopFall" = some 7 by kernel_rfl).symm.trans hf) |>.symm
   obtain rfl:fn=Tryz.f7:=(Option.some.inj (Tryz.func7.symm.trans hfn)).symm
   exact ⟨by kernel_rfl,fun j t ht=>by
    have hall:(Tryz.f7.params.toList.all fun u => !Tryz.prog.wantsStandIn u)=true:=by kernel_rfl
    have hm:t∈Tryz.f7.params.toList:=by simpa using Array.mem_of_getElem? ht
    have hq:=List.all_eq_true.1 hall t hm
    exact (show Tryz.prog.wantsStandIn t=false by simpa using hq)⟩)
  (by kernel_rfl)
end Go.Proofs.YtkbhcbipadkcaaaGreatDoor.TopFall
end
