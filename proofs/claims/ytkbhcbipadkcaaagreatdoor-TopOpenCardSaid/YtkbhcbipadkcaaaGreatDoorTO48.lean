import Derived.Test.YtkbhcbipadkcaaaGreatDoorTO47
import Derived.Test.YtkbhcbipadkcaaaGreatDoorRows
import Derived.Stop.LaidErr
import Derived.Lib.LaidTab
import Derived.MakeChecks
import Derived.Test.YtkbhcbipadkcaaaGreatDoorTie
import Derived.Test.YtkbhcbipadkcaaaGreatDoorCards
import Derived.LaidMore
import Derived.LaidLaws
import Derived.SevenTiedAt
import Derived.Stop.Joined
/-
  who opens the disk anew has the same, but for what waited. No condition: the library's table and its error are tied to the program's text.
-/
namespace Go.Proofs.YtkbhcbipadkcaaaGreatDoor
set_option linter.unusedVariables false
set_option linter.unusedSimpArgs false
section
open Go Go.RowKit
set_option maxRecDepth 100000
set_option maxHeartbeats 1000000
attribute [local irreducible] bI cB bq ku dK dNew cR fS
theorem Eo (w:World)(own:List Nat)(H:HN w own [] [dc]):RC Tryz.prog 10 #[] H (fun z:Nat×Value×Value×Value×Nat×Value×Value×Value×Value×Nat×Value×Nat => .tuple #[.pointer (some ⟨z.1,0,none⟩),.pointer (some ⟨z.2.2.2.2.1,0,none⟩),.bool true]) (fun z=>[af.box z.1 [z.2.1,z.2.2.1,z.2.2.2.1,iV im.Fuse,.bool im.Down] 112,af.row 9 z.2.1 im.Kept,af.row 9 z.2.2.1 im.Now,af.row 114 z.2.2.2.1 im.Wait,af.box z.2.2.2.2.1 [.pointer (some ⟨z.2.2.2.2.2.2.2.2.2.1,0,none⟩),z.2.2.2.2.2.1,z.2.2.2.2.2.2.1,z.2.2.2.2.2.2.2.1,z.2.2.2.2.2.2.2.2.1,iV gj.R.ae,iV gj.R.ah] 78,af.box z.2.2.2.2.2.2.2.2.2.1 [.pointer (some ⟨z.1,0,none⟩),iV iQ.Epoch,iV iQ.Side,iV iQ.Size,iV iQ.First,.pointer (some ⟨z.2.2.2.2.2.2.2.2.2.2.2,0,none⟩),z.2.2.2.2.2.2.2.2.2.2.1] 133,af.box z.2.2.2.2.2.2.2.2.2.2.2 [.pointer (some ⟨z.1,0,none⟩),iV lS.From,iV lS.Many,iV lS.First,iV lS.Next] 198]) (fun z=>[af.ls z.2.2.2.2.2.1 gj.R.aj,af.ls z.2.2.2.2.2.2.1 gj.R.Things,af.ls z.2.2.2.2.2.2.2.1 gj.R.Held,af.ls z.2.2.2.2.2.2.2.2.1 gj.R.Notes,af.ls z.2.2.2.2.2.2.2.2.2.2.1 iQ.Rows]):=by
 obtain ⟨w1,w2,w3,w4,w5,u0,w6⟩:=Cb;have w7:=w6.anew (by omega);have w8:=w6.pre (by omega)
 have x1:(rx (dNew (Int.toNat 170))).2.2=0:=w1;have x2:(rx (dNew (Int.toNat 170))).2.1.Down=false:=w7.1;have x3:ku (rx (dNew (Int.toNat 170))).2.1=0:=w7.2.1;have x4:fO (rx (dNew (Int.toNat 170))).2.1.Now.length 90000 (rx (dNew (Int.toNat 170))).2.1/\(rx (dNew (Int.toNat 170))).2.1.Now.length<=200:=w7.2.2.1;have x5:(cb (bq (rx (dNew (Int.toNat 170))).2.1).c.Rows).2=0:=w7.2.2.2.1;have x6:(bq (rx (dNew (Int.toNat 170))).2.1).c.Rows.length<=60 /\ ∀c∈(bq (rx (dNew (Int.toNat 170))).2.1).c.Rows,c.Key.size<=1000/\c.Val.size<=1000:=w7.2.2.2.2.1
 refine R.bF [] Tryz.func10 O O O O H<|R.reg O<|R.u 3 O<|R.nil<|R.reg O<|R.s O (s.aW [0] [] _ _ _ O O O RN O O (fun w own hw H=>JI 170 w own H (by omega)) O) ?_
 rintro ⟨z1,z2,z3,z4⟩
 dsimp only
 refine R.u 5 O<|R.nil<|R.reg O<|R.u 1 O<|R.q (q.vU O O Tryz.underlying38) O<|R.u 2 O<|R.qg O (q.OV O O Tryz.underlying25) O<|R.u 3 O<|R.s O (s.aW ig [0] _ _ _ O O O RO O O (fun w own hw H=>En z1 z2 z3 z4 (dNew (Int.toNat 170)) w own H (by rfl)) O) ?_
 rintro ⟨z5,z6,z7⟩
 dsimp only
 refine R.qg O (q.dC O O Tryz.underlying38) O<|R.u 1 O<|R.nil<|R.aB O O<|R.reg O<|R.u 1 O<|R.s O (s.aW ig [0] _ _ _ O O O Jd O O (fun w own hw H=>ux z1 z5 z6 z7 (rx (dNew (Int.toNat 170))).2.1 w own H ‹_› ‹_› ‹_› ‹_› ‹_›) O) ?_
 rintro ⟨z8,z9,lF,mb,z12,qc,yH,HI,Ch,z17,yO⟩
 dsimp only
 refine R.u 5 O<|R.nil<|R.reg O<|R.u 3 O<|R.q (q.Cm O O Tryz.underlying38) O<|R.u 2 O<|R.qg O (q.RA O O Tryz.underlying26) O<|R.u 4 O<|R.nil ?_
 have hz:(im,gj,iQ,lS)=(((rx (dNew (Int.toNat 170))).2.1),(⟨(cb (bq (rx (dNew (Int.toNat 170))).2.1).c.Rows).1⟩:j9),(bq (rx (dNew (Int.toNat 170))).2.1).c,(bq (rx (dNew (Int.toNat 170))).2.1).L):=by (rfl)
 have hz0:im=(rx (dNew (Int.toNat 170))).2.1:=congrArg (fun t_=>t_.1) hz
 rw [hz0]
 have hz1:gj=(⟨(cb (bq (rx (dNew (Int.toNat 170))).2.1).c.Rows).1⟩:j9):=congrArg (fun t_=>t_.2.1) hz
 rw [hz1]
 have hz2:iQ=(bq (rx (dNew (Int.toNat 170))).2.1).c:=congrArg (fun t_=>t_.2.2.1) hz
 rw [hz2]
 have hz3:lS=(bq (rx (dNew (Int.toNat 170))).2.1).L:=congrArg (fun t_=>t_.2.2.2) hz
 rw [hz3]
 exact R.w3 (z1,z8,z9,lF,mb,z12,qc,yH,HI,Ch,z17,yO) ft ig O Tryz.results10 (RV.tmp O) (RV.tmp O) (RV.tmp O) O O O (Ev O O O)
set_option maxHeartbeats 1600000 in
theorem FG (bJ:Value)(l:List ej)(w:World)(own:List Nat)(H:HN w own [] [af.ls bJ l,af.acts l,dc])(hla:lK l 60=true):RC Tryz.prog 22 #[bJ] H (fun z:Nat×Value×Value×Value×Nat×Value×Value×Value×Value×Nat×Value×Nat => .tuple #[.pointer (some ⟨z.1,0,none⟩),.pointer (some ⟨z.2.2.2.2.1,0,none⟩),.bool true]) (fun z=>[af.box z.1 [z.2.1,z.2.2.1,z.2.2.2.1,iV (dI l).2.2.1.Fuse,.bool (dI l).2.2.1.Down] 112,af.row 9 z.2.1 (dI l).2.2.1.Kept,af.row 9 z.2.2.1 (dI l).2.2.1.Now,af.row 114 z.2.2.2.1 (dI l).2.2.1.Wait,af.box z.2.2.2.2.1 [.pointer (some ⟨z.2.2.2.2.2.2.2.2.2.1,0,none⟩),z.2.2.2.2.2.1,z.2.2.2.2.2.2.1,z.2.2.2.2.2.2.2.1,z.2.2.2.2.2.2.2.2.1,iV (dI l).1.R.ae,iV (dI l).1.R.ah] 78,af.box z.2.2.2.2.2.2.2.2.2.1 [.pointer (some ⟨z.1,0,none⟩),iV (dI l).2.1.Epoch,iV (dI l).2.1.Side,iV (dI l).2.1.Size,iV (dI l).2.1.First,.pointer (some ⟨z.2.2.2.2.2.2.2.2.2.2.2,0,none⟩),z.2.2.2.2.2.2.2.2.2.2.1] 133,af.box z.2.2.2.2.2.2.2.2.2.2.2 [.pointer (some ⟨z.1,0,none⟩),iV (dI l).2.2.2.From,iV (dI l).2.2.2.Many,iV (dI l).2.2.2.First,iV (dI l).2.2.2.Next] 198]) (fun z=>[af.ls z.2.2.2.2.2.1 (dI l).1.R.aj,af.ls z.2.2.2.2.2.2.1 (dI l).1.R.Things,af.ls z.2.2.2.2.2.2.2.1 (dI l).1.R.Held,af.ls z.2.2.2.2.2.2.2.2.1 (dI l).1.R.Notes,af.ls z.2.2.2.2.2.2.2.2.2.2.1 (dI l).2.1.Rows]):=by
 have yD:=H.cx 0 rfl
 have hll:=wZ hla
 refine R.bF [(0,bJ)] Tryz.func22 O O O O H<|R.reg O<|R.u 3 O<|R.nil<|R.reg O<|R.u 1 O<|R.c (q.call Md O O (fun w hw=>(cv (congrArg Value.bool hla) (oU _ l 60 w (hw.bT 0 O) (hw.acts 1 O) )))) O<|R.u 1 O<|R.nil<|R.aB O O<|R.reg O<|R.s O (s.aW [0] [2] _ _ _ O O O NP O O (fun w own hw H=>Eo w own H ) O) ?_
 rintro ⟨z1,z2,z3,z4,z5,z6,z7,z8,z9,lF,mb,z12⟩
 dsimp only
 refine R.u 7 O<|R.nil<|R.reg O<|R.u 2 O<|R.nil<|R.aB O O<|R.reg O<|R.u 1 O<|R.nil<|R.loop (fun g_:Nat×cD×Value×Value×Value×j9×Value×Value×Value×Value×j8×Value×Lg×Nat=>[(0,bJ),(5,.pointer (some ⟨z1,0,none⟩)),(6,.pointer (some ⟨z5,0,none⟩)),(8,iV (g_.1:Int))]) (fun g_=>[af.box z1 [g_.2.2.1,g_.2.2.2.1,g_.2.2.2.2.1,iV g_.2.1.Fuse,.bool g_.2.1.Down] 112,af.row 9 g_.2.2.1 g_.2.1.Kept,af.row 9 g_.2.2.2.1 g_.2.1.Now,af.row 114 g_.2.2.2.2.1 g_.2.1.Wait,af.box z5 [.pointer (some ⟨lF,0,none⟩),g_.2.2.2.2.2.2.1,g_.2.2.2.2.2.2.2.1,g_.2.2.2.2.2.2.2.2.1,g_.2.2.2.2.2.2.2.2.2.1,iV g_.2.2.2.2.2.1.R.ae,iV g_.2.2.2.2.2.1.R.ah] 78,af.box lF [.pointer (some ⟨z1,0,none⟩),iV g_.2.2.2.2.2.2.2.2.2.2.1.Epoch,iV g_.2.2.2.2.2.2.2.2.2.2.1.Side,iV g_.2.2.2.2.2.2.2.2.2.2.1.Size,iV g_.2.2.2.2.2.2.2.2.2.2.1.First,.pointer (some ⟨g_.2.2.2.2.2.2.2.2.2.2.2.2.2,0,none⟩),g_.2.2.2.2.2.2.2.2.2.2.2.1] 133,af.box g_.2.2.2.2.2.2.2.2.2.2.2.2.2 [.pointer (some ⟨z1,0,none⟩),iV g_.2.2.2.2.2.2.2.2.2.2.2.2.1.From,iV g_.2.2.2.2.2.2.2.2.2.2.2.2.1.Many,iV g_.2.2.2.2.2.2.2.2.2.2.2.2.1.First,iV g_.2.2.2.2.2.2.2.2.2.2.2.2.1.Next] 198,af.held w own]) (fun g_=>[af.ls g_.2.2.2.2.2.2.1 g_.2.2.2.2.2.1.R.aj,af.ls g_.2.2.2.2.2.2.2.1 g_.2.2.2.2.2.1.R.Things,af.ls g_.2.2.2.2.2.2.2.2.1 g_.2.2.2.2.2.1.R.Held,af.ls g_.2.2.2.2.2.2.2.2.2.1 g_.2.2.2.2.2.1.R.Notes,af.ls g_.2.2.2.2.2.2.2.2.2.2.2.1 g_.2.2.2.2.2.2.2.2.2.2.1.Rows,af.ls z6 gj.R.aj,af.ls z7 gj.R.Things,af.ls z8 gj.R.Held,af.ls z9 gj.R.Notes,af.ls mb iQ.Rows,af.ls bJ l,af.acts l,dc]) (fun g_=>g_.1<=l.length/\dI (l.take g_.1)=(g_.2.2.2.2.2.1,g_.2.2.2.2.2.2.2.2.2.2.1,g_.2.1,g_.2.2.2.2.2.2.2.2.2.2.2.2.1)) (fun g_=>l.length-g_.1) (0,im,z2,z3,z4,gj,z6,z7,z8,z9,iQ,mb,lS,z12) O (by (try dsimp only);exact ⟨by omega,rfl⟩) (sF O) (fun _=>Wd.pick ft [0,1,2,3,4,0,1,2,3,4,5,6,7] O O O) ?_
 rintro ⟨i,em,Cc,FH,Cd,kc,QQ,QR,QS,QT,sc,Ce,lg,bl⟩ ⟨hi,HP⟩
 dsimp only at *
 have hp:=GY (l.take i) (by rw [List.length_take];omega);rw [HP] at hp;obtain ⟨⟨u1,hp1⟩,hp2,hp3⟩:=hp;dsimp only at hp1 hp2 hp3;rw [List.length_take] at hp1 hp3;have hI:=hp1.inv;have hk:=hp3.ok (by omega);have g1:=hp1.pre (by omega);obtain ⟨g2,g3,g4,g5⟩:=g1
 refine R.reg O<|R.u 2 O<|R.q (q.len' (dr 10 O) O Tryz.underlying22) O<|?_
 by_cases h1:i<l.length
 .
  refine R.q (q.dy O O) O<|R.nil<|R.ay O O<|R.reg O<|R.u 2 O<|?_
  obtain ⟨x1,hx1⟩:∃z,l[i]? = some z:=⟨_,List.getElem?_eq_getElem (by omega)⟩
  have Wb:=OI hp3 x1 (by omega)
  refine R.q (q.idx (i:=i) (dr 10 O) O O AB O hx1) O<|R.q (q.nF (j':=0) (dr 10 O) hx1 O zi O) O<|R.q (q.lr (dr 10 O) hx1 O bK O) O<|?_
  by_cases h2:x1.Kind=⟨#[115,97,118,101]⟩
  .
   refine R.q (q.pH O O h2) O<|R.nil<|R.ay O O<|R.reg O<|R.u 1 O<|R.s O (s.aW [4,5,0,1,2,3,6,7] ig _ _ _ O O O RH O O (fun w own hw H=>IP z5 QQ QR QS QT kc lF Ce sc z1 Cc FH Cd em bl lg w own H ‹_› ‹_› (by omega) ‹_›) O) ?_
   rintro ⟨qc,yH,HI,Ch,z17,yO,BA,z20,z21⟩
   dsimp only
   refine R.nil<|R.reg O<|R.u 1 O<|R.q (q.bA (r:=((i+1:Nat):Int)) O O) O<|R.u 1 O<|R.nil<|R.back (i+1,(cB (mkS sc lg) em).2.1,yO,BA,z20,kc,qc,yH,HI,Ch,(cB (mkS sc lg) em).1.c,z17,(cB (mkS sc lg) em).1.L,z21) O (by ((try dsimp only);exact ⟨by omega,by rw [Aq hx1,HP];exact El ‹_›⟩)) (by dsimp only;omega) (sF O) (aC [2,3,4,5,0,1,6,7] [0,1,2,3,4,10,11,12,13,14,15,16,17] O O O)
  refine R.q (q.pI O O h2) O<|R.nil<|R.aB O O<|R.reg O<|R.u 3 O<|R.q (q.idx (i:=i) (dr 10 O) O O AB O hx1) O<|R.q (q.eV (ds:=Ay x1) (dr 10 O) hx1 O FY O) O<|R.s O (s.aW [4,5,0,1,2,3,6,7] [0,1,2,3,4,12] _ _ _ O O O NQ O O (fun w own hw H=>yA z5 QQ QR QS QT kc x1 lF Ce sc z1 Cc FH Cd em bl lg w own H ‹_› ‹_› (by omega) ‹_› ‹_› ‹_› ‹_›) O) ?_
  rintro ⟨z22,z23,z24,z25,z26,z27,z28,z29,z30⟩
  dsimp only
  refine R.nil<|R.reg O<|R.u 1 O<|R.q (q.bA (r:=((i+1:Nat):Int)) O O) O<|R.u 1 O<|R.nil<|R.back (i+1,(fS kc sc em lg (cR kc.R x1)).2.2.1,z27,z28,z29,(fS kc sc em lg (cR kc.R x1)).1,z22,z23,z24,z25,(fS kc sc em lg (cR kc.R x1)).2.1,z26,(fS kc sc em lg (cR kc.R x1)).2.2.2.1,z30) O (by ((try dsimp only);exact ⟨by omega,by rw [Aq hx1,HP];exact IL ‹_›⟩)) (by dsimp only;omega) (sF O) (aC [2,3,4,5,0,1,6,7] [0,1,2,3,4,10,11,12,13,14,15,16,17] O O O)
 refine R.q (q.cW O O) O<|R.nil<|R.aB O O<|R.reg O<|R.u 5 O<|R.nil ?_
 have hz:((dI l).2.2.1,(dI l).1,(dI l).2.1,(dI l).2.2.2)=(em,kc,sc,lg):=by (rw [show l=l.take i from (List.take_of_length_le (by omega)).symm,HP])
 have hz0:(dI l).2.2.1=em:=congrArg (fun t_=>t_.1) hz
 rw [hz0]
 have hz1:(dI l).1=kc:=congrArg (fun t_=>t_.2.1) hz
 rw [hz1]
 have hz2:(dI l).2.1=sc:=congrArg (fun t_=>t_.2.2.1) hz
 rw [hz2]
 have hz3:(dI l).2.2.2=lg:=congrArg (fun t_=>t_.2.2.2) hz
 rw [hz3]
 exact R.w3 (z1,Cc,FH,Cd,z5,QQ,QR,QS,QT,lF,Ce,bl) ft ig O Tryz.results22 (RV.tmp O) (RV.tmp O) (RV.tmp O) O O O (Ev O O O)
theorem IQ (bJ:Value)(l:List ej)(w:World)(own:List Nat)(H:HN w own [] [af.ls bJ l,af.acts l])(hla:lK l 60=false):RC Tryz.prog 22 #[bJ] H (fun _:Unit => .tuple #[.pointer none,.pointer none,.bool false]) (fun _=>[]) (fun _=>[]):=by
 have yD:=H.cx 0 rfl
 exact R.bF [(0,bJ)] Tryz.func22 rfl rfl rfl rfl H<|R.reg rfl<|R.u 3 rfl<|R.nil<|R.reg rfl<|R.u 1 rfl<|R.c (q.call Md rfl rfl (fun w hw=>(cv (congrArg Value.bool hla) (oU _ l 60 w (hw.bT 0 rfl) (hw.acts 1 rfl) )))) rfl<|R.u 1 rfl<|R.nil<|R.ay rfl rfl<|R.reg rfl<|R.u 3 rfl<|R.nil<|R.w3 () [0] [] rfl Tryz.results22 (RV.tmp rfl) (RV.tmp rfl) (RV.tmp rfl) rfl rfl rfl (Ev rfl rfl rfl)
theorem FJ {d:cD}{sc:j8}{lg:Lg}{u:Nat}{k:j9}{a:ej}(h:KI d sc lg nR u 1)(hf:d.Fuse = -1)(e:k.R=nR)(h1:a.Kind=(⟨#[109,97,107,101]⟩:ByteArray))(h2:a.P=⟨1,0⟩)(h3:a.A=1) :
 (fS k sc d lg (cR k.R a)).2.2.2.2=0 /\ ∃z u1,KI (fS k sc d lg (cR k.R a)).2.2.1 (fS k sc d lg (cR k.R a)).2.1 (fS k sc d lg (cR k.R a)).2.2.2.1 z u1 2/\(aR z).Things.length=1/\Ok (aR z):=by
 have hd:cR nR a=(⟨[⟨1,1,7,0,0⟩],[⟨1,1,⟨#[]⟩⟩],[⟨⟨1,0⟩,1⟩],[],2,2⟩,0):=by unfold cR;rw [if_pos h1,h2,h3];exact Qp
 have h0:(cR nR a).2=0:=by rw [hd]
 obtain ⟨_,b⟩:=h.do (z:=cR nR a) (by omega) (vK h.inv a)
 have ek:k=⟨nR⟩:=by rw [<- e]
 rw [e,ek]
 have hs:Sz 1 (cR nR a).1:=KU Sz.new a
 rcases b h0 with ⟨c1,c2,c3,u2,c4⟩ | ⟨_,_,c3,_⟩
 .
  refine ⟨c1,_,u2,c4,?_,(DG hs).ok (by omega)⟩
  rw [yr c4.inv (by rw [hd])]
  rw [hd];rfl
 .exact absurd hf c3
theorem IU (w:World)(ht:DN w):Calls Tryz.prog 21 #[] w fun e w'=>e = .returned (.bool true)/\Ext w w':=by
 obtain ⟨w1,w2,w3,w4,w5,u0,w6⟩:=Cb;have w7:=w6.anew (by omega);have w8:=w6.pre (by omega)
 have wi:Inv gj.R:=w5.symm▸l7;have wo:Ok gj.R:=w5.symm▸LQ;obtain ⟨wa,wb,wc,wd⟩:=w8;have wz:(cR gj.R (⟨⟨#[109,97,107,101]⟩,⟨#[]⟩,⟨1,0⟩,⟨0,0⟩,1,0,0,0,none,0,0,[]⟩:ej)).2=0->Ok (cR gj.R (⟨⟨#[109,97,107,101]⟩,⟨#[]⟩,⟨1,0⟩,⟨0,0⟩,1,0,0,0,none,0,0,[]⟩:ej)).1:=OI (k:=0) (w5.symm▸Sz.new) _ (by omega)
 obtain ⟨v1,z1,u1,v2,v3,v13⟩:=FJ w6 w2 w5 (a:=(⟨⟨#[109,97,107,101]⟩,⟨#[]⟩,⟨1,0⟩,⟨0,0⟩,1,0,0,0,none,0,0,[]⟩:ej)) rfl rfl rfl;have v4:=v2.anew (by omega);obtain ⟨v5,v6,v7,v8,v9,v10,v11⟩:=v4;have v12:(cb (bq (fS gj iQ im lS (cR gj.R (⟨⟨#[109,97,107,101]⟩,⟨#[]⟩,⟨1,0⟩,⟨0,0⟩,1,0,0,0,none,0,0,[]⟩:ej))).2.2.1).c.Rows).1.Things.length=1:=(by rw [v10];exact v3);have v14:Ok (cb (bq (fS gj iQ im lS (cR gj.R (⟨⟨#[109,97,107,101]⟩,⟨#[]⟩,⟨1,0⟩,⟨0,0⟩,1,0,0,0,none,0,0,[]⟩:ej))).2.2.1).c.Rows).1:=(by rw [v10];exact v13)
 refine R.enter [] [] Tryz.func21 O O O O<|R.nH (r:=dc) ht (BR ht)<|R.reg O<|R.u 1 O<|R.nil<|R.reg O<|R.s O (s.aW [] [0] _ _ _ O O O NP O O (fun w own hw H=>Eo w own H ) O) ?_
 rintro ⟨z1,z2,z3,z4,z5,z6,z7,z8,z9,lF,mb,z12⟩
 dsimp only
 refine R.u 7 O<|R.nil<|R.reg O<|R.u 4 O<|R.qg O (q.build wn O O) O<|R.qg O (q.build RE O O) O<|R.s O (s.aW [4,5,0,1,2,3,6] rO _ _ _ O O O NQ O O (fun w own hw H=>yA z5 z6 z7 z8 z9 gj (⟨⟨#[109,97,107,101]⟩,⟨#[]⟩,⟨1,0⟩,⟨0,0⟩,1,0,0,0,none,0,0,[]⟩:ej) lF mb iQ z1 z2 z3 z4 im z12 lS w own H ‹_› ‹_› (by omega) ‹_› ‹_› ‹_› ‹_›) O) ?_
 rintro ⟨qc,yH,HI,Ch,z17,yO,BA,z20,z21⟩
 dsimp only
 refine R.qg O (q.dC O O Tryz.underlying38) O<|R.u 1 O<|R.nil<|R.aB O O<|R.reg O<|R.u 1 O<|R.s O (s.aW [2,3,4,5,0,1,6] [10] _ _ _ O O O Jd O O (fun w own hw H=>ux z1 yO BA z20 (fS gj iQ im lS (cR gj.R (⟨⟨#[109,97,107,101]⟩,⟨#[]⟩,⟨1,0⟩,⟨0,0⟩,1,0,0,0,none,0,0,[]⟩:ej))).2.2.1 w own H ‹_› ‹_› ‹_› ‹_› ‹_›) O) ?_
 rintro ⟨z22,z23,z24,z25,z26,z27,z28,z29,z30,z31,z32⟩
 dsimp only
 refine R.u 5 O<|R.nil<|R.reg O<|R.u 1 O<|R.q (q.Cm O O Tryz.underlying38) O<|R.u 2 O<|R.qg O (q.RA O O Tryz.underlying26) O<|R.u 3 O<|R.s O (s.aW [4,0,1,2,3,5,6,7,8,9] bS _ _ _ O O O Je O O (fun w own hw H=>sE z25 z26 z27 z28 z29 z30 (⟨(cb (bq (fS gj iQ im lS (cR gj.R (⟨⟨#[109,97,107,101]⟩,⟨#[]⟩,⟨1,0⟩,⟨0,0⟩,1,0,0,0,none,0,0,[]⟩:ej))).2.2.1).c.Rows).1⟩:j9) w own H ‹_›) O) ?_
 rintro ⟨z33,z34,z35,z36,z37,z38,z39,z40⟩
 dsimp only
 exact R.qg O (q.field O I9 O) O<|R.qg O (q.len' (dr 5 O) O Tryz.underlying44) O<|R.qg O (q.fQ O O) O<|R.u 2 O<|R.nil<|R.rv O Tryz.results21 O (rB (by rfl))
end
section
open Go Go.RowKit
set_option maxRecDepth 100000
set_option maxHeartbeats 1000000
attribute [local irreducible] bI cB bq ku dK dNew cR fS dI cb
theorem Ep (bJ:Value)(l:List ej)(w:World)(ey:Sl w bJ l)(Hm:∀x∈l,Sl w x.cv x.Changes)(ht:DN w):Calls Tryz.prog 4 #[bJ] w fun e w'=>e = .returned (.bool true)/\Ext w w':=by
 have zw:=ey.fC
 refine R.enter [] [(0,bJ)] Tryz.func4 O O O O<|R.nH (r:=dc) ht (BR ht)<|R.pN ey<|R.nH (r:=af.acts l) Hm (FW Hm)<|R.reg O<|R.u 1 O<|R.nil<|R.reg O<|R.c (q.call RJ O O (fun w hw=>(IU w (by exact hw.okF dc (by repeat (first|exact List.Mem.head _|refine List.Mem.tail _ ?_)))))) O<|R.u 1 O<|R.nil ?_
 refine R.reg O<|R.u 2 O<|R.nil<|R.aB O O<|R.reg O<|R.u 1 O<|?_
 by_cases h1:lK l 60=true
 .
  refine R.s O (s.aW [] [1,0,2] _ _ _ O O O NR O O (fun w own hw H=>FG bJ l w own H ‹_›) O) ?_
  rintro ⟨z1,z2,z3,z4,z5,z6,z7,z8,z9,lF,mb,z12⟩
  dsimp only
  refine R.u 7 O<|R.nil<|R.reg O<|R.u 2 O<|R.nil<|R.aB O O ?_
  have hla:lK l 60=true:=by assumption
  have hll:=wZ hla;obtain ⟨⟨u1,p1⟩,p2,p3⟩:=GY l (by omega);have hI:=p1.inv;have hk:=p3.ok (by omega);have k4:=p1.anew (by omega);obtain ⟨v5,v6,v7,v8,v9,v10,v11⟩:=k4;have v12:Ok (cb (bq (dI l).2.2.1).c.Rows).1:=(by rw [v10];exact (DG p3).ok (by omega));have e1:decide ((cb (bq (dI l).2.2.1).c.Rows).1=aR (dI l).1.R)=true:=decide_eq_true v10
  refine R.reg O<|R.u 1 O<|R.s O (s.aW ml [7] _ _ _ O O O Jd O O (fun w own hw H=>ux z1 z2 z3 z4 (dI l).2.2.1 w own H ‹_› ‹_› ‹_› ‹_› ‹_›) O) ?_
  rintro ⟨qc,yH,HI,Ch,z17,yO,BA,z20,z21,z22,z23⟩
  dsimp only
  refine R.u 5 O<|R.nil<|R.reg O<|R.u 1 O<|R.q (q.Cm O O Tryz.underlying38) O<|R.u 2 O<|R.s O (s.aW [4,0,1,2,3,5,6,7,8,9] bS _ _ _ O O O Je O O (fun w own hw H=>sE Ch z17 yO BA z20 z21 (⟨(cb (bq (dI l).2.2.1).c.Rows).1⟩:j9) w own H ‹_›) O) ?_
  rintro ⟨z24,z25,z26,z27,z28,z29,z30,z31⟩
  dsimp only
  refine R.u 1 O<|R.s O (s.aW [7,0,1,2,3,4,5,6,8,9] [13,14,15,16] _ _ _ O O O Je O O (fun w own hw H=>sE z5 z6 z7 z8 z9 lF (dI l).1 w own H ‹_›) O) ?_
  rintro ⟨z32,z33,z34,z35,z36,z37,z38,z39⟩
  dsimp only
  refine R.s O (s.aW NF [4,5,6,7] _ _ _ O O O NS O O (fun w own hw H=>ym z36 z37 z38 z39 (dI l).1.R w own H ‹_›) O) ?_
  rintro ⟨z40,z41,z42,z43⟩
  dsimp only
  have h2:(decide (((cb (bq (dI l).2.2.1).c.Rows).1)=(aR (dI l).1.R)))=true:=by have Wc:(decide (((cb (bq (dI l).2.2.1).c.Rows).1)=(aR (dI l).1.R)))=true:=(by exact e1);simp only [Wc];done
  exact R.cg O (q.call RI O O (fun w hw=>(cv (congrArg Value.bool h2) (yX _ _ _ _ (cb (bq (dI l).2.2.1).c.Rows).1 _ _ _ _ (aR (dI l).1.R) w (hw.bT 16 O) (hw.bT 17 O) (hw.bT 18 O) (hw.bT 19 O) (hw.bT 0 O) (hw.bT 1 O) (hw.bT 2 O) (hw.bT 3 O) )))) O<|R.u 2 O<|R.nil<|R.rv O Tryz.results4 O (rB (by rfl))
 refine R.s O (s.aW [] [1,0] _ _ _ O O O NR O O (fun w own hw H=>IQ bJ l w own H (by exact Bool.eq_false_iff.2 ‹_›)) O) fun _=>R.u 7 O<|R.nil<|R.reg O<|R.u 2 O<|R.nil<|R.ay O O<|R.reg O<|R.u 1 O<|?_
 rcases Bool.eq_false_or_eq_true (lK l 60) with h3|h3
 .
  exact R.c (q.call Md O O (fun w hw=>(cv (congrArg Value.bool h3) (oU _ l 60 w (hw.bT 1 O) (hw.acts 0 O) )))) O<|R.u 2 O<|R.nil<|R.rv O Tryz.results4 O (rB (by simp_all))
 exact R.c (q.call Md O O (fun w hw=>(cv (congrArg Value.bool h3) (oU _ l 60 w (hw.bT 1 O) (hw.acts 0 O) )))) O<|R.u 2 O<|R.nil<|R.rv O Tryz.results4 O (rB (by rfl))
end
section
open Go Go.RowKit
set_option maxRecDepth 100000
theorem Tw:(Tryz.prog.globals[1]?).map (·.type)=some 294:=by kernel_rfl
theorem Tx:(Tryz.prog.globals[2]?).map (·.type)=some 38:=by kernel_rfl
theorem NC:Tryz.prog.cellsOf 294=20:=by kernel_rfl
theorem QU:∀t,Tryz.prog.underlying 294=some (.array 20 t)->Tryz.prog.cellsOf t=1:=fun t h=>by
 rw [Tryz.underlying294] at h;injection h with h;injection h with _ h;subst h;kernel_rfl
theorem OL : "*" ++ "errors.errorString" = "*errors.errorString" :=by decide
theorem QV:∀u,Tryz.prog.typeName? 3 u=some "*errors.errorString" → u=308:=fun u h =>
 typeName_ptr_named (nm:= "errors.errorString") (by rw [OL];kernel_rfl) (by kernel_rfl) (by decide) u (by rw [OL];exact h)
theorem ND {W:World}(h:laidMetH Tryz.prog [("math/bits.deBruijn32tab",Rows.laid_math_bits_deBruijn32tab),("math/bits.deBruijn64tab",Rows.laid_math_bits_deBruijn64tab),("internal/strconv.uint64pow10",Rows.laid_internal_strconv_uint64pow10),("strconv.ErrRange",Rows.laid_strconv_ErrRange),("strconv.ErrSyntax",Rows.laid_strconv_ErrSyntax)] W):DN W:=by
 rw [MakeChecks.laidMetH_plain _ _ _ (by kernel_rfl)] at h
 have h3:=h.tail.tail
 have h5:=h3.tail.tail
 refine ⟨Lib.tabIs_of_head Qy Tw Tryz.underlying294 Tryz.underlying33 (QU _ Tryz.underlying294) NC (rest:=[("strconv.ErrRange",Rows.laid_strconv_ErrRange),("strconv.ErrSyntax",Rows.laid_strconv_ErrSyntax)]) h3,?_⟩
 obtain ⟨a,s,h6,_⟩:=laid_sentinel (text:=[105,110,118,97,108,105,100,32,115,121,110,116,97,120]) h5 Qz Tx Tryz.underlying38 QV Tryz.underlying308 Tryz.underlying310 rfl rfl Tryz.underlying9 (by kernel_rfl) (by kernel_rfl)
 exact ⟨_,_,h6⟩
end
end Go.Proofs.YtkbhcbipadkcaaaGreatDoor
section
namespace Go.Proofs.YtkbhcbipadkcaaaGreatDoor.TopOpen
open Go.ChangeShapes Go.WideShapes Go.ChangeAt Go.RowKit
set_option linter.unusedVariables false
set_option linter.unusedSimpArgs false
theorem own:ownKnob Tryz.prog.godebug=none:=by kernel_rfl
theorem laidOut:laidOutB Tryz.prog=true:=by kernel_rfl
theorem back:∀t∈Tryz.f4.params.toList,Tryz.prog.readableRec t=true/\t<Tryz.prog.types.size:=by
 rw [Tryz.params4];intro t ht;simp at ht
 (repeat' rcases ht with rfl|ht) <;> first|exact ⟨by kernel_rfl,of_decide_eq_true (by kernel_rfl)⟩ | (subst ht;exact ⟨by kernel_rfl,of_decide_eq_true (by kernel_rfl)⟩)
theorem LS (os:Os)(args:Array Value):laidMetH Tryz.prog Rows.topOpenRow.laid ((World.doorLaid Tryz.prog 400 os).forCall (fun _ _=>0) ⟨#[],args,[]⟩).memory :=
 laidMetH_of_parts3 (fuel:=8) (laidMet_of_run' 8 (by kernel_rfl) (by kernel_rfl)) (by kernel_rfl) (by kernel_rfl)
set_option maxRecDepth 100000 in
theorem lifted (os:Os)(started:os.Started)(H:Type)(enc:TypeId×Value->H) :
 ReturnsInHanded {} Tryz.checked os 4 .any (fun w args=>(Rows.topOpenSpec.pre enc Tryz.prog Tryz.f4 [] false w args/\laidMetH Tryz.prog Rows.topOpenRow.laid w)/\sizedMet enc Tryz.prog Tryz.f4 (OpenSpec.ofChange Rows.topOpenSpec) false w args)
  (Rows.topOpenSpec.post enc Tryz.prog Tryz.f4 false true false false):=by
 refine returnsInHanded_of_change_and (C:=Tryz.checked) (X:=fun w _=>laidMetH Tryz.prog Rows.topOpenRow.laid w) (fun _ _ _ hh h=>h.of_heap hh) own started (by kernel_rfl) Tryz.func4
  (ChangeSpec.witness_shaped (enc:=enc) (C:=Tryz.checked) (os:=os) (X:=fun w _=>laidMetH Tryz.prog Rows.topOpenRow.laid w) false (World.doorLaid Tryz.prog 400 os) #[.slice none 0 0] 8 rfl (World.shaped_of_RefB (by kernel_rfl) (by kernel_rfl)) (by kernel_rfl) (by kernel_rfl) (by kernel_rfl) (LS os _)) ?_
 intro W base args ds gs before hval0 hW _ _ hL _
 have hval:∀ (j:Nat) t v,Tryz.f4.params[j]? = some t->args[j]? = some v->Value.okWide Tryz.prog W .any base t v:=hval0
 have hW':=hW
 obtain ⟨p,q,U8,hV,rfl,hfz,hnd⟩:=hW
 have hA:DataW.TrodAll enc Tryz.prog W 0 (fun _=>true) true Tryz.f4.params.toList args.toList ds p:=U8
 have hA2:=hA
 have hback:=back
 rw [Tryz.params4] at hA hval hA2 hback
 obtain ⟨v0,WC,d0,ds0,p0,q0,hargs,rfl,rfl,h0,r0⟩:=trodAll_cons hA
 obtain ⟨rfl,rfl,rfl⟩:=trodAll_nil r0
 obtain rfl:args = #[v0]:=by cases args;simp_all
 obtain ⟨rfl,rfl⟩:=trodVars_none hV
 obtain ⟨x0,s0,c0,f0⟩:=I5 (hval 0 _ v0 rfl rfl) h0
 clear U8 hval0
 refine (Ep _ x0 W s0 c0 (ND hL)).mono fun e W' ⟨he,U9⟩=>?_
 subst he
 exact ⟨_,rfl,_,_,_,[],_,[],hW',trodAll_mk1 (shut_bool Tryz.underlying4 _),trodAll_back laidOut U9.below hback hA2,rfl,U9.below.frame _,fun h=>by cases h⟩
theorem over:Rows.topOpenRow.holds Tryz.pinned (OpenSpec.ofChange Rows.topOpenSpec) :=
 OpenClaim.holds_of_wide 4 Tryz.f4 rfl rfl rfl rfl rfl rfl rfl ⟨rfl,rfl,rfl,rfl,rfl⟩ rfl rfl rfl rfl rfl (by kernel_rfl) Tryz.func4 (by kernel_rfl)
  (of_decide_eq_true (by kernel_rfl)) (by unfold Func.isWrapper;first|(rw [if_pos (by decide +kernel)];kernel_rfl)|(rw [if_neg (by decide +kernel)];exact ⟨rfl,rfl⟩))
  (fun os started H enc _=>lifted os started H enc)
theorem proved:Rows.TopOpenCardSaid :=
 Claim7.holds_tied_plain_at .later [] [.data,.data,.data,.sentinel,.sentinel] true (true,"740941bdca030c52b5d405e0b18da6d55d3bb80363adaeeb70679935f3666678") true
  over (fun _ h=>by cases h) (by kernel_rfl) (fun _ h=>by cases h) topOpen_row_tie rfl ⟨rfl,rfl⟩ (by kernel_rfl) rfl
  (fun f fn hf hfn=>by
   obtain rfl:f=4:=Option.some.inj ((show Tryz.prog.funcNamed "writkeep/writkeeptop.TopOpen" = some 4 by kernel_rfl).symm.trans hf) |>.symm
   obtain rfl:fn=Tryz.f4:=(Option.some.inj (Tryz.func4.symm.trans hfn)).symm
   exact ⟨by kernel_rfl,fun j t ht=>by
    have hall:(Tryz.f4.params.toList.all fun u => !Tryz.prog.wantsStandIn u)=true:=by kernel_rfl
    have hm:t∈Tryz.f4.params.toList:=by simpa using Array.mem_of_getElem? ht
    have hq:=List.all_eq_true.1 hall t hm
    exact (show Tryz.prog.wantsStandIn t=false by simpa using hq)⟩)
  (by kernel_rfl)
end Go.Proofs.YtkbhcbipadkcaaaGreatDoor.TopOpen
end
