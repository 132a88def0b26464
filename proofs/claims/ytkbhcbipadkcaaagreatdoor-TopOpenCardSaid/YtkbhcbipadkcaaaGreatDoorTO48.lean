import Derived.Test.YtkbhcbipadkcaaaGreatDoorTO47
import Derived.Test.YtkbhcbipadkcaaaGreatDoorRows
import Derived.Stop.LaidErr
import Derived.Lib.LaidTab
import Derived.MakeChecks
import Derived.Test.YtkbhcbipadkcaaaGreatDoorTie
import Derived.Test.YtkbhcbipadkcaaaGreatDoorCards
import Derived.LaidMore
import Derived.LaidLaws
import Derived.SevenTiedAt
import Derived.Stop.Joined
/-
  who opens the disk anew has the same, but for what waited. No condition: the library's table and its error are tied to the program's text.
-/
namespace Go.Proofs.YtkbhcbipadkcaaaGreatDoor
set_option linter.unusedVariables false
set_option linter.unusedSimpArgs false
section
open Go Go.RowKit
set_option maxRecDepth 100000
set_option maxHeartbeats 90000000
attribute [local irreducible] bD ct bm ky dK dNew cQ fQ
theorem Ej (w:World)(own:List Nat)(H:HN w own [] [eC]):RC Tryz.prog 10 #[] H (fun z:Nat×Value×Value×Value×Nat×Value×Value×Value×Value×Nat×Value×Nat => .tuple #[.pointer (some ⟨z.1,0,none⟩),.pointer (some ⟨z.2.2.2.2.1,0,none⟩),.bool true]) (fun z=>[ag.box z.1 [z.2.1,z.2.2.1,z.2.2.2.1,iV ij.Fuse,.bool ij.Down] 112,ag.row 9 z.2.1 ij.Kept,ag.row 9 z.2.2.1 ij.Now,ag.row 114 z.2.2.2.1 ij.Wait,ag.box z.2.2.2.2.1 [.pointer (some ⟨z.2.2.2.2.2.2.2.2.2.1,0,none⟩),z.2.2.2.2.2.1,z.2.2.2.2.2.2.1,z.2.2.2.2.2.2.2.1,z.2.2.2.2.2.2.2.2.1,iV gi.R.ae,iV gi.R.ah] 78,ag.box z.2.2.2.2.2.2.2.2.2.1 [.pointer (some ⟨z.1,0,none⟩),iV iR.Epoch,iV iR.Side,iV iR.Size,iV iR.First,.pointer (some ⟨z.2.2.2.2.2.2.2.2.2.2.2,0,none⟩),z.2.2.2.2.2.2.2.2.2.2.1] 133,ag.box z.2.2.2.2.2.2.2.2.2.2.2 [.pointer (some ⟨z.1,0,none⟩),iV lR.From,iV lR.Many,iV lR.First,iV lR.Next] 198]) (fun z=>[ag.ls z.2.2.2.2.2.1 gi.R.ak,ag.ls z.2.2.2.2.2.2.1 gi.R.Things,ag.ls z.2.2.2.2.2.2.2.1 gi.R.Held,ag.ls z.2.2.2.2.2.2.2.2.1 gi.R.Notes,ag.ls z.2.2.2.2.2.2.2.2.2.2.1 iR.Rows]):=by
 obtain ⟨w1,w2,w3,w4,w5,u0,w6⟩:=BZ;have w7:=w6.anew (by omega);have w8:=w6.pre (by omega)
 have x1:(rA (dNew (Int.toNat 170))).2.2=0:=w1;have x2:(rA (dNew (Int.toNat 170))).2.1.Down=false:=w7.1;have x3:ky (rA (dNew (Int.toNat 170))).2.1=0:=w7.2.1;have x4:fL (rA (dNew (Int.toNat 170))).2.1.Now.length 90000 (rA (dNew (Int.toNat 170))).2.1/\(rA (dNew (Int.toNat 170))).2.1.Now.length<=200:=w7.2.2.1;have x5:(bX (bm (rA (dNew (Int.toNat 170))).2.1).c.Rows).2=0:=w7.2.2.2.1;have x6:(bm (rA (dNew (Int.toNat 170))).2.1).c.Rows.length<=60 /\ ∀c∈(bm (rA (dNew (Int.toNat 170))).2.1).c.Rows,c.Key.size<=1000/\c.Val.size<=1000:=w7.2.2.2.2.1
 refine R.bC [] Tryz.func10 O O O O H<|R.reg O<|R.u 3 O<|R.nil<|R.reg O<|R.s O (s.aW [0] [] _ _ _ O O O RL O O (fun w own hw H=>JF 170 w own H (by omega)) O) ?_
 rintro ⟨z1,z2,z3,z4⟩
 dsimp only
 refine R.u 5 O<|R.nil<|R.reg O<|R.u 1 O<|R.q (q.vS O O Tryz.underlying38) O<|R.u 2 O<|R.qg O (q.OT O O Tryz.underlying25) O<|R.u 3 O<|R.s O (s.aW gX [0] _ _ _ O O O RN O O (fun w own hw H=>Ei z1 z2 z3 z4 (dNew (Int.toNat 170)) w own H (by rfl)) O) ?_
 rintro ⟨z5,z6,z7⟩
 dsimp only
 refine R.qg O (q.dB O O Tryz.underlying38) O<|R.u 1 O<|R.nil<|R.aA O O<|R.reg O<|R.u 1 O<|R.s O (s.aW gX [0] _ _ _ O O O I9 O O (fun w own hw H=>uv z1 z5 z6 z7 (rA (dNew (Int.toNat 170))).2.1 w own H ‹_› ‹_› ‹_› ‹_› ‹_›) O) ?_
 rintro ⟨z8,z9,lH,l9,z12,qc,yD,HD,Cb,z17,yK⟩
 dsimp only
 refine R.u 5 O<|R.nil<|R.reg O<|R.u 3 O<|R.q (q.Ci O O Tryz.underlying38) O<|R.u 2 O<|R.qg O (q.Rz O O Tryz.underlying26) O<|R.u 4 O<|R.nil ?_
 have hz:(ij,gi,iR,lR)=(((rA (dNew (Int.toNat 170))).2.1),(⟨(bX (bm (rA (dNew (Int.toNat 170))).2.1).c.Rows).1⟩:kb),(bm (rA (dNew (Int.toNat 170))).2.1).c,(bm (rA (dNew (Int.toNat 170))).2.1).L):=by (rfl)
 have hz0:ij=(rA (dNew (Int.toNat 170))).2.1:=congrArg (fun t_=>t_.1) hz
 rw [hz0]
 have hz1:gi=(⟨(bX (bm (rA (dNew (Int.toNat 170))).2.1).c.Rows).1⟩:kb):=congrArg (fun t_=>t_.2.1) hz
 rw [hz1]
 have hz2:iR=(bm (rA (dNew (Int.toNat 170))).2.1).c:=congrArg (fun t_=>t_.2.2.1) hz
 rw [hz2]
 have hz3:lR=(bm (rA (dNew (Int.toNat 170))).2.1).L:=congrArg (fun t_=>t_.2.2.2) hz
 rw [hz3]
 exact R.w3 (z1,z8,z9,lH,l9,z12,qc,yD,HD,Cb,z17,yK) ff gX O Tryz.results10 (RV.tmp O) (RV.tmp O) (RV.tmp O) O O O (Es O O O)
set_option maxHeartbeats 90000000 in
theorem FC (bN:Value)(l:List eh)(w:World)(own:List Nat)(H:HN w own [] [ag.ls bN l,ag.acts l,eC])(hla:lN l 60=true):RC Tryz.prog 22 #[bN] H (fun z:Nat×Value×Value×Value×Nat×Value×Value×Value×Value×Nat×Value×Nat => .tuple #[.pointer (some ⟨z.1,0,none⟩),.pointer (some ⟨z.2.2.2.2.1,0,none⟩),.bool true]) (fun z=>[ag.box z.1 [z.2.1,z.2.2.1,z.2.2.2.1,iV (dI l).2.2.1.Fuse,.bool (dI l).2.2.1.Down] 112,ag.row 9 z.2.1 (dI l).2.2.1.Kept,ag.row 9 z.2.2.1 (dI l).2.2.1.Now,ag.row 114 z.2.2.2.1 (dI l).2.2.1.Wait,ag.box z.2.2.2.2.1 [.pointer (some ⟨z.2.2.2.2.2.2.2.2.2.1,0,none⟩),z.2.2.2.2.2.1,z.2.2.2.2.2.2.1,z.2.2.2.2.2.2.2.1,z.2.2.2.2.2.2.2.2.1,iV (dI l).1.R.ae,iV (dI l).1.R.ah] 78,ag.box z.2.2.2.2.2.2.2.2.2.1 [.pointer (some ⟨z.1,0,none⟩),iV (dI l).2.1.Epoch,iV (dI l).2.1.Side,iV (dI l).2.1.Size,iV (dI l).2.1.First,.pointer (some ⟨z.2.2.2.2.2.2.2.2.2.2.2,0,none⟩),z.2.2.2.2.2.2.2.2.2.2.1] 133,ag.box z.2.2.2.2.2.2.2.2.2.2.2 [.pointer (some ⟨z.1,0,none⟩),iV (dI l).2.2.2.From,iV (dI l).2.2.2.Many,iV (dI l).2.2.2.First,iV (dI l).2.2.2.Next] 198]) (fun z=>[ag.ls z.2.2.2.2.2.1 (dI l).1.R.ak,ag.ls z.2.2.2.2.2.2.1 (dI l).1.R.Things,ag.ls z.2.2.2.2.2.2.2.1 (dI l).1.R.Held,ag.ls z.2.2.2.2.2.2.2.2.1 (dI l).1.R.Notes,ag.ls z.2.2.2.2.2.2.2.2.2.2.1 (dI l).2.1.Rows]):=by
 have yz:=H.cq 0 rfl
 have hll:=wX hla
 refine R.bC [(0,bN)] Tryz.func22 O O O O H<|R.reg O<|R.u 3 O<|R.nil<|R.reg O<|R.u 1 O<|R.c (q.call Mb O O (fun w hw=>(cv (congrArg Value.bool hla) (oW _ l 60 w (hw.bP 0 O) (hw.acts 1 O) )))) O<|R.u 1 O<|R.nil ?_
 refine R.aA O O<|R.reg O<|R.s O (s.aW [0] [2] _ _ _ O O O NM O O (fun w own hw H=>Ej w own H ) O) ?_
 rintro ⟨z1,z2,z3,z4,z5,z6,z7,z8,z9,lH,l9,z12⟩
 dsimp only
 refine R.u 7 O<|R.nil<|R.reg O<|R.u 2 O<|R.nil<|R.aA O O<|R.reg O<|R.u 1 O<|R.nil<|R.loop (fun g_:Nat×cw×Value×Value×Value×kb×Value×Value×Value×Value×ka×Value×Lg×Nat=>[(0,bN),(5,.pointer (some ⟨z1,0,none⟩)),(6,.pointer (some ⟨z5,0,none⟩)),(8,iV (g_.1:Int))]) (fun g_=>[ag.box z1 [g_.2.2.1,g_.2.2.2.1,g_.2.2.2.2.1,iV g_.2.1.Fuse,.bool g_.2.1.Down] 112,ag.row 9 g_.2.2.1 g_.2.1.Kept,ag.row 9 g_.2.2.2.1 g_.2.1.Now,ag.row 114 g_.2.2.2.2.1 g_.2.1.Wait,ag.box z5 [.pointer (some ⟨lH,0,none⟩),g_.2.2.2.2.2.2.1,g_.2.2.2.2.2.2.2.1,g_.2.2.2.2.2.2.2.2.1,g_.2.2.2.2.2.2.2.2.2.1,iV g_.2.2.2.2.2.1.R.ae,iV g_.2.2.2.2.2.1.R.ah] 78,ag.box lH [.pointer (some ⟨z1,0,none⟩),iV g_.2.2.2.2.2.2.2.2.2.2.1.Epoch,iV g_.2.2.2.2.2.2.2.2.2.2.1.Side,iV g_.2.2.2.2.2.2.2.2.2.2.1.Size,iV g_.2.2.2.2.2.2.2.2.2.2.1.First,.pointer (some ⟨g_.2.2.2.2.2.2.2.2.2.2.2.2.2,0,none⟩),g_.2.2.2.2.2.2.2.2.2.2.2.1] 133,ag.box g_.2.2.2.2.2.2.2.2.2.2.2.2.2 [.pointer (some ⟨z1,0,none⟩),iV g_.2.2.2.2.2.2.2.2.2.2.2.2.1.From,iV g_.2.2.2.2.2.2.2.2.2.2.2.2.1.Many,iV g_.2.2.2.2.2.2.2.2.2.2.2.2.1.First,iV g_.2.2.2.2.2.2.2.2.2.2.2.2.1.Next] 198,ag.held w own]) (fun g_=>[ag.ls g_.2.2.2.2.2.2.1 g_.2.2.2.2.2.1.R.ak,ag.ls g_.2.2.2.2.2.2.2.1 g_.2.2.2.2.2.1.R.Things,ag.ls g_.2.2.2.2.2.2.2.2.1 g_.2.2.2.2.2.1.R.Held,ag.ls g_.2.2.2.2.2.2.2.2.2.1 g_.2.2.2.2.2.1.R.Notes,ag.ls g_.2.2.2.2.2.2.2.2.2.2.2.1 g_.2.2.2.2.2.2.2.2.2.2.1.Rows,ag.ls z6 gi.R.ak,ag.ls z7 gi.R.Things,ag.ls z8 gi.R.Held,ag.ls z9 gi.R.Notes,ag.ls l9 iR.Rows,ag.ls bN l,ag.acts l,eC]) (fun g_=>g_.1<=l.length/\dI (l.take g_.1)=(g_.2.2.2.2.2.1,g_.2.2.2.2.2.2.2.2.2.2.1,g_.2.1,g_.2.2.2.2.2.2.2.2.2.2.2.2.1)) (fun g_=>l.length-g_.1) (0,ij,z2,z3,z4,gi,z6,z7,z8,z9,iR,l9,lR,z12) O (by (try dsimp only);exact ⟨by omega,rfl⟩) (sF O) (ic ff [0,1,2,3,4,0,1,2,3,4,5,6,7] O) ?_
 rintro ⟨i,em,B3,FD,B5,kc,QP,QQ,QR,QS,sc,B6,lg,bl⟩ ⟨hi,HP⟩
 dsimp only at *
 have hp:=GU (l.take i) (by rw [List.length_take];omega);rw [HP] at hp;obtain ⟨⟨u1,hp1⟩,hp2,hp3⟩:=hp;dsimp only at hp1 hp2 hp3;rw [List.length_take] at hp1 hp3;have hI:=hp1.inv;have hk:=hp3.ok (by omega);have g1:=hp1.pre (by omega);obtain ⟨g2,g3,g4,g5⟩:=g1
 refine R.reg O<|R.u 2 O<|R.q (q.len' (dw 10 O) O Tryz.underlying22) O<|?_
 by_cases h1:i<l.length
 .
  refine R.q (q.dx O O) O<|R.nil<|R.av O O<|R.reg O<|R.u 2 O<|?_
  obtain ⟨x1,hx1⟩:∃z,l[i]? = some z:=⟨_,List.getElem?_eq_getElem (by omega)⟩
  have Wb:=OG hp3 x1 (by omega)
  refine R.q (q.idx (i:=i) (dw 10 O) O O Av O hx1) O<|R.q (q.nG (j':=0) (dw 10 O) hx1 O ze O) O<|R.q (q.lv (dw 10 O) hx1 O bE O) O<|?_
  by_cases h2:x1.Kind=⟨#[115,97,118,101]⟩
  .
   refine R.q (q.pI O O h2) O<|R.nil<|R.av O O<|R.reg O<|R.u 1 O<|R.s O (s.aW [4,5,0,1,2,3,6,7] gX _ _ _ O O O RG O O (fun w own hw H=>IJ z5 QP QQ QR QS kc lH B6 sc z1 B3 FD B5 em bl lg w own H ‹_› ‹_› (by omega) ‹_›) O) ?_
   rintro ⟨qc,yD,HD,Cb,z17,yK,Bs,z20,z21⟩
   dsimp only
   refine R.nil<|R.reg O<|R.u 1 O<|R.q (q.bA (r:=((i+1:Nat):Int)) O O) O<|R.u 1 O<|R.nil<|R.back (i+1,(ct (mkS sc lg) em).2.1,yK,Bs,z20,kc,qc,yD,HD,Cb,(ct (mkS sc lg) em).1.c,z17,(ct (mkS sc lg) em).1.L,z21) O (by ((try dsimp only);exact ⟨by omega,by rw [Ak hx1,HP];exact Eg ‹_›⟩)) (by dsimp only;omega) (sF O) (aD [2,3,4,5,0,1,6,7] [0,1,2,3,4,10,11,12,13,14,15,16,17] O)
  refine R.q (q.pJ O O h2) O<|R.nil<|R.aA O O<|R.reg O<|R.u 3 O<|R.q (q.idx (i:=i) (dw 10 O) O O Av O hx1) O<|R.q (q.eS (ds:=Eu x1) (dw 10 O) hx1 O FU O) O<|R.s O (s.aW [4,5,0,1,2,3,6,7] [0,1,2,3,4,12] _ _ _ O O O NN O O (fun w own hw H=>yw z5 QP QQ QR QS kc x1 lH B6 sc z1 B3 FD B5 em bl lg w own H ‹_› ‹_› (by omega) ‹_› ‹_› ‹_› ‹_›) O) ?_
  rintro ⟨z22,z23,z24,z25,z26,z27,z28,z29,z30⟩
  dsimp only
  refine R.nil<|R.reg O<|R.u 1 O<|R.q (q.bA (r:=((i+1:Nat):Int)) O O) O<|R.u 1 O<|R.nil<|R.back (i+1,(fQ kc sc em lg (cQ kc.R x1)).2.2.1,z27,z28,z29,(fQ kc sc em lg (cQ kc.R x1)).1,z22,z23,z24,z25,(fQ kc sc em lg (cQ kc.R x1)).2.1,z26,(fQ kc sc em lg (cQ kc.R x1)).2.2.2.1,z30) O (by ((try dsimp only);exact ⟨by omega,by rw [Ak hx1,HP];exact II ‹_›⟩)) (by dsimp only;omega) (sF O) (aD [2,3,4,5,0,1,6,7] [0,1,2,3,4,10,11,12,13,14,15,16,17] O)
 refine R.q (q.cU O O) O<|R.nil<|R.aA O O<|R.reg O<|R.u 5 O<|R.nil ?_
 have hz:((dI l).2.2.1,(dI l).1,(dI l).2.1,(dI l).2.2.2)=(em,kc,sc,lg):=by (rw [show l=l.take i from (List.take_of_length_le (by omega)).symm,HP])
 have hz0:(dI l).2.2.1=em:=congrArg (fun t_=>t_.1) hz
 rw [hz0]
 have hz1:(dI l).1=kc:=congrArg (fun t_=>t_.2.1) hz
 rw [hz1]
 have hz2:(dI l).2.1=sc:=congrArg (fun t_=>t_.2.2.1) hz
 rw [hz2]
 have hz3:(dI l).2.2.2=lg:=congrArg (fun t_=>t_.2.2.2) hz
 rw [hz3]
 exact R.w3 (z1,B3,FD,B5,z5,QP,QQ,QR,QS,lH,B6,bl) ff gX O Tryz.results22 (RV.tmp O) (RV.tmp O) (RV.tmp O) O O O (Es O O O)
theorem IK (bN:Value)(l:List eh)(w:World)(own:List Nat)(H:HN w own [] [ag.ls bN l,ag.acts l])(hla:lN l 60=false):RC Tryz.prog 22 #[bN] H (fun _:Unit => .tuple #[.pointer none,.pointer none,.bool false]) (fun _=>[]) (fun _=>[]):=by
 have yz:=H.cq 0 rfl
 refine R.bC [(0,bN)] Tryz.func22 O O O O H<|R.reg O<|R.u 3 O<|R.nil<|R.reg O<|R.u 1 O<|R.c (q.call Mb O O (fun w hw=>(cv (congrArg Value.bool hla) (oW _ l 60 w (hw.bP 0 O) (hw.acts 1 O) )))) O<|R.u 1 O<|R.nil ?_
 exact R.av O O<|R.reg O<|R.u 3 O<|R.nil<|R.w3 () [0] [] O Tryz.results22 (RV.tmp O) (RV.tmp O) (RV.tmp O) O O O (Es O O O)
theorem FE {d:cw}{sc:ka}{lg:Lg}{u:Nat}{k:kb}{a:eh}(h:KI d sc lg nR u 1)(hf:d.Fuse = -1)(e:k.R=nR)(h1:a.Kind=(⟨#[109,97,107,101]⟩:ByteArray))(h2:a.P=⟨1,0⟩)(h3:a.A=1) :
 (fQ k sc d lg (cQ k.R a)).2.2.2.2=0 /\ ∃z u1,KI (fQ k sc d lg (cQ k.R a)).2.2.1 (fQ k sc d lg (cQ k.R a)).2.1 (fQ k sc d lg (cQ k.R a)).2.2.2.1 z u1 2/\(aZ z).Things.length=1/\Ok (aZ z):=by
 have hd:cQ nR a=(⟨[⟨1,1,7,0,0⟩],[⟨1,1,⟨#[]⟩⟩],[⟨⟨1,0⟩,1⟩],[],2,2⟩,0):=by unfold cQ;rw [if_pos h1,h2,h3];exact Qo
 have h0:(cQ nR a).2=0:=by rw [hd]
 obtain ⟨_,b⟩:=h.do (z:=cQ nR a) (by omega) (vK h.inv a)
 have ek:k=⟨nR⟩:=by rw [<- e]
 rw [e,ek]
 have hs:Sz 1 (cQ nR a).1:=KS Sz.new a
 rcases b h0 with ⟨c1,c2,c3,u2,c4⟩ | ⟨_,_,c3,_⟩
 .
  refine ⟨c1,_,u2,c4,?_,(Dx hs).ok (by omega)⟩
  rw [yn c4.inv (by rw [hd])]
  rw [hd];rfl
 .exact absurd hf c3
theorem IL (w:World)(ht:DG w):Calls Tryz.prog 21 #[] w fun e w'=>e = .returned (.bool true)/\Ext w w':=by
 obtain ⟨w1,w2,w3,w4,w5,u0,w6⟩:=BZ;have w7:=w6.anew (by omega);have w8:=w6.pre (by omega)
 have wi:Inv gi.R:=w5.symm▸l5;have wo:Ok gi.R:=w5.symm▸LO;obtain ⟨wa,wb,wc,wd⟩:=w8;have wz:(cQ gi.R (⟨⟨#[109,97,107,101]⟩,⟨#[]⟩,⟨1,0⟩,⟨0,0⟩,1,0,0,0,none,0,0,[]⟩:eh)).2=0->Ok (cQ gi.R (⟨⟨#[109,97,107,101]⟩,⟨#[]⟩,⟨1,0⟩,⟨0,0⟩,1,0,0,0,none,0,0,[]⟩:eh)).1:=OG (k:=0) (w5.symm▸Sz.new) _ (by omega)
 obtain ⟨v1,z1,u1,v2,v3,v13⟩:=FE w6 w2 w5 (a:=(⟨⟨#[109,97,107,101]⟩,⟨#[]⟩,⟨1,0⟩,⟨0,0⟩,1,0,0,0,none,0,0,[]⟩:eh)) rfl rfl rfl;have v4:=v2.anew (by omega);obtain ⟨v5,v6,v7,v8,v9,v10,v11⟩:=v4;have v12:(bX (bm (fQ gi iR ij lR (cQ gi.R (⟨⟨#[109,97,107,101]⟩,⟨#[]⟩,⟨1,0⟩,⟨0,0⟩,1,0,0,0,none,0,0,[]⟩:eh))).2.2.1).c.Rows).1.Things.length=1:=(by rw [v10];exact v3);have v14:Ok (bX (bm (fQ gi iR ij lR (cQ gi.R (⟨⟨#[109,97,107,101]⟩,⟨#[]⟩,⟨1,0⟩,⟨0,0⟩,1,0,0,0,none,0,0,[]⟩:eh))).2.2.1).c.Rows).1:=(by rw [v10];exact v13)
 refine R.enter [] [] Tryz.func21 O O O O<|R.nI (r:=eC) ht (BM ht)<|R.reg O<|R.u 1 O<|R.nil<|R.reg O<|R.s O (s.aW [] [0] _ _ _ O O O NM O O (fun w own hw H=>Ej w own H ) O) ?_
 rintro ⟨z1,z2,z3,z4,z5,z6,z7,z8,z9,lH,l9,z12⟩
 dsimp only
 refine R.u 7 O<|R.nil<|R.reg O<|R.u 4 O<|R.qg O (q.build wk O O) O<|R.qg O (q.build RD O O) O<|R.s O (s.aW [4,5,0,1,2,3,6] rm _ _ _ O O O NN O O (fun w own hw H=>yw z5 z6 z7 z8 z9 gi (⟨⟨#[109,97,107,101]⟩,⟨#[]⟩,⟨1,0⟩,⟨0,0⟩,1,0,0,0,none,0,0,[]⟩:eh) lH l9 iR z1 z2 z3 z4 ij z12 lR w own H ‹_› ‹_› (by omega) ‹_› ‹_› ‹_› ‹_›) O) ?_
 rintro ⟨qc,yD,HD,Cb,z17,yK,Bs,z20,z21⟩
 dsimp only
 refine R.qg O (q.dB O O Tryz.underlying38) O<|R.u 1 O<|R.nil<|R.aA O O<|R.reg O<|R.u 1 O<|R.s O (s.aW [2,3,4,5,0,1,6] [10] _ _ _ O O O I9 O O (fun w own hw H=>uv z1 yK Bs z20 (fQ gi iR ij lR (cQ gi.R (⟨⟨#[109,97,107,101]⟩,⟨#[]⟩,⟨1,0⟩,⟨0,0⟩,1,0,0,0,none,0,0,[]⟩:eh))).2.2.1 w own H ‹_› ‹_› ‹_› ‹_› ‹_›) O) ?_
 rintro ⟨z22,z23,z24,z25,z26,z27,z28,z29,z30,z31,z32⟩
 dsimp only
 refine R.u 5 O<|R.nil<|R.reg O<|R.u 1 O<|R.q (q.Ci O O Tryz.underlying38) O<|R.u 2 O<|R.qg O (q.Rz O O Tryz.underlying26) O<|R.u 3 O<|R.s O (s.aW [4,0,1,2,3,5,6,7,8,9] bL _ _ _ O O O Ja O O (fun w own hw H=>sC z25 z26 z27 z28 z29 z30 (⟨(bX (bm (fQ gi iR ij lR (cQ gi.R (⟨⟨#[109,97,107,101]⟩,⟨#[]⟩,⟨1,0⟩,⟨0,0⟩,1,0,0,0,none,0,0,[]⟩:eh))).2.2.1).c.Rows).1⟩:kb) w own H ‹_›) O) ?_
 rintro ⟨z33,z34,z35,z36,z37,z38,z39,z40⟩
 dsimp only
 exact R.qg O (q.field O I5 O) O<|R.qg O (q.len' (dw 5 O) O Tryz.underlying44) O<|R.qg O (q.fN O O) O<|R.u 2 O<|R.nil<|R.rv O Tryz.results21 O (rB (by rfl))
end
section
open Go Go.RowKit
set_option maxRecDepth 100000
set_option maxHeartbeats 90000000
attribute [local irreducible] bD ct bm ky dK dNew cQ fQ dI bX
theorem Ek (bN:Value)(l:List eh)(w:World)(ew:Sl w bN l)(Hj:∀x∈l,Sl w x.cv x.Changes)(ht:DG w):Calls Tryz.prog 4 #[bN] w fun e w'=>e = .returned (.bool true)/\Ext w w':=by
 have zq:=ew.fA
 refine R.enter [] [(0,bN)] Tryz.func4 O O O O<|R.nI (r:=eC) ht (BM ht)<|R.pO ew<|R.nI (r:=ag.acts l) Hj (FR Hj)<|R.reg O<|R.u 1 O<|R.nil<|R.reg O<|R.c (q.call RI O O (fun w hw=>(IL w (by exact hw.okF eC (by repeat (first|exact List.Mem.head _|refine List.Mem.tail _ ?_)))))) O<|R.u 1 O<|R.nil ?_
 refine R.reg O<|R.u 2 O<|R.nil<|R.aA O O<|R.reg O<|R.u 1 O<|?_
 by_cases h1:lN l 60=true
 .
  refine R.s O (s.aW [] [1,0,2] _ _ _ O O O NP O O (fun w own hw H=>FC bN l w own H ‹_›) O) ?_
  rintro ⟨z1,z2,z3,z4,z5,z6,z7,z8,z9,lH,l9,z12⟩
  dsimp only
  refine R.u 7 O<|R.nil<|R.reg O<|R.u 2 O<|R.nil<|R.aA O O ?_
  have hla:lN l 60=true:=by assumption
  have hll:=wX hla;obtain ⟨⟨u1,p1⟩,p2,p3⟩:=GU l (by omega);have hI:=p1.inv;have hk:=p3.ok (by omega);have k4:=p1.anew (by omega);obtain ⟨v5,v6,v7,v8,v9,v10,v11⟩:=k4;have v12:Ok (bX (bm (dI l).2.2.1).c.Rows).1:=(by rw [v10];exact (Dx p3).ok (by omega));have e1:decide ((bX (bm (dI l).2.2.1).c.Rows).1=aZ (dI l).1.R)=true:=decide_eq_true v10
  refine R.reg O<|R.u 1 O<|R.s O (s.aW mg [7] _ _ _ O O O I9 O O (fun w own hw H=>uv z1 z2 z3 z4 (dI l).2.2.1 w own H ‹_› ‹_› ‹_› ‹_› ‹_›) O) ?_
  rintro ⟨qc,yD,HD,Cb,z17,yK,Bs,z20,z21,z22,z23⟩
  dsimp only
  refine R.u 5 O<|R.nil<|R.reg O<|R.u 1 O<|R.q (q.Ci O O Tryz.underlying38) O<|R.u 2 O<|R.s O (s.aW [4,0,1,2,3,5,6,7,8,9] bL _ _ _ O O O Ja O O (fun w own hw H=>sC Cb z17 yK Bs z20 z21 (⟨(bX (bm (dI l).2.2.1).c.Rows).1⟩:kb) w own H ‹_›) O) ?_
  rintro ⟨z24,z25,z26,z27,z28,z29,z30,z31⟩
  dsimp only
  refine R.u 1 O<|R.s O (s.aW [7,0,1,2,3,4,5,6,8,9] [13,14,15,16] _ _ _ O O O Ja O O (fun w own hw H=>sC z5 z6 z7 z8 z9 lH (dI l).1 w own H ‹_›) O) ?_
  rintro ⟨z32,z33,z34,z35,z36,z37,z38,z39⟩
  dsimp only
  refine R.s O (s.aW [0,1,2,3,4,5,6,7,8,9] [4,5,6,7] _ _ _ O O O NQ O O (fun w own hw H=>yi z36 z37 z38 z39 (dI l).1.R w own H ‹_›) O) ?_
  rintro ⟨z40,z41,z42,z43⟩
  dsimp only
  have h2:(decide (((bX (bm (dI l).2.2.1).c.Rows).1)=(aZ (dI l).1.R)))=true:=by have Wc:(decide (((bX (bm (dI l).2.2.1).c.Rows).1)=(aZ (dI l).1.R)))=true:=(by exact e1);simp only [Wc];done
  exact R.cg O (q.call RH O O (fun w hw=>(cv (congrArg Value.bool h2) (yS _ _ _ _ (bX (bm (dI l).2.2.1).c.Rows).1 _ _ _ _ (aZ (dI l).1.R) w (hw.bP 16 O) (hw.bP 17 O) (hw.bP 18 O) (hw.bP 19 O) (hw.bP 0 O) (hw.bP 1 O) (hw.bP 2 O) (hw.bP 3 O) )))) O<|R.u 2 O<|R.nil<|R.rv O Tryz.results4 O (rB (by rfl))
 refine R.s O (s.aW [] [1,0] _ _ _ O O O NP O O (fun w own hw H=>IK bN l w own H (by exact Bool.eq_false_iff.2 ‹_›)) O) fun _=>?_
 refine R.u 7 O<|R.nil<|R.reg O<|R.u 2 O<|R.nil<|R.av O O<|R.reg O<|R.u 1 O<|?_
 rcases Bool.eq_false_or_eq_true (lN l 60) with h3|h3
 .
  refine R.c (q.call Mb O O (fun w hw=>(cv (congrArg Value.bool h3) (oW _ l 60 w (hw.bP 1 O) (hw.acts 0 O) )))) O<|R.u 2 O<|R.nil ?_
  exact R.rv O Tryz.results4 O (rB (by simp_all))
 refine R.c (q.call Mb O O (fun w hw=>(cv (congrArg Value.bool h3) (oW _ l 60 w (hw.bP 1 O) (hw.acts 0 O) )))) O<|R.u 2 O<|R.nil ?_
 exact R.rv O Tryz.results4 O (rB (by rfl))
end
section
open Go Go.RowKit
set_option maxRecDepth 100000
theorem Tv:(Tryz.prog.globals[1]?).map (·.type)=some 294:=by kernel_rfl
theorem Tw:(Tryz.prog.globals[2]?).map (·.type)=some 38:=by kernel_rfl
theorem NA:Tryz.prog.cellsOf 294=20:=by kernel_rfl
theorem QT:∀t,Tryz.prog.underlying 294=some (.array 20 t)->Tryz.prog.cellsOf t=1:=fun t h=>by
 rw [Tryz.underlying294] at h;injection h with h;injection h with _ h;subst h;kernel_rfl
theorem OI : "*" ++ "errors.errorString" = "*errors.errorString" :=by decide
theorem QU:∀u,Tryz.prog.typeName? 3 u=some "*errors.errorString" → u=308:=fun u h =>
 typeName_ptr_named (nm:= "errors.errorString") (by rw [OI];kernel_rfl) (by kernel_rfl) (by decide) u (by rw [OI];exact h)
theorem NC {W:World}(h:laidMetH Tryz.prog [("math/bits.deBruijn32tab",Rows.laid_math_bits_deBruijn32tab),("math/bits.deBruijn64tab",Rows.laid_math_bits_deBruijn64tab),("internal/strconv.uint64pow10",Rows.laid_internal_strconv_uint64pow10),("strconv.ErrRange",Rows.laid_strconv_ErrRange),("strconv.ErrSyntax",Rows.laid_strconv_ErrSyntax)] W):DG W:=by
 rw [MakeChecks.laidMetH_plain _ _ _ (by kernel_rfl)] at h
 have h3:=h.tail.tail
 have h5:=h3.tail.tail
 refine ⟨Lib.tabIs_of_head Qx Tv Tryz.underlying294 Tryz.underlying33 (QT _ Tryz.underlying294) NA (rest:=[("strconv.ErrRange",Rows.laid_strconv_ErrRange),("strconv.ErrSyntax",Rows.laid_strconv_ErrSyntax)]) h3,?_⟩
 obtain ⟨a,s,h6,_⟩:=laid_sentinel (text:=[105,110,118,97,108,105,100,32,115,121,110,116,97,120]) h5 Qy Tw Tryz.underlying38 QU Tryz.underlying308 Tryz.underlying310 rfl rfl Tryz.underlying9 (by kernel_rfl) (by kernel_rfl)
 exact ⟨_,_,h6⟩
end
end Go.Proofs.YtkbhcbipadkcaaaGreatDoor
section
namespace Go.Proofs.YtkbhcbipadkcaaaGreatDoor.TopOpen
open Go.ChangeShapes Go.WideShapes Go.ChangeAt Go.RowKit
set_option linter.unusedVariables false
set_option linter.unusedSimpArgs false
theorem own:ownKnob Tryz.prog.godebug=none:=by kernel_rfl
theorem laidOut:laidOutB Tryz.prog=true:=by kernel_rfl
theorem back:∀t∈Tryz.f4.params.toList,Tryz.prog.readableRec t=true/\t<Tryz.prog.types.size:=by
 rw [Tryz.params4];intro t ht;simp at ht
 (repeat' rcases ht with rfl|ht) <;> first|exact ⟨by kernel_rfl,of_decide_eq_true (by kernel_rfl)⟩ | (subst ht;exact ⟨by kernel_rfl,of_decide_eq_true (by kernel_rfl)⟩)
theorem LQ (os:Os)(args:Array Value):laidMetH Tryz.prog Rows.topOpenRow.laid ((World.doorLaid Tryz.prog 400 os).forCall (fun _ _=>0) ⟨#[],args,[]⟩).memory :=
 laidMetH_of_parts3 (fuel:=8) (laidMet_of_run' 8 (by kernel_rfl) (by kernel_rfl)) (by kernel_rfl) (by kernel_rfl)
set_option maxRecDepth 100000 in
theorem lifted (os:Os)(started:os.Started)(H:Type)(enc:TypeId×Value->H) :
 ReturnsInHanded {} Tryz.checked os 4 .any (fun w args=>(Rows.topOpenSpec.pre enc Tryz.prog Tryz.f4 [] false w args/\laidMetH Tryz.prog Rows.topOpenRow.laid w)/\sizedMet enc Tryz.prog Tryz.f4 (OpenSpec.ofChange Rows.topOpenSpec) false w args)
  (Rows.topOpenSpec.post enc Tryz.prog Tryz.f4 false true false false):=by
 refine returnsInHanded_of_change_and (C:=Tryz.checked) (X:=fun w _=>laidMetH Tryz.prog Rows.topOpenRow.laid w) (fun _ _ _ hh h=>h.of_heap hh) own started (by kernel_rfl) Tryz.func4
  (ChangeSpec.witness_shaped (enc:=enc) (C:=Tryz.checked) (os:=os) (X:=fun w _=>laidMetH Tryz.prog Rows.topOpenRow.laid w) false (World.doorLaid Tryz.prog 400 os) #[.slice none 0 0] 8 rfl (World.shaped_of_RefB (by kernel_rfl) (by kernel_rfl)) (by kernel_rfl) (by kernel_rfl) (by kernel_rfl) (LQ os _)) ?_
 intro W base args ds gs before hval0 hW _ _ hL _
 have hval:∀ (j:Nat) t v,Tryz.f4.params[j]? = some t->args[j]? = some v->Value.okWide Tryz.prog W .any base t v:=hval0
 have hW':=hW
 obtain ⟨p,q,U8,hV,rfl,hfz,hnd⟩:=hW
 have hA:DataW.TrodAll enc Tryz.prog W 0 (fun _=>true) true Tryz.f4.params.toList args.toList ds p:=U8
 have hA2:=hA
 have hback:=back
 rw [Tryz.params4] at hA hval hA2 hback
 obtain ⟨v0,WC,d0,ds0,p0,q0,hargs,rfl,rfl,h0,r0⟩:=trodAll_cons hA
 obtain ⟨rfl,rfl,rfl⟩:=trodAll_nil r0
 obtain rfl:args = #[v0]:=by cases args;simp_all
 obtain ⟨rfl,rfl⟩:=trodVars_none hV
 obtain ⟨x0,s0,c0,f0⟩:=I1 (hval 0 _ v0 rfl rfl) h0
 clear U8 hval0
 refine (Ek _ x0 W s0 c0 (NC hL)).mono fun e W' ⟨he,U9⟩=>?_
 subst he
 exact ⟨_,rfl,_,_,_,[],_,[],hW',trodAll_mk1 (shut_bool Tryz.underlying4 _),trodAll_back laidOut U9.below hback hA2,rfl,U9.below.frame _,fun h=>by cases h⟩
theorem over:Rows.topOpenRow.holds Tryz.pinned (OpenSpec.ofChange Rows.topOpenSpec) :=
 OpenClaim.holds_of_wide 4 Tryz.f4 rfl rfl rfl rfl rfl rfl rfl ⟨rfl,rfl,rfl,rfl,rfl⟩ rfl rfl rfl rfl rfl (by kernel_rfl) Tryz.func4 (by kernel_rfl)
  (of_decide_eq_true (by kernel_rfl)) (by unfold Func.isWrapper;first|(rw [if_pos (by decide +kernel)];kernel_rfl)|(rw [if_neg (by decide +kernel)];exact ⟨rfl,rfl⟩))
  (fun os started H enc _=>lifted os started H enc)
theorem proved:Rows.TopOpenCardSaid :=
 Claim7.holds_tied_plain_at .later [] [.data,.data,.data,.sentinel,.sentinel] true (true,"740941bdca030c52b5d405e0b18da6d55d3bb80363adaeeb70679935f3666678") true
  over (fun _ h=>by cases h) (by kernel_rfl) (fun _ h=>by cases h) topOpen_row_tie rfl ⟨rfl,rfl⟩ (by kernel_rfl) rfl
  (fun f fn hf hfn=>by
   obtain rfl:f=4:=Option.some.inj ((show Tryz.prog.funcNamed "writkeep/writkeeptop.TopOpen" = some 4 by kernel_rfl).symm.trans hf) |>.symm
   obtain rfl:fn=Tryz.f4:=(Option.some.inj (Tryz.func4.symm.trans hfn)).symm
   exact ⟨by kernel_rfl,fun j t ht=>by
    have hall:(Tryz.f4.params.toList.all fun u => !Tryz.prog.wantsStandIn u)=true:=by kernel_rfl
    have hm:t∈Tryz.f4.params.toList:=by simpa using Array.mem_of_getElem? ht
    have hq:=List.all_eq_true.1 hall t hm
    exact (show Tryz.prog.wantsStandIn t=false by simpa using hq)⟩)
  (by kernel_rfl)
end Go.Proofs.YtkbhcbipadkcaaaGreatDoor.TopOpen
end
