import Derived.Test.YtkbhcbipadkcaaaGreatDoorTS12
namespace Go.Proofs.YtkbhcbipadkcaaaGreatDoor
set_option linter.unusedVariables false
set_option linter.unusedSimpArgs false
set_option maxRecDepth 100000
set_option maxHeartbeats 90000000
open Go Go.RowKit
theorem qF (n:Int)(w:World)(hn:0<=n/\n<=9000000000000000000):Calls Tryz.prog 140 #[iV n] w fun e w'=>e = .returned (.string (bY n))/\Ext w w':=by
 refine R.enter [] [(0,iV n)] Tryz.func140 O O O O<|R.reg O<|R.u 1 O<|R.nil<|R.reg O<|R.u 1 O<|R.q (q.nf O (by rw [Tryz.underlying3];rfl) Tryz.underlying5 pL) O<|R.u 1 O<|R.q (q.shr (r:=n / 256) O O (by decide) (G6 (D:=256) (by decide) (by decide))) O<|R.q (q.nf O (by rw [Tryz.underlying3];rfl) Tryz.underlying5 pL) O<|R.u 1 O<|R.q (q.shr (r:=n / 65536) O O (by decide) (G6 (D:=65536) (by decide) (by decide))) O<|R.q (q.nf O (by rw [Tryz.underlying3];rfl) Tryz.underlying5 pL) O<|R.u 1 O<|R.q (q.shr (r:=n / 16777216) O O (by decide) (G6 (D:=16777216) (by decide) (by decide))) O<|R.q (q.nf O (by rw [Tryz.underlying3];rfl) Tryz.underlying5 pL) O<|R.s O (s.bs (l:=([(u8 (n % 256)),(u8 ((n / 256) % 256)),(u8 ((n / 65536) % 256)),(u8 ((n / 16777216) % 256))]:List UInt8)) aR eB O O O O O (ct (gA (by omega)) (ct (gA (by omega)) (ct (gA (by omega)) (ct (gA (by omega)) fV)))) O) fun b1=>?_
 exact R.q (q.kf (bD 0 O) O aR Tryz.underlying5 Tryz.underlying9) O<|R.u 1 O<|R.nil<|R.rv O Tryz.results140 O (rS (by rfl))
theorem eF (sx:ByteArray)(w:World)(hs:4<=sx.size):Calls Tryz.prog 144 #[.string sx] w fun e w'=>e = .returned (iV (dB sx:Int))/\Ext w w':=by
 refine R.enter [] [(0,.string sx)] Tryz.func144 O O O O<|R.reg O<|R.u 1 O<|R.nil ?_
 obtain ⟨y1,hy1⟩:∃z,sx.data[0]? = some z:=⟨_,Array.getElem?_eq_getElem (show 0<sx.size from by omega)⟩
 have Sj:=y1.toNat_lt
 obtain ⟨y2,hy2⟩:∃z,sx.data[1]? = some z:=⟨_,Array.getElem?_eq_getElem (show 1<sx.size from by omega)⟩
 have Sk:=y2.toNat_lt
 obtain ⟨y3,hy3⟩:∃z,sx.data[2]? = some z:=⟨_,Array.getElem?_eq_getElem (show 2<sx.size from by omega)⟩
 have TM:=y3.toNat_lt
 obtain ⟨y4,hy4⟩:∃z,sx.data[3]? = some z:=⟨_,Array.getElem?_eq_getElem (show 3<sx.size from by omega)⟩
 have UU:=y4.toNat_lt
 exact R.eZ O mixed (by kernel_rfl)<|Q.u 1 O<|Q.q (q.iK (i:=0) O O Tryz.underlying9 O hy1) O<|Q.q (q.nf (r:=((y1.toNat:Nat):Int)) O (by rw [Tryz.underlying5];rfl) Tryz.underlying3 (wr (by omega))) O<|Q.u 1 O<|Q.q (q.iK (i:=1) O O Tryz.underlying9 O hy2) O<|Q.q (q.nf (r:=((y2.toNat:Nat):Int)) O (by rw [Tryz.underlying5];rfl) Tryz.underlying3 (wr (by omega))) O<|Q.q (q.shl (r:=(((y2.toNat*256):Nat):Int)) O O (by decide) (P0 256 (by decide) (by have:=y2.toNat_lt;omega))) O<|Q.q (q.or (r:=(((y1.toNat+(y2.toNat*256)):Nat):Int)) O O (Uf 8 256 O (by have:=y1.toNat_lt;have:=y2.toNat_lt;omega) (by have:=y1.toNat_lt;have:=y2.toNat_lt;omega))) O<|Q.u 1 O<|Q.q (q.iK (i:=2) O O Tryz.underlying9 O hy3) O<|Q.q (q.nf (r:=((y3.toNat:Nat):Int)) O (by rw [Tryz.underlying5];rfl) Tryz.underlying3 (wr (by omega))) O<|Q.q (q.shl (r:=(((y3.toNat*65536):Nat):Int)) O O (by decide) (P0 65536 (by decide) (by have:=y3.toNat_lt;omega))) O<|Q.q (q.or (r:=((((y1.toNat+(y2.toNat*256))+(y3.toNat*65536)):Nat):Int)) O O (Uf 16 65536 O (by have:=y1.toNat_lt;have:=y2.toNat_lt;have:=y3.toNat_lt;omega) (by have:=y1.toNat_lt;have:=y2.toNat_lt;have:=y3.toNat_lt;omega))) O<|Q.u 1 O<|Q.q (q.iK (i:=3) O O Tryz.underlying9 O hy4) O<|Q.q (q.nf (r:=((y4.toNat:Nat):Int)) O (by rw [Tryz.underlying5];rfl) Tryz.underlying3 (wr (by omega))) O<|Q.q (q.shl (r:=(((y4.toNat*16777216):Nat):Int)) O O (by decide) (P0 16777216 (by decide) (by have:=y4.toNat_lt;omega))) O<|Q.q (q.or (r:=(((((y1.toNat+(y2.toNat*256))+(y3.toNat*65536))+(y4.toNat*16777216)):Nat):Int)) O O (Uf 24 16777216 O (by have:=y1.toNat_lt;have:=y2.toNat_lt;have:=y3.toNat_lt;have:=y4.toNat_lt;omega) (by have:=y1.toNat_lt;have:=y2.toNat_lt;have:=y3.toNat_lt;have:=y4.toNat_lt;omega))) O<|Q.u 1 O<|Q.nil<|R.rv O Tryz.results144 O (rI (by (unfold dB;rw [aK hy1,aK hy2,aK hy3,aK hy4])))
theorem zu (h:cY)(w:World)(hn:0<=h.Epoch/\h.Epoch<=9000000000000000000/\0<=h.Side/\h.Side<=9000000000000000000/\0<=h.Size/\h.Size<=9000000000000000000/\0<=h.First/\h.First<=9000000000000000000):Calls Tryz.prog 81 #[.agg #[iV h.Epoch,iV h.Side,iV h.Size,iV h.First]] w fun e w'=>e = .returned (.string (aL h))/\Ext w w':=by
 refine R.enter [] [(0,.agg #[iV h.Epoch,iV h.Side,iV h.Size,iV h.First])] Tryz.func81 O O O O<|R.reg O<|R.s O (s.box O O O) fun b1=>?_
 exact R.u 1 O<|R.nil<|R.eZ O mixed (by kernel_rfl)<|Q.q (q.aP O iW O) O<|Q.q (q.ld 0 O O ap O) O<|Q.c (q.call Ax O O (fun w hw=>(qF h.Epoch w (by omega)))) O<|Q.q (q.cat O O (by (simp only [ByteArray.size_append,aI,aG,List.length_cons,List.length_nil];omega))) O<|Q.q (q.aP O iq O) O<|Q.q (q.ld 0 O O ap O) O<|Q.c (q.call Ax O O (fun w hw=>(qF h.Side w (by omega)))) O<|Q.q (q.cat O O (by (simp only [ByteArray.size_append,aI,aG,List.length_cons,List.length_nil];omega))) O<|Q.q (q.aP O jU O) O<|Q.q (q.ld 0 O O ap O) O<|Q.c (q.call Ax O O (fun w hw=>(qF h.Size w (by omega)))) O<|Q.q (q.cat O O (by (simp only [ByteArray.size_append,aI,aG,List.length_cons,List.length_nil];omega))) O<|Q.q (q.aP O iX O) O<|Q.q (q.ld 0 O O ap O) O<|Q.c (q.call Ax O O (fun w hw=>(qF h.First w (by omega)))) O<|Q.q (q.cat O O (by (simp only [ByteArray.size_append,aI,aG,List.length_cons,List.length_nil];omega))) O<|Q.u 1 O<|Q.nil<|R.rv O Tryz.results81 O (rS (by rfl))
theorem EX (sx:ByteArray)(w:World)(own:List Nat)(H:HN w own [] [])(hs:sx.size=48):RC Tryz.prog 86 #[.string sx] H (fun _:Unit => .agg #[iV (cm sx).Epoch,iV (cm sx).Side,iV (cm sx).Size,iV (cm sx).First]) (fun _=>[]) (fun _=>[]):=by
 refine R.bF (n:=37) (vs:=[.string sx]) (B:=[ag.held w own]) [(0,.string sx)] Tryz.func86 O O O O H ?_
 refine R.reg O<|?_
 refine R.s O (s.alloc (cs:=[iV 0,iV 0,iV 0,iV 0]) jr O O) fun b1=>?_
 refine R.nil ?_
 refine R.fJ (fuel:=15) [0,1] O O mixed O ?_
 refine D.q (i:=0) O (kF [0,1] [] O O O) O (q.mv O) O<|D.q (i:=1) O (kF [0,1] [] O O O) O (q.Cp (i:=1) (j:=5) O O O Tryz.underlying9 O O (by omega) (by omega)) O<|D.q (i:=3) O (kF [0,1] [] O O O) O (q.mv O) O<|D.q (i:=4) O (kF [0,1] [] O O O) O (q.Cp (i:=5) (j:=9) O O O Tryz.underlying9 O O (by omega) (by omega)) O<|D.q (i:=6) O (kF [0,1] [] O O O) O (q.mv O) O<|D.q (i:=7) O (kF [0,1] [] O O O) O (q.Cp (i:=9) (j:=13) O O O Tryz.underlying9 O O (by omega) (by omega)) O<|D.q (i:=9) O (kF [0,1] [] O O O) O (q.mv O) O<|D.q (i:=10) O (kF [0,1] [] O O O) O (q.Cp (i:=13) (j:=17) O O O Tryz.underlying9 O O (by omega) (by omega)) O<|?_
 refine D.two (i:=2) (j:=13) O O ?_ ?_
 .
  refine Do.s (s.c (q.call kj O O (fun w hw=>(eF (sx.extract 1 5) w (by (rw [ByteArray.size_extract];omega))))) O) (fun _=>(kF [0,1] [] O O O)) O fun _=>?_
  refine D.two (i:=5) (j:=13) O O ?_ ?_
  .
   refine Do.s (s.c (q.call kj O O (fun w hw=>(eF (sx.extract 5 9) w (by (rw [ByteArray.size_extract];omega))))) O) (fun _=>(kF [0,1] [] O O O)) O fun _=>?_
   refine D.two (i:=8) (j:=13) O O ?_ ?_
   .
    refine Do.s (s.c (q.call kj O O (fun w hw=>(eF (sx.extract 9 13) w (by (rw [ByteArray.size_extract];omega))))) O) (fun _=>(kF [0,1] [] O O O)) O fun _=>?_
    refine D.two (i:=11) (j:=13) O O ?_ ?_
    .
     refine Do.s (s.c (q.call kj O O (fun w hw=>(eF (sx.extract 13 17) w (by (rw [ByteArray.size_extract];omega))))) O) (fun _=>(kF [0,1] [] O O O)) O fun _=>?_
     refine D.q (i:=12) O (kF [0,1] [] O O O) O (q.build (cs:=[iV (dB (sx.extract 1 5):Int),iV (dB (sx.extract 5 9):Int),iV (dB (sx.extract 9 13):Int),iV (dB (sx.extract 13 17):Int)]) eN O O) O<|?_
     refine D.one (i:=13) O ?_
     refine Do.s (s.alloc (cs:=[iV 0,iV 0,iV 0,iV 0]) jr O O) (fun _=>(kF [1,2] [] O O O)) O fun b2=>?_
     refine D.one (i:=14) O ?_
     refine Do.s (s.st (us:=[iV (dB (sx.extract 1 5):Int),iV (dB (sx.extract 5 9):Int),iV (dB (sx.extract 9 13):Int),iV (dB (sx.extract 13 17):Int)]) (cs':=[iV (dB (sx.extract 1 5):Int),iV (dB (sx.extract 5 9):Int),iV (dB (sx.extract 9 13):Int),iV (dB (sx.extract 13 17):Int)]) 0 _ O O O O (.inl aU) O O O O) (fun _=>(kF [1,2] [] O O O)) O fun _=>?_
     refine D.done<|?_
     refine R.reg O<|R.u 1 O<|?_
     obtain ⟨y1,hy1⟩:∃z,sx.data[0]? = some z:=⟨_,Array.getElem?_eq_getElem (show 0<sx.size from by omega)⟩
     have Sj:=y1.toNat_lt
     refine R.q (q.iK (i:=0) O O Tryz.underlying9 O hy1) O<|?_
     by_cases h1:y1.toNat=72
     .
      refine R.q (q.neq O O (bne_eq_false_iff_eq.2 (by omega))) O<|R.u 1 O<|R.qg O (q.aP (off':=1) O iq O) O<|R.qg O (q.ld 0 O O ap O) O<|?_
      by_cases h2:1<dB (sx.extract 5 9)
      .
       refine R.qg O (q.gtr O O (decide_eq_true (by omega))) O<|R.u 11 O<|R.nil ?_
       refine R.az O O ?_
       refine R.reg O<|R.q (q.build (cs:=[iV 0,iV 0,iV 0,iV 0]) eN O O) O<|?_
       refine R.s O (s.st (us:=[iV 0,iV 0,iV 0,iV 0]) (cs':=[iV 0,iV 0,iV 0,iV 0]) 1 _ O O O O (.inl aU) O O O O) fun _=>?_
       refine R.nil ?_
       have hz:cm sx=(⟨0,0,0,0⟩:cY):=by (rw [dc (by unfold fF;(rw [aK hy1]);omega)];done)
       rw [hz]
       exact R.w1 () [2] [] O Tryz.results86 (RV.cell 1 O O aU) O O O O
      refine R.qg O (q.gtr O O (decide_eq_false (by omega))) O<|R.u 2 O<|R.qg O (q.aP (off':=2) O jU O) O<|R.qg O (q.ld 0 O O ap O) O<|?_
      by_cases h3:2400<dB (sx.extract 9 13)
      .
       refine R.qg O (q.gtr O O (decide_eq_true (by omega))) O<|R.u 6 O<|R.nil ?_
       refine R.az O O ?_
       refine R.reg O<|R.q (q.build (cs:=[iV 0,iV 0,iV 0,iV 0]) eN O O) O<|?_
       refine R.s O (s.st (us:=[iV 0,iV 0,iV 0,iV 0]) (cs':=[iV 0,iV 0,iV 0,iV 0]) 1 _ O O O O (.inl aU) O O O O) fun _=>?_
       refine R.nil ?_
       have hz:cm sx=(⟨0,0,0,0⟩:cY):=by (rw [dc (by unfold fF;(rw [aK hy1]);omega)];done)
       rw [hz]
       exact R.w1 () [2] [] O Tryz.results86 (RV.cell 1 O O aU) O O O O
      refine R.qg O (q.gtr O O (decide_eq_false (by omega))) O<|R.u 2 O<|R.qg O (q.aP (off':=3) O iX O) O<|R.qg O (q.ld 0 O O ap O) O<|?_
      by_cases h4:dB (sx.extract 13 17)<1
      .
       refine R.qg O (q.lss O O (decide_eq_true (by omega))) O<|R.u 1 O<|R.nil ?_
       refine R.az O O ?_
       refine R.reg O<|R.q (q.build (cs:=[iV 0,iV 0,iV 0,iV 0]) eN O O) O<|?_
       refine R.s O (s.st (us:=[iV 0,iV 0,iV 0,iV 0]) (cs':=[iV 0,iV 0,iV 0,iV 0]) 1 _ O O O O (.inl aU) O O O O) fun _=>?_
       refine R.nil ?_
       have hz:cm sx=(⟨0,0,0,0⟩:cY):=by (rw [dc (by unfold fF;(rw [aK hy1]);omega)];done)
       rw [hz]
       exact R.w1 () [2] [] O Tryz.results86 (RV.cell 1 O O aU) O O O O
      refine R.qg O (q.lss O O (decide_eq_false (by omega))) O<|R.u 1 O<|R.nil ?_
      refine R.aD O O ?_
      refine R.reg O<|R.q (q.cT 0 O O aU) O<|?_
      refine R.s O (s.st (us:=[iV (dB (sx.extract 1 5):Int),iV (dB (sx.extract 5 9):Int),iV (dB (sx.extract 9 13):Int),iV (dB (sx.extract 13 17):Int)]) (cs':=[iV (dB (sx.extract 1 5):Int),iV (dB (sx.extract 5 9):Int),iV (dB (sx.extract 9 13):Int),iV (dB (sx.extract 13 17):Int)]) 1 _ O O O O (.inl aU) O O O O) fun _=>?_
      refine R.nil ?_
      have hz:cm sx=(⟨(dB (sx.extract 1 5):Int),(dB (sx.extract 5 9):Int),(dB (sx.extract 9 13):Int),(dB (sx.extract 13 17):Int)⟩:cY):=by (rw [mo (by unfold fF;(rw [aK hy1]);omega)];rfl)
      rw [hz]
      exact R.w1 () [2] [] O Tryz.results86 (RV.cell 1 O O aU) O O O O
     refine R.q (q.neq O O (bne_iff_ne.2 (by omega))) O<|R.u 15 O<|R.nil ?_
     refine R.az O O ?_
     refine R.reg O<|R.q (q.build (cs:=[iV 0,iV 0,iV 0,iV 0]) eN O O) O<|?_
     refine R.s O (s.st (us:=[iV 0,iV 0,iV 0,iV 0]) (cs':=[iV 0,iV 0,iV 0,iV 0]) 1 _ O O O O (.inl aU) O O O O) fun _=>?_
     refine R.nil ?_
     have hz:cm sx=(⟨0,0,0,0⟩:cY):=by (rw [dc (by unfold fF;(rw [aK hy1]);omega)];done)
     rw [hz]
     exact R.w1 () [2] [] O Tryz.results86 (RV.cell 1 O O aU) O O O O
    refine Do.s (s.alloc (cs:=[iV 0,iV 0,iV 0,iV 0]) jr O O) (fun _=>(kF [1,2] [] O O O)) O fun b3=>?_
    refine D.one (i:=11) O ?_
    refine Do.s (s.c (q.call kj O O (fun w hw=>(eF (sx.extract 13 17) w (by (rw [ByteArray.size_extract];omega))))) O) (fun _=>(kF [1,2] [] O O O)) O fun _=>?_
    refine D.q (i:=12) O (kF [1,2] [] O O O) O (q.build (cs:=[iV (dB (sx.extract 1 5):Int),iV (dB (sx.extract 5 9):Int),iV (dB (sx.extract 9 13):Int),iV (dB (sx.extract 13 17):Int)]) eN O O) O<|?_
    refine D.one (i:=14) O ?_
    refine Do.s (s.st (us:=[iV (dB (sx.extract 1 5):Int),iV (dB (sx.extract 5 9):Int),iV (dB (sx.extract 9 13):Int),iV (dB (sx.extract 13 17):Int)]) (cs':=[iV (dB (sx.extract 1 5):Int),iV (dB (sx.extract 5 9):Int),iV (dB (sx.extract 9 13):Int),iV (dB (sx.extract 13 17):Int)]) 0 _ O O O O (.inl aU) O O O O) (fun _=>(kF [1,2] [] O O O)) O fun _=>?_
    refine D.done<|?_
    refine R.reg O<|R.u 1 O<|?_
    obtain ⟨y2,hy2⟩:∃z,sx.data[0]? = some z:=⟨_,Array.getElem?_eq_getElem (show 0<sx.size from by omega)⟩
    have Sk:=y2.toNat_lt
    refine R.q (q.iK (i:=0) O O Tryz.underlying9 O hy2) O<|?_
    by_cases h5:y2.toNat=72
    .
     refine R.q (q.neq O O (bne_eq_false_iff_eq.2 (by omega))) O<|R.u 1 O<|R.qg O (q.aP (off':=1) O iq O) O<|R.qg O (q.ld 0 O O ap O) O<|?_
     by_cases h6:1<dB (sx.extract 5 9)
     .
      refine R.qg O (q.gtr O O (decide_eq_true (by omega))) O<|R.u 11 O<|R.nil ?_
      refine R.az O O ?_
      refine R.reg O<|R.q (q.build (cs:=[iV 0,iV 0,iV 0,iV 0]) eN O O) O<|?_
      refine R.s O (s.st (us:=[iV 0,iV 0,iV 0,iV 0]) (cs':=[iV 0,iV 0,iV 0,iV 0]) 1 _ O O O O (.inl aU) O O O O) fun _=>?_
      refine R.nil ?_
      have hz:cm sx=(⟨0,0,0,0⟩:cY):=by (rw [dc (by unfold fF;(rw [aK hy2]);omega)];done)
      rw [hz]
      exact R.w1 () [2] [] O Tryz.results86 (RV.cell 1 O O aU) O O O O
     refine R.qg O (q.gtr O O (decide_eq_false (by omega))) O<|R.u 2 O<|R.qg O (q.aP (off':=2) O jU O) O<|R.qg O (q.ld 0 O O ap O) O<|?_
     by_cases h7:2400<dB (sx.extract 9 13)
     .
      refine R.qg O (q.gtr O O (decide_eq_true (by omega))) O<|R.u 6 O<|R.nil ?_
      refine R.az O O ?_
      refine R.reg O<|R.q (q.build (cs:=[iV 0,iV 0,iV 0,iV 0]) eN O O) O<|?_
      refine R.s O (s.st (us:=[iV 0,iV 0,iV 0,iV 0]) (cs':=[iV 0,iV 0,iV 0,iV 0]) 1 _ O O O O (.inl aU) O O O O) fun _=>?_
      refine R.nil ?_
      have hz:cm sx=(⟨0,0,0,0⟩:cY):=by (rw [dc (by unfold fF;(rw [aK hy2]);omega)];done)
      rw [hz]
      exact R.w1 () [2] [] O Tryz.results86 (RV.cell 1 O O aU) O O O O
     refine R.qg O (q.gtr O O (decide_eq_false (by omega))) O<|R.u 2 O<|R.qg O (q.aP (off':=3) O iX O) O<|R.qg O (q.ld 0 O O ap O) O<|?_
     by_cases h8:dB (sx.extract 13 17)<1
     .
      refine R.qg O (q.lss O O (decide_eq_true (by omega))) O<|R.u 1 O<|R.nil ?_
      refine R.az O O ?_
      refine R.reg O<|R.q (q.build (cs:=[iV 0,iV 0,iV 0,iV 0]) eN O O) O<|?_
      refine R.s O (s.st (us:=[iV 0,iV 0,iV 0,iV 0]) (cs':=[iV 0,iV 0,iV 0,iV 0]) 1 _ O O O O (.inl aU) O O O O) fun _=>?_
      refine R.nil ?_
      have hz:cm sx=(⟨0,0,0,0⟩:cY):=by (rw [dc (by unfold fF;(rw [aK hy2]);omega)];done)
      rw [hz]
      exact R.w1 () [2] [] O Tryz.results86 (RV.cell 1 O O aU) O O O O
     refine R.qg O (q.lss O O (decide_eq_false (by omega))) O<|R.u 1 O<|R.nil ?_
     refine R.aD O O ?_
     refine R.reg O<|R.q (q.cT 0 O O aU) O<|?_
     refine R.s O (s.st (us:=[iV (dB (sx.extract 1 5):Int),iV (dB (sx.extract 5 9):Int),iV (dB (sx.extract 9 13):Int),iV (dB (sx.extract 13 17):Int)]) (cs':=[iV (dB (sx.extract 1 5):Int),iV (dB (sx.extract 5 9):Int),iV (dB (sx.extract 9 13):Int),iV (dB (sx.extract 13 17):Int)]) 1 _ O O O O (.inl aU) O O O O) fun _=>?_
     refine R.nil ?_
     have hz:cm sx=(⟨(dB (sx.extract 1 5):Int),(dB (sx.extract 5 9):Int),(dB (sx.extract 9 13):Int),(dB (sx.extract 13 17):Int)⟩:cY):=by (rw [mo (by unfold fF;(rw [aK hy2]);omega)];rfl)
     rw [hz]
     exact R.w1 () [2] [] O Tryz.results86 (RV.cell 1 O O aU) O O O O
    refine R.q (q.neq O O (bne_iff_ne.2 (by omega))) O<|R.u 15 O<|R.nil ?_
    refine R.az O O ?_
    refine R.reg O<|R.q (q.build (cs:=[iV 0,iV 0,iV 0,iV 0]) eN O O) O<|?_
    refine R.s O (s.st (us:=[iV 0,iV 0,iV 0,iV 0]) (cs':=[iV 0,iV 0,iV 0,iV 0]) 1 _ O O O O (.inl aU) O O O O) fun _=>?_
    refine R.nil ?_
    have hz:cm sx=(⟨0,0,0,0⟩:cY):=by (rw [dc (by unfold fF;(rw [aK hy2]);omega)];done)
    rw [hz]
    exact R.w1 () [2] [] O Tryz.results86 (RV.cell 1 O O aU) O O O O
   refine Do.s (s.alloc (cs:=[iV 0,iV 0,iV 0,iV 0]) jr O O) (fun _=>(kF [1,2] [] O O O)) O fun b4=>?_
   refine D.one (i:=8) O ?_
   refine Do.s (s.c (q.call kj O O (fun w hw=>(eF (sx.extract 9 13) w (by (rw [ByteArray.size_extract];omega))))) O) (fun _=>(kF [1,2] [] O O O)) O fun _=>?_
   refine D.one (i:=11) O ?_
   refine Do.s (s.c (q.call kj O O (fun w hw=>(eF (sx.extract 13 17) w (by (rw [ByteArray.size_extract];omega))))) O) (fun _=>(kF [1,2] [] O O O)) O fun _=>?_
   refine D.q (i:=12) O (kF [1,2] [] O O O) O (q.build (cs:=[iV (dB (sx.extract 1 5):Int),iV (dB (sx.extract 5 9):Int),iV (dB (sx.extract 9 13):Int),iV (dB (sx.extract 13 17):Int)]) eN O O) O<|?_
   refine D.one (i:=14) O ?_
   refine Do.s (s.st (us:=[iV (dB (sx.extract 1 5):Int),iV (dB (sx.extract 5 9):Int),iV (dB (sx.extract 9 13):Int),iV (dB (sx.extract 13 17):Int)]) (cs':=[iV (dB (sx.extract 1 5):Int),iV (dB (sx.extract 5 9):Int),iV (dB (sx.extract 9 13):Int),iV (dB (sx.extract 13 17):Int)]) 0 _ O O O O (.inl aU) O O O O) (fun _=>(kF [1,2] [] O O O)) O fun _=>?_
   refine D.done<|?_
   refine R.reg O<|R.u 1 O<|?_
   obtain ⟨y3,hy3⟩:∃z,sx.data[0]? = some z:=⟨_,Array.getElem?_eq_getElem (show 0<sx.size from by omega)⟩
   have TM:=y3.toNat_lt
   refine R.q (q.iK (i:=0) O O Tryz.underlying9 O hy3) O<|?_
   by_cases h9:y3.toNat=72
   .
    refine R.q (q.neq O O (bne_eq_false_iff_eq.2 (by omega))) O<|R.u 1 O<|R.qg O (q.aP (off':=1) O iq O) O<|R.qg O (q.ld 0 O O ap O) O<|?_
    by_cases h10:1<dB (sx.extract 5 9)
    .
     refine R.qg O (q.gtr O O (decide_eq_true (by omega))) O<|R.u 11 O<|R.nil ?_
     refine R.az O O ?_
     refine R.reg O<|R.q (q.build (cs:=[iV 0,iV 0,iV 0,iV 0]) eN O O) O<|?_
     refine R.s O (s.st (us:=[iV 0,iV 0,iV 0,iV 0]) (cs':=[iV 0,iV 0,iV 0,iV 0]) 1 _ O O O O (.inl aU) O O O O) fun _=>?_
     refine R.nil ?_
     have hz:cm sx=(⟨0,0,0,0⟩:cY):=by (rw [dc (by unfold fF;(rw [aK hy3]);omega)];done)
     rw [hz]
     exact R.w1 () [2] [] O Tryz.results86 (RV.cell 1 O O aU) O O O O
    refine R.qg O (q.gtr O O (decide_eq_false (by omega))) O<|R.u 2 O<|R.qg O (q.aP (off':=2) O jU O) O<|R.qg O (q.ld 0 O O ap O) O<|?_
    by_cases h11:2400<dB (sx.extract 9 13)
    .
     refine R.qg O (q.gtr O O (decide_eq_true (by omega))) O<|R.u 6 O<|R.nil ?_
     refine R.az O O ?_
     refine R.reg O<|R.q (q.build (cs:=[iV 0,iV 0,iV 0,iV 0]) eN O O) O<|?_
     refine R.s O (s.st (us:=[iV 0,iV 0,iV 0,iV 0]) (cs':=[iV 0,iV 0,iV 0,iV 0]) 1 _ O O O O (.inl aU) O O O O) fun _=>?_
     refine R.nil ?_
     have hz:cm sx=(⟨0,0,0,0⟩:cY):=by (rw [dc (by unfold fF;(rw [aK hy3]);omega)];done)
     rw [hz]
     exact R.w1 () [2] [] O Tryz.results86 (RV.cell 1 O O aU) O O O O
    refine R.qg O (q.gtr O O (decide_eq_false (by omega))) O<|R.u 2 O<|R.qg O (q.aP (off':=3) O iX O) O<|R.qg O (q.ld 0 O O ap O) O<|?_
    by_cases h12:dB (sx.extract 13 17)<1
    .
     refine R.qg O (q.lss O O (decide_eq_true (by omega))) O<|R.u 1 O<|R.nil ?_
     refine R.az O O ?_
     refine R.reg O<|R.q (q.build (cs:=[iV 0,iV 0,iV 0,iV 0]) eN O O) O<|?_
     refine R.s O (s.st (us:=[iV 0,iV 0,iV 0,iV 0]) (cs':=[iV 0,iV 0,iV 0,iV 0]) 1 _ O O O O (.inl aU) O O O O) fun _=>?_
     refine R.nil ?_
     have hz:cm sx=(⟨0,0,0,0⟩:cY):=by (rw [dc (by unfold fF;(rw [aK hy3]);omega)];done)
     rw [hz]
     exact R.w1 () [2] [] O Tryz.results86 (RV.cell 1 O O aU) O O O O
    refine R.qg O (q.lss O O (decide_eq_false (by omega))) O<|R.u 1 O<|R.nil ?_
    refine R.aD O O ?_
    refine R.reg O<|R.q (q.cT 0 O O aU) O<|?_
    refine R.s O (s.st (us:=[iV (dB (sx.extract 1 5):Int),iV (dB (sx.extract 5 9):Int),iV (dB (sx.extract 9 13):Int),iV (dB (sx.extract 13 17):Int)]) (cs':=[iV (dB (sx.extract 1 5):Int),iV (dB (sx.extract 5 9):Int),iV (dB (sx.extract 9 13):Int),iV (dB (sx.extract 13 17):Int)]) 1 _ O O O O (.inl aU) O O O O) fun _=>?_
    refine R.nil ?_
    have hz:cm sx=(⟨(dB (sx.extract 1 5):Int),(dB (sx.extract 5 9):Int),(dB (sx.extract 9 13):Int),(dB (sx.extract 13 17):Int)⟩:cY):=by (rw [mo (by unfold fF;(rw [aK hy3]);omega)];rfl)
    rw [hz]
    exact R.w1 () [2] [] O Tryz.results86 (RV.cell 1 O O aU) O O O O
   refine R.q (q.neq O O (bne_iff_ne.2 (by omega))) O<|R.u 15 O<|R.nil ?_
   refine R.az O O ?_
   refine R.reg O<|R.q (q.build (cs:=[iV 0,iV 0,iV 0,iV 0]) eN O O) O<|?_
   refine R.s O (s.st (us:=[iV 0,iV 0,iV 0,iV 0]) (cs':=[iV 0,iV 0,iV 0,iV 0]) 1 _ O O O O (.inl aU) O O O O) fun _=>?_
   refine R.nil ?_
   have hz:cm sx=(⟨0,0,0,0⟩:cY):=by (rw [dc (by unfold fF;(rw [aK hy3]);omega)];done)
   rw [hz]
   exact R.w1 () [2] [] O Tryz.results86 (RV.cell 1 O O aU) O O O O
  refine Do.s (s.alloc (cs:=[iV 0,iV 0,iV 0,iV 0]) jr O O) (fun _=>(kF [1,2] [] O O O)) O fun b5=>?_
  refine D.one (i:=5) O ?_
  refine Do.s (s.c (q.call kj O O (fun w hw=>(eF (sx.extract 5 9) w (by (rw [ByteArray.size_extract];omega))))) O) (fun _=>(kF [1,2] [] O O O)) O fun _=>?_
  refine D.one (i:=8) O ?_
  refine Do.s (s.c (q.call kj O O (fun w hw=>(eF (sx.extract 9 13) w (by (rw [ByteArray.size_extract];omega))))) O) (fun _=>(kF [1,2] [] O O O)) O fun _=>?_
  refine D.one (i:=11) O ?_
  refine Do.s (s.c (q.call kj O O (fun w hw=>(eF (sx.extract 13 17) w (by (rw [ByteArray.size_extract];omega))))) O) (fun _=>(kF [1,2] [] O O O)) O fun _=>?_
  refine D.q (i:=12) O (kF [1,2] [] O O O) O (q.build (cs:=[iV (dB (sx.extract 1 5):Int),iV (dB (sx.extract 5 9):Int),iV (dB (sx.extract 9 13):Int),iV (dB (sx.extract 13 17):Int)]) eN O O) O<|?_
  refine D.one (i:=14) O ?_
  refine Do.s (s.st (us:=[iV (dB (sx.extract 1 5):Int),iV (dB (sx.extract 5 9):Int),iV (dB (sx.extract 9 13):Int),iV (dB (sx.extract 13 17):Int)]) (cs':=[iV (dB (sx.extract 1 5):Int),iV (dB (sx.extract 5 9):Int),iV (dB (sx.extract 9 13):Int),iV (dB (sx.extract 13 17):Int)]) 0 _ O O O O (.inl aU) O O O O) (fun _=>(kF [1,2] [] O O O)) O fun _=>?_
  refine D.done<|?_
  refine R.reg O<|R.u 1 O<|?_
  obtain ⟨y4,hy4⟩:∃z,sx.data[0]? = some z:=⟨_,Array.getElem?_eq_getElem (show 0<sx.size from by omega)⟩
  have UU:=y4.toNat_lt
  refine R.q (q.iK (i:=0) O O Tryz.underlying9 O hy4) O<|?_
  by_cases UX:y4.toNat=72
  .
   refine R.q (q.neq O O (bne_eq_false_iff_eq.2 (by omega))) O<|R.u 1 O<|R.qg O (q.aP (off':=1) O iq O) O<|R.qg O (q.ld 0 O O ap O) O<|?_
   by_cases UY:1<dB (sx.extract 5 9)
   .
    refine R.qg O (q.gtr O O (decide_eq_true (by omega))) O<|R.u 11 O<|R.nil ?_
    refine R.az O O ?_
    refine R.reg O<|R.q (q.build (cs:=[iV 0,iV 0,iV 0,iV 0]) eN O O) O<|?_
    refine R.s O (s.st (us:=[iV 0,iV 0,iV 0,iV 0]) (cs':=[iV 0,iV 0,iV 0,iV 0]) 1 _ O O O O (.inl aU) O O O O) fun _=>?_
    refine R.nil ?_
    have hz:cm sx=(⟨0,0,0,0⟩:cY):=by (rw [dc (by unfold fF;(rw [aK hy4]);omega)];done)
    rw [hz]
    exact R.w1 () [2] [] O Tryz.results86 (RV.cell 1 O O aU) O O O O
   refine R.qg O (q.gtr O O (decide_eq_false (by omega))) O<|R.u 2 O<|R.qg O (q.aP (off':=2) O jU O) O<|R.qg O (q.ld 0 O O ap O) O<|?_
   by_cases UZ:2400<dB (sx.extract 9 13)
   .
    refine R.qg O (q.gtr O O (decide_eq_true (by omega))) O<|R.u 6 O<|R.nil ?_
    refine R.az O O ?_
    refine R.reg O<|R.q (q.build (cs:=[iV 0,iV 0,iV 0,iV 0]) eN O O) O<|?_
    refine R.s O (s.st (us:=[iV 0,iV 0,iV 0,iV 0]) (cs':=[iV 0,iV 0,iV 0,iV 0]) 1 _ O O O O (.inl aU) O O O O) fun _=>?_
    refine R.nil ?_
    have hz:cm sx=(⟨0,0,0,0⟩:cY):=by (rw [dc (by unfold fF;(rw [aK hy4]);omega)];done)
    rw [hz]
    exact R.w1 () [2] [] O Tryz.results86 (RV.cell 1 O O aU) O O O O
   refine R.qg O (q.gtr O O (decide_eq_false (by omega))) O<|R.u 2 O<|R.qg O (q.aP (off':=3) O iX O) O<|R.qg O (q.ld 0 O O ap O) O<|?_
   by_cases h16:dB (sx.extract 13 17)<1
   .
    refine R.qg O (q.lss O O (decide_eq_true (by omega))) O<|R.u 1 O<|R.nil ?_
    refine R.az O O ?_
    refine R.reg O<|R.q (q.build (cs:=[iV 0,iV 0,iV 0,iV 0]) eN O O) O<|?_
    refine R.s O (s.st (us:=[iV 0,iV 0,iV 0,iV 0]) (cs':=[iV 0,iV 0,iV 0,iV 0]) 1 _ O O O O (.inl aU) O O O O) fun _=>?_
    refine R.nil ?_
    have hz:cm sx=(⟨0,0,0,0⟩:cY):=by (rw [dc (by unfold fF;(rw [aK hy4]);omega)];done)
    rw [hz]
    exact R.w1 () [2] [] O Tryz.results86 (RV.cell 1 O O aU) O O O O
   refine R.qg O (q.lss O O (decide_eq_false (by omega))) O<|R.u 1 O<|R.nil ?_
   refine R.aD O O ?_
   refine R.reg O<|R.q (q.cT 0 O O aU) O<|?_
   refine R.s O (s.st (us:=[iV (dB (sx.extract 1 5):Int),iV (dB (sx.extract 5 9):Int),iV (dB (sx.extract 9 13):Int),iV (dB (sx.extract 13 17):Int)]) (cs':=[iV (dB (sx.extract 1 5):Int),iV (dB (sx.extract 5 9):Int),iV (dB (sx.extract 9 13):Int),iV (dB (sx.extract 13 17):Int)]) 1 _ O O O O (.inl aU) O O O O) fun _=>?_
   refine R.nil ?_
   have hz:cm sx=(⟨(dB (sx.extract 1 5):Int),(dB (sx.extract 5 9):Int),(dB (sx.extract 9 13):Int),(dB (sx.extract 13 17):Int)⟩:cY):=by (rw [mo (by unfold fF;(rw [aK hy4]);omega)];rfl)
   rw [hz]
   exact R.w1 () [2] [] O Tryz.results86 (RV.cell 1 O O aU) O O O O
  refine R.q (q.neq O O (bne_iff_ne.2 (by omega))) O<|R.u 15 O<|R.nil ?_
  refine R.az O O ?_
  refine R.reg O<|R.q (q.build (cs:=[iV 0,iV 0,iV 0,iV 0]) eN O O) O<|?_
  refine R.s O (s.st (us:=[iV 0,iV 0,iV 0,iV 0]) (cs':=[iV 0,iV 0,iV 0,iV 0]) 1 _ O O O O (.inl aU) O O O O) fun _=>?_
  refine R.nil ?_
  have hz:cm sx=(⟨0,0,0,0⟩:cY):=by (rw [dc (by unfold fF;(rw [aK hy4]);omega)];done)
  rw [hz]
  exact R.w1 () [2] [] O Tryz.results86 (RV.cell 1 O O aU) O O O O
 refine Do.s (s.alloc (cs:=[iV 0,iV 0,iV 0,iV 0]) jr O O) (fun _=>(kF [1,2] [] O O O)) O fun b6=>?_
 refine D.one (i:=2) O ?_
 refine Do.s (s.c (q.call kj O O (fun w hw=>(eF (sx.extract 1 5) w (by (rw [ByteArray.size_extract];omega))))) O) (fun _=>(kF [1,2] [] O O O)) O fun _=>?_
 refine D.one (i:=5) O ?_
 refine Do.s (s.c (q.call kj O O (fun w hw=>(eF (sx.extract 5 9) w (by (rw [ByteArray.size_extract];omega))))) O) (fun _=>(kF [1,2] [] O O O)) O fun _=>?_
 refine D.one (i:=8) O ?_
 refine Do.s (s.c (q.call kj O O (fun w hw=>(eF (sx.extract 9 13) w (by (rw [ByteArray.size_extract];omega))))) O) (fun _=>(kF [1,2] [] O O O)) O fun _=>?_
 refine D.one (i:=11) O ?_
 refine Do.s (s.c (q.call kj O O (fun w hw=>(eF (sx.extract 13 17) w (by (rw [ByteArray.size_extract];omega))))) O) (fun _=>(kF [1,2] [] O O O)) O fun _=>?_
 refine D.q (i:=12) O (kF [1,2] [] O O O) O (q.build (cs:=[iV (dB (sx.extract 1 5):Int),iV (dB (sx.extract 5 9):Int),iV (dB (sx.extract 9 13):Int),iV (dB (sx.extract 13 17):Int)]) eN O O) O<|?_
 refine D.one (i:=14) O ?_
 refine Do.s (s.st (us:=[iV (dB (sx.extract 1 5):Int),iV (dB (sx.extract 5 9):Int),iV (dB (sx.extract 9 13):Int),iV (dB (sx.extract 13 17):Int)]) (cs':=[iV (dB (sx.extract 1 5):Int),iV (dB (sx.extract 5 9):Int),iV (dB (sx.extract 9 13):Int),iV (dB (sx.extract 13 17):Int)]) 0 _ O O O O (.inl aU) O O O O) (fun _=>(kF [1,2] [] O O O)) O fun _=>?_
 refine D.done<|?_
 refine R.reg O<|R.u 1 O<|?_
 obtain ⟨y5,EV⟩:∃z,sx.data[0]? = some z:=⟨_,Array.getElem?_eq_getElem (show 0<sx.size from by omega)⟩
 have VL:=y5.toNat_lt
 refine R.q (q.iK (i:=0) O O Tryz.underlying9 O EV) O<|?_
 by_cases U0:y5.toNat=72
 .
  refine R.q (q.neq O O (bne_eq_false_iff_eq.2 (by omega))) O<|R.u 1 O<|R.qg O (q.aP (off':=1) O iq O) O<|R.qg O (q.ld 0 O O ap O) O<|?_
  by_cases h18:1<dB (sx.extract 5 9)
  .
   refine R.qg O (q.gtr O O (decide_eq_true (by omega))) O<|R.u 11 O<|R.nil ?_
   refine R.az O O ?_
   refine R.reg O<|R.q (q.build (cs:=[iV 0,iV 0,iV 0,iV 0]) eN O O) O<|?_
   refine R.s O (s.st (us:=[iV 0,iV 0,iV 0,iV 0]) (cs':=[iV 0,iV 0,iV 0,iV 0]) 1 _ O O O O (.inl aU) O O O O) fun _=>?_
   refine R.nil ?_
   have hz:cm sx=(⟨0,0,0,0⟩:cY):=by (rw [dc (by unfold fF;(rw [aK EV]);omega)];done)
   rw [hz]
   exact R.w1 () [2] [] O Tryz.results86 (RV.cell 1 O O aU) O O O O
  refine R.qg O (q.gtr O O (decide_eq_false (by omega))) O<|R.u 2 O<|R.qg O (q.aP (off':=2) O jU O) O<|R.qg O (q.ld 0 O O ap O) O<|?_
  by_cases h19:2400<dB (sx.extract 9 13)
  .
   refine R.qg O (q.gtr O O (decide_eq_true (by omega))) O<|R.u 6 O<|R.nil ?_
   refine R.az O O ?_
   refine R.reg O<|R.q (q.build (cs:=[iV 0,iV 0,iV 0,iV 0]) eN O O) O<|?_
   refine R.s O (s.st (us:=[iV 0,iV 0,iV 0,iV 0]) (cs':=[iV 0,iV 0,iV 0,iV 0]) 1 _ O O O O (.inl aU) O O O O) fun _=>?_
   refine R.nil ?_
   have hz:cm sx=(⟨0,0,0,0⟩:cY):=by (rw [dc (by unfold fF;(rw [aK EV]);omega)];done)
   rw [hz]
   exact R.w1 () [2] [] O Tryz.results86 (RV.cell 1 O O aU) O O O O
  refine R.qg O (q.gtr O O (decide_eq_false (by omega))) O<|R.u 2 O<|R.qg O (q.aP (off':=3) O iX O) O<|R.qg O (q.ld 0 O O ap O) O<|?_
  by_cases h20:dB (sx.extract 13 17)<1
  .
   refine R.qg O (q.lss O O (decide_eq_true (by omega))) O<|R.u 1 O<|R.nil ?_
   refine R.az O O ?_
   refine R.reg O<|R.q (q.build (cs:=[iV 0,iV 0,iV 0,iV 0]) eN O O) O<|?_
   refine R.s O (s.st (us:=[iV 0,iV 0,iV 0,iV 0]) (cs':=[iV 0,iV 0,iV 0,iV 0]) 1 _ O O O O (.inl aU) O O O O) fun _=>?_
   refine R.nil ?_
   have hz:cm sx=(⟨0,0,0,0⟩:cY):=by (rw [dc (by unfold fF;(rw [aK EV]);omega)];done)
   rw [hz]
   exact R.w1 () [2] [] O Tryz.results86 (RV.cell 1 O O aU) O O O O
  refine R.qg O (q.lss O O (decide_eq_false (by omega))) O<|R.u 1 O<|R.nil ?_
  refine R.aD O O ?_
  refine R.reg O<|R.q (q.cT 0 O O aU) O<|?_
  refine R.s O (s.st (us:=[iV (dB (sx.extract 1 5):Int),iV (dB (sx.extract 5 9):Int),iV (dB (sx.extract 9 13):Int),iV (dB (sx.extract 13 17):Int)]) (cs':=[iV (dB (sx.extract 1 5):Int),iV (dB (sx.extract 5 9):Int),iV (dB (sx.extract 9 13):Int),iV (dB (sx.extract 13 17):Int)]) 1 _ O O O O (.inl aU) O O O O) fun _=>?_
  refine R.nil ?_
  have hz:cm sx=(⟨(dB (sx.extract 1 5):Int),(dB (sx.extract 5 9):Int),(dB (sx.extract 9 13):Int),(dB (sx.extract 13 17):Int)⟩:cY):=by (rw [mo (by unfold fF;(rw [aK EV]);omega)];rfl)
  rw [hz]
  exact R.w1 () [2] [] O Tryz.results86 (RV.cell 1 O O aU) O O O O
 refine R.q (q.neq O O (bne_iff_ne.2 (by omega))) O<|R.u 15 O<|R.nil ?_
 refine R.az O O ?_
 refine R.reg O<|R.q (q.build (cs:=[iV 0,iV 0,iV 0,iV 0]) eN O O) O<|?_
 refine R.s O (s.st (us:=[iV 0,iV 0,iV 0,iV 0]) (cs':=[iV 0,iV 0,iV 0,iV 0]) 1 _ O O O O (.inl aU) O O O O) fun _=>?_
 refine R.nil ?_
 have hz:cm sx=(⟨0,0,0,0⟩:cY):=by (rw [dc (by unfold fF;(rw [aK EV]);omega)];done)
 rw [hz]
 exact R.w1 () [2] [] O Tryz.results86 (RV.cell 1 O O aU) O O O O
structure kY where
  Epoch:Int
  Side:Int
  Size:Int
  First:Int
  Rows:List Change
def oE.c (st:oE):kY:=⟨st.Epoch,st.Side,st.Size,st.First,st.Rows⟩
theorem Da {t:ByteArray}{x y z:UInt8}(hx:t.data[0]? = some x)(hy:t.data[1]? = some y)(hz:t.data[2]? = some z):p8 t=3+x.toNat+y.toNat+256*z.toNat:=by
 unfold p8;rw [aK hx,aK hy,aK hz]
theorem Ke {t:ByteArray}{x y z:UInt8}{c:Change}(hx:t.data[0]? = some x)(hy:t.data[1]? = some y)(hz:t.data[2]? = some z)(hc:c=⟨t.extract 3 (3+x.toNat),t.extract (3+x.toNat) (3+x.toNat+y.toNat+256*z.toNat),false⟩):xa t=c:=by
 rw [hc];unfold xa;rw [Da hx hy hz,aK hx]
theorem HQ (sx:ByteArray)(w:World)(own:List Nat)(H:HN w own [] [])(hs:sx.size<=2400):RC Tryz.prog 87 #[.string sx] H (fun z:Value => .tuple #[z,.bool (eX sx).2]) (fun z=>[ag.row 117 z (eX sx).1]) (fun _=>[]):=by
 refine R.bF [(0,.string sx)] Tryz.func87 O O O O H<|R.reg O<|R.u 2 O<|R.nil<|R.reg O<|R.u 1 O<|R.nil<|R.row0 (α:=Change) 117<|R.loop (fun g_:ByteArray×Nat×Value×(List Change)=>[(0,.string g_.1),(4,g_.2.2.1)]) (fun g_=>[ag.row 117 g_.2.2.1 g_.2.2.2,ag.held w own]) (fun g_=>[]) (fun g_=>g_.1.size+g_.2.2.2.length<=2400/\g_.1.size<g_.2.1/\pd g_.2.1 g_.1 g_.2.2.2=eX sx) (fun g_=>g_.2.1) (sx,sx.size+1,(nS),[]) O (by dsimp only;exact ⟨by simp;omega,by omega,rfl⟩) (sF O) (iz [0,1] [] O) ?_
 rintro ⟨tt,k,u,rs⟩ ⟨hl,hk,HP⟩
 dsimp only at *
 refine R.reg O<|R.u 1 O<|?_
 by_cases h1:tt=⟨#[]⟩
 .
  refine R.q (q.uy O O h1) O<|R.nil<|R.aD O O<|R.reg O<|R.u 3 O<|R.nil ?_
  have hz:eX sx=(rs,true):=by (exact (Mq HP hk ‹_›))
  rw [hz]
  exact R.w2 u [0,1] [] O Tryz.results87 (RV.tmp O) (RV.tmp O) O O O (dy O O)
 refine R.q (q.yU O O h1) O<|R.nil<|R.az O O ?_
 by_cases h2:tt.size<3
 .
  refine R.eZ O mixed (by kernel_rfl)<|Q.u 1 O<|Q.q (q.iy O Tryz.underlying9) O<|Q.q (q.dC O O) O<|Q.u 18 O<|Q.nil<|R.az O O<|R.reg O<|R.u 2 O<|R.nil<|R.row0 (α:=Change) 117 ?_
  have hz:eX sx=([],false):=by (exact (Gs HP hk ‹_› (.inl (by omega))))
  rw [hz]
  exact R.w2 (nS) [0,2] [] O Tryz.results87 (RV.tmp O) (RV.tmp O) O O O (dy O O)
 obtain ⟨y1,hy1⟩:∃z,tt.data[0]? = some z:=⟨_,Array.getElem?_eq_getElem (show 0<tt.size from by omega)⟩
 have Sj:=y1.toNat_lt
 obtain ⟨y2,hy2⟩:∃z,tt.data[1]? = some z:=⟨_,Array.getElem?_eq_getElem (show 1<tt.size from by omega)⟩
 have Sk:=y2.toNat_lt
 obtain ⟨y3,hy3⟩:∃z,tt.data[2]? = some z:=⟨_,Array.getElem?_eq_getElem (show 2<tt.size from by omega)⟩
 have TM:=y3.toNat_lt
 by_cases h3:tt.size<(((3+y1.toNat)+y2.toNat)+(256*y3.toNat))
 .
  refine R.eZ O mixed (by kernel_rfl)<|Q.u 1 O<|Q.q (q.iy O Tryz.underlying9) O<|Q.q (q.cS O O) O<|Q.u 2 O<|Q.qg O (q.iK (i:=0) O O Tryz.underlying9 O hy1) O<|Q.qg O (q.nf (r:=((y1.toNat:Nat):Int)) O (by rw [Tryz.underlying5];rfl) Tryz.underlying3 (wr (by omega))) O<|Q.qg O (q.bA (r:=((3+y1.toNat:Nat):Int)) O O) O<|Q.u 1 O<|Q.qg O (q.iK (i:=1) O O Tryz.underlying9 O hy2) O<|Q.qg O (q.nf (r:=((y2.toNat:Nat):Int)) O (by rw [Tryz.underlying5];rfl) Tryz.underlying3 (wr (by omega))) O<|Q.qg O (q.bA (r:=(((3+y1.toNat)+y2.toNat:Nat):Int)) O O) O<|Q.u 1 O<|Q.qg O (q.iK (i:=2) O O Tryz.underlying9 O hy3) O<|Q.qg O (q.nf (r:=((y3.toNat:Nat):Int)) O (by rw [Tryz.underlying5];rfl) Tryz.underlying3 (wr (by omega))) O<|Q.qg O (q.uZ (r:=((256*y3.toNat:Nat):Int)) O O) O<|Q.qg O (q.bA (r:=((((3+y1.toNat)+y2.toNat)+(256*y3.toNat):Nat):Int)) O O) O<|Q.u 1 O<|Q.qg O (q.iy O Tryz.underlying9) O<|Q.qg O (q.eM O O) O<|Q.u 1 O<|Q.nil<|R.az O O<|R.reg O<|R.u 2 O<|R.nil<|R.row0 (α:=Change) 117 ?_
  have hz:eX sx=([],false):=by (exact (Gs HP hk ‹_› (.inr (by rw [Da hy1 hy2 hy3];omega))))
  rw [hz]
  exact R.w2 (nS) [0,2] [] O Tryz.results87 (RV.tmp O) (RV.tmp O) O O O (dy O O)
 refine R.eZ O mixed (by kernel_rfl)<|Q.u 1 O<|Q.q (q.iy O Tryz.underlying9) O<|Q.q (q.cS O O) O<|Q.u 2 O<|Q.qg O (q.iK (i:=0) O O Tryz.underlying9 O hy1) O<|Q.qg O (q.nf (r:=((y1.toNat:Nat):Int)) O (by rw [Tryz.underlying5];rfl) Tryz.underlying3 (wr (by omega))) O<|Q.qg O (q.bA (r:=((3+y1.toNat:Nat):Int)) O O) O<|Q.u 1 O<|Q.qg O (q.iK (i:=1) O O Tryz.underlying9 O hy2) O<|Q.qg O (q.nf (r:=((y2.toNat:Nat):Int)) O (by rw [Tryz.underlying5];rfl) Tryz.underlying3 (wr (by omega))) O<|Q.qg O (q.bA (r:=(((3+y1.toNat)+y2.toNat:Nat):Int)) O O) O<|Q.u 1 O<|Q.qg O (q.iK (i:=2) O O Tryz.underlying9 O hy3) O<|Q.qg O (q.nf (r:=((y3.toNat:Nat):Int)) O (by rw [Tryz.underlying5];rfl) Tryz.underlying3 (wr (by omega))) O<|Q.qg O (q.uZ (r:=((256*y3.toNat:Nat):Int)) O O) O<|Q.qg O (q.bA (r:=((((3+y1.toNat)+y2.toNat)+(256*y3.toNat):Nat):Int)) O O) O<|Q.u 1 O<|Q.qg O (q.iy O Tryz.underlying9) O<|Q.qg O (q.ey O O) O<|Q.u 1 O<|Q.nil<|R.aD O O<|R.reg O<|R.u 1 O<|R.q (q.iK (i:=0) O O Tryz.underlying9 O hy1) O<|R.q (q.nf (r:=((y1.toNat:Nat):Int)) O (by rw [Tryz.underlying5];rfl) Tryz.underlying3 (wr (by omega))) O<|R.q (q.bA (r:=((3+y1.toNat:Nat):Int)) O O) O<|R.u 1 O<|R.nil<|R.eZ O mixed (by kernel_rfl)<|Q.u 2 O<|Q.q (q.iK (i:=1) O O Tryz.underlying9 O hy2) O<|Q.q (q.nf (r:=((y2.toNat:Nat):Int)) O (by rw [Tryz.underlying5];rfl) Tryz.underlying3 (wr (by omega))) O<|Q.q (q.bA (r:=(((3+y1.toNat)+y2.toNat:Nat):Int)) O O) O<|Q.u 1 O<|Q.q (q.iK (i:=2) O O Tryz.underlying9 O hy3) O<|Q.q (q.nf (r:=((y3.toNat:Nat):Int)) O (by rw [Tryz.underlying5];rfl) Tryz.underlying3 (wr (by omega))) O<|Q.q (q.uZ (r:=((256*y3.toNat:Nat):Int)) O O) O<|Q.q (q.bA (r:=((((3+y1.toNat)+y2.toNat)+(256*y3.toNat):Nat):Int)) O O) O<|Q.u 1 O<|Q.nil<|R.fJ (fuel:=10) [0,1] O O mixed O<|D.q (i:=0) O (aA [0,1] [] O) O (q.mv O) O<|D.q (i:=1) O (aA [0,1] [] O) O (q.mv O) O<|D.q (i:=2) O (aA [0,1] [] O) O (q.Cp (i:=3) (j:=(3+y1.toNat)) O O O Tryz.underlying9 O O (by omega) (by omega)) O<|D.q (i:=3) O (aA [0,1] [] O) O (q.mv O) O<|D.q (i:=4) O (aA [0,1] [] O) O (q.mv O) O<|D.q (i:=5) O (aA [0,1] [] O) O (q.mv O) O<|D.q (i:=6) O (aA [0,1] [] O) O (q.Cp (i:=(3+y1.toNat)) (j:=(((3+y1.toNat)+y2.toNat)+(256*y3.toNat))) O O O Tryz.underlying9 O O (by omega) (by omega)) O<|D.q (i:=7) O (aA [0,1] [] O) O (q.build kM O O) O<|D.one (i:=8) O<|Do.s (s.alloc cC O O) (fun _=>(aA [1,2] [] O)) O fun b1=>?_
 refine D.one (i:=9) O<|Do.s (s.st 0 _ O O O O (.inl aX) O O O O) (fun _=>(aA [1,2] [] O)) O fun _=>?_
 refine D.done<|R.reg O<|R.q (q.cT 0 O O aX) O<|R.c (q.call tJ O O (fun w hw=>(ju (⟨(tt.extract 3 (3+y1.toNat)),(tt.extract (3+y1.toNat) (((3+y1.toNat)+y2.toNat)+(256*y3.toNat))),false⟩:Change) w ))) O<|?_
 by_cases h4:iL (⟨(tt.extract 3 (3+y1.toNat)),(tt.extract (3+y1.toNat) (((3+y1.toNat)+y2.toNat)+(256*y3.toNat))),false⟩:Change)=0
 .
  refine R.q (q.dx O O Tryz.underlying38) O<|R.nil<|R.aD O O<|R.reg O<|R.u 1 O<|R.q (q.cT 0 O O aX) O<|R.s O (s.bs (l:=([(⟨(tt.extract 3 (3+y1.toNat)),(tt.extract (3+y1.toNat) (((3+y1.toNat)+y2.toNat)+(256*y3.toNat))),false⟩:Change)]:List Change)) bW cC O O O O O O O) fun b2=>?_
  refine R.s O (s.pre (fun _ hw=>hw.cW 2 _ O O) (s.pre (fun _ hw=>hw.cW 0 _ O O) (s.aT [0,1] [1,0] _ _ _ O O O Ji O O (fun w own hw H=>oA u rs (.slice (some ⟨b2,0,none⟩) 1 1) ([(⟨(tt.extract 3 (3+y1.toNat)),(tt.extract (3+y1.toNat) (((3+y1.toNat)+y2.toNat)+(256*y3.toNat))),false⟩:Change)]) w own H (by (simp;omega))) O))) fun z1=>?_
  refine R.u 1 O<|R.nil<|R.reg O<|R.u 2 O<|R.q (q.Cq (i:=(((3+y1.toNat)+y2.toNat)+(256*y3.toNat))) O O Tryz.underlying9 O (by omega)) O<|R.u 1 O<|R.nil<|R.back ((tt.extract (((3+y1.toNat)+y2.toNat)+(256*y3.toNat)) tt.size),k-1,z1,cb rs ([(⟨(tt.extract 3 (3+y1.toNat)),(tt.extract (3+y1.toNat) (((3+y1.toNat)+y2.toNat)+(256*y3.toNat))),false⟩:Change)])) O (by ((try dsimp only);have g:=PY HP hk ‹_› (by rw [Da hy1 hy2 hy3];omega) (by rw [Ke hy1 hy2 hy3 O];assumption);rw [Da hy1 hy2 hy3,Ke hy1 hy2 hy3 O] at g;have ha:=kU [(⟨(tt.extract 3 (3+y1.toNat)),(tt.extract (3+y1.toNat) (((3+y1.toNat)+y2.toNat)+(256*y3.toNat))),false⟩:Change)] rs;rw [List.length_singleton] at ha;exact ⟨by rw [ByteArray.size_extract];omega,g.2,g.1⟩)) (by dsimp only;omega) (sF O) (aA [0,2] [] O)
 refine R.q (q.dX O O Tryz.underlying38) O<|R.nil<|R.az O O<|R.reg O<|R.u 2 O<|R.nil<|R.row0 (α:=Change) 117 ?_
 have hz:eX sx=([],false):=by (exact (HM HP hk ‹_› (by rw [Da hy1 hy2 hy3];omega) (by rw [Ke hy1 hy2 hy3 rfl];assumption)))
 rw [hz]
 exact R.w2 (nS) [0,3] [] O Tryz.results87 (RV.tmp O) (RV.tmp O) O O O (dy O O)
theorem Kf {k i:Nat}{m:cw}{e:Int}{Z:cw×Int}(h:kv k i (m,e)=Z)(he:e=0)(hk:0<k):kv (k-1) (i+1) (au m (i:Int) ⟨#[]⟩)=Z:=by
 cases k with
 | zero=>omega
 | succ k=>rw [kv,if_pos he] at h;exact h
theorem Db {k i:Nat}{m:cw}{e:Int}{Z:cw×Int}(h:kv k i (m,e)=Z)(he:¬ e=0):Z=(m,e):=by
 cases k with
 | zero=>exact h.symm
 | succ k=>rw [kv,if_neg he] at h;exact h.symm
theorem tV {k i:Nat}{m:cw}{e:Int}{Z:cw×Int}(h:kv k i (m,e)=Z)(hk:k=0):Z=(m,e):=by subst hk;exact h.symm
theorem EY (aH:Nat)(ay aF av:Value)(dk:cw)(w:World)(own:List Nat)(H:HN w own [ag.box aH [ay,aF,av,iV dk.Fuse,.bool dk.Down] 112,ag.row 9 ay dk.Kept,ag.row 9 aF dk.Now,ag.row 114 av dk.Wait] [])(hD:fM dk.Now.length 80000 dk/\dk.Now.length<=1000):RC Tryz.prog 69 #[.pointer (some ⟨aH,0,none⟩)] H (fun _:Value×Value×Value=>df (dH dk).2) (fun z=>[ag.box aH [z.1,z.2.1,z.2.2,iV (dH dk).1.Fuse,.bool (dH dk).1.Down] 112,ag.row 9 z.1 (dH dk).1.Kept,ag.row 9 z.2.1 (dH dk).1.Now,ag.row 114 z.2.2 (dH dk).1.Wait]) (fun _=>[]):=by
 have dZ:=H.cap 1 rfl;have d9:=H.cE 1 rfl
 have fh:=H.cap 2 rfl;have fj:=H.cE 2 rfl
 have ea:=H.cap 3 rfl;have ec:=H.cE 3 rfl
 have p0:=hD.1.fine (by omega) (by omega)
 refine R.bF [(0,.pointer (some ⟨aH,0,none⟩))] Tryz.func69 O O O O H<|R.reg O<|R.u 1 O<|R.nil<|R.reg O<|R.u 1 O<|R.c (q.call uB O O (fun w hw=>(gB aH ay aF av dk w (hw.b 0 O) (hw.row 1 O) (hw.row 2 O) (hw.row 3 O) ))) O<|?_
 by_cases h1:dk.Now.length<166
 .
  refine R.q (q.dC O O) O<|R.nil<|R.az O O<|R.reg O<|R.q (q.iface O br) O<|R.u 1 O<|R.nil ?_
  have hz:dH dk=(dk,9):=by (exact HO (by omega))
  rw [hz]
  exact R.w1 (ay,aF,av) gV [] O Tryz.results69 (RV.tmp O) O O O (dj (by decide) O)
 refine R.q (q.cS O O) O<|R.nil<|R.aD O O<|R.reg O<|R.u 1 O<|R.s O (s.aT gV [] _ _ _ O O O uA O O (fun w own hw H=>iZ aH ay aF av dk 0 (⟨#[]⟩) w own H ‹_›) O) ?_
 rintro ⟨z1,z2,z3⟩
 dsimp only
 refine R.u 1 O<|R.nil<|R.reg O<|R.u 1 O<|R.nil<|R.loop (fun g_:Nat×Int×cw×Value×Value×Value=>[(0,.pointer (some ⟨aH,0,none⟩)),(3,df g_.2.1),(4,iV ((102+g_.1):Int))]) (fun g_=>[ag.box aH [g_.2.2.2.1,g_.2.2.2.2.1,g_.2.2.2.2.2,iV g_.2.2.1.Fuse,.bool g_.2.2.1.Down] 112,ag.row 9 g_.2.2.2.1 g_.2.2.1.Kept,ag.row 9 g_.2.2.2.2.1 g_.2.2.1.Now,ag.row 114 g_.2.2.2.2.2 g_.2.2.1.Wait,ag.held w own]) (fun g_=>[]) (fun g_=>102+g_.1<=dk.Now.length/\kv (dk.Now.length-102-g_.1) (102+g_.1) (g_.2.2.1,g_.2.1)=w9 dk/\fM dk.Now.length (80001+g_.1) g_.2.2.1) (fun g_=>dk.Now.length-g_.1) (0,(au dk 0 (⟨#[]⟩)).2,(au dk 0 (⟨#[]⟩)).1,z1,z2,z3) O (by (try dsimp only);exact ⟨by omega,rfl,hD.1.write _ _⟩) (sF O) (iz gV [] O) ?_
 rintro ⟨j,e,dm,ej,fN,eo⟩ ⟨hj,HB,hO⟩
 dsimp only at *
 have Ws:=hO.nl;have p1:=hO.fine (by omega) (by omega)
 refine R.reg O<|R.u 2 O<|R.c (q.call uB O O (fun w hw=>(gB aH ej fN eo dm w (hw.b 0 O) (hw.row 1 O) (hw.row 2 O) (hw.row 3 O) ))) O<|?_
 by_cases h2:(102+j)<dm.Now.length
 .
  refine R.q (q.dC O O) O<|R.u 2 O<|?_
  by_cases h3:e=0
  .
   refine R.qg O (q.lP O O Tryz.underlying38) O<|R.u 1 O<|R.nil<|R.az O O<|R.reg O<|R.u 2 O<|R.s O (s.aT gV [] _ _ _ O O O uA O O (fun w own hw H=>iZ aH ej fN eo dm ((102+j):Int) (⟨#[]⟩) w own H ‹_›) O) ?_
   rintro ⟨z4,z5,z6⟩
   dsimp only
   refine R.u 1 O<|R.nil<|R.reg O<|R.u 1 O<|R.q (q.bA (r:=(((102+j)+1:Nat):Int)) O O) O<|R.u 1 O<|R.nil<|R.back (j+1,(au dm ((102+j):Int) (⟨#[]⟩)).2,(au dm ((102+j):Int) (⟨#[]⟩)).1,z4,z5,z6) O (by ((try dsimp only);exact ⟨by omega,by have g:=Kf HB ‹_› (by omega);rwa [show dk.Now.length-102-(j+1)=dk.Now.length-102-j-1 by omega],hO.write _ _⟩)) (by dsimp only;omega) (sF O) (aA gV [] O)
  refine R.qg O (q.jx O O Tryz.underlying38) O<|R.u 1 O<|R.nil<|R.aD O O<|R.reg O<|R.u 1 O<|R.q (q.jx O O Tryz.underlying38) O<|R.nil<|R.aD O O<|R.reg O<|R.u 1 O<|R.q (q.jx O O Tryz.underlying38) O<|R.nil<|R.aD O O<|R.reg O<|R.u 1 O<|R.q (q.jx O O Tryz.underlying38) O<|R.nil<|R.aD O O<|R.reg O<|R.u 2 O<|R.nil ?_
  have hz:dH dk=(dm,e):=by (exact Ob (by omega) (by exact (Db HB ‹_›)) ‹_›)
  rw [hz]
  exact R.w1 (ej,fN,eo) gV [] O Tryz.results69 (RV.tmp O) O O O O
 refine R.q (q.cS O O) O<|R.u 4 O<|R.nil<|R.aD O O<|R.reg O<|R.u 1 O<|?_
 by_cases h4:e=0
 .
  refine R.q (q.lP O O Tryz.underlying38) O<|R.nil<|R.az O O<|R.reg O<|R.u 1 O<|R.s O (s.aT gV [] _ _ _ O O O zb O O (fun w own hw H=>kS aH ej fN eo dm w own H ‹_›) O) ?_
  rintro ⟨z7,z8,z9⟩
  dsimp only
  refine R.u 1 O<|R.nil<|R.reg O<|R.u 1 O<|?_
  by_cases h5:(ai dm).2=0
  .
   refine R.q (q.lP O O Tryz.underlying38) O<|R.nil<|R.az O O ?_
   have p2:=hO.flush.fine (by omega) (by omega)
   refine R.reg O<|R.u 1 O<|R.q (q.build eN O O) O<|R.c (q.call NV O O (fun w hw=>(zu (⟨1,0,0,1⟩:cY) w (by (dsimp only;omega))))) O<|?_
   refine R.s O (s.aT gV [] _ _ _ O O O uA O O (fun w own hw H=>iZ aH z7 z8 z9 (ai dm).1 1 (aL (⟨1,0,0,1⟩:cY)) w own H ‹_›) O) ?_
   rintro ⟨mG,l5,z12⟩
   dsimp only
   refine R.u 1 O<|R.nil<|R.reg O<|R.u 1 O<|?_
   by_cases h6:(au (ai dm).1 1 (aL (⟨1,0,0,1⟩:cY))).2=0
   .
    refine R.q (q.lP O O Tryz.underlying38) O<|R.nil<|R.az O O ?_
    have p3:=(hO.flush.write 1 (aL ⟨1,0,0,1⟩)).fine (by omega) (by omega)
    refine R.reg O<|R.u 1 O<|R.s O (s.aT gV [] _ _ _ O O O zb O O (fun w own hw H=>kS aH mG l5 z12 (au (ai dm).1 1 (aL (⟨1,0,0,1⟩:cY))).1 w own H ‹_›) O) ?_
    rintro ⟨py,yv,Gt⟩
    dsimp only
    refine R.u 1 O<|R.nil<|R.reg O<|R.u 2 O<|R.nil ?_
    have hz:dH dk=(((ai (au (ai dm).1 1 (aL (⟨1,0,0,1⟩:cY))).1).1),(ai (au (ai dm).1 1 (aL (⟨1,0,0,1⟩:cY))).1).2):=by (exact Oc (by omega) (by exact (tV HB (by omega))) ‹_› ‹_› ‹_›)
    rw [hz]
    exact R.w1 (py,yv,Gt) gV [] O Tryz.results69 (RV.tmp O) O O O O
   refine R.q (q.jx O O Tryz.underlying38) O<|R.nil<|R.aD O O<|R.reg O<|R.u 2 O<|R.nil ?_
   have hz:dH dk=(((au (ai dm).1 1 (aL (⟨1,0,0,1⟩:cY))).1),(au (ai dm).1 1 (aL (⟨1,0,0,1⟩:cY))).2):=by (exact SE (by omega) (by exact (tV HB (by omega))) ‹_› ‹_› ‹_›)
   rw [hz]
   exact R.w1 (mG,l5,z12) gV [] O Tryz.results69 (RV.tmp O) O O O O
  refine R.q (q.jx O O Tryz.underlying38) O<|R.nil<|R.aD O O<|R.reg O<|R.u 1 O<|R.q (q.jx O O Tryz.underlying38) O<|R.nil<|R.aD O O<|R.reg O<|R.u 2 O<|R.nil ?_
  have hz:dH dk=(((ai dm).1),(ai dm).2):=by (exact SD (by omega) (by exact (tV HB (by omega))) ‹_› ‹_›)
  rw [hz]
  exact R.w1 (z7,z8,z9) gV [] O Tryz.results69 (RV.tmp O) O O O O
 refine R.q (q.jx O O Tryz.underlying38) O<|R.nil<|R.aD O O<|R.reg O<|R.u 1 O<|R.q (q.jx O O Tryz.underlying38) O<|R.nil<|R.aD O O<|R.reg O<|R.u 1 O<|R.q (q.jx O O Tryz.underlying38) O<|R.nil<|R.aD O O<|R.reg O<|R.u 2 O<|R.nil ?_
 have hz:dH dk=(dm,e):=by (exact Ob (by omega) (by exact (Db HB ‹_›)) ‹_›)
 rw [hz]
 exact R.w1 (ej,fN,eo) gV [] O Tryz.results69 (RV.tmp O) O O O O
structure vh where
  Buf:List UInt8
structure Mr where
  Used:Bool
  Buf:List UInt8
theorem yA (jd:Nat)(fx:Value)(bd:vh)(w:World)(own:List Nat)(H:HN w own [ag.box jd [.pointer none,fx] 194,ag.row 5 fx bd.Buf] []):RC Tryz.prog 183 #[.pointer (some ⟨jd,0,none⟩)] H (fun _:Value => .tuple #[]) (fun z=>[ag.box jd [.pointer (some ⟨jd,0,none⟩),z] 194,ag.row 5 z bd.Buf]) (fun _=>[]):=by
 have xg:=H.cap 1 rfl;have xh:=H.cE 1 rfl
 refine R.bF [(0,.pointer (some ⟨jd,0,none⟩))] Tryz.func183 O O O O H<|R.reg O<|R.u 1 O<|R.q (q.bR O) O<|R.q (q.aP O ot O) O<|R.q (q.ld 0 O O sJ O) O<|R.q (q.OO O O Tryz.underlying192) O<|R.nil<|R.az O O<|R.reg O<|R.u 2 O<|R.q (q.VO (i:=0) O O Tryz.underlying192 Tryz.underlying252 O (by decide) (by simp)) O<|R.q (q.Sr Tryz.func202 (by decide +kernel) O O O O O) O<|R.q (q.VP (i:=0) O O Tryz.underlying252 Tryz.underlying192 O 2 O (by decide +kernel)) O<|R.q (q.bR O) O<|R.q (q.aP O ot O) O<|R.s O (s.st 0 _ O O O O (.inr ⟨sJ,rfl⟩) O O O O) fun _=>?_
 exact R.nil<|R.w0 fx [0,1,2] [] (by exact .inl O) Tryz.results183 O O O O
theorem yB (jd:Nat)(fx:Value)(bd:vh)(sx:ByteArray)(w:World)(own:List Nat)(H:HN w own [ag.box jd [.pointer none,fx] 194,ag.row 5 fx bd.Buf] [])(hl:bd.Buf.length+sx.size<=1000000):RC Tryz.prog 136 #[.pointer (some ⟨jd,0,none⟩),.string sx] H (fun _:Value => .tuple #[iV (sx.size:Int),.nilIface]) (fun z=>[ag.box jd [.pointer (some ⟨jd,0,none⟩),z] 194,ag.row 5 z ((⟨bd.Buf++sx.data.toList⟩:vh).Buf:List UInt8)]) (fun _=>[]):=by
 have xg:=H.cap 1 rfl;have xh:=H.cE 1 rfl
 refine R.bF [(0,.pointer (some ⟨jd,0,none⟩)),(1,.string sx)] Tryz.func136 O O O O H<|R.reg O<|R.u 2 O<|R.nil<|R.reg O<|R.u 1 O<|R.s O (s.aT [0,1,2] [] _ _ _ O O O Jv O O (fun w own hw H=>yA jd fx bd w own H ) O) fun z1=>?_
 refine R.nil<|R.reg O<|R.u 2 O<|R.q (q.bR O) O<|R.q (q.aP O ou O) O<|R.q (q.ld 0 O O mg O) O<|R.u 1 O<|R.s O (s.Ka 1 O O O Tryz.underlying138 Tryz.underlying9 O O O O (by omega) O) fun v1=>?_
 refine R.q (q.bR O) O<|R.q (q.aP O ou O) O<|R.s O (s.fP 0 _ O O O (fun w hw=>Sl.cr (hw.row 1 O)) (.inr ⟨mg,rfl⟩) (fun w hw=>(ae (Sl.one (hw.row 1 O)) aO)) O O O) fun _=>?_
 refine R.nil<|R.reg O<|R.u 1 O<|R.q (q.iy O Tryz.underlying9) O<|R.u 2 O<|R.nil ?_
 have hz:((⟨bd.Buf++sx.data.toList⟩:vh),sx.size)=((⟨(bd.Buf++sx.data.toList)⟩:vh),sx.size):=by (rfl)
 exact R.w2 v1 [0,1,2] [] O Tryz.results136 (RV.tmp O) (RV.tmp O) O O O (dy O O)
theorem yC (jd:Nat)(fx:Value)(bd:vh)(w:World)(own:List Nat)(H:HN w own [ag.box jd [.pointer (some ⟨jd,0,none⟩),fx] 194,ag.row 5 fx bd.Buf] []):RC Tryz.prog 183 #[.pointer (some ⟨jd,0,none⟩)] H (fun _:Value => .tuple #[]) (fun z=>[ag.box jd [.pointer (some ⟨jd,0,none⟩),z] 194,ag.row 5 z bd.Buf]) (fun _=>[]):=by
 have xg:=H.cap 1 rfl;have xh:=H.cE 1 rfl
 exact R.bF [(0,.pointer (some ⟨jd,0,none⟩))] Tryz.func183 rfl rfl rfl rfl H<|R.reg rfl<|R.u 1 rfl<|R.q (q.bR rfl) rfl<|R.q (q.aP rfl ot rfl) rfl<|R.q (q.ld 0 rfl rfl sJ rfl) rfl<|R.q (q.OO rfl rfl Tryz.underlying192) rfl<|R.nil<|R.aD rfl rfl<|R.reg rfl<|R.u 1 rfl<|R.q (q.bR rfl) rfl<|R.q (q.aP rfl ot rfl) rfl<|R.q (q.ld 0 rfl rfl sJ rfl) rfl<|R.u 1 rfl<|R.q (q.same rfl rfl Tryz.underlying192 rfl) rfl<|R.nil<|R.aD rfl rfl<|R.w0 fx [0,1,2] [] (by exact .inl rfl) Tryz.results183 rfl rfl rfl rfl
theorem yD (jd:Nat)(fx:Value)(bd:vh)(sx:ByteArray)(w:World)(own:List Nat)(H:HN w own [ag.box jd [.pointer (some ⟨jd,0,none⟩),fx] 194,ag.row 5 fx bd.Buf] [])(hl:bd.Buf.length+sx.size<=1000000):RC Tryz.prog 136 #[.pointer (some ⟨jd,0,none⟩),.string sx] H (fun _:Value => .tuple #[iV (sx.size:Int),.nilIface]) (fun z=>[ag.box jd [.pointer (some ⟨jd,0,none⟩),z] 194,ag.row 5 z ((⟨bd.Buf++sx.data.toList⟩:vh).Buf:List UInt8)]) (fun _=>[]):=by
 have xg:=H.cap 1 rfl;have xh:=H.cE 1 rfl
 refine R.bF [(0,.pointer (some ⟨jd,0,none⟩)),(1,.string sx)] Tryz.func136 O O O O H<|R.reg O<|R.u 2 O<|R.nil<|R.reg O<|R.u 1 O<|R.s O (s.aT [0,1,2] [] _ _ _ O O O Jv O O (fun w own hw H=>yC jd fx bd w own H ) O) fun z1=>?_
 refine R.nil<|R.reg O<|R.u 2 O<|R.q (q.bR O) O<|R.q (q.aP O ou O) O<|R.q (q.ld 0 O O mg O) O<|R.u 1 O<|R.s O (s.Ka 1 O O O Tryz.underlying138 Tryz.underlying9 O O O O (by omega) O) fun v1=>?_
 refine R.q (q.bR O) O<|R.q (q.aP O ou O) O<|R.s O (s.fP 0 _ O O O (fun w hw=>Sl.cr (hw.row 1 O)) (.inr ⟨mg,rfl⟩) (fun w hw=>(ae (Sl.one (hw.row 1 O)) aO)) O O O) fun _=>?_
 refine R.nil<|R.reg O<|R.u 1 O<|R.q (q.iy O Tryz.underlying9) O<|R.u 2 O<|R.nil ?_
 have hz:((⟨bd.Buf++sx.data.toList⟩:vh),sx.size)=((⟨(bd.Buf++sx.data.toList)⟩:vh),sx.size):=by (rfl)
 exact R.w2 v1 [0,1,2] [] O Tryz.results136 (RV.tmp O) (RV.tmp O) O O O (dy O O)
theorem Bq (jd:Nat)(fx:Value)(bd:Mr)(sx:ByteArray)(w:World)(own:List Nat)(H:HN w own [ag.box jd [xb jd bd.Used,fx] 194,ag.row 5 fx (bd.Buf:List UInt8)] [])(hl:bd.Buf.length+sx.size<=1000000):RC Tryz.prog 136 #[.pointer (some ⟨jd,0,none⟩),.string sx] H (fun _:Value => .tuple #[.int .i64 (sx.size:Int),.nilIface]) (fun z=>[ag.box jd [xb jd (((⟨true,bd.Buf++sx.data.toList⟩:Mr)).Used),z] 194,ag.row 5 z (((⟨true,bd.Buf++sx.data.toList⟩:Mr)).Buf:List UInt8)]) (fun _=>[]):=by
 obtain ⟨u_,l_⟩:=bd
 cases u_ with
 | true=>exact yD jd fx (⟨l_⟩:vh) sx w own H hl
 | false=>exact yB jd fx (⟨l_⟩:vh) sx w own H hl
theorem Ms (bT:Value)(l:List Change)(w:World)(eA:Sl w bT l)(hl:l.length<=1000)(hF:∀c∈l,iL c=0):Calls Tryz.prog 76 #[bT] w fun e w'=>e = .returned (.string (aJ l))/\Ext w w':=by
 have zm:=eA.gW
 refine R.enter [] [(0,bT)] Tryz.func76 O O O O<|R.pK eA<|R.reg O<|R.u 1 O<|R.nil<|R.reg O<|R.s O (s.alloc Hj O O) fun b1=>?_
 refine R.nil<|R.reg O<|R.u 1 O<|R.q (q.len' (dh 0 O) O Tryz.underlying34) O<|R.u 1 O<|R.nil<|R.row0 (α:=UInt8) 5<|R.loop (fun g_:Nat×Bool×Value×(List UInt8)=>[(3,.pointer (some ⟨b1,0,none⟩)),(6,bT),(7,iV (l.length:Int)),(8,iV (g_.1:Int))]) (fun g_=>[ag.row 5 g_.2.2.1 g_.2.2.2,ag.box b1 [xb b1 g_.2.1,g_.2.2.1] 194]) (fun g_=>[ag.ls bT l]) (fun g_=>g_.1<=l.length/\g_.2.2.2=(aJ (l.take g_.1)).data.toList) (fun g_=>l.length-g_.1) (0,false,(nS),[]) O (by exact ⟨by omega,rfl⟩) (sF O) (iz [0,1] [0] O) ?_
 rintro ⟨k,u,qb,bb⟩ ⟨hk,HB⟩
 dsimp only at *
 have hbl:bb.length<=35*k:=by have:=vC (l:=l.take k) (fun c hc=>hF c (List.mem_of_mem_take hc));rw [List.length_take] at this;rw [HB,Array.length_toList];show (aJ (l.take k)).size<=_;omega
 refine R.reg O<|?_
 by_cases h1:k<l.length
 .
  refine R.q (q.dC O O) O<|R.nil<|R.az O O<|R.reg O<|?_
  obtain ⟨x1,hx1⟩:∃z,l[k]? = some z:=⟨_,List.getElem?_eq_getElem (by omega)⟩
  obtain ⟨PU,VN,Wt,Wu⟩:=gZ (hF x1 (List.mem_of_getElem? hx1))
  refine R.q (q.idx (i:=k) (dh 0 O) O O bW O hx1) O<|R.q (q.gh (ds:=fC x1) (dh 0 O) hx1 O aX O) O<|R.s O (s.alloc cC O O) fun b2=>?_
  refine R.s O (s.st 0 _ O O O O (.inl aX) O O O O) fun _=>?_
  refine R.nil<|R.reg O<|R.q (q.aP O bI O) O<|R.q (q.ld 0 O O bG O) O<|R.q (q.iy O Tryz.underlying9) O<|R.q (q.nf (r:=((x1.Key.size:Nat):Int)) O (by rw [Tryz.underlying3];rfl) Tryz.underlying5 (wh (by omega))) O<|R.q (q.aP O cX O) O<|R.q (q.ld 0 O O bG O) O<|R.q (q.iy O Tryz.underlying9) O<|R.q (q.nf (r:=((x1.Val.size:Nat):Int)) O (by rw [Tryz.underlying3];rfl) Tryz.underlying5 (wh (by omega))) O<|R.q (q.aP O cX O) O<|R.q (q.ld 0 O O bG O) O<|R.q (q.iy O Tryz.underlying9) O<|R.q (q.shr (r:=(((x1.Val.size / 256):Nat):Int)) O O (by decide) (LX (by decide))) O<|R.q (q.nf (r:=(((x1.Val.size / 256):Nat):Int)) O (by rw [Tryz.underlying3];rfl) Tryz.underlying5 (wh (by omega))) O<|R.s O (s.bs (l:=([(UInt8.ofNat x1.Key.size),(UInt8.ofNat x1.Val.size),(UInt8.ofNat (x1.Val.size / 256))]:List UInt8)) aR eB O O O O O (ct (dF (by omega)) (ct (dF (by omega)) (ct (dF (by omega)) fV))) O) fun b3=>?_
  refine R.q (q.kf (bD 0 O) O aR Tryz.underlying5 Tryz.underlying9) O<|R.q (q.aP O bI O) O<|R.q (q.ld 1 O O bG O) O<|R.q (q.cat O O (by (simp only [ByteArray.size_append,aI,aG,List.length_cons,List.length_nil];omega))) O<|R.q (q.aP O cX O) O<|R.q (q.ld 1 O O bG O) O<|R.q (q.cat O O (by (simp only [ByteArray.size_append,aI,aG,List.length_cons,List.length_nil];omega))) O<|R.s O (s.aT [3,2,0,1] [] _ _ _ O O O O6 O O (fun w own hw H=>Bq b1 qb (⟨u,bb⟩:Mr) (((⟨([(UInt8.ofNat x1.Key.size),(UInt8.ofNat x1.Val.size),(UInt8.ofNat (x1.Val.size / 256))]).toArray⟩:ByteArray)++x1.Key)++x1.Val) w own H (by (simp only [ByteArray.size_append,aI,List.length_cons,List.length_nil];omega))) O) fun z1=>?_
  refine R.nil<|R.reg O<|R.q (q.bA (r:=((k+1:Nat):Int)) O O) O<|R.u 1 O<|R.nil<|R.back (k+1,true,z1,(bb++(((⟨([(UInt8.ofNat x1.Key.size),(UInt8.ofNat x1.Val.size),(UInt8.ofNat (x1.Val.size / 256))]).toArray⟩:ByteArray)++x1.Key)++x1.Val).data.toList)) O (by (exact ⟨by omega,by rw [HJ hx1,HB];simp [iQ]⟩)) (by dsimp only;omega) (sF O) (aA [1,0] [0] O)
 refine R.q (q.cS O O) O<|R.nil<|R.aD O O<|R.reg O<|R.s O (s.Ug (i:=1) (j:=0) (u:=u) (l:=bb) O7 O O (by decide) O O (fun W h hW=>Tryz.Builder_String_any _ _ _ W h hW) O) fun _=>?_
 exact R.u 1 O<|R.nil<|R.rv O Tryz.results76 O (rS (by (rw [HB,List.take_of_length_le (by omega)])))
end Go.Proofs.YtkbhcbipadkcaaaGreatDoor
