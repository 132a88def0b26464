import Derived.Test.YtkbhcbipadkcaaaGreatDoorTW11
namespace Go.Proofs.YtkbhcbipadkcaaaGreatDoor
set_option linter.unusedVariables false
set_option linter.unusedSimpArgs false
set_option maxRecDepth 100000
set_option maxHeartbeats 90000000
open Go Go.RowKit
theorem qR (n:Int)(w:World)(hn:0<=n/\n<=9000000000000000000):Calls Tryz.prog 140 #[iV n] w fun e w'=>e = .returned (.string (bW n))/\Ext w w':=by
 refine R.enter [] [(0,iV n)] Tryz.func140 O O O O<|R.reg O<|R.u 1 O<|R.nil<|R.reg O<|R.u 1 O<|R.q (q.nq O (by rw [Tryz.underlying3];rfl) Tryz.underlying5 pW) O<|R.u 1 O<|R.q (q.shr (r:=n / 256) O O (by decide) (Hf (D:=256) (by decide) (by decide))) O<|R.q (q.nq O (by rw [Tryz.underlying3];rfl) Tryz.underlying5 pW) O<|R.u 1 O<|R.q (q.shr (r:=n / 65536) O O (by decide) (Hf (D:=65536) (by decide) (by decide))) O<|R.q (q.nq O (by rw [Tryz.underlying3];rfl) Tryz.underlying5 pW) O<|R.u 1 O<|R.q (q.shr (r:=n / 16777216) O O (by decide) (Hf (D:=16777216) (by decide) (by decide))) O<|R.q (q.nq O (by rw [Tryz.underlying3];rfl) Tryz.underlying5 pW) O<|R.s O (s.bs (l:=([(u8 (n % 256)),(u8 ((n / 256) % 256)),(u8 ((n / 65536) % 256)),(u8 ((n / 16777216) % 256))]:List UInt8)) aR ey O O O O O (cp (gC (by omega)) (cp (gC (by omega)) (cp (gC (by omega)) (cp (gC (by omega)) fV)))) O) fun b1=>?_
 exact R.q (q.kg (bC 0 O) O aR Tryz.underlying5 Tryz.underlying9) O<|R.u 1 O<|R.nil<|R.rv O Tryz.results140 O (rS (by rfl))
theorem eA (sx:ByteArray)(w:World)(hs:4<=sx.size):Calls Tryz.prog 144 #[.string sx] w fun e w'=>e = .returned (iV (dF sx:Int))/\Ext w w':=by
 refine R.enter [] [(0,.string sx)] Tryz.func144 O O O O<|R.reg O<|R.u 1 O<|R.nil ?_
 obtain ⟨y1,hy1⟩:∃z,sx.data[0]? = some z:=⟨_,Array.getElem?_eq_getElem (show 0<sx.size from by omega)⟩
 have Sr:=y1.toNat_lt
 obtain ⟨y2,hy2⟩:∃z,sx.data[1]? = some z:=⟨_,Array.getElem?_eq_getElem (show 1<sx.size from by omega)⟩
 have Ss:=y2.toNat_lt
 obtain ⟨y3,hy3⟩:∃z,sx.data[2]? = some z:=⟨_,Array.getElem?_eq_getElem (show 2<sx.size from by omega)⟩
 have TK:=y3.toNat_lt
 obtain ⟨y4,hy4⟩:∃z,sx.data[3]? = some z:=⟨_,Array.getElem?_eq_getElem (show 3<sx.size from by omega)⟩
 have US:=y4.toNat_lt
 exact R.eu O mixed (by kernel_rfl)<|Q.u 1 O<|Q.q (q.iL (i:=0) O O Tryz.underlying9 O hy1) O<|Q.q (q.nq (r:=((y1.toNat:Nat):Int)) O (by rw [Tryz.underlying5];rfl) Tryz.underlying3 (wr (by omega))) O<|Q.u 1 O<|Q.q (q.iL (i:=1) O O Tryz.underlying9 O hy2) O<|Q.q (q.nq (r:=((y2.toNat:Nat):Int)) O (by rw [Tryz.underlying5];rfl) Tryz.underlying3 (wr (by omega))) O<|Q.q (q.shl (r:=(((y2.toNat*256):Nat):Int)) O O (by decide) (Qe 256 (by decide) (by have:=y2.toNat_lt;omega))) O<|Q.q (q.or (r:=(((y1.toNat+(y2.toNat*256)):Nat):Int)) O O (Ud 8 256 O (by have:=y1.toNat_lt;have:=y2.toNat_lt;omega) (by have:=y1.toNat_lt;have:=y2.toNat_lt;omega))) O<|Q.u 1 O<|Q.q (q.iL (i:=2) O O Tryz.underlying9 O hy3) O<|Q.q (q.nq (r:=((y3.toNat:Nat):Int)) O (by rw [Tryz.underlying5];rfl) Tryz.underlying3 (wr (by omega))) O<|Q.q (q.shl (r:=(((y3.toNat*65536):Nat):Int)) O O (by decide) (Qe 65536 (by decide) (by have:=y3.toNat_lt;omega))) O<|Q.q (q.or (r:=((((y1.toNat+(y2.toNat*256))+(y3.toNat*65536)):Nat):Int)) O O (Ud 16 65536 O (by have:=y1.toNat_lt;have:=y2.toNat_lt;have:=y3.toNat_lt;omega) (by have:=y1.toNat_lt;have:=y2.toNat_lt;have:=y3.toNat_lt;omega))) O<|Q.u 1 O<|Q.q (q.iL (i:=3) O O Tryz.underlying9 O hy4) O<|Q.q (q.nq (r:=((y4.toNat:Nat):Int)) O (by rw [Tryz.underlying5];rfl) Tryz.underlying3 (wr (by omega))) O<|Q.q (q.shl (r:=(((y4.toNat*16777216):Nat):Int)) O O (by decide) (Qe 16777216 (by decide) (by have:=y4.toNat_lt;omega))) O<|Q.q (q.or (r:=(((((y1.toNat+(y2.toNat*256))+(y3.toNat*65536))+(y4.toNat*16777216)):Nat):Int)) O O (Ud 24 16777216 O (by have:=y1.toNat_lt;have:=y2.toNat_lt;have:=y3.toNat_lt;have:=y4.toNat_lt;omega) (by have:=y1.toNat_lt;have:=y2.toNat_lt;have:=y3.toNat_lt;have:=y4.toNat_lt;omega))) O<|Q.u 1 O<|Q.nil<|R.rv O Tryz.results144 O (rI (by (unfold dF;rw [aK hy1,aK hy2,aK hy3,aK hy4])))
theorem zF (h:cZ)(w:World)(hn:0<=h.Epoch/\h.Epoch<=9000000000000000000/\0<=h.Side/\h.Side<=9000000000000000000/\0<=h.Size/\h.Size<=9000000000000000000/\0<=h.First/\h.First<=9000000000000000000):Calls Tryz.prog 81 #[.agg #[iV h.Epoch,iV h.Side,iV h.Size,iV h.First]] w fun e w'=>e = .returned (.string (aN h))/\Ext w w':=by
 refine R.enter [] [(0,.agg #[iV h.Epoch,iV h.Side,iV h.Size,iV h.First])] Tryz.func81 O O O O<|R.reg O<|R.s O (s.box O O O) fun b1=>?_
 exact R.u 1 O<|R.nil<|R.eu O mixed (by kernel_rfl)<|Q.q (q.aO O i6 O) O<|Q.q (q.ld 0 O O au O) O<|Q.c (q.call AJ O O (fun w hw=>(qR h.Epoch w (by omega)))) O<|Q.q (q.cat O O (by (simp only [ByteArray.size_append,aI,aF,List.length_cons,List.length_nil];omega))) O<|Q.q (q.aO O iu O) O<|Q.q (q.ld 0 O O au O) O<|Q.c (q.call AJ O O (fun w hw=>(qR h.Side w (by omega)))) O<|Q.q (q.cat O O (by (simp only [ByteArray.size_append,aI,aF,List.length_cons,List.length_nil];omega))) O<|Q.q (q.aO O jU O) O<|Q.q (q.ld 0 O O au O) O<|Q.c (q.call AJ O O (fun w hw=>(qR h.Size w (by omega)))) O<|Q.q (q.cat O O (by (simp only [ByteArray.size_append,aI,aF,List.length_cons,List.length_nil];omega))) O<|Q.q (q.aO O i7 O) O<|Q.q (q.ld 0 O O au O) O<|Q.c (q.call AJ O O (fun w hw=>(qR h.First w (by omega)))) O<|Q.q (q.cat O O (by (simp only [ByteArray.size_append,aI,aF,List.length_cons,List.length_nil];omega))) O<|Q.u 1 O<|Q.nil<|R.rv O Tryz.results81 O (rS (by rfl))
theorem EV (sx:ByteArray)(w:World)(own:List Nat)(H:HN w own [] [])(hs:sx.size=48):RC Tryz.prog 86 #[.string sx] H (fun _:Unit => .agg #[iV (ck sx).Epoch,iV (ck sx).Side,iV (ck sx).Size,iV (ck sx).First]) (fun _=>[]) (fun _=>[]):=by
 refine R.bD (n:=37) (vs:=[.string sx]) (B:=[ag.held w own]) [(0,.string sx)] Tryz.func86 O O O O H ?_
 refine R.reg O<|?_
 refine R.s O (s.alloc (cs:=[iV 0,iV 0,iV 0,iV 0]) jv O O) fun b1=>?_
 refine R.nil ?_
 refine R.fP (fuel:=15) [0,1] O O mixed O ?_
 refine D.q (i:=0) O (kG [0,1] [] O O O) O (q.mv O) O<|D.q (i:=1) O (kG [0,1] [] O O O) O (q.Cr (i:=1) (j:=5) O O O Tryz.underlying9 O O (by omega) (by omega)) O<|D.q (i:=3) O (kG [0,1] [] O O O) O (q.mv O) O<|D.q (i:=4) O (kG [0,1] [] O O O) O (q.Cr (i:=5) (j:=9) O O O Tryz.underlying9 O O (by omega) (by omega)) O<|D.q (i:=6) O (kG [0,1] [] O O O) O (q.mv O) O<|D.q (i:=7) O (kG [0,1] [] O O O) O (q.Cr (i:=9) (j:=13) O O O Tryz.underlying9 O O (by omega) (by omega)) O<|D.q (i:=9) O (kG [0,1] [] O O O) O (q.mv O) O<|D.q (i:=10) O (kG [0,1] [] O O O) O (q.Cr (i:=13) (j:=17) O O O Tryz.underlying9 O O (by omega) (by omega)) O<|?_
 refine D.two (i:=2) (j:=13) O O ?_ ?_
 .
  refine Do.s (s.c (q.call kj O O (fun w hw=>(eA (sx.extract 1 5) w (by (rw [ByteArray.size_extract];omega))))) O) (fun _=>(kG [0,1] [] O O O)) O fun _=>?_
  refine D.two (i:=5) (j:=13) O O ?_ ?_
  .
   refine Do.s (s.c (q.call kj O O (fun w hw=>(eA (sx.extract 5 9) w (by (rw [ByteArray.size_extract];omega))))) O) (fun _=>(kG [0,1] [] O O O)) O fun _=>?_
   refine D.two (i:=8) (j:=13) O O ?_ ?_
   .
    refine Do.s (s.c (q.call kj O O (fun w hw=>(eA (sx.extract 9 13) w (by (rw [ByteArray.size_extract];omega))))) O) (fun _=>(kG [0,1] [] O O O)) O fun _=>?_
    refine D.two (i:=11) (j:=13) O O ?_ ?_
    .
     refine Do.s (s.c (q.call kj O O (fun w hw=>(eA (sx.extract 13 17) w (by (rw [ByteArray.size_extract];omega))))) O) (fun _=>(kG [0,1] [] O O O)) O fun _=>?_
     refine D.q (i:=12) O (kG [0,1] [] O O O) O (q.build (cs:=[iV (dF (sx.extract 1 5):Int),iV (dF (sx.extract 5 9):Int),iV (dF (sx.extract 9 13):Int),iV (dF (sx.extract 13 17):Int)]) eM O O) O<|?_
     refine D.one (i:=13) O ?_
     refine Do.s (s.alloc (cs:=[iV 0,iV 0,iV 0,iV 0]) jv O O) (fun _=>(kG [1,2] [] O O O)) O fun b2=>?_
     refine D.one (i:=14) O ?_
     refine Do.s (s.st (us:=[iV (dF (sx.extract 1 5):Int),iV (dF (sx.extract 5 9):Int),iV (dF (sx.extract 9 13):Int),iV (dF (sx.extract 13 17):Int)]) (cs':=[iV (dF (sx.extract 1 5):Int),iV (dF (sx.extract 5 9):Int),iV (dF (sx.extract 9 13):Int),iV (dF (sx.extract 13 17):Int)]) 0 _ O O O O (.inl aT) O O O O) (fun _=>(kG [1,2] [] O O O)) O fun _=>?_
     refine D.done<|?_
     refine R.reg O<|R.u 1 O<|?_
     obtain ⟨y1,hy1⟩:∃z,sx.data[0]? = some z:=⟨_,Array.getElem?_eq_getElem (show 0<sx.size from by omega)⟩
     have Sr:=y1.toNat_lt
     refine R.q (q.iL (i:=0) O O Tryz.underlying9 O hy1) O<|?_
     by_cases h1:y1.toNat=72
     .
      refine R.q (q.neq O O (bne_eq_false_iff_eq.2 (by omega))) O<|R.u 1 O<|R.qg O (q.aO (off':=1) O iu O) O<|R.qg O (q.ld 0 O O au O) O<|?_
      by_cases h2:1<dF (sx.extract 5 9)
      .
       refine R.qg O (q.gtr O O (decide_eq_true (by omega))) O<|R.u 11 O<|R.nil ?_
       refine R.av O O ?_
       refine R.reg O<|R.q (q.build (cs:=[iV 0,iV 0,iV 0,iV 0]) eM O O) O<|?_
       refine R.s O (s.st (us:=[iV 0,iV 0,iV 0,iV 0]) (cs':=[iV 0,iV 0,iV 0,iV 0]) 1 _ O O O O (.inl aT) O O O O) fun _=>?_
       refine R.nil ?_
       have hz:ck sx=(⟨0,0,0,0⟩:cZ):=by (rw [di (by unfold fG;(rw [aK hy1]);omega)];done)
       rw [hz]
       exact R.w1 () [2] [] O Tryz.results86 (RV.cell 1 O O aT) O O O O
      refine R.qg O (q.gtr O O (decide_eq_false (by omega))) O<|R.u 2 O<|R.qg O (q.aO (off':=2) O jU O) O<|R.qg O (q.ld 0 O O au O) O<|?_
      by_cases h3:2400<dF (sx.extract 9 13)
      .
       refine R.qg O (q.gtr O O (decide_eq_true (by omega))) O<|R.u 6 O<|R.nil ?_
       refine R.av O O ?_
       refine R.reg O<|R.q (q.build (cs:=[iV 0,iV 0,iV 0,iV 0]) eM O O) O<|?_
       refine R.s O (s.st (us:=[iV 0,iV 0,iV 0,iV 0]) (cs':=[iV 0,iV 0,iV 0,iV 0]) 1 _ O O O O (.inl aT) O O O O) fun _=>?_
       refine R.nil ?_
       have hz:ck sx=(⟨0,0,0,0⟩:cZ):=by (rw [di (by unfold fG;(rw [aK hy1]);omega)];done)
       rw [hz]
       exact R.w1 () [2] [] O Tryz.results86 (RV.cell 1 O O aT) O O O O
      refine R.qg O (q.gtr O O (decide_eq_false (by omega))) O<|R.u 2 O<|R.qg O (q.aO (off':=3) O i7 O) O<|R.qg O (q.ld 0 O O au O) O<|?_
      by_cases h4:dF (sx.extract 13 17)<1
      .
       refine R.qg O (q.lss O O (decide_eq_true (by omega))) O<|R.u 1 O<|R.nil ?_
       refine R.av O O ?_
       refine R.reg O<|R.q (q.build (cs:=[iV 0,iV 0,iV 0,iV 0]) eM O O) O<|?_
       refine R.s O (s.st (us:=[iV 0,iV 0,iV 0,iV 0]) (cs':=[iV 0,iV 0,iV 0,iV 0]) 1 _ O O O O (.inl aT) O O O O) fun _=>?_
       refine R.nil ?_
       have hz:ck sx=(⟨0,0,0,0⟩:cZ):=by (rw [di (by unfold fG;(rw [aK hy1]);omega)];done)
       rw [hz]
       exact R.w1 () [2] [] O Tryz.results86 (RV.cell 1 O O aT) O O O O
      refine R.qg O (q.lss O O (decide_eq_false (by omega))) O<|R.u 1 O<|R.nil ?_
      refine R.aB O O ?_
      refine R.reg O<|R.q (q.dh 0 O O aT) O<|?_
      refine R.s O (s.st (us:=[iV (dF (sx.extract 1 5):Int),iV (dF (sx.extract 5 9):Int),iV (dF (sx.extract 9 13):Int),iV (dF (sx.extract 13 17):Int)]) (cs':=[iV (dF (sx.extract 1 5):Int),iV (dF (sx.extract 5 9):Int),iV (dF (sx.extract 9 13):Int),iV (dF (sx.extract 13 17):Int)]) 1 _ O O O O (.inl aT) O O O O) fun _=>?_
      refine R.nil ?_
      have hz:ck sx=(⟨(dF (sx.extract 1 5):Int),(dF (sx.extract 5 9):Int),(dF (sx.extract 9 13):Int),(dF (sx.extract 13 17):Int)⟩:cZ):=by (rw [mC (by unfold fG;(rw [aK hy1]);omega)];rfl)
      rw [hz]
      exact R.w1 () [2] [] O Tryz.results86 (RV.cell 1 O O aT) O O O O
     refine R.q (q.neq O O (bne_iff_ne.2 (by omega))) O<|R.u 15 O<|R.nil ?_
     refine R.av O O ?_
     refine R.reg O<|R.q (q.build (cs:=[iV 0,iV 0,iV 0,iV 0]) eM O O) O<|?_
     refine R.s O (s.st (us:=[iV 0,iV 0,iV 0,iV 0]) (cs':=[iV 0,iV 0,iV 0,iV 0]) 1 _ O O O O (.inl aT) O O O O) fun _=>?_
     refine R.nil ?_
     have hz:ck sx=(⟨0,0,0,0⟩:cZ):=by (rw [di (by unfold fG;(rw [aK hy1]);omega)];done)
     rw [hz]
     exact R.w1 () [2] [] O Tryz.results86 (RV.cell 1 O O aT) O O O O
    refine Do.s (s.alloc (cs:=[iV 0,iV 0,iV 0,iV 0]) jv O O) (fun _=>(kG [1,2] [] O O O)) O fun b3=>?_
    refine D.one (i:=11) O ?_
    refine Do.s (s.c (q.call kj O O (fun w hw=>(eA (sx.extract 13 17) w (by (rw [ByteArray.size_extract];omega))))) O) (fun _=>(kG [1,2] [] O O O)) O fun _=>?_
    refine D.q (i:=12) O (kG [1,2] [] O O O) O (q.build (cs:=[iV (dF (sx.extract 1 5):Int),iV (dF (sx.extract 5 9):Int),iV (dF (sx.extract 9 13):Int),iV (dF (sx.extract 13 17):Int)]) eM O O) O<|?_
    refine D.one (i:=14) O ?_
    refine Do.s (s.st (us:=[iV (dF (sx.extract 1 5):Int),iV (dF (sx.extract 5 9):Int),iV (dF (sx.extract 9 13):Int),iV (dF (sx.extract 13 17):Int)]) (cs':=[iV (dF (sx.extract 1 5):Int),iV (dF (sx.extract 5 9):Int),iV (dF (sx.extract 9 13):Int),iV (dF (sx.extract 13 17):Int)]) 0 _ O O O O (.inl aT) O O O O) (fun _=>(kG [1,2] [] O O O)) O fun _=>?_
    refine D.done<|?_
    refine R.reg O<|R.u 1 O<|?_
    obtain ⟨y2,hy2⟩:∃z,sx.data[0]? = some z:=⟨_,Array.getElem?_eq_getElem (show 0<sx.size from by omega)⟩
    have Ss:=y2.toNat_lt
    refine R.q (q.iL (i:=0) O O Tryz.underlying9 O hy2) O<|?_
    by_cases h5:y2.toNat=72
    .
     refine R.q (q.neq O O (bne_eq_false_iff_eq.2 (by omega))) O<|R.u 1 O<|R.qg O (q.aO (off':=1) O iu O) O<|R.qg O (q.ld 0 O O au O) O<|?_
     by_cases h6:1<dF (sx.extract 5 9)
     .
      refine R.qg O (q.gtr O O (decide_eq_true (by omega))) O<|R.u 11 O<|R.nil ?_
      refine R.av O O ?_
      refine R.reg O<|R.q (q.build (cs:=[iV 0,iV 0,iV 0,iV 0]) eM O O) O<|?_
      refine R.s O (s.st (us:=[iV 0,iV 0,iV 0,iV 0]) (cs':=[iV 0,iV 0,iV 0,iV 0]) 1 _ O O O O (.inl aT) O O O O) fun _=>?_
      refine R.nil ?_
      have hz:ck sx=(⟨0,0,0,0⟩:cZ):=by (rw [di (by unfold fG;(rw [aK hy2]);omega)];done)
      rw [hz]
      exact R.w1 () [2] [] O Tryz.results86 (RV.cell 1 O O aT) O O O O
     refine R.qg O (q.gtr O O (decide_eq_false (by omega))) O<|R.u 2 O<|R.qg O (q.aO (off':=2) O jU O) O<|R.qg O (q.ld 0 O O au O) O<|?_
     by_cases h7:2400<dF (sx.extract 9 13)
     .
      refine R.qg O (q.gtr O O (decide_eq_true (by omega))) O<|R.u 6 O<|R.nil ?_
      refine R.av O O ?_
      refine R.reg O<|R.q (q.build (cs:=[iV 0,iV 0,iV 0,iV 0]) eM O O) O<|?_
      refine R.s O (s.st (us:=[iV 0,iV 0,iV 0,iV 0]) (cs':=[iV 0,iV 0,iV 0,iV 0]) 1 _ O O O O (.inl aT) O O O O) fun _=>?_
      refine R.nil ?_
      have hz:ck sx=(⟨0,0,0,0⟩:cZ):=by (rw [di (by unfold fG;(rw [aK hy2]);omega)];done)
      rw [hz]
      exact R.w1 () [2] [] O Tryz.results86 (RV.cell 1 O O aT) O O O O
     refine R.qg O (q.gtr O O (decide_eq_false (by omega))) O<|R.u 2 O<|R.qg O (q.aO (off':=3) O i7 O) O<|R.qg O (q.ld 0 O O au O) O<|?_
     by_cases h8:dF (sx.extract 13 17)<1
     .
      refine R.qg O (q.lss O O (decide_eq_true (by omega))) O<|R.u 1 O<|R.nil ?_
      refine R.av O O ?_
      refine R.reg O<|R.q (q.build (cs:=[iV 0,iV 0,iV 0,iV 0]) eM O O) O<|?_
      refine R.s O (s.st (us:=[iV 0,iV 0,iV 0,iV 0]) (cs':=[iV 0,iV 0,iV 0,iV 0]) 1 _ O O O O (.inl aT) O O O O) fun _=>?_
      refine R.nil ?_
      have hz:ck sx=(⟨0,0,0,0⟩:cZ):=by (rw [di (by unfold fG;(rw [aK hy2]);omega)];done)
      rw [hz]
      exact R.w1 () [2] [] O Tryz.results86 (RV.cell 1 O O aT) O O O O
     refine R.qg O (q.lss O O (decide_eq_false (by omega))) O<|R.u 1 O<|R.nil ?_
     refine R.aB O O ?_
     refine R.reg O<|R.q (q.dh 0 O O aT) O<|?_
     refine R.s O (s.st (us:=[iV (dF (sx.extract 1 5):Int),iV (dF (sx.extract 5 9):Int),iV (dF (sx.extract 9 13):Int),iV (dF (sx.extract 13 17):Int)]) (cs':=[iV (dF (sx.extract 1 5):Int),iV (dF (sx.extract 5 9):Int),iV (dF (sx.extract 9 13):Int),iV (dF (sx.extract 13 17):Int)]) 1 _ O O O O (.inl aT) O O O O) fun _=>?_
     refine R.nil ?_
     have hz:ck sx=(⟨(dF (sx.extract 1 5):Int),(dF (sx.extract 5 9):Int),(dF (sx.extract 9 13):Int),(dF (sx.extract 13 17):Int)⟩:cZ):=by (rw [mC (by unfold fG;(rw [aK hy2]);omega)];rfl)
     rw [hz]
     exact R.w1 () [2] [] O Tryz.results86 (RV.cell 1 O O aT) O O O O
    refine R.q (q.neq O O (bne_iff_ne.2 (by omega))) O<|R.u 15 O<|R.nil ?_
    refine R.av O O ?_
    refine R.reg O<|R.q (q.build (cs:=[iV 0,iV 0,iV 0,iV 0]) eM O O) O<|?_
    refine R.s O (s.st (us:=[iV 0,iV 0,iV 0,iV 0]) (cs':=[iV 0,iV 0,iV 0,iV 0]) 1 _ O O O O (.inl aT) O O O O) fun _=>?_
    refine R.nil ?_
    have hz:ck sx=(⟨0,0,0,0⟩:cZ):=by (rw [di (by unfold fG;(rw [aK hy2]);omega)];done)
    rw [hz]
    exact R.w1 () [2] [] O Tryz.results86 (RV.cell 1 O O aT) O O O O
   refine Do.s (s.alloc (cs:=[iV 0,iV 0,iV 0,iV 0]) jv O O) (fun _=>(kG [1,2] [] O O O)) O fun b4=>?_
   refine D.one (i:=8) O ?_
   refine Do.s (s.c (q.call kj O O (fun w hw=>(eA (sx.extract 9 13) w (by (rw [ByteArray.size_extract];omega))))) O) (fun _=>(kG [1,2] [] O O O)) O fun _=>?_
   refine D.one (i:=11) O ?_
   refine Do.s (s.c (q.call kj O O (fun w hw=>(eA (sx.extract 13 17) w (by (rw [ByteArray.size_extract];omega))))) O) (fun _=>(kG [1,2] [] O O O)) O fun _=>?_
   refine D.q (i:=12) O (kG [1,2] [] O O O) O (q.build (cs:=[iV (dF (sx.extract 1 5):Int),iV (dF (sx.extract 5 9):Int),iV (dF (sx.extract 9 13):Int),iV (dF (sx.extract 13 17):Int)]) eM O O) O<|?_
   refine D.one (i:=14) O ?_
   refine Do.s (s.st (us:=[iV (dF (sx.extract 1 5):Int),iV (dF (sx.extract 5 9):Int),iV (dF (sx.extract 9 13):Int),iV (dF (sx.extract 13 17):Int)]) (cs':=[iV (dF (sx.extract 1 5):Int),iV (dF (sx.extract 5 9):Int),iV (dF (sx.extract 9 13):Int),iV (dF (sx.extract 13 17):Int)]) 0 _ O O O O (.inl aT) O O O O) (fun _=>(kG [1,2] [] O O O)) O fun _=>?_
   refine D.done<|?_
   refine R.reg O<|R.u 1 O<|?_
   obtain ⟨y3,hy3⟩:∃z,sx.data[0]? = some z:=⟨_,Array.getElem?_eq_getElem (show 0<sx.size from by omega)⟩
   have TK:=y3.toNat_lt
   refine R.q (q.iL (i:=0) O O Tryz.underlying9 O hy3) O<|?_
   by_cases h9:y3.toNat=72
   .
    refine R.q (q.neq O O (bne_eq_false_iff_eq.2 (by omega))) O<|R.u 1 O<|R.qg O (q.aO (off':=1) O iu O) O<|R.qg O (q.ld 0 O O au O) O<|?_
    by_cases h10:1<dF (sx.extract 5 9)
    .
     refine R.qg O (q.gtr O O (decide_eq_true (by omega))) O<|R.u 11 O<|R.nil ?_
     refine R.av O O ?_
     refine R.reg O<|R.q (q.build (cs:=[iV 0,iV 0,iV 0,iV 0]) eM O O) O<|?_
     refine R.s O (s.st (us:=[iV 0,iV 0,iV 0,iV 0]) (cs':=[iV 0,iV 0,iV 0,iV 0]) 1 _ O O O O (.inl aT) O O O O) fun _=>?_
     refine R.nil ?_
     have hz:ck sx=(⟨0,0,0,0⟩:cZ):=by (rw [di (by unfold fG;(rw [aK hy3]);omega)];done)
     rw [hz]
     exact R.w1 () [2] [] O Tryz.results86 (RV.cell 1 O O aT) O O O O
    refine R.qg O (q.gtr O O (decide_eq_false (by omega))) O<|R.u 2 O<|R.qg O (q.aO (off':=2) O jU O) O<|R.qg O (q.ld 0 O O au O) O<|?_
    by_cases h11:2400<dF (sx.extract 9 13)
    .
     refine R.qg O (q.gtr O O (decide_eq_true (by omega))) O<|R.u 6 O<|R.nil ?_
     refine R.av O O ?_
     refine R.reg O<|R.q (q.build (cs:=[iV 0,iV 0,iV 0,iV 0]) eM O O) O<|?_
     refine R.s O (s.st (us:=[iV 0,iV 0,iV 0,iV 0]) (cs':=[iV 0,iV 0,iV 0,iV 0]) 1 _ O O O O (.inl aT) O O O O) fun _=>?_
     refine R.nil ?_
     have hz:ck sx=(⟨0,0,0,0⟩:cZ):=by (rw [di (by unfold fG;(rw [aK hy3]);omega)];done)
     rw [hz]
     exact R.w1 () [2] [] O Tryz.results86 (RV.cell 1 O O aT) O O O O
    refine R.qg O (q.gtr O O (decide_eq_false (by omega))) O<|R.u 2 O<|R.qg O (q.aO (off':=3) O i7 O) O<|R.qg O (q.ld 0 O O au O) O<|?_
    by_cases h12:dF (sx.extract 13 17)<1
    .
     refine R.qg O (q.lss O O (decide_eq_true (by omega))) O<|R.u 1 O<|R.nil ?_
     refine R.av O O ?_
     refine R.reg O<|R.q (q.build (cs:=[iV 0,iV 0,iV 0,iV 0]) eM O O) O<|?_
     refine R.s O (s.st (us:=[iV 0,iV 0,iV 0,iV 0]) (cs':=[iV 0,iV 0,iV 0,iV 0]) 1 _ O O O O (.inl aT) O O O O) fun _=>?_
     refine R.nil ?_
     have hz:ck sx=(⟨0,0,0,0⟩:cZ):=by (rw [di (by unfold fG;(rw [aK hy3]);omega)];done)
     rw [hz]
     exact R.w1 () [2] [] O Tryz.results86 (RV.cell 1 O O aT) O O O O
    refine R.qg O (q.lss O O (decide_eq_false (by omega))) O<|R.u 1 O<|R.nil ?_
    refine R.aB O O ?_
    refine R.reg O<|R.q (q.dh 0 O O aT) O<|?_
    refine R.s O (s.st (us:=[iV (dF (sx.extract 1 5):Int),iV (dF (sx.extract 5 9):Int),iV (dF (sx.extract 9 13):Int),iV (dF (sx.extract 13 17):Int)]) (cs':=[iV (dF (sx.extract 1 5):Int),iV (dF (sx.extract 5 9):Int),iV (dF (sx.extract 9 13):Int),iV (dF (sx.extract 13 17):Int)]) 1 _ O O O O (.inl aT) O O O O) fun _=>?_
    refine R.nil ?_
    have hz:ck sx=(⟨(dF (sx.extract 1 5):Int),(dF (sx.extract 5 9):Int),(dF (sx.extract 9 13):Int),(dF (sx.extract 13 17):Int)⟩:cZ):=by (rw [mC (by unfold fG;(rw [aK hy3]);omega)];rfl)
    rw [hz]
    exact R.w1 () [2] [] O Tryz.results86 (RV.cell 1 O O aT) O O O O
   refine R.q (q.neq O O (bne_iff_ne.2 (by omega))) O<|R.u 15 O<|R.nil ?_
   refine R.av O O ?_
   refine R.reg O<|R.q (q.build (cs:=[iV 0,iV 0,iV 0,iV 0]) eM O O) O<|?_
   refine R.s O (s.st (us:=[iV 0,iV 0,iV 0,iV 0]) (cs':=[iV 0,iV 0,iV 0,iV 0]) 1 _ O O O O (.inl aT) O O O O) fun _=>?_
   refine R.nil ?_
   have hz:ck sx=(⟨0,0,0,0⟩:cZ):=by (rw [di (by unfold fG;(rw [aK hy3]);omega)];done)
   rw [hz]
   exact R.w1 () [2] [] O Tryz.results86 (RV.cell 1 O O aT) O O O O
  refine Do.s (s.alloc (cs:=[iV 0,iV 0,iV 0,iV 0]) jv O O) (fun _=>(kG [1,2] [] O O O)) O fun b5=>?_
  refine D.one (i:=5) O ?_
  refine Do.s (s.c (q.call kj O O (fun w hw=>(eA (sx.extract 5 9) w (by (rw [ByteArray.size_extract];omega))))) O) (fun _=>(kG [1,2] [] O O O)) O fun _=>?_
  refine D.one (i:=8) O ?_
  refine Do.s (s.c (q.call kj O O (fun w hw=>(eA (sx.extract 9 13) w (by (rw [ByteArray.size_extract];omega))))) O) (fun _=>(kG [1,2] [] O O O)) O fun _=>?_
  refine D.one (i:=11) O ?_
  refine Do.s (s.c (q.call kj O O (fun w hw=>(eA (sx.extract 13 17) w (by (rw [ByteArray.size_extract];omega))))) O) (fun _=>(kG [1,2] [] O O O)) O fun _=>?_
  refine D.q (i:=12) O (kG [1,2] [] O O O) O (q.build (cs:=[iV (dF (sx.extract 1 5):Int),iV (dF (sx.extract 5 9):Int),iV (dF (sx.extract 9 13):Int),iV (dF (sx.extract 13 17):Int)]) eM O O) O<|?_
  refine D.one (i:=14) O ?_
  refine Do.s (s.st (us:=[iV (dF (sx.extract 1 5):Int),iV (dF (sx.extract 5 9):Int),iV (dF (sx.extract 9 13):Int),iV (dF (sx.extract 13 17):Int)]) (cs':=[iV (dF (sx.extract 1 5):Int),iV (dF (sx.extract 5 9):Int),iV (dF (sx.extract 9 13):Int),iV (dF (sx.extract 13 17):Int)]) 0 _ O O O O (.inl aT) O O O O) (fun _=>(kG [1,2] [] O O O)) O fun _=>?_
  refine D.done<|?_
  refine R.reg O<|R.u 1 O<|?_
  obtain ⟨y4,hy4⟩:∃z,sx.data[0]? = some z:=⟨_,Array.getElem?_eq_getElem (show 0<sx.size from by omega)⟩
  have US:=y4.toNat_lt
  refine R.q (q.iL (i:=0) O O Tryz.underlying9 O hy4) O<|?_
  by_cases UV:y4.toNat=72
  .
   refine R.q (q.neq O O (bne_eq_false_iff_eq.2 (by omega))) O<|R.u 1 O<|R.qg O (q.aO (off':=1) O iu O) O<|R.qg O (q.ld 0 O O au O) O<|?_
   by_cases UW:1<dF (sx.extract 5 9)
   .
    refine R.qg O (q.gtr O O (decide_eq_true (by omega))) O<|R.u 11 O<|R.nil ?_
    refine R.av O O ?_
    refine R.reg O<|R.q (q.build (cs:=[iV 0,iV 0,iV 0,iV 0]) eM O O) O<|?_
    refine R.s O (s.st (us:=[iV 0,iV 0,iV 0,iV 0]) (cs':=[iV 0,iV 0,iV 0,iV 0]) 1 _ O O O O (.inl aT) O O O O) fun _=>?_
    refine R.nil ?_
    have hz:ck sx=(⟨0,0,0,0⟩:cZ):=by (rw [di (by unfold fG;(rw [aK hy4]);omega)];done)
    rw [hz]
    exact R.w1 () [2] [] O Tryz.results86 (RV.cell 1 O O aT) O O O O
   refine R.qg O (q.gtr O O (decide_eq_false (by omega))) O<|R.u 2 O<|R.qg O (q.aO (off':=2) O jU O) O<|R.qg O (q.ld 0 O O au O) O<|?_
   by_cases UX:2400<dF (sx.extract 9 13)
   .
    refine R.qg O (q.gtr O O (decide_eq_true (by omega))) O<|R.u 6 O<|R.nil ?_
    refine R.av O O ?_
    refine R.reg O<|R.q (q.build (cs:=[iV 0,iV 0,iV 0,iV 0]) eM O O) O<|?_
    refine R.s O (s.st (us:=[iV 0,iV 0,iV 0,iV 0]) (cs':=[iV 0,iV 0,iV 0,iV 0]) 1 _ O O O O (.inl aT) O O O O) fun _=>?_
    refine R.nil ?_
    have hz:ck sx=(⟨0,0,0,0⟩:cZ):=by (rw [di (by unfold fG;(rw [aK hy4]);omega)];done)
    rw [hz]
    exact R.w1 () [2] [] O Tryz.results86 (RV.cell 1 O O aT) O O O O
   refine R.qg O (q.gtr O O (decide_eq_false (by omega))) O<|R.u 2 O<|R.qg O (q.aO (off':=3) O i7 O) O<|R.qg O (q.ld 0 O O au O) O<|?_
   by_cases h16:dF (sx.extract 13 17)<1
   .
    refine R.qg O (q.lss O O (decide_eq_true (by omega))) O<|R.u 1 O<|R.nil ?_
    refine R.av O O ?_
    refine R.reg O<|R.q (q.build (cs:=[iV 0,iV 0,iV 0,iV 0]) eM O O) O<|?_
    refine R.s O (s.st (us:=[iV 0,iV 0,iV 0,iV 0]) (cs':=[iV 0,iV 0,iV 0,iV 0]) 1 _ O O O O (.inl aT) O O O O) fun _=>?_
    refine R.nil ?_
    have hz:ck sx=(⟨0,0,0,0⟩:cZ):=by (rw [di (by unfold fG;(rw [aK hy4]);omega)];done)
    rw [hz]
    exact R.w1 () [2] [] O Tryz.results86 (RV.cell 1 O O aT) O O O O
   refine R.qg O (q.lss O O (decide_eq_false (by omega))) O<|R.u 1 O<|R.nil ?_
   refine R.aB O O ?_
   refine R.reg O<|R.q (q.dh 0 O O aT) O<|?_
   refine R.s O (s.st (us:=[iV (dF (sx.extract 1 5):Int),iV (dF (sx.extract 5 9):Int),iV (dF (sx.extract 9 13):Int),iV (dF (sx.extract 13 17):Int)]) (cs':=[iV (dF (sx.extract 1 5):Int),iV (dF (sx.extract 5 9):Int),iV (dF (sx.extract 9 13):Int),iV (dF (sx.extract 13 17):Int)]) 1 _ O O O O (.inl aT) O O O O) fun _=>?_
   refine R.nil ?_
   have hz:ck sx=(⟨(dF (sx.extract 1 5):Int),(dF (sx.extract 5 9):Int),(dF (sx.extract 9 13):Int),(dF (sx.extract 13 17):Int)⟩:cZ):=by (rw [mC (by unfold fG;(rw [aK hy4]);omega)];rfl)
   rw [hz]
   exact R.w1 () [2] [] O Tryz.results86 (RV.cell 1 O O aT) O O O O
  refine R.q (q.neq O O (bne_iff_ne.2 (by omega))) O<|R.u 15 O<|R.nil ?_
  refine R.av O O ?_
  refine R.reg O<|R.q (q.build (cs:=[iV 0,iV 0,iV 0,iV 0]) eM O O) O<|?_
  refine R.s O (s.st (us:=[iV 0,iV 0,iV 0,iV 0]) (cs':=[iV 0,iV 0,iV 0,iV 0]) 1 _ O O O O (.inl aT) O O O O) fun _=>?_
  refine R.nil ?_
  have hz:ck sx=(⟨0,0,0,0⟩:cZ):=by (rw [di (by unfold fG;(rw [aK hy4]);omega)];done)
  rw [hz]
  exact R.w1 () [2] [] O Tryz.results86 (RV.cell 1 O O aT) O O O O
 refine Do.s (s.alloc (cs:=[iV 0,iV 0,iV 0,iV 0]) jv O O) (fun _=>(kG [1,2] [] O O O)) O fun b6=>?_
 refine D.one (i:=2) O ?_
 refine Do.s (s.c (q.call kj O O (fun w hw=>(eA (sx.extract 1 5) w (by (rw [ByteArray.size_extract];omega))))) O) (fun _=>(kG [1,2] [] O O O)) O fun _=>?_
 refine D.one (i:=5) O ?_
 refine Do.s (s.c (q.call kj O O (fun w hw=>(eA (sx.extract 5 9) w (by (rw [ByteArray.size_extract];omega))))) O) (fun _=>(kG [1,2] [] O O O)) O fun _=>?_
 refine D.one (i:=8) O ?_
 refine Do.s (s.c (q.call kj O O (fun w hw=>(eA (sx.extract 9 13) w (by (rw [ByteArray.size_extract];omega))))) O) (fun _=>(kG [1,2] [] O O O)) O fun _=>?_
 refine D.one (i:=11) O ?_
 refine Do.s (s.c (q.call kj O O (fun w hw=>(eA (sx.extract 13 17) w (by (rw [ByteArray.size_extract];omega))))) O) (fun _=>(kG [1,2] [] O O O)) O fun _=>?_
 refine D.q (i:=12) O (kG [1,2] [] O O O) O (q.build (cs:=[iV (dF (sx.extract 1 5):Int),iV (dF (sx.extract 5 9):Int),iV (dF (sx.extract 9 13):Int),iV (dF (sx.extract 13 17):Int)]) eM O O) O<|?_
 refine D.one (i:=14) O ?_
 refine Do.s (s.st (us:=[iV (dF (sx.extract 1 5):Int),iV (dF (sx.extract 5 9):Int),iV (dF (sx.extract 9 13):Int),iV (dF (sx.extract 13 17):Int)]) (cs':=[iV (dF (sx.extract 1 5):Int),iV (dF (sx.extract 5 9):Int),iV (dF (sx.extract 9 13):Int),iV (dF (sx.extract 13 17):Int)]) 0 _ O O O O (.inl aT) O O O O) (fun _=>(kG [1,2] [] O O O)) O fun _=>?_
 refine D.done<|?_
 refine R.reg O<|R.u 1 O<|?_
 obtain ⟨y5,ET⟩:∃z,sx.data[0]? = some z:=⟨_,Array.getElem?_eq_getElem (show 0<sx.size from by omega)⟩
 have VJ:=y5.toNat_lt
 refine R.q (q.iL (i:=0) O O Tryz.underlying9 O ET) O<|?_
 by_cases UY:y5.toNat=72
 .
  refine R.q (q.neq O O (bne_eq_false_iff_eq.2 (by omega))) O<|R.u 1 O<|R.qg O (q.aO (off':=1) O iu O) O<|R.qg O (q.ld 0 O O au O) O<|?_
  by_cases h18:1<dF (sx.extract 5 9)
  .
   refine R.qg O (q.gtr O O (decide_eq_true (by omega))) O<|R.u 11 O<|R.nil ?_
   refine R.av O O ?_
   refine R.reg O<|R.q (q.build (cs:=[iV 0,iV 0,iV 0,iV 0]) eM O O) O<|?_
   refine R.s O (s.st (us:=[iV 0,iV 0,iV 0,iV 0]) (cs':=[iV 0,iV 0,iV 0,iV 0]) 1 _ O O O O (.inl aT) O O O O) fun _=>?_
   refine R.nil ?_
   have hz:ck sx=(⟨0,0,0,0⟩:cZ):=by (rw [di (by unfold fG;(rw [aK ET]);omega)];done)
   rw [hz]
   exact R.w1 () [2] [] O Tryz.results86 (RV.cell 1 O O aT) O O O O
  refine R.qg O (q.gtr O O (decide_eq_false (by omega))) O<|R.u 2 O<|R.qg O (q.aO (off':=2) O jU O) O<|R.qg O (q.ld 0 O O au O) O<|?_
  by_cases h19:2400<dF (sx.extract 9 13)
  .
   refine R.qg O (q.gtr O O (decide_eq_true (by omega))) O<|R.u 6 O<|R.nil ?_
   refine R.av O O ?_
   refine R.reg O<|R.q (q.build (cs:=[iV 0,iV 0,iV 0,iV 0]) eM O O) O<|?_
   refine R.s O (s.st (us:=[iV 0,iV 0,iV 0,iV 0]) (cs':=[iV 0,iV 0,iV 0,iV 0]) 1 _ O O O O (.inl aT) O O O O) fun _=>?_
   refine R.nil ?_
   have hz:ck sx=(⟨0,0,0,0⟩:cZ):=by (rw [di (by unfold fG;(rw [aK ET]);omega)];done)
   rw [hz]
   exact R.w1 () [2] [] O Tryz.results86 (RV.cell 1 O O aT) O O O O
  refine R.qg O (q.gtr O O (decide_eq_false (by omega))) O<|R.u 2 O<|R.qg O (q.aO (off':=3) O i7 O) O<|R.qg O (q.ld 0 O O au O) O<|?_
  by_cases h20:dF (sx.extract 13 17)<1
  .
   refine R.qg O (q.lss O O (decide_eq_true (by omega))) O<|R.u 1 O<|R.nil ?_
   refine R.av O O ?_
   refine R.reg O<|R.q (q.build (cs:=[iV 0,iV 0,iV 0,iV 0]) eM O O) O<|?_
   refine R.s O (s.st (us:=[iV 0,iV 0,iV 0,iV 0]) (cs':=[iV 0,iV 0,iV 0,iV 0]) 1 _ O O O O (.inl aT) O O O O) fun _=>?_
   refine R.nil ?_
   have hz:ck sx=(⟨0,0,0,0⟩:cZ):=by (rw [di (by unfold fG;(rw [aK ET]);omega)];done)
   rw [hz]
   exact R.w1 () [2] [] O Tryz.results86 (RV.cell 1 O O aT) O O O O
  refine R.qg O (q.lss O O (decide_eq_false (by omega))) O<|R.u 1 O<|R.nil ?_
  refine R.aB O O ?_
  refine R.reg O<|R.q (q.dh 0 O O aT) O<|?_
  refine R.s O (s.st (us:=[iV (dF (sx.extract 1 5):Int),iV (dF (sx.extract 5 9):Int),iV (dF (sx.extract 9 13):Int),iV (dF (sx.extract 13 17):Int)]) (cs':=[iV (dF (sx.extract 1 5):Int),iV (dF (sx.extract 5 9):Int),iV (dF (sx.extract 9 13):Int),iV (dF (sx.extract 13 17):Int)]) 1 _ O O O O (.inl aT) O O O O) fun _=>?_
  refine R.nil ?_
  have hz:ck sx=(⟨(dF (sx.extract 1 5):Int),(dF (sx.extract 5 9):Int),(dF (sx.extract 9 13):Int),(dF (sx.extract 13 17):Int)⟩:cZ):=by (rw [mC (by unfold fG;(rw [aK ET]);omega)];rfl)
  rw [hz]
  exact R.w1 () [2] [] O Tryz.results86 (RV.cell 1 O O aT) O O O O
 refine R.q (q.neq O O (bne_iff_ne.2 (by omega))) O<|R.u 15 O<|R.nil ?_
 refine R.av O O ?_
 refine R.reg O<|R.q (q.build (cs:=[iV 0,iV 0,iV 0,iV 0]) eM O O) O<|?_
 refine R.s O (s.st (us:=[iV 0,iV 0,iV 0,iV 0]) (cs':=[iV 0,iV 0,iV 0,iV 0]) 1 _ O O O O (.inl aT) O O O O) fun _=>?_
 refine R.nil ?_
 have hz:ck sx=(⟨0,0,0,0⟩:cZ):=by (rw [di (by unfold fG;(rw [aK ET]);omega)];done)
 rw [hz]
 exact R.w1 () [2] [] O Tryz.results86 (RV.cell 1 O O aT) O O O O
structure ka where
  Epoch:Int
  Side:Int
  Size:Int
  First:Int
  Rows:List Change
def oP.c (st:oP):ka:=⟨st.Epoch,st.Side,st.Size,st.First,st.Rows⟩
theorem C8 {t:ByteArray}{x y z:UInt8}(hx:t.data[0]? = some x)(hy:t.data[1]? = some y)(hz:t.data[2]? = some z):qk t=3+x.toNat+y.toNat+256*z.toNat:=by
 unfold qk;rw [aK hx,aK hy,aK hz]
theorem Kp {t:ByteArray}{x y z:UInt8}{c:Change}(hx:t.data[0]? = some x)(hy:t.data[1]? = some y)(hz:t.data[2]? = some z)(hc:c=⟨t.extract 3 (3+x.toNat),t.extract (3+x.toNat) (3+x.toNat+y.toNat+256*z.toNat),false⟩):xn t=c:=by
 rw [hc];unfold xn;rw [C8 hx hy hz,aK hx]
theorem HV (sx:ByteArray)(w:World)(own:List Nat)(H:HN w own [] [])(hs:sx.size<=2400):RC Tryz.prog 87 #[.string sx] H (fun z:Value => .tuple #[z,.bool (eY sx).2]) (fun z=>[ag.row 117 z (eY sx).1]) (fun _=>[]):=by
 refine R.bD [(0,.string sx)] Tryz.func87 O O O O H<|R.reg O<|R.u 2 O<|R.nil<|R.reg O<|R.u 1 O<|R.nil<|R.row0 (α:=Change) 117<|R.loop (fun g_:ByteArray×Nat×Value×(List Change)=>[(0,.string g_.1),(4,g_.2.2.1)]) (fun g_=>[ag.row 117 g_.2.2.1 g_.2.2.2,ag.held w own]) (fun g_=>[]) (fun g_=>g_.1.size+g_.2.2.2.length<=2400/\g_.1.size<g_.2.1/\pE g_.2.1 g_.1 g_.2.2.2=eY sx) (fun g_=>g_.2.1) (sx,sx.size+1,(nS),[]) O (by dsimp only;exact ⟨by simp;omega,by omega,rfl⟩) (sF O) (ic [0,1] [] O) ?_
 rintro ⟨tt,k,u,rs⟩ ⟨hl,hk,HP⟩
 dsimp only at *
 refine R.reg O<|R.u 1 O<|?_
 by_cases h1:tt=⟨#[]⟩
 .
  refine R.q (q.uG O O h1) O<|R.nil<|R.aB O O<|R.reg O<|R.u 3 O<|R.nil ?_
  have hz:eY sx=(rs,true):=by (exact (MG HP hk ‹_›))
  rw [hz]
  exact R.w2 u [0,1] [] O Tryz.results87 (RV.tmp O) (RV.tmp O) O O O (dA O O)
 refine R.q (q.zd O O h1) O<|R.nil<|R.av O O ?_
 by_cases h2:tt.size<3
 .
  refine R.eu O mixed (by kernel_rfl)<|Q.u 1 O<|Q.q (q.iA O Tryz.underlying9) O<|Q.q (q.dz O O) O<|Q.u 18 O<|Q.nil<|R.av O O<|R.reg O<|R.u 2 O<|R.nil<|R.row0 (α:=Change) 117 ?_
  have hz:eY sx=([],false):=by (exact (Gx HP hk ‹_› (.inl (by omega))))
  rw [hz]
  exact R.w2 (nS) [0,2] [] O Tryz.results87 (RV.tmp O) (RV.tmp O) O O O (dA O O)
 obtain ⟨y1,hy1⟩:∃z,tt.data[0]? = some z:=⟨_,Array.getElem?_eq_getElem (show 0<tt.size from by omega)⟩
 have Sr:=y1.toNat_lt
 obtain ⟨y2,hy2⟩:∃z,tt.data[1]? = some z:=⟨_,Array.getElem?_eq_getElem (show 1<tt.size from by omega)⟩
 have Ss:=y2.toNat_lt
 obtain ⟨y3,hy3⟩:∃z,tt.data[2]? = some z:=⟨_,Array.getElem?_eq_getElem (show 2<tt.size from by omega)⟩
 have TK:=y3.toNat_lt
 by_cases h3:tt.size<(((3+y1.toNat)+y2.toNat)+(256*y3.toNat))
 .
  refine R.eu O mixed (by kernel_rfl)<|Q.u 1 O<|Q.q (q.iA O Tryz.underlying9) O<|Q.q (q.cW O O) O<|Q.u 2 O<|Q.qg O (q.iL (i:=0) O O Tryz.underlying9 O hy1) O<|Q.qg O (q.nq (r:=((y1.toNat:Nat):Int)) O (by rw [Tryz.underlying5];rfl) Tryz.underlying3 (wr (by omega))) O<|Q.qg O (q.bB (r:=((3+y1.toNat:Nat):Int)) O O) O<|Q.u 1 O<|Q.qg O (q.iL (i:=1) O O Tryz.underlying9 O hy2) O<|Q.qg O (q.nq (r:=((y2.toNat:Nat):Int)) O (by rw [Tryz.underlying5];rfl) Tryz.underlying3 (wr (by omega))) O<|Q.qg O (q.bB (r:=(((3+y1.toNat)+y2.toNat:Nat):Int)) O O) O<|Q.u 1 O<|Q.qg O (q.iL (i:=2) O O Tryz.underlying9 O hy3) O<|Q.qg O (q.nq (r:=((y3.toNat:Nat):Int)) O (by rw [Tryz.underlying5];rfl) Tryz.underlying3 (wr (by omega))) O<|Q.qg O (q.vg (r:=((256*y3.toNat:Nat):Int)) O O) O<|Q.qg O (q.bB (r:=((((3+y1.toNat)+y2.toNat)+(256*y3.toNat):Nat):Int)) O O) O<|Q.u 1 O<|Q.qg O (q.iA O Tryz.underlying9) O<|Q.qg O (q.eL O O) O<|Q.u 1 O<|Q.nil<|R.av O O<|R.reg O<|R.u 2 O<|R.nil<|R.row0 (α:=Change) 117 ?_
  have hz:eY sx=([],false):=by (exact (Gx HP hk ‹_› (.inr (by rw [C8 hy1 hy2 hy3];omega))))
  rw [hz]
  exact R.w2 (nS) [0,2] [] O Tryz.results87 (RV.tmp O) (RV.tmp O) O O O (dA O O)
 refine R.eu O mixed (by kernel_rfl)<|Q.u 1 O<|Q.q (q.iA O Tryz.underlying9) O<|Q.q (q.cW O O) O<|Q.u 2 O<|Q.qg O (q.iL (i:=0) O O Tryz.underlying9 O hy1) O<|Q.qg O (q.nq (r:=((y1.toNat:Nat):Int)) O (by rw [Tryz.underlying5];rfl) Tryz.underlying3 (wr (by omega))) O<|Q.qg O (q.bB (r:=((3+y1.toNat:Nat):Int)) O O) O<|Q.u 1 O<|Q.qg O (q.iL (i:=1) O O Tryz.underlying9 O hy2) O<|Q.qg O (q.nq (r:=((y2.toNat:Nat):Int)) O (by rw [Tryz.underlying5];rfl) Tryz.underlying3 (wr (by omega))) O<|Q.qg O (q.bB (r:=(((3+y1.toNat)+y2.toNat:Nat):Int)) O O) O<|Q.u 1 O<|Q.qg O (q.iL (i:=2) O O Tryz.underlying9 O hy3) O<|Q.qg O (q.nq (r:=((y3.toNat:Nat):Int)) O (by rw [Tryz.underlying5];rfl) Tryz.underlying3 (wr (by omega))) O<|Q.qg O (q.vg (r:=((256*y3.toNat:Nat):Int)) O O) O<|Q.qg O (q.bB (r:=((((3+y1.toNat)+y2.toNat)+(256*y3.toNat):Nat):Int)) O O) O<|Q.u 1 O<|Q.qg O (q.iA O Tryz.underlying9) O<|Q.qg O (q.eo O O) O<|Q.u 1 O<|Q.nil<|R.aB O O<|R.reg O<|R.u 1 O<|R.q (q.iL (i:=0) O O Tryz.underlying9 O hy1) O<|R.q (q.nq (r:=((y1.toNat:Nat):Int)) O (by rw [Tryz.underlying5];rfl) Tryz.underlying3 (wr (by omega))) O<|R.q (q.bB (r:=((3+y1.toNat:Nat):Int)) O O) O<|R.u 1 O<|R.nil<|R.eu O mixed (by kernel_rfl)<|Q.u 2 O<|Q.q (q.iL (i:=1) O O Tryz.underlying9 O hy2) O<|Q.q (q.nq (r:=((y2.toNat:Nat):Int)) O (by rw [Tryz.underlying5];rfl) Tryz.underlying3 (wr (by omega))) O<|Q.q (q.bB (r:=(((3+y1.toNat)+y2.toNat:Nat):Int)) O O) O<|Q.u 1 O<|Q.q (q.iL (i:=2) O O Tryz.underlying9 O hy3) O<|Q.q (q.nq (r:=((y3.toNat:Nat):Int)) O (by rw [Tryz.underlying5];rfl) Tryz.underlying3 (wr (by omega))) O<|Q.q (q.vg (r:=((256*y3.toNat:Nat):Int)) O O) O<|Q.q (q.bB (r:=((((3+y1.toNat)+y2.toNat)+(256*y3.toNat):Nat):Int)) O O) O<|Q.u 1 O<|Q.nil<|R.fP (fuel:=10) [0,1] O O mixed O<|D.q (i:=0) O (aD [0,1] [] O) O (q.mv O) O<|D.q (i:=1) O (aD [0,1] [] O) O (q.mv O) O<|D.q (i:=2) O (aD [0,1] [] O) O (q.Cr (i:=3) (j:=(3+y1.toNat)) O O O Tryz.underlying9 O O (by omega) (by omega)) O<|D.q (i:=3) O (aD [0,1] [] O) O (q.mv O) O<|D.q (i:=4) O (aD [0,1] [] O) O (q.mv O) O<|D.q (i:=5) O (aD [0,1] [] O) O (q.mv O) O<|D.q (i:=6) O (aD [0,1] [] O) O (q.Cr (i:=(3+y1.toNat)) (j:=(((3+y1.toNat)+y2.toNat)+(256*y3.toNat))) O O O Tryz.underlying9 O O (by omega) (by omega)) O<|D.q (i:=7) O (aD [0,1] [] O) O (q.build kM O O) O<|D.one (i:=8) O<|Do.s (s.alloc cI O O) (fun _=>(aD [1,2] [] O)) O fun b1=>?_
 refine D.one (i:=9) O<|Do.s (s.st 0 _ O O O O (.inl aY) O O O O) (fun _=>(aD [1,2] [] O)) O fun _=>?_
 refine D.done<|R.reg O<|R.q (q.dh 0 O O aY) O<|R.c (q.call tU O O (fun w hw=>(jx (⟨(tt.extract 3 (3+y1.toNat)),(tt.extract (3+y1.toNat) (((3+y1.toNat)+y2.toNat)+(256*y3.toNat))),false⟩:Change) w ))) O<|?_
 by_cases h4:iI (⟨(tt.extract 3 (3+y1.toNat)),(tt.extract (3+y1.toNat) (((3+y1.toNat)+y2.toNat)+(256*y3.toNat))),false⟩:Change)=0
 .
  refine R.q (q.dx O O Tryz.underlying38) O<|R.nil<|R.aB O O<|R.reg O<|R.u 1 O<|R.q (q.dh 0 O O aY) O<|R.s O (s.bs (l:=([(⟨(tt.extract 3 (3+y1.toNat)),(tt.extract (3+y1.toNat) (((3+y1.toNat)+y2.toNat)+(256*y3.toNat))),false⟩:Change)]:List Change)) cd cI O O O O O O O) fun b2=>?_
  refine R.s O (s.pre (fun _ hw=>hw.cX 2 _ O O) (s.pre (fun _ hw=>hw.cX 0 _ O O) (s.aW [0,1] [1,0] _ _ _ O O O Jp O O (fun w own hw H=>oL u rs (.slice (some ⟨b2,0,none⟩) 1 1) ([(⟨(tt.extract 3 (3+y1.toNat)),(tt.extract (3+y1.toNat) (((3+y1.toNat)+y2.toNat)+(256*y3.toNat))),false⟩:Change)]) w own H (by (simp;omega))) O))) fun z1=>?_
  refine R.u 1 O<|R.nil<|R.reg O<|R.u 2 O<|R.q (q.Ct (i:=(((3+y1.toNat)+y2.toNat)+(256*y3.toNat))) O O Tryz.underlying9 O (by omega)) O<|R.u 1 O<|R.nil<|R.back ((tt.extract (((3+y1.toNat)+y2.toNat)+(256*y3.toNat)) tt.size),k-1,z1,bX rs ([(⟨(tt.extract 3 (3+y1.toNat)),(tt.extract (3+y1.toNat) (((3+y1.toNat)+y2.toNat)+(256*y3.toNat))),false⟩:Change)])) O (by ((try dsimp only);have g:=Qc HP hk ‹_› (by rw [C8 hy1 hy2 hy3];omega) (by rw [Kp hy1 hy2 hy3 O];assumption);rw [C8 hy1 hy2 hy3,Kp hy1 hy2 hy3 O] at g;have ha:=kU [(⟨(tt.extract 3 (3+y1.toNat)),(tt.extract (3+y1.toNat) (((3+y1.toNat)+y2.toNat)+(256*y3.toNat))),false⟩:Change)] rs;rw [List.length_singleton] at ha;exact ⟨by rw [ByteArray.size_extract];omega,g.2,g.1⟩)) (by dsimp only;omega) (sF O) (aD [0,2] [] O)
 refine R.q (q.d9 O O Tryz.underlying38) O<|R.nil<|R.av O O<|R.reg O<|R.u 2 O<|R.nil<|R.row0 (α:=Change) 117 ?_
 have hz:eY sx=([],false):=by (exact (HQ HP hk ‹_› (by rw [C8 hy1 hy2 hy3];omega) (by rw [Kp hy1 hy2 hy3 rfl];assumption)))
 rw [hz]
 exact R.w2 (nS) [0,3] [] O Tryz.results87 (RV.tmp O) (RV.tmp O) O O O (dA O O)
theorem Kq {k i:Nat}{m:cx}{e:Int}{Z:cx×Int}(h:kv k i (m,e)=Z)(he:e=0)(hk:0<k):kv (k-1) (i+1) (ap m (i:Int) ⟨#[]⟩)=Z:=by
 cases k with
 | zero=>omega
 | succ k=>rw [kv,if_pos he] at h;exact h
theorem C9 {k i:Nat}{m:cx}{e:Int}{Z:cx×Int}(h:kv k i (m,e)=Z)(he:¬ e=0):Z=(m,e):=by
 cases k with
 | zero=>exact h.symm
 | succ k=>rw [kv,if_neg he] at h;exact h.symm
theorem uc {k i:Nat}{m:cx}{e:Int}{Z:cx×Int}(h:kv k i (m,e)=Z)(hk:k=0):Z=(m,e):=by subst hk;exact h.symm
theorem EW (aH:Nat)(ay aG az:Value)(dk:cx)(w:World)(own:List Nat)(H:HN w own [ag.box aH [ay,aG,az,iV dk.Fuse,.bool dk.Down] 112,ag.row 9 ay dk.Kept,ag.row 9 aG dk.Now,ag.row 114 az dk.Wait] [])(hD:fN dk.Now.length 80000 dk/\dk.Now.length<=1000):RC Tryz.prog 69 #[.pointer (some ⟨aH,0,none⟩)] H (fun _:Value×Value×Value=>da (dL dk).2) (fun z=>[ag.box aH [z.1,z.2.1,z.2.2,iV (dL dk).1.Fuse,.bool (dL dk).1.Down] 112,ag.row 9 z.1 (dL dk).1.Kept,ag.row 9 z.2.1 (dL dk).1.Now,ag.row 114 z.2.2 (dL dk).1.Wait]) (fun _=>[]):=by
 have eE:=H.cap 1 rfl;have eF:=H.cO 1 rfl
 have fD:=H.cap 2 rfl;have fE:=H.cO 2 rfl
 have eG:=H.cap 3 rfl;have eH:=H.cO 3 rfl
 have p0:=hD.1.fine (by omega) (by omega)
 refine R.bD [(0,.pointer (some ⟨aH,0,none⟩))] Tryz.func69 O O O O H<|R.reg O<|R.u 1 O<|R.nil<|R.reg O<|R.u 1 O<|R.c (q.call uJ O O (fun w hw=>(gE aH ay aG az dk w (hw.b 0 O) (hw.row 1 O) (hw.row 2 O) (hw.row 3 O) ))) O<|?_
 by_cases h1:dk.Now.length<166
 .
  refine R.q (q.dz O O) O<|R.nil<|R.av O O<|R.reg O<|R.q (q.iface O bm) O<|R.u 1 O<|R.nil ?_
  have hz:dL dk=(dk,9):=by (exact HU (by omega))
  rw [hz]
  exact R.w1 (ay,aG,az) gX [] O Tryz.results69 (RV.tmp O) O O O (dr (by decide) O)
 refine R.q (q.cW O O) O<|R.nil<|R.aB O O<|R.reg O<|R.u 1 O<|R.s O (s.aW gX [] _ _ _ O O O uI O O (fun w own hw H=>jd aH ay aG az dk 0 (⟨#[]⟩) w own H ‹_›) O) ?_
 rintro ⟨z1,z2,z3⟩
 dsimp only
 refine R.u 1 O<|R.nil<|R.reg O<|R.u 1 O<|R.nil<|R.loop (fun g_:Nat×Int×cx×Value×Value×Value=>[(0,.pointer (some ⟨aH,0,none⟩)),(3,da g_.2.1),(4,iV ((102+g_.1):Int))]) (fun g_=>[ag.box aH [g_.2.2.2.1,g_.2.2.2.2.1,g_.2.2.2.2.2,iV g_.2.2.1.Fuse,.bool g_.2.2.1.Down] 112,ag.row 9 g_.2.2.2.1 g_.2.2.1.Kept,ag.row 9 g_.2.2.2.2.1 g_.2.2.1.Now,ag.row 114 g_.2.2.2.2.2 g_.2.2.1.Wait,ag.held w own]) (fun g_=>[]) (fun g_=>102+g_.1<=dk.Now.length/\kv (dk.Now.length-102-g_.1) (102+g_.1) (g_.2.2.1,g_.2.1)=xm dk/\fN dk.Now.length (80001+g_.1) g_.2.2.1) (fun g_=>dk.Now.length-g_.1) (0,(ap dk 0 (⟨#[]⟩)).2,(ap dk 0 (⟨#[]⟩)).1,z1,z2,z3) O (by (try dsimp only);exact ⟨by omega,rfl,hD.1.write _ _⟩) (sF O) (ic gX [] O) ?_
 rintro ⟨j,e,dm,eh,fL,ej⟩ ⟨hj,HB,hO⟩
 dsimp only at *
 have Wq:=hO.nl;have p1:=hO.fine (by omega) (by omega)
 refine R.reg O<|R.u 2 O<|R.c (q.call uJ O O (fun w hw=>(gE aH eh fL ej dm w (hw.b 0 O) (hw.row 1 O) (hw.row 2 O) (hw.row 3 O) ))) O<|?_
 by_cases h2:(102+j)<dm.Now.length
 .
  refine R.q (q.dz O O) O<|R.u 2 O<|?_
  by_cases h3:e=0
  .
   refine R.qg O (q.lx O O Tryz.underlying38) O<|R.u 1 O<|R.nil<|R.av O O<|R.reg O<|R.u 2 O<|R.s O (s.aW gX [] _ _ _ O O O uI O O (fun w own hw H=>jd aH eh fL ej dm ((102+j):Int) (⟨#[]⟩) w own H ‹_›) O) ?_
   rintro ⟨z4,z5,z6⟩
   dsimp only
   refine R.u 1 O<|R.nil<|R.reg O<|R.u 1 O<|R.q (q.bB (r:=(((102+j)+1:Nat):Int)) O O) O<|R.u 1 O<|R.nil<|R.back (j+1,(ap dm ((102+j):Int) (⟨#[]⟩)).2,(ap dm ((102+j):Int) (⟨#[]⟩)).1,z4,z5,z6) O (by ((try dsimp only);exact ⟨by omega,by have g:=Kq HB ‹_› (by omega);rwa [show dk.Now.length-102-(j+1)=dk.Now.length-102-j-1 by omega],hO.write _ _⟩)) (by dsimp only;omega) (sF O) (aD gX [] O)
  refine R.qg O (q.jA O O Tryz.underlying38) O<|R.u 1 O<|R.nil<|R.aB O O<|R.reg O<|R.u 1 O<|R.q (q.jA O O Tryz.underlying38) O<|R.nil<|R.aB O O<|R.reg O<|R.u 1 O<|R.q (q.jA O O Tryz.underlying38) O<|R.nil<|R.aB O O<|R.reg O<|R.u 1 O<|R.q (q.jA O O Tryz.underlying38) O<|R.nil<|R.aB O O<|R.reg O<|R.u 2 O<|R.nil ?_
  have hz:dL dk=(dm,e):=by (exact Ox (by omega) (by exact (C9 HB ‹_›)) ‹_›)
  rw [hz]
  exact R.w1 (eh,fL,ej) gX [] O Tryz.results69 (RV.tmp O) O O O O
 refine R.q (q.cW O O) O<|R.u 4 O<|R.nil<|R.aB O O<|R.reg O<|R.u 1 O<|?_
 by_cases h4:e=0
 .
  refine R.q (q.lx O O Tryz.underlying38) O<|R.nil<|R.av O O<|R.reg O<|R.u 1 O<|R.s O (s.aW gX [] _ _ _ O O O zo O O (fun w own hw H=>kS aH eh fL ej dm w own H ‹_›) O) ?_
  rintro ⟨z7,z8,z9⟩
  dsimp only
  refine R.u 1 O<|R.nil<|R.reg O<|R.u 1 O<|?_
  by_cases h5:(ai dm).2=0
  .
   refine R.q (q.lx O O Tryz.underlying38) O<|R.nil<|R.av O O ?_
   have p2:=hO.flush.fine (by omega) (by omega)
   refine R.reg O<|R.u 1 O<|R.q (q.build eM O O) O<|R.c (q.call Ob O O (fun w hw=>(zF (⟨1,0,0,1⟩:cZ) w (by (dsimp only;omega))))) O<|?_
   refine R.s O (s.aW gX [] _ _ _ O O O uI O O (fun w own hw H=>jd aH z7 z8 z9 (ai dm).1 1 (aN (⟨1,0,0,1⟩:cZ)) w own H ‹_›) O) ?_
   rintro ⟨kY,lZ,z12⟩
   dsimp only
   refine R.u 1 O<|R.nil<|R.reg O<|R.u 1 O<|?_
   by_cases h6:(ap (ai dm).1 1 (aN (⟨1,0,0,1⟩:cZ))).2=0
   .
    refine R.q (q.lx O O Tryz.underlying38) O<|R.nil<|R.av O O ?_
    have p3:=(hO.flush.write 1 (aN ⟨1,0,0,1⟩)).fine (by omega) (by omega)
    refine R.reg O<|R.u 1 O<|R.s O (s.aW gX [] _ _ _ O O O zo O O (fun w own hw H=>kS aH kY lZ z12 (ap (ai dm).1 1 (aN (⟨1,0,0,1⟩:cZ))).1 w own H ‹_›) O) ?_
    rintro ⟨pI,yE,Gy⟩
    dsimp only
    refine R.u 1 O<|R.nil<|R.reg O<|R.u 2 O<|R.nil ?_
    have hz:dL dk=(((ai (ap (ai dm).1 1 (aN (⟨1,0,0,1⟩:cZ))).1).1),(ai (ap (ai dm).1 1 (aN (⟨1,0,0,1⟩:cZ))).1).2):=by (exact Oy (by omega) (by exact (uc HB (by omega))) ‹_› ‹_› ‹_›)
    rw [hz]
    exact R.w1 (pI,yE,Gy) gX [] O Tryz.results69 (RV.tmp O) O O O O
   refine R.q (q.jA O O Tryz.underlying38) O<|R.nil<|R.aB O O<|R.reg O<|R.u 2 O<|R.nil ?_
   have hz:dL dk=(((ap (ai dm).1 1 (aN (⟨1,0,0,1⟩:cZ))).1),(ap (ai dm).1 1 (aN (⟨1,0,0,1⟩:cZ))).2):=by (exact SK (by omega) (by exact (uc HB (by omega))) ‹_› ‹_› ‹_›)
   rw [hz]
   exact R.w1 (kY,lZ,z12) gX [] O Tryz.results69 (RV.tmp O) O O O O
  refine R.q (q.jA O O Tryz.underlying38) O<|R.nil<|R.aB O O<|R.reg O<|R.u 1 O<|R.q (q.jA O O Tryz.underlying38) O<|R.nil<|R.aB O O<|R.reg O<|R.u 2 O<|R.nil ?_
  have hz:dL dk=(((ai dm).1),(ai dm).2):=by (exact SJ (by omega) (by exact (uc HB (by omega))) ‹_› ‹_›)
  rw [hz]
  exact R.w1 (z7,z8,z9) gX [] O Tryz.results69 (RV.tmp O) O O O O
 refine R.q (q.jA O O Tryz.underlying38) O<|R.nil<|R.aB O O<|R.reg O<|R.u 1 O<|R.q (q.jA O O Tryz.underlying38) O<|R.nil<|R.aB O O<|R.reg O<|R.u 1 O<|R.q (q.jA O O Tryz.underlying38) O<|R.nil<|R.aB O O<|R.reg O<|R.u 2 O<|R.nil ?_
 have hz:dL dk=(dm,e):=by (exact Ox (by omega) (by exact (C9 HB ‹_›)) ‹_›)
 rw [hz]
 exact R.w1 (eh,fL,ej) gX [] O Tryz.results69 (RV.tmp O) O O O O
structure vt where
  Buf:List UInt8
structure MH where
  Used:Bool
  Buf:List UInt8
theorem yK (jh:Nat)(fu:Value)(bd:vt)(w:World)(own:List Nat)(H:HN w own [ag.box jh [.pointer none,fu] 194,ag.row 5 fu bd.Buf] []):RC Tryz.prog 183 #[.pointer (some ⟨jh,0,none⟩)] H (fun _:Value => .tuple #[]) (fun z=>[ag.box jh [.pointer (some ⟨jh,0,none⟩),z] 194,ag.row 5 z bd.Buf]) (fun _=>[]):=by
 have xu:=H.cap 1 rfl;have xw:=H.cO 1 rfl
 refine R.bD [(0,.pointer (some ⟨jh,0,none⟩))] Tryz.func183 O O O O H<|R.reg O<|R.u 1 O<|R.q (q.cb O) O<|R.q (q.aO O oD O) O<|R.q (q.ld 0 O O sU O) O<|R.q (q.O4 O O Tryz.underlying192) O<|R.nil<|R.av O O<|R.reg O<|R.u 2 O<|R.q (q.VM (i:=0) O O Tryz.underlying192 Tryz.underlying252 O (by decide) (by simp)) O<|R.q (q.SA Tryz.func202 (by decide +kernel) O O O O O) O<|R.q (q.VN (i:=0) O O Tryz.underlying252 Tryz.underlying192 O 2 O (by decide +kernel)) O<|R.q (q.cb O) O<|R.q (q.aO O oD O) O<|R.s O (s.st 0 _ O O O O (.inr ⟨sU,rfl⟩) O O O O) fun _=>?_
 exact R.nil<|R.w0 fu [0,1,2] [] (by exact .inl O) Tryz.results183 O O O O
theorem yL (jh:Nat)(fu:Value)(bd:vt)(sx:ByteArray)(w:World)(own:List Nat)(H:HN w own [ag.box jh [.pointer none,fu] 194,ag.row 5 fu bd.Buf] [])(hl:bd.Buf.length+sx.size<=1000000):RC Tryz.prog 136 #[.pointer (some ⟨jh,0,none⟩),.string sx] H (fun _:Value => .tuple #[iV (sx.size:Int),.nilIface]) (fun z=>[ag.box jh [.pointer (some ⟨jh,0,none⟩),z] 194,ag.row 5 z ((⟨bd.Buf++sx.data.toList⟩:vt).Buf:List UInt8)]) (fun _=>[]):=by
 have xu:=H.cap 1 rfl;have xw:=H.cO 1 rfl
 refine R.bD [(0,.pointer (some ⟨jh,0,none⟩)),(1,.string sx)] Tryz.func136 O O O O H<|R.reg O<|R.u 2 O<|R.nil<|R.reg O<|R.u 1 O<|R.s O (s.aW [0,1,2] [] _ _ _ O O O JC O O (fun w own hw H=>yK jh fu bd w own H ) O) fun z1=>?_
 refine R.nil<|R.reg O<|R.u 2 O<|R.q (q.cb O) O<|R.q (q.aO O oE O) O<|R.q (q.ld 0 O O mq O) O<|R.u 1 O<|R.s O (s.Kl 1 O O O Tryz.underlying138 Tryz.underlying9 O O O O (by omega) O) fun v1=>?_
 refine R.q (q.cb O) O<|R.q (q.aO O oE O) O<|R.s O (s.fS 0 _ O O O (fun w hw=>Sl.cm (hw.row 1 O)) (.inr ⟨mq,rfl⟩) (fun w hw=>(af (Sl.one (hw.row 1 O)) aP)) O O O) fun _=>?_
 refine R.nil<|R.reg O<|R.u 1 O<|R.q (q.iA O Tryz.underlying9) O<|R.u 2 O<|R.nil ?_
 have hz:((⟨bd.Buf++sx.data.toList⟩:vt),sx.size)=((⟨(bd.Buf++sx.data.toList)⟩:vt),sx.size):=by (rfl)
 exact R.w2 v1 [0,1,2] [] O Tryz.results136 (RV.tmp O) (RV.tmp O) O O O (dA O O)
theorem yM (jh:Nat)(fu:Value)(bd:vt)(w:World)(own:List Nat)(H:HN w own [ag.box jh [.pointer (some ⟨jh,0,none⟩),fu] 194,ag.row 5 fu bd.Buf] []):RC Tryz.prog 183 #[.pointer (some ⟨jh,0,none⟩)] H (fun _:Value => .tuple #[]) (fun z=>[ag.box jh [.pointer (some ⟨jh,0,none⟩),z] 194,ag.row 5 z bd.Buf]) (fun _=>[]):=by
 have xu:=H.cap 1 rfl;have xw:=H.cO 1 rfl
 exact R.bD [(0,.pointer (some ⟨jh,0,none⟩))] Tryz.func183 rfl rfl rfl rfl H<|R.reg rfl<|R.u 1 rfl<|R.q (q.cb rfl) rfl<|R.q (q.aO rfl oD rfl) rfl<|R.q (q.ld 0 rfl rfl sU rfl) rfl<|R.q (q.O4 rfl rfl Tryz.underlying192) rfl<|R.nil<|R.aB rfl rfl<|R.reg rfl<|R.u 1 rfl<|R.q (q.cb rfl) rfl<|R.q (q.aO rfl oD rfl) rfl<|R.q (q.ld 0 rfl rfl sU rfl) rfl<|R.u 1 rfl<|R.q (q.same rfl rfl Tryz.underlying192 rfl) rfl<|R.nil<|R.aB rfl rfl<|R.w0 fu [0,1,2] [] (by exact .inl rfl) Tryz.results183 rfl rfl rfl rfl
theorem yN (jh:Nat)(fu:Value)(bd:vt)(sx:ByteArray)(w:World)(own:List Nat)(H:HN w own [ag.box jh [.pointer (some ⟨jh,0,none⟩),fu] 194,ag.row 5 fu bd.Buf] [])(hl:bd.Buf.length+sx.size<=1000000):RC Tryz.prog 136 #[.pointer (some ⟨jh,0,none⟩),.string sx] H (fun _:Value => .tuple #[iV (sx.size:Int),.nilIface]) (fun z=>[ag.box jh [.pointer (some ⟨jh,0,none⟩),z] 194,ag.row 5 z ((⟨bd.Buf++sx.data.toList⟩:vt).Buf:List UInt8)]) (fun _=>[]):=by
 have xu:=H.cap 1 rfl;have xw:=H.cO 1 rfl
 refine R.bD [(0,.pointer (some ⟨jh,0,none⟩)),(1,.string sx)] Tryz.func136 O O O O H<|R.reg O<|R.u 2 O<|R.nil<|R.reg O<|R.u 1 O<|R.s O (s.aW [0,1,2] [] _ _ _ O O O JC O O (fun w own hw H=>yM jh fu bd w own H ) O) fun z1=>?_
 refine R.nil<|R.reg O<|R.u 2 O<|R.q (q.cb O) O<|R.q (q.aO O oE O) O<|R.q (q.ld 0 O O mq O) O<|R.u 1 O<|R.s O (s.Kl 1 O O O Tryz.underlying138 Tryz.underlying9 O O O O (by omega) O) fun v1=>?_
 refine R.q (q.cb O) O<|R.q (q.aO O oE O) O<|R.s O (s.fS 0 _ O O O (fun w hw=>Sl.cm (hw.row 1 O)) (.inr ⟨mq,rfl⟩) (fun w hw=>(af (Sl.one (hw.row 1 O)) aP)) O O O) fun _=>?_
 refine R.nil<|R.reg O<|R.u 1 O<|R.q (q.iA O Tryz.underlying9) O<|R.u 2 O<|R.nil ?_
 have hz:((⟨bd.Buf++sx.data.toList⟩:vt),sx.size)=((⟨(bd.Buf++sx.data.toList)⟩:vt),sx.size):=by (rfl)
 exact R.w2 v1 [0,1,2] [] O Tryz.results136 (RV.tmp O) (RV.tmp O) O O O (dA O O)
theorem Bw (jh:Nat)(fu:Value)(bd:MH)(sx:ByteArray)(w:World)(own:List Nat)(H:HN w own [ag.box jh [xo jh bd.Used,fu] 194,ag.row 5 fu (bd.Buf:List UInt8)] [])(hl:bd.Buf.length+sx.size<=1000000):RC Tryz.prog 136 #[.pointer (some ⟨jh,0,none⟩),.string sx] H (fun _:Value => .tuple #[.int .i64 (sx.size:Int),.nilIface]) (fun z=>[ag.box jh [xo jh (((⟨true,bd.Buf++sx.data.toList⟩:MH)).Used),z] 194,ag.row 5 z (((⟨true,bd.Buf++sx.data.toList⟩:MH)).Buf:List UInt8)]) (fun _=>[]):=by
 obtain ⟨u_,l_⟩:=bd
 cases u_ with
 | true=>exact yN jh fu (⟨l_⟩:vt) sx w own H hl
 | false=>exact yL jh fu (⟨l_⟩:vt) sx w own H hl
theorem MI (bP:Value)(l:List Change)(w:World)(ew:Sl w bP l)(hl:l.length<=1000)(hF:∀c∈l,iI c=0):Calls Tryz.prog 76 #[bP] w fun e w'=>e = .returned (.string (aJ l))/\Ext w w':=by
 have zx:=ew.fB
 refine R.enter [] [(0,bP)] Tryz.func76 O O O O<|R.pC ew<|R.reg O<|R.u 1 O<|R.nil<|R.reg O<|R.s O (s.alloc Hn O O) fun b1=>?_
 refine R.nil<|R.reg O<|R.u 1 O<|R.q (q.len' (dy 0 O) O Tryz.underlying34) O<|R.u 1 O<|R.nil<|R.row0 (α:=UInt8) 5<|R.loop (fun g_:Nat×Bool×Value×(List UInt8)=>[(3,.pointer (some ⟨b1,0,none⟩)),(6,bP),(7,iV (l.length:Int)),(8,iV (g_.1:Int))]) (fun g_=>[ag.row 5 g_.2.2.1 g_.2.2.2,ag.box b1 [xo b1 g_.2.1,g_.2.2.1] 194]) (fun g_=>[ag.ls bP l]) (fun g_=>g_.1<=l.length/\g_.2.2.2=(aJ (l.take g_.1)).data.toList) (fun g_=>l.length-g_.1) (0,false,(nS),[]) O (by exact ⟨by omega,rfl⟩) (sF O) (ic [0,1] [0] O) ?_
 rintro ⟨k,u,qb,bb⟩ ⟨hk,HB⟩
 dsimp only at *
 have hbl:bb.length<=35*k:=by have:=vH (l:=l.take k) (fun c hc=>hF c (List.mem_of_mem_take hc));rw [List.length_take] at this;rw [HB,Array.length_toList];show (aJ (l.take k)).size<=_;omega
 refine R.reg O<|?_
 by_cases h1:k<l.length
 .
  refine R.q (q.dz O O) O<|R.nil<|R.av O O<|R.reg O<|?_
  obtain ⟨x1,hx1⟩:∃z,l[k]? = some z:=⟨_,List.getElem?_eq_getElem (by omega)⟩
  obtain ⟨P8,VL,Wr,Ws⟩:=g9 (hF x1 (List.mem_of_getElem? hx1))
  refine R.q (q.idx (i:=k) (dy 0 O) O O cd O hx1) O<|R.q (q.eS (ds:=iz x1) (dy 0 O) hx1 O aY O) O<|R.s O (s.alloc cI O O) fun b2=>?_
  refine R.s O (s.st 0 _ O O O O (.inl aY) O O O O) fun _=>?_
  refine R.nil<|R.reg O<|R.q (q.aO O bI O) O<|R.q (q.ld 0 O O bF O) O<|R.q (q.iA O Tryz.underlying9) O<|R.q (q.nq (r:=((x1.Key.size:Nat):Int)) O (by rw [Tryz.underlying3];rfl) Tryz.underlying5 (wt (by omega))) O<|R.q (q.aO O cY O) O<|R.q (q.ld 0 O O bF O) O<|R.q (q.iA O Tryz.underlying9) O<|R.q (q.nq (r:=((x1.Val.size:Nat):Int)) O (by rw [Tryz.underlying3];rfl) Tryz.underlying5 (wt (by omega))) O<|R.q (q.aO O cY O) O<|R.q (q.ld 0 O O bF O) O<|R.q (q.iA O Tryz.underlying9) O<|R.q (q.shr (r:=(((x1.Val.size / 256):Nat):Int)) O O (by decide) (Mi (by decide))) O<|R.q (q.nq (r:=(((x1.Val.size / 256):Nat):Int)) O (by rw [Tryz.underlying3];rfl) Tryz.underlying5 (wt (by omega))) O<|R.s O (s.bs (l:=([(UInt8.ofNat x1.Key.size),(UInt8.ofNat x1.Val.size),(UInt8.ofNat (x1.Val.size / 256))]:List UInt8)) aR ey O O O O O (cp (dJ (by omega)) (cp (dJ (by omega)) (cp (dJ (by omega)) fV))) O) fun b3=>?_
  refine R.q (q.kg (bC 0 O) O aR Tryz.underlying5 Tryz.underlying9) O<|R.q (q.aO O bI O) O<|R.q (q.ld 1 O O bF O) O<|R.q (q.cat O O (by (simp only [ByteArray.size_append,aI,aF,List.length_cons,List.length_nil];omega))) O<|R.q (q.aO O cY O) O<|R.q (q.ld 1 O O bF O) O<|R.q (q.cat O O (by (simp only [ByteArray.size_append,aI,aF,List.length_cons,List.length_nil];omega))) O<|R.s O (s.aW [3,2,0,1] [] _ _ _ O O O Pn O O (fun w own hw H=>Bw b1 qb (⟨u,bb⟩:MH) (((⟨([(UInt8.ofNat x1.Key.size),(UInt8.ofNat x1.Val.size),(UInt8.ofNat (x1.Val.size / 256))]).toArray⟩:ByteArray)++x1.Key)++x1.Val) w own H (by (simp only [ByteArray.size_append,aI,List.length_cons,List.length_nil];omega))) O) fun z1=>?_
  refine R.nil<|R.reg O<|R.q (q.bB (r:=((k+1:Nat):Int)) O O) O<|R.u 1 O<|R.nil<|R.back (k+1,true,z1,(bb++(((⟨([(UInt8.ofNat x1.Key.size),(UInt8.ofNat x1.Val.size),(UInt8.ofNat (x1.Val.size / 256))]).toArray⟩:ByteArray)++x1.Key)++x1.Val).data.toList)) O (by (exact ⟨by omega,by rw [HO hx1,HB];simp [iT]⟩)) (by dsimp only;omega) (sF O) (aD [1,0] [0] O)
 refine R.q (q.cW O O) O<|R.nil<|R.aB O O<|R.reg O<|R.s O (s.Ue (i:=1) (j:=0) (u:=u) (l:=bb) Po O O (by decide) O O (fun W h hW=>Tryz.Builder_String_any _ _ _ W h hW) O) fun _=>?_
 exact R.u 1 O<|R.nil<|R.rv O Tryz.results76 O (rS (by (rw [HB,List.take_of_length_le (by omega)])))
end Go.Proofs.YtkbhcbipadkcaaaGreatDoor
