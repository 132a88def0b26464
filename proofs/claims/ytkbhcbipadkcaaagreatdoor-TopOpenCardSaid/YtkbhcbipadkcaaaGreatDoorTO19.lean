import Derived.Test.YtkbhcbipadkcaaaGreatDoorTO18
namespace Go.Proofs.YtkbhcbipadkcaaaGreatDoor
set_option linter.unusedVariables false
set_option linter.unusedSimpArgs false
open Go Go.RowKit
set_option maxRecDepth 100000
set_option maxHeartbeats 1000000
theorem qM (n:Int)(w:World)(hn:0<=n/\n<=9000000000000000000):Calls Tryz.prog 140 #[iV n] w fun e w'=>e = .returned (.string (bY n))/\Ext w w':=by
 exact R.enter [] [(0,iV n)] Tryz.func140 rfl rfl rfl rfl<|R.reg rfl<|R.u 1 rfl<|R.nil<|R.reg rfl<|R.u 1 rfl<|R.q (q.nn rfl (by rw [Tryz.underlying3];rfl) Tryz.underlying5 pO) rfl<|R.u 1 rfl<|R.q (q.shr (r:=n / 256) rfl rfl (by decide) (G5 (D:=256) (by decide) (by decide))) rfl<|R.q (q.nn rfl (by rw [Tryz.underlying3];rfl) Tryz.underlying5 pO) rfl<|R.u 1 rfl<|R.q (q.shr (r:=n / 65536) rfl rfl (by decide) (G5 (D:=65536) (by decide) (by decide))) rfl<|R.q (q.nn rfl (by rw [Tryz.underlying3];rfl) Tryz.underlying5 pO) rfl<|R.u 1 rfl<|R.q (q.shr (r:=n / 16777216) rfl rfl (by decide) (G5 (D:=16777216) (by decide) (by decide))) rfl<|R.q (q.nn rfl (by rw [Tryz.underlying3];rfl) Tryz.underlying5 pO) rfl<|R.s rfl (s.bs (l:=([(u8 (n % 256)),(u8 ((n / 256) % 256)),(u8 ((n / 65536) % 256)),(u8 ((n / 16777216) % 256))]:List UInt8)) aS ez rfl rfl rfl rfl rfl (cw (gD (by omega)) (cw (gD (by omega)) (cw (gD (by omega)) (cw (gD (by omega)) fU)))) rfl) fun b1=>R.q (q.kf (fun _=>Wd.row 0 rfl) rfl aS Tryz.underlying5 Tryz.underlying9) rfl<|R.u 1 rfl<|R.nil<|R.rv rfl Tryz.results140 rfl (rS (by rfl))
theorem eB (sx:ByteArray)(w:World)(hs:4<=sx.size):Calls Tryz.prog 144 #[.string sx] w fun e w'=>e = .returned (iV (dF sx:Int))/\Ext w w':=by
 refine R.enter [] [(0,.string sx)] Tryz.func144 O O O O<|R.reg O<|R.u 1 O<|R.nil ?_
 obtain ⟨y1,hy1⟩:∃z,sx.data[0]? = some z:=⟨_,Array.getElem?_eq_getElem (show 0<sx.size from by omega)⟩
 have Sg:=y1.toNat_lt
 obtain ⟨y2,hy2⟩:∃z,sx.data[1]? = some z:=⟨_,Array.getElem?_eq_getElem (show 1<sx.size from by omega)⟩
 have Si:=y2.toNat_lt
 obtain ⟨y3,hy3⟩:∃z,sx.data[2]? = some z:=⟨_,Array.getElem?_eq_getElem (show 2<sx.size from by omega)⟩
 have TB:=y3.toNat_lt
 obtain ⟨y4,hy4⟩:∃z,sx.data[3]? = some z:=⟨_,Array.getElem?_eq_getElem (show 3<sx.size from by omega)⟩
 have UG:=y4.toNat_lt
 exact R.ew O mixed (by kernel_rfl)<|Q.u 1 O<|Q.q (q.iJ (i:=0) O O Tryz.underlying9 O hy1) O<|Q.q (q.nn (r:=((y1.toNat:Nat):Int)) O (by rw [Tryz.underlying5];rfl) Tryz.underlying3 (wr (by omega))) O<|Q.u 1 O<|Q.q (q.iJ (i:=1) O O Tryz.underlying9 O hy2) O<|Q.q (q.nn (r:=((y2.toNat:Nat):Int)) O (by rw [Tryz.underlying5];rfl) Tryz.underlying3 (wr (by omega))) O<|Q.q (q.shl (r:=(((y2.toNat*256):Nat):Int)) O O (by decide) (P4 256 (by decide) (by have:=y2.toNat_lt;omega))) O<|Q.q (q.or (r:=(((y1.toNat+(y2.toNat*256)):Nat):Int)) O O (T4 8 256 O (by have:=y1.toNat_lt;have:=y2.toNat_lt;omega) (by have:=y1.toNat_lt;have:=y2.toNat_lt;omega))) O<|Q.u 1 O<|Q.q (q.iJ (i:=2) O O Tryz.underlying9 O hy3) O<|Q.q (q.nn (r:=((y3.toNat:Nat):Int)) O (by rw [Tryz.underlying5];rfl) Tryz.underlying3 (wr (by omega))) O<|Q.q (q.shl (r:=(((y3.toNat*65536):Nat):Int)) O O (by decide) (P4 65536 (by decide) (by have:=y3.toNat_lt;omega))) O<|Q.q (q.or (r:=((((y1.toNat+(y2.toNat*256))+(y3.toNat*65536)):Nat):Int)) O O (T4 16 65536 O (by have:=y1.toNat_lt;have:=y2.toNat_lt;have:=y3.toNat_lt;omega) (by have:=y1.toNat_lt;have:=y2.toNat_lt;have:=y3.toNat_lt;omega))) O<|Q.u 1 O<|Q.q (q.iJ (i:=3) O O Tryz.underlying9 O hy4) O<|Q.q (q.nn (r:=((y4.toNat:Nat):Int)) O (by rw [Tryz.underlying5];rfl) Tryz.underlying3 (wr (by omega))) O<|Q.q (q.shl (r:=(((y4.toNat*16777216):Nat):Int)) O O (by decide) (P4 16777216 (by decide) (by have:=y4.toNat_lt;omega))) O<|Q.q (q.or (r:=(((((y1.toNat+(y2.toNat*256))+(y3.toNat*65536))+(y4.toNat*16777216)):Nat):Int)) O O (T4 24 16777216 O (by have:=y1.toNat_lt;have:=y2.toNat_lt;have:=y3.toNat_lt;have:=y4.toNat_lt;omega) (by have:=y1.toNat_lt;have:=y2.toNat_lt;have:=y3.toNat_lt;have:=y4.toNat_lt;omega))) O<|Q.u 1 O<|Q.nil<|R.rv O Tryz.results144 O (rI (by (unfold dF;rw [aK hy1,aK hy2,aK hy3,aK hy4])))
theorem zF (h:cZ)(w:World)(hn:0<=h.Epoch/\h.Epoch<=9000000000000000000/\0<=h.Side/\h.Side<=9000000000000000000/\0<=h.Size/\h.Size<=9000000000000000000/\0<=h.First/\h.First<=9000000000000000000):Calls Tryz.prog 81 #[.agg #[iV h.Epoch,iV h.Side,iV h.Size,iV h.First]] w fun e w'=>e = .returned (.string (aM h))/\Ext w w':=by
 exact R.enter [] [(0,.agg #[iV h.Epoch,iV h.Side,iV h.Size,iV h.First])] Tryz.func81 rfl rfl rfl rfl<|R.reg rfl<|R.s rfl (s.box rfl rfl rfl) fun b1=>R.u 1 rfl<|R.nil<|R.ew rfl mixed (by kernel_rfl)<|Q.q (q.aO rfl i6 rfl) rfl<|Q.q (q.ld 0 rfl rfl av rfl) rfl<|Q.c (q.call AJ rfl rfl (fun w hw=>(qM h.Epoch w (by omega)))) rfl<|Q.q (q.cat rfl rfl (by (simp only [ByteArray.size_append,aH,aF,List.length_cons,List.length_nil];omega))) rfl<|Q.q (q.aO rfl iq rfl) rfl<|Q.q (q.ld 0 rfl rfl av rfl) rfl<|Q.c (q.call AJ rfl rfl (fun w hw=>(qM h.Side w (by omega)))) rfl<|Q.q (q.cat rfl rfl (by (simp only [ByteArray.size_append,aH,aF,List.length_cons,List.length_nil];omega))) rfl<|Q.q (q.aO rfl jS rfl) rfl<|Q.q (q.ld 0 rfl rfl av rfl) rfl<|Q.c (q.call AJ rfl rfl (fun w hw=>(qM h.Size w (by omega)))) rfl<|Q.q (q.cat rfl rfl (by (simp only [ByteArray.size_append,aH,aF,List.length_cons,List.length_nil];omega))) rfl<|Q.q (q.aO rfl i7 rfl) rfl<|Q.q (q.ld 0 rfl rfl av rfl) rfl<|Q.c (q.call AJ rfl rfl (fun w hw=>(qM h.First w (by omega)))) rfl<|Q.q (q.cat rfl rfl (by (simp only [ByteArray.size_append,aH,aF,List.length_cons,List.length_nil];omega))) rfl<|Q.u 1 rfl<|Q.nil<|R.rv rfl Tryz.results81 rfl (rS (by rfl))
theorem ET (sx:ByteArray)(w:World)(own:List Nat)(H:HN w own [] [])(hs:sx.size=48):RC Tryz.prog 86 #[.string sx] H (fun _:Unit => .agg #[iV (cr sx).Epoch,iV (cr sx).Side,iV (cr sx).Size,iV (cr sx).First]) (fun _=>[]) (fun _=>[]):=by
 refine R.bF (n:=37) (vs:=[.string sx]) (B:=[af.held w own]) [(0,.string sx)] Tryz.func86 O O O O H<|R.reg O<|R.s O (s.alloc (cs:=[iV 0,iV 0,iV 0,iV 0]) ju O O) fun b1=>R.nil<|R.fu (fuel:=15) (Wd w (blks []++own) [af.box b1 [iV 0,iV 0,iV 0,iV 0] 130,af.held w own] []) O mixed O<|D.q (i:=0) O (aC [0,1] [] O O O) O (q.mv O) O<|D.q (i:=1) O (aC [0,1] [] O O O) O (q.Cp (i:=1) (j:=5) O O O Tryz.underlying9 O O (by omega) (by omega)) O<|D.q (i:=3) O (aC [0,1] [] O O O) O (q.mv O) O<|D.q (i:=4) O (aC [0,1] [] O O O) O (q.Cp (i:=5) (j:=9) O O O Tryz.underlying9 O O (by omega) (by omega)) O<|D.q (i:=6) O (aC [0,1] [] O O O) O (q.mv O) O<|D.q (i:=7) O (aC [0,1] [] O O O) O (q.Cp (i:=9) (j:=13) O O O Tryz.underlying9 O O (by omega) (by omega)) O<|D.q (i:=9) O (aC [0,1] [] O O O) O (q.mv O) O<|D.q (i:=10) O (aC [0,1] [] O O O) O (q.Cp (i:=13) (j:=17) O O O Tryz.underlying9 O O (by omega) (by omega)) O<|D.two (i:=2) (j:=13) O O ?_ ?_
 .
  refine Do.s (s.c (q.call ki O O (fun w hw=>(eB (sx.extract 1 5) w (by (rw [ByteArray.size_extract];omega))))) O) (fun _=>(aC [0,1] [] O O O)) O fun _=>D.two (i:=5) (j:=13) O O ?_ ?_
  .
   refine Do.s (s.c (q.call ki O O (fun w hw=>(eB (sx.extract 5 9) w (by (rw [ByteArray.size_extract];omega))))) O) (fun _=>(aC [0,1] [] O O O)) O fun _=>D.two (i:=8) (j:=13) O O ?_ ?_
   .
    refine Do.s (s.c (q.call ki O O (fun w hw=>(eB (sx.extract 9 13) w (by (rw [ByteArray.size_extract];omega))))) O) (fun _=>(aC [0,1] [] O O O)) O fun _=>D.two (i:=11) (j:=13) O O ?_ ?_
    .
     refine Do.s (s.c (q.call ki O O (fun w hw=>(eB (sx.extract 13 17) w (by (rw [ByteArray.size_extract];omega))))) O) (fun _=>(aC [0,1] [] O O O)) O fun _=>D.q (i:=12) O (aC [0,1] [] O O O) O (q.build (cs:=[iV (dF (sx.extract 1 5):Int),iV (dF (sx.extract 5 9):Int),iV (dF (sx.extract 9 13):Int),iV (dF (sx.extract 13 17):Int)]) eM O O) O<|D.one (i:=13) O<|Do.s (s.alloc (cs:=[iV 0,iV 0,iV 0,iV 0]) ju O O) (fun _=>(aC [1,2] [] O O O)) O fun b2=>D.one (i:=14) O<|Do.s (s.st (us:=[iV (dF (sx.extract 1 5):Int),iV (dF (sx.extract 5 9):Int),iV (dF (sx.extract 9 13):Int),iV (dF (sx.extract 13 17):Int)]) (cs':=[iV (dF (sx.extract 1 5):Int),iV (dF (sx.extract 5 9):Int),iV (dF (sx.extract 9 13):Int),iV (dF (sx.extract 13 17):Int)]) 0 _ O O O O (.inl aT) O O O O) (fun _=>(aC [1,2] [] O O O)) O fun _=>D.done<|R.reg O<|R.u 1 O<|?_
     obtain ⟨y1,hy1⟩:∃z,sx.data[0]? = some z:=⟨_,Array.getElem?_eq_getElem (show 0<sx.size from by omega)⟩
     have Sg:=y1.toNat_lt
     refine R.q (q.iJ (i:=0) O O Tryz.underlying9 O hy1) O<|?_
     by_cases h1:y1.toNat=72
     .
      refine R.q (q.neq O O (bne_eq_false_iff_eq.2 (by omega))) O<|R.u 1 O<|R.qg O (q.aO (off':=1) O iq O) O<|R.qg O (q.ld 0 O O av O) O<|?_
      by_cases h2:1<dF (sx.extract 5 9)
      .
       refine R.qg O (q.gtr O O (decide_eq_true (by omega))) O<|R.u 11 O<|R.nil<|R.ay O O<|R.reg O<|R.q (q.build (cs:=[iV 0,iV 0,iV 0,iV 0]) eM O O) O<|R.s O (s.st (us:=[iV 0,iV 0,iV 0,iV 0]) (cs':=[iV 0,iV 0,iV 0,iV 0]) 1 _ O O O O (.inl aT) O O O O) fun _=>R.nil ?_
       have hz:cr sx=(⟨0,0,0,0⟩:cZ):=by (rw [df (by unfold fH;(rw [aK hy1]);omega)];done)
       rw [hz]
       exact R.w1 () [2] [] O Tryz.results86 (RV.cell 1 O O aT) O O O O
      refine R.qg O (q.gtr O O (decide_eq_false (by omega))) O<|R.u 2 O<|R.qg O (q.aO (off':=2) O jS O) O<|R.qg O (q.ld 0 O O av O) O<|?_
      by_cases h3:2400<dF (sx.extract 9 13)
      .
       refine R.qg O (q.gtr O O (decide_eq_true (by omega))) O<|R.u 6 O<|R.nil<|R.ay O O<|R.reg O<|R.q (q.build (cs:=[iV 0,iV 0,iV 0,iV 0]) eM O O) O<|R.s O (s.st (us:=[iV 0,iV 0,iV 0,iV 0]) (cs':=[iV 0,iV 0,iV 0,iV 0]) 1 _ O O O O (.inl aT) O O O O) fun _=>R.nil ?_
       have hz:cr sx=(⟨0,0,0,0⟩:cZ):=by (rw [df (by unfold fH;(rw [aK hy1]);omega)];done)
       rw [hz]
       exact R.w1 () [2] [] O Tryz.results86 (RV.cell 1 O O aT) O O O O
      refine R.qg O (q.gtr O O (decide_eq_false (by omega))) O<|R.u 2 O<|R.qg O (q.aO (off':=3) O i7 O) O<|R.qg O (q.ld 0 O O av O) O<|?_
      by_cases h4:dF (sx.extract 13 17)<1
      .
       refine R.qg O (q.lss O O (decide_eq_true (by omega))) O<|R.u 1 O<|R.nil<|R.ay O O<|R.reg O<|R.q (q.build (cs:=[iV 0,iV 0,iV 0,iV 0]) eM O O) O<|R.s O (s.st (us:=[iV 0,iV 0,iV 0,iV 0]) (cs':=[iV 0,iV 0,iV 0,iV 0]) 1 _ O O O O (.inl aT) O O O O) fun _=>R.nil ?_
       have hz:cr sx=(⟨0,0,0,0⟩:cZ):=by (rw [df (by unfold fH;(rw [aK hy1]);omega)];done)
       rw [hz]
       exact R.w1 () [2] [] O Tryz.results86 (RV.cell 1 O O aT) O O O O
      refine R.qg O (q.lss O O (decide_eq_false (by omega))) O<|R.u 1 O<|R.nil<|R.aB O O<|R.reg O<|R.q (q.dv 0 O O aT) O<|R.s O (s.st (us:=[iV (dF (sx.extract 1 5):Int),iV (dF (sx.extract 5 9):Int),iV (dF (sx.extract 9 13):Int),iV (dF (sx.extract 13 17):Int)]) (cs':=[iV (dF (sx.extract 1 5):Int),iV (dF (sx.extract 5 9):Int),iV (dF (sx.extract 9 13):Int),iV (dF (sx.extract 13 17):Int)]) 1 _ O O O O (.inl aT) O O O O) fun _=>R.nil ?_
      have hz:cr sx=(⟨(dF (sx.extract 1 5):Int),(dF (sx.extract 5 9):Int),(dF (sx.extract 9 13):Int),(dF (sx.extract 13 17):Int)⟩:cZ):=by (rw [mG (by unfold fH;(rw [aK hy1]);omega)];rfl)
      rw [hz]
      exact R.w1 () [2] [] O Tryz.results86 (RV.cell 1 O O aT) O O O O
     refine R.q (q.neq O O (bne_iff_ne.2 (by omega))) O<|R.u 15 O<|R.nil<|R.ay O O<|R.reg O<|R.q (q.build (cs:=[iV 0,iV 0,iV 0,iV 0]) eM O O) O<|R.s O (s.st (us:=[iV 0,iV 0,iV 0,iV 0]) (cs':=[iV 0,iV 0,iV 0,iV 0]) 1 _ O O O O (.inl aT) O O O O) fun _=>R.nil ?_
     have hz:cr sx=(⟨0,0,0,0⟩:cZ):=by (rw [df (by unfold fH;(rw [aK hy1]);omega)];done)
     rw [hz]
     exact R.w1 () [2] [] O Tryz.results86 (RV.cell 1 O O aT) O O O O
    refine Do.s (s.alloc (cs:=[iV 0,iV 0,iV 0,iV 0]) ju O O) (fun _=>(aC [1,2] [] O O O)) O fun b3=>D.one (i:=11) O<|Do.s (s.c (q.call ki O O (fun w hw=>(eB (sx.extract 13 17) w (by (rw [ByteArray.size_extract];omega))))) O) (fun _=>(aC [1,2] [] O O O)) O fun _=>D.q (i:=12) O (aC [1,2] [] O O O) O (q.build (cs:=[iV (dF (sx.extract 1 5):Int),iV (dF (sx.extract 5 9):Int),iV (dF (sx.extract 9 13):Int),iV (dF (sx.extract 13 17):Int)]) eM O O) O<|D.one (i:=14) O<|Do.s (s.st (us:=[iV (dF (sx.extract 1 5):Int),iV (dF (sx.extract 5 9):Int),iV (dF (sx.extract 9 13):Int),iV (dF (sx.extract 13 17):Int)]) (cs':=[iV (dF (sx.extract 1 5):Int),iV (dF (sx.extract 5 9):Int),iV (dF (sx.extract 9 13):Int),iV (dF (sx.extract 13 17):Int)]) 0 _ O O O O (.inl aT) O O O O) (fun _=>(aC [1,2] [] O O O)) O fun _=>D.done<|R.reg O<|R.u 1 O<|?_
    obtain ⟨y2,hy2⟩:∃z,sx.data[0]? = some z:=⟨_,Array.getElem?_eq_getElem (show 0<sx.size from by omega)⟩
    have Si:=y2.toNat_lt
    refine R.q (q.iJ (i:=0) O O Tryz.underlying9 O hy2) O<|?_
    by_cases h5:y2.toNat=72
    .
     refine R.q (q.neq O O (bne_eq_false_iff_eq.2 (by omega))) O<|R.u 1 O<|R.qg O (q.aO (off':=1) O iq O) O<|R.qg O (q.ld 0 O O av O) O<|?_
     by_cases h6:1<dF (sx.extract 5 9)
     .
      refine R.qg O (q.gtr O O (decide_eq_true (by omega))) O<|R.u 11 O<|R.nil<|R.ay O O<|R.reg O<|R.q (q.build (cs:=[iV 0,iV 0,iV 0,iV 0]) eM O O) O<|R.s O (s.st (us:=[iV 0,iV 0,iV 0,iV 0]) (cs':=[iV 0,iV 0,iV 0,iV 0]) 1 _ O O O O (.inl aT) O O O O) fun _=>R.nil ?_
      have hz:cr sx=(⟨0,0,0,0⟩:cZ):=by (rw [df (by unfold fH;(rw [aK hy2]);omega)];done)
      rw [hz]
      exact R.w1 () [2] [] O Tryz.results86 (RV.cell 1 O O aT) O O O O
     refine R.qg O (q.gtr O O (decide_eq_false (by omega))) O<|R.u 2 O<|R.qg O (q.aO (off':=2) O jS O) O<|R.qg O (q.ld 0 O O av O) O<|?_
     by_cases h7:2400<dF (sx.extract 9 13)
     .
      refine R.qg O (q.gtr O O (decide_eq_true (by omega))) O<|R.u 6 O<|R.nil<|R.ay O O<|R.reg O<|R.q (q.build (cs:=[iV 0,iV 0,iV 0,iV 0]) eM O O) O<|R.s O (s.st (us:=[iV 0,iV 0,iV 0,iV 0]) (cs':=[iV 0,iV 0,iV 0,iV 0]) 1 _ O O O O (.inl aT) O O O O) fun _=>R.nil ?_
      have hz:cr sx=(⟨0,0,0,0⟩:cZ):=by (rw [df (by unfold fH;(rw [aK hy2]);omega)];done)
      rw [hz]
      exact R.w1 () [2] [] O Tryz.results86 (RV.cell 1 O O aT) O O O O
     refine R.qg O (q.gtr O O (decide_eq_false (by omega))) O<|R.u 2 O<|R.qg O (q.aO (off':=3) O i7 O) O<|R.qg O (q.ld 0 O O av O) O<|?_
     by_cases h8:dF (sx.extract 13 17)<1
     .
      refine R.qg O (q.lss O O (decide_eq_true (by omega))) O<|R.u 1 O<|R.nil<|R.ay O O<|R.reg O<|R.q (q.build (cs:=[iV 0,iV 0,iV 0,iV 0]) eM O O) O<|R.s O (s.st (us:=[iV 0,iV 0,iV 0,iV 0]) (cs':=[iV 0,iV 0,iV 0,iV 0]) 1 _ O O O O (.inl aT) O O O O) fun _=>R.nil ?_
      have hz:cr sx=(⟨0,0,0,0⟩:cZ):=by (rw [df (by unfold fH;(rw [aK hy2]);omega)];done)
      rw [hz]
      exact R.w1 () [2] [] O Tryz.results86 (RV.cell 1 O O aT) O O O O
     refine R.qg O (q.lss O O (decide_eq_false (by omega))) O<|R.u 1 O<|R.nil<|R.aB O O<|R.reg O<|R.q (q.dv 0 O O aT) O<|R.s O (s.st (us:=[iV (dF (sx.extract 1 5):Int),iV (dF (sx.extract 5 9):Int),iV (dF (sx.extract 9 13):Int),iV (dF (sx.extract 13 17):Int)]) (cs':=[iV (dF (sx.extract 1 5):Int),iV (dF (sx.extract 5 9):Int),iV (dF (sx.extract 9 13):Int),iV (dF (sx.extract 13 17):Int)]) 1 _ O O O O (.inl aT) O O O O) fun _=>R.nil ?_
     have hz:cr sx=(⟨(dF (sx.extract 1 5):Int),(dF (sx.extract 5 9):Int),(dF (sx.extract 9 13):Int),(dF (sx.extract 13 17):Int)⟩:cZ):=by (rw [mG (by unfold fH;(rw [aK hy2]);omega)];rfl)
     rw [hz]
     exact R.w1 () [2] [] O Tryz.results86 (RV.cell 1 O O aT) O O O O
    refine R.q (q.neq O O (bne_iff_ne.2 (by omega))) O<|R.u 15 O<|R.nil<|R.ay O O<|R.reg O<|R.q (q.build (cs:=[iV 0,iV 0,iV 0,iV 0]) eM O O) O<|R.s O (s.st (us:=[iV 0,iV 0,iV 0,iV 0]) (cs':=[iV 0,iV 0,iV 0,iV 0]) 1 _ O O O O (.inl aT) O O O O) fun _=>R.nil ?_
    have hz:cr sx=(⟨0,0,0,0⟩:cZ):=by (rw [df (by unfold fH;(rw [aK hy2]);omega)];done)
    rw [hz]
    exact R.w1 () [2] [] O Tryz.results86 (RV.cell 1 O O aT) O O O O
   refine Do.s (s.alloc (cs:=[iV 0,iV 0,iV 0,iV 0]) ju O O) (fun _=>(aC [1,2] [] O O O)) O fun b4=>D.one (i:=8) O<|Do.s (s.c (q.call ki O O (fun w hw=>(eB (sx.extract 9 13) w (by (rw [ByteArray.size_extract];omega))))) O) (fun _=>(aC [1,2] [] O O O)) O fun _=>D.one (i:=11) O<|Do.s (s.c (q.call ki O O (fun w hw=>(eB (sx.extract 13 17) w (by (rw [ByteArray.size_extract];omega))))) O) (fun _=>(aC [1,2] [] O O O)) O fun _=>D.q (i:=12) O (aC [1,2] [] O O O) O (q.build (cs:=[iV (dF (sx.extract 1 5):Int),iV (dF (sx.extract 5 9):Int),iV (dF (sx.extract 9 13):Int),iV (dF (sx.extract 13 17):Int)]) eM O O) O<|D.one (i:=14) O<|Do.s (s.st (us:=[iV (dF (sx.extract 1 5):Int),iV (dF (sx.extract 5 9):Int),iV (dF (sx.extract 9 13):Int),iV (dF (sx.extract 13 17):Int)]) (cs':=[iV (dF (sx.extract 1 5):Int),iV (dF (sx.extract 5 9):Int),iV (dF (sx.extract 9 13):Int),iV (dF (sx.extract 13 17):Int)]) 0 _ O O O O (.inl aT) O O O O) (fun _=>(aC [1,2] [] O O O)) O fun _=>D.done<|R.reg O<|R.u 1 O<|?_
   obtain ⟨y3,hy3⟩:∃z,sx.data[0]? = some z:=⟨_,Array.getElem?_eq_getElem (show 0<sx.size from by omega)⟩
   have TB:=y3.toNat_lt
   refine R.q (q.iJ (i:=0) O O Tryz.underlying9 O hy3) O<|?_
   by_cases h9:y3.toNat=72
   .
    refine R.q (q.neq O O (bne_eq_false_iff_eq.2 (by omega))) O<|R.u 1 O<|R.qg O (q.aO (off':=1) O iq O) O<|R.qg O (q.ld 0 O O av O) O<|?_
    by_cases h10:1<dF (sx.extract 5 9)
    .
     refine R.qg O (q.gtr O O (decide_eq_true (by omega))) O<|R.u 11 O<|R.nil<|R.ay O O<|R.reg O<|R.q (q.build (cs:=[iV 0,iV 0,iV 0,iV 0]) eM O O) O<|R.s O (s.st (us:=[iV 0,iV 0,iV 0,iV 0]) (cs':=[iV 0,iV 0,iV 0,iV 0]) 1 _ O O O O (.inl aT) O O O O) fun _=>R.nil ?_
     have hz:cr sx=(⟨0,0,0,0⟩:cZ):=by (rw [df (by unfold fH;(rw [aK hy3]);omega)];done)
     rw [hz]
     exact R.w1 () [2] [] O Tryz.results86 (RV.cell 1 O O aT) O O O O
    refine R.qg O (q.gtr O O (decide_eq_false (by omega))) O<|R.u 2 O<|R.qg O (q.aO (off':=2) O jS O) O<|R.qg O (q.ld 0 O O av O) O<|?_
    by_cases h11:2400<dF (sx.extract 9 13)
    .
     refine R.qg O (q.gtr O O (decide_eq_true (by omega))) O<|R.u 6 O<|R.nil<|R.ay O O<|R.reg O<|R.q (q.build (cs:=[iV 0,iV 0,iV 0,iV 0]) eM O O) O<|R.s O (s.st (us:=[iV 0,iV 0,iV 0,iV 0]) (cs':=[iV 0,iV 0,iV 0,iV 0]) 1 _ O O O O (.inl aT) O O O O) fun _=>R.nil ?_
     have hz:cr sx=(⟨0,0,0,0⟩:cZ):=by (rw [df (by unfold fH;(rw [aK hy3]);omega)];done)
     rw [hz]
     exact R.w1 () [2] [] O Tryz.results86 (RV.cell 1 O O aT) O O O O
    refine R.qg O (q.gtr O O (decide_eq_false (by omega))) O<|R.u 2 O<|R.qg O (q.aO (off':=3) O i7 O) O<|R.qg O (q.ld 0 O O av O) O<|?_
    by_cases h12:dF (sx.extract 13 17)<1
    .
     refine R.qg O (q.lss O O (decide_eq_true (by omega))) O<|R.u 1 O<|R.nil<|R.ay O O<|R.reg O<|R.q (q.build (cs:=[iV 0,iV 0,iV 0,iV 0]) eM O O) O<|R.s O (s.st (us:=[iV 0,iV 0,iV 0,iV 0]) (cs':=[iV 0,iV 0,iV 0,iV 0]) 1 _ O O O O (.inl aT) O O O O) fun _=>R.nil ?_
     have hz:cr sx=(⟨0,0,0,0⟩:cZ):=by (rw [df (by unfold fH;(rw [aK hy3]);omega)];done)
     rw [hz]
     exact R.w1 () [2] [] O Tryz.results86 (RV.cell 1 O O aT) O O O O
    refine R.qg O (q.lss O O (decide_eq_false (by omega))) O<|R.u 1 O<|R.nil<|R.aB O O<|R.reg O<|R.q (q.dv 0 O O aT) O<|R.s O (s.st (us:=[iV (dF (sx.extract 1 5):Int),iV (dF (sx.extract 5 9):Int),iV (dF (sx.extract 9 13):Int),iV (dF (sx.extract 13 17):Int)]) (cs':=[iV (dF (sx.extract 1 5):Int),iV (dF (sx.extract 5 9):Int),iV (dF (sx.extract 9 13):Int),iV (dF (sx.extract 13 17):Int)]) 1 _ O O O O (.inl aT) O O O O) fun _=>R.nil ?_
    have hz:cr sx=(⟨(dF (sx.extract 1 5):Int),(dF (sx.extract 5 9):Int),(dF (sx.extract 9 13):Int),(dF (sx.extract 13 17):Int)⟩:cZ):=by (rw [mG (by unfold fH;(rw [aK hy3]);omega)];rfl)
    rw [hz]
    exact R.w1 () [2] [] O Tryz.results86 (RV.cell 1 O O aT) O O O O
   refine R.q (q.neq O O (bne_iff_ne.2 (by omega))) O<|R.u 15 O<|R.nil<|R.ay O O<|R.reg O<|R.q (q.build (cs:=[iV 0,iV 0,iV 0,iV 0]) eM O O) O<|R.s O (s.st (us:=[iV 0,iV 0,iV 0,iV 0]) (cs':=[iV 0,iV 0,iV 0,iV 0]) 1 _ O O O O (.inl aT) O O O O) fun _=>R.nil ?_
   have hz:cr sx=(⟨0,0,0,0⟩:cZ):=by (rw [df (by unfold fH;(rw [aK hy3]);omega)];done)
   rw [hz]
   exact R.w1 () [2] [] O Tryz.results86 (RV.cell 1 O O aT) O O O O
  refine Do.s (s.alloc (cs:=[iV 0,iV 0,iV 0,iV 0]) ju O O) (fun _=>(aC [1,2] [] O O O)) O fun b5=>D.one (i:=5) O<|Do.s (s.c (q.call ki O O (fun w hw=>(eB (sx.extract 5 9) w (by (rw [ByteArray.size_extract];omega))))) O) (fun _=>(aC [1,2] [] O O O)) O fun _=>D.one (i:=8) O<|Do.s (s.c (q.call ki O O (fun w hw=>(eB (sx.extract 9 13) w (by (rw [ByteArray.size_extract];omega))))) O) (fun _=>(aC [1,2] [] O O O)) O fun _=>D.one (i:=11) O<|Do.s (s.c (q.call ki O O (fun w hw=>(eB (sx.extract 13 17) w (by (rw [ByteArray.size_extract];omega))))) O) (fun _=>(aC [1,2] [] O O O)) O fun _=>D.q (i:=12) O (aC [1,2] [] O O O) O (q.build (cs:=[iV (dF (sx.extract 1 5):Int),iV (dF (sx.extract 5 9):Int),iV (dF (sx.extract 9 13):Int),iV (dF (sx.extract 13 17):Int)]) eM O O) O<|D.one (i:=14) O<|Do.s (s.st (us:=[iV (dF (sx.extract 1 5):Int),iV (dF (sx.extract 5 9):Int),iV (dF (sx.extract 9 13):Int),iV (dF (sx.extract 13 17):Int)]) (cs':=[iV (dF (sx.extract 1 5):Int),iV (dF (sx.extract 5 9):Int),iV (dF (sx.extract 9 13):Int),iV (dF (sx.extract 13 17):Int)]) 0 _ O O O O (.inl aT) O O O O) (fun _=>(aC [1,2] [] O O O)) O fun _=>D.done<|R.reg O<|R.u 1 O<|?_
  obtain ⟨y4,hy4⟩:∃z,sx.data[0]? = some z:=⟨_,Array.getElem?_eq_getElem (show 0<sx.size from by omega)⟩
  have UG:=y4.toNat_lt
  refine R.q (q.iJ (i:=0) O O Tryz.underlying9 O hy4) O<|?_
  by_cases UJ:y4.toNat=72
  .
   refine R.q (q.neq O O (bne_eq_false_iff_eq.2 (by omega))) O<|R.u 1 O<|R.qg O (q.aO (off':=1) O iq O) O<|R.qg O (q.ld 0 O O av O) O<|?_
   by_cases UK:1<dF (sx.extract 5 9)
   .
    refine R.qg O (q.gtr O O (decide_eq_true (by omega))) O<|R.u 11 O<|R.nil<|R.ay O O<|R.reg O<|R.q (q.build (cs:=[iV 0,iV 0,iV 0,iV 0]) eM O O) O<|R.s O (s.st (us:=[iV 0,iV 0,iV 0,iV 0]) (cs':=[iV 0,iV 0,iV 0,iV 0]) 1 _ O O O O (.inl aT) O O O O) fun _=>R.nil ?_
    have hz:cr sx=(⟨0,0,0,0⟩:cZ):=by (rw [df (by unfold fH;(rw [aK hy4]);omega)];done)
    rw [hz]
    exact R.w1 () [2] [] O Tryz.results86 (RV.cell 1 O O aT) O O O O
   refine R.qg O (q.gtr O O (decide_eq_false (by omega))) O<|R.u 2 O<|R.qg O (q.aO (off':=2) O jS O) O<|R.qg O (q.ld 0 O O av O) O<|?_
   by_cases UL:2400<dF (sx.extract 9 13)
   .
    refine R.qg O (q.gtr O O (decide_eq_true (by omega))) O<|R.u 6 O<|R.nil<|R.ay O O<|R.reg O<|R.q (q.build (cs:=[iV 0,iV 0,iV 0,iV 0]) eM O O) O<|R.s O (s.st (us:=[iV 0,iV 0,iV 0,iV 0]) (cs':=[iV 0,iV 0,iV 0,iV 0]) 1 _ O O O O (.inl aT) O O O O) fun _=>R.nil ?_
    have hz:cr sx=(⟨0,0,0,0⟩:cZ):=by (rw [df (by unfold fH;(rw [aK hy4]);omega)];done)
    rw [hz]
    exact R.w1 () [2] [] O Tryz.results86 (RV.cell 1 O O aT) O O O O
   refine R.qg O (q.gtr O O (decide_eq_false (by omega))) O<|R.u 2 O<|R.qg O (q.aO (off':=3) O i7 O) O<|R.qg O (q.ld 0 O O av O) O<|?_
   by_cases h16:dF (sx.extract 13 17)<1
   .
    refine R.qg O (q.lss O O (decide_eq_true (by omega))) O<|R.u 1 O<|R.nil<|R.ay O O<|R.reg O<|R.q (q.build (cs:=[iV 0,iV 0,iV 0,iV 0]) eM O O) O<|R.s O (s.st (us:=[iV 0,iV 0,iV 0,iV 0]) (cs':=[iV 0,iV 0,iV 0,iV 0]) 1 _ O O O O (.inl aT) O O O O) fun _=>R.nil ?_
    have hz:cr sx=(⟨0,0,0,0⟩:cZ):=by (rw [df (by unfold fH;(rw [aK hy4]);omega)];done)
    rw [hz]
    exact R.w1 () [2] [] O Tryz.results86 (RV.cell 1 O O aT) O O O O
   refine R.qg O (q.lss O O (decide_eq_false (by omega))) O<|R.u 1 O<|R.nil<|R.aB O O<|R.reg O<|R.q (q.dv 0 O O aT) O<|R.s O (s.st (us:=[iV (dF (sx.extract 1 5):Int),iV (dF (sx.extract 5 9):Int),iV (dF (sx.extract 9 13):Int),iV (dF (sx.extract 13 17):Int)]) (cs':=[iV (dF (sx.extract 1 5):Int),iV (dF (sx.extract 5 9):Int),iV (dF (sx.extract 9 13):Int),iV (dF (sx.extract 13 17):Int)]) 1 _ O O O O (.inl aT) O O O O) fun _=>R.nil ?_
   have hz:cr sx=(⟨(dF (sx.extract 1 5):Int),(dF (sx.extract 5 9):Int),(dF (sx.extract 9 13):Int),(dF (sx.extract 13 17):Int)⟩:cZ):=by (rw [mG (by unfold fH;(rw [aK hy4]);omega)];rfl)
   rw [hz]
   exact R.w1 () [2] [] O Tryz.results86 (RV.cell 1 O O aT) O O O O
  refine R.q (q.neq O O (bne_iff_ne.2 (by omega))) O<|R.u 15 O<|R.nil<|R.ay O O<|R.reg O<|R.q (q.build (cs:=[iV 0,iV 0,iV 0,iV 0]) eM O O) O<|R.s O (s.st (us:=[iV 0,iV 0,iV 0,iV 0]) (cs':=[iV 0,iV 0,iV 0,iV 0]) 1 _ O O O O (.inl aT) O O O O) fun _=>R.nil ?_
  have hz:cr sx=(⟨0,0,0,0⟩:cZ):=by (rw [df (by unfold fH;(rw [aK hy4]);omega)];done)
  rw [hz]
  exact R.w1 () [2] [] O Tryz.results86 (RV.cell 1 O O aT) O O O O
 refine Do.s (s.alloc (cs:=[iV 0,iV 0,iV 0,iV 0]) ju O O) (fun _=>(aC [1,2] [] O O O)) O fun b6=>D.one (i:=2) O<|Do.s (s.c (q.call ki O O (fun w hw=>(eB (sx.extract 1 5) w (by (rw [ByteArray.size_extract];omega))))) O) (fun _=>(aC [1,2] [] O O O)) O fun _=>D.one (i:=5) O<|Do.s (s.c (q.call ki O O (fun w hw=>(eB (sx.extract 5 9) w (by (rw [ByteArray.size_extract];omega))))) O) (fun _=>(aC [1,2] [] O O O)) O fun _=>D.one (i:=8) O<|Do.s (s.c (q.call ki O O (fun w hw=>(eB (sx.extract 9 13) w (by (rw [ByteArray.size_extract];omega))))) O) (fun _=>(aC [1,2] [] O O O)) O fun _=>D.one (i:=11) O<|Do.s (s.c (q.call ki O O (fun w hw=>(eB (sx.extract 13 17) w (by (rw [ByteArray.size_extract];omega))))) O) (fun _=>(aC [1,2] [] O O O)) O fun _=>D.q (i:=12) O (aC [1,2] [] O O O) O (q.build (cs:=[iV (dF (sx.extract 1 5):Int),iV (dF (sx.extract 5 9):Int),iV (dF (sx.extract 9 13):Int),iV (dF (sx.extract 13 17):Int)]) eM O O) O<|D.one (i:=14) O<|Do.s (s.st (us:=[iV (dF (sx.extract 1 5):Int),iV (dF (sx.extract 5 9):Int),iV (dF (sx.extract 9 13):Int),iV (dF (sx.extract 13 17):Int)]) (cs':=[iV (dF (sx.extract 1 5):Int),iV (dF (sx.extract 5 9):Int),iV (dF (sx.extract 9 13):Int),iV (dF (sx.extract 13 17):Int)]) 0 _ O O O O (.inl aT) O O O O) (fun _=>(aC [1,2] [] O O O)) O fun _=>D.done<|R.reg O<|R.u 1 O<|?_
 obtain ⟨y5,ER⟩:∃z,sx.data[0]? = some z:=⟨_,Array.getElem?_eq_getElem (show 0<sx.size from by omega)⟩
 have Vx:=y5.toNat_lt
 refine R.q (q.iJ (i:=0) O O Tryz.underlying9 O ER) O<|?_
 by_cases UM:y5.toNat=72
 .
  refine R.q (q.neq O O (bne_eq_false_iff_eq.2 (by omega))) O<|R.u 1 O<|R.qg O (q.aO (off':=1) O iq O) O<|R.qg O (q.ld 0 O O av O) O<|?_
  by_cases h18:1<dF (sx.extract 5 9)
  .
   refine R.qg O (q.gtr O O (decide_eq_true (by omega))) O<|R.u 11 O<|R.nil<|R.ay O O<|R.reg O<|R.q (q.build (cs:=[iV 0,iV 0,iV 0,iV 0]) eM O O) O<|R.s O (s.st (us:=[iV 0,iV 0,iV 0,iV 0]) (cs':=[iV 0,iV 0,iV 0,iV 0]) 1 _ O O O O (.inl aT) O O O O) fun _=>R.nil ?_
   have hz:cr sx=(⟨0,0,0,0⟩:cZ):=by (rw [df (by unfold fH;(rw [aK ER]);omega)];done)
   rw [hz]
   exact R.w1 () [2] [] O Tryz.results86 (RV.cell 1 O O aT) O O O O
  refine R.qg O (q.gtr O O (decide_eq_false (by omega))) O<|R.u 2 O<|R.qg O (q.aO (off':=2) O jS O) O<|R.qg O (q.ld 0 O O av O) O<|?_
  by_cases h19:2400<dF (sx.extract 9 13)
  .
   refine R.qg O (q.gtr O O (decide_eq_true (by omega))) O<|R.u 6 O<|R.nil<|R.ay O O<|R.reg O<|R.q (q.build (cs:=[iV 0,iV 0,iV 0,iV 0]) eM O O) O<|R.s O (s.st (us:=[iV 0,iV 0,iV 0,iV 0]) (cs':=[iV 0,iV 0,iV 0,iV 0]) 1 _ O O O O (.inl aT) O O O O) fun _=>R.nil ?_
   have hz:cr sx=(⟨0,0,0,0⟩:cZ):=by (rw [df (by unfold fH;(rw [aK ER]);omega)];done)
   rw [hz]
   exact R.w1 () [2] [] O Tryz.results86 (RV.cell 1 O O aT) O O O O
  refine R.qg O (q.gtr O O (decide_eq_false (by omega))) O<|R.u 2 O<|R.qg O (q.aO (off':=3) O i7 O) O<|R.qg O (q.ld 0 O O av O) O<|?_
  by_cases h20:dF (sx.extract 13 17)<1
  .
   refine R.qg O (q.lss O O (decide_eq_true (by omega))) O<|R.u 1 O<|R.nil<|R.ay O O<|R.reg O<|R.q (q.build (cs:=[iV 0,iV 0,iV 0,iV 0]) eM O O) O<|R.s O (s.st (us:=[iV 0,iV 0,iV 0,iV 0]) (cs':=[iV 0,iV 0,iV 0,iV 0]) 1 _ O O O O (.inl aT) O O O O) fun _=>R.nil ?_
   have hz:cr sx=(⟨0,0,0,0⟩:cZ):=by (rw [df (by unfold fH;(rw [aK ER]);omega)];done)
   rw [hz]
   exact R.w1 () [2] [] O Tryz.results86 (RV.cell 1 O O aT) O O O O
  refine R.qg O (q.lss O O (decide_eq_false (by omega))) O<|R.u 1 O<|R.nil<|R.aB O O<|R.reg O<|R.q (q.dv 0 O O aT) O<|R.s O (s.st (us:=[iV (dF (sx.extract 1 5):Int),iV (dF (sx.extract 5 9):Int),iV (dF (sx.extract 9 13):Int),iV (dF (sx.extract 13 17):Int)]) (cs':=[iV (dF (sx.extract 1 5):Int),iV (dF (sx.extract 5 9):Int),iV (dF (sx.extract 9 13):Int),iV (dF (sx.extract 13 17):Int)]) 1 _ O O O O (.inl aT) O O O O) fun _=>R.nil ?_
  have hz:cr sx=(⟨(dF (sx.extract 1 5):Int),(dF (sx.extract 5 9):Int),(dF (sx.extract 9 13):Int),(dF (sx.extract 13 17):Int)⟩:cZ):=by (rw [mG (by unfold fH;(rw [aK ER]);omega)];rfl)
  rw [hz]
  exact R.w1 () [2] [] O Tryz.results86 (RV.cell 1 O O aT) O O O O
 refine R.q (q.neq O O (bne_iff_ne.2 (by omega))) O<|R.u 15 O<|R.nil<|R.ay O O<|R.reg O<|R.q (q.build (cs:=[iV 0,iV 0,iV 0,iV 0]) eM O O) O<|R.s O (s.st (us:=[iV 0,iV 0,iV 0,iV 0]) (cs':=[iV 0,iV 0,iV 0,iV 0]) 1 _ O O O O (.inl aT) O O O O) fun _=>R.nil ?_
 have hz:cr sx=(⟨0,0,0,0⟩:cZ):=by (rw [df (by unfold fH;(rw [aK ER]);omega)];done)
 rw [hz]
 exact R.w1 () [2] [] O Tryz.results86 (RV.cell 1 O O aT) O O O O
structure j8 where
  Epoch:Int
  Side:Int
  Size:Int
  First:Int
  Rows:List Change
def oK.c (st:oK):j8:=⟨st.Epoch,st.Side,st.Size,st.First,st.Rows⟩
theorem C4 {t:ByteArray}{x y z:UInt8}(hx:t.data[0]? = some x)(hy:t.data[1]? = some y)(hz:t.data[2]? = some z):qe t=3+x.toNat+y.toNat+256*z.toNat:=by
 unfold qe;rw [aK hx,aK hy,aK hz]
theorem Ki {t:ByteArray}{x y z:UInt8}{c:Change}(hx:t.data[0]? = some x)(hy:t.data[1]? = some y)(hz:t.data[2]? = some z)(hc:c=⟨t.extract 3 (3+x.toNat),t.extract (3+x.toNat) (3+x.toNat+y.toNat+256*z.toNat),false⟩):xl t=c:=by
 rw [hc];unfold xl;rw [C4 hx hy hz,aK hx]
theorem HG (sx:ByteArray)(w:World)(own:List Nat)(H:HN w own [] [])(hs:sx.size<=2400):RC Tryz.prog 87 #[.string sx] H (fun z:Value => .tuple #[z,.bool (eO sx).2]) (fun z=>[af.row 117 z (eO sx).1]) (fun _=>[]):=by
 refine R.bF [(0,.string sx)] Tryz.func87 O O O O H<|R.reg O<|R.u 2 O<|R.nil<|R.reg O<|R.u 1 O<|R.nil<|R.row0 (α:=Change) 117<|R.loop (fun g_:ByteArray×Nat×Value×(List Change)=>[(0,.string g_.1),(4,g_.2.2.1)]) (fun g_=>[af.row 117 g_.2.2.1 g_.2.2.2,af.held w own]) (fun g_=>[]) (fun g_=>g_.1.size+g_.2.2.2.length<=2400/\g_.1.size<g_.2.1/\pw g_.2.1 g_.1 g_.2.2.2=eO sx) (fun g_=>g_.2.1) (sx,sx.size+1,(nS),[]) O (by dsimp only;exact ⟨by simp;omega,by omega,rfl⟩) (sF O) (fun _=>Wd.pick [0,1] [] O O O) ?_
 rintro ⟨tt,k,u,rs⟩ ⟨hl,hk,HP⟩
 dsimp only at *
 refine R.reg O<|R.u 1 O<|?_
 by_cases h1:tt=⟨#[]⟩
 .
  refine R.q (q.uB O O h1) O<|R.nil<|R.aB O O<|R.reg O<|R.u 3 O<|R.nil ?_
  have hz:eO sx=(rs,true):=by (exact (Mv HP hk ‹_›))
  rw [hz]
  exact R.w2 u [0,1] [] O Tryz.results87 (RV.tmp O) (RV.tmp O) O O O (dz O O)
 refine R.q (q.zd O O h1) O<|R.nil<|R.ay O O ?_
 by_cases h2:tt.size<3
 .
  refine R.ew O mixed (by kernel_rfl)<|Q.u 1 O<|Q.q (q.iy O Tryz.underlying9) O<|Q.q (q.dy O O) O<|Q.u 18 O<|Q.nil<|R.ay O O<|R.reg O<|R.u 2 O<|R.nil<|R.row0 (α:=Change) 117 ?_
  have hz:eO sx=([],false):=by (exact (Gr HP hk ‹_› (.inl (by omega))))
  rw [hz]
  exact R.w2 (nS) [0,2] [] O Tryz.results87 (RV.tmp O) (RV.tmp O) O O O (dz O O)
 obtain ⟨y1,hy1⟩:∃z,tt.data[0]? = some z:=⟨_,Array.getElem?_eq_getElem (show 0<tt.size from by omega)⟩
 have Sg:=y1.toNat_lt
 obtain ⟨y2,hy2⟩:∃z,tt.data[1]? = some z:=⟨_,Array.getElem?_eq_getElem (show 1<tt.size from by omega)⟩
 have Si:=y2.toNat_lt
 obtain ⟨y3,hy3⟩:∃z,tt.data[2]? = some z:=⟨_,Array.getElem?_eq_getElem (show 2<tt.size from by omega)⟩
 have TB:=y3.toNat_lt
 by_cases h3:tt.size<(((3+y1.toNat)+y2.toNat)+(256*y3.toNat))
 .
  refine R.ew O mixed (by kernel_rfl)<|Q.u 1 O<|Q.q (q.iy O Tryz.underlying9) O<|Q.q (q.cW O O) O<|Q.u 2 O<|Q.qg O (q.iJ (i:=0) O O Tryz.underlying9 O hy1) O<|Q.qg O (q.nn (r:=((y1.toNat:Nat):Int)) O (by rw [Tryz.underlying5];rfl) Tryz.underlying3 (wr (by omega))) O<|Q.qg O (q.bA (r:=((3+y1.toNat:Nat):Int)) O O) O<|Q.u 1 O<|Q.qg O (q.iJ (i:=1) O O Tryz.underlying9 O hy2) O<|Q.qg O (q.nn (r:=((y2.toNat:Nat):Int)) O (by rw [Tryz.underlying5];rfl) Tryz.underlying3 (wr (by omega))) O<|Q.qg O (q.bA (r:=(((3+y1.toNat)+y2.toNat:Nat):Int)) O O) O<|Q.u 1 O<|Q.qg O (q.iJ (i:=2) O O Tryz.underlying9 O hy3) O<|Q.qg O (q.nn (r:=((y3.toNat:Nat):Int)) O (by rw [Tryz.underlying5];rfl) Tryz.underlying3 (wr (by omega))) O<|Q.qg O (q.uZ (r:=((256*y3.toNat:Nat):Int)) O O) O<|Q.qg O (q.bA (r:=((((3+y1.toNat)+y2.toNat)+(256*y3.toNat):Nat):Int)) O O) O<|Q.u 1 O<|Q.qg O (q.iy O Tryz.underlying9) O<|Q.qg O (q.eL O O) O<|Q.u 1 O<|Q.nil<|R.ay O O<|R.reg O<|R.u 2 O<|R.nil<|R.row0 (α:=Change) 117 ?_
  have hz:eO sx=([],false):=by (exact (Gr HP hk ‹_› (.inr (by rw [C4 hy1 hy2 hy3];omega))))
  rw [hz]
  exact R.w2 (nS) [0,2] [] O Tryz.results87 (RV.tmp O) (RV.tmp O) O O O (dz O O)
 refine R.ew O mixed (by kernel_rfl)<|Q.u 1 O<|Q.q (q.iy O Tryz.underlying9) O<|Q.q (q.cW O O) O<|Q.u 2 O<|Q.qg O (q.iJ (i:=0) O O Tryz.underlying9 O hy1) O<|Q.qg O (q.nn (r:=((y1.toNat:Nat):Int)) O (by rw [Tryz.underlying5];rfl) Tryz.underlying3 (wr (by omega))) O<|Q.qg O (q.bA (r:=((3+y1.toNat:Nat):Int)) O O) O<|Q.u 1 O<|Q.qg O (q.iJ (i:=1) O O Tryz.underlying9 O hy2) O<|Q.qg O (q.nn (r:=((y2.toNat:Nat):Int)) O (by rw [Tryz.underlying5];rfl) Tryz.underlying3 (wr (by omega))) O<|Q.qg O (q.bA (r:=(((3+y1.toNat)+y2.toNat:Nat):Int)) O O) O<|Q.u 1 O<|Q.qg O (q.iJ (i:=2) O O Tryz.underlying9 O hy3) O<|Q.qg O (q.nn (r:=((y3.toNat:Nat):Int)) O (by rw [Tryz.underlying5];rfl) Tryz.underlying3 (wr (by omega))) O<|Q.qg O (q.uZ (r:=((256*y3.toNat:Nat):Int)) O O) O<|Q.qg O (q.bA (r:=((((3+y1.toNat)+y2.toNat)+(256*y3.toNat):Nat):Int)) O O) O<|Q.u 1 O<|Q.qg O (q.iy O Tryz.underlying9) O<|Q.qg O (q.eu O O) O<|Q.u 1 O<|Q.nil<|R.aB O O<|R.reg O<|R.u 1 O<|R.q (q.iJ (i:=0) O O Tryz.underlying9 O hy1) O<|R.q (q.nn (r:=((y1.toNat:Nat):Int)) O (by rw [Tryz.underlying5];rfl) Tryz.underlying3 (wr (by omega))) O<|R.q (q.bA (r:=((3+y1.toNat:Nat):Int)) O O) O<|R.u 1 O<|R.nil<|R.ew O mixed (by kernel_rfl)<|Q.u 2 O<|Q.q (q.iJ (i:=1) O O Tryz.underlying9 O hy2) O<|Q.q (q.nn (r:=((y2.toNat:Nat):Int)) O (by rw [Tryz.underlying5];rfl) Tryz.underlying3 (wr (by omega))) O<|Q.q (q.bA (r:=(((3+y1.toNat)+y2.toNat:Nat):Int)) O O) O<|Q.u 1 O<|Q.q (q.iJ (i:=2) O O Tryz.underlying9 O hy3) O<|Q.q (q.nn (r:=((y3.toNat:Nat):Int)) O (by rw [Tryz.underlying5];rfl) Tryz.underlying3 (wr (by omega))) O<|Q.q (q.uZ (r:=((256*y3.toNat:Nat):Int)) O O) O<|Q.q (q.bA (r:=((((3+y1.toNat)+y2.toNat)+(256*y3.toNat):Nat):Int)) O O) O<|Q.u 1 O<|Q.nil<|R.fu (fuel:=10) (Wd w (blks []++own) [af.row 117 u rs,af.held w own] []) O mixed O<|D.q (i:=0) O (aC [0,1] [] O O O) O (q.mv O) O<|D.q (i:=1) O (aC [0,1] [] O O O) O (q.mv O) O<|D.q (i:=2) O (aC [0,1] [] O O O) O (q.Cp (i:=3) (j:=(3+y1.toNat)) O O O Tryz.underlying9 O O (by omega) (by omega)) O<|D.q (i:=3) O (aC [0,1] [] O O O) O (q.mv O) O<|D.q (i:=4) O (aC [0,1] [] O O O) O (q.mv O) O<|D.q (i:=5) O (aC [0,1] [] O O O) O (q.mv O) O<|D.q (i:=6) O (aC [0,1] [] O O O) O (q.Cp (i:=(3+y1.toNat)) (j:=(((3+y1.toNat)+y2.toNat)+(256*y3.toNat))) O O O Tryz.underlying9 O O (by omega) (by omega)) O<|D.q (i:=7) O (aC [0,1] [] O O O) O (q.build kK O O) O<|D.one (i:=8) O<|Do.s (s.alloc cJ O O) (fun _=>(aC [1,2] [] O O O)) O fun b1=>D.one (i:=9) O<|Do.s (s.st 0 _ O O O O (.inl aX) O O O O) (fun _=>(aC [1,2] [] O O O)) O fun _=>D.done<|R.reg O<|R.q (q.dv 0 O O aX) O<|R.c (q.call tN O O (fun w hw=>(jw (⟨(tt.extract 3 (3+y1.toNat)),(tt.extract (3+y1.toNat) (((3+y1.toNat)+y2.toNat)+(256*y3.toNat))),false⟩:Change) w ))) O<|?_
 by_cases h4:iG (⟨(tt.extract 3 (3+y1.toNat)),(tt.extract (3+y1.toNat) (((3+y1.toNat)+y2.toNat)+(256*y3.toNat))),false⟩:Change)=0
 .
  refine R.q (q.dC O O Tryz.underlying38) O<|R.nil<|R.aB O O<|R.reg O<|R.u 1 O<|R.q (q.dv 0 O O aX) O<|R.s O (s.bs (l:=([(⟨(tt.extract 3 (3+y1.toNat)),(tt.extract (3+y1.toNat) (((3+y1.toNat)+y2.toNat)+(256*y3.toNat))),false⟩:Change)]:List Change)) cp cJ O O O O O O O) fun b2=>R.s O (s.pre (fun _ hw=>hw.cX 2 _ O O) (s.pre (fun _ hw=>hw.cX 0 _ O O) (s.aW [0,1] [1,0] _ _ _ O O O Jk O O (fun w own hw H=>oG u rs (.slice (some ⟨b2,0,none⟩) 1 1) ([(⟨(tt.extract 3 (3+y1.toNat)),(tt.extract (3+y1.toNat) (((3+y1.toNat)+y2.toNat)+(256*y3.toNat))),false⟩:Change)]) w own H (by (simp;omega))) O))) fun z1=>R.u 1 O<|R.nil<|R.reg O<|R.u 2 O<|R.q (q.Cq (i:=(((3+y1.toNat)+y2.toNat)+(256*y3.toNat))) O O Tryz.underlying9 O (by omega)) O<|R.u 1 O<|R.nil<|R.back ((tt.extract (((3+y1.toNat)+y2.toNat)+(256*y3.toNat)) tt.size),k-1,z1,bZ rs ([(⟨(tt.extract 3 (3+y1.toNat)),(tt.extract (3+y1.toNat) (((3+y1.toNat)+y2.toNat)+(256*y3.toNat))),false⟩:Change)])) O (by ((try dsimp only);have g:=P2 HP hk ‹_› (by rw [C4 hy1 hy2 hy3];omega) (by rw [Ki hy1 hy2 hy3 O];assumption);rw [C4 hy1 hy2 hy3,Ki hy1 hy2 hy3 O] at g;have ha:=kR [(⟨(tt.extract 3 (3+y1.toNat)),(tt.extract (3+y1.toNat) (((3+y1.toNat)+y2.toNat)+(256*y3.toNat))),false⟩:Change)] rs;rw [List.length_singleton] at ha;exact ⟨by rw [ByteArray.size_extract];omega,g.2,g.1⟩)) (by dsimp only;omega) (sF O) (aC [0,2] [] O O O)
 refine R.q (q.eo O O Tryz.underlying38) O<|R.nil<|R.ay O O<|R.reg O<|R.u 2 O<|R.nil<|R.row0 (α:=Change) 117 ?_
 have hz:eO sx=([],false):=by (exact (HD HP hk ‹_› (by rw [C4 hy1 hy2 hy3];omega) (by rw [Ki hy1 hy2 hy3 rfl];assumption)))
 rw [hz]
 exact R.w2 (nS) [0,3] [] O Tryz.results87 (RV.tmp O) (RV.tmp O) O O O (dz O O)
theorem Kj {k i:Nat}{m:cD}{e:Int}{Z:cD×Int}(h:kr k i (m,e)=Z)(he:e=0)(hk:0<k):kr (k-1) (i+1) (au m (i:Int) ⟨#[]⟩)=Z:=by
 cases k with
 | zero=>omega
 | succ k=>rw [kr,if_pos he] at h;exact h
theorem C5 {k i:Nat}{m:cD}{e:Int}{Z:cD×Int}(h:kr k i (m,e)=Z)(he:¬ e=0):Z=(m,e):=by
 cases k with
 | zero=>exact h.symm
 | succ k=>rw [kr,if_neg he] at h;exact h.symm
theorem t6 {k i:Nat}{m:cD}{e:Int}{Z:cD×Int}(h:kr k i (m,e)=Z)(hk:k=0):Z=(m,e):=by subst hk;exact h.symm
theorem EU (aG:Nat)(ak aA ao:Value)(dk:cD)(w:World)(own:List Nat)(H:HN w own [af.box aG [ak,aA,ao,iV dk.Fuse,.bool dk.Down] 112,af.row 9 ak dk.Kept,af.row 9 aA dk.Now,af.row 114 ao dk.Wait] [])(hD:fO dk.Now.length 80000 dk/\dk.Now.length<=1000):RC Tryz.prog 69 #[.pointer (some ⟨aG,0,none⟩)] H (fun _:Value×Value×Value=>dh (dK dk).2) (fun z=>[af.box aG [z.1,z.2.1,z.2.2,iV (dK dk).1.Fuse,.bool (dK dk).1.Down] 112,af.row 9 z.1 (dK dk).1.Kept,af.row 9 z.2.1 (dK dk).1.Now,af.row 114 z.2.2 (dK dk).1.Wait]) (fun _=>[]):=by
 have eE:=H.cap 1 rfl;have eF:=H.cQ 1 rfl
 have fE:=H.cap 2 rfl;have fF:=H.cQ 2 rfl
 have eG:=H.cap 3 rfl;have eH:=H.cQ 3 rfl
 have p0:=hD.1.fine (by omega) (by omega)
 refine R.bF [(0,.pointer (some ⟨aG,0,none⟩))] Tryz.func69 O O O O H<|R.reg O<|R.u 1 O<|R.nil<|R.reg O<|R.u 1 O<|R.c (q.call uE O O (fun w hw=>(gF aG ak aA ao dk w (hw.b 0 O) (hw.row 1 O) (hw.row 2 O) (hw.row 3 O) ))) O<|?_
 by_cases h1:dk.Now.length<166
 .
  refine R.q (q.dy O O) O<|R.nil<|R.ay O O<|R.reg O<|R.q (q.iface O bm) O<|R.u 1 O<|R.nil ?_
  have hz:dK dk=(dk,9):=by (exact HE (by omega))
  rw [hz]
  exact R.w1 (ak,aA,ao) ig [] O Tryz.results69 (RV.tmp O) O O O (dq (by decide) O)
 refine R.q (q.cW O O) O<|R.nil<|R.aB O O<|R.reg O<|R.u 1 O<|R.s O (s.aW ig [] _ _ _ O O O uD O O (fun w own hw H=>jd aG ak aA ao dk 0 (⟨#[]⟩) w own H ‹_›) O) ?_
 rintro ⟨z1,z2,z3⟩
 dsimp only
 refine R.u 1 O<|R.nil<|R.reg O<|R.u 1 O<|R.nil<|R.loop (fun g_:Nat×Int×cD×Value×Value×Value=>[(0,.pointer (some ⟨aG,0,none⟩)),(3,dh g_.2.1),(4,iV ((102+g_.1):Int))]) (fun g_=>[af.box aG [g_.2.2.2.1,g_.2.2.2.2.1,g_.2.2.2.2.2,iV g_.2.2.1.Fuse,.bool g_.2.2.1.Down] 112,af.row 9 g_.2.2.2.1 g_.2.2.1.Kept,af.row 9 g_.2.2.2.2.1 g_.2.2.1.Now,af.row 114 g_.2.2.2.2.2 g_.2.2.1.Wait,af.held w own]) (fun g_=>[]) (fun g_=>102+g_.1<=dk.Now.length/\kr (dk.Now.length-102-g_.1) (102+g_.1) (g_.2.2.1,g_.2.1)=xk dk/\fO dk.Now.length (80001+g_.1) g_.2.2.1) (fun g_=>dk.Now.length-g_.1) (0,(au dk 0 (⟨#[]⟩)).2,(au dk 0 (⟨#[]⟩)).1,z1,z2,z3) O (by (try dsimp only);exact ⟨by omega,rfl,hD.1.write _ _⟩) (sF O) (fun _=>Wd.pick ig [] O O O) ?_
 rintro ⟨j,e,dm,ef,fM,eh⟩ ⟨hj,HB,hO⟩
 dsimp only at *
 have Wg:=hO.nl;have p1:=hO.fine (by omega) (by omega)
 refine R.reg O<|R.u 2 O<|R.c (q.call uE O O (fun w hw=>(gF aG ef fM eh dm w (hw.b 0 O) (hw.row 1 O) (hw.row 2 O) (hw.row 3 O) ))) O<|?_
 by_cases h2:(102+j)<dm.Now.length
 .
  refine R.q (q.dy O O) O<|R.u 2 O<|?_
  by_cases h3:e=0
  .
   refine R.qg O (q.mB O O Tryz.underlying38) O<|R.u 1 O<|R.nil<|R.ay O O<|R.reg O<|R.u 2 O<|R.s O (s.aW ig [] _ _ _ O O O uD O O (fun w own hw H=>jd aG ef fM eh dm ((102+j):Int) (⟨#[]⟩) w own H ‹_›) O) ?_
   rintro ⟨z4,z5,z6⟩
   dsimp only
   refine R.u 1 O<|R.nil<|R.reg O<|R.u 1 O<|R.q (q.bA (r:=(((102+j)+1:Nat):Int)) O O) O<|R.u 1 O<|R.nil<|R.back (j+1,(au dm ((102+j):Int) (⟨#[]⟩)).2,(au dm ((102+j):Int) (⟨#[]⟩)).1,z4,z5,z6) O (by ((try dsimp only);exact ⟨by omega,by have g:=Kj HB ‹_› (by omega);rwa [show dk.Now.length-102-(j+1)=dk.Now.length-102-j-1 by omega],hO.write _ _⟩)) (by dsimp only;omega) (sF O) (aC ig [] O O O)
  refine R.qg O (q.jF O O Tryz.underlying38) O<|R.u 1 O<|R.nil<|R.aB O O<|R.reg O<|R.u 1 O<|R.q (q.jF O O Tryz.underlying38) O<|R.nil<|R.aB O O<|R.reg O<|R.u 1 O<|R.q (q.jF O O Tryz.underlying38) O<|R.nil<|R.aB O O<|R.reg O<|R.u 1 O<|R.q (q.jF O O Tryz.underlying38) O<|R.nil<|R.aB O O<|R.reg O<|R.u 2 O<|R.nil ?_
  have hz:dK dk=(dm,e):=by (exact Oi (by omega) (by exact (C5 HB ‹_›)) ‹_›)
  rw [hz]
  exact R.w1 (ef,fM,eh) ig [] O Tryz.results69 (RV.tmp O) O O O O
 refine R.q (q.cW O O) O<|R.u 4 O<|R.nil<|R.aB O O<|R.reg O<|R.u 1 O<|?_
 by_cases h4:e=0
 .
  refine R.q (q.mB O O Tryz.underlying38) O<|R.nil<|R.ay O O<|R.reg O<|R.u 1 O<|R.s O (s.aW ig [] _ _ _ O O O zn O O (fun w own hw H=>kQ aG ef fM eh dm w own H ‹_›) O) ?_
  rintro ⟨z7,z8,z9⟩
  dsimp only
  refine R.u 1 O<|R.nil<|R.reg O<|R.u 1 O<|?_
  by_cases h5:(ai dm).2=0
  .
   refine R.q (q.mB O O Tryz.underlying38) O<|R.nil<|R.ay O O ?_
   have p2:=hO.flush.fine (by omega) (by omega)
   refine R.reg O<|R.u 1 O<|R.q (q.build eM O O) O<|R.c (q.call N1 O O (fun w hw=>(zF (⟨1,0,0,1⟩:cZ) w (by (dsimp only;omega))))) O<|R.s O (s.aW ig [] _ _ _ O O O uD O O (fun w own hw H=>jd aG z7 z8 z9 (ai dm).1 1 (aM (⟨1,0,0,1⟩:cZ)) w own H ‹_›) O) ?_
   rintro ⟨lF,mb,z12⟩
   dsimp only
   refine R.u 1 O<|R.nil<|R.reg O<|R.u 1 O<|?_
   by_cases h6:(au (ai dm).1 1 (aM (⟨1,0,0,1⟩:cZ))).2=0
   .
    refine R.q (q.mB O O Tryz.underlying38) O<|R.nil<|R.ay O O ?_
    have p3:=(hO.flush.write 1 (aM ⟨1,0,0,1⟩)).fine (by omega) (by omega)
    refine R.reg O<|R.u 1 O<|R.s O (s.aW ig [] _ _ _ O O O zn O O (fun w own hw H=>kQ aG lF mb z12 (au (ai dm).1 1 (aM (⟨1,0,0,1⟩:cZ))).1 w own H ‹_›) O) ?_
    rintro ⟨qc,yH,HI⟩
    dsimp only
    refine R.u 1 O<|R.nil<|R.reg O<|R.u 2 O<|R.nil ?_
    have hz:dK dk=(((ai (au (ai dm).1 1 (aM (⟨1,0,0,1⟩:cZ))).1).1),(ai (au (ai dm).1 1 (aM (⟨1,0,0,1⟩:cZ))).1).2):=by (exact Oj (by omega) (by exact (t6 HB (by omega))) ‹_› ‹_› ‹_›)
    rw [hz]
    exact R.w1 (qc,yH,HI) ig [] O Tryz.results69 (RV.tmp O) O O O O
   refine R.q (q.jF O O Tryz.underlying38) O<|R.nil<|R.aB O O<|R.reg O<|R.u 2 O<|R.nil ?_
   have hz:dK dk=(((au (ai dm).1 1 (aM (⟨1,0,0,1⟩:cZ))).1),(au (ai dm).1 1 (aM (⟨1,0,0,1⟩:cZ))).2):=by (exact SC (by omega) (by exact (t6 HB (by omega))) ‹_› ‹_› ‹_›)
   rw [hz]
   exact R.w1 (lF,mb,z12) ig [] O Tryz.results69 (RV.tmp O) O O O O
  refine R.q (q.jF O O Tryz.underlying38) O<|R.nil<|R.aB O O<|R.reg O<|R.u 1 O<|R.q (q.jF O O Tryz.underlying38) O<|R.nil<|R.aB O O<|R.reg O<|R.u 2 O<|R.nil ?_
  have hz:dK dk=(((ai dm).1),(ai dm).2):=by (exact SB (by omega) (by exact (t6 HB (by omega))) ‹_› ‹_›)
  rw [hz]
  exact R.w1 (z7,z8,z9) ig [] O Tryz.results69 (RV.tmp O) O O O O
 refine R.q (q.jF O O Tryz.underlying38) O<|R.nil<|R.aB O O<|R.reg O<|R.u 1 O<|R.q (q.jF O O Tryz.underlying38) O<|R.nil<|R.aB O O<|R.reg O<|R.u 1 O<|R.q (q.jF O O Tryz.underlying38) O<|R.nil<|R.aB O O<|R.reg O<|R.u 2 O<|R.nil ?_
 have hz:dK dk=(dm,e):=by (exact Oi (by omega) (by exact (C5 HB ‹_›)) ‹_›)
 rw [hz]
 exact R.w1 (ef,fM,eh) ig [] O Tryz.results69 (RV.tmp O) O O O O
structure vh where
  Buf:List UInt8
structure Mw where
  Used:Bool
  Buf:List UInt8
theorem yJ (jg:Nat)(fy:Value)(bd:vh)(w:World)(own:List Nat)(H:HN w own [af.box jg [.pointer none,fy] 194,af.row 5 fy bd.Buf] []):RC Tryz.prog 183 #[.pointer (some ⟨jg,0,none⟩)] H (fun _:Value => .tuple #[]) (fun z=>[af.box jg [.pointer (some ⟨jg,0,none⟩),z] 194,af.row 5 z bd.Buf]) (fun _=>[]):=by
 have xq:=H.cap 1 rfl;have xt:=H.cQ 1 rfl
 exact R.bF [(0,.pointer (some ⟨jg,0,none⟩))] Tryz.func183 rfl rfl rfl rfl H<|R.reg rfl<|R.u 1 rfl<|R.q (q.cm rfl) rfl<|R.q (q.aO rfl oy rfl) rfl<|R.q (q.ld 0 rfl rfl sP rfl) rfl<|R.q (q.OV rfl rfl Tryz.underlying192) rfl<|R.nil<|R.ay rfl rfl<|R.reg rfl<|R.u 2 rfl<|R.q (q.VA (i:=0) rfl rfl Tryz.underlying192 Tryz.underlying252 rfl (by decide) (by simp)) rfl<|R.q (q.Sp Tryz.func202 (by decide +kernel) rfl rfl rfl rfl rfl) rfl<|R.q (q.VB (i:=0) rfl rfl Tryz.underlying252 Tryz.underlying192 rfl 2 rfl (by decide +kernel)) rfl<|R.q (q.cm rfl) rfl<|R.q (q.aO rfl oy rfl) rfl<|R.s rfl (s.st 0 _ rfl rfl rfl rfl (.inr ⟨sP,rfl⟩) rfl rfl rfl rfl) fun _=>R.nil<|R.w0 fy [0,1,2] [] (by exact .inl rfl) Tryz.results183 rfl rfl rfl rfl
theorem yK (jg:Nat)(fy:Value)(bd:vh)(sx:ByteArray)(w:World)(own:List Nat)(H:HN w own [af.box jg [.pointer none,fy] 194,af.row 5 fy bd.Buf] [])(hl:bd.Buf.length+sx.size<=1000000):RC Tryz.prog 136 #[.pointer (some ⟨jg,0,none⟩),.string sx] H (fun _:Value => .tuple #[iV (sx.size:Int),.nilIface]) (fun z=>[af.box jg [.pointer (some ⟨jg,0,none⟩),z] 194,af.row 5 z ((⟨bd.Buf++sx.data.toList⟩:vh).Buf:List UInt8)]) (fun _=>[]):=by
 have xq:=H.cap 1 rfl;have xt:=H.cQ 1 rfl
 refine R.bF [(0,.pointer (some ⟨jg,0,none⟩)),(1,.string sx)] Tryz.func136 O O O O H<|R.reg O<|R.u 2 O<|R.nil<|R.reg O<|R.u 1 O<|R.s O (s.aW [0,1,2] [] _ _ _ O O O Jx O O (fun w own hw H=>yJ jg fy bd w own H ) O) fun z1=>R.nil<|R.reg O<|R.u 2 O<|R.q (q.cm O) O<|R.q (q.aO O oz O) O<|R.q (q.ld 0 O O mC O) O<|R.u 1 O<|R.s O (s.Ke 1 O O O Tryz.underlying138 Tryz.underlying9 O O O O (by omega) O) fun v1=>R.q (q.cm O) O<|R.q (q.aO O oz O) O<|R.s O (s.fZ 0 _ O O O (fun w hw=>Sl.cu (hw.row 1 O)) (.inr ⟨mC,rfl⟩) (fun w hw=>(ag (Sl.one (hw.row 1 O)) aP)) O O O) fun _=>R.nil<|R.reg O<|R.u 1 O<|R.q (q.iy O Tryz.underlying9) O<|R.u 2 O<|R.nil ?_
 have hz:((⟨bd.Buf++sx.data.toList⟩:vh),sx.size)=((⟨(bd.Buf++sx.data.toList)⟩:vh),sx.size):=by (rfl)
 exact R.w2 v1 [0,1,2] [] O Tryz.results136 (RV.tmp O) (RV.tmp O) O O O (dz O O)
theorem yL (jg:Nat)(fy:Value)(bd:vh)(w:World)(own:List Nat)(H:HN w own [af.box jg [.pointer (some ⟨jg,0,none⟩),fy] 194,af.row 5 fy bd.Buf] []):RC Tryz.prog 183 #[.pointer (some ⟨jg,0,none⟩)] H (fun _:Value => .tuple #[]) (fun z=>[af.box jg [.pointer (some ⟨jg,0,none⟩),z] 194,af.row 5 z bd.Buf]) (fun _=>[]):=by
 have xq:=H.cap 1 rfl;have xt:=H.cQ 1 rfl
 exact R.bF [(0,.pointer (some ⟨jg,0,none⟩))] Tryz.func183 rfl rfl rfl rfl H<|R.reg rfl<|R.u 1 rfl<|R.q (q.cm rfl) rfl<|R.q (q.aO rfl oy rfl) rfl<|R.q (q.ld 0 rfl rfl sP rfl) rfl<|R.q (q.OV rfl rfl Tryz.underlying192) rfl<|R.nil<|R.aB rfl rfl<|R.reg rfl<|R.u 1 rfl<|R.q (q.cm rfl) rfl<|R.q (q.aO rfl oy rfl) rfl<|R.q (q.ld 0 rfl rfl sP rfl) rfl<|R.u 1 rfl<|R.q (q.same rfl rfl Tryz.underlying192 rfl) rfl<|R.nil<|R.aB rfl rfl<|R.w0 fy [0,1,2] [] (by exact .inl rfl) Tryz.results183 rfl rfl rfl rfl
theorem yM (jg:Nat)(fy:Value)(bd:vh)(sx:ByteArray)(w:World)(own:List Nat)(H:HN w own [af.box jg [.pointer (some ⟨jg,0,none⟩),fy] 194,af.row 5 fy bd.Buf] [])(hl:bd.Buf.length+sx.size<=1000000):RC Tryz.prog 136 #[.pointer (some ⟨jg,0,none⟩),.string sx] H (fun _:Value => .tuple #[iV (sx.size:Int),.nilIface]) (fun z=>[af.box jg [.pointer (some ⟨jg,0,none⟩),z] 194,af.row 5 z ((⟨bd.Buf++sx.data.toList⟩:vh).Buf:List UInt8)]) (fun _=>[]):=by
 have xq:=H.cap 1 rfl;have xt:=H.cQ 1 rfl
 refine R.bF [(0,.pointer (some ⟨jg,0,none⟩)),(1,.string sx)] Tryz.func136 O O O O H<|R.reg O<|R.u 2 O<|R.nil<|R.reg O<|R.u 1 O<|R.s O (s.aW [0,1,2] [] _ _ _ O O O Jx O O (fun w own hw H=>yL jg fy bd w own H ) O) fun z1=>R.nil<|R.reg O<|R.u 2 O<|R.q (q.cm O) O<|R.q (q.aO O oz O) O<|R.q (q.ld 0 O O mC O) O<|R.u 1 O<|R.s O (s.Ke 1 O O O Tryz.underlying138 Tryz.underlying9 O O O O (by omega) O) fun v1=>R.q (q.cm O) O<|R.q (q.aO O oz O) O<|R.s O (s.fZ 0 _ O O O (fun w hw=>Sl.cu (hw.row 1 O)) (.inr ⟨mC,rfl⟩) (fun w hw=>(ag (Sl.one (hw.row 1 O)) aP)) O O O) fun _=>R.nil<|R.reg O<|R.u 1 O<|R.q (q.iy O Tryz.underlying9) O<|R.u 2 O<|R.nil ?_
 have hz:((⟨bd.Buf++sx.data.toList⟩:vh),sx.size)=((⟨(bd.Buf++sx.data.toList)⟩:vh),sx.size):=by (rfl)
 exact R.w2 v1 [0,1,2] [] O Tryz.results136 (RV.tmp O) (RV.tmp O) O O O (dz O O)
theorem Bv (jg:Nat)(fy:Value)(bd:Mw)(sx:ByteArray)(w:World)(own:List Nat)(H:HN w own [af.box jg [xm jg bd.Used,fy] 194,af.row 5 fy (bd.Buf:List UInt8)] [])(hl:bd.Buf.length+sx.size<=1000000):RC Tryz.prog 136 #[.pointer (some ⟨jg,0,none⟩),.string sx] H (fun _:Value => .tuple #[.int .i64 (sx.size:Int),.nilIface]) (fun z=>[af.box jg [xm jg (((⟨true,bd.Buf++sx.data.toList⟩:Mw)).Used),z] 194,af.row 5 z (((⟨true,bd.Buf++sx.data.toList⟩:Mw)).Buf:List UInt8)]) (fun _=>[]):=by
 obtain ⟨u_,l_⟩:=bd
 cases u_ with
 | true=>exact yM jg fy (⟨l_⟩:vh) sx w own H hl
 | false=>exact yK jg fy (⟨l_⟩:vh) sx w own H hl
theorem Mx (bJ:Value)(l:List Change)(w:World)(ey:Sl w bJ l)(hl:l.length<=1000)(hF:∀c∈l,iG c=0):Calls Tryz.prog 76 #[bJ] w fun e w'=>e = .returned (.string (aI l))/\Ext w w':=by
 have zw:=ey.fC
 refine R.enter [] [(0,bJ)] Tryz.func76 O O O O<|R.pN ey<|R.reg O<|R.u 1 O<|R.nil<|R.reg O<|R.s O (s.alloc Hc O O) fun b1=>R.nil<|R.reg O<|R.u 1 O<|R.q (q.len' (dr 0 O) O Tryz.underlying34) O<|R.u 1 O<|R.nil<|R.row0 (α:=UInt8) 5<|R.loop (fun g_:Nat×Bool×Value×(List UInt8)=>[(3,.pointer (some ⟨b1,0,none⟩)),(6,bJ),(7,iV (l.length:Int)),(8,iV (g_.1:Int))]) (fun g_=>[af.row 5 g_.2.2.1 g_.2.2.2,af.box b1 [xm b1 g_.2.1,g_.2.2.1] 194]) (fun g_=>[af.ls bJ l]) (fun g_=>g_.1<=l.length/\g_.2.2.2=(aI (l.take g_.1)).data.toList) (fun g_=>l.length-g_.1) (0,false,(nS),[]) O (by exact ⟨by omega,rfl⟩) (sF O) (fun _=>Wd.pick [0,1] [0] O O O) ?_
 rintro ⟨k,u,qb,bb⟩ ⟨hk,HB⟩
 dsimp only at *
 have hbl:bb.length<=35*k:=by have:=vA (l:=l.take k) (fun c hc=>hF c (List.mem_of_mem_take hc));rw [List.length_take] at this;rw [HB,Array.length_toList];show (aI (l.take k)).size<=_;omega
 refine R.reg O<|?_
 by_cases h1:k<l.length
 .
  refine R.q (q.dy O O) O<|R.nil<|R.ay O O<|R.reg O<|?_
  obtain ⟨x1,hx1⟩:∃z,l[k]? = some z:=⟨_,List.getElem?_eq_getElem (by omega)⟩
  obtain ⟨PZ,Vz,Wh,Wi⟩:=hG (hF x1 (List.mem_of_getElem? hx1))
  refine R.q (q.idx (i:=k) (dr 0 O) O O cp O hx1) O<|R.q (q.eV (ds:=eR x1) (dr 0 O) hx1 O aX O) O<|R.s O (s.alloc cJ O O) fun b2=>R.s O (s.st 0 _ O O O O (.inl aX) O O O O) fun _=>R.nil<|R.reg O<|R.q (q.aO O bM O) O<|R.q (q.ld 0 O O bK O) O<|R.q (q.iy O Tryz.underlying9) O<|R.q (q.nn (r:=((x1.Key.size:Nat):Int)) O (by rw [Tryz.underlying3];rfl) Tryz.underlying5 (wk (by omega))) O<|R.q (q.aO O cY O) O<|R.q (q.ld 0 O O bK O) O<|R.q (q.iy O Tryz.underlying9) O<|R.q (q.nn (r:=((x1.Val.size:Nat):Int)) O (by rw [Tryz.underlying3];rfl) Tryz.underlying5 (wk (by omega))) O<|R.q (q.aO O cY O) O<|R.q (q.ld 0 O O bK O) O<|R.q (q.iy O Tryz.underlying9) O<|R.q (q.shr (r:=(((x1.Val.size / 256):Nat):Int)) O O (by decide) (L9 (by decide))) O<|R.q (q.nn (r:=(((x1.Val.size / 256):Nat):Int)) O (by rw [Tryz.underlying3];rfl) Tryz.underlying5 (wk (by omega))) O<|R.s O (s.bs (l:=([(UInt8.ofNat x1.Key.size),(UInt8.ofNat x1.Val.size),(UInt8.ofNat (x1.Val.size / 256))]:List UInt8)) aS ez O O O O O (cw (dH (by omega)) (cw (dH (by omega)) (cw (dH (by omega)) fU))) O) fun b3=>R.q (q.kf (ck 0 O) O aS Tryz.underlying5 Tryz.underlying9) O<|R.q (q.aO O bM O) O<|R.q (q.ld 1 O O bK O) O<|R.q (q.cat O O (by (simp only [ByteArray.size_append,aH,aF,List.length_cons,List.length_nil];omega))) O<|R.q (q.aO O cY O) O<|R.q (q.ld 1 O O bK O) O<|R.q (q.cat O O (by (simp only [ByteArray.size_append,aH,aF,List.length_cons,List.length_nil];omega))) O<|R.s O (s.aW [3,2,0,1] [] _ _ _ O O O Pd O O (fun w own hw H=>Bv b1 qb (⟨u,bb⟩:Mw) (((⟨([(UInt8.ofNat x1.Key.size),(UInt8.ofNat x1.Val.size),(UInt8.ofNat (x1.Val.size / 256))]).toArray⟩:ByteArray)++x1.Key)++x1.Val) w own H (by (simp only [ByteArray.size_append,aH,List.length_cons,List.length_nil];omega))) O) fun z1=>R.nil<|R.reg O<|R.q (q.bA (r:=((k+1:Nat):Int)) O O) O<|R.u 1 O<|R.nil<|R.back (k+1,true,z1,(bb++(((⟨([(UInt8.ofNat x1.Key.size),(UInt8.ofNat x1.Val.size),(UInt8.ofNat (x1.Val.size / 256))]).toArray⟩:ByteArray)++x1.Key)++x1.Val).data.toList)) O (by (exact ⟨by omega,by rw [Hz hx1,HB];simp [iR]⟩)) (by dsimp only;omega) (sF O) (aC [1,0] [0] O O O)
 exact R.q (q.cW O O) O<|R.nil<|R.aB O O<|R.reg O<|R.s O (s.T5 (i:=1) (j:=0) (u:=u) (l:=bb) Pe O O (by decide) O O (fun W h hW=>Tryz.Builder_String_any _ _ _ W h hW) O) fun _=>R.u 1 O<|R.nil<|R.rv O Tryz.results76 O (rS (by (rw [HB,List.take_of_length_le (by omega)])))
end Go.Proofs.YtkbhcbipadkcaaaGreatDoor
