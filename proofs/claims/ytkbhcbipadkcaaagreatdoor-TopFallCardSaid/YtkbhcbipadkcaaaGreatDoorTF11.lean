import Derived.Test.YtkbhcbipadkcaaaGreatDoorTF10
namespace Go.Proofs.YtkbhcbipadkcaaaGreatDoor
set_option linter.unusedVariables false
set_option linter.unusedSimpArgs false
set_option maxRecDepth 100000
set_option maxHeartbeats 90000000
open Go Go.RowKit
theorem dt (n:Int)(w:World)(hn:0<=n/\n<=9000000000000000000):Calls Tryz.prog 142 #[iV n] w fun e w'=>e = .returned (.string (bY n))/\Ext w w':=by
 refine R.enter [] [(0,iV n)] Tryz.func142 O O O O<|R.reg O<|R.u 1 O<|R.nil<|R.reg O<|R.u 1 O<|R.q (q.ni O (by rw [Tryz.underlying3];rfl) Tryz.underlying5 pO) O<|R.u 1 O<|R.q (q.shr (r:=n / 256) O O (by decide) (Hh (D:=256) (by decide) (by decide))) O<|R.q (q.ni O (by rw [Tryz.underlying3];rfl) Tryz.underlying5 pO) O<|R.u 1 O<|R.q (q.shr (r:=n / 65536) O O (by decide) (Hh (D:=65536) (by decide) (by decide))) O<|R.q (q.ni O (by rw [Tryz.underlying3];rfl) Tryz.underlying5 pO) O<|R.u 1 O<|R.q (q.shr (r:=n / 16777216) O O (by decide) (Hh (D:=16777216) (by decide) (by decide))) O<|R.q (q.ni O (by rw [Tryz.underlying3];rfl) Tryz.underlying5 pO) O<|R.s O (s.bs (l:=([(u8 (n % 256)),(u8 ((n / 256) % 256)),(u8 ((n / 65536) % 256)),(u8 ((n / 16777216) % 256))]:List UInt8)) aR eA O O O O O (cr (gA (by omega)) (cr (gA (by omega)) (cr (gA (by omega)) (cr (gA (by omega)) fV)))) O) fun b1=>?_
 exact R.q (q.kf (bE 0 O) O aR Tryz.underlying5 Tryz.underlying9) O<|R.u 1 O<|R.nil<|R.rv O Tryz.results142 O (rS (by rfl))
theorem C4 (k:Int)(n:Int)(sx:ByteArray)(w:World)(hk:0<=k/\k<=255)(hn:0<=n/\n<=9000000000000000000)(hs:sx.size<=41):Calls Tryz.prog 182 #[.int .u8 k,iV n,.string sx] w fun e w'=>e = .returned (.string (dE k n sx))/\Ext w w':=by
 refine R.enter [] [(0,.int .u8 k),(1,iV n),(2,.string sx)] Tryz.func182 O O O O<|R.reg O<|R.u 1 O<|R.nil<|R.fP (fuel:=19) [] O O mixed O<|D.q (i:=0) O (aD [] [] O) O (q.mv O) O<|D.q (i:=3) O (aD [] [] O) O (q.mv O) O<|D.q (i:=6) O (aD [] [] O) O (q.mv O) O<|D.q (i:=7) O (aD [] [] O) O (q.iy O Tryz.underlying9) O<|D.q (i:=8) O (aD [] [] O) O (q.ni (r:=((sx.size:Nat):Int)) O (by rw [Tryz.underlying3];rfl) Tryz.underlying5 (wj (by omega))) O<|D.q (i:=9) O (aD [] [] O) O (q.mv O) O<|D.q (i:=10) O (aD [] [] O) O (q.iy O Tryz.underlying9) O<|D.q (i:=11) O (aD [] [] O) O (q.shr (r:=(((sx.size / 256):Nat):Int)) O O (by decide) (L9 (by decide))) O<|D.q (i:=12) O (aD [] [] O) O (q.ni (r:=(((sx.size / 256):Nat):Int)) O (by rw [Tryz.underlying3];rfl) Tryz.underlying5 (wj (by omega))) O<|D.q (i:=16) O (aD [] [] O) O (q.mv O) O<|D.three (i:=1) (j:=4) (m:=13) O O O ?_ ?_ ?_
 .
  refine Do.s (s.bs (l:=([(u8 k)]:List UInt8)) aR eA O O O O O (cr (gA (by omega)) fV) O) (fun _=>(aD [] [] O)) O fun b1=>?_
  refine D.three (i:=2) (j:=4) (m:=13) O O O ?_ ?_ ?_
  .
   refine Do.s (s.c (Qt.a (q.kf (bE 0 O) O aR Tryz.underlying5 Tryz.underlying9)) O) (fun _=>(aD [] [] O)) O fun _=>?_
   refine D.two (i:=4) (j:=13) O O ?_ ?_
   .
    refine Do.s (s.c (q.call fA O O (fun w hw=>(dt n w (by omega)))) O) (fun _=>(aD [] [] O)) O fun _=>?_
    refine D.q (i:=5) O (aD [] [] O) O (q.cat O O (by (simp only [ByteArray.size_append,aI,aG,List.length_cons,List.length_nil];omega))) O<|D.one (i:=13) O<|Do.s (s.bs (l:=([(UInt8.ofNat sx.size),(UInt8.ofNat (sx.size / 256))]:List UInt8)) aR eA O O O O O (cr (dG (by omega)) (cr (dG (by omega)) fV)) O) (fun _=>(aD [] [] O)) O fun b2=>?_
    refine D.one (i:=14) O<|Do.s (s.c (Qt.a (q.kf (bE 0 O) O aR Tryz.underlying5 Tryz.underlying9)) O) (fun _=>(aD [] [] O)) O fun _=>?_
    exact D.q (i:=15) rfl (fun _=>Wd.pk [] [] rfl) rfl (q.cat rfl rfl (by (simp only [ByteArray.size_append,aI,aG,List.length_cons,List.length_nil];omega))) rfl<|D.q (i:=17) rfl (fun _=>Wd.pk [] [] rfl) rfl (q.cat rfl rfl (by (simp only [ByteArray.size_append,aI,aG,List.length_cons,List.length_nil];omega))) rfl<|D.q (i:=18) rfl (fun _=>Wd.pk [] [] rfl) rfl (q.as rfl) rfl<|D.done<|R.rv rfl Tryz.results182 rfl (rS (by rfl))
   refine Do.s (s.bs (l:=([(UInt8.ofNat sx.size),(UInt8.ofNat (sx.size / 256))]:List UInt8)) aR eA O O O O O (cr (dG (by omega)) (cr (dG (by omega)) fV)) O) (fun _=>(aD [] [] O)) O fun b3=>?_
   refine D.two (i:=4) (j:=14) O O ?_ ?_
   .
    refine Do.s (s.c (q.call fA O O (fun w hw=>(dt n w (by omega)))) O) (fun _=>(aD [] [] O)) O fun _=>?_
    refine D.q (i:=5) O (aD [] [] O) O (q.cat O O (by (simp only [ByteArray.size_append,aI,aG,List.length_cons,List.length_nil];omega))) O<|D.one (i:=14) O<|Do.s (s.c (Qt.a (q.kf (bE 0 O) O aR Tryz.underlying5 Tryz.underlying9)) O) (fun _=>(aD [] [] O)) O fun _=>?_
    exact D.q (i:=15) rfl (fun _=>Wd.pk [] [] rfl) rfl (q.cat rfl rfl (by (simp only [ByteArray.size_append,aI,aG,List.length_cons,List.length_nil];omega))) rfl<|D.q (i:=17) rfl (fun _=>Wd.pk [] [] rfl) rfl (q.cat rfl rfl (by (simp only [ByteArray.size_append,aI,aG,List.length_cons,List.length_nil];omega))) rfl<|D.q (i:=18) rfl (fun _=>Wd.pk [] [] rfl) rfl (q.as rfl) rfl<|D.done<|R.rv rfl Tryz.results182 rfl (rS (by rfl))
   refine Do.s (s.c (Qt.a (q.kf (bE 0 O) O aR Tryz.underlying5 Tryz.underlying9)) O) (fun _=>(aD [] [] O)) O fun _=>?_
   refine D.one (i:=4) O<|Do.s (s.c (q.call fA O O (fun w hw=>(dt n w (by omega)))) O) (fun _=>(aD [] [] O)) O fun _=>?_
   exact D.q (i:=5) rfl (fun _=>Wd.pk [] [] rfl) rfl (q.cat rfl rfl (by (simp only [ByteArray.size_append,aI,aG,List.length_cons,List.length_nil];omega))) rfl<|D.q (i:=15) rfl (fun _=>Wd.pk [] [] rfl) rfl (q.cat rfl rfl (by (simp only [ByteArray.size_append,aI,aG,List.length_cons,List.length_nil];omega))) rfl<|D.q (i:=17) rfl (fun _=>Wd.pk [] [] rfl) rfl (q.cat rfl rfl (by (simp only [ByteArray.size_append,aI,aG,List.length_cons,List.length_nil];omega))) rfl<|D.q (i:=18) rfl (fun _=>Wd.pk [] [] rfl) rfl (q.as rfl) rfl<|D.done<|R.rv rfl Tryz.results182 rfl (rS (by rfl))
  .
   refine Do.s (s.c (q.call fA O O (fun w hw=>(dt n w (by omega)))) O) (fun _=>(aD [] [] O)) O fun _=>?_
   refine D.two (i:=2) (j:=13) O O ?_ ?_
   .
    refine Do.s (s.c (Qt.a (q.kf (bE 0 O) O aR Tryz.underlying5 Tryz.underlying9)) O) (fun _=>(aD [] [] O)) O fun _=>?_
    refine D.q (i:=5) O (aD [] [] O) O (q.cat O O (by (simp only [ByteArray.size_append,aI,aG,List.length_cons,List.length_nil];omega))) O<|D.one (i:=13) O<|Do.s (s.bs (l:=([(UInt8.ofNat sx.size),(UInt8.ofNat (sx.size / 256))]:List UInt8)) aR eA O O O O O (cr (dG (by omega)) (cr (dG (by omega)) fV)) O) (fun _=>(aD [] [] O)) O fun b4=>?_
    refine D.one (i:=14) O<|Do.s (s.c (Qt.a (q.kf (bE 0 O) O aR Tryz.underlying5 Tryz.underlying9)) O) (fun _=>(aD [] [] O)) O fun _=>?_
    exact D.q (i:=15) rfl (fun _=>Wd.pk [] [] rfl) rfl (q.cat rfl rfl (by (simp only [ByteArray.size_append,aI,aG,List.length_cons,List.length_nil];omega))) rfl<|D.q (i:=17) rfl (fun _=>Wd.pk [] [] rfl) rfl (q.cat rfl rfl (by (simp only [ByteArray.size_append,aI,aG,List.length_cons,List.length_nil];omega))) rfl<|D.q (i:=18) rfl (fun _=>Wd.pk [] [] rfl) rfl (q.as rfl) rfl<|D.done<|R.rv rfl Tryz.results182 rfl (rS (by rfl))
   refine Do.s (s.bs (l:=([(UInt8.ofNat sx.size),(UInt8.ofNat (sx.size / 256))]:List UInt8)) aR eA O O O O O (cr (dG (by omega)) (cr (dG (by omega)) fV)) O) (fun _=>(aD [] [] O)) O fun b5=>?_
   refine D.two (i:=2) (j:=14) O O ?_ ?_
   .
    refine Do.s (s.c (Qt.a (q.kf (bE 1 O) O aR Tryz.underlying5 Tryz.underlying9)) O) (fun _=>(aD [] [] O)) O fun _=>?_
    refine D.q (i:=5) O (aD [] [] O) O (q.cat O O (by (simp only [ByteArray.size_append,aI,aG,List.length_cons,List.length_nil];omega))) O<|D.one (i:=14) O<|Do.s (s.c (Qt.a (q.kf (bE 0 O) O aR Tryz.underlying5 Tryz.underlying9)) O) (fun _=>(aD [] [] O)) O fun _=>?_
    exact D.q (i:=15) rfl (fun _=>Wd.pk [] [] rfl) rfl (q.cat rfl rfl (by (simp only [ByteArray.size_append,aI,aG,List.length_cons,List.length_nil];omega))) rfl<|D.q (i:=17) rfl (fun _=>Wd.pk [] [] rfl) rfl (q.cat rfl rfl (by (simp only [ByteArray.size_append,aI,aG,List.length_cons,List.length_nil];omega))) rfl<|D.q (i:=18) rfl (fun _=>Wd.pk [] [] rfl) rfl (q.as rfl) rfl<|D.done<|R.rv rfl Tryz.results182 rfl (rS (by rfl))
   refine Do.s (s.c (Qt.a (q.kf (bE 0 O) O aR Tryz.underlying5 Tryz.underlying9)) O) (fun _=>(aD [] [] O)) O fun _=>?_
   refine D.one (i:=2) O<|Do.s (s.c (Qt.a (q.kf (bE 1 O) O aR Tryz.underlying5 Tryz.underlying9)) O) (fun _=>(aD [] [] O)) O fun _=>?_
   exact D.q (i:=5) rfl (fun _=>Wd.pk [] [] rfl) rfl (q.cat rfl rfl (by (simp only [ByteArray.size_append,aI,aG,List.length_cons,List.length_nil];omega))) rfl<|D.q (i:=15) rfl (fun _=>Wd.pk [] [] rfl) rfl (q.cat rfl rfl (by (simp only [ByteArray.size_append,aI,aG,List.length_cons,List.length_nil];omega))) rfl<|D.q (i:=17) rfl (fun _=>Wd.pk [] [] rfl) rfl (q.cat rfl rfl (by (simp only [ByteArray.size_append,aI,aG,List.length_cons,List.length_nil];omega))) rfl<|D.q (i:=18) rfl (fun _=>Wd.pk [] [] rfl) rfl (q.as rfl) rfl<|D.done<|R.rv rfl Tryz.results182 rfl (rS (by rfl))
  refine Do.s (s.bs (l:=([(UInt8.ofNat sx.size),(UInt8.ofNat (sx.size / 256))]:List UInt8)) aR eA O O O O O (cr (dG (by omega)) (cr (dG (by omega)) fV)) O) (fun _=>(aD [] [] O)) O fun b6=>?_
  refine D.three (i:=2) (j:=4) (m:=14) O O O ?_ ?_ ?_
  .
   refine Do.s (s.c (Qt.a (q.kf (bE 1 O) O aR Tryz.underlying5 Tryz.underlying9)) O) (fun _=>(aD [] [] O)) O fun _=>?_
   refine D.two (i:=4) (j:=14) O O ?_ ?_
   .
    refine Do.s (s.c (q.call fA O O (fun w hw=>(dt n w (by omega)))) O) (fun _=>(aD [] [] O)) O fun _=>?_
    refine D.q (i:=5) O (aD [] [] O) O (q.cat O O (by (simp only [ByteArray.size_append,aI,aG,List.length_cons,List.length_nil];omega))) O<|D.one (i:=14) O<|Do.s (s.c (Qt.a (q.kf (bE 0 O) O aR Tryz.underlying5 Tryz.underlying9)) O) (fun _=>(aD [] [] O)) O fun _=>?_
    exact D.q (i:=15) rfl (fun _=>Wd.pk [] [] rfl) rfl (q.cat rfl rfl (by (simp only [ByteArray.size_append,aI,aG,List.length_cons,List.length_nil];omega))) rfl<|D.q (i:=17) rfl (fun _=>Wd.pk [] [] rfl) rfl (q.cat rfl rfl (by (simp only [ByteArray.size_append,aI,aG,List.length_cons,List.length_nil];omega))) rfl<|D.q (i:=18) rfl (fun _=>Wd.pk [] [] rfl) rfl (q.as rfl) rfl<|D.done<|R.rv rfl Tryz.results182 rfl (rS (by rfl))
   refine Do.s (s.c (Qt.a (q.kf (bE 0 O) O aR Tryz.underlying5 Tryz.underlying9)) O) (fun _=>(aD [] [] O)) O fun _=>?_
   refine D.one (i:=4) O<|Do.s (s.c (q.call fA O O (fun w hw=>(dt n w (by omega)))) O) (fun _=>(aD [] [] O)) O fun _=>?_
   exact D.q (i:=5) rfl (fun _=>Wd.pk [] [] rfl) rfl (q.cat rfl rfl (by (simp only [ByteArray.size_append,aI,aG,List.length_cons,List.length_nil];omega))) rfl<|D.q (i:=15) rfl (fun _=>Wd.pk [] [] rfl) rfl (q.cat rfl rfl (by (simp only [ByteArray.size_append,aI,aG,List.length_cons,List.length_nil];omega))) rfl<|D.q (i:=17) rfl (fun _=>Wd.pk [] [] rfl) rfl (q.cat rfl rfl (by (simp only [ByteArray.size_append,aI,aG,List.length_cons,List.length_nil];omega))) rfl<|D.q (i:=18) rfl (fun _=>Wd.pk [] [] rfl) rfl (q.as rfl) rfl<|D.done<|R.rv rfl Tryz.results182 rfl (rS (by rfl))
  .
   refine Do.s (s.c (q.call fA O O (fun w hw=>(dt n w (by omega)))) O) (fun _=>(aD [] [] O)) O fun _=>?_
   refine D.two (i:=2) (j:=14) O O ?_ ?_
   .
    refine Do.s (s.c (Qt.a (q.kf (bE 1 O) O aR Tryz.underlying5 Tryz.underlying9)) O) (fun _=>(aD [] [] O)) O fun _=>?_
    refine D.q (i:=5) O (aD [] [] O) O (q.cat O O (by (simp only [ByteArray.size_append,aI,aG,List.length_cons,List.length_nil];omega))) O<|D.one (i:=14) O<|Do.s (s.c (Qt.a (q.kf (bE 0 O) O aR Tryz.underlying5 Tryz.underlying9)) O) (fun _=>(aD [] [] O)) O fun _=>?_
    exact D.q (i:=15) rfl (fun _=>Wd.pk [] [] rfl) rfl (q.cat rfl rfl (by (simp only [ByteArray.size_append,aI,aG,List.length_cons,List.length_nil];omega))) rfl<|D.q (i:=17) rfl (fun _=>Wd.pk [] [] rfl) rfl (q.cat rfl rfl (by (simp only [ByteArray.size_append,aI,aG,List.length_cons,List.length_nil];omega))) rfl<|D.q (i:=18) rfl (fun _=>Wd.pk [] [] rfl) rfl (q.as rfl) rfl<|D.done<|R.rv rfl Tryz.results182 rfl (rS (by rfl))
   refine Do.s (s.c (Qt.a (q.kf (bE 0 O) O aR Tryz.underlying5 Tryz.underlying9)) O) (fun _=>(aD [] [] O)) O fun _=>?_
   refine D.one (i:=2) O<|Do.s (s.c (Qt.a (q.kf (bE 1 O) O aR Tryz.underlying5 Tryz.underlying9)) O) (fun _=>(aD [] [] O)) O fun _=>?_
   exact D.q (i:=5) rfl (fun _=>Wd.pk [] [] rfl) rfl (q.cat rfl rfl (by (simp only [ByteArray.size_append,aI,aG,List.length_cons,List.length_nil];omega))) rfl<|D.q (i:=15) rfl (fun _=>Wd.pk [] [] rfl) rfl (q.cat rfl rfl (by (simp only [ByteArray.size_append,aI,aG,List.length_cons,List.length_nil];omega))) rfl<|D.q (i:=17) rfl (fun _=>Wd.pk [] [] rfl) rfl (q.cat rfl rfl (by (simp only [ByteArray.size_append,aI,aG,List.length_cons,List.length_nil];omega))) rfl<|D.q (i:=18) rfl (fun _=>Wd.pk [] [] rfl) rfl (q.as rfl) rfl<|D.done<|R.rv rfl Tryz.results182 rfl (rS (by rfl))
  refine Do.s (s.c (Qt.a (q.kf (bE 0 O) O aR Tryz.underlying5 Tryz.underlying9)) O) (fun _=>(aD [] [] O)) O fun _=>?_
  refine D.two (i:=2) (j:=4) O O ?_ ?_
  .
   refine Do.s (s.c (Qt.a (q.kf (bE 1 O) O aR Tryz.underlying5 Tryz.underlying9)) O) (fun _=>(aD [] [] O)) O fun _=>?_
   refine D.one (i:=4) O<|Do.s (s.c (q.call fA O O (fun w hw=>(dt n w (by omega)))) O) (fun _=>(aD [] [] O)) O fun _=>?_
   exact D.q (i:=5) rfl (fun _=>Wd.pk [] [] rfl) rfl (q.cat rfl rfl (by (simp only [ByteArray.size_append,aI,aG,List.length_cons,List.length_nil];omega))) rfl<|D.q (i:=15) rfl (fun _=>Wd.pk [] [] rfl) rfl (q.cat rfl rfl (by (simp only [ByteArray.size_append,aI,aG,List.length_cons,List.length_nil];omega))) rfl<|D.q (i:=17) rfl (fun _=>Wd.pk [] [] rfl) rfl (q.cat rfl rfl (by (simp only [ByteArray.size_append,aI,aG,List.length_cons,List.length_nil];omega))) rfl<|D.q (i:=18) rfl (fun _=>Wd.pk [] [] rfl) rfl (q.as rfl) rfl<|D.done<|R.rv rfl Tryz.results182 rfl (rS (by rfl))
  refine Do.s (s.c (q.call fA O O (fun w hw=>(dt n w (by omega)))) O) (fun _=>(aD [] [] O)) O fun _=>?_
  refine D.one (i:=2) O<|Do.s (s.c (Qt.a (q.kf (bE 1 O) O aR Tryz.underlying5 Tryz.underlying9)) O) (fun _=>(aD [] [] O)) O fun _=>?_
  exact D.q (i:=5) rfl (fun _=>Wd.pk [] [] rfl) rfl (q.cat rfl rfl (by (simp only [ByteArray.size_append,aI,aG,List.length_cons,List.length_nil];omega))) rfl<|D.q (i:=15) rfl (fun _=>Wd.pk [] [] rfl) rfl (q.cat rfl rfl (by (simp only [ByteArray.size_append,aI,aG,List.length_cons,List.length_nil];omega))) rfl<|D.q (i:=17) rfl (fun _=>Wd.pk [] [] rfl) rfl (q.cat rfl rfl (by (simp only [ByteArray.size_append,aI,aG,List.length_cons,List.length_nil];omega))) rfl<|D.q (i:=18) rfl (fun _=>Wd.pk [] [] rfl) rfl (q.as rfl) rfl<|D.done<|R.rv rfl Tryz.results182 rfl (rS (by rfl))
 .
  refine Do.s (s.c (q.call fA O O (fun w hw=>(dt n w (by omega)))) O) (fun _=>(aD [] [] O)) O fun _=>?_
  refine D.two (i:=1) (j:=13) O O ?_ ?_
  .
   refine Do.s (s.bs (l:=([(u8 k)]:List UInt8)) aR eA O O O O O (cr (gA (by omega)) fV) O) (fun _=>(aD [] [] O)) O fun b7=>?_
   refine D.two (i:=2) (j:=13) O O ?_ ?_
   .
    refine Do.s (s.c (Qt.a (q.kf (bE 0 O) O aR Tryz.underlying5 Tryz.underlying9)) O) (fun _=>(aD [] [] O)) O fun _=>?_
    refine D.q (i:=5) O (aD [] [] O) O (q.cat O O (by (simp only [ByteArray.size_append,aI,aG,List.length_cons,List.length_nil];omega))) O<|D.one (i:=13) O<|Do.s (s.bs (l:=([(UInt8.ofNat sx.size),(UInt8.ofNat (sx.size / 256))]:List UInt8)) aR eA O O O O O (cr (dG (by omega)) (cr (dG (by omega)) fV)) O) (fun _=>(aD [] [] O)) O fun b8=>?_
    refine D.one (i:=14) O<|Do.s (s.c (Qt.a (q.kf (bE 0 O) O aR Tryz.underlying5 Tryz.underlying9)) O) (fun _=>(aD [] [] O)) O fun _=>?_
    exact D.q (i:=15) rfl (fun _=>Wd.pk [] [] rfl) rfl (q.cat rfl rfl (by (simp only [ByteArray.size_append,aI,aG,List.length_cons,List.length_nil];omega))) rfl<|D.q (i:=17) rfl (fun _=>Wd.pk [] [] rfl) rfl (q.cat rfl rfl (by (simp only [ByteArray.size_append,aI,aG,List.length_cons,List.length_nil];omega))) rfl<|D.q (i:=18) rfl (fun _=>Wd.pk [] [] rfl) rfl (q.as rfl) rfl<|D.done<|R.rv rfl Tryz.results182 rfl (rS (by rfl))
   refine Do.s (s.bs (l:=([(UInt8.ofNat sx.size),(UInt8.ofNat (sx.size / 256))]:List UInt8)) aR eA O O O O O (cr (dG (by omega)) (cr (dG (by omega)) fV)) O) (fun _=>(aD [] [] O)) O fun b9=>?_
   refine D.two (i:=2) (j:=14) O O ?_ ?_
   .
    refine Do.s (s.c (Qt.a (q.kf (bE 1 O) O aR Tryz.underlying5 Tryz.underlying9)) O) (fun _=>(aD [] [] O)) O fun _=>?_
    refine D.q (i:=5) O (aD [] [] O) O (q.cat O O (by (simp only [ByteArray.size_append,aI,aG,List.length_cons,List.length_nil];omega))) O<|D.one (i:=14) O<|Do.s (s.c (Qt.a (q.kf (bE 0 O) O aR Tryz.underlying5 Tryz.underlying9)) O) (fun _=>(aD [] [] O)) O fun _=>?_
    exact D.q (i:=15) rfl (fun _=>Wd.pk [] [] rfl) rfl (q.cat rfl rfl (by (simp only [ByteArray.size_append,aI,aG,List.length_cons,List.length_nil];omega))) rfl<|D.q (i:=17) rfl (fun _=>Wd.pk [] [] rfl) rfl (q.cat rfl rfl (by (simp only [ByteArray.size_append,aI,aG,List.length_cons,List.length_nil];omega))) rfl<|D.q (i:=18) rfl (fun _=>Wd.pk [] [] rfl) rfl (q.as rfl) rfl<|D.done<|R.rv rfl Tryz.results182 rfl (rS (by rfl))
   refine Do.s (s.c (Qt.a (q.kf (bE 0 O) O aR Tryz.underlying5 Tryz.underlying9)) O) (fun _=>(aD [] [] O)) O fun _=>?_
   refine D.one (i:=2) O<|Do.s (s.c (Qt.a (q.kf (bE 1 O) O aR Tryz.underlying5 Tryz.underlying9)) O) (fun _=>(aD [] [] O)) O fun _=>?_
   exact D.q (i:=5) rfl (fun _=>Wd.pk [] [] rfl) rfl (q.cat rfl rfl (by (simp only [ByteArray.size_append,aI,aG,List.length_cons,List.length_nil];omega))) rfl<|D.q (i:=15) rfl (fun _=>Wd.pk [] [] rfl) rfl (q.cat rfl rfl (by (simp only [ByteArray.size_append,aI,aG,List.length_cons,List.length_nil];omega))) rfl<|D.q (i:=17) rfl (fun _=>Wd.pk [] [] rfl) rfl (q.cat rfl rfl (by (simp only [ByteArray.size_append,aI,aG,List.length_cons,List.length_nil];omega))) rfl<|D.q (i:=18) rfl (fun _=>Wd.pk [] [] rfl) rfl (q.as rfl) rfl<|D.done<|R.rv rfl Tryz.results182 rfl (rS (by rfl))
  refine Do.s (s.bs (l:=([(UInt8.ofNat sx.size),(UInt8.ofNat (sx.size / 256))]:List UInt8)) aR eA O O O O O (cr (dG (by omega)) (cr (dG (by omega)) fV)) O) (fun _=>(aD [] [] O)) O fun b10=>?_
  refine D.two (i:=1) (j:=14) O O ?_ ?_
  .
   refine Do.s (s.bs (l:=([(u8 k)]:List UInt8)) aR eA O O O O O (cr (gA (by omega)) fV) O) (fun _=>(aD [] [] O)) O fun b11=>?_
   refine D.two (i:=2) (j:=14) O O ?_ ?_
   .
    refine Do.s (s.c (Qt.a (q.kf (bE 0 O) O aR Tryz.underlying5 Tryz.underlying9)) O) (fun _=>(aD [] [] O)) O fun _=>?_
    refine D.q (i:=5) O (aD [] [] O) O (q.cat O O (by (simp only [ByteArray.size_append,aI,aG,List.length_cons,List.length_nil];omega))) O<|D.one (i:=14) O<|Do.s (s.c (Qt.a (q.kf (bE 1 O) O aR Tryz.underlying5 Tryz.underlying9)) O) (fun _=>(aD [] [] O)) O fun _=>?_
    exact D.q (i:=15) rfl (fun _=>Wd.pk [] [] rfl) rfl (q.cat rfl rfl (by (simp only [ByteArray.size_append,aI,aG,List.length_cons,List.length_nil];omega))) rfl<|D.q (i:=17) rfl (fun _=>Wd.pk [] [] rfl) rfl (q.cat rfl rfl (by (simp only [ByteArray.size_append,aI,aG,List.length_cons,List.length_nil];omega))) rfl<|D.q (i:=18) rfl (fun _=>Wd.pk [] [] rfl) rfl (q.as rfl) rfl<|D.done<|R.rv rfl Tryz.results182 rfl (rS (by rfl))
   refine Do.s (s.c (Qt.a (q.kf (bE 1 O) O aR Tryz.underlying5 Tryz.underlying9)) O) (fun _=>(aD [] [] O)) O fun _=>?_
   refine D.one (i:=2) O<|Do.s (s.c (Qt.a (q.kf (bE 0 O) O aR Tryz.underlying5 Tryz.underlying9)) O) (fun _=>(aD [] [] O)) O fun _=>?_
   exact D.q (i:=5) rfl (fun _=>Wd.pk [] [] rfl) rfl (q.cat rfl rfl (by (simp only [ByteArray.size_append,aI,aG,List.length_cons,List.length_nil];omega))) rfl<|D.q (i:=15) rfl (fun _=>Wd.pk [] [] rfl) rfl (q.cat rfl rfl (by (simp only [ByteArray.size_append,aI,aG,List.length_cons,List.length_nil];omega))) rfl<|D.q (i:=17) rfl (fun _=>Wd.pk [] [] rfl) rfl (q.cat rfl rfl (by (simp only [ByteArray.size_append,aI,aG,List.length_cons,List.length_nil];omega))) rfl<|D.q (i:=18) rfl (fun _=>Wd.pk [] [] rfl) rfl (q.as rfl) rfl<|D.done<|R.rv rfl Tryz.results182 rfl (rS (by rfl))
  refine Do.s (s.c (Qt.a (q.kf (bE 0 O) O aR Tryz.underlying5 Tryz.underlying9)) O) (fun _=>(aD [] [] O)) O fun _=>?_
  refine D.one (i:=1) O<|Do.s (s.bs (l:=([(u8 k)]:List UInt8)) aR eA O O O O O (cr (gA (by omega)) fV) O) (fun _=>(aD [] [] O)) O fun b12=>?_
  refine D.one (i:=2) O<|Do.s (s.c (Qt.a (q.kf (bE 0 O) O aR Tryz.underlying5 Tryz.underlying9)) O) (fun _=>(aD [] [] O)) O fun _=>?_
  exact D.q (i:=5) rfl (fun _=>Wd.pk [] [] rfl) rfl (q.cat rfl rfl (by (simp only [ByteArray.size_append,aI,aG,List.length_cons,List.length_nil];omega))) rfl<|D.q (i:=15) rfl (fun _=>Wd.pk [] [] rfl) rfl (q.cat rfl rfl (by (simp only [ByteArray.size_append,aI,aG,List.length_cons,List.length_nil];omega))) rfl<|D.q (i:=17) rfl (fun _=>Wd.pk [] [] rfl) rfl (q.cat rfl rfl (by (simp only [ByteArray.size_append,aI,aG,List.length_cons,List.length_nil];omega))) rfl<|D.q (i:=18) rfl (fun _=>Wd.pk [] [] rfl) rfl (q.as rfl) rfl<|D.done<|R.rv rfl Tryz.results182 rfl (rS (by rfl))
 refine Do.s (s.bs (l:=([(UInt8.ofNat sx.size),(UInt8.ofNat (sx.size / 256))]:List UInt8)) aR eA O O O O O (cr (dG (by omega)) (cr (dG (by omega)) fV)) O) (fun _=>(aD [] [] O)) O fun b13=>?_
 refine D.three (i:=1) (j:=4) (m:=14) O O O ?_ ?_ ?_
 .
  refine Do.s (s.bs (l:=([(u8 k)]:List UInt8)) aR eA O O O O O (cr (gA (by omega)) fV) O) (fun _=>(aD [] [] O)) O fun b14=>?_
  refine D.three (i:=2) (j:=4) (m:=14) O O O ?_ ?_ ?_
  .
   refine Do.s (s.c (Qt.a (q.kf (bE 0 O) O aR Tryz.underlying5 Tryz.underlying9)) O) (fun _=>(aD [] [] O)) O fun _=>?_
   refine D.two (i:=4) (j:=14) O O ?_ ?_
   .
    refine Do.s (s.c (q.call fA O O (fun w hw=>(dt n w (by omega)))) O) (fun _=>(aD [] [] O)) O fun _=>?_
    refine D.q (i:=5) O (aD [] [] O) O (q.cat O O (by (simp only [ByteArray.size_append,aI,aG,List.length_cons,List.length_nil];omega))) O<|D.one (i:=14) O<|Do.s (s.c (Qt.a (q.kf (bE 1 O) O aR Tryz.underlying5 Tryz.underlying9)) O) (fun _=>(aD [] [] O)) O fun _=>?_
    exact D.q (i:=15) rfl (fun _=>Wd.pk [] [] rfl) rfl (q.cat rfl rfl (by (simp only [ByteArray.size_append,aI,aG,List.length_cons,List.length_nil];omega))) rfl<|D.q (i:=17) rfl (fun _=>Wd.pk [] [] rfl) rfl (q.cat rfl rfl (by (simp only [ByteArray.size_append,aI,aG,List.length_cons,List.length_nil];omega))) rfl<|D.q (i:=18) rfl (fun _=>Wd.pk [] [] rfl) rfl (q.as rfl) rfl<|D.done<|R.rv rfl Tryz.results182 rfl (rS (by rfl))
   refine Do.s (s.c (Qt.a (q.kf (bE 1 O) O aR Tryz.underlying5 Tryz.underlying9)) O) (fun _=>(aD [] [] O)) O fun _=>?_
   refine D.one (i:=4) O<|Do.s (s.c (q.call fA O O (fun w hw=>(dt n w (by omega)))) O) (fun _=>(aD [] [] O)) O fun _=>?_
   exact D.q (i:=5) rfl (fun _=>Wd.pk [] [] rfl) rfl (q.cat rfl rfl (by (simp only [ByteArray.size_append,aI,aG,List.length_cons,List.length_nil];omega))) rfl<|D.q (i:=15) rfl (fun _=>Wd.pk [] [] rfl) rfl (q.cat rfl rfl (by (simp only [ByteArray.size_append,aI,aG,List.length_cons,List.length_nil];omega))) rfl<|D.q (i:=17) rfl (fun _=>Wd.pk [] [] rfl) rfl (q.cat rfl rfl (by (simp only [ByteArray.size_append,aI,aG,List.length_cons,List.length_nil];omega))) rfl<|D.q (i:=18) rfl (fun _=>Wd.pk [] [] rfl) rfl (q.as rfl) rfl<|D.done<|R.rv rfl Tryz.results182 rfl (rS (by rfl))
  .
   refine Do.s (s.c (q.call fA O O (fun w hw=>(dt n w (by omega)))) O) (fun _=>(aD [] [] O)) O fun _=>?_
   refine D.two (i:=2) (j:=14) O O ?_ ?_
   .
    refine Do.s (s.c (Qt.a (q.kf (bE 0 O) O aR Tryz.underlying5 Tryz.underlying9)) O) (fun _=>(aD [] [] O)) O fun _=>?_
    refine D.q (i:=5) O (aD [] [] O) O (q.cat O O (by (simp only [ByteArray.size_append,aI,aG,List.length_cons,List.length_nil];omega))) O<|D.one (i:=14) O<|Do.s (s.c (Qt.a (q.kf (bE 1 O) O aR Tryz.underlying5 Tryz.underlying9)) O) (fun _=>(aD [] [] O)) O fun _=>?_
    exact D.q (i:=15) rfl (fun _=>Wd.pk [] [] rfl) rfl (q.cat rfl rfl (by (simp only [ByteArray.size_append,aI,aG,List.length_cons,List.length_nil];omega))) rfl<|D.q (i:=17) rfl (fun _=>Wd.pk [] [] rfl) rfl (q.cat rfl rfl (by (simp only [ByteArray.size_append,aI,aG,List.length_cons,List.length_nil];omega))) rfl<|D.q (i:=18) rfl (fun _=>Wd.pk [] [] rfl) rfl (q.as rfl) rfl<|D.done<|R.rv rfl Tryz.results182 rfl (rS (by rfl))
   refine Do.s (s.c (Qt.a (q.kf (bE 1 O) O aR Tryz.underlying5 Tryz.underlying9)) O) (fun _=>(aD [] [] O)) O fun _=>?_
   refine D.one (i:=2) O<|Do.s (s.c (Qt.a (q.kf (bE 0 O) O aR Tryz.underlying5 Tryz.underlying9)) O) (fun _=>(aD [] [] O)) O fun _=>?_
   exact D.q (i:=5) rfl (fun _=>Wd.pk [] [] rfl) rfl (q.cat rfl rfl (by (simp only [ByteArray.size_append,aI,aG,List.length_cons,List.length_nil];omega))) rfl<|D.q (i:=15) rfl (fun _=>Wd.pk [] [] rfl) rfl (q.cat rfl rfl (by (simp only [ByteArray.size_append,aI,aG,List.length_cons,List.length_nil];omega))) rfl<|D.q (i:=17) rfl (fun _=>Wd.pk [] [] rfl) rfl (q.cat rfl rfl (by (simp only [ByteArray.size_append,aI,aG,List.length_cons,List.length_nil];omega))) rfl<|D.q (i:=18) rfl (fun _=>Wd.pk [] [] rfl) rfl (q.as rfl) rfl<|D.done<|R.rv rfl Tryz.results182 rfl (rS (by rfl))
  refine Do.s (s.c (Qt.a (q.kf (bE 1 O) O aR Tryz.underlying5 Tryz.underlying9)) O) (fun _=>(aD [] [] O)) O fun _=>?_
  refine D.two (i:=2) (j:=4) O O ?_ ?_
  .
   refine Do.s (s.c (Qt.a (q.kf (bE 0 O) O aR Tryz.underlying5 Tryz.underlying9)) O) (fun _=>(aD [] [] O)) O fun _=>?_
   refine D.one (i:=4) O<|Do.s (s.c (q.call fA O O (fun w hw=>(dt n w (by omega)))) O) (fun _=>(aD [] [] O)) O fun _=>?_
   exact D.q (i:=5) rfl (fun _=>Wd.pk [] [] rfl) rfl (q.cat rfl rfl (by (simp only [ByteArray.size_append,aI,aG,List.length_cons,List.length_nil];omega))) rfl<|D.q (i:=15) rfl (fun _=>Wd.pk [] [] rfl) rfl (q.cat rfl rfl (by (simp only [ByteArray.size_append,aI,aG,List.length_cons,List.length_nil];omega))) rfl<|D.q (i:=17) rfl (fun _=>Wd.pk [] [] rfl) rfl (q.cat rfl rfl (by (simp only [ByteArray.size_append,aI,aG,List.length_cons,List.length_nil];omega))) rfl<|D.q (i:=18) rfl (fun _=>Wd.pk [] [] rfl) rfl (q.as rfl) rfl<|D.done<|R.rv rfl Tryz.results182 rfl (rS (by rfl))
  refine Do.s (s.c (q.call fA O O (fun w hw=>(dt n w (by omega)))) O) (fun _=>(aD [] [] O)) O fun _=>?_
  refine D.one (i:=2) O<|Do.s (s.c (Qt.a (q.kf (bE 0 O) O aR Tryz.underlying5 Tryz.underlying9)) O) (fun _=>(aD [] [] O)) O fun _=>?_
  exact D.q (i:=5) rfl (fun _=>Wd.pk [] [] rfl) rfl (q.cat rfl rfl (by (simp only [ByteArray.size_append,aI,aG,List.length_cons,List.length_nil];omega))) rfl<|D.q (i:=15) rfl (fun _=>Wd.pk [] [] rfl) rfl (q.cat rfl rfl (by (simp only [ByteArray.size_append,aI,aG,List.length_cons,List.length_nil];omega))) rfl<|D.q (i:=17) rfl (fun _=>Wd.pk [] [] rfl) rfl (q.cat rfl rfl (by (simp only [ByteArray.size_append,aI,aG,List.length_cons,List.length_nil];omega))) rfl<|D.q (i:=18) rfl (fun _=>Wd.pk [] [] rfl) rfl (q.as rfl) rfl<|D.done<|R.rv rfl Tryz.results182 rfl (rS (by rfl))
 .
  refine Do.s (s.c (q.call fA O O (fun w hw=>(dt n w (by omega)))) O) (fun _=>(aD [] [] O)) O fun _=>?_
  refine D.two (i:=1) (j:=14) O O ?_ ?_
  .
   refine Do.s (s.bs (l:=([(u8 k)]:List UInt8)) aR eA O O O O O (cr (gA (by omega)) fV) O) (fun _=>(aD [] [] O)) O fun b15=>?_
   refine D.two (i:=2) (j:=14) O O ?_ ?_
   .
    refine Do.s (s.c (Qt.a (q.kf (bE 0 O) O aR Tryz.underlying5 Tryz.underlying9)) O) (fun _=>(aD [] [] O)) O fun _=>?_
    refine D.q (i:=5) O (aD [] [] O) O (q.cat O O (by (simp only [ByteArray.size_append,aI,aG,List.length_cons,List.length_nil];omega))) O<|D.one (i:=14) O<|Do.s (s.c (Qt.a (q.kf (bE 1 O) O aR Tryz.underlying5 Tryz.underlying9)) O) (fun _=>(aD [] [] O)) O fun _=>?_
    exact D.q (i:=15) rfl (fun _=>Wd.pk [] [] rfl) rfl (q.cat rfl rfl (by (simp only [ByteArray.size_append,aI,aG,List.length_cons,List.length_nil];omega))) rfl<|D.q (i:=17) rfl (fun _=>Wd.pk [] [] rfl) rfl (q.cat rfl rfl (by (simp only [ByteArray.size_append,aI,aG,List.length_cons,List.length_nil];omega))) rfl<|D.q (i:=18) rfl (fun _=>Wd.pk [] [] rfl) rfl (q.as rfl) rfl<|D.done<|R.rv rfl Tryz.results182 rfl (rS (by rfl))
   refine Do.s (s.c (Qt.a (q.kf (bE 1 O) O aR Tryz.underlying5 Tryz.underlying9)) O) (fun _=>(aD [] [] O)) O fun _=>?_
   refine D.one (i:=2) O<|Do.s (s.c (Qt.a (q.kf (bE 0 O) O aR Tryz.underlying5 Tryz.underlying9)) O) (fun _=>(aD [] [] O)) O fun _=>?_
   exact D.q (i:=5) rfl (fun _=>Wd.pk [] [] rfl) rfl (q.cat rfl rfl (by (simp only [ByteArray.size_append,aI,aG,List.length_cons,List.length_nil];omega))) rfl<|D.q (i:=15) rfl (fun _=>Wd.pk [] [] rfl) rfl (q.cat rfl rfl (by (simp only [ByteArray.size_append,aI,aG,List.length_cons,List.length_nil];omega))) rfl<|D.q (i:=17) rfl (fun _=>Wd.pk [] [] rfl) rfl (q.cat rfl rfl (by (simp only [ByteArray.size_append,aI,aG,List.length_cons,List.length_nil];omega))) rfl<|D.q (i:=18) rfl (fun _=>Wd.pk [] [] rfl) rfl (q.as rfl) rfl<|D.done<|R.rv rfl Tryz.results182 rfl (rS (by rfl))
  refine Do.s (s.c (Qt.a (q.kf (bE 0 O) O aR Tryz.underlying5 Tryz.underlying9)) O) (fun _=>(aD [] [] O)) O fun _=>?_
  refine D.one (i:=1) O<|Do.s (s.bs (l:=([(u8 k)]:List UInt8)) aR eA O O O O O (cr (gA (by omega)) fV) O) (fun _=>(aD [] [] O)) O fun b16=>?_
  refine D.one (i:=2) O<|Do.s (s.c (Qt.a (q.kf (bE 0 O) O aR Tryz.underlying5 Tryz.underlying9)) O) (fun _=>(aD [] [] O)) O fun _=>?_
  exact D.q (i:=5) rfl (fun _=>Wd.pk [] [] rfl) rfl (q.cat rfl rfl (by (simp only [ByteArray.size_append,aI,aG,List.length_cons,List.length_nil];omega))) rfl<|D.q (i:=15) rfl (fun _=>Wd.pk [] [] rfl) rfl (q.cat rfl rfl (by (simp only [ByteArray.size_append,aI,aG,List.length_cons,List.length_nil];omega))) rfl<|D.q (i:=17) rfl (fun _=>Wd.pk [] [] rfl) rfl (q.cat rfl rfl (by (simp only [ByteArray.size_append,aI,aG,List.length_cons,List.length_nil];omega))) rfl<|D.q (i:=18) rfl (fun _=>Wd.pk [] [] rfl) rfl (q.as rfl) rfl<|D.done<|R.rv rfl Tryz.results182 rfl (rS (by rfl))
 refine Do.s (s.c (Qt.a (q.kf (bE 0 O) O aR Tryz.underlying5 Tryz.underlying9)) O) (fun _=>(aD [] [] O)) O fun _=>?_
 refine D.two (i:=1) (j:=4) O O ?_ ?_
 .
  refine Do.s (s.bs (l:=([(u8 k)]:List UInt8)) aR eA O O O O O (cr (gA (by omega)) fV) O) (fun _=>(aD [] [] O)) O fun b17=>?_
  refine D.two (i:=2) (j:=4) O O ?_ ?_
  .
   refine Do.s (s.c (Qt.a (q.kf (bE 0 O) O aR Tryz.underlying5 Tryz.underlying9)) O) (fun _=>(aD [] [] O)) O fun _=>?_
   refine D.one (i:=4) O<|Do.s (s.c (q.call fA O O (fun w hw=>(dt n w (by omega)))) O) (fun _=>(aD [] [] O)) O fun _=>?_
   exact D.q (i:=5) rfl (fun _=>Wd.pk [] [] rfl) rfl (q.cat rfl rfl (by (simp only [ByteArray.size_append,aI,aG,List.length_cons,List.length_nil];omega))) rfl<|D.q (i:=15) rfl (fun _=>Wd.pk [] [] rfl) rfl (q.cat rfl rfl (by (simp only [ByteArray.size_append,aI,aG,List.length_cons,List.length_nil];omega))) rfl<|D.q (i:=17) rfl (fun _=>Wd.pk [] [] rfl) rfl (q.cat rfl rfl (by (simp only [ByteArray.size_append,aI,aG,List.length_cons,List.length_nil];omega))) rfl<|D.q (i:=18) rfl (fun _=>Wd.pk [] [] rfl) rfl (q.as rfl) rfl<|D.done<|R.rv rfl Tryz.results182 rfl (rS (by rfl))
  refine Do.s (s.c (q.call fA O O (fun w hw=>(dt n w (by omega)))) O) (fun _=>(aD [] [] O)) O fun _=>?_
  refine D.one (i:=2) O<|Do.s (s.c (Qt.a (q.kf (bE 0 O) O aR Tryz.underlying5 Tryz.underlying9)) O) (fun _=>(aD [] [] O)) O fun _=>?_
  exact D.q (i:=5) rfl (fun _=>Wd.pk [] [] rfl) rfl (q.cat rfl rfl (by (simp only [ByteArray.size_append,aI,aG,List.length_cons,List.length_nil];omega))) rfl<|D.q (i:=15) rfl (fun _=>Wd.pk [] [] rfl) rfl (q.cat rfl rfl (by (simp only [ByteArray.size_append,aI,aG,List.length_cons,List.length_nil];omega))) rfl<|D.q (i:=17) rfl (fun _=>Wd.pk [] [] rfl) rfl (q.cat rfl rfl (by (simp only [ByteArray.size_append,aI,aG,List.length_cons,List.length_nil];omega))) rfl<|D.q (i:=18) rfl (fun _=>Wd.pk [] [] rfl) rfl (q.as rfl) rfl<|D.done<|R.rv rfl Tryz.results182 rfl (rS (by rfl))
 refine Do.s (s.c (q.call fA O O (fun w hw=>(dt n w (by omega)))) O) (fun _=>(aD [] [] O)) O fun _=>?_
 refine D.one (i:=1) O<|Do.s (s.bs (l:=([(u8 k)]:List UInt8)) aR eA O O O O O (cr (gA (by omega)) fV) O) (fun _=>(aD [] [] O)) O fun b18=>?_
 refine D.one (i:=2) O<|Do.s (s.c (Qt.a (q.kf (bE 0 O) O aR Tryz.underlying5 Tryz.underlying9)) O) (fun _=>(aD [] [] O)) O fun _=>?_
 exact D.q (i:=5) rfl (fun _=>Wd.pk [] [] rfl) rfl (q.cat rfl rfl (by (simp only [ByteArray.size_append,aI,aG,List.length_cons,List.length_nil];omega))) rfl<|D.q (i:=15) rfl (fun _=>Wd.pk [] [] rfl) rfl (q.cat rfl rfl (by (simp only [ByteArray.size_append,aI,aG,List.length_cons,List.length_nil];omega))) rfl<|D.q (i:=17) rfl (fun _=>Wd.pk [] [] rfl) rfl (q.cat rfl rfl (by (simp only [ByteArray.size_append,aI,aG,List.length_cons,List.length_nil];omega))) rfl<|D.q (i:=18) rfl (fun _=>Wd.pk [] [] rfl) rfl (q.as rfl) rfl<|D.done<|R.rv rfl Tryz.results182 rfl (rS (by rfl))
theorem w9 (bB:Nat)(xa:Nat)(lg:Lg)(w:World)(C5:(ag.box bB [.pointer (some ⟨xa,0,none⟩),iV lg.From,iV lg.Many,iV lg.First,iV lg.Next] 198).ok w)(hb:0<=lg.Many/\lg.Many<=1000000000/\0<=lg.Next/\lg.Next<=1000000000):Calls Tryz.prog 134 #[.pointer (some ⟨bB,0,none⟩)] w fun e w'=>e = .returned (iV (lg.Many-lg.Next))/\Ext w w':=by
 exact R.enter [] [(0,.pointer (some ⟨bB,0,none⟩))] Tryz.func134 rfl rfl rfl rfl<|R.nG (r:=ag.box bB [.pointer (some ⟨xa,0,none⟩),iV lg.From,iV lg.Many,iV lg.First,iV lg.Next] 198) C5 (jO C5)<|R.reg rfl<|R.u 1 rfl<|R.nil<|R.fa rfl mixed (by kernel_rfl)<|Q.u 1 rfl<|Q.q (q.bQ rfl) rfl<|Q.q (q.aP rfl rP rfl) rfl<|Q.q (q.yu 0 rfl rfl au rfl) rfl<|Q.u 1 rfl<|Q.q (q.bQ rfl) rfl<|Q.q (q.aP rfl jV rfl) rfl<|Q.q (q.yu 0 rfl rfl au rfl) rfl<|Q.q (q.lU (r:=lg.Many-lg.Next) rfl rfl) rfl<|Q.u 1 rfl<|Q.nil<|R.rv rfl Tryz.results134 rfl (rI (by rfl))
theorem C6 (bB:Nat)(xa:Nat)(lg:Lg)(w:World)(C5:(ag.box bB [.pointer (some ⟨xa,0,none⟩),iV lg.From,iV lg.Many,iV lg.First,iV lg.Next] 198).ok w)(hb:0<=lg.Many/\lg.Many<=1000000000/\0<=lg.First/\lg.First<=1000000000):Calls Tryz.prog 77 #[.pointer (some ⟨bB,0,none⟩)] w fun e w'=>e = .returned (iV (lg.First+lg.Many))/\Ext w w':=by
 exact R.enter [] [(0,.pointer (some ⟨bB,0,none⟩))] Tryz.func77 rfl rfl rfl rfl<|R.nG (r:=ag.box bB [.pointer (some ⟨xa,0,none⟩),iV lg.From,iV lg.Many,iV lg.First,iV lg.Next] 198) C5 (jO C5)<|R.reg rfl<|R.u 1 rfl<|R.nil<|R.fa rfl mixed (by kernel_rfl)<|Q.u 1 rfl<|Q.q (q.bQ rfl) rfl<|Q.q (q.aP rfl jU rfl) rfl<|Q.q (q.yu 0 rfl rfl au rfl) rfl<|Q.u 1 rfl<|Q.q (q.bQ rfl) rfl<|Q.q (q.aP rfl rP rfl) rfl<|Q.q (q.yu 0 rfl rfl au rfl) rfl<|Q.q (q.bC (r:=lg.First+lg.Many) rfl rfl) rfl<|Q.u 1 rfl<|Q.nil<|R.rv rfl Tryz.results77 rfl (rI (by rfl))
theorem Ka (bB:Nat)(lg:Lg)(i:Nat)(aH:Nat)(ay aE av:Value)(dk:ct)(w:World)(C5:(ag.box bB [.pointer (some ⟨aH,0,none⟩),iV lg.From,iV lg.Many,iV lg.First,iV lg.Next] 198).ok w)(wM:(ag.box aH [ay,aE,av,iV dk.Fuse,.bool dk.Down] 112).ok w)(jW:Sl w ay (dk.Kept:List ByteArray))(kR:Sl w aE (dk.Now:List ByteArray))(jX:Sl w av (dk.Wait:List Turn))(hb : -1000000000<=lg.From/\lg.From<=1000000000/\0<=lg.First/\lg.First<=8000000000000000000/\i<=1000000000)(hr:(cd dk (lg.From+(i:Int))).2=0)(hs:(cd dk (lg.From+(i:Int))).1.size=48):Calls Tryz.prog 141 #[.pointer (some ⟨bB,0,none⟩),iV (i:Int)] w fun e w'=>e = .returned (.tuple #[.int .u8 (pb (cd dk (lg.From+(i:Int))).1 (lg.First+(i:Int)):Int),.string (ku (cd dk (lg.From+(i:Int))).1 (lg.First+(i:Int))),.bool (jc (cd dk (lg.From+(i:Int))).1 (lg.First+(i:Int)))])/\Ext w w':=by
 refine R.enter [] [(0,.pointer (some ⟨bB,0,none⟩)),(1,iV (i:Int))] Tryz.func141 O O O O<|R.po jW<|R.po kR<|R.po jX<|R.nG (r:=ag.box bB [.pointer (some ⟨aH,0,none⟩),iV lg.From,iV lg.Many,iV lg.First,iV lg.Next] 198) C5 (jO C5)<|R.nG (r:=ag.box aH [ay,aE,av,iV dk.Fuse,.bool dk.Down] 112) wM (jO wM)<|R.reg O<|R.u 3 O<|R.nil<|R.fa O mixed (by kernel_rfl)<|Q.u 1 O<|Q.q (q.bQ O) O<|Q.q (q.aP O kO O) O<|Q.q (q.yu 1 O O jm O) O<|Q.u 1 O<|Q.q (q.bQ O) O<|Q.q (q.aP O oy O) O<|Q.q (q.yu 1 O O au O) O<|Q.u 1 O<|Q.q (q.bC (r:=lg.From+(i:Int)) O O) O<|Q.c (q.call Jq O O (fun w hw=>(tT aH ay aE av dk (lg.From+(i:Int)) w (hw.f 0 O) (hw.bN 4 O) (hw.bN 3 O) (hw.bN 2 O) ))) O<|Q.u 5 O<|Q.nil ?_
 by_cases h1:((cd dk (lg.From+(i:Int))).1.extract 1 5)=bY (lg.First+(i:Int))
 .
  obtain ⟨y1,hy1⟩:∃z,(cd dk (lg.From+(i:Int))).1.data[0]? = some z:=⟨_,Array.getElem?_eq_getElem (show 0<(cd dk (lg.From+(i:Int))).1.size from by omega)⟩
  have Sw:=y1.toNat_lt
  by_cases h2:y1.toNat=111
  .
   refine R.fa O mixed (by kernel_rfl)<|Q.u 1 O<|Q.q (q.dq O O Tryz.underlying38) O<|Q.u 2 O<|Q.qg O (q.Cn (i:=1) (j:=5) O O O Tryz.underlying9 O O (by omega) (by omega)) O<|Q.u 1 O<|Q.qg O (q.bQ O) O<|Q.qg O (q.aP O jU O) O<|Q.qg O (q.yu 1 O O au O) O<|Q.u 1 O<|Q.qg O (q.bC (r:=lg.First+(i:Int)) O O) O<|Q.cg O (q.call fA O O (fun w hw=>(dt (lg.First+(i:Int)) w (by omega)))) O<|Q.qg O (q.uD O O h1) O<|Q.u 3 O<|Q.qg O (q.iK (i:=0) O O Tryz.underlying9 O hy1) O<|Q.qg O (q.nB O O) O<|Q.u 6 O<|Q.nil<|R.aC O O ?_
   obtain ⟨y2,hy2⟩:∃z,(cd dk (lg.From+(i:Int))).1.data[5]? = some z:=⟨_,Array.getElem?_eq_getElem (show 5<(cd dk (lg.From+(i:Int))).1.size from by omega)⟩
   have Sx:=y2.toNat_lt
   obtain ⟨y3,hy3⟩:∃z,(cd dk (lg.From+(i:Int))).1.data[6]? = some z:=⟨_,Array.getElem?_eq_getElem (show 6<(cd dk (lg.From+(i:Int))).1.size from by omega)⟩
   have TQ:=y3.toNat_lt
   refine R.fa O mixed (by kernel_rfl)<|Q.u 1 O<|Q.q (q.iK (i:=5) O O Tryz.underlying9 O hy2) O<|Q.q (q.ni (r:=((y2.toNat:Nat):Int)) O (by rw [Tryz.underlying5];rfl) Tryz.underlying3 (wr (by omega))) O<|Q.u 1 O<|Q.q (q.iK (i:=6) O O Tryz.underlying9 O hy3) O<|Q.q (q.ni (r:=((y3.toNat:Nat):Int)) O (by rw [Tryz.underlying5];rfl) Tryz.underlying3 (wr (by omega))) O<|Q.q (q.vd (r:=((256*y3.toNat:Nat):Int)) O O) O<|Q.q (q.bC (r:=((y2.toNat+(256*y3.toNat):Nat):Int)) O O) O<|Q.u 1 O<|Q.nil<|R.reg O<|R.u 1 O<|?_
   by_cases h3:41<(y2.toNat+(256*y3.toNat))
   .
    exact R.q (q.eM O O) O<|R.nil<|R.az O O<|R.reg O<|R.u 3 O<|R.nil<|R.Q8 O Tryz.results141 O O O (Q9 (by (rw [(j1 (nV (by unfold cC;rw [aK hy2,aK hy3];omega))).1];rfl))) (rS (by (rw [(j1 (nV (by unfold cC;rw [aK hy2,aK hy3];omega))).2]))) (rB (by (exact (nV (by unfold cC;rw [aK hy2,aK hy3];omega)).symm)))
   exact R.q (q.ey O O) O<|R.nil<|R.aC O O<|R.fa O mixed (by kernel_rfl)<|Q.u 1 O<|Q.q (q.iK (i:=0) O O Tryz.underlying9 O hy1) O<|Q.u 2 O<|Q.q (q.bC (r:=((7+(y2.toNat+(256*y3.toNat)):Nat):Int)) O O) O<|Q.q (q.Cn (i:=7) (j:=(7+(y2.toNat+(256*y3.toNat)))) O O O Tryz.underlying9 O O (by omega) (by omega)) O<|Q.u 3 O<|Q.nil<|R.Q8 O Tryz.results141 O O O (Q9 (by (rw [(j2 (lC ‹_› (by rw [aK hy1];omega) (by unfold cC;rw [aK hy2,aK hy3];omega))).1,aK hy1]))) (rS (by (rw [(j2 (lC ‹_› (by rw [aK hy1];omega) (by unfold cC;rw [aK hy2,aK hy3];omega))).2];unfold ru cC;rw [aK hy2,aK hy3]))) (rB (by (exact (lC ‹_› (by rw [aK hy1];omega) (by unfold cC;rw [aK hy2,aK hy3];omega)).symm)))
  by_cases h4:y1.toNat=99
  .
   refine R.fa O mixed (by kernel_rfl)<|Q.u 1 O<|Q.q (q.dq O O Tryz.underlying38) O<|Q.u 2 O<|Q.qg O (q.Cn (i:=1) (j:=5) O O O Tryz.underlying9 O O (by omega) (by omega)) O<|Q.u 1 O<|Q.qg O (q.bQ O) O<|Q.qg O (q.aP O jU O) O<|Q.qg O (q.yu 1 O O au O) O<|Q.u 1 O<|Q.qg O (q.bC (r:=lg.First+(i:Int)) O O) O<|Q.cg O (q.call fA O O (fun w hw=>(dt (lg.First+(i:Int)) w (by omega)))) O<|Q.qg O (q.uD O O h1) O<|Q.u 3 O<|Q.qg O (q.iK (i:=0) O O Tryz.underlying9 O hy1) O<|Q.qg O (q.nA O O) O<|Q.u 2 O<|Q.qg O (q.iK (i:=0) O O Tryz.underlying9 O hy1) O<|Q.qg O (q.nB O O) O<|Q.u 2 O<|Q.nil<|R.aC O O ?_
   obtain ⟨y4,hy4⟩:∃z,(cd dk (lg.From+(i:Int))).1.data[5]? = some z:=⟨_,Array.getElem?_eq_getElem (show 5<(cd dk (lg.From+(i:Int))).1.size from by omega)⟩
   have UW:=y4.toNat_lt
   obtain ⟨y5,E0⟩:∃z,(cd dk (lg.From+(i:Int))).1.data[6]? = some z:=⟨_,Array.getElem?_eq_getElem (show 6<(cd dk (lg.From+(i:Int))).1.size from by omega)⟩
   have VN:=y5.toNat_lt
   refine R.fa O mixed (by kernel_rfl)<|Q.u 1 O<|Q.q (q.iK (i:=5) O O Tryz.underlying9 O hy4) O<|Q.q (q.ni (r:=((y4.toNat:Nat):Int)) O (by rw [Tryz.underlying5];rfl) Tryz.underlying3 (wr (by omega))) O<|Q.u 1 O<|Q.q (q.iK (i:=6) O O Tryz.underlying9 O E0) O<|Q.q (q.ni (r:=((y5.toNat:Nat):Int)) O (by rw [Tryz.underlying5];rfl) Tryz.underlying3 (wr (by omega))) O<|Q.q (q.vd (r:=((256*y5.toNat:Nat):Int)) O O) O<|Q.q (q.bC (r:=((y4.toNat+(256*y5.toNat):Nat):Int)) O O) O<|Q.u 1 O<|Q.nil<|R.reg O<|R.u 1 O<|?_
   by_cases h5:41<(y4.toNat+(256*y5.toNat))
   .
    exact R.q (q.eM O O) O<|R.nil<|R.az O O<|R.reg O<|R.u 3 O<|R.nil<|R.Q8 O Tryz.results141 O O O (Q9 (by (rw [(j1 (nV (by unfold cC;rw [aK hy4,aK E0];omega))).1];rfl))) (rS (by (rw [(j1 (nV (by unfold cC;rw [aK hy4,aK E0];omega))).2]))) (rB (by (exact (nV (by unfold cC;rw [aK hy4,aK E0];omega)).symm)))
   exact R.q (q.ey O O) O<|R.nil<|R.aC O O<|R.fa O mixed (by kernel_rfl)<|Q.u 1 O<|Q.q (q.iK (i:=0) O O Tryz.underlying9 O hy1) O<|Q.u 2 O<|Q.q (q.bC (r:=((7+(y4.toNat+(256*y5.toNat)):Nat):Int)) O O) O<|Q.q (q.Cn (i:=7) (j:=(7+(y4.toNat+(256*y5.toNat)))) O O O Tryz.underlying9 O O (by omega) (by omega)) O<|Q.u 3 O<|Q.nil<|R.Q8 O Tryz.results141 O O O (Q9 (by (rw [(j2 (lC ‹_› (by rw [aK hy1];omega) (by unfold cC;rw [aK hy4,aK E0];omega))).1,aK hy1]))) (rS (by (rw [(j2 (lC ‹_› (by rw [aK hy1];omega) (by unfold cC;rw [aK hy4,aK E0];omega))).2];unfold ru cC;rw [aK hy4,aK E0]))) (rB (by (exact (lC ‹_› (by rw [aK hy1];omega) (by unfold cC;rw [aK hy4,aK E0];omega)).symm)))
  exact R.fa O mixed (by kernel_rfl)<|Q.u 1 O<|Q.q (q.dq O O Tryz.underlying38) O<|Q.u 2 O<|Q.qg O (q.Cn (i:=1) (j:=5) O O O Tryz.underlying9 O O (by omega) (by omega)) O<|Q.u 1 O<|Q.qg O (q.bQ O) O<|Q.qg O (q.aP O jU O) O<|Q.qg O (q.yu 1 O O au O) O<|Q.u 1 O<|Q.qg O (q.bC (r:=lg.First+(i:Int)) O O) O<|Q.cg O (q.call fA O O (fun w hw=>(dt (lg.First+(i:Int)) w (by omega)))) O<|Q.qg O (q.uD O O h1) O<|Q.u 3 O<|Q.qg O (q.iK (i:=0) O O Tryz.underlying9 O hy1) O<|Q.qg O (q.nA O O) O<|Q.u 2 O<|Q.qg O (q.iK (i:=0) O O Tryz.underlying9 O hy1) O<|Q.qg O (q.nA O O) O<|Q.u 2 O<|Q.nil<|R.az O O<|R.reg O<|R.u 3 O<|R.nil<|R.Q8 O Tryz.results141 O O O (Q9 (by (rw [(j1 (wX (by rw [aK hy1];omega) (by rw [aK hy1];omega))).1];rfl))) (rS (by (rw [(j1 (wX (by rw [aK hy1];omega) (by rw [aK hy1];omega))).2]))) (rB (by (exact (wX (by rw [aK hy1];omega) (by rw [aK hy1];omega)).symm)))
 exact R.fa O mixed (by kernel_rfl)<|Q.u 1 O<|Q.q (q.dq O O Tryz.underlying38) O<|Q.u 2 O<|Q.qg O (q.Cn (i:=1) (j:=5) O O O Tryz.underlying9 O O (by omega) (by omega)) O<|Q.u 1 O<|Q.qg O (q.bQ O) O<|Q.qg O (q.aP O jU O) O<|Q.qg O (q.yu 1 O O au O) O<|Q.u 1 O<|Q.qg O (q.bC (r:=lg.First+(i:Int)) O O) O<|Q.cg O (q.call fA O O (fun w hw=>(dt (lg.First+(i:Int)) w (by omega)))) O<|Q.qg O (q.yW O O h1) O<|Q.u 11 O<|Q.nil<|R.az O O<|R.reg O<|R.u 3 O<|R.nil<|R.Q8 O Tryz.results141 O O O (Q9 (by (rw [(j1 (wW ‹_›)).1];rfl))) (rS (by (rw [(j1 (wW ‹_›)).2]))) (rB (by (exact (wW ‹_›).symm)))
theorem C8 (aH:Nat)(ay aE av:Value)(dk:ct)(gq:Int)(many:Int)(first:Int)(w:World)(own:List Nat)(H:HN w own [ag.box aH [ay,aE,av,iV dk.Fuse,.bool dk.Down] 112,ag.row 9 ay dk.Kept,ag.row 9 aE dk.Now,ag.row 114 av dk.Wait] [])(hb:0<=gq/\1<=many/\gq+many<=(dk.Now.length:Int)/\1<=first/\first<=4000000000000000000)(hd:dk.Down=false)(hD:fF dk.Now.length 90000 dk/\dk.Now.length<=100000):RC Tryz.prog 82 #[.pointer (some ⟨aH,0,none⟩),iV gq,iV many,iV first] H (fun z:Value×Value×Value×Nat×Value×List kr => .tuple #[.pointer (some ⟨z.2.2.2.1,0,none⟩),z.2.2.2.2.1,.nilIface]) (fun z=>[ag.box aH [z.1,z.2.1,z.2.2.1,iV dk.Fuse,.bool dk.Down] 112,ag.row 9 z.1 dk.Kept,ag.row 9 z.2.1 dk.Now,ag.row 114 z.2.2.1 dk.Wait,ag.box z.2.2.2.1 [.pointer (some ⟨aH,0,none⟩),iV (⟨gq,many,first,(fG dk gq (Int.toNat many) first:Int)⟩:Lg).From,iV (⟨gq,many,first,(fG dk gq (Int.toNat many) first:Int)⟩:Lg).Many,iV (⟨gq,many,first,(fG dk gq (Int.toNat many) first:Int)⟩:Lg).First,iV (⟨gq,many,first,(fG dk gq (Int.toNat many) first:Int)⟩:Lg).Next] 198]) (fun z=>[ag.ls z.2.2.2.2.1 z.2.2.2.2.2,ag.p6 (z.2.2.2.2.2:List kr) (lD dk gq (Int.toNat many) first)]):=by
 have dM:=H.cap 1 rfl;have dN:=H.cC 1 rfl
 have eU:=H.cap 2 rfl;have eV:=H.cC 2 rfl
 have dO:=H.cap 3 rfl;have dP:=H.cC 3 rfl
 obtain ⟨manyN,P1⟩:∃m:Nat,many=(m:Int):=⟨many.toNat,by omega⟩;subst P1
 refine R.bD [(0,.pointer (some ⟨aH,0,none⟩)),(1,iV gq),(2,iV (manyN:Int)),(3,iV first)] Tryz.func82 O O O O H<|R.reg O<|R.u 3 O<|R.nil<|R.reg O<|R.u 1 O<|R.q (q.cU O O) O<|R.u 2 O<|R.qg O (q.cU O O) O<|R.u 4 O<|R.cg O (q.call uG O O (fun w hw=>(gB aH ay aE av dk w (hw.b 0 O) (hw.row 1 O) (hw.row 2 O) (hw.row 3 O) ))) O<|R.qg O (q.ey O O) O<|R.u 4 O<|R.cg O (q.call uG O O (fun w hw=>(gB aH ay aE av dk w (hw.b 0 O) (hw.row 1 O) (hw.row 2 O) (hw.row 3 O) ))) O<|R.u 1 O<|R.qg O (q.lU (r:=(dk.Now.length:Int)-(manyN:Int)) O O) O<|R.qg O (q.ey O O) O<|R.u 3 O<|R.qg O (q.cU O O) O<|R.u 1 O<|R.nil<|R.aC O O<|R.reg O<|R.u 1 O<|R.c (q.call N8 O O (fun w hw=>(cv (congrArg Value.bool hd) (zn aH ay aE av dk w (hw.b 0 O) (hw.row 1 O) (hw.row 2 O) (hw.row 3 O) )))) O<|R.nil ?_
 refine R.aC O O<|R.reg O<|R.u 4 O<|R.q (q.build O2 O O) O<|R.s O (s.box O O O) fun b1=>?_
 refine R.u 1 O<|R.nil<|R.reg O<|R.u 1 O<|R.nil<|R.reg O<|R.u 1 O<|R.nil<|R.reg O<|R.u 2 O<|R.nil<|R.mp (fun _ hw=>hw.Sy)<|R.row0 (α:=kr) 34<|R.row0 (α:=Change) 117<|R.loop (fun g_:Nat×Nat×Value×(List kr)×Value×(List Change)=>[(11,.pointer (some ⟨b1,0,none⟩)),(12,g_.2.2.1),(13,g_.2.2.2.2.1),(54,iV (manyN:Int)),(55,iV (g_.1:Int))]) (fun g_=>[ag.row 117 g_.2.2.2.2.1 g_.2.2.2.2.2,ag.row 34 g_.2.2.1 g_.2.2.2.1,ag.box b1 [.pointer (some ⟨aH,0,none⟩),iV gq,iV (manyN:Int),iV first,iV (g_.2.1:Int)] 198,ag.box aH [ay,aE,av,iV dk.Fuse,.bool dk.Down] 112,ag.row 9 ay dk.Kept,ag.row 9 aE dk.Now,ag.row 114 av dk.Wait,ag.held w own]) (fun g_=>[ag.lN (g_.2.2.2.1:List kr),ag.lN ([]:List kr)]) (fun g_=>g_.1<=manyN/\iI ((p7 dk gq manyN).drop g_.1) (first+(g_.1:Int)) (g_.2.2.2.1.map kr.L) g_.2.2.2.2.2 g_.2.1 g_.1=scan (p7 dk gq manyN) first/\g_.2.2.2.2.2.length<=g_.1/\g_.2.2.2.1.length<=g_.1/\g_.2.1<=g_.1) (fun g_=>manyN-g_.1) (0,0,(nS),[],(nS),[]) O (by (try dsimp only);exact ⟨by omega,by show iI _ (first+0) _ _ _ _=_;rw [Int.add_zero];rfl,by simp,by simp,by simp⟩) (sF O) (iz fj [0,0] O) ?_
 rintro ⟨i,u,qo,ob,qd,dd⟩ ⟨hi,HS,hdl,hol,UX⟩
 dsimp only at *
 refine R.reg O<|?_
 by_cases h1:i<manyN
 .
  refine R.q (q.dD O O) O<|R.nil<|R.az O O<|R.reg O<|R.u 2 O<|R.nil ?_
  have hrd:=wZ hD.1 hd (i:=gq+(i:Int)) (by omega) (by omega);obtain ⟨hrd,hsz⟩:=hrd;have hlx:=EY (n:=first+(i:Int)) hsz
  refine R.reg O<|R.u 2 O<|R.c (q.call Pj O O (fun w hw=>(cv (show (.tuple #[.int .u8 (pb (cd dk ((⟨gq,(manyN:Int),first,(u:Int)⟩:Lg).From+(i:Int))).1 ((⟨gq,(manyN:Int),first,(u:Int)⟩:Lg).First+(i:Int)):Int),.string (ku (cd dk ((⟨gq,(manyN:Int),first,(u:Int)⟩:Lg).From+(i:Int))).1 ((⟨gq,(manyN:Int),first,(u:Int)⟩:Lg).First+(i:Int))),.bool (jc (cd dk ((⟨gq,(manyN:Int),first,(u:Int)⟩:Lg).From+(i:Int))).1 ((⟨gq,(manyN:Int),first,(u:Int)⟩:Lg).First+(i:Int)))]:Value) = .tuple #[.int .u8 (pb (cd dk (gq+(i:Int))).1 (first+(i:Int)):Int),.string (ku (cd dk (gq+(i:Int))).1 (first+(i:Int))),.bool (jc (cd dk (gq+(i:Int))).1 (first+(i:Int)))] from O) (Ka b1 (⟨gq,(manyN:Int),first,(u:Int)⟩:Lg) i aH ay aE av dk w (hw.b 2 O) (hw.b 3 O) (hw.row 4 O) (hw.row 5 O) (hw.row 6 O) (by (dsimp only;omega)) ‹_› ‹_›)))) O<|R.u 7 O<|R.nil ?_
  refine R.reg O<|R.u 1 O<|R.q (q.not O) O<|R.u 1 O<|?_
  rcases Bool.eq_false_or_eq_true (jc (cd dk (gq+(i:Int))).1 (first+(i:Int))) with h2|h2
  .
   rw [h2]
   refine R.u 1 O<|?_
   by_cases h3:pb (cd dk (gq+(i:Int))).1 (first+(i:Int))=99
   .
    refine R.qg O (q.fJ O O) O<|R.u 3 O<|R.qg O (q.len' (bE 0 O) O Tryz.underlying34) O<|R.cg O (q.call fA O O (fun w hw=>(dt (dd.length:Int) w (by omega)))) O<|?_
    by_cases h4:ku (cd dk (gq+(i:Int))).1 (first+(i:Int))=bY (dd.length:Int)
    .
     refine R.qg O (q.uD O O h4) O<|R.u 2 O<|R.nil<|R.aC O O<|R.reg O<|R.u 1 O<|R.q (q.fJ O O) O<|R.nil<|R.az O O<|R.reg O<|R.u 3 O<|R.s O (s.VM (l:=([(⟨qd,dd⟩:kr)]:List kr)) Gb Jc O O O O O (fun w hw=>HJ (hw.row 0 O)) O) fun b2=>?_
     refine R.s O (s.app 2 _ O O O (bE 0 O) Jj (by (simp;omega)) (by (simp;omega)) (fun _=>rfl) O) fun v1=>?_
     refine R.u 1 O<|R.q (q.bC (r:=((i+1:Nat):Int)) O O) O<|R.u 2 O<|R.q (q.bQ O) O<|R.q (q.aP O jV O) O<|R.s O (s.st 3 _ O O O O (.inr ⟨au,rfl⟩) O O O O) fun _=>?_
     refine R.nil<|R.reg O<|R.q (q.bC (r:=((i+1:Nat):Int)) O O) O<|R.u 1 O<|R.nil<|R.mp (fun _ hw=>hw.cX 1 _ O O)<|R.mp (fun _ hw=>hw.Mt 1 0 O O)<|R.row0 (α:=Change) 117<|R.back (i+1,(i+1),v1,(ob++([(⟨qd,dd⟩:kr)])),(nS),[]) O (by ((try dsimp only);exact ⟨by omega,by rw [List.map_append];exact J0 HS (qG (by omega)) (PY ‹_› ‹_› ‹_›),by simp,by simp;omega,by omega⟩)) (by dsimp only;omega) (sF O) (aD [0,2,3,4,5,6,7,8] [0,3] O)
    refine R.qg O (q.yW O O h4) O<|R.u 2 O<|R.nil<|R.az O O<|R.reg O<|R.u 5 O<|R.nil<|R.mp (fun _ hw=>hw.Bh 0 O)<|R.mp (fun _ hw=>hw.cX 1 _ O O) ?_
    have hz:(dk,(⟨gq,((manyN:Nat):Int),first,(fG dk gq (Int.toNat ((manyN:Nat):Int)) first:Int)⟩:Lg),lD dk gq (Int.toNat ((manyN:Nat):Int)) first)=(dk,(⟨gq,(manyN:Int),first,(u:Int)⟩:Lg),(ob.map kr.L)):=by ((try dsimp only);have e:=Ba HS (qG (by omega)) (C0 (k:=(dd.length:Int)) ‹_› ‹_› ‹_›).1 (C0 (k:=(dd.length:Int)) ‹_› ‹_› ‹_›).2;unfold fG lD;rw [show Int.toNat ((manyN:Nat):Int)=manyN from rfl,e])
    have hz0:((manyN:Nat):Int)=(manyN:Int):=congrArg (fun t_=>t_.2.1.Many) hz
    rw [hz0]
    have hz1:(fG dk gq (Int.toNat ((manyN:Nat):Int)) first:Int)=(u:Int):=congrArg (fun t_=>t_.2.1.Next) hz
    rw [hz1]
    have hz2:lD dk gq (Int.toNat ((manyN:Nat):Int)) first=(ob.map kr.L):=congrArg (fun t_=>t_.2.2) hz
    rw [hz2]
    exact R.w3 (ay,aE,av,b1,qo,ob) [2,3,4,5,1,6] [0,1] O Tryz.results82 (RV.tmp O) (RV.tmp O) (RV.tmp O) O O O (EC O O O)
   refine R.qg O (q.eX O O) O<|R.u 8 O<|R.nil<|R.aC O O<|R.reg O<|R.u 1 O<|R.q (q.eX O O) O<|R.nil<|R.aC O O<|R.reg O<|R.u 1 O<|R.c (q.call Pk O O (fun w hw=>(A8 (ku (cd dk (gq+(i:Int))).1 (first+(i:Int))) w (by omega)))) O<|R.u 3 O<|?_
   refine R.s O (s.alloc cG O O) fun b3=>?_
   refine R.s O (s.st 0 _ O O O O (.inl aX) O O O O) fun _=>?_
   refine R.u 1 O<|R.nil<|R.reg O<|R.u 1 O<|?_
   by_cases h5:(rT (ku (cd dk (gq+(i:Int))).1 (first+(i:Int)))).2=0
   .
    refine R.q (q.dq O O Tryz.underlying38) O<|R.nil<|R.aC O O<|R.reg O<|R.u 1 O<|R.q (q.cW 0 O O aX) O<|R.s O (s.bs (l:=([(rT (ku (cd dk (gq+(i:Int))).1 (first+(i:Int)))).1]:List Change)) bW cG O O O O O O O) fun b4=>?_
    refine R.s O (s.app 2 _ O O O (bE 0 O) jr (by (simp;omega)) (by (simp;omega)) (fun _=>rfl) O) fun v2=>?_
    refine R.u 1 O<|R.nil<|R.reg O<|R.q (q.bC (r:=((i+1:Nat):Int)) O O) O<|R.u 1 O<|R.nil<|R.back (i+1,u,qo,ob,v2,(dd++([(rT (ku (cd dk (gq+(i:Int))).1 (first+(i:Int)))).1]))) O (by ((try dsimp only);have e:=PZ (k:=(dd.length:Int)) ‹_› ‹_› ‹_›;exact ⟨by omega,by rw [e.2.2];exact Mm HS (qG (by omega)) e.1 e.2.1,by simp;omega,by omega,by omega⟩)) (by dsimp only;omega) (sF O) (aD FT [0,1] O)
   refine R.q (q.dW O O Tryz.underlying38) O<|R.nil<|R.az O O<|R.reg O<|R.u 5 O<|R.nil<|R.mp (fun _ hw=>hw.Bh 0 O)<|R.mp (fun _ hw=>hw.cX 2 _ O O) ?_
   have hz:(dk,(⟨gq,((manyN:Nat):Int),first,(fG dk gq (Int.toNat ((manyN:Nat):Int)) first:Int)⟩:Lg),lD dk gq (Int.toNat ((manyN:Nat):Int)) first)=(dk,(⟨gq,(manyN:Int),first,(u:Int)⟩:Lg),(ob.map kr.L)):=by ((try dsimp only);have e:=Ba HS (qG (by omega)) (C2 (k:=(dd.length:Int)) ‹_› ‹_› ‹_›).1 (C2 (k:=(dd.length:Int)) ‹_› ‹_› ‹_›).2;unfold fG lD;rw [show Int.toNat ((manyN:Nat):Int)=manyN from rfl,e])
   have hz0:((manyN:Nat):Int)=(manyN:Int):=congrArg (fun t_=>t_.2.1.Many) hz
   rw [hz0]
   have hz1:(fG dk gq (Int.toNat ((manyN:Nat):Int)) first:Int)=(u:Int):=congrArg (fun t_=>t_.2.1.Next) hz
   rw [hz1]
   have hz2:lD dk gq (Int.toNat ((manyN:Nat):Int)) first=(ob.map kr.L):=congrArg (fun t_=>t_.2.2) hz
   rw [hz2]
   exact R.w3 (ay,aE,av,b1,qo,ob) [3,4,5,6,2,7] [0,1] O Tryz.results82 (RV.tmp O) (RV.tmp O) (RV.tmp O) O O O (EC O O O)
  rw [h2]
  refine R.u 10 O<|R.nil<|R.az O O<|R.reg O<|R.u 5 O<|R.nil<|R.mp (fun _ hw=>hw.Bh 0 O)<|R.mp (fun _ hw=>hw.cX 1 _ O O) ?_
  have hz:(dk,(⟨gq,((manyN:Nat):Int),first,(fG dk gq (Int.toNat ((manyN:Nat):Int)) first:Int)⟩:Lg),lD dk gq (Int.toNat ((manyN:Nat):Int)) first)=(dk,(⟨gq,(manyN:Int),first,(u:Int)⟩:Lg),(ob.map kr.L)):=by ((try dsimp only);have e:=Ba HS (qG (by omega)) (CZ (k:=(dd.length:Int)) ‹_›).1 (CZ (k:=(dd.length:Int)) ‹_›).2;unfold fG lD;rw [show Int.toNat ((manyN:Nat):Int)=manyN from rfl,e])
  have hz0:((manyN:Nat):Int)=(manyN:Int):=congrArg (fun t_=>t_.2.1.Many) hz
  rw [hz0]
  have hz1:(fG dk gq (Int.toNat ((manyN:Nat):Int)) first:Int)=(u:Int):=congrArg (fun t_=>t_.2.1.Next) hz
  rw [hz1]
  have hz2:lD dk gq (Int.toNat ((manyN:Nat):Int)) first=(ob.map kr.L):=congrArg (fun t_=>t_.2.2) hz
  rw [hz2]
  exact R.w3 (ay,aE,av,b1,qo,ob) [2,3,4,5,1,6] [0,1] O Tryz.results82 (RV.tmp O) (RV.tmp O) (RV.tmp O) O O O (EC O O O)
 refine R.q (q.cU O O) O<|R.nil<|R.aC O O<|R.reg O<|R.u 5 O<|R.nil<|R.mp (fun _ hw=>hw.Bh 0 O)<|R.mp (fun _ hw=>hw.cX 1 _ O O) ?_
 have hz:(dk,(⟨gq,((manyN:Nat):Int),first,(fG dk gq (Int.toNat ((manyN:Nat):Int)) first:Int)⟩:Lg),lD dk gq (Int.toNat ((manyN:Nat):Int)) first)=(dk,(⟨gq,(manyN:Int),first,(u:Int)⟩:Lg),(ob.map kr.L)):=by ((try dsimp only);have e:=PT HS (by rw [p8];omega);unfold fG lD;rw [show Int.toNat ((manyN:Nat):Int)=manyN from rfl,e])
 have hz0:((manyN:Nat):Int)=(manyN:Int):=congrArg (fun t_=>t_.2.1.Many) hz
 rw [hz0]
 have hz1:(fG dk gq (Int.toNat ((manyN:Nat):Int)) first:Int)=(u:Int):=congrArg (fun t_=>t_.2.1.Next) hz
 rw [hz1]
 have hz2:lD dk gq (Int.toNat ((manyN:Nat):Int)) first=(ob.map kr.L):=congrArg (fun t_=>t_.2.2) hz
 rw [hz2]
 exact R.w3 (ay,aE,av,b1,qo,ob) [2,3,4,5,1,6] [0,1] O Tryz.results82 (RV.tmp O) (RV.tmp O) (RV.tmp O) O O O (EC O O O)
theorem Mv (bB:Nat)(lg:Lg)(Gw:Value)(c:List Change)(aH:Nat)(ay aE av:Value)(dk:ct)(w:World)(own:List Nat)(H:HN w own [ag.box bB [.pointer (some ⟨aH,0,none⟩),iV lg.From,iV lg.Many,iV lg.First,iV lg.Next] 198,ag.box aH [ay,aE,av,iV dk.Fuse,.bool dk.Down] 112,ag.row 9 ay dk.Kept,ag.row 9 aE dk.Now,ag.row 114 av dk.Wait] [ag.ls Gw c])(hb:0<=lg.From/\lg.From<=1000000000/\0<=lg.Next/\lg.Next<=1000000000/\0<=lg.First/\lg.First<=4000000000000000000/\0<=lg.Many/\lg.Many<=1000000000)(hl:c.length<=62)(hf:∀x∈c,iH x=0)(hD:fF dk.Now.length 90000 dk/\dk.Now.length<=100000):RC Tryz.prog 180 #[.pointer (some ⟨bB,0,none⟩),Gw] H (fun _:Value×Value×Value=>dh (dw lg dk c).2) (fun z=>[ag.box bB [.pointer (some ⟨aH,0,none⟩),iV lg.From,iV lg.Many,iV lg.First,iV lg.Next] 198,ag.box aH [z.1,z.2.1,z.2.2,iV (dw lg dk c).1.Fuse,.bool (dw lg dk c).1.Down] 112,ag.row 9 z.1 (dw lg dk c).1.Kept,ag.row 9 z.2.1 (dw lg dk c).1.Now,ag.row 114 z.2.2 (dw lg dk c).1.Wait]) (fun _=>[]):=by
 have dM:=H.cap 2 rfl;have dN:=H.cC 2 rfl
 have eU:=H.cap 3 rfl;have eV:=H.cC 3 rfl
 have dO:=H.cap 4 rfl;have dP:=H.cC 4 rfl
 have VO:=H.ck 0 rfl
 refine R.bD [(0,.pointer (some ⟨bB,0,none⟩)),(1,Gw)] Tryz.func180 O O O O H<|R.reg O<|R.u 1 O<|R.nil<|R.fa O mixed (by kernel_rfl)<|Q.u 1 O<|Q.q (q.bQ O) O<|Q.q (q.aP O oy O) O<|Q.q (q.ld 0 O O au O) O<|Q.u 1 O<|Q.q (q.bQ O) O<|Q.q (q.aP O jV O) O<|Q.q (q.ld 0 O O au O) O<|Q.q (q.bC (r:=lg.From+lg.Next) O O) O<|Q.u 1 O<|Q.nil<|R.reg O<|R.u 1 O<|R.q (q.len' (dx 0 O) O Tryz.underlying34) O<|R.u 1 O<|R.nil<|R.loop (fun g_:Nat×ct×Value×Value×Value=>[(0,.pointer (some ⟨bB,0,none⟩)),(1,Gw),(5,iV (lg.From+lg.Next)),(20,Gw),(21,iV (c.length:Int)),(22,iV (g_.1:Int))]) (fun g_=>[ag.box bB [.pointer (some ⟨aH,0,none⟩),iV lg.From,iV lg.Many,iV lg.First,iV lg.Next] 198,ag.box aH [g_.2.2.1,g_.2.2.2.1,g_.2.2.2.2,iV g_.2.1.Fuse,.bool g_.2.1.Down] 112,ag.row 9 g_.2.2.1 g_.2.1.Kept,ag.row 9 g_.2.2.2.1 g_.2.1.Now,ag.row 114 g_.2.2.2.2 g_.2.1.Wait,ag.held w own]) (fun g_=>[ag.ls Gw c]) (fun g_=>g_.1<=c.length/\kV lg g_.2.1 (c.drop g_.1) g_.1=kV lg dk c 0/\fF dk.Now.length (90000+g_.1) g_.2.1) (fun g_=>c.length-g_.1) (0,dk,ay,aE,av) O (by (try dsimp only);exact ⟨by omega,rfl,hD.1⟩) (sF O) (iz rk [0] O) ?_
 rintro ⟨i,dm,ej,fM,eo⟩ ⟨hi,HL,hO⟩
 dsimp only at *
 have p1:=hO.fine (by omega) (by omega)
 refine R.reg O<|?_
 by_cases h1:i<c.length
 .
  refine R.q (q.dD O O) O<|R.nil<|R.az O O<|R.reg O<|R.u 1 O<|?_
  obtain ⟨x1,hx1⟩:∃z,c[i]? = some z:=⟨_,List.getElem?_eq_getElem (by omega)⟩
  have P2:=Bj (hf x1 (List.mem_of_getElem? hx1));obtain ⟨P2,VP⟩:=P2
  refine R.q (q.idx (i:=i) (dx 0 O) O O bW O hx1) O<|R.q (q.gk (ds:=fD x1) (dx 0 O) hx1 O aX O) O<|R.s O (s.alloc cG O O) fun b1=>?_
  refine R.u 1 O<|R.s O (s.st 0 _ O O O O (.inl aX) O O O O) fun _=>?_
  refine R.nil<|R.reg O<|R.q (q.cW 0 O O aX) O<|R.c (q.call PK O O (fun w hw=>(AZ x1 w ))) O<|R.u 5 O<|R.nil ?_
  refine R.reg O<|R.u 1 O<|R.q (q.dq O O Tryz.underlying38) O<|R.nil<|R.aC O O<|R.fP (fuel:=22) [0,1,6] O O mixed O<|D.q (i:=0) O (aD [0,1,6] [0] O) O (q.mv O) O<|D.q (i:=1) O (aD [0,1,6] [0] O) O (q.bQ O) O<|D.q (i:=2) O (aD [0,1,6] [0] O) O (q.aP O kO O) O<|D.q (i:=3) O (aD [0,1,6] [0] O) O (q.ld 1 O O jm O) O<|D.q (i:=4) O (aD [0,1,6] [0] O) O (q.mv O) O<|D.q (i:=5) O (aD [0,1,6] [0] O) O (q.mv O) O<|D.q (i:=6) O (aD [0,1,6] [0] O) O (q.bC (r:=(lg.From+lg.Next)+(i:Int)) O O) O<|D.q (i:=7) O (aD [0,1,6] [0] O) O (q.mv O) O<|D.q (i:=8) O (aD [0,1,6] [0] O) O (q.bQ O) O<|D.q (i:=9) O (aD [0,1,6] [0] O) O (q.aP O jU O) O<|D.q (i:=10) O (aD [0,1,6] [0] O) O (q.ld 1 O O au O) O<|D.q (i:=11) O (aD [0,1,6] [0] O) O (q.mv O) O<|D.q (i:=12) O (aD [0,1,6] [0] O) O (q.bQ O) O<|D.q (i:=13) O (aD [0,1,6] [0] O) O (q.aP O jV O) O<|D.q (i:=14) O (aD [0,1,6] [0] O) O (q.ld 1 O O au O) O<|D.q (i:=15) O (aD [0,1,6] [0] O) O (q.bC (r:=lg.First+lg.Next) O O) O<|D.q (i:=16) O (aD [0,1,6] [0] O) O (q.mv O) O<|D.q (i:=17) O (aD [0,1,6] [0] O) O (q.bC (r:=(lg.First+lg.Next)+(i:Int)) O O) O<|D.q (i:=18) O (aD [0,1,6] [0] O) O (q.mv O) O<|D.one (i:=19) O<|Do.s (s.c (q.call JD O O (fun w hw=>(C4 111 ((lg.First+lg.Next)+(i:Int)) (ka x1).1 w (by decide) (by omega) (by omega)))) O) (fun _=>(aD [0,1,6] [0] O)) O fun _=>?_
  refine D.one (i:=20) O<|Do.s (s.aT [2,3,4,5,0,1,6] [] _ _ _ O O O uF O O (fun w own hw H=>iZ aH ej fM eo dm ((lg.From+lg.Next)+(i:Int)) (dE 111 ((lg.First+lg.Next)+(i:Int)) (ka x1).1) w own H ‹_›) O) (fun _=>(aD [4,5,6] [0] O)) O ?_
  rintro ⟨z4,z5,z6⟩
  dsimp only
  refine D.q (i:=21) O (aD [4,5,6] [0] O) O (q.as O) O<|D.done<|R.reg O<|R.u 1 O<|?_
  by_cases h2:(ap dm ((lg.From+lg.Next)+(i:Int)) (dE 111 ((lg.First+lg.Next)+(i:Int)) (ka x1).1)).2=0
  .
   refine R.q (q.dq O O Tryz.underlying38) O<|R.nil<|R.aC O O<|R.reg O<|R.q (q.bC (r:=((i+1:Nat):Int)) O O) O<|R.u 1 O<|R.nil<|R.back (i+1,(ap dm ((lg.From+lg.Next)+(i:Int)) (dE 111 ((lg.First+lg.Next)+(i:Int)) (ka x1).1)).1,z4,z5,z6) O (by ((try dsimp only);exact ⟨by omega,P0 HL hx1 ‹_›,hO.write _ _⟩)) (by dsimp only;omega) (sF O) (aD [5,0,1,2,3,6] [0] O)
  refine R.q (q.dW O O Tryz.underlying38) O<|R.nil<|R.az O O<|R.reg O<|R.u 2 O<|R.nil ?_
  have hz:(lg,(dw lg dk c).1,(dw lg dk c).2)=(lg,(ap dm ((lg.From+lg.Next)+(i:Int)) (dE 111 ((lg.First+lg.Next)+(i:Int)) (ka x1).1)).1,(ap dm ((lg.From+lg.Next)+(i:Int)) (dE 111 ((lg.First+lg.Next)+(i:Int)) (ka x1).1)).2):=by (rw [HO (J4 HL hx1 ‹_›).symm ‹_›])
  have hz0:(dw lg dk c).1=(ap dm ((lg.From+lg.Next)+(i:Int)) (dE 111 ((lg.First+lg.Next)+(i:Int)) (ka x1).1)).1:=congrArg (fun t_=>t_.2.1) hz
  rw [hz0]
  have hz1:(dw lg dk c).2=(ap dm ((lg.From+lg.Next)+(i:Int)) (dE 111 ((lg.First+lg.Next)+(i:Int)) (ka x1).1)).2:=congrArg (fun t_=>t_.2.2) hz
  rw [hz1]
  exact R.w1 (z4,z5,z6) [5,0,1,2,3,6] [] O Tryz.results180 (RV.tmp O) O O O O
 refine R.q (q.cU O O) O<|R.nil<|R.aC O O<|R.reg O<|R.u 1 O<|R.q (q.bQ O) O<|R.q (q.aP O jV O) O<|R.q (q.ld 0 O O au O) O<|R.u 1 O<|R.q (q.len' (dx 0 O) O Tryz.underlying34) O<|R.q (q.bC (r:=lg.Next+(c.length:Int)) O O) O<|R.q (q.bC (r:=(lg.Next+(c.length:Int))+1) O O) O<|R.u 1 O<|R.nil<|R.reg O<|R.u 2 O<|R.q (q.bQ O) O<|R.q (q.aP O rP O) O<|R.q (q.ld 0 O O au O) O<|?_
 by_cases h3:((lg.Next+(c.length:Int))+1)<lg.Many
 .
  refine R.q (q.dD O O) O<|R.nil<|R.az O O<|R.fP (fuel:=12) [0,5] O O mixed O<|D.q (i:=0) O (aD [0,5] [0] O) O (q.mv O) O<|D.q (i:=1) O (aD [0,5] [0] O) O (q.bQ O) O<|D.q (i:=2) O (aD [0,5] [0] O) O (q.aP O kO O) O<|D.q (i:=3) O (aD [0,5] [0] O) O (q.ld 0 O O jm O) O<|D.q (i:=4) O (aD [0,5] [0] O) O (q.mv O) O<|D.q (i:=5) O (aD [0,5] [0] O) O (q.bQ O) O<|D.q (i:=6) O (aD [0,5] [0] O) O (q.aP O oy O) O<|D.q (i:=7) O (aD [0,5] [0] O) O (q.ld 0 O O au O) O<|D.q (i:=8) O (aD [0,5] [0] O) O (q.mv O) O<|D.q (i:=9) O (aD [0,5] [0] O) O (q.bC (r:=lg.From+((lg.Next+(c.length:Int))+1)) O O) O<|D.one (i:=10) O<|Do.s (s.aT [1,2,3,4,0,5] [] _ _ _ O O O uF O O (fun w own hw H=>iZ aH ej fM eo dm (lg.From+((lg.Next+(c.length:Int))+1)) (⟨#[]⟩) w own H ‹_›) O) (fun _=>(aD [4,5] [0] O)) O ?_
  rintro ⟨lE,lX,z12⟩
  dsimp only
  refine D.q (i:=11) O (aD [4,5] [0] O) O (q.as O) O<|D.done<|?_
  have hz:(lg,(dw lg dk c).1,(dw lg dk c).2)=(lg,(ap dm (lg.From+((lg.Next+(c.length:Int))+1)) (⟨#[]⟩)).1,(ap dm (lg.From+((lg.Next+(c.length:Int))+1)) (⟨#[]⟩)).2):=by (have e:=Gr HL (by omega);(rw [J5 e ‹_›];done))
  have hz0:(dw lg dk c).1=(ap dm (lg.From+((lg.Next+(c.length:Int))+1)) (⟨#[]⟩)).1:=congrArg (fun t_=>t_.2.1) hz
  rw [hz0]
  have hz1:(dw lg dk c).2=(ap dm (lg.From+((lg.Next+(c.length:Int))+1)) (⟨#[]⟩)).2:=congrArg (fun t_=>t_.2.2) hz
  rw [hz1]
  exact R.w1 (lE,lX,z12) [4,0,1,2,3,5] [] O Tryz.results180 (RV.tmp O) O O O O
 refine R.q (q.cU O O) O<|R.nil<|R.aC O O<|R.reg O<|R.u 1 O<|R.nil ?_
 have hz:(lg,(dw lg dk c).1,(dw lg dk c).2)=(lg,dm,0):=by (have e:=Gr HL (by omega);(rw [HQ e (by omega)];done))
 have hz0:(dw lg dk c).1=dm:=congrArg (fun t_=>t_.2.1) hz
 rw [hz0]
 have hz1:(dw lg dk c).2=0:=congrArg (fun t_=>t_.2.2) hz
 rw [hz1]
 exact R.w1 (ej,fM,eo) rk [] O Tryz.results180 (RV.tmp O) O O O (iJ O)
theorem Kc (Bp:Nat)(pl:Unit)(Bq:Nat)(uJ:Value)(pc:TP)(bB:Nat)(lg:Lg)(aH:Nat)(ay aE av:Value)(dk:ct)(w:World)(own:List Nat)(H:HN w own [ag.box Bp [.pointer (some ⟨bB,0,none⟩)] 131,ag.box Bq [uJ] 34,ag.box bB [.pointer (some ⟨aH,0,none⟩),iV lg.From,iV lg.Many,iV lg.First,iV lg.Next] 198,ag.box aH [ay,aE,av,iV dk.Fuse,.bool dk.Down] 112,ag.row 9 ay dk.Kept,ag.row 9 aE dk.Now,ag.row 114 av dk.Wait] [ag.ls uJ pc.C])(hb:0<=lg.From/\lg.From<=1000000000/\0<=lg.Next/\lg.Next<=1000000000/\0<=lg.First/\lg.First<=4000000000000000000/\0<=lg.Many/\lg.Many<=1000000000)(hl:pc.C.length<=62)(hf:∀x∈pc.C,iH x=0)(hD:fF dk.Now.length 90000 dk/\dk.Now.length<=100000):RC Tryz.prog 179 #[.pointer (some ⟨Bp,0,none⟩),.pointer (some ⟨Bq,0,none⟩)] H (fun _:Value×Value×Value×Value=>dh (dw lg dk pc.C).2) (fun z=>[ag.box Bp [.pointer (some ⟨bB,0,none⟩)] 131,ag.box Bq [z.1] 34,ag.box bB [.pointer (some ⟨aH,0,none⟩),iV lg.From,iV lg.Many,iV lg.First,iV lg.Next] 198,ag.box aH [z.2.1,z.2.2.1,z.2.2.2,iV (dw lg dk pc.C).1.Fuse,.bool (dw lg dk pc.C).1.Down] 112,ag.row 9 z.2.1 (dw lg dk pc.C).1.Kept,ag.row 9 z.2.2.1 (dw lg dk pc.C).1.Now,ag.row 114 z.2.2.2 (dw lg dk pc.C).1.Wait]) (fun z=>[ag.ls z.1 pc.C]):=by
 have dM:=H.cap 4 rfl;have dN:=H.cC 4 rfl
 have eU:=H.cap 5 rfl;have eV:=H.cC 5 rfl
 have dO:=H.cap 6 rfl;have dP:=H.cC 6 rfl
 have P3:=H.ck 0 rfl
 refine R.bD [(0,.pointer (some ⟨Bp,0,none⟩)),(1,.pointer (some ⟨Bq,0,none⟩))] Tryz.func179 O O O O H<|R.reg O<|R.u 1 O<|R.nil<|R.reg O<|R.q (q.ld 0 O O fE O) O<|R.q (q.ld 1 O O gx O) O<|R.s O (s.aT [2,3,4,5,6,0,1,7] [0] _ _ _ O O O Pz O O (fun w own hw H=>Mv bB lg uJ pc.C aH ay aE av dk w own H ‹_› (by omega) ‹_› ‹_›) O) ?_
 rintro ⟨z1,z2,z3⟩
 dsimp only
 refine R.u 1 O<|R.nil ?_
 have hz:((),pc,lg,(dw lg dk pc.C).1,(dw lg dk pc.C).2)=((),pc,lg,(dw lg dk pc.C).1,(dw lg dk pc.C).2):=by (rfl)
 exact R.w1 (uJ,z1,z2,z3) [5,6,0,1,2,3,4,7] [0] O Tryz.results179 (RV.tmp O) O O O O
theorem Kd (Bp:Nat)(pl:Unit)(Mw:Nat)(pe:SB)(Bq:Nat)(uJ:Value)(pc:TP)(bB:Nat)(lg:Lg)(aH:Nat)(ay aE av:Value)(dk:ct)(w:World)(own:List Nat)(H:HN w own [ag.box Bp [.pointer (some ⟨bB,0,none⟩)] 131,ag.box Mw [iV pe.E] 3,ag.box Bq [uJ] 34,ag.box bB [.pointer (some ⟨aH,0,none⟩),iV lg.From,iV lg.Many,iV lg.First,iV lg.Next] 198,ag.box aH [ay,aE,av,iV dk.Fuse,.bool dk.Down] 112,ag.row 9 ay dk.Kept,ag.row 9 aE dk.Now,ag.row 114 av dk.Wait] [ag.ls uJ pc.C])(hb:0<=lg.From/\lg.From<=1000000000/\0<=lg.Next/\lg.Next<=1000000000/\0<=lg.First/\lg.First<=4000000000000000000/\0<=lg.Many/\lg.Many<=1000000000)(he:0<=pe.E/\pe.E<=2000000000)(hl:pc.C.length<=62)(hD:fF dk.Now.length 91000 dk/\dk.Now.length<=100000):RC Tryz.prog 181 #[.pointer (some ⟨Bp,0,none⟩),.pointer (some ⟨Mw,0,none⟩),.pointer (some ⟨Bq,0,none⟩)] H (fun _:Value×Value×Value×Value=>dh (ap dk (lg.From+pe.E) (dE 99 (lg.First+pe.E) (bY (pc.C.length:Int)))).2) (fun z=>[ag.box Bp [.pointer (some ⟨bB,0,none⟩)] 131,ag.box Mw [iV pe.E] 3,ag.box Bq [z.1] 34,ag.box bB [.pointer (some ⟨aH,0,none⟩),iV lg.From,iV lg.Many,iV lg.First,iV lg.Next] 198,ag.box aH [z.2.1,z.2.2.1,z.2.2.2,iV (ap dk (lg.From+pe.E) (dE 99 (lg.First+pe.E) (bY (pc.C.length:Int)))).1.Fuse,.bool (ap dk (lg.From+pe.E) (dE 99 (lg.First+pe.E) (bY (pc.C.length:Int)))).1.Down] 112,ag.row 9 z.2.1 ((ap dk (lg.From+pe.E) (dE 99 (lg.First+pe.E) (bY (pc.C.length:Int)))).1.Kept:List ByteArray),ag.row 9 z.2.2.1 ((ap dk (lg.From+pe.E) (dE 99 (lg.First+pe.E) (bY (pc.C.length:Int)))).1.Now:List ByteArray),ag.row 114 z.2.2.2 ((ap dk (lg.From+pe.E) (dE 99 (lg.First+pe.E) (bY (pc.C.length:Int)))).1.Wait:List Turn)]) (fun z=>[ag.ls z.1 pc.C]):=by
 have dM:=H.cap 5 rfl;have dN:=H.cC 5 rfl
 have eU:=H.cap 6 rfl;have eV:=H.cC 6 rfl
 have dO:=H.cap 7 rfl;have dP:=H.cC 7 rfl
 have P3:=H.ck 0 rfl
 have p1:=hD.1.fine (by omega) (by omega)
 refine R.bD [(0,.pointer (some ⟨Bp,0,none⟩)),(1,.pointer (some ⟨Mw,0,none⟩)),(2,.pointer (some ⟨Bq,0,none⟩))] Tryz.func181 O O O O H<|R.reg O<|R.u 1 O<|R.nil<|R.fP (fuel:=22) mG O O mixed O<|D.q (i:=0) O (aD mG [0] O) O (q.ld 0 O O fE O) O<|D.q (i:=1) O (aD mG [0] O) O (q.bQ O) O<|D.q (i:=2) O (aD mG [0] O) O (q.aP O kO O) O<|D.q (i:=3) O (aD mG [0] O) O (q.ld 3 O O jm O) O<|D.q (i:=4) O (aD mG [0] O) O (q.ld 0 O O fE O) O<|D.q (i:=5) O (aD mG [0] O) O (q.bQ O) O<|D.q (i:=6) O (aD mG [0] O) O (q.aP O oy O) O<|D.q (i:=7) O (aD mG [0] O) O (q.ld 3 O O au O) O<|D.q (i:=8) O (aD mG [0] O) O (q.ld 1 O O au O) O<|D.q (i:=9) O (aD mG [0] O) O (q.bC (r:=lg.From+pe.E) O O) O<|D.q (i:=10) O (aD mG [0] O) O (q.ld 0 O O fE O) O<|D.q (i:=11) O (aD mG [0] O) O (q.bQ O) O<|D.q (i:=12) O (aD mG [0] O) O (q.aP O jU O) O<|D.q (i:=13) O (aD mG [0] O) O (q.ld 3 O O au O) O<|D.q (i:=14) O (aD mG [0] O) O (q.ld 1 O O au O) O<|D.q (i:=15) O (aD mG [0] O) O (q.bC (r:=lg.First+pe.E) O O) O<|D.q (i:=16) O (aD mG [0] O) O (q.ld 2 O O gx O) O<|D.q (i:=17) O (aD mG [0] O) O (q.len' (dx 0 O) O Tryz.underlying34) O<|D.one (i:=18) O<|Do.s (s.c (q.call fA O O (fun w hw=>(dt (pc.C.length:Int) w (by omega)))) O) (fun _=>(aD mG [0] O)) O fun _=>?_
 refine D.one (i:=19) O<|Do.s (s.c (q.call JD O O (fun w hw=>(C4 99 (lg.First+pe.E) (bY (pc.C.length:Int)) w (by decide) (by omega) (by (rw [aG];decide))))) O) (fun _=>(aD mG [0] O)) O fun _=>?_
 refine D.one (i:=20) O<|Do.s (s.aT [4,5,6,7,0,1,2,3,8] [] _ _ _ O O O uF O O (fun w own hw H=>iZ aH ay aE av dk (lg.From+pe.E) (dE 99 (lg.First+pe.E) (bY (pc.C.length:Int))) w own H ‹_›) O) (fun _=>(aD [4,5,6,7,8] [0] O)) O ?_
 rintro ⟨z4,z5,z6⟩
 dsimp only
 refine D.q (i:=21) O (aD [4,5,6,7,8] [0] O) O (q.as O) O<|D.done<|?_
 have hz:((),pe,pc,lg,(ap dk (lg.From+pe.E) (dE 99 (lg.First+pe.E) (bY (pc.C.length:Int)))).1,(ap dk (lg.From+pe.E) (dE 99 (lg.First+pe.E) (bY (pc.C.length:Int)))).2)=((),pe,pc,lg,(ap dk (lg.From+pe.E) (dE 99 (lg.First+pe.E) (bY (pc.C.length:Int)))).1,(ap dk (lg.From+pe.E) (dE 99 (lg.First+pe.E) (bY (pc.C.length:Int)))).2):=by (rfl)
 exact R.w1 (uJ,z4,z5,z6) [4,5,6,7,0,1,2,3,8] [0] O Tryz.results181 (RV.tmp O) O O O O
theorem Gx (bB:Nat)(lg:Lg)(Gw:Value)(c:List Change)(aH:Nat)(ay aE av:Value)(dk:ct)(w:World)(own:List Nat)(H:HN w own [ag.box bB [.pointer (some ⟨aH,0,none⟩),iV lg.From,iV lg.Many,iV lg.First,iV lg.Next] 198,ag.box aH [ay,aE,av,iV dk.Fuse,.bool dk.Down] 112,ag.row 9 ay dk.Kept,ag.row 9 aE dk.Now,ag.row 114 av dk.Wait] [ag.ls Gw c])(hb:0<=lg.From/\lg.From<=1000000000/\0<=lg.Next/\lg.Next<=1000000000/\0<=lg.First/\lg.First<=4000000000000000000/\0<=lg.Many/\lg.Many<=1000000000)(hD:fF dk.Now.length 80000 dk/\dk.Now.length<=100000):RC Tryz.prog 135 #[.pointer (some ⟨bB,0,none⟩),Gw] H (fun _:Value×Value×Value=>dh (cz lg dk c).2.2) (fun z=>[ag.box bB [.pointer (some ⟨aH,0,none⟩),iV (cz lg dk c).1.From,iV (cz lg dk c).1.Many,iV (cz lg dk c).1.First,iV (cz lg dk c).1.Next] 198,ag.box aH [z.1,z.2.1,z.2.2,iV (cz lg dk c).2.1.Fuse,.bool (cz lg dk c).2.1.Down] 112,ag.row 9 z.1 (cz lg dk c).2.1.Kept,ag.row 9 z.2.1 (cz lg dk c).2.1.Now,ag.row 114 z.2.2 (cz lg dk c).2.1.Wait]) (fun _=>[]):=by
 have dM:=H.cap 2 rfl;have dN:=H.cC 2 rfl
 have eU:=H.cap 3 rfl;have eV:=H.cC 3 rfl
 have dO:=H.cap 4 rfl;have dP:=H.cC 4 rfl
 have VO:=H.ck 0 rfl
 refine R.bD [(0,.pointer (some ⟨bB,0,none⟩)),(1,Gw)] Tryz.func135 O O O O H<|R.reg O<|R.s O (s.box O O O) fun b1=>?_
 refine R.s O (s.RO O (fun w hw=>Sl.cq (hw.bN 0 O)) O) fun b2=>?_
 refine R.u 1 O<|R.nil<|R.reg O<|R.q (q.ld 0 O O gx O) O<|R.q (q.len' (dx 0 O) O Tryz.underlying34) O<|?_
 by_cases h1:62<c.length
 .
  refine R.q (q.eM O O) O<|R.nil<|R.az O O<|R.reg O<|R.q (q.iface O br) O<|R.u 1 O<|R.nil ?_
  have hz:cz lg dk c=(lg,dk,2):=by (exact J8 ‹_›)
  rw [hz]
  exact R.w1 (ay,aE,av) [2,3,4,5,6,7] [] O Tryz.results135 (RV.tmp O) O O O (dj (by decide) O)
 refine R.q (q.ey O O) O<|R.nil<|R.aC O O ?_
 by_cases h2:lg.Many-lg.Next<((c.length+1):Int)
 .
  refine R.fa O mixed (by kernel_rfl)<|Q.q (q.ld 0 O O gx O) O<|Q.q (q.len' (dx 0 O) O Tryz.underlying34) O<|Q.q (q.bC (r:=((c.length+1:Nat):Int)) O O) O<|Q.q (q.ld 1 O O fE O) O<|Q.c (q.call EL O O (fun w hw=>(w9 bB aH lg w (hw.b 2 O) (by omega)))) O<|Q.q (q.eM O O) O<|Q.nil<|R.az O O<|R.reg O<|R.q (q.iface O br) O<|R.u 1 O<|R.nil ?_
  have hz:cz lg dk c=(lg,dk,9):=by (exact J9 (by omega) (by omega))
  rw [hz]
  exact R.w1 (ay,aE,av) [2,3,4,5,6,7] [] O Tryz.results135 (RV.tmp O) O O O (dj (by decide) O)
 refine R.fa O mixed (by kernel_rfl)<|Q.q (q.ld 0 O O gx O) O<|Q.q (q.len' (dx 0 O) O Tryz.underlying34) O<|Q.q (q.bC (r:=((c.length+1:Nat):Int)) O O) O<|Q.q (q.ld 1 O O fE O) O<|Q.c (q.call EL O O (fun w hw=>(w9 bB aH lg w (hw.b 2 O) (by omega)))) O<|Q.q (q.ey O O) O<|Q.nil<|R.aC O O<|R.reg O<|R.q (q.ld 0 O O gx O) O<|R.q (q.len' (dx 0 O) O Tryz.underlying34) O<|R.u 1 O<|R.nil<|R.loop (fun i:Nat=>[(2,.pointer (some ⟨b1,0,none⟩)),(3,.pointer (some ⟨b2,0,none⟩)),(23,Gw),(24,iV (c.length:Int)),(25,iV (i:Int))]) (fun i:Nat=>[ag.box b2 [Gw] 34,ag.box b1 [.pointer (some ⟨bB,0,none⟩)] 131,ag.box bB [.pointer (some ⟨aH,0,none⟩),iV lg.From,iV lg.Many,iV lg.First,iV lg.Next] 198,ag.box aH [ay,aE,av,iV dk.Fuse,.bool dk.Down] 112,ag.row 9 ay dk.Kept,ag.row 9 aE dk.Now,ag.row 114 av dk.Wait,ag.held w own]) (fun i:Nat=>[ag.ls Gw c]) (fun i:Nat=>i<=c.length/\jE (c.drop i)=jE c) (fun i:Nat=>c.length-i) 0 O (by exact ⟨by omega,rfl⟩) (sF O) (iz fj [0] O) ?_
 rintro i ⟨hi,HL⟩
 refine R.reg O<|?_
 by_cases h3:i<c.length
 .
  refine R.q (q.dD O O) O<|R.nil<|R.az O O<|R.reg O<|?_
  obtain ⟨x1,hx1⟩:∃z,c[i]? = some z:=⟨_,List.getElem?_eq_getElem (by omega)⟩
  have P2:=bz x1
  refine R.q (q.idx (i:=i) (dx 0 O) O O bW O hx1) O<|R.q (q.gk (ds:=fD x1) (dx 0 O) hx1 O aX O) O<|R.s O (s.alloc cG O O) fun b3=>?_
  refine R.s O (s.st 0 _ O O O O (.inl aX) O O O O) fun _=>?_
  refine R.nil<|R.reg O<|R.q (q.cW 0 O O aX) O<|R.c (q.call tP O O (fun w hw=>(jt x1 w ))) O<|R.u 1 O<|R.nil ?_
  refine R.reg O<|R.u 1 O<|?_
  by_cases h4:iH x1=0
  .
   refine R.q (q.dq O O Tryz.underlying38) O<|R.nil<|R.aC O O<|R.reg O<|R.q (q.bC (r:=((i+1:Nat):Int)) O O) O<|R.u 1 O<|R.nil<|R.back (i+1) O (by (exact ⟨by omega,J6 HL hx1 (by omega)⟩)) (by omega) (sF O) (aD yR [0] O)
  refine R.q (q.dW O O Tryz.underlying38) O<|R.nil<|R.az O O<|R.reg O<|R.u 2 O<|R.nil ?_
  have hz:cz lg dk c=(lg,dk,iH x1):=by (exact HU ‹_› (by omega) (Bn HL hx1 ‹_›) ‹_›)
  rw [hz]
  exact R.w1 (ay,aE,av) mP [] O Tryz.results135 (RV.tmp O) O O O O
 refine R.q (q.cU O O) O<|R.nil<|R.aC O O ?_
 have g0:jE c=0:=J7 HL (by omega);have g1:=Bo (lg:=lg) ‹_› (by omega) g0;have g2:=qH g0
 refine R.fP (fuel:=9) fj O O mixed O<|D.q (i:=0) O (aD fj [0] O) O (q.ld 1 O O fE O) O<|D.q (i:=1) O (aD fj [0] O) O (q.bQ O) O<|D.q (i:=2) O (aD fj [0] O) O (q.aP O jV O) O<|D.q (i:=3) O (aD fj [0] O) O (q.ld 2 O O au O) O<|D.q (i:=4) O (aD fj [0] O) O (q.ld 0 O O gx O) O<|D.q (i:=5) O (aD fj [0] O) O (q.len' (dx 0 O) O Tryz.underlying34) O<|D.q (i:=6) O (aD fj [0] O) O (q.bC (r:=lg.Next+(c.length:Int)) O O) O<|D.one (i:=7) O<|Do.s (s.alloc lV O O) (fun _=>(aD yR [0] O)) O fun b4=>?_
 refine D.one (i:=8) O<|Do.s (s.st 0 _ O O O O (.inr ⟨au,rfl⟩) O O O O) (fun _=>(aD yR [0] O)) O fun _=>?_
 refine D.done<|?_
 have a0:fF dk.Now.length 90000 dk/\dk.Now.length<=100000:=⟨hD.1.up (by omega),hD.2⟩;have a2:fF dk.Now.length 90000 (dw lg dk c).1:=(Bm (lg:=lg) (c:=c) hD.1).up (by omega);have n2:=a2.nl;have q2:=a2.fine (by omega) (by omega)
 have a3:fF dk.Now.length 90000 (ai (dw lg dk c).1).1:=a2.flush;have n3:(ai (dw lg dk c).1).1.Now.length=dk.Now.length:=a3.nl;have q3:fF (ai (dw lg dk c).1).1.Now.length 91000 (ai (dw lg dk c).1).1/\(ai (dw lg dk c).1).1.Now.length<=100000:=⟨n3▸a3.up (by omega),by omega⟩
 have a4:fF dk.Now.length 90001 (ap (ai (dw lg dk c).1).1 (lg.From+(lg.Next+(c.length:Int))) (dE 99 (lg.First+(lg.Next+(c.length:Int))) (bY (c.length:Int)))).1:=a3.write _ _;have n4:=a4.nl;have q4:=a4.fine (by omega) (by omega)
 refine R.fP (fuel:=15) cj O O mixed O<|D.q (i:=0) O (aD cj [0] O) O (q.LR (cap:=[.pointer (some ⟨b1,0,none⟩),.pointer (some ⟨b2,0,none⟩)]) O O) O<|D.q (i:=1) O (aD cj [0] O) O (q.ld 2 O O fE O) O<|D.q (i:=2) O (aD cj [0] O) O (q.bQ O) O<|D.q (i:=3) O (aD cj [0] O) O (q.aP O kO O) O<|D.q (i:=4) O (aD cj [0] O) O (q.ld 3 O O jm O) O<|D.q (i:=5) O (aD cj [0] O) O (q.SA (bnd:=[.pointer (some ⟨aH,0,none⟩)]) (cap:=[]) O O) O<|D.q (i:=6) O (aD cj [0] O) O (q.LR (cap:=[.pointer (some ⟨b1,0,none⟩),.pointer (some ⟨b4,0,none⟩),.pointer (some ⟨b2,0,none⟩)]) O O) O<|D.q (i:=7) O (aD cj [0] O) O (q.ld 2 O O fE O) O<|D.q (i:=8) O (aD cj [0] O) O (q.bQ O) O<|D.q (i:=9) O (aD cj [0] O) O (q.aP O kO O) O<|D.q (i:=10) O (aD cj [0] O) O (q.ld 3 O O jm O) O<|D.q (i:=11) O (aD cj [0] O) O (q.SA (bnd:=[.pointer (some ⟨aH,0,none⟩)]) (cap:=[]) O O) O<|D.q (i:=14) O (aD cj [0] O) O (q.mv O) O<|D.one (i:=12) O<|Do.s (s.bs (l:=(([(⟨.func 179,#[],#[.pointer (some ⟨b1,0,none⟩),.pointer (some ⟨b2,0,none⟩)]⟩:yz),(⟨.func 80,#[.pointer (some ⟨aH,0,none⟩)],#[]⟩:yz),(⟨.func 181,#[],#[.pointer (some ⟨b1,0,none⟩),.pointer (some ⟨b4,0,none⟩),.pointer (some ⟨b2,0,none⟩)]⟩:yz),(⟨.func 80,#[.pointer (some ⟨aH,0,none⟩)],#[]⟩:yz)]):List yz)) sR Jf O O O O O O O) (fun _=>(aD Cg [0] O)) O fun b5=>?_
 refine D.one (i:=13) O<|Do.s (s.c (Qt.a (q.Hj (v:=iV ((List.length ([(⟨.func 179,#[],#[.pointer (some ⟨b1,0,none⟩),.pointer (some ⟨b2,0,none⟩)]⟩:yz),(⟨.func 80,#[.pointer (some ⟨aH,0,none⟩)],#[]⟩:yz),(⟨.func 181,#[],#[.pointer (some ⟨b1,0,none⟩),.pointer (some ⟨b4,0,none⟩),.pointer (some ⟨b2,0,none⟩)]⟩:yz),(⟨.func 80,#[.pointer (some ⟨aH,0,none⟩)],#[]⟩:yz)]):Nat):Int)) (v':=iV 4) O (q.len' (l:=([(⟨.func 179,#[],#[.pointer (some ⟨b1,0,none⟩),.pointer (some ⟨b2,0,none⟩)]⟩:yz),(⟨.func 80,#[.pointer (some ⟨aH,0,none⟩)],#[]⟩:yz),(⟨.func 181,#[],#[.pointer (some ⟨b1,0,none⟩),.pointer (some ⟨b4,0,none⟩),.pointer (some ⟨b2,0,none⟩)]⟩:yz),(⟨.func 80,#[.pointer (some ⟨aH,0,none⟩)],#[]⟩:yz)])) (bE 0 O) O Tryz.underlying238))) O) (fun _=>(aD Cg [0] O)) O fun _=>?_
 refine D.done<|R.OU 4 O<|R.reg O<|R.q (q.lss (b:=true) O O (by decide)) O<|R.nil<|R.az O O<|R.reg O<|R.q (q.idx (i:=0) (bE 0 O) O O sR O O) O<|R.q (q.Mu (x:=(⟨.func 179,#[],#[.pointer (some ⟨b1,0,none⟩),.pointer (some ⟨b2,0,none⟩)]⟩:yz)) O (q.lw (bE 0 O) O O vz O)) O<|R.u 1 O<|R.nil<|R.reg O<|R.u 1 O<|R.s O (s.aT [3,2,4,5,6,7,8,0,1,9] [0] _ _ _ O O O Py O O (fun w own hw H=>Kc b1 () b2 Gw (⟨c⟩:TP) bB lg aH ay aE av dk w own H ‹_› (by (dsimp only;omega)) ‹_› ‹_›) O) ?_
 rintro ⟨z1,z2,z3,z4⟩
 dsimp only
 refine R.u 1 O<|R.nil<|R.reg O<|R.u 1 O<|?_
 by_cases h5:(dw lg dk c).2=0
 .
  refine R.q (q.dq O O Tryz.underlying38) O<|R.nil<|R.aC O O<|R.reg O<|R.q (q.add (r:=1) O O (by decide)) O<|R.u 1 O<|R.nil<|R.again O O<|R.reg O<|R.q (q.lss (b:=true) O O (by decide)) O<|R.nil<|R.az O O<|R.reg O<|R.q (q.idx (i:=1) (bE 7 O) O O sR O O) O<|R.q (q.Mu (x:=(⟨.func 80,#[.pointer (some ⟨aH,0,none⟩)],#[]⟩:yz)) O (q.lw (bE 7 O) O O vz O)) O<|R.u 1 O<|R.nil<|R.reg O<|R.u 1 O<|R.s O (s.J3 [3,4,5,6,0,1,2,7,8,9] [] _ _ _ O O O zf O O (fun w own hw H=>kS aH z2 z3 z4 (dw lg dk c).1 w own H ‹_›) O) ?_
  rintro ⟨z5,z6,z7⟩
  dsimp only
  refine R.u 1 O<|R.nil<|R.reg O<|R.u 1 O<|?_
  by_cases h6:(ai (dw lg dk c).1).2=0
  .
   refine R.q (q.dq O O Tryz.underlying38) O<|R.nil<|R.aC O O<|R.reg O<|R.q (q.add (r:=2) O O (by decide)) O<|R.u 1 O<|R.nil<|R.again O O<|R.reg O<|R.q (q.lss (b:=true) O O (by decide)) O<|R.nil<|R.az O O<|R.reg O<|R.q (q.idx (i:=2) (bE 7 O) O O sR O O) O<|R.q (q.Mu (x:=(⟨.func 181,#[],#[.pointer (some ⟨b1,0,none⟩),.pointer (some ⟨b4,0,none⟩),.pointer (some ⟨b2,0,none⟩)]⟩:yz)) O (q.lw (bE 7 O) O O vz O)) O<|R.u 1 O<|R.nil<|R.reg O<|R.u 1 O<|R.s O (s.aT [4,8,5,6,0,1,2,3,7,9] [0] _ _ _ O O O PD O O (fun w own hw H=>Kd b1 () b4 (⟨(lg.Next+(c.length:Int))⟩:SB) b2 z1 (⟨c⟩:TP) bB lg aH z5 z6 z7 (ai (dw lg dk c).1).1 w own H ‹_› (by (dsimp only;omega)) (by (dsimp only;omega)) ‹_›) O) ?_
   rintro ⟨z8,z9,lE,lX⟩
   dsimp only
   refine R.u 1 O<|R.nil<|R.reg O<|R.u 1 O<|?_
   by_cases h7:(ap (ai (dw lg dk c).1).1 (lg.From+(lg.Next+(c.length:Int))) (dE 99 (lg.First+(lg.Next+(c.length:Int))) (bY (c.length:Int)))).2=0
   .
    refine R.q (q.dq O O Tryz.underlying38) O<|R.nil<|R.aC O O<|R.reg O<|R.q (q.add (r:=3) O O (by decide)) O<|R.u 1 O<|R.nil<|R.again O O<|R.reg O<|R.q (q.lss (b:=true) O O (by decide)) O<|R.nil<|R.az O O<|R.reg O<|R.q (q.idx (i:=3) (bE 8 O) O O sR O O) O<|R.q (q.Mu (x:=(⟨.func 80,#[.pointer (some ⟨aH,0,none⟩)],#[]⟩:yz)) O (q.lw (bE 8 O) O O vz O)) O<|R.u 1 O<|R.nil<|R.reg O<|R.u 1 O<|R.s O (s.J3 [4,5,6,7,0,1,2,3,8,9] [] _ _ _ O O O zf O O (fun w own hw H=>kS aH z9 lE lX (ap (ai (dw lg dk c).1).1 (lg.From+(lg.Next+(c.length:Int))) (dE 99 (lg.First+(lg.Next+(c.length:Int))) (bY (c.length:Int)))).1 w own H ‹_›) O) ?_
    rintro ⟨z12,pA,yv⟩
    dsimp only
    refine R.u 1 O<|R.nil<|R.reg O<|R.u 1 O<|?_
    by_cases h8:(ai (ap (ai (dw lg dk c).1).1 (lg.From+(lg.Next+(c.length:Int))) (dE 99 (lg.First+(lg.Next+(c.length:Int))) (bY (c.length:Int)))).1).2=0
    .
     refine R.q (q.dq O O Tryz.underlying38) O<|R.nil<|R.aC O O<|R.reg O<|R.q (q.add (r:=4) O O (by decide)) O<|R.u 1 O<|R.nil<|R.again O O<|R.reg O<|R.q (q.lss (b:=false) O O (by decide)) O<|R.nil<|R.aC O O<|R.reg O<|R.q (q.ld 4 O O fE O) O<|R.q (q.ld 5 O O au O) O<|R.q (q.bC (r:=(lg.Next+(c.length:Int))+1) O O) O<|R.q (q.bQ O) O<|R.q (q.aP O jV O) O<|R.s O (s.st 7 _ O O O O (.inr ⟨au,rfl⟩) O O O O) fun _=>?_
     refine R.nil<|R.reg O<|R.u 1 O<|R.nil ?_
     have hz:cz lg dk c=((⟨lg.From,lg.Many,lg.First,((lg.Next+(c.length:Int))+1)⟩:Lg),(ai (ap (ai (dw lg dk c).1).1 (lg.From+(lg.Next+(c.length:Int))) (dE 99 (lg.First+(lg.Next+(c.length:Int))) (bY (c.length:Int)))).1).1,0):=by (exact EZ g1 ‹_› ‹_› ‹_› ‹_›)
     rw [hz]
     exact R.w1 (z12,pA,yv) [7,0,1,2,3,9] [] O Tryz.results135 (RV.tmp O) O O O (iJ O)
    refine R.q (q.dW O O Tryz.underlying38) O<|R.nil<|R.az O O<|R.reg O<|R.u 2 O<|R.nil ?_
    have hz:cz lg dk c=(lg,(ai (ap (ai (dw lg dk c).1).1 (lg.From+(lg.Next+(c.length:Int))) (dE 99 (lg.First+(lg.Next+(c.length:Int))) (bY (c.length:Int)))).1).1,(ai (ap (ai (dw lg dk c).1).1 (lg.From+(lg.Next+(c.length:Int))) (dE 99 (lg.First+(lg.Next+(c.length:Int))) (bY (c.length:Int)))).1).2):=by (exact Oe g1 ‹_› ‹_› ‹_› ‹_›)
    rw [hz]
    exact R.w1 (z12,pA,yv) [7,0,1,2,3,9] [] O Tryz.results135 (RV.tmp O) O O O O
   refine R.q (q.dW O O Tryz.underlying38) O<|R.nil<|R.az O O<|R.reg O<|R.u 2 O<|R.nil ?_
   have hz:cz lg dk c=(lg,(ap (ai (dw lg dk c).1).1 (lg.From+(lg.Next+(c.length:Int))) (dE 99 (lg.First+(lg.Next+(c.length:Int))) (bY (c.length:Int)))).1,(ap (ai (dw lg dk c).1).1 (lg.From+(lg.Next+(c.length:Int))) (dE 99 (lg.First+(lg.Next+(c.length:Int))) (bY (c.length:Int)))).2):=by (exact Od g1 ‹_› ‹_› ‹_›)
   rw [hz]
   exact R.w1 (z9,lE,lX) [3,4,5,6,7,9] [] O Tryz.results135 (RV.tmp O) O O O O
  refine R.q (q.dW O O Tryz.underlying38) O<|R.nil<|R.az O O<|R.reg O<|R.u 2 O<|R.nil ?_
  have hz:cz lg dk c=(lg,(ai (dw lg dk c).1).1,(ai (dw lg dk c).1).2):=by (exact Oc g1 ‹_› ‹_›)
  rw [hz]
  exact R.w1 (z5,z6,z7) [6,0,1,2,3,9] [] O Tryz.results135 (RV.tmp O) O O O O
 refine R.q (q.dW O O Tryz.underlying38) O<|R.nil<|R.az O O<|R.reg O<|R.u 2 O<|R.nil ?_
 have hz:cz lg dk c=(lg,(dw lg dk c).1,(dw lg dk c).2):=by (exact Ob g1 ‹_›)
 rw [hz]
 exact R.w1 (z2,z3,z4) [2,3,4,5,6,9] [] O Tryz.results135 (RV.tmp O) O O O O
end Go.Proofs.YtkbhcbipadkcaaaGreatDoor
