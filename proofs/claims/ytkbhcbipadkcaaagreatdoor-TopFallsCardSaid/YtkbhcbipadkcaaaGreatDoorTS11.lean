import Derived.Test.YtkbhcbipadkcaaaGreatDoorTS10
namespace Go.Proofs.YtkbhcbipadkcaaaGreatDoor
set_option linter.unusedVariables false
set_option linter.unusedSimpArgs false
set_option maxRecDepth 100000
set_option maxHeartbeats 90000000
open Go Go.RowKit
theorem dt (n:Int)(w:World)(hn:0<=n/\n<=9000000000000000000):Calls Tryz.prog 142 #[iV n] w fun e w'=>e = .returned (.string (bY n))/\Ext w w':=by
 refine R.enter [] [(0,iV n)] Tryz.func142 O O O O<|R.reg O<|R.u 1 O<|R.nil<|R.reg O<|R.u 1 O<|R.q (q.nf O (by rw [Tryz.underlying3];rfl) Tryz.underlying5 pL) O<|R.u 1 O<|R.q (q.shr (r:=n / 256) O O (by decide) (G6 (D:=256) (by decide) (by decide))) O<|R.q (q.nf O (by rw [Tryz.underlying3];rfl) Tryz.underlying5 pL) O<|R.u 1 O<|R.q (q.shr (r:=n / 65536) O O (by decide) (G6 (D:=65536) (by decide) (by decide))) O<|R.q (q.nf O (by rw [Tryz.underlying3];rfl) Tryz.underlying5 pL) O<|R.u 1 O<|R.q (q.shr (r:=n / 16777216) O O (by decide) (G6 (D:=16777216) (by decide) (by decide))) O<|R.q (q.nf O (by rw [Tryz.underlying3];rfl) Tryz.underlying5 pL) O<|R.s O (s.bs (l:=([(u8 (n % 256)),(u8 ((n / 256) % 256)),(u8 ((n / 65536) % 256)),(u8 ((n / 16777216) % 256))]:List UInt8)) aR eB O O O O O (ct (gA (by omega)) (ct (gA (by omega)) (ct (gA (by omega)) (ct (gA (by omega)) fV)))) O) fun b1=>?_
 exact R.q (q.kf (bD 0 O) O aR Tryz.underlying5 Tryz.underlying9) O<|R.u 1 O<|R.nil<|R.rv O Tryz.results142 O (rS (by rfl))
theorem C4 (k:Int)(n:Int)(sx:ByteArray)(w:World)(hk:0<=k/\k<=255)(hn:0<=n/\n<=9000000000000000000)(hs:sx.size<=41):Calls Tryz.prog 182 #[.int .u8 k,iV n,.string sx] w fun e w'=>e = .returned (.string (dD k n sx))/\Ext w w':=by
 refine R.enter [] [(0,.int .u8 k),(1,iV n),(2,.string sx)] Tryz.func182 O O O O<|R.reg O<|R.u 1 O<|R.nil<|R.fJ (fuel:=19) [] O O mixed O<|D.q (i:=0) O (aA [] [] O) O (q.mv O) O<|D.q (i:=3) O (aA [] [] O) O (q.mv O) O<|D.q (i:=6) O (aA [] [] O) O (q.mv O) O<|D.q (i:=7) O (aA [] [] O) O (q.iy O Tryz.underlying9) O<|D.q (i:=8) O (aA [] [] O) O (q.nf (r:=((sx.size:Nat):Int)) O (by rw [Tryz.underlying3];rfl) Tryz.underlying5 (wh (by omega))) O<|D.q (i:=9) O (aA [] [] O) O (q.mv O) O<|D.q (i:=10) O (aA [] [] O) O (q.iy O Tryz.underlying9) O<|D.q (i:=11) O (aA [] [] O) O (q.shr (r:=(((sx.size / 256):Nat):Int)) O O (by decide) (LX (by decide))) O<|D.q (i:=12) O (aA [] [] O) O (q.nf (r:=(((sx.size / 256):Nat):Int)) O (by rw [Tryz.underlying3];rfl) Tryz.underlying5 (wh (by omega))) O<|D.q (i:=16) O (aA [] [] O) O (q.mv O) O<|D.three (i:=1) (j:=4) (m:=13) O O O ?_ ?_ ?_
 .
  refine Do.s (s.bs (l:=([(u8 k)]:List UInt8)) aR eB O O O O O (ct (gA (by omega)) fV) O) (fun _=>(aA [] [] O)) O fun b1=>?_
  refine D.three (i:=2) (j:=4) (m:=13) O O O ?_ ?_ ?_
  .
   refine Do.s (s.c (Qt.a (q.kf (bD 0 O) O aR Tryz.underlying5 Tryz.underlying9)) O) (fun _=>(aA [] [] O)) O fun _=>?_
   refine D.two (i:=4) (j:=13) O O ?_ ?_
   .
    refine Do.s (s.c (q.call fy O O (fun w hw=>(dt n w (by omega)))) O) (fun _=>(aA [] [] O)) O fun _=>?_
    refine D.q (i:=5) O (aA [] [] O) O (q.cat O O (by (simp only [ByteArray.size_append,aI,aG,List.length_cons,List.length_nil];omega))) O<|D.one (i:=13) O<|Do.s (s.bs (l:=([(UInt8.ofNat sx.size),(UInt8.ofNat (sx.size / 256))]:List UInt8)) aR eB O O O O O (ct (dF (by omega)) (ct (dF (by omega)) fV)) O) (fun _=>(aA [] [] O)) O fun b2=>?_
    refine D.one (i:=14) O<|Do.s (s.c (Qt.a (q.kf (bD 0 O) O aR Tryz.underlying5 Tryz.underlying9)) O) (fun _=>(aA [] [] O)) O fun _=>?_
    exact D.q (i:=15) rfl (fun _=>Wd.pk [] [] rfl) rfl (q.cat rfl rfl (by (simp only [ByteArray.size_append,aI,aG,List.length_cons,List.length_nil];omega))) rfl<|D.q (i:=17) rfl (fun _=>Wd.pk [] [] rfl) rfl (q.cat rfl rfl (by (simp only [ByteArray.size_append,aI,aG,List.length_cons,List.length_nil];omega))) rfl<|D.q (i:=18) rfl (fun _=>Wd.pk [] [] rfl) rfl (q.as rfl) rfl<|D.done<|R.rv rfl Tryz.results182 rfl (rS (by rfl))
   refine Do.s (s.bs (l:=([(UInt8.ofNat sx.size),(UInt8.ofNat (sx.size / 256))]:List UInt8)) aR eB O O O O O (ct (dF (by omega)) (ct (dF (by omega)) fV)) O) (fun _=>(aA [] [] O)) O fun b3=>?_
   refine D.two (i:=4) (j:=14) O O ?_ ?_
   .
    refine Do.s (s.c (q.call fy O O (fun w hw=>(dt n w (by omega)))) O) (fun _=>(aA [] [] O)) O fun _=>?_
    refine D.q (i:=5) O (aA [] [] O) O (q.cat O O (by (simp only [ByteArray.size_append,aI,aG,List.length_cons,List.length_nil];omega))) O<|D.one (i:=14) O<|Do.s (s.c (Qt.a (q.kf (bD 0 O) O aR Tryz.underlying5 Tryz.underlying9)) O) (fun _=>(aA [] [] O)) O fun _=>?_
    exact D.q (i:=15) rfl (fun _=>Wd.pk [] [] rfl) rfl (q.cat rfl rfl (by (simp only [ByteArray.size_append,aI,aG,List.length_cons,List.length_nil];omega))) rfl<|D.q (i:=17) rfl (fun _=>Wd.pk [] [] rfl) rfl (q.cat rfl rfl (by (simp only [ByteArray.size_append,aI,aG,List.length_cons,List.length_nil];omega))) rfl<|D.q (i:=18) rfl (fun _=>Wd.pk [] [] rfl) rfl (q.as rfl) rfl<|D.done<|R.rv rfl Tryz.results182 rfl (rS (by rfl))
   refine Do.s (s.c (Qt.a (q.kf (bD 0 O) O aR Tryz.underlying5 Tryz.underlying9)) O) (fun _=>(aA [] [] O)) O fun _=>?_
   refine D.one (i:=4) O<|Do.s (s.c (q.call fy O O (fun w hw=>(dt n w (by omega)))) O) (fun _=>(aA [] [] O)) O fun _=>?_
   exact D.q (i:=5) rfl (fun _=>Wd.pk [] [] rfl) rfl (q.cat rfl rfl (by (simp only [ByteArray.size_append,aI,aG,List.length_cons,List.length_nil];omega))) rfl<|D.q (i:=15) rfl (fun _=>Wd.pk [] [] rfl) rfl (q.cat rfl rfl (by (simp only [ByteArray.size_append,aI,aG,List.length_cons,List.length_nil];omega))) rfl<|D.q (i:=17) rfl (fun _=>Wd.pk [] [] rfl) rfl (q.cat rfl rfl (by (simp only [ByteArray.size_append,aI,aG,List.length_cons,List.length_nil];omega))) rfl<|D.q (i:=18) rfl (fun _=>Wd.pk [] [] rfl) rfl (q.as rfl) rfl<|D.done<|R.rv rfl Tryz.results182 rfl (rS (by rfl))
  .
   refine Do.s (s.c (q.call fy O O (fun w hw=>(dt n w (by omega)))) O) (fun _=>(aA [] [] O)) O fun _=>?_
   refine D.two (i:=2) (j:=13) O O ?_ ?_
   .
    refine Do.s (s.c (Qt.a (q.kf (bD 0 O) O aR Tryz.underlying5 Tryz.underlying9)) O) (fun _=>(aA [] [] O)) O fun _=>?_
    refine D.q (i:=5) O (aA [] [] O) O (q.cat O O (by (simp only [ByteArray.size_append,aI,aG,List.length_cons,List.length_nil];omega))) O<|D.one (i:=13) O<|Do.s (s.bs (l:=([(UInt8.ofNat sx.size),(UInt8.ofNat (sx.size / 256))]:List UInt8)) aR eB O O O O O (ct (dF (by omega)) (ct (dF (by omega)) fV)) O) (fun _=>(aA [] [] O)) O fun b4=>?_
    refine D.one (i:=14) O<|Do.s (s.c (Qt.a (q.kf (bD 0 O) O aR Tryz.underlying5 Tryz.underlying9)) O) (fun _=>(aA [] [] O)) O fun _=>?_
    exact D.q (i:=15) rfl (fun _=>Wd.pk [] [] rfl) rfl (q.cat rfl rfl (by (simp only [ByteArray.size_append,aI,aG,List.length_cons,List.length_nil];omega))) rfl<|D.q (i:=17) rfl (fun _=>Wd.pk [] [] rfl) rfl (q.cat rfl rfl (by (simp only [ByteArray.size_append,aI,aG,List.length_cons,List.length_nil];omega))) rfl<|D.q (i:=18) rfl (fun _=>Wd.pk [] [] rfl) rfl (q.as rfl) rfl<|D.done<|R.rv rfl Tryz.results182 rfl (rS (by rfl))
   refine Do.s (s.bs (l:=([(UInt8.ofNat sx.size),(UInt8.ofNat (sx.size / 256))]:List UInt8)) aR eB O O O O O (ct (dF (by omega)) (ct (dF (by omega)) fV)) O) (fun _=>(aA [] [] O)) O fun b5=>?_
   refine D.two (i:=2) (j:=14) O O ?_ ?_
   .
    refine Do.s (s.c (Qt.a (q.kf (bD 1 O) O aR Tryz.underlying5 Tryz.underlying9)) O) (fun _=>(aA [] [] O)) O fun _=>?_
    refine D.q (i:=5) O (aA [] [] O) O (q.cat O O (by (simp only [ByteArray.size_append,aI,aG,List.length_cons,List.length_nil];omega))) O<|D.one (i:=14) O<|Do.s (s.c (Qt.a (q.kf (bD 0 O) O aR Tryz.underlying5 Tryz.underlying9)) O) (fun _=>(aA [] [] O)) O fun _=>?_
    exact D.q (i:=15) rfl (fun _=>Wd.pk [] [] rfl) rfl (q.cat rfl rfl (by (simp only [ByteArray.size_append,aI,aG,List.length_cons,List.length_nil];omega))) rfl<|D.q (i:=17) rfl (fun _=>Wd.pk [] [] rfl) rfl (q.cat rfl rfl (by (simp only [ByteArray.size_append,aI,aG,List.length_cons,List.length_nil];omega))) rfl<|D.q (i:=18) rfl (fun _=>Wd.pk [] [] rfl) rfl (q.as rfl) rfl<|D.done<|R.rv rfl Tryz.results182 rfl (rS (by rfl))
   refine Do.s (s.c (Qt.a (q.kf (bD 0 O) O aR Tryz.underlying5 Tryz.underlying9)) O) (fun _=>(aA [] [] O)) O fun _=>?_
   refine D.one (i:=2) O<|Do.s (s.c (Qt.a (q.kf (bD 1 O) O aR Tryz.underlying5 Tryz.underlying9)) O) (fun _=>(aA [] [] O)) O fun _=>?_
   exact D.q (i:=5) rfl (fun _=>Wd.pk [] [] rfl) rfl (q.cat rfl rfl (by (simp only [ByteArray.size_append,aI,aG,List.length_cons,List.length_nil];omega))) rfl<|D.q (i:=15) rfl (fun _=>Wd.pk [] [] rfl) rfl (q.cat rfl rfl (by (simp only [ByteArray.size_append,aI,aG,List.length_cons,List.length_nil];omega))) rfl<|D.q (i:=17) rfl (fun _=>Wd.pk [] [] rfl) rfl (q.cat rfl rfl (by (simp only [ByteArray.size_append,aI,aG,List.length_cons,List.length_nil];omega))) rfl<|D.q (i:=18) rfl (fun _=>Wd.pk [] [] rfl) rfl (q.as rfl) rfl<|D.done<|R.rv rfl Tryz.results182 rfl (rS (by rfl))
  refine Do.s (s.bs (l:=([(UInt8.ofNat sx.size),(UInt8.ofNat (sx.size / 256))]:List UInt8)) aR eB O O O O O (ct (dF (by omega)) (ct (dF (by omega)) fV)) O) (fun _=>(aA [] [] O)) O fun b6=>?_
  refine D.three (i:=2) (j:=4) (m:=14) O O O ?_ ?_ ?_
  .
   refine Do.s (s.c (Qt.a (q.kf (bD 1 O) O aR Tryz.underlying5 Tryz.underlying9)) O) (fun _=>(aA [] [] O)) O fun _=>?_
   refine D.two (i:=4) (j:=14) O O ?_ ?_
   .
    refine Do.s (s.c (q.call fy O O (fun w hw=>(dt n w (by omega)))) O) (fun _=>(aA [] [] O)) O fun _=>?_
    refine D.q (i:=5) O (aA [] [] O) O (q.cat O O (by (simp only [ByteArray.size_append,aI,aG,List.length_cons,List.length_nil];omega))) O<|D.one (i:=14) O<|Do.s (s.c (Qt.a (q.kf (bD 0 O) O aR Tryz.underlying5 Tryz.underlying9)) O) (fun _=>(aA [] [] O)) O fun _=>?_
    exact D.q (i:=15) rfl (fun _=>Wd.pk [] [] rfl) rfl (q.cat rfl rfl (by (simp only [ByteArray.size_append,aI,aG,List.length_cons,List.length_nil];omega))) rfl<|D.q (i:=17) rfl (fun _=>Wd.pk [] [] rfl) rfl (q.cat rfl rfl (by (simp only [ByteArray.size_append,aI,aG,List.length_cons,List.length_nil];omega))) rfl<|D.q (i:=18) rfl (fun _=>Wd.pk [] [] rfl) rfl (q.as rfl) rfl<|D.done<|R.rv rfl Tryz.results182 rfl (rS (by rfl))
   refine Do.s (s.c (Qt.a (q.kf (bD 0 O) O aR Tryz.underlying5 Tryz.underlying9)) O) (fun _=>(aA [] [] O)) O fun _=>?_
   refine D.one (i:=4) O<|Do.s (s.c (q.call fy O O (fun w hw=>(dt n w (by omega)))) O) (fun _=>(aA [] [] O)) O fun _=>?_
   exact D.q (i:=5) rfl (fun _=>Wd.pk [] [] rfl) rfl (q.cat rfl rfl (by (simp only [ByteArray.size_append,aI,aG,List.length_cons,List.length_nil];omega))) rfl<|D.q (i:=15) rfl (fun _=>Wd.pk [] [] rfl) rfl (q.cat rfl rfl (by (simp only [ByteArray.size_append,aI,aG,List.length_cons,List.length_nil];omega))) rfl<|D.q (i:=17) rfl (fun _=>Wd.pk [] [] rfl) rfl (q.cat rfl rfl (by (simp only [ByteArray.size_append,aI,aG,List.length_cons,List.length_nil];omega))) rfl<|D.q (i:=18) rfl (fun _=>Wd.pk [] [] rfl) rfl (q.as rfl) rfl<|D.done<|R.rv rfl Tryz.results182 rfl (rS (by rfl))
  .
   refine Do.s (s.c (q.call fy O O (fun w hw=>(dt n w (by omega)))) O) (fun _=>(aA [] [] O)) O fun _=>?_
   refine D.two (i:=2) (j:=14) O O ?_ ?_
   .
    refine Do.s (s.c (Qt.a (q.kf (bD 1 O) O aR Tryz.underlying5 Tryz.underlying9)) O) (fun _=>(aA [] [] O)) O fun _=>?_
    refine D.q (i:=5) O (aA [] [] O) O (q.cat O O (by (simp only [ByteArray.size_append,aI,aG,List.length_cons,List.length_nil];omega))) O<|D.one (i:=14) O<|Do.s (s.c (Qt.a (q.kf (bD 0 O) O aR Tryz.underlying5 Tryz.underlying9)) O) (fun _=>(aA [] [] O)) O fun _=>?_
    exact D.q (i:=15) rfl (fun _=>Wd.pk [] [] rfl) rfl (q.cat rfl rfl (by (simp only [ByteArray.size_append,aI,aG,List.length_cons,List.length_nil];omega))) rfl<|D.q (i:=17) rfl (fun _=>Wd.pk [] [] rfl) rfl (q.cat rfl rfl (by (simp only [ByteArray.size_append,aI,aG,List.length_cons,List.length_nil];omega))) rfl<|D.q (i:=18) rfl (fun _=>Wd.pk [] [] rfl) rfl (q.as rfl) rfl<|D.done<|R.rv rfl Tryz.results182 rfl (rS (by rfl))
   refine Do.s (s.c (Qt.a (q.kf (bD 0 O) O aR Tryz.underlying5 Tryz.underlying9)) O) (fun _=>(aA [] [] O)) O fun _=>?_
   refine D.one (i:=2) O<|Do.s (s.c (Qt.a (q.kf (bD 1 O) O aR Tryz.underlying5 Tryz.underlying9)) O) (fun _=>(aA [] [] O)) O fun _=>?_
   exact D.q (i:=5) rfl (fun _=>Wd.pk [] [] rfl) rfl (q.cat rfl rfl (by (simp only [ByteArray.size_append,aI,aG,List.length_cons,List.length_nil];omega))) rfl<|D.q (i:=15) rfl (fun _=>Wd.pk [] [] rfl) rfl (q.cat rfl rfl (by (simp only [ByteArray.size_append,aI,aG,List.length_cons,List.length_nil];omega))) rfl<|D.q (i:=17) rfl (fun _=>Wd.pk [] [] rfl) rfl (q.cat rfl rfl (by (simp only [ByteArray.size_append,aI,aG,List.length_cons,List.length_nil];omega))) rfl<|D.q (i:=18) rfl (fun _=>Wd.pk [] [] rfl) rfl (q.as rfl) rfl<|D.done<|R.rv rfl Tryz.results182 rfl (rS (by rfl))
  refine Do.s (s.c (Qt.a (q.kf (bD 0 O) O aR Tryz.underlying5 Tryz.underlying9)) O) (fun _=>(aA [] [] O)) O fun _=>?_
  refine D.two (i:=2) (j:=4) O O ?_ ?_
  .
   refine Do.s (s.c (Qt.a (q.kf (bD 1 O) O aR Tryz.underlying5 Tryz.underlying9)) O) (fun _=>(aA [] [] O)) O fun _=>?_
   refine D.one (i:=4) O<|Do.s (s.c (q.call fy O O (fun w hw=>(dt n w (by omega)))) O) (fun _=>(aA [] [] O)) O fun _=>?_
   exact D.q (i:=5) rfl (fun _=>Wd.pk [] [] rfl) rfl (q.cat rfl rfl (by (simp only [ByteArray.size_append,aI,aG,List.length_cons,List.length_nil];omega))) rfl<|D.q (i:=15) rfl (fun _=>Wd.pk [] [] rfl) rfl (q.cat rfl rfl (by (simp only [ByteArray.size_append,aI,aG,List.length_cons,List.length_nil];omega))) rfl<|D.q (i:=17) rfl (fun _=>Wd.pk [] [] rfl) rfl (q.cat rfl rfl (by (simp only [ByteArray.size_append,aI,aG,List.length_cons,List.length_nil];omega))) rfl<|D.q (i:=18) rfl (fun _=>Wd.pk [] [] rfl) rfl (q.as rfl) rfl<|D.done<|R.rv rfl Tryz.results182 rfl (rS (by rfl))
  refine Do.s (s.c (q.call fy O O (fun w hw=>(dt n w (by omega)))) O) (fun _=>(aA [] [] O)) O fun _=>?_
  refine D.one (i:=2) O<|Do.s (s.c (Qt.a (q.kf (bD 1 O) O aR Tryz.underlying5 Tryz.underlying9)) O) (fun _=>(aA [] [] O)) O fun _=>?_
  exact D.q (i:=5) rfl (fun _=>Wd.pk [] [] rfl) rfl (q.cat rfl rfl (by (simp only [ByteArray.size_append,aI,aG,List.length_cons,List.length_nil];omega))) rfl<|D.q (i:=15) rfl (fun _=>Wd.pk [] [] rfl) rfl (q.cat rfl rfl (by (simp only [ByteArray.size_append,aI,aG,List.length_cons,List.length_nil];omega))) rfl<|D.q (i:=17) rfl (fun _=>Wd.pk [] [] rfl) rfl (q.cat rfl rfl (by (simp only [ByteArray.size_append,aI,aG,List.length_cons,List.length_nil];omega))) rfl<|D.q (i:=18) rfl (fun _=>Wd.pk [] [] rfl) rfl (q.as rfl) rfl<|D.done<|R.rv rfl Tryz.results182 rfl (rS (by rfl))
 .
  refine Do.s (s.c (q.call fy O O (fun w hw=>(dt n w (by omega)))) O) (fun _=>(aA [] [] O)) O fun _=>?_
  refine D.two (i:=1) (j:=13) O O ?_ ?_
  .
   refine Do.s (s.bs (l:=([(u8 k)]:List UInt8)) aR eB O O O O O (ct (gA (by omega)) fV) O) (fun _=>(aA [] [] O)) O fun b7=>?_
   refine D.two (i:=2) (j:=13) O O ?_ ?_
   .
    refine Do.s (s.c (Qt.a (q.kf (bD 0 O) O aR Tryz.underlying5 Tryz.underlying9)) O) (fun _=>(aA [] [] O)) O fun _=>?_
    refine D.q (i:=5) O (aA [] [] O) O (q.cat O O (by (simp only [ByteArray.size_append,aI,aG,List.length_cons,List.length_nil];omega))) O<|D.one (i:=13) O<|Do.s (s.bs (l:=([(UInt8.ofNat sx.size),(UInt8.ofNat (sx.size / 256))]:List UInt8)) aR eB O O O O O (ct (dF (by omega)) (ct (dF (by omega)) fV)) O) (fun _=>(aA [] [] O)) O fun b8=>?_
    refine D.one (i:=14) O<|Do.s (s.c (Qt.a (q.kf (bD 0 O) O aR Tryz.underlying5 Tryz.underlying9)) O) (fun _=>(aA [] [] O)) O fun _=>?_
    exact D.q (i:=15) rfl (fun _=>Wd.pk [] [] rfl) rfl (q.cat rfl rfl (by (simp only [ByteArray.size_append,aI,aG,List.length_cons,List.length_nil];omega))) rfl<|D.q (i:=17) rfl (fun _=>Wd.pk [] [] rfl) rfl (q.cat rfl rfl (by (simp only [ByteArray.size_append,aI,aG,List.length_cons,List.length_nil];omega))) rfl<|D.q (i:=18) rfl (fun _=>Wd.pk [] [] rfl) rfl (q.as rfl) rfl<|D.done<|R.rv rfl Tryz.results182 rfl (rS (by rfl))
   refine Do.s (s.bs (l:=([(UInt8.ofNat sx.size),(UInt8.ofNat (sx.size / 256))]:List UInt8)) aR eB O O O O O (ct (dF (by omega)) (ct (dF (by omega)) fV)) O) (fun _=>(aA [] [] O)) O fun b9=>?_
   refine D.two (i:=2) (j:=14) O O ?_ ?_
   .
    refine Do.s (s.c (Qt.a (q.kf (bD 1 O) O aR Tryz.underlying5 Tryz.underlying9)) O) (fun _=>(aA [] [] O)) O fun _=>?_
    refine D.q (i:=5) O (aA [] [] O) O (q.cat O O (by (simp only [ByteArray.size_append,aI,aG,List.length_cons,List.length_nil];omega))) O<|D.one (i:=14) O<|Do.s (s.c (Qt.a (q.kf (bD 0 O) O aR Tryz.underlying5 Tryz.underlying9)) O) (fun _=>(aA [] [] O)) O fun _=>?_
    exact D.q (i:=15) rfl (fun _=>Wd.pk [] [] rfl) rfl (q.cat rfl rfl (by (simp only [ByteArray.size_append,aI,aG,List.length_cons,List.length_nil];omega))) rfl<|D.q (i:=17) rfl (fun _=>Wd.pk [] [] rfl) rfl (q.cat rfl rfl (by (simp only [ByteArray.size_append,aI,aG,List.length_cons,List.length_nil];omega))) rfl<|D.q (i:=18) rfl (fun _=>Wd.pk [] [] rfl) rfl (q.as rfl) rfl<|D.done<|R.rv rfl Tryz.results182 rfl (rS (by rfl))
   refine Do.s (s.c (Qt.a (q.kf (bD 0 O) O aR Tryz.underlying5 Tryz.underlying9)) O) (fun _=>(aA [] [] O)) O fun _=>?_
   refine D.one (i:=2) O<|Do.s (s.c (Qt.a (q.kf (bD 1 O) O aR Tryz.underlying5 Tryz.underlying9)) O) (fun _=>(aA [] [] O)) O fun _=>?_
   exact D.q (i:=5) rfl (fun _=>Wd.pk [] [] rfl) rfl (q.cat rfl rfl (by (simp only [ByteArray.size_append,aI,aG,List.length_cons,List.length_nil];omega))) rfl<|D.q (i:=15) rfl (fun _=>Wd.pk [] [] rfl) rfl (q.cat rfl rfl (by (simp only [ByteArray.size_append,aI,aG,List.length_cons,List.length_nil];omega))) rfl<|D.q (i:=17) rfl (fun _=>Wd.pk [] [] rfl) rfl (q.cat rfl rfl (by (simp only [ByteArray.size_append,aI,aG,List.length_cons,List.length_nil];omega))) rfl<|D.q (i:=18) rfl (fun _=>Wd.pk [] [] rfl) rfl (q.as rfl) rfl<|D.done<|R.rv rfl Tryz.results182 rfl (rS (by rfl))
  refine Do.s (s.bs (l:=([(UInt8.ofNat sx.size),(UInt8.ofNat (sx.size / 256))]:List UInt8)) aR eB O O O O O (ct (dF (by omega)) (ct (dF (by omega)) fV)) O) (fun _=>(aA [] [] O)) O fun b10=>?_
  refine D.two (i:=1) (j:=14) O O ?_ ?_
  .
   refine Do.s (s.bs (l:=([(u8 k)]:List UInt8)) aR eB O O O O O (ct (gA (by omega)) fV) O) (fun _=>(aA [] [] O)) O fun b11=>?_
   refine D.two (i:=2) (j:=14) O O ?_ ?_
   .
    refine Do.s (s.c (Qt.a (q.kf (bD 0 O) O aR Tryz.underlying5 Tryz.underlying9)) O) (fun _=>(aA [] [] O)) O fun _=>?_
    refine D.q (i:=5) O (aA [] [] O) O (q.cat O O (by (simp only [ByteArray.size_append,aI,aG,List.length_cons,List.length_nil];omega))) O<|D.one (i:=14) O<|Do.s (s.c (Qt.a (q.kf (bD 1 O) O aR Tryz.underlying5 Tryz.underlying9)) O) (fun _=>(aA [] [] O)) O fun _=>?_
    exact D.q (i:=15) rfl (fun _=>Wd.pk [] [] rfl) rfl (q.cat rfl rfl (by (simp only [ByteArray.size_append,aI,aG,List.length_cons,List.length_nil];omega))) rfl<|D.q (i:=17) rfl (fun _=>Wd.pk [] [] rfl) rfl (q.cat rfl rfl (by (simp only [ByteArray.size_append,aI,aG,List.length_cons,List.length_nil];omega))) rfl<|D.q (i:=18) rfl (fun _=>Wd.pk [] [] rfl) rfl (q.as rfl) rfl<|D.done<|R.rv rfl Tryz.results182 rfl (rS (by rfl))
   refine Do.s (s.c (Qt.a (q.kf (bD 1 O) O aR Tryz.underlying5 Tryz.underlying9)) O) (fun _=>(aA [] [] O)) O fun _=>?_
   refine D.one (i:=2) O<|Do.s (s.c (Qt.a (q.kf (bD 0 O) O aR Tryz.underlying5 Tryz.underlying9)) O) (fun _=>(aA [] [] O)) O fun _=>?_
   exact D.q (i:=5) rfl (fun _=>Wd.pk [] [] rfl) rfl (q.cat rfl rfl (by (simp only [ByteArray.size_append,aI,aG,List.length_cons,List.length_nil];omega))) rfl<|D.q (i:=15) rfl (fun _=>Wd.pk [] [] rfl) rfl (q.cat rfl rfl (by (simp only [ByteArray.size_append,aI,aG,List.length_cons,List.length_nil];omega))) rfl<|D.q (i:=17) rfl (fun _=>Wd.pk [] [] rfl) rfl (q.cat rfl rfl (by (simp only [ByteArray.size_append,aI,aG,List.length_cons,List.length_nil];omega))) rfl<|D.q (i:=18) rfl (fun _=>Wd.pk [] [] rfl) rfl (q.as rfl) rfl<|D.done<|R.rv rfl Tryz.results182 rfl (rS (by rfl))
  refine Do.s (s.c (Qt.a (q.kf (bD 0 O) O aR Tryz.underlying5 Tryz.underlying9)) O) (fun _=>(aA [] [] O)) O fun _=>?_
  refine D.one (i:=1) O<|Do.s (s.bs (l:=([(u8 k)]:List UInt8)) aR eB O O O O O (ct (gA (by omega)) fV) O) (fun _=>(aA [] [] O)) O fun b12=>?_
  refine D.one (i:=2) O<|Do.s (s.c (Qt.a (q.kf (bD 0 O) O aR Tryz.underlying5 Tryz.underlying9)) O) (fun _=>(aA [] [] O)) O fun _=>?_
  exact D.q (i:=5) rfl (fun _=>Wd.pk [] [] rfl) rfl (q.cat rfl rfl (by (simp only [ByteArray.size_append,aI,aG,List.length_cons,List.length_nil];omega))) rfl<|D.q (i:=15) rfl (fun _=>Wd.pk [] [] rfl) rfl (q.cat rfl rfl (by (simp only [ByteArray.size_append,aI,aG,List.length_cons,List.length_nil];omega))) rfl<|D.q (i:=17) rfl (fun _=>Wd.pk [] [] rfl) rfl (q.cat rfl rfl (by (simp only [ByteArray.size_append,aI,aG,List.length_cons,List.length_nil];omega))) rfl<|D.q (i:=18) rfl (fun _=>Wd.pk [] [] rfl) rfl (q.as rfl) rfl<|D.done<|R.rv rfl Tryz.results182 rfl (rS (by rfl))
 refine Do.s (s.bs (l:=([(UInt8.ofNat sx.size),(UInt8.ofNat (sx.size / 256))]:List UInt8)) aR eB O O O O O (ct (dF (by omega)) (ct (dF (by omega)) fV)) O) (fun _=>(aA [] [] O)) O fun b13=>?_
 refine D.three (i:=1) (j:=4) (m:=14) O O O ?_ ?_ ?_
 .
  refine Do.s (s.bs (l:=([(u8 k)]:List UInt8)) aR eB O O O O O (ct (gA (by omega)) fV) O) (fun _=>(aA [] [] O)) O fun b14=>?_
  refine D.three (i:=2) (j:=4) (m:=14) O O O ?_ ?_ ?_
  .
   refine Do.s (s.c (Qt.a (q.kf (bD 0 O) O aR Tryz.underlying5 Tryz.underlying9)) O) (fun _=>(aA [] [] O)) O fun _=>?_
   refine D.two (i:=4) (j:=14) O O ?_ ?_
   .
    refine Do.s (s.c (q.call fy O O (fun w hw=>(dt n w (by omega)))) O) (fun _=>(aA [] [] O)) O fun _=>?_
    refine D.q (i:=5) O (aA [] [] O) O (q.cat O O (by (simp only [ByteArray.size_append,aI,aG,List.length_cons,List.length_nil];omega))) O<|D.one (i:=14) O<|Do.s (s.c (Qt.a (q.kf (bD 1 O) O aR Tryz.underlying5 Tryz.underlying9)) O) (fun _=>(aA [] [] O)) O fun _=>?_
    exact D.q (i:=15) rfl (fun _=>Wd.pk [] [] rfl) rfl (q.cat rfl rfl (by (simp only [ByteArray.size_append,aI,aG,List.length_cons,List.length_nil];omega))) rfl<|D.q (i:=17) rfl (fun _=>Wd.pk [] [] rfl) rfl (q.cat rfl rfl (by (simp only [ByteArray.size_append,aI,aG,List.length_cons,List.length_nil];omega))) rfl<|D.q (i:=18) rfl (fun _=>Wd.pk [] [] rfl) rfl (q.as rfl) rfl<|D.done<|R.rv rfl Tryz.results182 rfl (rS (by rfl))
   refine Do.s (s.c (Qt.a (q.kf (bD 1 O) O aR Tryz.underlying5 Tryz.underlying9)) O) (fun _=>(aA [] [] O)) O fun _=>?_
   refine D.one (i:=4) O<|Do.s (s.c (q.call fy O O (fun w hw=>(dt n w (by omega)))) O) (fun _=>(aA [] [] O)) O fun _=>?_
   exact D.q (i:=5) rfl (fun _=>Wd.pk [] [] rfl) rfl (q.cat rfl rfl (by (simp only [ByteArray.size_append,aI,aG,List.length_cons,List.length_nil];omega))) rfl<|D.q (i:=15) rfl (fun _=>Wd.pk [] [] rfl) rfl (q.cat rfl rfl (by (simp only [ByteArray.size_append,aI,aG,List.length_cons,List.length_nil];omega))) rfl<|D.q (i:=17) rfl (fun _=>Wd.pk [] [] rfl) rfl (q.cat rfl rfl (by (simp only [ByteArray.size_append,aI,aG,List.length_cons,List.length_nil];omega))) rfl<|D.q (i:=18) rfl (fun _=>Wd.pk [] [] rfl) rfl (q.as rfl) rfl<|D.done<|R.rv rfl Tryz.results182 rfl (rS (by rfl))
  .
   refine Do.s (s.c (q.call fy O O (fun w hw=>(dt n w (by omega)))) O) (fun _=>(aA [] [] O)) O fun _=>?_
   refine D.two (i:=2) (j:=14) O O ?_ ?_
   .
    refine Do.s (s.c (Qt.a (q.kf (bD 0 O) O aR Tryz.underlying5 Tryz.underlying9)) O) (fun _=>(aA [] [] O)) O fun _=>?_
    refine D.q (i:=5) O (aA [] [] O) O (q.cat O O (by (simp only [ByteArray.size_append,aI,aG,List.length_cons,List.length_nil];omega))) O<|D.one (i:=14) O<|Do.s (s.c (Qt.a (q.kf (bD 1 O) O aR Tryz.underlying5 Tryz.underlying9)) O) (fun _=>(aA [] [] O)) O fun _=>?_
    exact D.q (i:=15) rfl (fun _=>Wd.pk [] [] rfl) rfl (q.cat rfl rfl (by (simp only [ByteArray.size_append,aI,aG,List.length_cons,List.length_nil];omega))) rfl<|D.q (i:=17) rfl (fun _=>Wd.pk [] [] rfl) rfl (q.cat rfl rfl (by (simp only [ByteArray.size_append,aI,aG,List.length_cons,List.length_nil];omega))) rfl<|D.q (i:=18) rfl (fun _=>Wd.pk [] [] rfl) rfl (q.as rfl) rfl<|D.done<|R.rv rfl Tryz.results182 rfl (rS (by rfl))
   refine Do.s (s.c (Qt.a (q.kf (bD 1 O) O aR Tryz.underlying5 Tryz.underlying9)) O) (fun _=>(aA [] [] O)) O fun _=>?_
   refine D.one (i:=2) O<|Do.s (s.c (Qt.a (q.kf (bD 0 O) O aR Tryz.underlying5 Tryz.underlying9)) O) (fun _=>(aA [] [] O)) O fun _=>?_
   exact D.q (i:=5) rfl (fun _=>Wd.pk [] [] rfl) rfl (q.cat rfl rfl (by (simp only [ByteArray.size_append,aI,aG,List.length_cons,List.length_nil];omega))) rfl<|D.q (i:=15) rfl (fun _=>Wd.pk [] [] rfl) rfl (q.cat rfl rfl (by (simp only [ByteArray.size_append,aI,aG,List.length_cons,List.length_nil];omega))) rfl<|D.q (i:=17) rfl (fun _=>Wd.pk [] [] rfl) rfl (q.cat rfl rfl (by (simp only [ByteArray.size_append,aI,aG,List.length_cons,List.length_nil];omega))) rfl<|D.q (i:=18) rfl (fun _=>Wd.pk [] [] rfl) rfl (q.as rfl) rfl<|D.done<|R.rv rfl Tryz.results182 rfl (rS (by rfl))
  refine Do.s (s.c (Qt.a (q.kf (bD 1 O) O aR Tryz.underlying5 Tryz.underlying9)) O) (fun _=>(aA [] [] O)) O fun _=>?_
  refine D.two (i:=2) (j:=4) O O ?_ ?_
  .
   refine Do.s (s.c (Qt.a (q.kf (bD 0 O) O aR Tryz.underlying5 Tryz.underlying9)) O) (fun _=>(aA [] [] O)) O fun _=>?_
   refine D.one (i:=4) O<|Do.s (s.c (q.call fy O O (fun w hw=>(dt n w (by omega)))) O) (fun _=>(aA [] [] O)) O fun _=>?_
   exact D.q (i:=5) rfl (fun _=>Wd.pk [] [] rfl) rfl (q.cat rfl rfl (by (simp only [ByteArray.size_append,aI,aG,List.length_cons,List.length_nil];omega))) rfl<|D.q (i:=15) rfl (fun _=>Wd.pk [] [] rfl) rfl (q.cat rfl rfl (by (simp only [ByteArray.size_append,aI,aG,List.length_cons,List.length_nil];omega))) rfl<|D.q (i:=17) rfl (fun _=>Wd.pk [] [] rfl) rfl (q.cat rfl rfl (by (simp only [ByteArray.size_append,aI,aG,List.length_cons,List.length_nil];omega))) rfl<|D.q (i:=18) rfl (fun _=>Wd.pk [] [] rfl) rfl (q.as rfl) rfl<|D.done<|R.rv rfl Tryz.results182 rfl (rS (by rfl))
  refine Do.s (s.c (q.call fy O O (fun w hw=>(dt n w (by omega)))) O) (fun _=>(aA [] [] O)) O fun _=>?_
  refine D.one (i:=2) O<|Do.s (s.c (Qt.a (q.kf (bD 0 O) O aR Tryz.underlying5 Tryz.underlying9)) O) (fun _=>(aA [] [] O)) O fun _=>?_
  exact D.q (i:=5) rfl (fun _=>Wd.pk [] [] rfl) rfl (q.cat rfl rfl (by (simp only [ByteArray.size_append,aI,aG,List.length_cons,List.length_nil];omega))) rfl<|D.q (i:=15) rfl (fun _=>Wd.pk [] [] rfl) rfl (q.cat rfl rfl (by (simp only [ByteArray.size_append,aI,aG,List.length_cons,List.length_nil];omega))) rfl<|D.q (i:=17) rfl (fun _=>Wd.pk [] [] rfl) rfl (q.cat rfl rfl (by (simp only [ByteArray.size_append,aI,aG,List.length_cons,List.length_nil];omega))) rfl<|D.q (i:=18) rfl (fun _=>Wd.pk [] [] rfl) rfl (q.as rfl) rfl<|D.done<|R.rv rfl Tryz.results182 rfl (rS (by rfl))
 .
  refine Do.s (s.c (q.call fy O O (fun w hw=>(dt n w (by omega)))) O) (fun _=>(aA [] [] O)) O fun _=>?_
  refine D.two (i:=1) (j:=14) O O ?_ ?_
  .
   refine Do.s (s.bs (l:=([(u8 k)]:List UInt8)) aR eB O O O O O (ct (gA (by omega)) fV) O) (fun _=>(aA [] [] O)) O fun b15=>?_
   refine D.two (i:=2) (j:=14) O O ?_ ?_
   .
    refine Do.s (s.c (Qt.a (q.kf (bD 0 O) O aR Tryz.underlying5 Tryz.underlying9)) O) (fun _=>(aA [] [] O)) O fun _=>?_
    refine D.q (i:=5) O (aA [] [] O) O (q.cat O O (by (simp only [ByteArray.size_append,aI,aG,List.length_cons,List.length_nil];omega))) O<|D.one (i:=14) O<|Do.s (s.c (Qt.a (q.kf (bD 1 O) O aR Tryz.underlying5 Tryz.underlying9)) O) (fun _=>(aA [] [] O)) O fun _=>?_
    exact D.q (i:=15) rfl (fun _=>Wd.pk [] [] rfl) rfl (q.cat rfl rfl (by (simp only [ByteArray.size_append,aI,aG,List.length_cons,List.length_nil];omega))) rfl<|D.q (i:=17) rfl (fun _=>Wd.pk [] [] rfl) rfl (q.cat rfl rfl (by (simp only [ByteArray.size_append,aI,aG,List.length_cons,List.length_nil];omega))) rfl<|D.q (i:=18) rfl (fun _=>Wd.pk [] [] rfl) rfl (q.as rfl) rfl<|D.done<|R.rv rfl Tryz.results182 rfl (rS (by rfl))
   refine Do.s (s.c (Qt.a (q.kf (bD 1 O) O aR Tryz.underlying5 Tryz.underlying9)) O) (fun _=>(aA [] [] O)) O fun _=>?_
   refine D.one (i:=2) O<|Do.s (s.c (Qt.a (q.kf (bD 0 O) O aR Tryz.underlying5 Tryz.underlying9)) O) (fun _=>(aA [] [] O)) O fun _=>?_
   exact D.q (i:=5) rfl (fun _=>Wd.pk [] [] rfl) rfl (q.cat rfl rfl (by (simp only [ByteArray.size_append,aI,aG,List.length_cons,List.length_nil];omega))) rfl<|D.q (i:=15) rfl (fun _=>Wd.pk [] [] rfl) rfl (q.cat rfl rfl (by (simp only [ByteArray.size_append,aI,aG,List.length_cons,List.length_nil];omega))) rfl<|D.q (i:=17) rfl (fun _=>Wd.pk [] [] rfl) rfl (q.cat rfl rfl (by (simp only [ByteArray.size_append,aI,aG,List.length_cons,List.length_nil];omega))) rfl<|D.q (i:=18) rfl (fun _=>Wd.pk [] [] rfl) rfl (q.as rfl) rfl<|D.done<|R.rv rfl Tryz.results182 rfl (rS (by rfl))
  refine Do.s (s.c (Qt.a (q.kf (bD 0 O) O aR Tryz.underlying5 Tryz.underlying9)) O) (fun _=>(aA [] [] O)) O fun _=>?_
  refine D.one (i:=1) O<|Do.s (s.bs (l:=([(u8 k)]:List UInt8)) aR eB O O O O O (ct (gA (by omega)) fV) O) (fun _=>(aA [] [] O)) O fun b16=>?_
  refine D.one (i:=2) O<|Do.s (s.c (Qt.a (q.kf (bD 0 O) O aR Tryz.underlying5 Tryz.underlying9)) O) (fun _=>(aA [] [] O)) O fun _=>?_
  exact D.q (i:=5) rfl (fun _=>Wd.pk [] [] rfl) rfl (q.cat rfl rfl (by (simp only [ByteArray.size_append,aI,aG,List.length_cons,List.length_nil];omega))) rfl<|D.q (i:=15) rfl (fun _=>Wd.pk [] [] rfl) rfl (q.cat rfl rfl (by (simp only [ByteArray.size_append,aI,aG,List.length_cons,List.length_nil];omega))) rfl<|D.q (i:=17) rfl (fun _=>Wd.pk [] [] rfl) rfl (q.cat rfl rfl (by (simp only [ByteArray.size_append,aI,aG,List.length_cons,List.length_nil];omega))) rfl<|D.q (i:=18) rfl (fun _=>Wd.pk [] [] rfl) rfl (q.as rfl) rfl<|D.done<|R.rv rfl Tryz.results182 rfl (rS (by rfl))
 refine Do.s (s.c (Qt.a (q.kf (bD 0 O) O aR Tryz.underlying5 Tryz.underlying9)) O) (fun _=>(aA [] [] O)) O fun _=>?_
 refine D.two (i:=1) (j:=4) O O ?_ ?_
 .
  refine Do.s (s.bs (l:=([(u8 k)]:List UInt8)) aR eB O O O O O (ct (gA (by omega)) fV) O) (fun _=>(aA [] [] O)) O fun b17=>?_
  refine D.two (i:=2) (j:=4) O O ?_ ?_
  .
   refine Do.s (s.c (Qt.a (q.kf (bD 0 O) O aR Tryz.underlying5 Tryz.underlying9)) O) (fun _=>(aA [] [] O)) O fun _=>?_
   refine D.one (i:=4) O<|Do.s (s.c (q.call fy O O (fun w hw=>(dt n w (by omega)))) O) (fun _=>(aA [] [] O)) O fun _=>?_
   exact D.q (i:=5) rfl (fun _=>Wd.pk [] [] rfl) rfl (q.cat rfl rfl (by (simp only [ByteArray.size_append,aI,aG,List.length_cons,List.length_nil];omega))) rfl<|D.q (i:=15) rfl (fun _=>Wd.pk [] [] rfl) rfl (q.cat rfl rfl (by (simp only [ByteArray.size_append,aI,aG,List.length_cons,List.length_nil];omega))) rfl<|D.q (i:=17) rfl (fun _=>Wd.pk [] [] rfl) rfl (q.cat rfl rfl (by (simp only [ByteArray.size_append,aI,aG,List.length_cons,List.length_nil];omega))) rfl<|D.q (i:=18) rfl (fun _=>Wd.pk [] [] rfl) rfl (q.as rfl) rfl<|D.done<|R.rv rfl Tryz.results182 rfl (rS (by rfl))
  refine Do.s (s.c (q.call fy O O (fun w hw=>(dt n w (by omega)))) O) (fun _=>(aA [] [] O)) O fun _=>?_
  refine D.one (i:=2) O<|Do.s (s.c (Qt.a (q.kf (bD 0 O) O aR Tryz.underlying5 Tryz.underlying9)) O) (fun _=>(aA [] [] O)) O fun _=>?_
  exact D.q (i:=5) rfl (fun _=>Wd.pk [] [] rfl) rfl (q.cat rfl rfl (by (simp only [ByteArray.size_append,aI,aG,List.length_cons,List.length_nil];omega))) rfl<|D.q (i:=15) rfl (fun _=>Wd.pk [] [] rfl) rfl (q.cat rfl rfl (by (simp only [ByteArray.size_append,aI,aG,List.length_cons,List.length_nil];omega))) rfl<|D.q (i:=17) rfl (fun _=>Wd.pk [] [] rfl) rfl (q.cat rfl rfl (by (simp only [ByteArray.size_append,aI,aG,List.length_cons,List.length_nil];omega))) rfl<|D.q (i:=18) rfl (fun _=>Wd.pk [] [] rfl) rfl (q.as rfl) rfl<|D.done<|R.rv rfl Tryz.results182 rfl (rS (by rfl))
 refine Do.s (s.c (q.call fy O O (fun w hw=>(dt n w (by omega)))) O) (fun _=>(aA [] [] O)) O fun _=>?_
 refine D.one (i:=1) O<|Do.s (s.bs (l:=([(u8 k)]:List UInt8)) aR eB O O O O O (ct (gA (by omega)) fV) O) (fun _=>(aA [] [] O)) O fun b18=>?_
 refine D.one (i:=2) O<|Do.s (s.c (Qt.a (q.kf (bD 0 O) O aR Tryz.underlying5 Tryz.underlying9)) O) (fun _=>(aA [] [] O)) O fun _=>?_
 exact D.q (i:=5) rfl (fun _=>Wd.pk [] [] rfl) rfl (q.cat rfl rfl (by (simp only [ByteArray.size_append,aI,aG,List.length_cons,List.length_nil];omega))) rfl<|D.q (i:=15) rfl (fun _=>Wd.pk [] [] rfl) rfl (q.cat rfl rfl (by (simp only [ByteArray.size_append,aI,aG,List.length_cons,List.length_nil];omega))) rfl<|D.q (i:=17) rfl (fun _=>Wd.pk [] [] rfl) rfl (q.cat rfl rfl (by (simp only [ByteArray.size_append,aI,aG,List.length_cons,List.length_nil];omega))) rfl<|D.q (i:=18) rfl (fun _=>Wd.pk [] [] rfl) rfl (q.as rfl) rfl<|D.done<|R.rv rfl Tryz.results182 rfl (rS (by rfl))
theorem wX (bC:Nat)(wY:Nat)(lg:Lg)(w:World)(C5:(ag.box bC [.pointer (some ⟨wY,0,none⟩),iV lg.From,iV lg.Many,iV lg.First,iV lg.Next] 198).ok w)(hb:0<=lg.Many/\lg.Many<=1000000000/\0<=lg.Next/\lg.Next<=1000000000):Calls Tryz.prog 134 #[.pointer (some ⟨bC,0,none⟩)] w fun e w'=>e = .returned (iV (lg.Many-lg.Next))/\Ext w w':=by
 exact R.enter [] [(0,.pointer (some ⟨bC,0,none⟩))] Tryz.func134 rfl rfl rfl rfl<|R.nC (r:=ag.box bC [.pointer (some ⟨wY,0,none⟩),iV lg.From,iV lg.Many,iV lg.First,iV lg.Next] 198) C5 (jQ C5)<|R.reg rfl<|R.u 1 rfl<|R.nil<|R.eZ rfl mixed (by kernel_rfl)<|Q.u 1 rfl<|Q.q (q.bR rfl) rfl<|Q.q (q.aP rfl rL rfl) rfl<|Q.q (q.yu 0 rfl rfl ap rfl) rfl<|Q.u 1 rfl<|Q.q (q.bR rfl) rfl<|Q.q (q.aP rfl jX rfl) rfl<|Q.q (q.yu 0 rfl rfl ap rfl) rfl<|Q.q (q.lS (r:=lg.Many-lg.Next) rfl rfl) rfl<|Q.u 1 rfl<|Q.nil<|R.rv rfl Tryz.results134 rfl (rI (by rfl))
theorem C6 (bC:Nat)(wY:Nat)(lg:Lg)(w:World)(C5:(ag.box bC [.pointer (some ⟨wY,0,none⟩),iV lg.From,iV lg.Many,iV lg.First,iV lg.Next] 198).ok w)(hb:0<=lg.Many/\lg.Many<=1000000000/\0<=lg.First/\lg.First<=1000000000):Calls Tryz.prog 77 #[.pointer (some ⟨bC,0,none⟩)] w fun e w'=>e = .returned (iV (lg.First+lg.Many))/\Ext w w':=by
 exact R.enter [] [(0,.pointer (some ⟨bC,0,none⟩))] Tryz.func77 rfl rfl rfl rfl<|R.nC (r:=ag.box bC [.pointer (some ⟨wY,0,none⟩),iV lg.From,iV lg.Many,iV lg.First,iV lg.Next] 198) C5 (jQ C5)<|R.reg rfl<|R.u 1 rfl<|R.nil<|R.eZ rfl mixed (by kernel_rfl)<|Q.u 1 rfl<|Q.q (q.bR rfl) rfl<|Q.q (q.aP rfl jW rfl) rfl<|Q.q (q.yu 0 rfl rfl ap rfl) rfl<|Q.u 1 rfl<|Q.q (q.bR rfl) rfl<|Q.q (q.aP rfl rL rfl) rfl<|Q.q (q.yu 0 rfl rfl ap rfl) rfl<|Q.q (q.bA (r:=lg.First+lg.Many) rfl rfl) rfl<|Q.u 1 rfl<|Q.nil<|R.rv rfl Tryz.results77 rfl (rI (by rfl))
theorem J1 (bC:Nat)(lg:Lg)(i:Nat)(aH:Nat)(ay aF av:Value)(dk:cw)(w:World)(C5:(ag.box bC [.pointer (some ⟨aH,0,none⟩),iV lg.From,iV lg.Many,iV lg.First,iV lg.Next] 198).ok w)(wK:(ag.box aH [ay,aF,av,iV dk.Fuse,.bool dk.Down] 112).ok w)(jY:Sl w ay (dk.Kept:List ByteArray))(kR:Sl w aF (dk.Now:List ByteArray))(jZ:Sl w av (dk.Wait:List Turn))(hb : -1000000000<=lg.From/\lg.From<=1000000000/\0<=lg.First/\lg.First<=8000000000000000000/\i<=1000000000)(hr:(cj dk (lg.From+(i:Int))).2=0)(hs:(cj dk (lg.From+(i:Int))).1.size=48):Calls Tryz.prog 141 #[.pointer (some ⟨bC,0,none⟩),iV (i:Int)] w fun e w'=>e = .returned (.tuple #[.int .u8 (o5 (cj dk (lg.From+(i:Int))).1 (lg.First+(i:Int)):Int),.string (ku (cj dk (lg.From+(i:Int))).1 (lg.First+(i:Int))),.bool (jc (cj dk (lg.From+(i:Int))).1 (lg.First+(i:Int)))])/\Ext w w':=by
 refine R.enter [] [(0,.pointer (some ⟨bC,0,none⟩)),(1,iV (i:Int))] Tryz.func141 O O O O<|R.pK jY<|R.pK kR<|R.pK jZ<|R.nC (r:=ag.box bC [.pointer (some ⟨aH,0,none⟩),iV lg.From,iV lg.Many,iV lg.First,iV lg.Next] 198) C5 (jQ C5)<|R.nC (r:=ag.box aH [ay,aF,av,iV dk.Fuse,.bool dk.Down] 112) wK (jQ wK)<|R.reg O<|R.u 3 O<|R.nil<|R.eZ O mixed (by kernel_rfl)<|Q.u 1 O<|Q.q (q.bR O) O<|Q.q (q.aP O kO O) O<|Q.q (q.yu 1 O O jm O) O<|Q.u 1 O<|Q.q (q.bR O) O<|Q.q (q.aP O ov O) O<|Q.q (q.yu 1 O O ap O) O<|Q.u 1 O<|Q.q (q.bA (r:=lg.From+(i:Int)) O O) O<|Q.c (q.call Jh O O (fun w hw=>(tL aH ay aF av dk (lg.From+(i:Int)) w (hw.f 0 O) (hw.bO 4 O) (hw.bO 3 O) (hw.bO 2 O) ))) O<|Q.u 5 O<|Q.nil ?_
 by_cases h1:((cj dk (lg.From+(i:Int))).1.extract 1 5)=bY (lg.First+(i:Int))
 .
  obtain ⟨y1,hy1⟩:∃z,(cj dk (lg.From+(i:Int))).1.data[0]? = some z:=⟨_,Array.getElem?_eq_getElem (show 0<(cj dk (lg.From+(i:Int))).1.size from by omega)⟩
  have Sj:=y1.toNat_lt
  by_cases h2:y1.toNat=111
  .
   refine R.eZ O mixed (by kernel_rfl)<|Q.u 1 O<|Q.q (q.dx O O Tryz.underlying38) O<|Q.u 2 O<|Q.qg O (q.Cp (i:=1) (j:=5) O O O Tryz.underlying9 O O (by omega) (by omega)) O<|Q.u 1 O<|Q.qg O (q.bR O) O<|Q.qg O (q.aP O jW O) O<|Q.qg O (q.yu 1 O O ap O) O<|Q.u 1 O<|Q.qg O (q.bA (r:=lg.First+(i:Int)) O O) O<|Q.cg O (q.call fy O O (fun w hw=>(dt (lg.First+(i:Int)) w (by omega)))) O<|Q.qg O (q.uy O O h1) O<|Q.u 3 O<|Q.qg O (q.iK (i:=0) O O Tryz.underlying9 O hy1) O<|Q.qg O (q.ny O O) O<|Q.u 6 O<|Q.nil<|R.aD O O ?_
   obtain ⟨y2,hy2⟩:∃z,(cj dk (lg.From+(i:Int))).1.data[5]? = some z:=⟨_,Array.getElem?_eq_getElem (show 5<(cj dk (lg.From+(i:Int))).1.size from by omega)⟩
   have Sk:=y2.toNat_lt
   obtain ⟨y3,hy3⟩:∃z,(cj dk (lg.From+(i:Int))).1.data[6]? = some z:=⟨_,Array.getElem?_eq_getElem (show 6<(cj dk (lg.From+(i:Int))).1.size from by omega)⟩
   have TM:=y3.toNat_lt
   refine R.eZ O mixed (by kernel_rfl)<|Q.u 1 O<|Q.q (q.iK (i:=5) O O Tryz.underlying9 O hy2) O<|Q.q (q.nf (r:=((y2.toNat:Nat):Int)) O (by rw [Tryz.underlying5];rfl) Tryz.underlying3 (wr (by omega))) O<|Q.u 1 O<|Q.q (q.iK (i:=6) O O Tryz.underlying9 O hy3) O<|Q.q (q.nf (r:=((y3.toNat:Nat):Int)) O (by rw [Tryz.underlying5];rfl) Tryz.underlying3 (wr (by omega))) O<|Q.q (q.uZ (r:=((256*y3.toNat:Nat):Int)) O O) O<|Q.q (q.bA (r:=((y2.toNat+(256*y3.toNat):Nat):Int)) O O) O<|Q.u 1 O<|Q.nil<|R.reg O<|R.u 1 O<|?_
   by_cases h3:41<(y2.toNat+(256*y3.toNat))
   .
    exact R.q (q.eM O O) O<|R.nil<|R.az O O<|R.reg O<|R.u 3 O<|R.nil<|R.QT O Tryz.results141 O O O (QU (by (rw [(j3 (nP (by unfold cE;rw [aK hy2,aK hy3];omega))).1];rfl))) (rS (by (rw [(j3 (nP (by unfold cE;rw [aK hy2,aK hy3];omega))).2]))) (rB (by (exact (nP (by unfold cE;rw [aK hy2,aK hy3];omega)).symm)))
   exact R.q (q.ey O O) O<|R.nil<|R.aD O O<|R.eZ O mixed (by kernel_rfl)<|Q.u 1 O<|Q.q (q.iK (i:=0) O O Tryz.underlying9 O hy1) O<|Q.u 2 O<|Q.q (q.bA (r:=((7+(y2.toNat+(256*y3.toNat)):Nat):Int)) O O) O<|Q.q (q.Cp (i:=7) (j:=(7+(y2.toNat+(256*y3.toNat)))) O O O Tryz.underlying9 O O (by omega) (by omega)) O<|Q.u 3 O<|Q.nil<|R.QT O Tryz.results141 O O O (QU (by (rw [(j4 (lD ‹_› (by rw [aK hy1];omega) (by unfold cE;rw [aK hy2,aK hy3];omega))).1,aK hy1]))) (rS (by (rw [(j4 (lD ‹_› (by rw [aK hy1];omega) (by unfold cE;rw [aK hy2,aK hy3];omega))).2];unfold rh cE;rw [aK hy2,aK hy3]))) (rB (by (exact (lD ‹_› (by rw [aK hy1];omega) (by unfold cE;rw [aK hy2,aK hy3];omega)).symm)))
  by_cases h4:y1.toNat=99
  .
   refine R.eZ O mixed (by kernel_rfl)<|Q.u 1 O<|Q.q (q.dx O O Tryz.underlying38) O<|Q.u 2 O<|Q.qg O (q.Cp (i:=1) (j:=5) O O O Tryz.underlying9 O O (by omega) (by omega)) O<|Q.u 1 O<|Q.qg O (q.bR O) O<|Q.qg O (q.aP O jW O) O<|Q.qg O (q.yu 1 O O ap O) O<|Q.u 1 O<|Q.qg O (q.bA (r:=lg.First+(i:Int)) O O) O<|Q.cg O (q.call fy O O (fun w hw=>(dt (lg.First+(i:Int)) w (by omega)))) O<|Q.qg O (q.uy O O h1) O<|Q.u 3 O<|Q.qg O (q.iK (i:=0) O O Tryz.underlying9 O hy1) O<|Q.qg O (q.nu O O) O<|Q.u 2 O<|Q.qg O (q.iK (i:=0) O O Tryz.underlying9 O hy1) O<|Q.qg O (q.ny O O) O<|Q.u 2 O<|Q.nil<|R.aD O O ?_
   obtain ⟨y4,hy4⟩:∃z,(cj dk (lg.From+(i:Int))).1.data[5]? = some z:=⟨_,Array.getElem?_eq_getElem (show 5<(cj dk (lg.From+(i:Int))).1.size from by omega)⟩
   have UU:=y4.toNat_lt
   obtain ⟨y5,EV⟩:∃z,(cj dk (lg.From+(i:Int))).1.data[6]? = some z:=⟨_,Array.getElem?_eq_getElem (show 6<(cj dk (lg.From+(i:Int))).1.size from by omega)⟩
   have VL:=y5.toNat_lt
   refine R.eZ O mixed (by kernel_rfl)<|Q.u 1 O<|Q.q (q.iK (i:=5) O O Tryz.underlying9 O hy4) O<|Q.q (q.nf (r:=((y4.toNat:Nat):Int)) O (by rw [Tryz.underlying5];rfl) Tryz.underlying3 (wr (by omega))) O<|Q.u 1 O<|Q.q (q.iK (i:=6) O O Tryz.underlying9 O EV) O<|Q.q (q.nf (r:=((y5.toNat:Nat):Int)) O (by rw [Tryz.underlying5];rfl) Tryz.underlying3 (wr (by omega))) O<|Q.q (q.uZ (r:=((256*y5.toNat:Nat):Int)) O O) O<|Q.q (q.bA (r:=((y4.toNat+(256*y5.toNat):Nat):Int)) O O) O<|Q.u 1 O<|Q.nil<|R.reg O<|R.u 1 O<|?_
   by_cases h5:41<(y4.toNat+(256*y5.toNat))
   .
    exact R.q (q.eM O O) O<|R.nil<|R.az O O<|R.reg O<|R.u 3 O<|R.nil<|R.QT O Tryz.results141 O O O (QU (by (rw [(j3 (nP (by unfold cE;rw [aK hy4,aK EV];omega))).1];rfl))) (rS (by (rw [(j3 (nP (by unfold cE;rw [aK hy4,aK EV];omega))).2]))) (rB (by (exact (nP (by unfold cE;rw [aK hy4,aK EV];omega)).symm)))
   exact R.q (q.ey O O) O<|R.nil<|R.aD O O<|R.eZ O mixed (by kernel_rfl)<|Q.u 1 O<|Q.q (q.iK (i:=0) O O Tryz.underlying9 O hy1) O<|Q.u 2 O<|Q.q (q.bA (r:=((7+(y4.toNat+(256*y5.toNat)):Nat):Int)) O O) O<|Q.q (q.Cp (i:=7) (j:=(7+(y4.toNat+(256*y5.toNat)))) O O O Tryz.underlying9 O O (by omega) (by omega)) O<|Q.u 3 O<|Q.nil<|R.QT O Tryz.results141 O O O (QU (by (rw [(j4 (lD ‹_› (by rw [aK hy1];omega) (by unfold cE;rw [aK hy4,aK EV];omega))).1,aK hy1]))) (rS (by (rw [(j4 (lD ‹_› (by rw [aK hy1];omega) (by unfold cE;rw [aK hy4,aK EV];omega))).2];unfold rh cE;rw [aK hy4,aK EV]))) (rB (by (exact (lD ‹_› (by rw [aK hy1];omega) (by unfold cE;rw [aK hy4,aK EV];omega)).symm)))
  exact R.eZ O mixed (by kernel_rfl)<|Q.u 1 O<|Q.q (q.dx O O Tryz.underlying38) O<|Q.u 2 O<|Q.qg O (q.Cp (i:=1) (j:=5) O O O Tryz.underlying9 O O (by omega) (by omega)) O<|Q.u 1 O<|Q.qg O (q.bR O) O<|Q.qg O (q.aP O jW O) O<|Q.qg O (q.yu 1 O O ap O) O<|Q.u 1 O<|Q.qg O (q.bA (r:=lg.First+(i:Int)) O O) O<|Q.cg O (q.call fy O O (fun w hw=>(dt (lg.First+(i:Int)) w (by omega)))) O<|Q.qg O (q.uy O O h1) O<|Q.u 3 O<|Q.qg O (q.iK (i:=0) O O Tryz.underlying9 O hy1) O<|Q.qg O (q.nu O O) O<|Q.u 2 O<|Q.qg O (q.iK (i:=0) O O Tryz.underlying9 O hy1) O<|Q.qg O (q.nu O O) O<|Q.u 2 O<|Q.nil<|R.az O O<|R.reg O<|R.u 3 O<|R.nil<|R.QT O Tryz.results141 O O O (QU (by (rw [(j3 (wU (by rw [aK hy1];omega) (by rw [aK hy1];omega))).1];rfl))) (rS (by (rw [(j3 (wU (by rw [aK hy1];omega) (by rw [aK hy1];omega))).2]))) (rB (by (exact (wU (by rw [aK hy1];omega) (by rw [aK hy1];omega)).symm)))
 exact R.eZ O mixed (by kernel_rfl)<|Q.u 1 O<|Q.q (q.dx O O Tryz.underlying38) O<|Q.u 2 O<|Q.qg O (q.Cp (i:=1) (j:=5) O O O Tryz.underlying9 O O (by omega) (by omega)) O<|Q.u 1 O<|Q.qg O (q.bR O) O<|Q.qg O (q.aP O jW O) O<|Q.qg O (q.yu 1 O O ap O) O<|Q.u 1 O<|Q.qg O (q.bA (r:=lg.First+(i:Int)) O O) O<|Q.cg O (q.call fy O O (fun w hw=>(dt (lg.First+(i:Int)) w (by omega)))) O<|Q.qg O (q.yU O O h1) O<|Q.u 11 O<|Q.nil<|R.az O O<|R.reg O<|R.u 3 O<|R.nil<|R.QT O Tryz.results141 O O O (QU (by (rw [(j3 (wT ‹_›)).1];rfl))) (rS (by (rw [(j3 (wT ‹_›)).2]))) (rB (by (exact (wT ‹_›).symm)))
theorem C8 (aH:Nat)(ay aF av:Value)(dk:cw)(gq:Int)(many:Int)(first:Int)(w:World)(own:List Nat)(H:HN w own [ag.box aH [ay,aF,av,iV dk.Fuse,.bool dk.Down] 112,ag.row 9 ay dk.Kept,ag.row 9 aF dk.Now,ag.row 114 av dk.Wait] [])(hb:0<=gq/\1<=many/\gq+many<=(dk.Now.length:Int)/\1<=first/\first<=4000000000000000000)(hd:dk.Down=false)(hD:fM dk.Now.length 90000 dk/\dk.Now.length<=100000):RC Tryz.prog 82 #[.pointer (some ⟨aH,0,none⟩),iV gq,iV many,iV first] H (fun z:Value×Value×Value×Nat×Value×List kr => .tuple #[.pointer (some ⟨z.2.2.2.1,0,none⟩),z.2.2.2.2.1,.nilIface]) (fun z=>[ag.box aH [z.1,z.2.1,z.2.2.1,iV dk.Fuse,.bool dk.Down] 112,ag.row 9 z.1 dk.Kept,ag.row 9 z.2.1 dk.Now,ag.row 114 z.2.2.1 dk.Wait,ag.box z.2.2.2.1 [.pointer (some ⟨aH,0,none⟩),iV (⟨gq,many,first,(fE dk gq (Int.toNat many) first:Int)⟩:Lg).From,iV (⟨gq,many,first,(fE dk gq (Int.toNat many) first:Int)⟩:Lg).Many,iV (⟨gq,many,first,(fE dk gq (Int.toNat many) first:Int)⟩:Lg).First,iV (⟨gq,many,first,(fE dk gq (Int.toNat many) first:Int)⟩:Lg).Next] 198]) (fun z=>[ag.ls z.2.2.2.2.1 z.2.2.2.2.2,ag.pZ (z.2.2.2.2.2:List kr) (lE dk gq (Int.toNat many) first)]):=by
 have dZ:=H.cap 1 rfl;have d9:=H.cE 1 rfl
 have fh:=H.cap 2 rfl;have fj:=H.cE 2 rfl
 have ea:=H.cap 3 rfl;have ec:=H.cE 3 rfl
 obtain ⟨manyN,PT⟩:∃m:Nat,many=(m:Int):=⟨many.toNat,by omega⟩;subst PT
 refine R.bF [(0,.pointer (some ⟨aH,0,none⟩)),(1,iV gq),(2,iV (manyN:Int)),(3,iV first)] Tryz.func82 O O O O H<|R.reg O<|R.u 3 O<|R.nil<|R.reg O<|R.u 1 O<|R.q (q.cS O O) O<|R.u 2 O<|R.qg O (q.cS O O) O<|R.u 4 O<|R.cg O (q.call uB O O (fun w hw=>(gB aH ay aF av dk w (hw.b 0 O) (hw.row 1 O) (hw.row 2 O) (hw.row 3 O) ))) O<|R.qg O (q.ey O O) O<|R.u 4 O<|R.cg O (q.call uB O O (fun w hw=>(gB aH ay aF av dk w (hw.b 0 O) (hw.row 1 O) (hw.row 2 O) (hw.row 3 O) ))) O<|R.u 1 O<|R.qg O (q.lS (r:=(dk.Now.length:Int)-(manyN:Int)) O O) O<|R.qg O (q.ey O O) O<|R.u 3 O<|R.qg O (q.cS O O) O<|R.u 1 O<|R.nil<|R.aD O O<|R.reg O<|R.u 1 O<|R.c (q.call NY O O (fun w hw=>(cv (congrArg Value.bool hd) (zh aH ay aF av dk w (hw.b 0 O) (hw.row 1 O) (hw.row 2 O) (hw.row 3 O) )))) O<|R.nil ?_
 refine R.aD O O<|R.reg O<|R.u 4 O<|R.q (q.build OV O O) O<|R.s O (s.box O O O) fun b1=>?_
 refine R.u 1 O<|R.nil<|R.reg O<|R.u 1 O<|R.nil<|R.reg O<|R.u 1 O<|R.nil<|R.reg O<|R.u 2 O<|R.nil<|R.mp (fun _ hw=>hw.Sm)<|R.row0 (α:=kr) 34<|R.row0 (α:=Change) 117<|R.loop (fun g_:Nat×Nat×Value×(List kr)×Value×(List Change)=>[(11,.pointer (some ⟨b1,0,none⟩)),(12,g_.2.2.1),(13,g_.2.2.2.2.1),(54,iV (manyN:Int)),(55,iV (g_.1:Int))]) (fun g_=>[ag.row 117 g_.2.2.2.2.1 g_.2.2.2.2.2,ag.row 34 g_.2.2.1 g_.2.2.2.1,ag.box b1 [.pointer (some ⟨aH,0,none⟩),iV gq,iV (manyN:Int),iV first,iV (g_.2.1:Int)] 198,ag.box aH [ay,aF,av,iV dk.Fuse,.bool dk.Down] 112,ag.row 9 ay dk.Kept,ag.row 9 aF dk.Now,ag.row 114 av dk.Wait,ag.held w own]) (fun g_=>[ag.lL (g_.2.2.2.1:List kr),ag.lL ([]:List kr)]) (fun g_=>g_.1<=manyN/\iI ((p6 dk gq manyN).drop g_.1) (first+(g_.1:Int)) (g_.2.2.2.1.map kr.L) g_.2.2.2.2.2 g_.2.1 g_.1=scan (p6 dk gq manyN) first/\g_.2.2.2.2.2.length<=g_.1/\g_.2.2.2.1.length<=g_.1/\g_.2.1<=g_.1) (fun g_=>manyN-g_.1) (0,0,(nS),[],(nS),[]) O (by (try dsimp only);exact ⟨by omega,by show iI _ (first+0) _ _ _ _=_;rw [Int.add_zero];rfl,by simp,by simp,by simp⟩) (sF O) (iz dU [0,0] O) ?_
 rintro ⟨i,u,qo,ob,qd,dd⟩ ⟨hi,HS,hdl,hol,UV⟩
 dsimp only at *
 refine R.reg O<|?_
 by_cases h1:i<manyN
 .
  refine R.q (q.dC O O) O<|R.nil<|R.az O O<|R.reg O<|R.u 2 O<|R.nil ?_
  have hrd:=wW hD.1 hd (i:=gq+(i:Int)) (by omega) (by omega);obtain ⟨hrd,hsz⟩:=hrd;have hlx:=ET (n:=first+(i:Int)) hsz
  refine R.reg O<|R.u 2 O<|R.c (q.call O9 O O (fun w hw=>(cv (show (.tuple #[.int .u8 (o5 (cj dk ((⟨gq,(manyN:Int),first,(u:Int)⟩:Lg).From+(i:Int))).1 ((⟨gq,(manyN:Int),first,(u:Int)⟩:Lg).First+(i:Int)):Int),.string (ku (cj dk ((⟨gq,(manyN:Int),first,(u:Int)⟩:Lg).From+(i:Int))).1 ((⟨gq,(manyN:Int),first,(u:Int)⟩:Lg).First+(i:Int))),.bool (jc (cj dk ((⟨gq,(manyN:Int),first,(u:Int)⟩:Lg).From+(i:Int))).1 ((⟨gq,(manyN:Int),first,(u:Int)⟩:Lg).First+(i:Int)))]:Value) = .tuple #[.int .u8 (o5 (cj dk (gq+(i:Int))).1 (first+(i:Int)):Int),.string (ku (cj dk (gq+(i:Int))).1 (first+(i:Int))),.bool (jc (cj dk (gq+(i:Int))).1 (first+(i:Int)))] from O) (J1 b1 (⟨gq,(manyN:Int),first,(u:Int)⟩:Lg) i aH ay aF av dk w (hw.b 2 O) (hw.b 3 O) (hw.row 4 O) (hw.row 5 O) (hw.row 6 O) (by (dsimp only;omega)) ‹_› ‹_›)))) O<|R.u 7 O<|R.nil ?_
  refine R.reg O<|R.u 1 O<|R.q (q.not O) O<|R.u 1 O<|?_
  rcases Bool.eq_false_or_eq_true (jc (cj dk (gq+(i:Int))).1 (first+(i:Int))) with h2|h2
  .
   rw [h2]
   refine R.u 1 O<|?_
   by_cases h3:o5 (cj dk (gq+(i:Int))).1 (first+(i:Int))=99
   .
    refine R.qg O (q.fI O O) O<|R.u 3 O<|R.qg O (q.len' (bD 0 O) O Tryz.underlying34) O<|R.cg O (q.call fy O O (fun w hw=>(dt (dd.length:Int) w (by omega)))) O<|?_
    by_cases h4:ku (cj dk (gq+(i:Int))).1 (first+(i:Int))=bY (dd.length:Int)
    .
     refine R.qg O (q.uy O O h4) O<|R.u 2 O<|R.nil<|R.aD O O<|R.reg O<|R.u 1 O<|R.q (q.fI O O) O<|R.nil<|R.az O O<|R.reg O<|R.u 3 O<|R.s O (s.VK (l:=([(⟨qd,dd⟩:kr)]:List kr)) F5 I4 O O O O O (fun w hw=>Hz (hw.row 0 O)) O) fun b2=>?_
     refine R.s O (s.app 2 _ O O O (bD 0 O) Ja (by (simp;omega)) (by (simp;omega)) (fun _=>rfl) O) fun v1=>?_
     refine R.u 1 O<|R.q (q.bA (r:=((i+1:Nat):Int)) O O) O<|R.u 2 O<|R.q (q.bR O) O<|R.q (q.aP O jX O) O<|R.s O (s.st 3 _ O O O O (.inr ⟨ap,rfl⟩) O O O O) fun _=>?_
     refine R.nil<|R.reg O<|R.q (q.bA (r:=((i+1:Nat):Int)) O O) O<|R.u 1 O<|R.nil<|R.mp (fun _ hw=>hw.cW 1 _ O O)<|R.mp (fun _ hw=>hw.Mk 1 0 O O)<|R.row0 (α:=Change) 117<|R.back (i+1,(i+1),v1,(ob++([(⟨qd,dd⟩:kr)])),(nS),[]) O (by ((try dsimp only);exact ⟨by omega,by rw [List.map_append];exact JO HS (qC (by omega)) (PO ‹_› ‹_› ‹_›),by simp,by simp;omega,by omega⟩)) (by dsimp only;omega) (sF O) (aA [0,2,3,4,5,6,7,8] [0,3] O)
    refine R.qg O (q.yU O O h4) O<|R.u 2 O<|R.nil<|R.az O O<|R.reg O<|R.u 5 O<|R.nil<|R.mp (fun _ hw=>hw.Bf 0 O)<|R.mp (fun _ hw=>hw.cW 1 _ O O) ?_
    have hz:(dk,(⟨gq,((manyN:Nat):Int),first,(fE dk gq (Int.toNat ((manyN:Nat):Int)) first:Int)⟩:Lg),lE dk gq (Int.toNat ((manyN:Nat):Int)) first)=(dk,(⟨gq,(manyN:Int),first,(u:Int)⟩:Lg),(ob.map kr.L)):=by ((try dsimp only);have e:=A8 HS (qC (by omega)) (C0 (k:=(dd.length:Int)) ‹_› ‹_› ‹_›).1 (C0 (k:=(dd.length:Int)) ‹_› ‹_› ‹_›).2;unfold fE lE;rw [show Int.toNat ((manyN:Nat):Int)=manyN from rfl,e])
    have hz0:((manyN:Nat):Int)=(manyN:Int):=congrArg (fun t_=>t_.2.1.Many) hz
    rw [hz0]
    have hz1:(fE dk gq (Int.toNat ((manyN:Nat):Int)) first:Int)=(u:Int):=congrArg (fun t_=>t_.2.1.Next) hz
    rw [hz1]
    have hz2:lE dk gq (Int.toNat ((manyN:Nat):Int)) first=(ob.map kr.L):=congrArg (fun t_=>t_.2.2) hz
    rw [hz2]
    exact R.w3 (ay,aF,av,b1,qo,ob) [2,3,4,5,1,6] [0,1] O Tryz.results82 (RV.tmp O) (RV.tmp O) (RV.tmp O) O O O (IW O O O)
   refine R.qg O (q.eU O O) O<|R.u 8 O<|R.nil<|R.aD O O<|R.reg O<|R.u 1 O<|R.q (q.eU O O) O<|R.nil<|R.aD O O<|R.reg O<|R.u 1 O<|R.c (q.call Pb O O (fun w hw=>(AY (ku (cj dk (gq+(i:Int))).1 (first+(i:Int))) w (by omega)))) O<|R.u 3 O<|?_
   refine R.s O (s.alloc cC O O) fun b3=>?_
   refine R.s O (s.st 0 _ O O O O (.inl aX) O O O O) fun _=>?_
   refine R.u 1 O<|R.nil<|R.reg O<|R.u 1 O<|?_
   by_cases h5:(rO (ku (cj dk (gq+(i:Int))).1 (first+(i:Int)))).2=0
   .
    refine R.q (q.dx O O Tryz.underlying38) O<|R.nil<|R.aD O O<|R.reg O<|R.u 1 O<|R.q (q.cT 0 O O aX) O<|R.s O (s.bs (l:=([(rO (ku (cj dk (gq+(i:Int))).1 (first+(i:Int)))).1]:List Change)) bW cC O O O O O O O) fun b4=>?_
    refine R.s O (s.app 2 _ O O O (bD 0 O) jt (by (simp;omega)) (by (simp;omega)) (fun _=>rfl) O) fun v2=>?_
    refine R.u 1 O<|R.nil<|R.reg O<|R.q (q.bA (r:=((i+1:Nat):Int)) O O) O<|R.u 1 O<|R.nil<|R.back (i+1,u,qo,ob,v2,(dd++([(rO (ku (cj dk (gq+(i:Int))).1 (first+(i:Int)))).1]))) O (by ((try dsimp only);have e:=PQ (k:=(dd.length:Int)) ‹_› ‹_› ‹_›;exact ⟨by omega,by rw [e.2.2];exact Me HS (qC (by omega)) e.1 e.2.1,by simp;omega,by omega,by omega⟩)) (by dsimp only;omega) (sF O) (aA FL [0,1] O)
   refine R.q (q.dX O O Tryz.underlying38) O<|R.nil<|R.az O O<|R.reg O<|R.u 5 O<|R.nil<|R.mp (fun _ hw=>hw.Bf 0 O)<|R.mp (fun _ hw=>hw.cW 2 _ O O) ?_
   have hz:(dk,(⟨gq,((manyN:Nat):Int),first,(fE dk gq (Int.toNat ((manyN:Nat):Int)) first:Int)⟩:Lg),lE dk gq (Int.toNat ((manyN:Nat):Int)) first)=(dk,(⟨gq,(manyN:Int),first,(u:Int)⟩:Lg),(ob.map kr.L)):=by ((try dsimp only);have e:=A8 HS (qC (by omega)) (C2 (k:=(dd.length:Int)) ‹_› ‹_› ‹_›).1 (C2 (k:=(dd.length:Int)) ‹_› ‹_› ‹_›).2;unfold fE lE;rw [show Int.toNat ((manyN:Nat):Int)=manyN from rfl,e])
   have hz0:((manyN:Nat):Int)=(manyN:Int):=congrArg (fun t_=>t_.2.1.Many) hz
   rw [hz0]
   have hz1:(fE dk gq (Int.toNat ((manyN:Nat):Int)) first:Int)=(u:Int):=congrArg (fun t_=>t_.2.1.Next) hz
   rw [hz1]
   have hz2:lE dk gq (Int.toNat ((manyN:Nat):Int)) first=(ob.map kr.L):=congrArg (fun t_=>t_.2.2) hz
   rw [hz2]
   exact R.w3 (ay,aF,av,b1,qo,ob) [3,4,5,6,2,7] [0,1] O Tryz.results82 (RV.tmp O) (RV.tmp O) (RV.tmp O) O O O (IW O O O)
  rw [h2]
  refine R.u 10 O<|R.nil<|R.az O O<|R.reg O<|R.u 5 O<|R.nil<|R.mp (fun _ hw=>hw.Bf 0 O)<|R.mp (fun _ hw=>hw.cW 1 _ O O) ?_
  have hz:(dk,(⟨gq,((manyN:Nat):Int),first,(fE dk gq (Int.toNat ((manyN:Nat):Int)) first:Int)⟩:Lg),lE dk gq (Int.toNat ((manyN:Nat):Int)) first)=(dk,(⟨gq,(manyN:Int),first,(u:Int)⟩:Lg),(ob.map kr.L)):=by ((try dsimp only);have e:=A8 HS (qC (by omega)) (CZ (k:=(dd.length:Int)) ‹_›).1 (CZ (k:=(dd.length:Int)) ‹_›).2;unfold fE lE;rw [show Int.toNat ((manyN:Nat):Int)=manyN from rfl,e])
  have hz0:((manyN:Nat):Int)=(manyN:Int):=congrArg (fun t_=>t_.2.1.Many) hz
  rw [hz0]
  have hz1:(fE dk gq (Int.toNat ((manyN:Nat):Int)) first:Int)=(u:Int):=congrArg (fun t_=>t_.2.1.Next) hz
  rw [hz1]
  have hz2:lE dk gq (Int.toNat ((manyN:Nat):Int)) first=(ob.map kr.L):=congrArg (fun t_=>t_.2.2) hz
  rw [hz2]
  exact R.w3 (ay,aF,av,b1,qo,ob) [2,3,4,5,1,6] [0,1] O Tryz.results82 (RV.tmp O) (RV.tmp O) (RV.tmp O) O O O (IW O O O)
 refine R.q (q.cS O O) O<|R.nil<|R.aD O O<|R.reg O<|R.u 5 O<|R.nil<|R.mp (fun _ hw=>hw.Bf 0 O)<|R.mp (fun _ hw=>hw.cW 1 _ O O) ?_
 have hz:(dk,(⟨gq,((manyN:Nat):Int),first,(fE dk gq (Int.toNat ((manyN:Nat):Int)) first:Int)⟩:Lg),lE dk gq (Int.toNat ((manyN:Nat):Int)) first)=(dk,(⟨gq,(manyN:Int),first,(u:Int)⟩:Lg),(ob.map kr.L)):=by ((try dsimp only);have e:=PH HS (by rw [p7];omega);unfold fE lE;rw [show Int.toNat ((manyN:Nat):Int)=manyN from rfl,e])
 have hz0:((manyN:Nat):Int)=(manyN:Int):=congrArg (fun t_=>t_.2.1.Many) hz
 rw [hz0]
 have hz1:(fE dk gq (Int.toNat ((manyN:Nat):Int)) first:Int)=(u:Int):=congrArg (fun t_=>t_.2.1.Next) hz
 rw [hz1]
 have hz2:lE dk gq (Int.toNat ((manyN:Nat):Int)) first=(ob.map kr.L):=congrArg (fun t_=>t_.2.2) hz
 rw [hz2]
 exact R.w3 (ay,aF,av,b1,qo,ob) [2,3,4,5,1,6] [0,1] O Tryz.results82 (RV.tmp O) (RV.tmp O) (RV.tmp O) O O O (IW O O O)
theorem Mm (bC:Nat)(lg:Lg)(Gp:Value)(c:List Change)(aH:Nat)(ay aF av:Value)(dk:cw)(w:World)(own:List Nat)(H:HN w own [ag.box bC [.pointer (some ⟨aH,0,none⟩),iV lg.From,iV lg.Many,iV lg.First,iV lg.Next] 198,ag.box aH [ay,aF,av,iV dk.Fuse,.bool dk.Down] 112,ag.row 9 ay dk.Kept,ag.row 9 aF dk.Now,ag.row 114 av dk.Wait] [ag.ls Gp c])(hb:0<=lg.From/\lg.From<=1000000000/\0<=lg.Next/\lg.Next<=1000000000/\0<=lg.First/\lg.First<=4000000000000000000/\0<=lg.Many/\lg.Many<=1000000000)(hl:c.length<=62)(hf:∀x∈c,iL x=0)(hD:fM dk.Now.length 90000 dk/\dk.Now.length<=100000):RC Tryz.prog 180 #[.pointer (some ⟨bC,0,none⟩),Gp] H (fun _:Value×Value×Value=>df (dw lg dk c).2) (fun z=>[ag.box bC [.pointer (some ⟨aH,0,none⟩),iV lg.From,iV lg.Many,iV lg.First,iV lg.Next] 198,ag.box aH [z.1,z.2.1,z.2.2,iV (dw lg dk c).1.Fuse,.bool (dw lg dk c).1.Down] 112,ag.row 9 z.1 (dw lg dk c).1.Kept,ag.row 9 z.2.1 (dw lg dk c).1.Now,ag.row 114 z.2.2 (dw lg dk c).1.Wait]) (fun _=>[]):=by
 have dZ:=H.cap 2 rfl;have d9:=H.cE 2 rfl
 have fh:=H.cap 3 rfl;have fj:=H.cE 3 rfl
 have ea:=H.cap 4 rfl;have ec:=H.cE 4 rfl
 have VM:=H.cq 0 rfl
 refine R.bF [(0,.pointer (some ⟨bC,0,none⟩)),(1,Gp)] Tryz.func180 O O O O H<|R.reg O<|R.u 1 O<|R.nil<|R.eZ O mixed (by kernel_rfl)<|Q.u 1 O<|Q.q (q.bR O) O<|Q.q (q.aP O ov O) O<|Q.q (q.ld 0 O O ap O) O<|Q.u 1 O<|Q.q (q.bR O) O<|Q.q (q.aP O jX O) O<|Q.q (q.ld 0 O O ap O) O<|Q.q (q.bA (r:=lg.From+lg.Next) O O) O<|Q.u 1 O<|Q.nil<|R.reg O<|R.u 1 O<|R.q (q.len' (dh 0 O) O Tryz.underlying34) O<|R.u 1 O<|R.nil<|R.loop (fun g_:Nat×cw×Value×Value×Value=>[(0,.pointer (some ⟨bC,0,none⟩)),(1,Gp),(5,iV (lg.From+lg.Next)),(20,Gp),(21,iV (c.length:Int)),(22,iV (g_.1:Int))]) (fun g_=>[ag.box bC [.pointer (some ⟨aH,0,none⟩),iV lg.From,iV lg.Many,iV lg.First,iV lg.Next] 198,ag.box aH [g_.2.2.1,g_.2.2.2.1,g_.2.2.2.2,iV g_.2.1.Fuse,.bool g_.2.1.Down] 112,ag.row 9 g_.2.2.1 g_.2.1.Kept,ag.row 9 g_.2.2.2.1 g_.2.1.Now,ag.row 114 g_.2.2.2.2 g_.2.1.Wait,ag.held w own]) (fun g_=>[ag.ls Gp c]) (fun g_=>g_.1<=c.length/\kV lg g_.2.1 (c.drop g_.1) g_.1=kV lg dk c 0/\fM dk.Now.length (90000+g_.1) g_.2.1) (fun g_=>c.length-g_.1) (0,dk,ay,aF,av) O (by (try dsimp only);exact ⟨by omega,rfl,hD.1⟩) (sF O) (iz qY [0] O) ?_
 rintro ⟨i,dm,ej,fN,eo⟩ ⟨hi,HL,hO⟩
 dsimp only at *
 have p1:=hO.fine (by omega) (by omega)
 refine R.reg O<|?_
 by_cases h1:i<c.length
 .
  refine R.q (q.dC O O) O<|R.nil<|R.az O O<|R.reg O<|R.u 1 O<|?_
  obtain ⟨x1,hx1⟩:∃z,c[i]? = some z:=⟨_,List.getElem?_eq_getElem (by omega)⟩
  have PU:=Bh (hf x1 (List.mem_of_getElem? hx1));obtain ⟨PU,VN⟩:=PU
  refine R.q (q.idx (i:=i) (dh 0 O) O O bW O hx1) O<|R.q (q.gh (ds:=fC x1) (dh 0 O) hx1 O aX O) O<|R.s O (s.alloc cC O O) fun b1=>?_
  refine R.u 1 O<|R.s O (s.st 0 _ O O O O (.inl aX) O O O O) fun _=>?_
  refine R.nil<|R.reg O<|R.q (q.cT 0 O O aX) O<|R.c (q.call Py O O (fun w hw=>(AX x1 w ))) O<|R.u 5 O<|R.nil ?_
  refine R.reg O<|R.u 1 O<|R.q (q.dx O O Tryz.underlying38) O<|R.nil<|R.aD O O<|R.fJ (fuel:=22) [0,1,6] O O mixed O<|D.q (i:=0) O (aA [0,1,6] [0] O) O (q.mv O) O<|D.q (i:=1) O (aA [0,1,6] [0] O) O (q.bR O) O<|D.q (i:=2) O (aA [0,1,6] [0] O) O (q.aP O kO O) O<|D.q (i:=3) O (aA [0,1,6] [0] O) O (q.ld 1 O O jm O) O<|D.q (i:=4) O (aA [0,1,6] [0] O) O (q.mv O) O<|D.q (i:=5) O (aA [0,1,6] [0] O) O (q.mv O) O<|D.q (i:=6) O (aA [0,1,6] [0] O) O (q.bA (r:=(lg.From+lg.Next)+(i:Int)) O O) O<|D.q (i:=7) O (aA [0,1,6] [0] O) O (q.mv O) O<|D.q (i:=8) O (aA [0,1,6] [0] O) O (q.bR O) O<|D.q (i:=9) O (aA [0,1,6] [0] O) O (q.aP O jW O) O<|D.q (i:=10) O (aA [0,1,6] [0] O) O (q.ld 1 O O ap O) O<|D.q (i:=11) O (aA [0,1,6] [0] O) O (q.mv O) O<|D.q (i:=12) O (aA [0,1,6] [0] O) O (q.bR O) O<|D.q (i:=13) O (aA [0,1,6] [0] O) O (q.aP O jX O) O<|D.q (i:=14) O (aA [0,1,6] [0] O) O (q.ld 1 O O ap O) O<|D.q (i:=15) O (aA [0,1,6] [0] O) O (q.bA (r:=lg.First+lg.Next) O O) O<|D.q (i:=16) O (aA [0,1,6] [0] O) O (q.mv O) O<|D.q (i:=17) O (aA [0,1,6] [0] O) O (q.bA (r:=(lg.First+lg.Next)+(i:Int)) O O) O<|D.q (i:=18) O (aA [0,1,6] [0] O) O (q.mv O) O<|D.one (i:=19) O<|Do.s (s.c (q.call Ju O O (fun w hw=>(C4 111 ((lg.First+lg.Next)+(i:Int)) (kb x1).1 w (by decide) (by omega) (by omega)))) O) (fun _=>(aA [0,1,6] [0] O)) O fun _=>?_
  refine D.one (i:=20) O<|Do.s (s.aT [2,3,4,5,0,1,6] [] _ _ _ O O O uA O O (fun w own hw H=>iZ aH ej fN eo dm ((lg.From+lg.Next)+(i:Int)) (dD 111 ((lg.First+lg.Next)+(i:Int)) (kb x1).1) w own H ‹_›) O) (fun _=>(aA [4,5,6] [0] O)) O ?_
  rintro ⟨z4,z5,z6⟩
  dsimp only
  refine D.q (i:=21) O (aA [4,5,6] [0] O) O (q.as O) O<|D.done<|R.reg O<|R.u 1 O<|?_
  by_cases h2:(au dm ((lg.From+lg.Next)+(i:Int)) (dD 111 ((lg.First+lg.Next)+(i:Int)) (kb x1).1)).2=0
  .
   refine R.q (q.dx O O Tryz.underlying38) O<|R.nil<|R.aD O O<|R.reg O<|R.q (q.bA (r:=((i+1:Nat):Int)) O O) O<|R.u 1 O<|R.nil<|R.back (i+1,(au dm ((lg.From+lg.Next)+(i:Int)) (dD 111 ((lg.First+lg.Next)+(i:Int)) (kb x1).1)).1,z4,z5,z6) O (by ((try dsimp only);exact ⟨by omega,PS HL hx1 ‹_›,hO.write _ _⟩)) (by dsimp only;omega) (sF O) (aA [5,0,1,2,3,6] [0] O)
  refine R.q (q.dX O O Tryz.underlying38) O<|R.nil<|R.az O O<|R.reg O<|R.u 2 O<|R.nil ?_
  have hz:(lg,(dw lg dk c).1,(dw lg dk c).2)=(lg,(au dm ((lg.From+lg.Next)+(i:Int)) (dD 111 ((lg.First+lg.Next)+(i:Int)) (kb x1).1)).1,(au dm ((lg.From+lg.Next)+(i:Int)) (dD 111 ((lg.First+lg.Next)+(i:Int)) (kb x1).1)).2):=by (rw [HE (JV HL hx1 ‹_›).symm ‹_›])
  have hz0:(dw lg dk c).1=(au dm ((lg.From+lg.Next)+(i:Int)) (dD 111 ((lg.First+lg.Next)+(i:Int)) (kb x1).1)).1:=congrArg (fun t_=>t_.2.1) hz
  rw [hz0]
  have hz1:(dw lg dk c).2=(au dm ((lg.From+lg.Next)+(i:Int)) (dD 111 ((lg.First+lg.Next)+(i:Int)) (kb x1).1)).2:=congrArg (fun t_=>t_.2.2) hz
  rw [hz1]
  exact R.w1 (z4,z5,z6) [5,0,1,2,3,6] [] O Tryz.results180 (RV.tmp O) O O O O
 refine R.q (q.cS O O) O<|R.nil<|R.aD O O<|R.reg O<|R.u 1 O<|R.q (q.bR O) O<|R.q (q.aP O jX O) O<|R.q (q.ld 0 O O ap O) O<|R.u 1 O<|R.q (q.len' (dh 0 O) O Tryz.underlying34) O<|R.q (q.bA (r:=lg.Next+(c.length:Int)) O O) O<|R.q (q.bA (r:=(lg.Next+(c.length:Int))+1) O O) O<|R.u 1 O<|R.nil<|R.reg O<|R.u 2 O<|R.q (q.bR O) O<|R.q (q.aP O rL O) O<|R.q (q.ld 0 O O ap O) O<|?_
 by_cases h3:((lg.Next+(c.length:Int))+1)<lg.Many
 .
  refine R.q (q.dC O O) O<|R.nil<|R.az O O<|R.fJ (fuel:=12) [0,5] O O mixed O<|D.q (i:=0) O (aA [0,5] [0] O) O (q.mv O) O<|D.q (i:=1) O (aA [0,5] [0] O) O (q.bR O) O<|D.q (i:=2) O (aA [0,5] [0] O) O (q.aP O kO O) O<|D.q (i:=3) O (aA [0,5] [0] O) O (q.ld 0 O O jm O) O<|D.q (i:=4) O (aA [0,5] [0] O) O (q.mv O) O<|D.q (i:=5) O (aA [0,5] [0] O) O (q.bR O) O<|D.q (i:=6) O (aA [0,5] [0] O) O (q.aP O ov O) O<|D.q (i:=7) O (aA [0,5] [0] O) O (q.ld 0 O O ap O) O<|D.q (i:=8) O (aA [0,5] [0] O) O (q.mv O) O<|D.q (i:=9) O (aA [0,5] [0] O) O (q.bA (r:=lg.From+((lg.Next+(c.length:Int))+1)) O O) O<|D.one (i:=10) O<|Do.s (s.aT [1,2,3,4,0,5] [] _ _ _ O O O uA O O (fun w own hw H=>iZ aH ej fN eo dm (lg.From+((lg.Next+(c.length:Int))+1)) (⟨#[]⟩) w own H ‹_›) O) (fun _=>(aA [4,5] [0] O)) O ?_
  rintro ⟨mG,l5,z12⟩
  dsimp only
  refine D.q (i:=11) O (aA [4,5] [0] O) O (q.as O) O<|D.done<|?_
  have hz:(lg,(dw lg dk c).1,(dw lg dk c).2)=(lg,(au dm (lg.From+((lg.Next+(c.length:Int))+1)) (⟨#[]⟩)).1,(au dm (lg.From+((lg.Next+(c.length:Int))+1)) (⟨#[]⟩)).2):=by (have e:=Gj HL (by omega);(rw [JW e ‹_›];done))
  have hz0:(dw lg dk c).1=(au dm (lg.From+((lg.Next+(c.length:Int))+1)) (⟨#[]⟩)).1:=congrArg (fun t_=>t_.2.1) hz
  rw [hz0]
  have hz1:(dw lg dk c).2=(au dm (lg.From+((lg.Next+(c.length:Int))+1)) (⟨#[]⟩)).2:=congrArg (fun t_=>t_.2.2) hz
  rw [hz1]
  exact R.w1 (mG,l5,z12) [4,0,1,2,3,5] [] O Tryz.results180 (RV.tmp O) O O O O
 refine R.q (q.cS O O) O<|R.nil<|R.aD O O<|R.reg O<|R.u 1 O<|R.nil ?_
 have hz:(lg,(dw lg dk c).1,(dw lg dk c).2)=(lg,dm,0):=by (have e:=Gj HL (by omega);(rw [HG e (by omega)];done))
 have hz0:(dw lg dk c).1=dm:=congrArg (fun t_=>t_.2.1) hz
 rw [hz0]
 have hz1:(dw lg dk c).2=0:=congrArg (fun t_=>t_.2.2) hz
 rw [hz1]
 exact R.w1 (ej,fN,eo) qY [] O Tryz.results180 (RV.tmp O) O O O (iJ O)
theorem J2 (Bn:Nat)(pl:Unit)(Bo:Nat)(uE:Value)(pc:TK)(bC:Nat)(lg:Lg)(aH:Nat)(ay aF av:Value)(dk:cw)(w:World)(own:List Nat)(H:HN w own [ag.box Bn [.pointer (some ⟨bC,0,none⟩)] 131,ag.box Bo [uE] 34,ag.box bC [.pointer (some ⟨aH,0,none⟩),iV lg.From,iV lg.Many,iV lg.First,iV lg.Next] 198,ag.box aH [ay,aF,av,iV dk.Fuse,.bool dk.Down] 112,ag.row 9 ay dk.Kept,ag.row 9 aF dk.Now,ag.row 114 av dk.Wait] [ag.ls uE pc.C])(hb:0<=lg.From/\lg.From<=1000000000/\0<=lg.Next/\lg.Next<=1000000000/\0<=lg.First/\lg.First<=4000000000000000000/\0<=lg.Many/\lg.Many<=1000000000)(hl:pc.C.length<=62)(hf:∀x∈pc.C,iL x=0)(hD:fM dk.Now.length 90000 dk/\dk.Now.length<=100000):RC Tryz.prog 179 #[.pointer (some ⟨Bn,0,none⟩),.pointer (some ⟨Bo,0,none⟩)] H (fun _:Value×Value×Value×Value=>df (dw lg dk pc.C).2) (fun z=>[ag.box Bn [.pointer (some ⟨bC,0,none⟩)] 131,ag.box Bo [z.1] 34,ag.box bC [.pointer (some ⟨aH,0,none⟩),iV lg.From,iV lg.Many,iV lg.First,iV lg.Next] 198,ag.box aH [z.2.1,z.2.2.1,z.2.2.2,iV (dw lg dk pc.C).1.Fuse,.bool (dw lg dk pc.C).1.Down] 112,ag.row 9 z.2.1 (dw lg dk pc.C).1.Kept,ag.row 9 z.2.2.1 (dw lg dk pc.C).1.Now,ag.row 114 z.2.2.2 (dw lg dk pc.C).1.Wait]) (fun z=>[ag.ls z.1 pc.C]):=by
 have dZ:=H.cap 4 rfl;have d9:=H.cE 4 rfl
 have fh:=H.cap 5 rfl;have fj:=H.cE 5 rfl
 have ea:=H.cap 6 rfl;have ec:=H.cE 6 rfl
 have PW:=H.cq 0 rfl
 refine R.bF [(0,.pointer (some ⟨Bn,0,none⟩)),(1,.pointer (some ⟨Bo,0,none⟩))] Tryz.func179 O O O O H<|R.reg O<|R.u 1 O<|R.nil<|R.reg O<|R.q (q.ld 0 O O fD O) O<|R.q (q.ld 1 O O gx O) O<|R.s O (s.aT [2,3,4,5,6,0,1,7] [0] _ _ _ O O O Ps O O (fun w own hw H=>Mm bC lg uE pc.C aH ay aF av dk w own H ‹_› (by omega) ‹_› ‹_›) O) ?_
 rintro ⟨z1,z2,z3⟩
 dsimp only
 refine R.u 1 O<|R.nil ?_
 have hz:((),pc,lg,(dw lg dk pc.C).1,(dw lg dk pc.C).2)=((),pc,lg,(dw lg dk pc.C).1,(dw lg dk pc.C).2):=by (rfl)
 exact R.w1 (uE,z1,z2,z3) [5,6,0,1,2,3,4,7] [0] O Tryz.results179 (RV.tmp O) O O O O
theorem J3 (Bn:Nat)(pl:Unit)(Mn:Nat)(pe:Sp)(Bo:Nat)(uE:Value)(pc:TK)(bC:Nat)(lg:Lg)(aH:Nat)(ay aF av:Value)(dk:cw)(w:World)(own:List Nat)(H:HN w own [ag.box Bn [.pointer (some ⟨bC,0,none⟩)] 131,ag.box Mn [iV pe.E] 3,ag.box Bo [uE] 34,ag.box bC [.pointer (some ⟨aH,0,none⟩),iV lg.From,iV lg.Many,iV lg.First,iV lg.Next] 198,ag.box aH [ay,aF,av,iV dk.Fuse,.bool dk.Down] 112,ag.row 9 ay dk.Kept,ag.row 9 aF dk.Now,ag.row 114 av dk.Wait] [ag.ls uE pc.C])(hb:0<=lg.From/\lg.From<=1000000000/\0<=lg.Next/\lg.Next<=1000000000/\0<=lg.First/\lg.First<=4000000000000000000/\0<=lg.Many/\lg.Many<=1000000000)(he:0<=pe.E/\pe.E<=2000000000)(hl:pc.C.length<=62)(hD:fM dk.Now.length 91000 dk/\dk.Now.length<=100000):RC Tryz.prog 181 #[.pointer (some ⟨Bn,0,none⟩),.pointer (some ⟨Mn,0,none⟩),.pointer (some ⟨Bo,0,none⟩)] H (fun _:Value×Value×Value×Value=>df (au dk (lg.From+pe.E) (dD 99 (lg.First+pe.E) (bY (pc.C.length:Int)))).2) (fun z=>[ag.box Bn [.pointer (some ⟨bC,0,none⟩)] 131,ag.box Mn [iV pe.E] 3,ag.box Bo [z.1] 34,ag.box bC [.pointer (some ⟨aH,0,none⟩),iV lg.From,iV lg.Many,iV lg.First,iV lg.Next] 198,ag.box aH [z.2.1,z.2.2.1,z.2.2.2,iV (au dk (lg.From+pe.E) (dD 99 (lg.First+pe.E) (bY (pc.C.length:Int)))).1.Fuse,.bool (au dk (lg.From+pe.E) (dD 99 (lg.First+pe.E) (bY (pc.C.length:Int)))).1.Down] 112,ag.row 9 z.2.1 ((au dk (lg.From+pe.E) (dD 99 (lg.First+pe.E) (bY (pc.C.length:Int)))).1.Kept:List ByteArray),ag.row 9 z.2.2.1 ((au dk (lg.From+pe.E) (dD 99 (lg.First+pe.E) (bY (pc.C.length:Int)))).1.Now:List ByteArray),ag.row 114 z.2.2.2 ((au dk (lg.From+pe.E) (dD 99 (lg.First+pe.E) (bY (pc.C.length:Int)))).1.Wait:List Turn)]) (fun z=>[ag.ls z.1 pc.C]):=by
 have dZ:=H.cap 5 rfl;have d9:=H.cE 5 rfl
 have fh:=H.cap 6 rfl;have fj:=H.cE 6 rfl
 have ea:=H.cap 7 rfl;have ec:=H.cE 7 rfl
 have PW:=H.cq 0 rfl
 have p1:=hD.1.fine (by omega) (by omega)
 refine R.bF [(0,.pointer (some ⟨Bn,0,none⟩)),(1,.pointer (some ⟨Mn,0,none⟩)),(2,.pointer (some ⟨Bo,0,none⟩))] Tryz.func181 O O O O H<|R.reg O<|R.u 1 O<|R.nil<|R.fJ (fuel:=22) mH O O mixed O<|D.q (i:=0) O (aA mH [0] O) O (q.ld 0 O O fD O) O<|D.q (i:=1) O (aA mH [0] O) O (q.bR O) O<|D.q (i:=2) O (aA mH [0] O) O (q.aP O kO O) O<|D.q (i:=3) O (aA mH [0] O) O (q.ld 3 O O jm O) O<|D.q (i:=4) O (aA mH [0] O) O (q.ld 0 O O fD O) O<|D.q (i:=5) O (aA mH [0] O) O (q.bR O) O<|D.q (i:=6) O (aA mH [0] O) O (q.aP O ov O) O<|D.q (i:=7) O (aA mH [0] O) O (q.ld 3 O O ap O) O<|D.q (i:=8) O (aA mH [0] O) O (q.ld 1 O O ap O) O<|D.q (i:=9) O (aA mH [0] O) O (q.bA (r:=lg.From+pe.E) O O) O<|D.q (i:=10) O (aA mH [0] O) O (q.ld 0 O O fD O) O<|D.q (i:=11) O (aA mH [0] O) O (q.bR O) O<|D.q (i:=12) O (aA mH [0] O) O (q.aP O jW O) O<|D.q (i:=13) O (aA mH [0] O) O (q.ld 3 O O ap O) O<|D.q (i:=14) O (aA mH [0] O) O (q.ld 1 O O ap O) O<|D.q (i:=15) O (aA mH [0] O) O (q.bA (r:=lg.First+pe.E) O O) O<|D.q (i:=16) O (aA mH [0] O) O (q.ld 2 O O gx O) O<|D.q (i:=17) O (aA mH [0] O) O (q.len' (dh 0 O) O Tryz.underlying34) O<|D.one (i:=18) O<|Do.s (s.c (q.call fy O O (fun w hw=>(dt (pc.C.length:Int) w (by omega)))) O) (fun _=>(aA mH [0] O)) O fun _=>?_
 refine D.one (i:=19) O<|Do.s (s.c (q.call Ju O O (fun w hw=>(C4 99 (lg.First+pe.E) (bY (pc.C.length:Int)) w (by decide) (by omega) (by (rw [aG];decide))))) O) (fun _=>(aA mH [0] O)) O fun _=>?_
 refine D.one (i:=20) O<|Do.s (s.aT [4,5,6,7,0,1,2,3,8] [] _ _ _ O O O uA O O (fun w own hw H=>iZ aH ay aF av dk (lg.From+pe.E) (dD 99 (lg.First+pe.E) (bY (pc.C.length:Int))) w own H ‹_›) O) (fun _=>(aA [4,5,6,7,8] [0] O)) O ?_
 rintro ⟨z4,z5,z6⟩
 dsimp only
 refine D.q (i:=21) O (aA [4,5,6,7,8] [0] O) O (q.as O) O<|D.done<|?_
 have hz:((),pe,pc,lg,(au dk (lg.From+pe.E) (dD 99 (lg.First+pe.E) (bY (pc.C.length:Int)))).1,(au dk (lg.From+pe.E) (dD 99 (lg.First+pe.E) (bY (pc.C.length:Int)))).2)=((),pe,pc,lg,(au dk (lg.From+pe.E) (dD 99 (lg.First+pe.E) (bY (pc.C.length:Int)))).1,(au dk (lg.From+pe.E) (dD 99 (lg.First+pe.E) (bY (pc.C.length:Int)))).2):=by (rfl)
 exact R.w1 (uE,z4,z5,z6) [4,5,6,7,0,1,2,3,8] [0] O Tryz.results181 (RV.tmp O) O O O O
theorem Gq (bC:Nat)(lg:Lg)(Gp:Value)(c:List Change)(aH:Nat)(ay aF av:Value)(dk:cw)(w:World)(own:List Nat)(H:HN w own [ag.box bC [.pointer (some ⟨aH,0,none⟩),iV lg.From,iV lg.Many,iV lg.First,iV lg.Next] 198,ag.box aH [ay,aF,av,iV dk.Fuse,.bool dk.Down] 112,ag.row 9 ay dk.Kept,ag.row 9 aF dk.Now,ag.row 114 av dk.Wait] [ag.ls Gp c])(hb:0<=lg.From/\lg.From<=1000000000/\0<=lg.Next/\lg.Next<=1000000000/\0<=lg.First/\lg.First<=4000000000000000000/\0<=lg.Many/\lg.Many<=1000000000)(hD:fM dk.Now.length 80000 dk/\dk.Now.length<=100000):RC Tryz.prog 135 #[.pointer (some ⟨bC,0,none⟩),Gp] H (fun _:Value×Value×Value=>df (cy lg dk c).2.2) (fun z=>[ag.box bC [.pointer (some ⟨aH,0,none⟩),iV (cy lg dk c).1.From,iV (cy lg dk c).1.Many,iV (cy lg dk c).1.First,iV (cy lg dk c).1.Next] 198,ag.box aH [z.1,z.2.1,z.2.2,iV (cy lg dk c).2.1.Fuse,.bool (cy lg dk c).2.1.Down] 112,ag.row 9 z.1 (cy lg dk c).2.1.Kept,ag.row 9 z.2.1 (cy lg dk c).2.1.Now,ag.row 114 z.2.2 (cy lg dk c).2.1.Wait]) (fun _=>[]):=by
 have dZ:=H.cap 2 rfl;have d9:=H.cE 2 rfl
 have fh:=H.cap 3 rfl;have fj:=H.cE 3 rfl
 have ea:=H.cap 4 rfl;have ec:=H.cE 4 rfl
 have VM:=H.cq 0 rfl
 refine R.bF [(0,.pointer (some ⟨bC,0,none⟩)),(1,Gp)] Tryz.func135 O O O O H<|R.reg O<|R.s O (s.box O O O) fun b1=>?_
 refine R.s O (s.Rz O (fun w hw=>Sl.cr (hw.bO 0 O)) O) fun b2=>?_
 refine R.u 1 O<|R.nil<|R.reg O<|R.q (q.ld 0 O O gx O) O<|R.q (q.len' (dh 0 O) O Tryz.underlying34) O<|?_
 by_cases h1:62<c.length
 .
  refine R.q (q.eM O O) O<|R.nil<|R.az O O<|R.reg O<|R.q (q.iface O br) O<|R.u 1 O<|R.nil ?_
  have hz:cy lg dk c=(lg,dk,2):=by (exact JZ ‹_›)
  rw [hz]
  exact R.w1 (ay,aF,av) [2,3,4,5,6,7] [] O Tryz.results135 (RV.tmp O) O O O (dj (by decide) O)
 refine R.q (q.ey O O) O<|R.nil<|R.aD O O ?_
 by_cases h2:lg.Many-lg.Next<((c.length+1):Int)
 .
  refine R.eZ O mixed (by kernel_rfl)<|Q.q (q.ld 0 O O gx O) O<|Q.q (q.len' (dh 0 O) O Tryz.underlying34) O<|Q.q (q.bA (r:=((c.length+1:Nat):Int)) O O) O<|Q.q (q.ld 1 O O fD O) O<|Q.c (q.call EE O O (fun w hw=>(wX bC aH lg w (hw.b 2 O) (by omega)))) O<|Q.q (q.eM O O) O<|Q.nil<|R.az O O<|R.reg O<|R.q (q.iface O br) O<|R.u 1 O<|R.nil ?_
  have hz:cy lg dk c=(lg,dk,9):=by (exact J0 (by omega) (by omega))
  rw [hz]
  exact R.w1 (ay,aF,av) [2,3,4,5,6,7] [] O Tryz.results135 (RV.tmp O) O O O (dj (by decide) O)
 refine R.eZ O mixed (by kernel_rfl)<|Q.q (q.ld 0 O O gx O) O<|Q.q (q.len' (dh 0 O) O Tryz.underlying34) O<|Q.q (q.bA (r:=((c.length+1:Nat):Int)) O O) O<|Q.q (q.ld 1 O O fD O) O<|Q.c (q.call EE O O (fun w hw=>(wX bC aH lg w (hw.b 2 O) (by omega)))) O<|Q.q (q.ey O O) O<|Q.nil<|R.aD O O<|R.reg O<|R.q (q.ld 0 O O gx O) O<|R.q (q.len' (dh 0 O) O Tryz.underlying34) O<|R.u 1 O<|R.nil<|R.loop (fun i:Nat=>[(2,.pointer (some ⟨b1,0,none⟩)),(3,.pointer (some ⟨b2,0,none⟩)),(23,Gp),(24,iV (c.length:Int)),(25,iV (i:Int))]) (fun i:Nat=>[ag.box b2 [Gp] 34,ag.box b1 [.pointer (some ⟨bC,0,none⟩)] 131,ag.box bC [.pointer (some ⟨aH,0,none⟩),iV lg.From,iV lg.Many,iV lg.First,iV lg.Next] 198,ag.box aH [ay,aF,av,iV dk.Fuse,.bool dk.Down] 112,ag.row 9 ay dk.Kept,ag.row 9 aF dk.Now,ag.row 114 av dk.Wait,ag.held w own]) (fun i:Nat=>[ag.ls Gp c]) (fun i:Nat=>i<=c.length/\jF (c.drop i)=jF c) (fun i:Nat=>c.length-i) 0 O (by exact ⟨by omega,rfl⟩) (sF O) (iz dU [0] O) ?_
 rintro i ⟨hi,HL⟩
 refine R.reg O<|?_
 by_cases h3:i<c.length
 .
  refine R.q (q.dC O O) O<|R.nil<|R.az O O<|R.reg O<|?_
  obtain ⟨x1,hx1⟩:∃z,c[i]? = some z:=⟨_,List.getElem?_eq_getElem (by omega)⟩
  have PU:=bz x1
  refine R.q (q.idx (i:=i) (dh 0 O) O O bW O hx1) O<|R.q (q.gh (ds:=fC x1) (dh 0 O) hx1 O aX O) O<|R.s O (s.alloc cC O O) fun b3=>?_
  refine R.s O (s.st 0 _ O O O O (.inl aX) O O O O) fun _=>?_
  refine R.nil<|R.reg O<|R.q (q.cT 0 O O aX) O<|R.c (q.call tJ O O (fun w hw=>(ju x1 w ))) O<|R.u 1 O<|R.nil ?_
  refine R.reg O<|R.u 1 O<|?_
  by_cases h4:iL x1=0
  .
   refine R.q (q.dx O O Tryz.underlying38) O<|R.nil<|R.aD O O<|R.reg O<|R.q (q.bA (r:=((i+1:Nat):Int)) O O) O<|R.u 1 O<|R.nil<|R.back (i+1) O (by (exact ⟨by omega,JX HL hx1 (by omega)⟩)) (by omega) (sF O) (aA su [0] O)
  refine R.q (q.dX O O Tryz.underlying38) O<|R.nil<|R.az O O<|R.reg O<|R.u 2 O<|R.nil ?_
  have hz:cy lg dk c=(lg,dk,iL x1):=by (exact HI ‹_› (by omega) (Bj HL hx1 ‹_›) ‹_›)
  rw [hz]
  exact R.w1 (ay,aF,av) mL [] O Tryz.results135 (RV.tmp O) O O O O
 refine R.q (q.cS O O) O<|R.nil<|R.aD O O ?_
 have g0:jF c=0:=JY HL (by omega);have g1:=Bm (lg:=lg) ‹_› (by omega) g0;have g2:=qD g0
 refine R.fJ (fuel:=9) dU O O mixed O<|D.q (i:=0) O (aA dU [0] O) O (q.ld 1 O O fD O) O<|D.q (i:=1) O (aA dU [0] O) O (q.bR O) O<|D.q (i:=2) O (aA dU [0] O) O (q.aP O jX O) O<|D.q (i:=3) O (aA dU [0] O) O (q.ld 2 O O ap O) O<|D.q (i:=4) O (aA dU [0] O) O (q.ld 0 O O gx O) O<|D.q (i:=5) O (aA dU [0] O) O (q.len' (dh 0 O) O Tryz.underlying34) O<|D.q (i:=6) O (aA dU [0] O) O (q.bA (r:=lg.Next+(c.length:Int)) O O) O<|D.one (i:=7) O<|Do.s (s.alloc lT O O) (fun _=>(aA su [0] O)) O fun b4=>?_
 refine D.one (i:=8) O<|Do.s (s.st 0 _ O O O O (.inr ⟨ap,rfl⟩) O O O O) (fun _=>(aA su [0] O)) O fun _=>?_
 refine D.done<|?_
 have a0:fM dk.Now.length 90000 dk/\dk.Now.length<=100000:=⟨hD.1.up (by omega),hD.2⟩;have a2:fM dk.Now.length 90000 (dw lg dk c).1:=(Bi (lg:=lg) (c:=c) hD.1).up (by omega);have n2:=a2.nl;have q2:=a2.fine (by omega) (by omega)
 have a3:fM dk.Now.length 90000 (ai (dw lg dk c).1).1:=a2.flush;have n3:(ai (dw lg dk c).1).1.Now.length=dk.Now.length:=a3.nl;have q3:fM (ai (dw lg dk c).1).1.Now.length 91000 (ai (dw lg dk c).1).1/\(ai (dw lg dk c).1).1.Now.length<=100000:=⟨n3▸a3.up (by omega),by omega⟩
 have a4:fM dk.Now.length 90001 (au (ai (dw lg dk c).1).1 (lg.From+(lg.Next+(c.length:Int))) (dD 99 (lg.First+(lg.Next+(c.length:Int))) (bY (c.length:Int)))).1:=a3.write _ _;have n4:=a4.nl;have q4:=a4.fine (by omega) (by omega)
 refine R.fJ (fuel:=15) bZ O O mixed O<|D.q (i:=0) O (aA bZ [0] O) O (q.LM (cap:=[.pointer (some ⟨b1,0,none⟩),.pointer (some ⟨b2,0,none⟩)]) O O) O<|D.q (i:=1) O (aA bZ [0] O) O (q.ld 2 O O fD O) O<|D.q (i:=2) O (aA bZ [0] O) O (q.bR O) O<|D.q (i:=3) O (aA bZ [0] O) O (q.aP O kO O) O<|D.q (i:=4) O (aA bZ [0] O) O (q.ld 3 O O jm O) O<|D.q (i:=5) O (aA bZ [0] O) O (q.Sn (bnd:=[.pointer (some ⟨aH,0,none⟩)]) (cap:=[]) O O) O<|D.q (i:=6) O (aA bZ [0] O) O (q.LM (cap:=[.pointer (some ⟨b1,0,none⟩),.pointer (some ⟨b4,0,none⟩),.pointer (some ⟨b2,0,none⟩)]) O O) O<|D.q (i:=7) O (aA bZ [0] O) O (q.ld 2 O O fD O) O<|D.q (i:=8) O (aA bZ [0] O) O (q.bR O) O<|D.q (i:=9) O (aA bZ [0] O) O (q.aP O kO O) O<|D.q (i:=10) O (aA bZ [0] O) O (q.ld 3 O O jm O) O<|D.q (i:=11) O (aA bZ [0] O) O (q.Sn (bnd:=[.pointer (some ⟨aH,0,none⟩)]) (cap:=[]) O O) O<|D.q (i:=14) O (aA bZ [0] O) O (q.mv O) O<|D.one (i:=12) O<|Do.s (s.bs (l:=(([(⟨.func 179,#[],#[.pointer (some ⟨b1,0,none⟩),.pointer (some ⟨b2,0,none⟩)]⟩:yy),(⟨.func 80,#[.pointer (some ⟨aH,0,none⟩)],#[]⟩:yy),(⟨.func 181,#[],#[.pointer (some ⟨b1,0,none⟩),.pointer (some ⟨b4,0,none⟩),.pointer (some ⟨b2,0,none⟩)]⟩:yy),(⟨.func 80,#[.pointer (some ⟨aH,0,none⟩)],#[]⟩:yy)]):List yy)) sL I6 O O O O O O O) (fun _=>(aA Cg [0] O)) O fun b5=>?_
 refine D.one (i:=13) O<|Do.s (s.c (Qt.a (q.G7 (v:=iV ((List.length ([(⟨.func 179,#[],#[.pointer (some ⟨b1,0,none⟩),.pointer (some ⟨b2,0,none⟩)]⟩:yy),(⟨.func 80,#[.pointer (some ⟨aH,0,none⟩)],#[]⟩:yy),(⟨.func 181,#[],#[.pointer (some ⟨b1,0,none⟩),.pointer (some ⟨b4,0,none⟩),.pointer (some ⟨b2,0,none⟩)]⟩:yy),(⟨.func 80,#[.pointer (some ⟨aH,0,none⟩)],#[]⟩:yy)]):Nat):Int)) (v':=iV 4) O (q.len' (l:=([(⟨.func 179,#[],#[.pointer (some ⟨b1,0,none⟩),.pointer (some ⟨b2,0,none⟩)]⟩:yy),(⟨.func 80,#[.pointer (some ⟨aH,0,none⟩)],#[]⟩:yy),(⟨.func 181,#[],#[.pointer (some ⟨b1,0,none⟩),.pointer (some ⟨b4,0,none⟩),.pointer (some ⟨b2,0,none⟩)]⟩:yy),(⟨.func 80,#[.pointer (some ⟨aH,0,none⟩)],#[]⟩:yy)])) (bD 0 O) O Tryz.underlying238))) O) (fun _=>(aA Cg [0] O)) O fun _=>?_
 refine D.done<|R.OI 4 O<|R.reg O<|R.q (q.lss (b:=true) O O (by decide)) O<|R.nil<|R.az O O<|R.reg O<|R.q (q.idx (i:=0) (bD 0 O) O O sL O O) O<|R.q (q.Ml (x:=(⟨.func 179,#[],#[.pointer (some ⟨b1,0,none⟩),.pointer (some ⟨b2,0,none⟩)]⟩:yy)) O (q.ln (bD 0 O) O O vx O)) O<|R.u 1 O<|R.nil<|R.reg O<|R.u 1 O<|R.s O (s.aT [3,2,4,5,6,7,8,0,1,9] [0] _ _ _ O O O Pr O O (fun w own hw H=>J2 b1 () b2 Gp (⟨c⟩:TK) bC lg aH ay aF av dk w own H ‹_› (by (dsimp only;omega)) ‹_› ‹_›) O) ?_
 rintro ⟨z1,z2,z3,z4⟩
 dsimp only
 refine R.u 1 O<|R.nil<|R.reg O<|R.u 1 O<|?_
 by_cases h5:(dw lg dk c).2=0
 .
  refine R.q (q.dx O O Tryz.underlying38) O<|R.nil<|R.aD O O<|R.reg O<|R.q (q.add (r:=1) O O (by decide)) O<|R.u 1 O<|R.nil<|R.again O O<|R.reg O<|R.q (q.lss (b:=true) O O (by decide)) O<|R.nil<|R.az O O<|R.reg O<|R.q (q.idx (i:=1) (bD 7 O) O O sL O O) O<|R.q (q.Ml (x:=(⟨.func 80,#[.pointer (some ⟨aH,0,none⟩)],#[]⟩:yy)) O (q.ln (bD 7 O) O O vx O)) O<|R.u 1 O<|R.nil<|R.reg O<|R.u 1 O<|R.s O (s.JU [3,4,5,6,0,1,2,7,8,9] [] _ _ _ O O O zb O O (fun w own hw H=>kS aH z2 z3 z4 (dw lg dk c).1 w own H ‹_›) O) ?_
  rintro ⟨z5,z6,z7⟩
  dsimp only
  refine R.u 1 O<|R.nil<|R.reg O<|R.u 1 O<|?_
  by_cases h6:(ai (dw lg dk c).1).2=0
  .
   refine R.q (q.dx O O Tryz.underlying38) O<|R.nil<|R.aD O O<|R.reg O<|R.q (q.add (r:=2) O O (by decide)) O<|R.u 1 O<|R.nil<|R.again O O<|R.reg O<|R.q (q.lss (b:=true) O O (by decide)) O<|R.nil<|R.az O O<|R.reg O<|R.q (q.idx (i:=2) (bD 7 O) O O sL O O) O<|R.q (q.Ml (x:=(⟨.func 181,#[],#[.pointer (some ⟨b1,0,none⟩),.pointer (some ⟨b4,0,none⟩),.pointer (some ⟨b2,0,none⟩)]⟩:yy)) O (q.ln (bD 7 O) O O vx O)) O<|R.u 1 O<|R.nil<|R.reg O<|R.u 1 O<|R.s O (s.aT [4,8,5,6,0,1,2,3,7,9] [0] _ _ _ O O O Pt O O (fun w own hw H=>J3 b1 () b4 (⟨(lg.Next+(c.length:Int))⟩:Sp) b2 z1 (⟨c⟩:TK) bC lg aH z5 z6 z7 (ai (dw lg dk c).1).1 w own H ‹_› (by (dsimp only;omega)) (by (dsimp only;omega)) ‹_›) O) ?_
   rintro ⟨z8,z9,mG,l5⟩
   dsimp only
   refine R.u 1 O<|R.nil<|R.reg O<|R.u 1 O<|?_
   by_cases h7:(au (ai (dw lg dk c).1).1 (lg.From+(lg.Next+(c.length:Int))) (dD 99 (lg.First+(lg.Next+(c.length:Int))) (bY (c.length:Int)))).2=0
   .
    refine R.q (q.dx O O Tryz.underlying38) O<|R.nil<|R.aD O O<|R.reg O<|R.q (q.add (r:=3) O O (by decide)) O<|R.u 1 O<|R.nil<|R.again O O<|R.reg O<|R.q (q.lss (b:=true) O O (by decide)) O<|R.nil<|R.az O O<|R.reg O<|R.q (q.idx (i:=3) (bD 8 O) O O sL O O) O<|R.q (q.Ml (x:=(⟨.func 80,#[.pointer (some ⟨aH,0,none⟩)],#[]⟩:yy)) O (q.ln (bD 8 O) O O vx O)) O<|R.u 1 O<|R.nil<|R.reg O<|R.u 1 O<|R.s O (s.JU [4,5,6,7,0,1,2,3,8,9] [] _ _ _ O O O zb O O (fun w own hw H=>kS aH z9 mG l5 (au (ai (dw lg dk c).1).1 (lg.From+(lg.Next+(c.length:Int))) (dD 99 (lg.First+(lg.Next+(c.length:Int))) (bY (c.length:Int)))).1 w own H ‹_›) O) ?_
    rintro ⟨z12,py,yv⟩
    dsimp only
    refine R.u 1 O<|R.nil<|R.reg O<|R.u 1 O<|?_
    by_cases h8:(ai (au (ai (dw lg dk c).1).1 (lg.From+(lg.Next+(c.length:Int))) (dD 99 (lg.First+(lg.Next+(c.length:Int))) (bY (c.length:Int)))).1).2=0
    .
     refine R.q (q.dx O O Tryz.underlying38) O<|R.nil<|R.aD O O<|R.reg O<|R.q (q.add (r:=4) O O (by decide)) O<|R.u 1 O<|R.nil<|R.again O O<|R.reg O<|R.q (q.lss (b:=false) O O (by decide)) O<|R.nil<|R.aD O O<|R.reg O<|R.q (q.ld 4 O O fD O) O<|R.q (q.ld 5 O O ap O) O<|R.q (q.bA (r:=(lg.Next+(c.length:Int))+1) O O) O<|R.q (q.bR O) O<|R.q (q.aP O jX O) O<|R.s O (s.st 7 _ O O O O (.inr ⟨ap,rfl⟩) O O O O) fun _=>?_
     refine R.nil<|R.reg O<|R.u 1 O<|R.nil ?_
     have hz:cy lg dk c=((⟨lg.From,lg.Many,lg.First,((lg.Next+(c.length:Int))+1)⟩:Lg),(ai (au (ai (dw lg dk c).1).1 (lg.From+(lg.Next+(c.length:Int))) (dD 99 (lg.First+(lg.Next+(c.length:Int))) (bY (c.length:Int)))).1).1,0):=by (exact EU g1 ‹_› ‹_› ‹_› ‹_›)
     rw [hz]
     exact R.w1 (z12,py,yv) [7,0,1,2,3,9] [] O Tryz.results135 (RV.tmp O) O O O (iJ O)
    refine R.q (q.dX O O Tryz.underlying38) O<|R.nil<|R.az O O<|R.reg O<|R.u 2 O<|R.nil ?_
    have hz:cy lg dk c=(lg,(ai (au (ai (dw lg dk c).1).1 (lg.From+(lg.Next+(c.length:Int))) (dD 99 (lg.First+(lg.Next+(c.length:Int))) (bY (c.length:Int)))).1).1,(ai (au (ai (dw lg dk c).1).1 (lg.From+(lg.Next+(c.length:Int))) (dD 99 (lg.First+(lg.Next+(c.length:Int))) (bY (c.length:Int)))).1).2):=by (exact N4 g1 ‹_› ‹_› ‹_› ‹_›)
    rw [hz]
    exact R.w1 (z12,py,yv) [7,0,1,2,3,9] [] O Tryz.results135 (RV.tmp O) O O O O
   refine R.q (q.dX O O Tryz.underlying38) O<|R.nil<|R.az O O<|R.reg O<|R.u 2 O<|R.nil ?_
   have hz:cy lg dk c=(lg,(au (ai (dw lg dk c).1).1 (lg.From+(lg.Next+(c.length:Int))) (dD 99 (lg.First+(lg.Next+(c.length:Int))) (bY (c.length:Int)))).1,(au (ai (dw lg dk c).1).1 (lg.From+(lg.Next+(c.length:Int))) (dD 99 (lg.First+(lg.Next+(c.length:Int))) (bY (c.length:Int)))).2):=by (exact N3 g1 ‹_› ‹_› ‹_›)
   rw [hz]
   exact R.w1 (z9,mG,l5) [3,4,5,6,7,9] [] O Tryz.results135 (RV.tmp O) O O O O
  refine R.q (q.dX O O Tryz.underlying38) O<|R.nil<|R.az O O<|R.reg O<|R.u 2 O<|R.nil ?_
  have hz:cy lg dk c=(lg,(ai (dw lg dk c).1).1,(ai (dw lg dk c).1).2):=by (exact N2 g1 ‹_› ‹_›)
  rw [hz]
  exact R.w1 (z5,z6,z7) [6,0,1,2,3,9] [] O Tryz.results135 (RV.tmp O) O O O O
 refine R.q (q.dX O O Tryz.underlying38) O<|R.nil<|R.az O O<|R.reg O<|R.u 2 O<|R.nil ?_
 have hz:cy lg dk c=(lg,(dw lg dk c).1,(dw lg dk c).2):=by (exact N1 g1 ‹_›)
 rw [hz]
 exact R.w1 (z2,z3,z4) [2,3,4,5,6,9] [] O Tryz.results135 (RV.tmp O) O O O O
end Go.Proofs.YtkbhcbipadkcaaaGreatDoor
