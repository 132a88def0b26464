import Derived.Test.YtkbhcbipadkcaaaGreatDoorTW9
namespace Go.Proofs.YtkbhcbipadkcaaaGreatDoor
set_option linter.unusedVariables false
set_option linter.unusedSimpArgs false
set_option maxRecDepth 100000
set_option maxHeartbeats 90000000
open Go Go.RowKit
theorem du (n:Int)(w:World)(hn:0<=n/\n<=9000000000000000000):Calls Tryz.prog 142 #[iV n] w fun e w'=>e = .returned (.string (bW n))/\Ext w w':=by
 refine R.enter [] [(0,iV n)] Tryz.func142 O O O O<|R.reg O<|R.u 1 O<|R.nil<|R.reg O<|R.u 1 O<|R.q (q.nq O (by rw [Tryz.underlying3];rfl) Tryz.underlying5 pW) O<|R.u 1 O<|R.q (q.shr (r:=n / 256) O O (by decide) (Hf (D:=256) (by decide) (by decide))) O<|R.q (q.nq O (by rw [Tryz.underlying3];rfl) Tryz.underlying5 pW) O<|R.u 1 O<|R.q (q.shr (r:=n / 65536) O O (by decide) (Hf (D:=65536) (by decide) (by decide))) O<|R.q (q.nq O (by rw [Tryz.underlying3];rfl) Tryz.underlying5 pW) O<|R.u 1 O<|R.q (q.shr (r:=n / 16777216) O O (by decide) (Hf (D:=16777216) (by decide) (by decide))) O<|R.q (q.nq O (by rw [Tryz.underlying3];rfl) Tryz.underlying5 pW) O<|R.s O (s.bs (l:=([(u8 (n % 256)),(u8 ((n / 256) % 256)),(u8 ((n / 65536) % 256)),(u8 ((n / 16777216) % 256))]:List UInt8)) aR ey O O O O O (cp (gC (by omega)) (cp (gC (by omega)) (cp (gC (by omega)) (cp (gC (by omega)) fV)))) O) fun b1=>?_
 exact R.q (q.kg (bC 0 O) O aR Tryz.underlying5 Tryz.underlying9) O<|R.u 1 O<|R.nil<|R.rv O Tryz.results142 O (rS (by rfl))
theorem C0 (k:Int)(n:Int)(sx:ByteArray)(w:World)(hk:0<=k/\k<=255)(hn:0<=n/\n<=9000000000000000000)(hs:sx.size<=41):Calls Tryz.prog 182 #[.int .u8 k,iV n,.string sx] w fun e w'=>e = .returned (.string (dG k n sx))/\Ext w w':=by
 refine R.enter [] [(0,.int .u8 k),(1,iV n),(2,.string sx)] Tryz.func182 O O O O<|R.reg O<|R.u 1 O<|R.nil<|R.fP (fuel:=19) [] O O mixed O<|D.q (i:=0) O (aD [] [] O) O (q.mv O) O<|D.q (i:=3) O (aD [] [] O) O (q.mv O) O<|D.q (i:=6) O (aD [] [] O) O (q.mv O) O<|D.q (i:=7) O (aD [] [] O) O (q.iA O Tryz.underlying9) O<|D.q (i:=8) O (aD [] [] O) O (q.nq (r:=((sx.size:Nat):Int)) O (by rw [Tryz.underlying3];rfl) Tryz.underlying5 (wt (by omega))) O<|D.q (i:=9) O (aD [] [] O) O (q.mv O) O<|D.q (i:=10) O (aD [] [] O) O (q.iA O Tryz.underlying9) O<|D.q (i:=11) O (aD [] [] O) O (q.shr (r:=(((sx.size / 256):Nat):Int)) O O (by decide) (Mi (by decide))) O<|D.q (i:=12) O (aD [] [] O) O (q.nq (r:=(((sx.size / 256):Nat):Int)) O (by rw [Tryz.underlying3];rfl) Tryz.underlying5 (wt (by omega))) O<|D.q (i:=16) O (aD [] [] O) O (q.mv O) O<|D.three (i:=1) (j:=4) (m:=13) O O O ?_ ?_ ?_
 .
  refine Do.s (s.bs (l:=([(u8 k)]:List UInt8)) aR ey O O O O O (cp (gC (by omega)) fV) O) (fun _=>(aD [] [] O)) O fun b1=>?_
  refine D.three (i:=2) (j:=4) (m:=13) O O O ?_ ?_ ?_
  .
   refine Do.s (s.c (Qt.a (q.kg (bC 0 O) O aR Tryz.underlying5 Tryz.underlying9)) O) (fun _=>(aD [] [] O)) O fun _=>?_
   refine D.two (i:=4) (j:=13) O O ?_ ?_
   .
    refine Do.s (s.c (q.call fx O O (fun w hw=>(du n w (by omega)))) O) (fun _=>(aD [] [] O)) O fun _=>?_
    refine D.q (i:=5) O (aD [] [] O) O (q.cat O O (by (simp only [ByteArray.size_append,aI,aF,List.length_cons,List.length_nil];omega))) O<|D.one (i:=13) O<|Do.s (s.bs (l:=([(UInt8.ofNat sx.size),(UInt8.ofNat (sx.size / 256))]:List UInt8)) aR ey O O O O O (cp (dJ (by omega)) (cp (dJ (by omega)) fV)) O) (fun _=>(aD [] [] O)) O fun b2=>?_
    refine D.one (i:=14) O<|Do.s (s.c (Qt.a (q.kg (bC 0 O) O aR Tryz.underlying5 Tryz.underlying9)) O) (fun _=>(aD [] [] O)) O fun _=>?_
    exact D.q (i:=15) rfl (fun _=>Wd.pk [] [] rfl) rfl (q.cat rfl rfl (by (simp only [ByteArray.size_append,aI,aF,List.length_cons,List.length_nil];omega))) rfl<|D.q (i:=17) rfl (fun _=>Wd.pk [] [] rfl) rfl (q.cat rfl rfl (by (simp only [ByteArray.size_append,aI,aF,List.length_cons,List.length_nil];omega))) rfl<|D.q (i:=18) rfl (fun _=>Wd.pk [] [] rfl) rfl (q.as rfl) rfl<|D.done<|R.rv rfl Tryz.results182 rfl (rS (by rfl))
   refine Do.s (s.bs (l:=([(UInt8.ofNat sx.size),(UInt8.ofNat (sx.size / 256))]:List UInt8)) aR ey O O O O O (cp (dJ (by omega)) (cp (dJ (by omega)) fV)) O) (fun _=>(aD [] [] O)) O fun b3=>?_
   refine D.two (i:=4) (j:=14) O O ?_ ?_
   .
    refine Do.s (s.c (q.call fx O O (fun w hw=>(du n w (by omega)))) O) (fun _=>(aD [] [] O)) O fun _=>?_
    refine D.q (i:=5) O (aD [] [] O) O (q.cat O O (by (simp only [ByteArray.size_append,aI,aF,List.length_cons,List.length_nil];omega))) O<|D.one (i:=14) O<|Do.s (s.c (Qt.a (q.kg (bC 0 O) O aR Tryz.underlying5 Tryz.underlying9)) O) (fun _=>(aD [] [] O)) O fun _=>?_
    exact D.q (i:=15) rfl (fun _=>Wd.pk [] [] rfl) rfl (q.cat rfl rfl (by (simp only [ByteArray.size_append,aI,aF,List.length_cons,List.length_nil];omega))) rfl<|D.q (i:=17) rfl (fun _=>Wd.pk [] [] rfl) rfl (q.cat rfl rfl (by (simp only [ByteArray.size_append,aI,aF,List.length_cons,List.length_nil];omega))) rfl<|D.q (i:=18) rfl (fun _=>Wd.pk [] [] rfl) rfl (q.as rfl) rfl<|D.done<|R.rv rfl Tryz.results182 rfl (rS (by rfl))
   refine Do.s (s.c (Qt.a (q.kg (bC 0 O) O aR Tryz.underlying5 Tryz.underlying9)) O) (fun _=>(aD [] [] O)) O fun _=>?_
   refine D.one (i:=4) O<|Do.s (s.c (q.call fx O O (fun w hw=>(du n w (by omega)))) O) (fun _=>(aD [] [] O)) O fun _=>?_
   exact D.q (i:=5) rfl (fun _=>Wd.pk [] [] rfl) rfl (q.cat rfl rfl (by (simp only [ByteArray.size_append,aI,aF,List.length_cons,List.length_nil];omega))) rfl<|D.q (i:=15) rfl (fun _=>Wd.pk [] [] rfl) rfl (q.cat rfl rfl (by (simp only [ByteArray.size_append,aI,aF,List.length_cons,List.length_nil];omega))) rfl<|D.q (i:=17) rfl (fun _=>Wd.pk [] [] rfl) rfl (q.cat rfl rfl (by (simp only [ByteArray.size_append,aI,aF,List.length_cons,List.length_nil];omega))) rfl<|D.q (i:=18) rfl (fun _=>Wd.pk [] [] rfl) rfl (q.as rfl) rfl<|D.done<|R.rv rfl Tryz.results182 rfl (rS (by rfl))
  .
   refine Do.s (s.c (q.call fx O O (fun w hw=>(du n w (by omega)))) O) (fun _=>(aD [] [] O)) O fun _=>?_
   refine D.two (i:=2) (j:=13) O O ?_ ?_
   .
    refine Do.s (s.c (Qt.a (q.kg (bC 0 O) O aR Tryz.underlying5 Tryz.underlying9)) O) (fun _=>(aD [] [] O)) O fun _=>?_
    refine D.q (i:=5) O (aD [] [] O) O (q.cat O O (by (simp only [ByteArray.size_append,aI,aF,List.length_cons,List.length_nil];omega))) O<|D.one (i:=13) O<|Do.s (s.bs (l:=([(UInt8.ofNat sx.size),(UInt8.ofNat (sx.size / 256))]:List UInt8)) aR ey O O O O O (cp (dJ (by omega)) (cp (dJ (by omega)) fV)) O) (fun _=>(aD [] [] O)) O fun b4=>?_
    refine D.one (i:=14) O<|Do.s (s.c (Qt.a (q.kg (bC 0 O) O aR Tryz.underlying5 Tryz.underlying9)) O) (fun _=>(aD [] [] O)) O fun _=>?_
    exact D.q (i:=15) rfl (fun _=>Wd.pk [] [] rfl) rfl (q.cat rfl rfl (by (simp only [ByteArray.size_append,aI,aF,List.length_cons,List.length_nil];omega))) rfl<|D.q (i:=17) rfl (fun _=>Wd.pk [] [] rfl) rfl (q.cat rfl rfl (by (simp only [ByteArray.size_append,aI,aF,List.length_cons,List.length_nil];omega))) rfl<|D.q (i:=18) rfl (fun _=>Wd.pk [] [] rfl) rfl (q.as rfl) rfl<|D.done<|R.rv rfl Tryz.results182 rfl (rS (by rfl))
   refine Do.s (s.bs (l:=([(UInt8.ofNat sx.size),(UInt8.ofNat (sx.size / 256))]:List UInt8)) aR ey O O O O O (cp (dJ (by omega)) (cp (dJ (by omega)) fV)) O) (fun _=>(aD [] [] O)) O fun b5=>?_
   refine D.two (i:=2) (j:=14) O O ?_ ?_
   .
    refine Do.s (s.c (Qt.a (q.kg (bC 1 O) O aR Tryz.underlying5 Tryz.underlying9)) O) (fun _=>(aD [] [] O)) O fun _=>?_
    refine D.q (i:=5) O (aD [] [] O) O (q.cat O O (by (simp only [ByteArray.size_append,aI,aF,List.length_cons,List.length_nil];omega))) O<|D.one (i:=14) O<|Do.s (s.c (Qt.a (q.kg (bC 0 O) O aR Tryz.underlying5 Tryz.underlying9)) O) (fun _=>(aD [] [] O)) O fun _=>?_
    exact D.q (i:=15) rfl (fun _=>Wd.pk [] [] rfl) rfl (q.cat rfl rfl (by (simp only [ByteArray.size_append,aI,aF,List.length_cons,List.length_nil];omega))) rfl<|D.q (i:=17) rfl (fun _=>Wd.pk [] [] rfl) rfl (q.cat rfl rfl (by (simp only [ByteArray.size_append,aI,aF,List.length_cons,List.length_nil];omega))) rfl<|D.q (i:=18) rfl (fun _=>Wd.pk [] [] rfl) rfl (q.as rfl) rfl<|D.done<|R.rv rfl Tryz.results182 rfl (rS (by rfl))
   refine Do.s (s.c (Qt.a (q.kg (bC 0 O) O aR Tryz.underlying5 Tryz.underlying9)) O) (fun _=>(aD [] [] O)) O fun _=>?_
   refine D.one (i:=2) O<|Do.s (s.c (Qt.a (q.kg (bC 1 O) O aR Tryz.underlying5 Tryz.underlying9)) O) (fun _=>(aD [] [] O)) O fun _=>?_
   exact D.q (i:=5) rfl (fun _=>Wd.pk [] [] rfl) rfl (q.cat rfl rfl (by (simp only [ByteArray.size_append,aI,aF,List.length_cons,List.length_nil];omega))) rfl<|D.q (i:=15) rfl (fun _=>Wd.pk [] [] rfl) rfl (q.cat rfl rfl (by (simp only [ByteArray.size_append,aI,aF,List.length_cons,List.length_nil];omega))) rfl<|D.q (i:=17) rfl (fun _=>Wd.pk [] [] rfl) rfl (q.cat rfl rfl (by (simp only [ByteArray.size_append,aI,aF,List.length_cons,List.length_nil];omega))) rfl<|D.q (i:=18) rfl (fun _=>Wd.pk [] [] rfl) rfl (q.as rfl) rfl<|D.done<|R.rv rfl Tryz.results182 rfl (rS (by rfl))
  refine Do.s (s.bs (l:=([(UInt8.ofNat sx.size),(UInt8.ofNat (sx.size / 256))]:List UInt8)) aR ey O O O O O (cp (dJ (by omega)) (cp (dJ (by omega)) fV)) O) (fun _=>(aD [] [] O)) O fun b6=>?_
  refine D.three (i:=2) (j:=4) (m:=14) O O O ?_ ?_ ?_
  .
   refine Do.s (s.c (Qt.a (q.kg (bC 1 O) O aR Tryz.underlying5 Tryz.underlying9)) O) (fun _=>(aD [] [] O)) O fun _=>?_
   refine D.two (i:=4) (j:=14) O O ?_ ?_
   .
    refine Do.s (s.c (q.call fx O O (fun w hw=>(du n w (by omega)))) O) (fun _=>(aD [] [] O)) O fun _=>?_
    refine D.q (i:=5) O (aD [] [] O) O (q.cat O O (by (simp only [ByteArray.size_append,aI,aF,List.length_cons,List.length_nil];omega))) O<|D.one (i:=14) O<|Do.s (s.c (Qt.a (q.kg (bC 0 O) O aR Tryz.underlying5 Tryz.underlying9)) O) (fun _=>(aD [] [] O)) O fun _=>?_
    exact D.q (i:=15) rfl (fun _=>Wd.pk [] [] rfl) rfl (q.cat rfl rfl (by (simp only [ByteArray.size_append,aI,aF,List.length_cons,List.length_nil];omega))) rfl<|D.q (i:=17) rfl (fun _=>Wd.pk [] [] rfl) rfl (q.cat rfl rfl (by (simp only [ByteArray.size_append,aI,aF,List.length_cons,List.length_nil];omega))) rfl<|D.q (i:=18) rfl (fun _=>Wd.pk [] [] rfl) rfl (q.as rfl) rfl<|D.done<|R.rv rfl Tryz.results182 rfl (rS (by rfl))
   refine Do.s (s.c (Qt.a (q.kg (bC 0 O) O aR Tryz.underlying5 Tryz.underlying9)) O) (fun _=>(aD [] [] O)) O fun _=>?_
   refine D.one (i:=4) O<|Do.s (s.c (q.call fx O O (fun w hw=>(du n w (by omega)))) O) (fun _=>(aD [] [] O)) O fun _=>?_
   exact D.q (i:=5) rfl (fun _=>Wd.pk [] [] rfl) rfl (q.cat rfl rfl (by (simp only [ByteArray.size_append,aI,aF,List.length_cons,List.length_nil];omega))) rfl<|D.q (i:=15) rfl (fun _=>Wd.pk [] [] rfl) rfl (q.cat rfl rfl (by (simp only [ByteArray.size_append,aI,aF,List.length_cons,List.length_nil];omega))) rfl<|D.q (i:=17) rfl (fun _=>Wd.pk [] [] rfl) rfl (q.cat rfl rfl (by (simp only [ByteArray.size_append,aI,aF,List.length_cons,List.length_nil];omega))) rfl<|D.q (i:=18) rfl (fun _=>Wd.pk [] [] rfl) rfl (q.as rfl) rfl<|D.done<|R.rv rfl Tryz.results182 rfl (rS (by rfl))
  .
   refine Do.s (s.c (q.call fx O O (fun w hw=>(du n w (by omega)))) O) (fun _=>(aD [] [] O)) O fun _=>?_
   refine D.two (i:=2) (j:=14) O O ?_ ?_
   .
    refine Do.s (s.c (Qt.a (q.kg (bC 1 O) O aR Tryz.underlying5 Tryz.underlying9)) O) (fun _=>(aD [] [] O)) O fun _=>?_
    refine D.q (i:=5) O (aD [] [] O) O (q.cat O O (by (simp only [ByteArray.size_append,aI,aF,List.length_cons,List.length_nil];omega))) O<|D.one (i:=14) O<|Do.s (s.c (Qt.a (q.kg (bC 0 O) O aR Tryz.underlying5 Tryz.underlying9)) O) (fun _=>(aD [] [] O)) O fun _=>?_
    exact D.q (i:=15) rfl (fun _=>Wd.pk [] [] rfl) rfl (q.cat rfl rfl (by (simp only [ByteArray.size_append,aI,aF,List.length_cons,List.length_nil];omega))) rfl<|D.q (i:=17) rfl (fun _=>Wd.pk [] [] rfl) rfl (q.cat rfl rfl (by (simp only [ByteArray.size_append,aI,aF,List.length_cons,List.length_nil];omega))) rfl<|D.q (i:=18) rfl (fun _=>Wd.pk [] [] rfl) rfl (q.as rfl) rfl<|D.done<|R.rv rfl Tryz.results182 rfl (rS (by rfl))
   refine Do.s (s.c (Qt.a (q.kg (bC 0 O) O aR Tryz.underlying5 Tryz.underlying9)) O) (fun _=>(aD [] [] O)) O fun _=>?_
   refine D.one (i:=2) O<|Do.s (s.c (Qt.a (q.kg (bC 1 O) O aR Tryz.underlying5 Tryz.underlying9)) O) (fun _=>(aD [] [] O)) O fun _=>?_
   exact D.q (i:=5) rfl (fun _=>Wd.pk [] [] rfl) rfl (q.cat rfl rfl (by (simp only [ByteArray.size_append,aI,aF,List.length_cons,List.length_nil];omega))) rfl<|D.q (i:=15) rfl (fun _=>Wd.pk [] [] rfl) rfl (q.cat rfl rfl (by (simp only [ByteArray.size_append,aI,aF,List.length_cons,List.length_nil];omega))) rfl<|D.q (i:=17) rfl (fun _=>Wd.pk [] [] rfl) rfl (q.cat rfl rfl (by (simp only [ByteArray.size_append,aI,aF,List.length_cons,List.length_nil];omega))) rfl<|D.q (i:=18) rfl (fun _=>Wd.pk [] [] rfl) rfl (q.as rfl) rfl<|D.done<|R.rv rfl Tryz.results182 rfl (rS (by rfl))
  refine Do.s (s.c (Qt.a (q.kg (bC 0 O) O aR Tryz.underlying5 Tryz.underlying9)) O) (fun _=>(aD [] [] O)) O fun _=>?_
  refine D.two (i:=2) (j:=4) O O ?_ ?_
  .
   refine Do.s (s.c (Qt.a (q.kg (bC 1 O) O aR Tryz.underlying5 Tryz.underlying9)) O) (fun _=>(aD [] [] O)) O fun _=>?_
   refine D.one (i:=4) O<|Do.s (s.c (q.call fx O O (fun w hw=>(du n w (by omega)))) O) (fun _=>(aD [] [] O)) O fun _=>?_
   exact D.q (i:=5) rfl (fun _=>Wd.pk [] [] rfl) rfl (q.cat rfl rfl (by (simp only [ByteArray.size_append,aI,aF,List.length_cons,List.length_nil];omega))) rfl<|D.q (i:=15) rfl (fun _=>Wd.pk [] [] rfl) rfl (q.cat rfl rfl (by (simp only [ByteArray.size_append,aI,aF,List.length_cons,List.length_nil];omega))) rfl<|D.q (i:=17) rfl (fun _=>Wd.pk [] [] rfl) rfl (q.cat rfl rfl (by (simp only [ByteArray.size_append,aI,aF,List.length_cons,List.length_nil];omega))) rfl<|D.q (i:=18) rfl (fun _=>Wd.pk [] [] rfl) rfl (q.as rfl) rfl<|D.done<|R.rv rfl Tryz.results182 rfl (rS (by rfl))
  refine Do.s (s.c (q.call fx O O (fun w hw=>(du n w (by omega)))) O) (fun _=>(aD [] [] O)) O fun _=>?_
  refine D.one (i:=2) O<|Do.s (s.c (Qt.a (q.kg (bC 1 O) O aR Tryz.underlying5 Tryz.underlying9)) O) (fun _=>(aD [] [] O)) O fun _=>?_
  exact D.q (i:=5) rfl (fun _=>Wd.pk [] [] rfl) rfl (q.cat rfl rfl (by (simp only [ByteArray.size_append,aI,aF,List.length_cons,List.length_nil];omega))) rfl<|D.q (i:=15) rfl (fun _=>Wd.pk [] [] rfl) rfl (q.cat rfl rfl (by (simp only [ByteArray.size_append,aI,aF,List.length_cons,List.length_nil];omega))) rfl<|D.q (i:=17) rfl (fun _=>Wd.pk [] [] rfl) rfl (q.cat rfl rfl (by (simp only [ByteArray.size_append,aI,aF,List.length_cons,List.length_nil];omega))) rfl<|D.q (i:=18) rfl (fun _=>Wd.pk [] [] rfl) rfl (q.as rfl) rfl<|D.done<|R.rv rfl Tryz.results182 rfl (rS (by rfl))
 .
  refine Do.s (s.c (q.call fx O O (fun w hw=>(du n w (by omega)))) O) (fun _=>(aD [] [] O)) O fun _=>?_
  refine D.two (i:=1) (j:=13) O O ?_ ?_
  .
   refine Do.s (s.bs (l:=([(u8 k)]:List UInt8)) aR ey O O O O O (cp (gC (by omega)) fV) O) (fun _=>(aD [] [] O)) O fun b7=>?_
   refine D.two (i:=2) (j:=13) O O ?_ ?_
   .
    refine Do.s (s.c (Qt.a (q.kg (bC 0 O) O aR Tryz.underlying5 Tryz.underlying9)) O) (fun _=>(aD [] [] O)) O fun _=>?_
    refine D.q (i:=5) O (aD [] [] O) O (q.cat O O (by (simp only [ByteArray.size_append,aI,aF,List.length_cons,List.length_nil];omega))) O<|D.one (i:=13) O<|Do.s (s.bs (l:=([(UInt8.ofNat sx.size),(UInt8.ofNat (sx.size / 256))]:List UInt8)) aR ey O O O O O (cp (dJ (by omega)) (cp (dJ (by omega)) fV)) O) (fun _=>(aD [] [] O)) O fun b8=>?_
    refine D.one (i:=14) O<|Do.s (s.c (Qt.a (q.kg (bC 0 O) O aR Tryz.underlying5 Tryz.underlying9)) O) (fun _=>(aD [] [] O)) O fun _=>?_
    exact D.q (i:=15) rfl (fun _=>Wd.pk [] [] rfl) rfl (q.cat rfl rfl (by (simp only [ByteArray.size_append,aI,aF,List.length_cons,List.length_nil];omega))) rfl<|D.q (i:=17) rfl (fun _=>Wd.pk [] [] rfl) rfl (q.cat rfl rfl (by (simp only [ByteArray.size_append,aI,aF,List.length_cons,List.length_nil];omega))) rfl<|D.q (i:=18) rfl (fun _=>Wd.pk [] [] rfl) rfl (q.as rfl) rfl<|D.done<|R.rv rfl Tryz.results182 rfl (rS (by rfl))
   refine Do.s (s.bs (l:=([(UInt8.ofNat sx.size),(UInt8.ofNat (sx.size / 256))]:List UInt8)) aR ey O O O O O (cp (dJ (by omega)) (cp (dJ (by omega)) fV)) O) (fun _=>(aD [] [] O)) O fun b9=>?_
   refine D.two (i:=2) (j:=14) O O ?_ ?_
   .
    refine Do.s (s.c (Qt.a (q.kg (bC 1 O) O aR Tryz.underlying5 Tryz.underlying9)) O) (fun _=>(aD [] [] O)) O fun _=>?_
    refine D.q (i:=5) O (aD [] [] O) O (q.cat O O (by (simp only [ByteArray.size_append,aI,aF,List.length_cons,List.length_nil];omega))) O<|D.one (i:=14) O<|Do.s (s.c (Qt.a (q.kg (bC 0 O) O aR Tryz.underlying5 Tryz.underlying9)) O) (fun _=>(aD [] [] O)) O fun _=>?_
    exact D.q (i:=15) rfl (fun _=>Wd.pk [] [] rfl) rfl (q.cat rfl rfl (by (simp only [ByteArray.size_append,aI,aF,List.length_cons,List.length_nil];omega))) rfl<|D.q (i:=17) rfl (fun _=>Wd.pk [] [] rfl) rfl (q.cat rfl rfl (by (simp only [ByteArray.size_append,aI,aF,List.length_cons,List.length_nil];omega))) rfl<|D.q (i:=18) rfl (fun _=>Wd.pk [] [] rfl) rfl (q.as rfl) rfl<|D.done<|R.rv rfl Tryz.results182 rfl (rS (by rfl))
   refine Do.s (s.c (Qt.a (q.kg (bC 0 O) O aR Tryz.underlying5 Tryz.underlying9)) O) (fun _=>(aD [] [] O)) O fun _=>?_
   refine D.one (i:=2) O<|Do.s (s.c (Qt.a (q.kg (bC 1 O) O aR Tryz.underlying5 Tryz.underlying9)) O) (fun _=>(aD [] [] O)) O fun _=>?_
   exact D.q (i:=5) rfl (fun _=>Wd.pk [] [] rfl) rfl (q.cat rfl rfl (by (simp only [ByteArray.size_append,aI,aF,List.length_cons,List.length_nil];omega))) rfl<|D.q (i:=15) rfl (fun _=>Wd.pk [] [] rfl) rfl (q.cat rfl rfl (by (simp only [ByteArray.size_append,aI,aF,List.length_cons,List.length_nil];omega))) rfl<|D.q (i:=17) rfl (fun _=>Wd.pk [] [] rfl) rfl (q.cat rfl rfl (by (simp only [ByteArray.size_append,aI,aF,List.length_cons,List.length_nil];omega))) rfl<|D.q (i:=18) rfl (fun _=>Wd.pk [] [] rfl) rfl (q.as rfl) rfl<|D.done<|R.rv rfl Tryz.results182 rfl (rS (by rfl))
  refine Do.s (s.bs (l:=([(UInt8.ofNat sx.size),(UInt8.ofNat (sx.size / 256))]:List UInt8)) aR ey O O O O O (cp (dJ (by omega)) (cp (dJ (by omega)) fV)) O) (fun _=>(aD [] [] O)) O fun b10=>?_
  refine D.two (i:=1) (j:=14) O O ?_ ?_
  .
   refine Do.s (s.bs (l:=([(u8 k)]:List UInt8)) aR ey O O O O O (cp (gC (by omega)) fV) O) (fun _=>(aD [] [] O)) O fun b11=>?_
   refine D.two (i:=2) (j:=14) O O ?_ ?_
   .
    refine Do.s (s.c (Qt.a (q.kg (bC 0 O) O aR Tryz.underlying5 Tryz.underlying9)) O) (fun _=>(aD [] [] O)) O fun _=>?_
    refine D.q (i:=5) O (aD [] [] O) O (q.cat O O (by (simp only [ByteArray.size_append,aI,aF,List.length_cons,List.length_nil];omega))) O<|D.one (i:=14) O<|Do.s (s.c (Qt.a (q.kg (bC 1 O) O aR Tryz.underlying5 Tryz.underlying9)) O) (fun _=>(aD [] [] O)) O fun _=>?_
    exact D.q (i:=15) rfl (fun _=>Wd.pk [] [] rfl) rfl (q.cat rfl rfl (by (simp only [ByteArray.size_append,aI,aF,List.length_cons,List.length_nil];omega))) rfl<|D.q (i:=17) rfl (fun _=>Wd.pk [] [] rfl) rfl (q.cat rfl rfl (by (simp only [ByteArray.size_append,aI,aF,List.length_cons,List.length_nil];omega))) rfl<|D.q (i:=18) rfl (fun _=>Wd.pk [] [] rfl) rfl (q.as rfl) rfl<|D.done<|R.rv rfl Tryz.results182 rfl (rS (by rfl))
   refine Do.s (s.c (Qt.a (q.kg (bC 1 O) O aR Tryz.underlying5 Tryz.underlying9)) O) (fun _=>(aD [] [] O)) O fun _=>?_
   refine D.one (i:=2) O<|Do.s (s.c (Qt.a (q.kg (bC 0 O) O aR Tryz.underlying5 Tryz.underlying9)) O) (fun _=>(aD [] [] O)) O fun _=>?_
   exact D.q (i:=5) rfl (fun _=>Wd.pk [] [] rfl) rfl (q.cat rfl rfl (by (simp only [ByteArray.size_append,aI,aF,List.length_cons,List.length_nil];omega))) rfl<|D.q (i:=15) rfl (fun _=>Wd.pk [] [] rfl) rfl (q.cat rfl rfl (by (simp only [ByteArray.size_append,aI,aF,List.length_cons,List.length_nil];omega))) rfl<|D.q (i:=17) rfl (fun _=>Wd.pk [] [] rfl) rfl (q.cat rfl rfl (by (simp only [ByteArray.size_append,aI,aF,List.length_cons,List.length_nil];omega))) rfl<|D.q (i:=18) rfl (fun _=>Wd.pk [] [] rfl) rfl (q.as rfl) rfl<|D.done<|R.rv rfl Tryz.results182 rfl (rS (by rfl))
  refine Do.s (s.c (Qt.a (q.kg (bC 0 O) O aR Tryz.underlying5 Tryz.underlying9)) O) (fun _=>(aD [] [] O)) O fun _=>?_
  refine D.one (i:=1) O<|Do.s (s.bs (l:=([(u8 k)]:List UInt8)) aR ey O O O O O (cp (gC (by omega)) fV) O) (fun _=>(aD [] [] O)) O fun b12=>?_
  refine D.one (i:=2) O<|Do.s (s.c (Qt.a (q.kg (bC 0 O) O aR Tryz.underlying5 Tryz.underlying9)) O) (fun _=>(aD [] [] O)) O fun _=>?_
  exact D.q (i:=5) rfl (fun _=>Wd.pk [] [] rfl) rfl (q.cat rfl rfl (by (simp only [ByteArray.size_append,aI,aF,List.length_cons,List.length_nil];omega))) rfl<|D.q (i:=15) rfl (fun _=>Wd.pk [] [] rfl) rfl (q.cat rfl rfl (by (simp only [ByteArray.size_append,aI,aF,List.length_cons,List.length_nil];omega))) rfl<|D.q (i:=17) rfl (fun _=>Wd.pk [] [] rfl) rfl (q.cat rfl rfl (by (simp only [ByteArray.size_append,aI,aF,List.length_cons,List.length_nil];omega))) rfl<|D.q (i:=18) rfl (fun _=>Wd.pk [] [] rfl) rfl (q.as rfl) rfl<|D.done<|R.rv rfl Tryz.results182 rfl (rS (by rfl))
 refine Do.s (s.bs (l:=([(UInt8.ofNat sx.size),(UInt8.ofNat (sx.size / 256))]:List UInt8)) aR ey O O O O O (cp (dJ (by omega)) (cp (dJ (by omega)) fV)) O) (fun _=>(aD [] [] O)) O fun b13=>?_
 refine D.three (i:=1) (j:=4) (m:=14) O O O ?_ ?_ ?_
 .
  refine Do.s (s.bs (l:=([(u8 k)]:List UInt8)) aR ey O O O O O (cp (gC (by omega)) fV) O) (fun _=>(aD [] [] O)) O fun b14=>?_
  refine D.three (i:=2) (j:=4) (m:=14) O O O ?_ ?_ ?_
  .
   refine Do.s (s.c (Qt.a (q.kg (bC 0 O) O aR Tryz.underlying5 Tryz.underlying9)) O) (fun _=>(aD [] [] O)) O fun _=>?_
   refine D.two (i:=4) (j:=14) O O ?_ ?_
   .
    refine Do.s (s.c (q.call fx O O (fun w hw=>(du n w (by omega)))) O) (fun _=>(aD [] [] O)) O fun _=>?_
    refine D.q (i:=5) O (aD [] [] O) O (q.cat O O (by (simp only [ByteArray.size_append,aI,aF,List.length_cons,List.length_nil];omega))) O<|D.one (i:=14) O<|Do.s (s.c (Qt.a (q.kg (bC 1 O) O aR Tryz.underlying5 Tryz.underlying9)) O) (fun _=>(aD [] [] O)) O fun _=>?_
    exact D.q (i:=15) rfl (fun _=>Wd.pk [] [] rfl) rfl (q.cat rfl rfl (by (simp only [ByteArray.size_append,aI,aF,List.length_cons,List.length_nil];omega))) rfl<|D.q (i:=17) rfl (fun _=>Wd.pk [] [] rfl) rfl (q.cat rfl rfl (by (simp only [ByteArray.size_append,aI,aF,List.length_cons,List.length_nil];omega))) rfl<|D.q (i:=18) rfl (fun _=>Wd.pk [] [] rfl) rfl (q.as rfl) rfl<|D.done<|R.rv rfl Tryz.results182 rfl (rS (by rfl))
   refine Do.s (s.c (Qt.a (q.kg (bC 1 O) O aR Tryz.underlying5 Tryz.underlying9)) O) (fun _=>(aD [] [] O)) O fun _=>?_
   refine D.one (i:=4) O<|Do.s (s.c (q.call fx O O (fun w hw=>(du n w (by omega)))) O) (fun _=>(aD [] [] O)) O fun _=>?_
   exact D.q (i:=5) rfl (fun _=>Wd.pk [] [] rfl) rfl (q.cat rfl rfl (by (simp only [ByteArray.size_append,aI,aF,List.length_cons,List.length_nil];omega))) rfl<|D.q (i:=15) rfl (fun _=>Wd.pk [] [] rfl) rfl (q.cat rfl rfl (by (simp only [ByteArray.size_append,aI,aF,List.length_cons,List.length_nil];omega))) rfl<|D.q (i:=17) rfl (fun _=>Wd.pk [] [] rfl) rfl (q.cat rfl rfl (by (simp only [ByteArray.size_append,aI,aF,List.length_cons,List.length_nil];omega))) rfl<|D.q (i:=18) rfl (fun _=>Wd.pk [] [] rfl) rfl (q.as rfl) rfl<|D.done<|R.rv rfl Tryz.results182 rfl (rS (by rfl))
  .
   refine Do.s (s.c (q.call fx O O (fun w hw=>(du n w (by omega)))) O) (fun _=>(aD [] [] O)) O fun _=>?_
   refine D.two (i:=2) (j:=14) O O ?_ ?_
   .
    refine Do.s (s.c (Qt.a (q.kg (bC 0 O) O aR Tryz.underlying5 Tryz.underlying9)) O) (fun _=>(aD [] [] O)) O fun _=>?_
    refine D.q (i:=5) O (aD [] [] O) O (q.cat O O (by (simp only [ByteArray.size_append,aI,aF,List.length_cons,List.length_nil];omega))) O<|D.one (i:=14) O<|Do.s (s.c (Qt.a (q.kg (bC 1 O) O aR Tryz.underlying5 Tryz.underlying9)) O) (fun _=>(aD [] [] O)) O fun _=>?_
    exact D.q (i:=15) rfl (fun _=>Wd.pk [] [] rfl) rfl (q.cat rfl rfl (by (simp only [ByteArray.size_append,aI,aF,List.length_cons,List.length_nil];omega))) rfl<|D.q (i:=17) rfl (fun _=>Wd.pk [] [] rfl) rfl (q.cat rfl rfl (by (simp only [ByteArray.size_append,aI,aF,List.length_cons,List.length_nil];omega))) rfl<|D.q (i:=18) rfl (fun _=>Wd.pk [] [] rfl) rfl (q.as rfl) rfl<|D.done<|R.rv rfl Tryz.results182 rfl (rS (by rfl))
   refine Do.s (s.c (Qt.a (q.kg (bC 1 O) O aR Tryz.underlying5 Tryz.underlying9)) O) (fun _=>(aD [] [] O)) O fun _=>?_
   refine D.one (i:=2) O<|Do.s (s.c (Qt.a (q.kg (bC 0 O) O aR Tryz.underlying5 Tryz.underlying9)) O) (fun _=>(aD [] [] O)) O fun _=>?_
   exact D.q (i:=5) rfl (fun _=>Wd.pk [] [] rfl) rfl (q.cat rfl rfl (by (simp only [ByteArray.size_append,aI,aF,List.length_cons,List.length_nil];omega))) rfl<|D.q (i:=15) rfl (fun _=>Wd.pk [] [] rfl) rfl (q.cat rfl rfl (by (simp only [ByteArray.size_append,aI,aF,List.length_cons,List.length_nil];omega))) rfl<|D.q (i:=17) rfl (fun _=>Wd.pk [] [] rfl) rfl (q.cat rfl rfl (by (simp only [ByteArray.size_append,aI,aF,List.length_cons,List.length_nil];omega))) rfl<|D.q (i:=18) rfl (fun _=>Wd.pk [] [] rfl) rfl (q.as rfl) rfl<|D.done<|R.rv rfl Tryz.results182 rfl (rS (by rfl))
  refine Do.s (s.c (Qt.a (q.kg (bC 1 O) O aR Tryz.underlying5 Tryz.underlying9)) O) (fun _=>(aD [] [] O)) O fun _=>?_
  refine D.two (i:=2) (j:=4) O O ?_ ?_
  .
   refine Do.s (s.c (Qt.a (q.kg (bC 0 O) O aR Tryz.underlying5 Tryz.underlying9)) O) (fun _=>(aD [] [] O)) O fun _=>?_
   refine D.one (i:=4) O<|Do.s (s.c (q.call fx O O (fun w hw=>(du n w (by omega)))) O) (fun _=>(aD [] [] O)) O fun _=>?_
   exact D.q (i:=5) rfl (fun _=>Wd.pk [] [] rfl) rfl (q.cat rfl rfl (by (simp only [ByteArray.size_append,aI,aF,List.length_cons,List.length_nil];omega))) rfl<|D.q (i:=15) rfl (fun _=>Wd.pk [] [] rfl) rfl (q.cat rfl rfl (by (simp only [ByteArray.size_append,aI,aF,List.length_cons,List.length_nil];omega))) rfl<|D.q (i:=17) rfl (fun _=>Wd.pk [] [] rfl) rfl (q.cat rfl rfl (by (simp only [ByteArray.size_append,aI,aF,List.length_cons,List.length_nil];omega))) rfl<|D.q (i:=18) rfl (fun _=>Wd.pk [] [] rfl) rfl (q.as rfl) rfl<|D.done<|R.rv rfl Tryz.results182 rfl (rS (by rfl))
  refine Do.s (s.c (q.call fx O O (fun w hw=>(du n w (by omega)))) O) (fun _=>(aD [] [] O)) O fun _=>?_
  refine D.one (i:=2) O<|Do.s (s.c (Qt.a (q.kg (bC 0 O) O aR Tryz.underlying5 Tryz.underlying9)) O) (fun _=>(aD [] [] O)) O fun _=>?_
  exact D.q (i:=5) rfl (fun _=>Wd.pk [] [] rfl) rfl (q.cat rfl rfl (by (simp only [ByteArray.size_append,aI,aF,List.length_cons,List.length_nil];omega))) rfl<|D.q (i:=15) rfl (fun _=>Wd.pk [] [] rfl) rfl (q.cat rfl rfl (by (simp only [ByteArray.size_append,aI,aF,List.length_cons,List.length_nil];omega))) rfl<|D.q (i:=17) rfl (fun _=>Wd.pk [] [] rfl) rfl (q.cat rfl rfl (by (simp only [ByteArray.size_append,aI,aF,List.length_cons,List.length_nil];omega))) rfl<|D.q (i:=18) rfl (fun _=>Wd.pk [] [] rfl) rfl (q.as rfl) rfl<|D.done<|R.rv rfl Tryz.results182 rfl (rS (by rfl))
 .
  refine Do.s (s.c (q.call fx O O (fun w hw=>(du n w (by omega)))) O) (fun _=>(aD [] [] O)) O fun _=>?_
  refine D.two (i:=1) (j:=14) O O ?_ ?_
  .
   refine Do.s (s.bs (l:=([(u8 k)]:List UInt8)) aR ey O O O O O (cp (gC (by omega)) fV) O) (fun _=>(aD [] [] O)) O fun b15=>?_
   refine D.two (i:=2) (j:=14) O O ?_ ?_
   .
    refine Do.s (s.c (Qt.a (q.kg (bC 0 O) O aR Tryz.underlying5 Tryz.underlying9)) O) (fun _=>(aD [] [] O)) O fun _=>?_
    refine D.q (i:=5) O (aD [] [] O) O (q.cat O O (by (simp only [ByteArray.size_append,aI,aF,List.length_cons,List.length_nil];omega))) O<|D.one (i:=14) O<|Do.s (s.c (Qt.a (q.kg (bC 1 O) O aR Tryz.underlying5 Tryz.underlying9)) O) (fun _=>(aD [] [] O)) O fun _=>?_
    exact D.q (i:=15) rfl (fun _=>Wd.pk [] [] rfl) rfl (q.cat rfl rfl (by (simp only [ByteArray.size_append,aI,aF,List.length_cons,List.length_nil];omega))) rfl<|D.q (i:=17) rfl (fun _=>Wd.pk [] [] rfl) rfl (q.cat rfl rfl (by (simp only [ByteArray.size_append,aI,aF,List.length_cons,List.length_nil];omega))) rfl<|D.q (i:=18) rfl (fun _=>Wd.pk [] [] rfl) rfl (q.as rfl) rfl<|D.done<|R.rv rfl Tryz.results182 rfl (rS (by rfl))
   refine Do.s (s.c (Qt.a (q.kg (bC 1 O) O aR Tryz.underlying5 Tryz.underlying9)) O) (fun _=>(aD [] [] O)) O fun _=>?_
   refine D.one (i:=2) O<|Do.s (s.c (Qt.a (q.kg (bC 0 O) O aR Tryz.underlying5 Tryz.underlying9)) O) (fun _=>(aD [] [] O)) O fun _=>?_
   exact D.q (i:=5) rfl (fun _=>Wd.pk [] [] rfl) rfl (q.cat rfl rfl (by (simp only [ByteArray.size_append,aI,aF,List.length_cons,List.length_nil];omega))) rfl<|D.q (i:=15) rfl (fun _=>Wd.pk [] [] rfl) rfl (q.cat rfl rfl (by (simp only [ByteArray.size_append,aI,aF,List.length_cons,List.length_nil];omega))) rfl<|D.q (i:=17) rfl (fun _=>Wd.pk [] [] rfl) rfl (q.cat rfl rfl (by (simp only [ByteArray.size_append,aI,aF,List.length_cons,List.length_nil];omega))) rfl<|D.q (i:=18) rfl (fun _=>Wd.pk [] [] rfl) rfl (q.as rfl) rfl<|D.done<|R.rv rfl Tryz.results182 rfl (rS (by rfl))
  refine Do.s (s.c (Qt.a (q.kg (bC 0 O) O aR Tryz.underlying5 Tryz.underlying9)) O) (fun _=>(aD [] [] O)) O fun _=>?_
  refine D.one (i:=1) O<|Do.s (s.bs (l:=([(u8 k)]:List UInt8)) aR ey O O O O O (cp (gC (by omega)) fV) O) (fun _=>(aD [] [] O)) O fun b16=>?_
  refine D.one (i:=2) O<|Do.s (s.c (Qt.a (q.kg (bC 0 O) O aR Tryz.underlying5 Tryz.underlying9)) O) (fun _=>(aD [] [] O)) O fun _=>?_
  exact D.q (i:=5) rfl (fun _=>Wd.pk [] [] rfl) rfl (q.cat rfl rfl (by (simp only [ByteArray.size_append,aI,aF,List.length_cons,List.length_nil];omega))) rfl<|D.q (i:=15) rfl (fun _=>Wd.pk [] [] rfl) rfl (q.cat rfl rfl (by (simp only [ByteArray.size_append,aI,aF,List.length_cons,List.length_nil];omega))) rfl<|D.q (i:=17) rfl (fun _=>Wd.pk [] [] rfl) rfl (q.cat rfl rfl (by (simp only [ByteArray.size_append,aI,aF,List.length_cons,List.length_nil];omega))) rfl<|D.q (i:=18) rfl (fun _=>Wd.pk [] [] rfl) rfl (q.as rfl) rfl<|D.done<|R.rv rfl Tryz.results182 rfl (rS (by rfl))
 refine Do.s (s.c (Qt.a (q.kg (bC 0 O) O aR Tryz.underlying5 Tryz.underlying9)) O) (fun _=>(aD [] [] O)) O fun _=>?_
 refine D.two (i:=1) (j:=4) O O ?_ ?_
 .
  refine Do.s (s.bs (l:=([(u8 k)]:List UInt8)) aR ey O O O O O (cp (gC (by omega)) fV) O) (fun _=>(aD [] [] O)) O fun b17=>?_
  refine D.two (i:=2) (j:=4) O O ?_ ?_
  .
   refine Do.s (s.c (Qt.a (q.kg (bC 0 O) O aR Tryz.underlying5 Tryz.underlying9)) O) (fun _=>(aD [] [] O)) O fun _=>?_
   refine D.one (i:=4) O<|Do.s (s.c (q.call fx O O (fun w hw=>(du n w (by omega)))) O) (fun _=>(aD [] [] O)) O fun _=>?_
   exact D.q (i:=5) rfl (fun _=>Wd.pk [] [] rfl) rfl (q.cat rfl rfl (by (simp only [ByteArray.size_append,aI,aF,List.length_cons,List.length_nil];omega))) rfl<|D.q (i:=15) rfl (fun _=>Wd.pk [] [] rfl) rfl (q.cat rfl rfl (by (simp only [ByteArray.size_append,aI,aF,List.length_cons,List.length_nil];omega))) rfl<|D.q (i:=17) rfl (fun _=>Wd.pk [] [] rfl) rfl (q.cat rfl rfl (by (simp only [ByteArray.size_append,aI,aF,List.length_cons,List.length_nil];omega))) rfl<|D.q (i:=18) rfl (fun _=>Wd.pk [] [] rfl) rfl (q.as rfl) rfl<|D.done<|R.rv rfl Tryz.results182 rfl (rS (by rfl))
  refine Do.s (s.c (q.call fx O O (fun w hw=>(du n w (by omega)))) O) (fun _=>(aD [] [] O)) O fun _=>?_
  refine D.one (i:=2) O<|Do.s (s.c (Qt.a (q.kg (bC 0 O) O aR Tryz.underlying5 Tryz.underlying9)) O) (fun _=>(aD [] [] O)) O fun _=>?_
  exact D.q (i:=5) rfl (fun _=>Wd.pk [] [] rfl) rfl (q.cat rfl rfl (by (simp only [ByteArray.size_append,aI,aF,List.length_cons,List.length_nil];omega))) rfl<|D.q (i:=15) rfl (fun _=>Wd.pk [] [] rfl) rfl (q.cat rfl rfl (by (simp only [ByteArray.size_append,aI,aF,List.length_cons,List.length_nil];omega))) rfl<|D.q (i:=17) rfl (fun _=>Wd.pk [] [] rfl) rfl (q.cat rfl rfl (by (simp only [ByteArray.size_append,aI,aF,List.length_cons,List.length_nil];omega))) rfl<|D.q (i:=18) rfl (fun _=>Wd.pk [] [] rfl) rfl (q.as rfl) rfl<|D.done<|R.rv rfl Tryz.results182 rfl (rS (by rfl))
 refine Do.s (s.c (q.call fx O O (fun w hw=>(du n w (by omega)))) O) (fun _=>(aD [] [] O)) O fun _=>?_
 refine D.one (i:=1) O<|Do.s (s.bs (l:=([(u8 k)]:List UInt8)) aR ey O O O O O (cp (gC (by omega)) fV) O) (fun _=>(aD [] [] O)) O fun b18=>?_
 refine D.one (i:=2) O<|Do.s (s.c (Qt.a (q.kg (bC 0 O) O aR Tryz.underlying5 Tryz.underlying9)) O) (fun _=>(aD [] [] O)) O fun _=>?_
 exact D.q (i:=5) rfl (fun _=>Wd.pk [] [] rfl) rfl (q.cat rfl rfl (by (simp only [ByteArray.size_append,aI,aF,List.length_cons,List.length_nil];omega))) rfl<|D.q (i:=15) rfl (fun _=>Wd.pk [] [] rfl) rfl (q.cat rfl rfl (by (simp only [ByteArray.size_append,aI,aF,List.length_cons,List.length_nil];omega))) rfl<|D.q (i:=17) rfl (fun _=>Wd.pk [] [] rfl) rfl (q.cat rfl rfl (by (simp only [ByteArray.size_append,aI,aF,List.length_cons,List.length_nil];omega))) rfl<|D.q (i:=18) rfl (fun _=>Wd.pk [] [] rfl) rfl (q.as rfl) rfl<|D.done<|R.rv rfl Tryz.results182 rfl (rS (by rfl))
theorem xj (bz:Nat)(xk:Nat)(lg:Lg)(w:World)(C2:(ag.box bz [.pointer (some ⟨xk,0,none⟩),iV lg.From,iV lg.Many,iV lg.First,iV lg.Next] 198).ok w)(hb:0<=lg.Many/\lg.Many<=1000000000/\0<=lg.Next/\lg.Next<=1000000000):Calls Tryz.prog 134 #[.pointer (some ⟨bz,0,none⟩)] w fun e w'=>e = .returned (iV (lg.Many-lg.Next))/\Ext w w':=by
 exact R.enter [] [(0,.pointer (some ⟨bz,0,none⟩))] Tryz.func134 rfl rfl rfl rfl<|R.nK (r:=ag.box bz [.pointer (some ⟨xk,0,none⟩),iV lg.From,iV lg.Many,iV lg.First,iV lg.Next] 198) C2 (jQ C2)<|R.reg rfl<|R.u 1 rfl<|R.nil<|R.eu rfl mixed (by kernel_rfl)<|Q.u 1 rfl<|Q.q (q.cb rfl) rfl<|Q.q (q.aO rfl rW rfl) rfl<|Q.q (q.yC 0 rfl rfl au rfl) rfl<|Q.u 1 rfl<|Q.q (q.cb rfl) rfl<|Q.q (q.aO rfl jX rfl) rfl<|Q.q (q.yC 0 rfl rfl au rfl) rfl<|Q.q (q.lV (r:=lg.Many-lg.Next) rfl rfl) rfl<|Q.u 1 rfl<|Q.nil<|R.rv rfl Tryz.results134 rfl (rI (by rfl))
theorem C4 (bz:Nat)(xk:Nat)(lg:Lg)(w:World)(C2:(ag.box bz [.pointer (some ⟨xk,0,none⟩),iV lg.From,iV lg.Many,iV lg.First,iV lg.Next] 198).ok w)(hb:0<=lg.Many/\lg.Many<=1000000000/\0<=lg.First/\lg.First<=1000000000):Calls Tryz.prog 77 #[.pointer (some ⟨bz,0,none⟩)] w fun e w'=>e = .returned (iV (lg.First+lg.Many))/\Ext w w':=by
 exact R.enter [] [(0,.pointer (some ⟨bz,0,none⟩))] Tryz.func77 rfl rfl rfl rfl<|R.nK (r:=ag.box bz [.pointer (some ⟨xk,0,none⟩),iV lg.From,iV lg.Many,iV lg.First,iV lg.Next] 198) C2 (jQ C2)<|R.reg rfl<|R.u 1 rfl<|R.nil<|R.eu rfl mixed (by kernel_rfl)<|Q.u 1 rfl<|Q.q (q.cb rfl) rfl<|Q.q (q.aO rfl jW rfl) rfl<|Q.q (q.yC 0 rfl rfl au rfl) rfl<|Q.u 1 rfl<|Q.q (q.cb rfl) rfl<|Q.q (q.aO rfl rW rfl) rfl<|Q.q (q.yC 0 rfl rfl au rfl) rfl<|Q.q (q.bB (r:=lg.First+lg.Many) rfl rfl) rfl<|Q.u 1 rfl<|Q.nil<|R.rv rfl Tryz.results77 rfl (rI (by rfl))
theorem Ka (bz:Nat)(lg:Lg)(i:Nat)(aH:Nat)(ay aG az:Value)(dk:cx)(w:World)(C2:(ag.box bz [.pointer (some ⟨aH,0,none⟩),iV lg.From,iV lg.Many,iV lg.First,iV lg.Next] 198).ok w)(wU:(ag.box aH [ay,aG,az,iV dk.Fuse,.bool dk.Down] 112).ok w)(jY:Sl w ay (dk.Kept:List ByteArray))(kR:Sl w aG (dk.Now:List ByteArray))(jZ:Sl w az (dk.Wait:List Turn))(hb : -1000000000<=lg.From/\lg.From<=1000000000/\0<=lg.First/\lg.First<=8000000000000000000/\i<=1000000000)(hr:(bY dk (lg.From+(i:Int))).2=0)(hs:(bY dk (lg.From+(i:Int))).1.size=48):Calls Tryz.prog 141 #[.pointer (some ⟨bz,0,none⟩),iV (i:Int)] w fun e w'=>e = .returned (.tuple #[.int .u8 (px (bY dk (lg.From+(i:Int))).1 (lg.First+(i:Int)):Int),.string (ku (bY dk (lg.From+(i:Int))).1 (lg.First+(i:Int))),.bool (jg (bY dk (lg.From+(i:Int))).1 (lg.First+(i:Int)))])/\Ext w w':=by
 refine R.enter [] [(0,.pointer (some ⟨bz,0,none⟩)),(1,iV (i:Int))] Tryz.func141 O O O O<|R.pC jY<|R.pC kR<|R.pC jZ<|R.nK (r:=ag.box bz [.pointer (some ⟨aH,0,none⟩),iV lg.From,iV lg.Many,iV lg.First,iV lg.Next] 198) C2 (jQ C2)<|R.nK (r:=ag.box aH [ay,aG,az,iV dk.Fuse,.bool dk.Down] 112) wU (jQ wU)<|R.reg O<|R.u 3 O<|R.nil<|R.eu O mixed (by kernel_rfl)<|Q.u 1 O<|Q.q (q.cb O) O<|Q.q (q.aO O kO O) O<|Q.q (q.yC 1 O O jt O) O<|Q.u 1 O<|Q.q (q.cb O) O<|Q.q (q.aO O oF O) O<|Q.q (q.yC 1 O O au O) O<|Q.u 1 O<|Q.q (q.bB (r:=lg.From+(i:Int)) O O) O<|Q.c (q.call Jo O O (fun w hw=>(tX aH ay aG az dk (lg.From+(i:Int)) w (hw.f 0 O) (hw.bG 4 O) (hw.bG 3 O) (hw.bG 2 O) ))) O<|Q.u 5 O<|Q.nil ?_
 by_cases h1:((bY dk (lg.From+(i:Int))).1.extract 1 5)=bW (lg.First+(i:Int))
 .
  obtain ⟨y1,hy1⟩:∃z,(bY dk (lg.From+(i:Int))).1.data[0]? = some z:=⟨_,Array.getElem?_eq_getElem (show 0<(bY dk (lg.From+(i:Int))).1.size from by omega)⟩
  have Sr:=y1.toNat_lt
  by_cases h2:y1.toNat=111
  .
   refine R.eu O mixed (by kernel_rfl)<|Q.u 1 O<|Q.q (q.dx O O Tryz.underlying38) O<|Q.u 2 O<|Q.qg O (q.Cr (i:=1) (j:=5) O O O Tryz.underlying9 O O (by omega) (by omega)) O<|Q.u 1 O<|Q.qg O (q.cb O) O<|Q.qg O (q.aO O jW O) O<|Q.qg O (q.yC 1 O O au O) O<|Q.u 1 O<|Q.qg O (q.bB (r:=lg.First+(i:Int)) O O) O<|Q.cg O (q.call fx O O (fun w hw=>(du (lg.First+(i:Int)) w (by omega)))) O<|Q.qg O (q.uG O O h1) O<|Q.u 3 O<|Q.qg O (q.iL (i:=0) O O Tryz.underlying9 O hy1) O<|Q.qg O (q.lL O O) O<|Q.u 6 O<|Q.nil<|R.aB O O ?_
   obtain ⟨y2,hy2⟩:∃z,(bY dk (lg.From+(i:Int))).1.data[5]? = some z:=⟨_,Array.getElem?_eq_getElem (show 5<(bY dk (lg.From+(i:Int))).1.size from by omega)⟩
   have Ss:=y2.toNat_lt
   obtain ⟨y3,hy3⟩:∃z,(bY dk (lg.From+(i:Int))).1.data[6]? = some z:=⟨_,Array.getElem?_eq_getElem (show 6<(bY dk (lg.From+(i:Int))).1.size from by omega)⟩
   have TK:=y3.toNat_lt
   refine R.eu O mixed (by kernel_rfl)<|Q.u 1 O<|Q.q (q.iL (i:=5) O O Tryz.underlying9 O hy2) O<|Q.q (q.nq (r:=((y2.toNat:Nat):Int)) O (by rw [Tryz.underlying5];rfl) Tryz.underlying3 (wr (by omega))) O<|Q.u 1 O<|Q.q (q.iL (i:=6) O O Tryz.underlying9 O hy3) O<|Q.q (q.nq (r:=((y3.toNat:Nat):Int)) O (by rw [Tryz.underlying5];rfl) Tryz.underlying3 (wr (by omega))) O<|Q.q (q.vg (r:=((256*y3.toNat:Nat):Int)) O O) O<|Q.q (q.bB (r:=((y2.toNat+(256*y3.toNat):Nat):Int)) O O) O<|Q.u 1 O<|Q.nil<|R.reg O<|R.u 1 O<|?_
   by_cases h3:41<(y2.toNat+(256*y3.toNat))
   .
    exact R.q (q.eL O O) O<|R.nil<|R.av O O<|R.reg O<|R.u 3 O<|R.nil<|R.Rb O Tryz.results141 O O O (Rf (by (rw [(j3 (nZ (by unfold cO;rw [aK hy2,aK hy3];omega))).1];rfl))) (rS (by (rw [(j3 (nZ (by unfold cO;rw [aK hy2,aK hy3];omega))).2]))) (rB (by (exact (nZ (by unfold cO;rw [aK hy2,aK hy3];omega)).symm)))
   exact R.q (q.eo O O) O<|R.nil<|R.aB O O<|R.eu O mixed (by kernel_rfl)<|Q.u 1 O<|Q.q (q.iL (i:=0) O O Tryz.underlying9 O hy1) O<|Q.u 2 O<|Q.q (q.bB (r:=((7+(y2.toNat+(256*y3.toNat)):Nat):Int)) O O) O<|Q.q (q.Cr (i:=7) (j:=(7+(y2.toNat+(256*y3.toNat)))) O O O Tryz.underlying9 O O (by omega) (by omega)) O<|Q.u 3 O<|Q.nil<|R.Rb O Tryz.results141 O O O (Rf (by (rw [(j4 (lD ‹_› (by rw [aK hy1];omega) (by unfold cO;rw [aK hy2,aK hy3];omega))).1,aK hy1]))) (rS (by (rw [(j4 (lD ‹_› (by rw [aK hy1];omega) (by unfold cO;rw [aK hy2,aK hy3];omega))).2];unfold rD cO;rw [aK hy2,aK hy3]))) (rB (by (exact (lD ‹_› (by rw [aK hy1];omega) (by unfold cO;rw [aK hy2,aK hy3];omega)).symm)))
  by_cases h4:y1.toNat=99
  .
   refine R.eu O mixed (by kernel_rfl)<|Q.u 1 O<|Q.q (q.dx O O Tryz.underlying38) O<|Q.u 2 O<|Q.qg O (q.Cr (i:=1) (j:=5) O O O Tryz.underlying9 O O (by omega) (by omega)) O<|Q.u 1 O<|Q.qg O (q.cb O) O<|Q.qg O (q.aO O jW O) O<|Q.qg O (q.yC 1 O O au O) O<|Q.u 1 O<|Q.qg O (q.bB (r:=lg.First+(i:Int)) O O) O<|Q.cg O (q.call fx O O (fun w hw=>(du (lg.First+(i:Int)) w (by omega)))) O<|Q.qg O (q.uG O O h1) O<|Q.u 3 O<|Q.qg O (q.iL (i:=0) O O Tryz.underlying9 O hy1) O<|Q.qg O (q.lK O O) O<|Q.u 2 O<|Q.qg O (q.iL (i:=0) O O Tryz.underlying9 O hy1) O<|Q.qg O (q.lL O O) O<|Q.u 2 O<|Q.nil<|R.aB O O ?_
   obtain ⟨y4,hy4⟩:∃z,(bY dk (lg.From+(i:Int))).1.data[5]? = some z:=⟨_,Array.getElem?_eq_getElem (show 5<(bY dk (lg.From+(i:Int))).1.size from by omega)⟩
   have US:=y4.toNat_lt
   obtain ⟨y5,ET⟩:∃z,(bY dk (lg.From+(i:Int))).1.data[6]? = some z:=⟨_,Array.getElem?_eq_getElem (show 6<(bY dk (lg.From+(i:Int))).1.size from by omega)⟩
   have VJ:=y5.toNat_lt
   refine R.eu O mixed (by kernel_rfl)<|Q.u 1 O<|Q.q (q.iL (i:=5) O O Tryz.underlying9 O hy4) O<|Q.q (q.nq (r:=((y4.toNat:Nat):Int)) O (by rw [Tryz.underlying5];rfl) Tryz.underlying3 (wr (by omega))) O<|Q.u 1 O<|Q.q (q.iL (i:=6) O O Tryz.underlying9 O ET) O<|Q.q (q.nq (r:=((y5.toNat:Nat):Int)) O (by rw [Tryz.underlying5];rfl) Tryz.underlying3 (wr (by omega))) O<|Q.q (q.vg (r:=((256*y5.toNat:Nat):Int)) O O) O<|Q.q (q.bB (r:=((y4.toNat+(256*y5.toNat):Nat):Int)) O O) O<|Q.u 1 O<|Q.nil<|R.reg O<|R.u 1 O<|?_
   by_cases h5:41<(y4.toNat+(256*y5.toNat))
   .
    exact R.q (q.eL O O) O<|R.nil<|R.av O O<|R.reg O<|R.u 3 O<|R.nil<|R.Rb O Tryz.results141 O O O (Rf (by (rw [(j3 (nZ (by unfold cO;rw [aK hy4,aK ET];omega))).1];rfl))) (rS (by (rw [(j3 (nZ (by unfold cO;rw [aK hy4,aK ET];omega))).2]))) (rB (by (exact (nZ (by unfold cO;rw [aK hy4,aK ET];omega)).symm)))
   exact R.q (q.eo O O) O<|R.nil<|R.aB O O<|R.eu O mixed (by kernel_rfl)<|Q.u 1 O<|Q.q (q.iL (i:=0) O O Tryz.underlying9 O hy1) O<|Q.u 2 O<|Q.q (q.bB (r:=((7+(y4.toNat+(256*y5.toNat)):Nat):Int)) O O) O<|Q.q (q.Cr (i:=7) (j:=(7+(y4.toNat+(256*y5.toNat)))) O O O Tryz.underlying9 O O (by omega) (by omega)) O<|Q.u 3 O<|Q.nil<|R.Rb O Tryz.results141 O O O (Rf (by (rw [(j4 (lD ‹_› (by rw [aK hy1];omega) (by unfold cO;rw [aK hy4,aK ET];omega))).1,aK hy1]))) (rS (by (rw [(j4 (lD ‹_› (by rw [aK hy1];omega) (by unfold cO;rw [aK hy4,aK ET];omega))).2];unfold rD cO;rw [aK hy4,aK ET]))) (rB (by (exact (lD ‹_› (by rw [aK hy1];omega) (by unfold cO;rw [aK hy4,aK ET];omega)).symm)))
  exact R.eu O mixed (by kernel_rfl)<|Q.u 1 O<|Q.q (q.dx O O Tryz.underlying38) O<|Q.u 2 O<|Q.qg O (q.Cr (i:=1) (j:=5) O O O Tryz.underlying9 O O (by omega) (by omega)) O<|Q.u 1 O<|Q.qg O (q.cb O) O<|Q.qg O (q.aO O jW O) O<|Q.qg O (q.yC 1 O O au O) O<|Q.u 1 O<|Q.qg O (q.bB (r:=lg.First+(i:Int)) O O) O<|Q.cg O (q.call fx O O (fun w hw=>(du (lg.First+(i:Int)) w (by omega)))) O<|Q.qg O (q.uG O O h1) O<|Q.u 3 O<|Q.qg O (q.iL (i:=0) O O Tryz.underlying9 O hy1) O<|Q.qg O (q.lK O O) O<|Q.u 2 O<|Q.qg O (q.iL (i:=0) O O Tryz.underlying9 O hy1) O<|Q.qg O (q.lK O O) O<|Q.u 2 O<|Q.nil<|R.av O O<|R.reg O<|R.u 3 O<|R.nil<|R.Rb O Tryz.results141 O O O (Rf (by (rw [(j3 (xe (by rw [aK hy1];omega) (by rw [aK hy1];omega))).1];rfl))) (rS (by (rw [(j3 (xe (by rw [aK hy1];omega) (by rw [aK hy1];omega))).2]))) (rB (by (exact (xe (by rw [aK hy1];omega) (by rw [aK hy1];omega)).symm)))
 exact R.eu O mixed (by kernel_rfl)<|Q.u 1 O<|Q.q (q.dx O O Tryz.underlying38) O<|Q.u 2 O<|Q.qg O (q.Cr (i:=1) (j:=5) O O O Tryz.underlying9 O O (by omega) (by omega)) O<|Q.u 1 O<|Q.qg O (q.cb O) O<|Q.qg O (q.aO O jW O) O<|Q.qg O (q.yC 1 O O au O) O<|Q.u 1 O<|Q.qg O (q.bB (r:=lg.First+(i:Int)) O O) O<|Q.cg O (q.call fx O O (fun w hw=>(du (lg.First+(i:Int)) w (by omega)))) O<|Q.qg O (q.zd O O h1) O<|Q.u 11 O<|Q.nil<|R.av O O<|R.reg O<|R.u 3 O<|R.nil<|R.Rb O Tryz.results141 O O O (Rf (by (rw [(j3 (xd ‹_›)).1];rfl))) (rS (by (rw [(j3 (xd ‹_›)).2]))) (rB (by (exact (xd ‹_›).symm)))
theorem C5 (aH:Nat)(ay aG az:Value)(dk:cx)(gp:Int)(many:Int)(first:Int)(w:World)(own:List Nat)(H:HN w own [ag.box aH [ay,aG,az,iV dk.Fuse,.bool dk.Down] 112,ag.row 9 ay dk.Kept,ag.row 9 aG dk.Now,ag.row 114 az dk.Wait] [])(hb:0<=gp/\1<=many/\gp+many<=(dk.Now.length:Int)/\1<=first/\first<=4000000000000000000)(hd:dk.Down=false)(hD:fN dk.Now.length 90000 dk/\dk.Now.length<=100000):RC Tryz.prog 82 #[.pointer (some ⟨aH,0,none⟩),iV gp,iV many,iV first] H (fun z:Value×Value×Value×Nat×Value×List kr => .tuple #[.pointer (some ⟨z.2.2.2.1,0,none⟩),z.2.2.2.2.1,.nilIface]) (fun z=>[ag.box aH [z.1,z.2.1,z.2.2.1,iV dk.Fuse,.bool dk.Down] 112,ag.row 9 z.1 dk.Kept,ag.row 9 z.2.1 dk.Now,ag.row 114 z.2.2.1 dk.Wait,ag.box z.2.2.2.1 [.pointer (some ⟨aH,0,none⟩),iV (⟨gp,many,first,(fF dk gp (Int.toNat many) first:Int)⟩:Lg).From,iV (⟨gp,many,first,(fF dk gp (Int.toNat many) first:Int)⟩:Lg).Many,iV (⟨gp,many,first,(fF dk gp (Int.toNat many) first:Int)⟩:Lg).First,iV (⟨gp,many,first,(fF dk gp (Int.toNat many) first:Int)⟩:Lg).Next] 198]) (fun z=>[ag.ls z.2.2.2.2.1 z.2.2.2.2.2,ag.qh (z.2.2.2.2.2:List kr) (lE dk gp (Int.toNat many) first)]):=by
 have eE:=H.cap 1 rfl;have eF:=H.cO 1 rfl
 have fD:=H.cap 2 rfl;have fE:=H.cO 2 rfl
 have eG:=H.cap 3 rfl;have eH:=H.cO 3 rfl
 obtain ⟨manyN,P7⟩:∃m:Nat,many=(m:Int):=⟨many.toNat,by omega⟩;subst P7
 refine R.bD [(0,.pointer (some ⟨aH,0,none⟩)),(1,iV gp),(2,iV (manyN:Int)),(3,iV first)] Tryz.func82 O O O O H<|R.reg O<|R.u 3 O<|R.nil<|R.reg O<|R.u 1 O<|R.q (q.cW O O) O<|R.u 2 O<|R.qg O (q.cW O O) O<|R.u 4 O<|R.cg O (q.call uJ O O (fun w hw=>(gE aH ay aG az dk w (hw.b 0 O) (hw.row 1 O) (hw.row 2 O) (hw.row 3 O) ))) O<|R.qg O (q.eo O O) O<|R.u 4 O<|R.cg O (q.call uJ O O (fun w hw=>(gE aH ay aG az dk w (hw.b 0 O) (hw.row 1 O) (hw.row 2 O) (hw.row 3 O) ))) O<|R.u 1 O<|R.qg O (q.lV (r:=(dk.Now.length:Int)-(manyN:Int)) O O) O<|R.qg O (q.eo O O) O<|R.u 3 O<|R.qg O (q.cW O O) O<|R.u 1 O<|R.nil<|R.aB O O<|R.reg O<|R.u 1 O<|R.c (q.call Od O O (fun w hw=>(cv (congrArg Value.bool hd) (zt aH ay aG az dk w (hw.b 0 O) (hw.row 1 O) (hw.row 2 O) (hw.row 3 O) )))) O<|R.nil ?_
 refine R.aB O O<|R.reg O<|R.u 4 O<|R.q (q.build O8 O O) O<|R.s O (s.box O O O) fun b1=>?_
 refine R.u 1 O<|R.nil<|R.reg O<|R.u 1 O<|R.nil<|R.reg O<|R.u 1 O<|R.nil<|R.reg O<|R.u 2 O<|R.nil<|R.mp (fun _ hw=>hw.Sv)<|R.row0 (α:=kr) 34<|R.row0 (α:=Change) 117<|R.loop (fun g_:Nat×Nat×Value×(List kr)×Value×(List Change)=>[(11,.pointer (some ⟨b1,0,none⟩)),(12,g_.2.2.1),(13,g_.2.2.2.2.1),(54,iV (manyN:Int)),(55,iV (g_.1:Int))]) (fun g_=>[ag.row 117 g_.2.2.2.2.1 g_.2.2.2.2.2,ag.row 34 g_.2.2.1 g_.2.2.2.1,ag.box b1 [.pointer (some ⟨aH,0,none⟩),iV gp,iV (manyN:Int),iV first,iV (g_.2.1:Int)] 198,ag.box aH [ay,aG,az,iV dk.Fuse,.bool dk.Down] 112,ag.row 9 ay dk.Kept,ag.row 9 aG dk.Now,ag.row 114 az dk.Wait,ag.held w own]) (fun g_=>[ag.lP (g_.2.2.2.1:List kr),ag.lP ([]:List kr)]) (fun g_=>g_.1<=manyN/\iJ ((qi dk gp manyN).drop g_.1) (first+(g_.1:Int)) (g_.2.2.2.1.map kr.L) g_.2.2.2.2.2 g_.2.1 g_.1=scan (qi dk gp manyN) first/\g_.2.2.2.2.2.length<=g_.1/\g_.2.2.2.1.length<=g_.1/\g_.2.1<=g_.1) (fun g_=>manyN-g_.1) (0,0,(nS),[],(nS),[]) O (by (try dsimp only);exact ⟨by omega,by show iJ _ (first+0) _ _ _ _=_;rw [Int.add_zero];rfl,by simp,by simp,by simp⟩) (sF O) (ic fh [0,0] O) ?_
 rintro ⟨i,u,qo,ob,qd,dd⟩ ⟨hi,HS,hdl,hol,UT⟩
 dsimp only at *
 refine R.reg O<|?_
 by_cases h1:i<manyN
 .
  refine R.q (q.dz O O) O<|R.nil<|R.av O O<|R.reg O<|R.u 2 O<|R.nil ?_
  have hrd:=xh hD.1 hd (i:=gp+(i:Int)) (by omega) (by omega);obtain ⟨hrd,hsz⟩:=hrd;have hlx:=ER (n:=first+(i:Int)) hsz
  refine R.reg O<|R.u 2 O<|R.c (q.call Pq O O (fun w hw=>(cv (show (.tuple #[.int .u8 (px (bY dk ((⟨gp,(manyN:Int),first,(u:Int)⟩:Lg).From+(i:Int))).1 ((⟨gp,(manyN:Int),first,(u:Int)⟩:Lg).First+(i:Int)):Int),.string (ku (bY dk ((⟨gp,(manyN:Int),first,(u:Int)⟩:Lg).From+(i:Int))).1 ((⟨gp,(manyN:Int),first,(u:Int)⟩:Lg).First+(i:Int))),.bool (jg (bY dk ((⟨gp,(manyN:Int),first,(u:Int)⟩:Lg).From+(i:Int))).1 ((⟨gp,(manyN:Int),first,(u:Int)⟩:Lg).First+(i:Int)))]:Value) = .tuple #[.int .u8 (px (bY dk (gp+(i:Int))).1 (first+(i:Int)):Int),.string (ku (bY dk (gp+(i:Int))).1 (first+(i:Int))),.bool (jg (bY dk (gp+(i:Int))).1 (first+(i:Int)))] from O) (Ka b1 (⟨gp,(manyN:Int),first,(u:Int)⟩:Lg) i aH ay aG az dk w (hw.b 2 O) (hw.b 3 O) (hw.row 4 O) (hw.row 5 O) (hw.row 6 O) (by (dsimp only;omega)) ‹_› ‹_›)))) O<|R.u 7 O<|R.nil ?_
  refine R.reg O<|R.u 1 O<|R.q (q.not O) O<|R.u 1 O<|?_
  rcases Bool.eq_false_or_eq_true (jg (bY dk (gp+(i:Int))).1 (first+(i:Int))) with h2|h2
  .
   rw [h2]
   refine R.u 1 O<|?_
   by_cases h3:px (bY dk (gp+(i:Int))).1 (first+(i:Int))=99
   .
    refine R.qg O (q.fI O O) O<|R.u 3 O<|R.qg O (q.len' (bC 0 O) O Tryz.underlying34) O<|R.cg O (q.call fx O O (fun w hw=>(du (dd.length:Int) w (by omega)))) O<|?_
    by_cases h4:ku (bY dk (gp+(i:Int))).1 (first+(i:Int))=bW (dd.length:Int)
    .
     refine R.qg O (q.uG O O h4) O<|R.u 2 O<|R.nil<|R.aB O O<|R.reg O<|R.u 1 O<|R.q (q.fI O O) O<|R.nil<|R.av O O<|R.reg O<|R.u 3 O<|R.s O (s.VI (l:=([(⟨qd,dd⟩:kr)]:List kr)) F7 Jb O O O O O (fun w hw=>HE (hw.row 0 O)) O) fun b2=>?_
     refine R.s O (s.app 2 _ O O O (bC 0 O) Ji (by (simp;omega)) (by (simp;omega)) (fun _=>rfl) O) fun v1=>?_
     refine R.u 1 O<|R.q (q.bB (r:=((i+1:Nat):Int)) O O) O<|R.u 2 O<|R.q (q.cb O) O<|R.q (q.aO O jX O) O<|R.s O (s.st 3 _ O O O O (.inr ⟨au,rfl⟩) O O O O) fun _=>?_
     refine R.nil<|R.reg O<|R.q (q.bB (r:=((i+1:Nat):Int)) O O) O<|R.u 1 O<|R.nil<|R.mp (fun _ hw=>hw.cX 1 _ O O)<|R.mp (fun _ hw=>hw.MB 1 0 O O)<|R.row0 (α:=Change) 117<|R.back (i+1,(i+1),v1,(ob++([(⟨qd,dd⟩:kr)])),(nS),[]) O (by ((try dsimp only);exact ⟨by omega,by rw [List.map_append];exact J0 HS (qO (by omega)) (P4 ‹_› ‹_› ‹_›),by simp,by simp;omega,by omega⟩)) (by dsimp only;omega) (sF O) (aD [0,2,3,4,5,6,7,8] [0,3] O)
    refine R.qg O (q.zd O O h4) O<|R.u 2 O<|R.nil<|R.av O O<|R.reg O<|R.u 5 O<|R.nil<|R.mp (fun _ hw=>hw.Bm 0 O)<|R.mp (fun _ hw=>hw.cX 1 _ O O) ?_
    have hz:(dk,(⟨gp,((manyN:Nat):Int),first,(fF dk gp (Int.toNat ((manyN:Nat):Int)) first:Int)⟩:Lg),lE dk gp (Int.toNat ((manyN:Nat):Int)) first)=(dk,(⟨gp,(manyN:Int),first,(u:Int)⟩:Lg),(ob.map kr.L)):=by ((try dsimp only);have e:=Bd HS (qO (by omega)) (CY (k:=(dd.length:Int)) ‹_› ‹_› ‹_›).1 (CY (k:=(dd.length:Int)) ‹_› ‹_› ‹_›).2;unfold fF lE;rw [show Int.toNat ((manyN:Nat):Int)=manyN from rfl,e])
    have hz0:((manyN:Nat):Int)=(manyN:Int):=congrArg (fun t_=>t_.2.1.Many) hz
    rw [hz0]
    have hz1:(fF dk gp (Int.toNat ((manyN:Nat):Int)) first:Int)=(u:Int):=congrArg (fun t_=>t_.2.1.Next) hz
    rw [hz1]
    have hz2:lE dk gp (Int.toNat ((manyN:Nat):Int)) first=(ob.map kr.L):=congrArg (fun t_=>t_.2.2) hz
    rw [hz2]
    exact R.w3 (ay,aG,az,b1,qo,ob) [2,3,4,5,1,6] [0,1] O Tryz.results82 (RV.tmp O) (RV.tmp O) (RV.tmp O) O O O (Ex O O O)
   refine R.qg O (q.e9 O O) O<|R.u 8 O<|R.nil<|R.aB O O<|R.reg O<|R.u 1 O<|R.q (q.e9 O O) O<|R.nil<|R.aB O O<|R.reg O<|R.u 1 O<|R.c (q.call Pr O O (fun w hw=>(Bb (ku (bY dk (gp+(i:Int))).1 (first+(i:Int))) w (by omega)))) O<|R.u 3 O<|?_
   refine R.s O (s.alloc cI O O) fun b3=>?_
   refine R.s O (s.st 0 _ O O O O (.inl aY) O O O O) fun _=>?_
   refine R.u 1 O<|R.nil<|R.reg O<|R.u 1 O<|?_
   by_cases h5:(rZ (ku (bY dk (gp+(i:Int))).1 (first+(i:Int)))).2=0
   .
    refine R.q (q.dx O O Tryz.underlying38) O<|R.nil<|R.aB O O<|R.reg O<|R.u 1 O<|R.q (q.dh 0 O O aY) O<|R.s O (s.bs (l:=([(rZ (ku (bY dk (gp+(i:Int))).1 (first+(i:Int)))).1]:List Change)) cd cI O O O O O O O) fun b4=>?_
    refine R.s O (s.app 2 _ O O O (bC 0 O) jw (by (simp;omega)) (by (simp;omega)) (fun _=>rfl) O) fun v2=>?_
    refine R.u 1 O<|R.nil<|R.reg O<|R.q (q.bB (r:=((i+1:Nat):Int)) O O) O<|R.u 1 O<|R.nil<|R.back (i+1,u,qo,ob,v2,(dd++([(rZ (ku (bY dk (gp+(i:Int))).1 (first+(i:Int)))).1]))) O (by ((try dsimp only);have e:=P5 (k:=(dd.length:Int)) ‹_› ‹_› ‹_›;exact ⟨by omega,by rw [e.2.2];exact Mv HS (qO (by omega)) e.1 e.2.1,by simp;omega,by omega,by omega⟩)) (by dsimp only;omega) (sF O) (aD FP [0,1] O)
   refine R.q (q.d9 O O Tryz.underlying38) O<|R.nil<|R.av O O<|R.reg O<|R.u 5 O<|R.nil<|R.mp (fun _ hw=>hw.Bm 0 O)<|R.mp (fun _ hw=>hw.cX 2 _ O O) ?_
   have hz:(dk,(⟨gp,((manyN:Nat):Int),first,(fF dk gp (Int.toNat ((manyN:Nat):Int)) first:Int)⟩:Lg),lE dk gp (Int.toNat ((manyN:Nat):Int)) first)=(dk,(⟨gp,(manyN:Int),first,(u:Int)⟩:Lg),(ob.map kr.L)):=by ((try dsimp only);have e:=Bd HS (qO (by omega)) (CZ (k:=(dd.length:Int)) ‹_› ‹_› ‹_›).1 (CZ (k:=(dd.length:Int)) ‹_› ‹_› ‹_›).2;unfold fF lE;rw [show Int.toNat ((manyN:Nat):Int)=manyN from rfl,e])
   have hz0:((manyN:Nat):Int)=(manyN:Int):=congrArg (fun t_=>t_.2.1.Many) hz
   rw [hz0]
   have hz1:(fF dk gp (Int.toNat ((manyN:Nat):Int)) first:Int)=(u:Int):=congrArg (fun t_=>t_.2.1.Next) hz
   rw [hz1]
   have hz2:lE dk gp (Int.toNat ((manyN:Nat):Int)) first=(ob.map kr.L):=congrArg (fun t_=>t_.2.2) hz
   rw [hz2]
   exact R.w3 (ay,aG,az,b1,qo,ob) [3,4,5,6,2,7] [0,1] O Tryz.results82 (RV.tmp O) (RV.tmp O) (RV.tmp O) O O O (Ex O O O)
  rw [h2]
  refine R.u 10 O<|R.nil<|R.av O O<|R.reg O<|R.u 5 O<|R.nil<|R.mp (fun _ hw=>hw.Bm 0 O)<|R.mp (fun _ hw=>hw.cX 1 _ O O) ?_
  have hz:(dk,(⟨gp,((manyN:Nat):Int),first,(fF dk gp (Int.toNat ((manyN:Nat):Int)) first:Int)⟩:Lg),lE dk gp (Int.toNat ((manyN:Nat):Int)) first)=(dk,(⟨gp,(manyN:Int),first,(u:Int)⟩:Lg),(ob.map kr.L)):=by ((try dsimp only);have e:=Bd HS (qO (by omega)) (CX (k:=(dd.length:Int)) ‹_›).1 (CX (k:=(dd.length:Int)) ‹_›).2;unfold fF lE;rw [show Int.toNat ((manyN:Nat):Int)=manyN from rfl,e])
  have hz0:((manyN:Nat):Int)=(manyN:Int):=congrArg (fun t_=>t_.2.1.Many) hz
  rw [hz0]
  have hz1:(fF dk gp (Int.toNat ((manyN:Nat):Int)) first:Int)=(u:Int):=congrArg (fun t_=>t_.2.1.Next) hz
  rw [hz1]
  have hz2:lE dk gp (Int.toNat ((manyN:Nat):Int)) first=(ob.map kr.L):=congrArg (fun t_=>t_.2.2) hz
  rw [hz2]
  exact R.w3 (ay,aG,az,b1,qo,ob) [2,3,4,5,1,6] [0,1] O Tryz.results82 (RV.tmp O) (RV.tmp O) (RV.tmp O) O O O (Ex O O O)
 refine R.q (q.cW O O) O<|R.nil<|R.aB O O<|R.reg O<|R.u 5 O<|R.nil<|R.mp (fun _ hw=>hw.Bm 0 O)<|R.mp (fun _ hw=>hw.cX 1 _ O O) ?_
 have hz:(dk,(⟨gp,((manyN:Nat):Int),first,(fF dk gp (Int.toNat ((manyN:Nat):Int)) first:Int)⟩:Lg),lE dk gp (Int.toNat ((manyN:Nat):Int)) first)=(dk,(⟨gp,(manyN:Int),first,(u:Int)⟩:Lg),(ob.map kr.L)):=by ((try dsimp only);have e:=P0 HS (by rw [qj];omega);unfold fF lE;rw [show Int.toNat ((manyN:Nat):Int)=manyN from rfl,e])
 have hz0:((manyN:Nat):Int)=(manyN:Int):=congrArg (fun t_=>t_.2.1.Many) hz
 rw [hz0]
 have hz1:(fF dk gp (Int.toNat ((manyN:Nat):Int)) first:Int)=(u:Int):=congrArg (fun t_=>t_.2.1.Next) hz
 rw [hz1]
 have hz2:lE dk gp (Int.toNat ((manyN:Nat):Int)) first=(ob.map kr.L):=congrArg (fun t_=>t_.2.2) hz
 rw [hz2]
 exact R.w3 (ay,aG,az,b1,qo,ob) [2,3,4,5,1,6] [0,1] O Tryz.results82 (RV.tmp O) (RV.tmp O) (RV.tmp O) O O O (Ex O O O)
theorem MD (bz:Nat)(lg:Lg)(Gu:Value)(c:List Change)(aH:Nat)(ay aG az:Value)(dk:cx)(w:World)(own:List Nat)(H:HN w own [ag.box bz [.pointer (some ⟨aH,0,none⟩),iV lg.From,iV lg.Many,iV lg.First,iV lg.Next] 198,ag.box aH [ay,aG,az,iV dk.Fuse,.bool dk.Down] 112,ag.row 9 ay dk.Kept,ag.row 9 aG dk.Now,ag.row 114 az dk.Wait] [ag.ls Gu c])(hb:0<=lg.From/\lg.From<=1000000000/\0<=lg.Next/\lg.Next<=1000000000/\0<=lg.First/\lg.First<=4000000000000000000/\0<=lg.Many/\lg.Many<=1000000000)(hl:c.length<=62)(hf:∀x∈c,iI x=0)(hD:fN dk.Now.length 90000 dk/\dk.Now.length<=100000):RC Tryz.prog 180 #[.pointer (some ⟨bz,0,none⟩),Gu] H (fun _:Value×Value×Value=>da (dw lg dk c).2) (fun z=>[ag.box bz [.pointer (some ⟨aH,0,none⟩),iV lg.From,iV lg.Many,iV lg.First,iV lg.Next] 198,ag.box aH [z.1,z.2.1,z.2.2,iV (dw lg dk c).1.Fuse,.bool (dw lg dk c).1.Down] 112,ag.row 9 z.1 (dw lg dk c).1.Kept,ag.row 9 z.2.1 (dw lg dk c).1.Now,ag.row 114 z.2.2 (dw lg dk c).1.Wait]) (fun _=>[]):=by
 have eE:=H.cap 2 rfl;have eF:=H.cO 2 rfl
 have fD:=H.cap 3 rfl;have fE:=H.cO 3 rfl
 have eG:=H.cap 4 rfl;have eH:=H.cO 4 rfl
 have VK:=H.cq 0 rfl
 refine R.bD [(0,.pointer (some ⟨bz,0,none⟩)),(1,Gu)] Tryz.func180 O O O O H<|R.reg O<|R.u 1 O<|R.nil<|R.eu O mixed (by kernel_rfl)<|Q.u 1 O<|Q.q (q.cb O) O<|Q.q (q.aO O oF O) O<|Q.q (q.ld 0 O O au O) O<|Q.u 1 O<|Q.q (q.cb O) O<|Q.q (q.aO O jX O) O<|Q.q (q.ld 0 O O au O) O<|Q.q (q.bB (r:=lg.From+lg.Next) O O) O<|Q.u 1 O<|Q.nil<|R.reg O<|R.u 1 O<|R.q (q.len' (dy 0 O) O Tryz.underlying34) O<|R.u 1 O<|R.nil<|R.loop (fun g_:Nat×cx×Value×Value×Value=>[(0,.pointer (some ⟨bz,0,none⟩)),(1,Gu),(5,iV (lg.From+lg.Next)),(20,Gu),(21,iV (c.length:Int)),(22,iV (g_.1:Int))]) (fun g_=>[ag.box bz [.pointer (some ⟨aH,0,none⟩),iV lg.From,iV lg.Many,iV lg.First,iV lg.Next] 198,ag.box aH [g_.2.2.1,g_.2.2.2.1,g_.2.2.2.2,iV g_.2.1.Fuse,.bool g_.2.1.Down] 112,ag.row 9 g_.2.2.1 g_.2.1.Kept,ag.row 9 g_.2.2.2.1 g_.2.1.Now,ag.row 114 g_.2.2.2.2 g_.2.1.Wait,ag.held w own]) (fun g_=>[ag.ls Gu c]) (fun g_=>g_.1<=c.length/\kV lg g_.2.1 (c.drop g_.1) g_.1=kV lg dk c 0/\fN dk.Now.length (90000+g_.1) g_.2.1) (fun g_=>c.length-g_.1) (0,dk,ay,aG,az) O (by (try dsimp only);exact ⟨by omega,rfl,hD.1⟩) (sF O) (ic rz [0] O) ?_
 rintro ⟨i,dm,eh,fL,ej⟩ ⟨hi,HL,hO⟩
 dsimp only at *
 have p1:=hO.fine (by omega) (by omega)
 refine R.reg O<|?_
 by_cases h1:i<c.length
 .
  refine R.q (q.dz O O) O<|R.nil<|R.av O O<|R.reg O<|R.u 1 O<|?_
  obtain ⟨x1,hx1⟩:∃z,c[i]? = some z:=⟨_,List.getElem?_eq_getElem (by omega)⟩
  have P8:=Bo (hf x1 (List.mem_of_getElem? hx1));obtain ⟨P8,VL⟩:=P8
  refine R.q (q.idx (i:=i) (dy 0 O) O O cd O hx1) O<|R.q (q.eS (ds:=iz x1) (dy 0 O) hx1 O aY O) O<|R.s O (s.alloc cI O O) fun b1=>?_
  refine R.u 1 O<|R.s O (s.st 0 _ O O O O (.inl aY) O O O O) fun _=>?_
  refine R.nil<|R.reg O<|R.q (q.dh 0 O O aY) O<|R.c (q.call PT O O (fun w hw=>(Ba x1 w ))) O<|R.u 5 O<|R.nil ?_
  refine R.reg O<|R.u 1 O<|R.q (q.dx O O Tryz.underlying38) O<|R.nil<|R.aB O O<|R.fP (fuel:=22) [0,1,6] O O mixed O<|D.q (i:=0) O (aD [0,1,6] [0] O) O (q.mv O) O<|D.q (i:=1) O (aD [0,1,6] [0] O) O (q.cb O) O<|D.q (i:=2) O (aD [0,1,6] [0] O) O (q.aO O kO O) O<|D.q (i:=3) O (aD [0,1,6] [0] O) O (q.ld 1 O O jt O) O<|D.q (i:=4) O (aD [0,1,6] [0] O) O (q.mv O) O<|D.q (i:=5) O (aD [0,1,6] [0] O) O (q.mv O) O<|D.q (i:=6) O (aD [0,1,6] [0] O) O (q.bB (r:=(lg.From+lg.Next)+(i:Int)) O O) O<|D.q (i:=7) O (aD [0,1,6] [0] O) O (q.mv O) O<|D.q (i:=8) O (aD [0,1,6] [0] O) O (q.cb O) O<|D.q (i:=9) O (aD [0,1,6] [0] O) O (q.aO O jW O) O<|D.q (i:=10) O (aD [0,1,6] [0] O) O (q.ld 1 O O au O) O<|D.q (i:=11) O (aD [0,1,6] [0] O) O (q.mv O) O<|D.q (i:=12) O (aD [0,1,6] [0] O) O (q.cb O) O<|D.q (i:=13) O (aD [0,1,6] [0] O) O (q.aO O jX O) O<|D.q (i:=14) O (aD [0,1,6] [0] O) O (q.ld 1 O O au O) O<|D.q (i:=15) O (aD [0,1,6] [0] O) O (q.bB (r:=lg.First+lg.Next) O O) O<|D.q (i:=16) O (aD [0,1,6] [0] O) O (q.mv O) O<|D.q (i:=17) O (aD [0,1,6] [0] O) O (q.bB (r:=(lg.First+lg.Next)+(i:Int)) O O) O<|D.q (i:=18) O (aD [0,1,6] [0] O) O (q.mv O) O<|D.one (i:=19) O<|Do.s (s.c (q.call JB O O (fun w hw=>(C0 111 ((lg.First+lg.Next)+(i:Int)) (kb x1).1 w (by decide) (by omega) (by omega)))) O) (fun _=>(aD [0,1,6] [0] O)) O fun _=>?_
  refine D.one (i:=20) O<|Do.s (s.aW [2,3,4,5,0,1,6] [] _ _ _ O O O uI O O (fun w own hw H=>jd aH eh fL ej dm ((lg.From+lg.Next)+(i:Int)) (dG 111 ((lg.First+lg.Next)+(i:Int)) (kb x1).1) w own H ‹_›) O) (fun _=>(aD [4,5,6] [0] O)) O ?_
  rintro ⟨z4,z5,z6⟩
  dsimp only
  refine D.q (i:=21) O (aD [4,5,6] [0] O) O (q.as O) O<|D.done<|R.reg O<|R.u 1 O<|?_
  by_cases h2:(ap dm ((lg.From+lg.Next)+(i:Int)) (dG 111 ((lg.First+lg.Next)+(i:Int)) (kb x1).1)).2=0
  .
   refine R.q (q.dx O O Tryz.underlying38) O<|R.nil<|R.aB O O<|R.reg O<|R.q (q.bB (r:=((i+1:Nat):Int)) O O) O<|R.u 1 O<|R.nil<|R.back (i+1,(ap dm ((lg.From+lg.Next)+(i:Int)) (dG 111 ((lg.First+lg.Next)+(i:Int)) (kb x1).1)).1,z4,z5,z6) O (by ((try dsimp only);exact ⟨by omega,P6 HL hx1 ‹_›,hO.write _ _⟩)) (by dsimp only;omega) (sF O) (aD [5,0,1,2,3,6] [0] O)
  refine R.q (q.d9 O O Tryz.underlying38) O<|R.nil<|R.av O O<|R.reg O<|R.u 2 O<|R.nil ?_
  have hz:(lg,(dw lg dk c).1,(dw lg dk c).2)=(lg,(ap dm ((lg.From+lg.Next)+(i:Int)) (dG 111 ((lg.First+lg.Next)+(i:Int)) (kb x1).1)).1,(ap dm ((lg.From+lg.Next)+(i:Int)) (dG 111 ((lg.First+lg.Next)+(i:Int)) (kb x1).1)).2):=by (rw [HI (J4 HL hx1 ‹_›).symm ‹_›])
  have hz0:(dw lg dk c).1=(ap dm ((lg.From+lg.Next)+(i:Int)) (dG 111 ((lg.First+lg.Next)+(i:Int)) (kb x1).1)).1:=congrArg (fun t_=>t_.2.1) hz
  rw [hz0]
  have hz1:(dw lg dk c).2=(ap dm ((lg.From+lg.Next)+(i:Int)) (dG 111 ((lg.First+lg.Next)+(i:Int)) (kb x1).1)).2:=congrArg (fun t_=>t_.2.2) hz
  rw [hz1]
  exact R.w1 (z4,z5,z6) [5,0,1,2,3,6] [] O Tryz.results180 (RV.tmp O) O O O O
 refine R.q (q.cW O O) O<|R.nil<|R.aB O O<|R.reg O<|R.u 1 O<|R.q (q.cb O) O<|R.q (q.aO O jX O) O<|R.q (q.ld 0 O O au O) O<|R.u 1 O<|R.q (q.len' (dy 0 O) O Tryz.underlying34) O<|R.q (q.bB (r:=lg.Next+(c.length:Int)) O O) O<|R.q (q.bB (r:=(lg.Next+(c.length:Int))+1) O O) O<|R.u 1 O<|R.nil<|R.reg O<|R.u 2 O<|R.q (q.cb O) O<|R.q (q.aO O rW O) O<|R.q (q.ld 0 O O au O) O<|?_
 by_cases h3:((lg.Next+(c.length:Int))+1)<lg.Many
 .
  refine R.q (q.dz O O) O<|R.nil<|R.av O O<|R.fP (fuel:=12) [0,5] O O mixed O<|D.q (i:=0) O (aD [0,5] [0] O) O (q.mv O) O<|D.q (i:=1) O (aD [0,5] [0] O) O (q.cb O) O<|D.q (i:=2) O (aD [0,5] [0] O) O (q.aO O kO O) O<|D.q (i:=3) O (aD [0,5] [0] O) O (q.ld 0 O O jt O) O<|D.q (i:=4) O (aD [0,5] [0] O) O (q.mv O) O<|D.q (i:=5) O (aD [0,5] [0] O) O (q.cb O) O<|D.q (i:=6) O (aD [0,5] [0] O) O (q.aO O oF O) O<|D.q (i:=7) O (aD [0,5] [0] O) O (q.ld 0 O O au O) O<|D.q (i:=8) O (aD [0,5] [0] O) O (q.mv O) O<|D.q (i:=9) O (aD [0,5] [0] O) O (q.bB (r:=lg.From+((lg.Next+(c.length:Int))+1)) O O) O<|D.one (i:=10) O<|Do.s (s.aW [1,2,3,4,0,5] [] _ _ _ O O O uI O O (fun w own hw H=>jd aH eh fL ej dm (lg.From+((lg.Next+(c.length:Int))+1)) (⟨#[]⟩) w own H ‹_›) O) (fun _=>(aD [4,5] [0] O)) O ?_
  rintro ⟨kY,lZ,z12⟩
  dsimp only
  refine D.q (i:=11) O (aD [4,5] [0] O) O (q.as O) O<|D.done<|?_
  have hz:(lg,(dw lg dk c).1,(dw lg dk c).2)=(lg,(ap dm (lg.From+((lg.Next+(c.length:Int))+1)) (⟨#[]⟩)).1,(ap dm (lg.From+((lg.Next+(c.length:Int))+1)) (⟨#[]⟩)).2):=by (have e:=Gp HL (by omega);(rw [J5 e ‹_›];done))
  have hz0:(dw lg dk c).1=(ap dm (lg.From+((lg.Next+(c.length:Int))+1)) (⟨#[]⟩)).1:=congrArg (fun t_=>t_.2.1) hz
  rw [hz0]
  have hz1:(dw lg dk c).2=(ap dm (lg.From+((lg.Next+(c.length:Int))+1)) (⟨#[]⟩)).2:=congrArg (fun t_=>t_.2.2) hz
  rw [hz1]
  exact R.w1 (kY,lZ,z12) [4,0,1,2,3,5] [] O Tryz.results180 (RV.tmp O) O O O O
 refine R.q (q.cW O O) O<|R.nil<|R.aB O O<|R.reg O<|R.u 1 O<|R.nil ?_
 have hz:(lg,(dw lg dk c).1,(dw lg dk c).2)=(lg,dm,0):=by (have e:=Gp HL (by omega);(rw [HJ e (by omega)];done))
 have hz0:(dw lg dk c).1=dm:=congrArg (fun t_=>t_.2.1) hz
 rw [hz0]
 have hz1:(dw lg dk c).2=0:=congrArg (fun t_=>t_.2.2) hz
 rw [hz1]
 exact R.w1 (eh,fL,ej) rz [] O Tryz.results180 (RV.tmp O) O O O (iK O)
theorem Kc (Bt:Nat)(pl:Unit)(Bu:Nat)(uM:Value)(pc:TJ)(bz:Nat)(lg:Lg)(aH:Nat)(ay aG az:Value)(dk:cx)(w:World)(own:List Nat)(H:HN w own [ag.box Bt [.pointer (some ⟨bz,0,none⟩)] 131,ag.box Bu [uM] 34,ag.box bz [.pointer (some ⟨aH,0,none⟩),iV lg.From,iV lg.Many,iV lg.First,iV lg.Next] 198,ag.box aH [ay,aG,az,iV dk.Fuse,.bool dk.Down] 112,ag.row 9 ay dk.Kept,ag.row 9 aG dk.Now,ag.row 114 az dk.Wait] [ag.ls uM pc.C])(hb:0<=lg.From/\lg.From<=1000000000/\0<=lg.Next/\lg.Next<=1000000000/\0<=lg.First/\lg.First<=4000000000000000000/\0<=lg.Many/\lg.Many<=1000000000)(hl:pc.C.length<=62)(hf:∀x∈pc.C,iI x=0)(hD:fN dk.Now.length 90000 dk/\dk.Now.length<=100000):RC Tryz.prog 179 #[.pointer (some ⟨Bt,0,none⟩),.pointer (some ⟨Bu,0,none⟩)] H (fun _:Value×Value×Value×Value=>da (dw lg dk pc.C).2) (fun z=>[ag.box Bt [.pointer (some ⟨bz,0,none⟩)] 131,ag.box Bu [z.1] 34,ag.box bz [.pointer (some ⟨aH,0,none⟩),iV lg.From,iV lg.Many,iV lg.First,iV lg.Next] 198,ag.box aH [z.2.1,z.2.2.1,z.2.2.2,iV (dw lg dk pc.C).1.Fuse,.bool (dw lg dk pc.C).1.Down] 112,ag.row 9 z.2.1 (dw lg dk pc.C).1.Kept,ag.row 9 z.2.2.1 (dw lg dk pc.C).1.Now,ag.row 114 z.2.2.2 (dw lg dk pc.C).1.Wait]) (fun z=>[ag.ls z.1 pc.C]):=by
 have eE:=H.cap 4 rfl;have eF:=H.cO 4 rfl
 have fD:=H.cap 5 rfl;have fE:=H.cO 5 rfl
 have eG:=H.cap 6 rfl;have eH:=H.cO 6 rfl
 have P9:=H.cq 0 rfl
 refine R.bD [(0,.pointer (some ⟨Bt,0,none⟩)),(1,.pointer (some ⟨Bu,0,none⟩))] Tryz.func179 O O O O H<|R.reg O<|R.u 1 O<|R.nil<|R.reg O<|R.q (q.ld 0 O O fC O) O<|R.q (q.ld 1 O O gw O) O<|R.s O (s.aW [2,3,4,5,6,0,1,7] [0] _ _ _ O O O PK O O (fun w own hw H=>MD bz lg uM pc.C aH ay aG az dk w own H ‹_› (by omega) ‹_› ‹_›) O) ?_
 rintro ⟨z1,z2,z3⟩
 dsimp only
 refine R.u 1 O<|R.nil ?_
 have hz:((),pc,lg,(dw lg dk pc.C).1,(dw lg dk pc.C).2)=((),pc,lg,(dw lg dk pc.C).1,(dw lg dk pc.C).2):=by (rfl)
 exact R.w1 (uM,z1,z2,z3) [5,6,0,1,2,3,4,7] [0] O Tryz.results179 (RV.tmp O) O O O O
theorem Kd (Bt:Nat)(pl:Unit)(ME:Nat)(pe:Sx)(Bu:Nat)(uM:Value)(pc:TJ)(bz:Nat)(lg:Lg)(aH:Nat)(ay aG az:Value)(dk:cx)(w:World)(own:List Nat)(H:HN w own [ag.box Bt [.pointer (some ⟨bz,0,none⟩)] 131,ag.box ME [iV pe.E] 3,ag.box Bu [uM] 34,ag.box bz [.pointer (some ⟨aH,0,none⟩),iV lg.From,iV lg.Many,iV lg.First,iV lg.Next] 198,ag.box aH [ay,aG,az,iV dk.Fuse,.bool dk.Down] 112,ag.row 9 ay dk.Kept,ag.row 9 aG dk.Now,ag.row 114 az dk.Wait] [ag.ls uM pc.C])(hb:0<=lg.From/\lg.From<=1000000000/\0<=lg.Next/\lg.Next<=1000000000/\0<=lg.First/\lg.First<=4000000000000000000/\0<=lg.Many/\lg.Many<=1000000000)(he:0<=pe.E/\pe.E<=2000000000)(hl:pc.C.length<=62)(hD:fN dk.Now.length 91000 dk/\dk.Now.length<=100000):RC Tryz.prog 181 #[.pointer (some ⟨Bt,0,none⟩),.pointer (some ⟨ME,0,none⟩),.pointer (some ⟨Bu,0,none⟩)] H (fun _:Value×Value×Value×Value=>da (ap dk (lg.From+pe.E) (dG 99 (lg.First+pe.E) (bW (pc.C.length:Int)))).2) (fun z=>[ag.box Bt [.pointer (some ⟨bz,0,none⟩)] 131,ag.box ME [iV pe.E] 3,ag.box Bu [z.1] 34,ag.box bz [.pointer (some ⟨aH,0,none⟩),iV lg.From,iV lg.Many,iV lg.First,iV lg.Next] 198,ag.box aH [z.2.1,z.2.2.1,z.2.2.2,iV (ap dk (lg.From+pe.E) (dG 99 (lg.First+pe.E) (bW (pc.C.length:Int)))).1.Fuse,.bool (ap dk (lg.From+pe.E) (dG 99 (lg.First+pe.E) (bW (pc.C.length:Int)))).1.Down] 112,ag.row 9 z.2.1 ((ap dk (lg.From+pe.E) (dG 99 (lg.First+pe.E) (bW (pc.C.length:Int)))).1.Kept:List ByteArray),ag.row 9 z.2.2.1 ((ap dk (lg.From+pe.E) (dG 99 (lg.First+pe.E) (bW (pc.C.length:Int)))).1.Now:List ByteArray),ag.row 114 z.2.2.2 ((ap dk (lg.From+pe.E) (dG 99 (lg.First+pe.E) (bW (pc.C.length:Int)))).1.Wait:List Turn)]) (fun z=>[ag.ls z.1 pc.C]):=by
 have eE:=H.cap 5 rfl;have eF:=H.cO 5 rfl
 have fD:=H.cap 6 rfl;have fE:=H.cO 6 rfl
 have eG:=H.cap 7 rfl;have eH:=H.cO 7 rfl
 have P9:=H.cq 0 rfl
 have p1:=hD.1.fine (by omega) (by omega)
 refine R.bD [(0,.pointer (some ⟨Bt,0,none⟩)),(1,.pointer (some ⟨ME,0,none⟩)),(2,.pointer (some ⟨Bu,0,none⟩))] Tryz.func181 O O O O H<|R.reg O<|R.u 1 O<|R.nil<|R.fP (fuel:=22) np O O mixed O<|D.q (i:=0) O (aD np [0] O) O (q.ld 0 O O fC O) O<|D.q (i:=1) O (aD np [0] O) O (q.cb O) O<|D.q (i:=2) O (aD np [0] O) O (q.aO O kO O) O<|D.q (i:=3) O (aD np [0] O) O (q.ld 3 O O jt O) O<|D.q (i:=4) O (aD np [0] O) O (q.ld 0 O O fC O) O<|D.q (i:=5) O (aD np [0] O) O (q.cb O) O<|D.q (i:=6) O (aD np [0] O) O (q.aO O oF O) O<|D.q (i:=7) O (aD np [0] O) O (q.ld 3 O O au O) O<|D.q (i:=8) O (aD np [0] O) O (q.ld 1 O O au O) O<|D.q (i:=9) O (aD np [0] O) O (q.bB (r:=lg.From+pe.E) O O) O<|D.q (i:=10) O (aD np [0] O) O (q.ld 0 O O fC O) O<|D.q (i:=11) O (aD np [0] O) O (q.cb O) O<|D.q (i:=12) O (aD np [0] O) O (q.aO O jW O) O<|D.q (i:=13) O (aD np [0] O) O (q.ld 3 O O au O) O<|D.q (i:=14) O (aD np [0] O) O (q.ld 1 O O au O) O<|D.q (i:=15) O (aD np [0] O) O (q.bB (r:=lg.First+pe.E) O O) O<|D.q (i:=16) O (aD np [0] O) O (q.ld 2 O O gw O) O<|D.q (i:=17) O (aD np [0] O) O (q.len' (dy 0 O) O Tryz.underlying34) O<|D.one (i:=18) O<|Do.s (s.c (q.call fx O O (fun w hw=>(du (pc.C.length:Int) w (by omega)))) O) (fun _=>(aD np [0] O)) O fun _=>?_
 refine D.one (i:=19) O<|Do.s (s.c (q.call JB O O (fun w hw=>(C0 99 (lg.First+pe.E) (bW (pc.C.length:Int)) w (by decide) (by omega) (by (rw [aF];decide))))) O) (fun _=>(aD np [0] O)) O fun _=>?_
 refine D.one (i:=20) O<|Do.s (s.aW [4,5,6,7,0,1,2,3,8] [] _ _ _ O O O uI O O (fun w own hw H=>jd aH ay aG az dk (lg.From+pe.E) (dG 99 (lg.First+pe.E) (bW (pc.C.length:Int))) w own H ‹_›) O) (fun _=>(aD [4,5,6,7,8] [0] O)) O ?_
 rintro ⟨z4,z5,z6⟩
 dsimp only
 refine D.q (i:=21) O (aD [4,5,6,7,8] [0] O) O (q.as O) O<|D.done<|?_
 have hz:((),pe,pc,lg,(ap dk (lg.From+pe.E) (dG 99 (lg.First+pe.E) (bW (pc.C.length:Int)))).1,(ap dk (lg.From+pe.E) (dG 99 (lg.First+pe.E) (bW (pc.C.length:Int)))).2)=((),pe,pc,lg,(ap dk (lg.From+pe.E) (dG 99 (lg.First+pe.E) (bW (pc.C.length:Int)))).1,(ap dk (lg.From+pe.E) (dG 99 (lg.First+pe.E) (bW (pc.C.length:Int)))).2):=by (rfl)
 exact R.w1 (uM,z4,z5,z6) [4,5,6,7,0,1,2,3,8] [0] O Tryz.results181 (RV.tmp O) O O O O
theorem Gv (bz:Nat)(lg:Lg)(Gu:Value)(c:List Change)(aH:Nat)(ay aG az:Value)(dk:cx)(w:World)(own:List Nat)(H:HN w own [ag.box bz [.pointer (some ⟨aH,0,none⟩),iV lg.From,iV lg.Many,iV lg.First,iV lg.Next] 198,ag.box aH [ay,aG,az,iV dk.Fuse,.bool dk.Down] 112,ag.row 9 ay dk.Kept,ag.row 9 aG dk.Now,ag.row 114 az dk.Wait] [ag.ls Gu c])(hb:0<=lg.From/\lg.From<=1000000000/\0<=lg.Next/\lg.Next<=1000000000/\0<=lg.First/\lg.First<=4000000000000000000/\0<=lg.Many/\lg.Many<=1000000000)(hD:fN dk.Now.length 80000 dk/\dk.Now.length<=100000):RC Tryz.prog 135 #[.pointer (some ⟨bz,0,none⟩),Gu] H (fun _:Value×Value×Value=>da (cy lg dk c).2.2) (fun z=>[ag.box bz [.pointer (some ⟨aH,0,none⟩),iV (cy lg dk c).1.From,iV (cy lg dk c).1.Many,iV (cy lg dk c).1.First,iV (cy lg dk c).1.Next] 198,ag.box aH [z.1,z.2.1,z.2.2,iV (cy lg dk c).2.1.Fuse,.bool (cy lg dk c).2.1.Down] 112,ag.row 9 z.1 (cy lg dk c).2.1.Kept,ag.row 9 z.2.1 (cy lg dk c).2.1.Now,ag.row 114 z.2.2 (cy lg dk c).2.1.Wait]) (fun _=>[]):=by
 have eE:=H.cap 2 rfl;have eF:=H.cO 2 rfl
 have fD:=H.cap 3 rfl;have fE:=H.cO 3 rfl
 have eG:=H.cap 4 rfl;have eH:=H.cO 4 rfl
 have VK:=H.cq 0 rfl
 refine R.bD [(0,.pointer (some ⟨bz,0,none⟩)),(1,Gu)] Tryz.func135 O O O O H<|R.reg O<|R.s O (s.box O O O) fun b1=>?_
 refine R.s O (s.RN O (fun w hw=>Sl.cm (hw.bG 0 O)) O) fun b2=>?_
 refine R.u 1 O<|R.nil<|R.reg O<|R.q (q.ld 0 O O gw O) O<|R.q (q.len' (dy 0 O) O Tryz.underlying34) O<|?_
 by_cases h1:62<c.length
 .
  refine R.q (q.eL O O) O<|R.nil<|R.av O O<|R.reg O<|R.q (q.iface O bm) O<|R.u 1 O<|R.nil ?_
  have hz:cy lg dk c=(lg,dk,2):=by (exact J8 ‹_›)
  rw [hz]
  exact R.w1 (ay,aG,az) [2,3,4,5,6,7] [] O Tryz.results135 (RV.tmp O) O O O (dr (by decide) O)
 refine R.q (q.eo O O) O<|R.nil<|R.aB O O ?_
 by_cases h2:lg.Many-lg.Next<((c.length+1):Int)
 .
  refine R.eu O mixed (by kernel_rfl)<|Q.q (q.ld 0 O O gw O) O<|Q.q (q.len' (dy 0 O) O Tryz.underlying34) O<|Q.q (q.bB (r:=((c.length+1:Nat):Int)) O O) O<|Q.q (q.ld 1 O O fC O) O<|Q.c (q.call EF O O (fun w hw=>(xj bz aH lg w (hw.b 2 O) (by omega)))) O<|Q.q (q.eL O O) O<|Q.nil<|R.av O O<|R.reg O<|R.q (q.iface O bm) O<|R.u 1 O<|R.nil ?_
  have hz:cy lg dk c=(lg,dk,9):=by (exact J9 (by omega) (by omega))
  rw [hz]
  exact R.w1 (ay,aG,az) [2,3,4,5,6,7] [] O Tryz.results135 (RV.tmp O) O O O (dr (by decide) O)
 refine R.eu O mixed (by kernel_rfl)<|Q.q (q.ld 0 O O gw O) O<|Q.q (q.len' (dy 0 O) O Tryz.underlying34) O<|Q.q (q.bB (r:=((c.length+1:Nat):Int)) O O) O<|Q.q (q.ld 1 O O fC O) O<|Q.c (q.call EF O O (fun w hw=>(xj bz aH lg w (hw.b 2 O) (by omega)))) O<|Q.q (q.eo O O) O<|Q.nil<|R.aB O O<|R.reg O<|R.q (q.ld 0 O O gw O) O<|R.q (q.len' (dy 0 O) O Tryz.underlying34) O<|R.u 1 O<|R.nil<|R.loop (fun i:Nat=>[(2,.pointer (some ⟨b1,0,none⟩)),(3,.pointer (some ⟨b2,0,none⟩)),(23,Gu),(24,iV (c.length:Int)),(25,iV (i:Int))]) (fun i:Nat=>[ag.box b2 [Gu] 34,ag.box b1 [.pointer (some ⟨bz,0,none⟩)] 131,ag.box bz [.pointer (some ⟨aH,0,none⟩),iV lg.From,iV lg.Many,iV lg.First,iV lg.Next] 198,ag.box aH [ay,aG,az,iV dk.Fuse,.bool dk.Down] 112,ag.row 9 ay dk.Kept,ag.row 9 aG dk.Now,ag.row 114 az dk.Wait,ag.held w own]) (fun i:Nat=>[ag.ls Gu c]) (fun i:Nat=>i<=c.length/\jH (c.drop i)=jH c) (fun i:Nat=>c.length-i) 0 O (by exact ⟨by omega,rfl⟩) (sF O) (ic fh [0] O) ?_
 rintro i ⟨hi,HL⟩
 refine R.reg O<|?_
 by_cases h3:i<c.length
 .
  refine R.q (q.dz O O) O<|R.nil<|R.av O O<|R.reg O<|?_
  obtain ⟨x1,hx1⟩:∃z,c[i]? = some z:=⟨_,List.getElem?_eq_getElem (by omega)⟩
  have P8:=br x1
  refine R.q (q.idx (i:=i) (dy 0 O) O O cd O hx1) O<|R.q (q.eS (ds:=iz x1) (dy 0 O) hx1 O aY O) O<|R.s O (s.alloc cI O O) fun b3=>?_
  refine R.s O (s.st 0 _ O O O O (.inl aY) O O O O) fun _=>?_
  refine R.nil<|R.reg O<|R.q (q.dh 0 O O aY) O<|R.c (q.call tU O O (fun w hw=>(jx x1 w ))) O<|R.u 1 O<|R.nil ?_
  refine R.reg O<|R.u 1 O<|?_
  by_cases h4:iI x1=0
  .
   refine R.q (q.dx O O Tryz.underlying38) O<|R.nil<|R.aB O O<|R.reg O<|R.q (q.bB (r:=((i+1:Nat):Int)) O O) O<|R.u 1 O<|R.nil<|R.back (i+1) O (by (exact ⟨by omega,J6 HL hx1 (by omega)⟩)) (by omega) (sF O) (aD za [0] O)
  refine R.q (q.d9 O O Tryz.underlying38) O<|R.nil<|R.av O O<|R.reg O<|R.u 2 O<|R.nil ?_
  have hz:cy lg dk c=(lg,dk,iI x1):=by (exact HM ‹_› (by omega) (Bq HL hx1 ‹_›) ‹_›)
  rw [hz]
  exact R.w1 (ay,aG,az) mT [] O Tryz.results135 (RV.tmp O) O O O O
 refine R.q (q.cW O O) O<|R.nil<|R.aB O O ?_
 have g0:jH c=0:=J7 HL (by omega);have g1:=Bs (lg:=lg) ‹_› (by omega) g0;have g2:=qP g0
 refine R.fP (fuel:=9) fh O O mixed O<|D.q (i:=0) O (aD fh [0] O) O (q.ld 1 O O fC O) O<|D.q (i:=1) O (aD fh [0] O) O (q.cb O) O<|D.q (i:=2) O (aD fh [0] O) O (q.aO O jX O) O<|D.q (i:=3) O (aD fh [0] O) O (q.ld 2 O O au O) O<|D.q (i:=4) O (aD fh [0] O) O (q.ld 0 O O gw O) O<|D.q (i:=5) O (aD fh [0] O) O (q.len' (dy 0 O) O Tryz.underlying34) O<|D.q (i:=6) O (aD fh [0] O) O (q.bB (r:=lg.Next+(c.length:Int)) O O) O<|D.one (i:=7) O<|Do.s (s.alloc lW O O) (fun _=>(aD za [0] O)) O fun b4=>?_
 refine D.one (i:=8) O<|Do.s (s.st 0 _ O O O O (.inr ⟨au,rfl⟩) O O O O) (fun _=>(aD za [0] O)) O fun _=>?_
 refine D.done<|?_
 have a0:fN dk.Now.length 90000 dk/\dk.Now.length<=100000:=⟨hD.1.up (by omega),hD.2⟩;have a2:fN dk.Now.length 90000 (dw lg dk c).1:=(Bp (lg:=lg) (c:=c) hD.1).up (by omega);have n2:=a2.nl;have q2:=a2.fine (by omega) (by omega)
 have a3:fN dk.Now.length 90000 (ai (dw lg dk c).1).1:=a2.flush;have n3:(ai (dw lg dk c).1).1.Now.length=dk.Now.length:=a3.nl;have q3:fN (ai (dw lg dk c).1).1.Now.length 91000 (ai (dw lg dk c).1).1/\(ai (dw lg dk c).1).1.Now.length<=100000:=⟨n3▸a3.up (by omega),by omega⟩
 have a4:fN dk.Now.length 90001 (ap (ai (dw lg dk c).1).1 (lg.From+(lg.Next+(c.length:Int))) (dG 99 (lg.First+(lg.Next+(c.length:Int))) (bW (c.length:Int)))).1:=a3.write _ _;have n4:=a4.nl;have q4:=a4.fine (by omega) (by omega)
 refine R.fP (fuel:=15) bZ O O mixed O<|D.q (i:=0) O (aD bZ [0] O) O (q.L9 (cap:=[.pointer (some ⟨b1,0,none⟩),.pointer (some ⟨b2,0,none⟩)]) O O) O<|D.q (i:=1) O (aD bZ [0] O) O (q.ld 2 O O fC O) O<|D.q (i:=2) O (aD bZ [0] O) O (q.cb O) O<|D.q (i:=3) O (aD bZ [0] O) O (q.aO O kO O) O<|D.q (i:=4) O (aD bZ [0] O) O (q.ld 3 O O jt O) O<|D.q (i:=5) O (aD bZ [0] O) O (q.Sw (bnd:=[.pointer (some ⟨aH,0,none⟩)]) (cap:=[]) O O) O<|D.q (i:=6) O (aD bZ [0] O) O (q.L9 (cap:=[.pointer (some ⟨b1,0,none⟩),.pointer (some ⟨b4,0,none⟩),.pointer (some ⟨b2,0,none⟩)]) O O) O<|D.q (i:=7) O (aD bZ [0] O) O (q.ld 2 O O fC O) O<|D.q (i:=8) O (aD bZ [0] O) O (q.cb O) O<|D.q (i:=9) O (aD bZ [0] O) O (q.aO O kO O) O<|D.q (i:=10) O (aD bZ [0] O) O (q.ld 3 O O jt O) O<|D.q (i:=11) O (aD bZ [0] O) O (q.Sw (bnd:=[.pointer (some ⟨aH,0,none⟩)]) (cap:=[]) O O) O<|D.q (i:=14) O (aD bZ [0] O) O (q.mv O) O<|D.one (i:=12) O<|Do.s (s.bs (l:=(([(⟨.func 179,#[],#[.pointer (some ⟨b1,0,none⟩),.pointer (some ⟨b2,0,none⟩)]⟩:yI),(⟨.func 80,#[.pointer (some ⟨aH,0,none⟩)],#[]⟩:yI),(⟨.func 181,#[],#[.pointer (some ⟨b1,0,none⟩),.pointer (some ⟨b4,0,none⟩),.pointer (some ⟨b2,0,none⟩)]⟩:yI),(⟨.func 80,#[.pointer (some ⟨aH,0,none⟩)],#[]⟩:yI)]):List yI)) sW Je O O O O O O O) (fun _=>(aD Ck [0] O)) O fun b5=>?_
 refine D.one (i:=13) O<|Do.s (s.c (Qt.a (q.Hg (v:=iV ((List.length ([(⟨.func 179,#[],#[.pointer (some ⟨b1,0,none⟩),.pointer (some ⟨b2,0,none⟩)]⟩:yI),(⟨.func 80,#[.pointer (some ⟨aH,0,none⟩)],#[]⟩:yI),(⟨.func 181,#[],#[.pointer (some ⟨b1,0,none⟩),.pointer (some ⟨b4,0,none⟩),.pointer (some ⟨b2,0,none⟩)]⟩:yI),(⟨.func 80,#[.pointer (some ⟨aH,0,none⟩)],#[]⟩:yI)]):Nat):Int)) (v':=iV 4) O (q.len' (l:=([(⟨.func 179,#[],#[.pointer (some ⟨b1,0,none⟩),.pointer (some ⟨b2,0,none⟩)]⟩:yI),(⟨.func 80,#[.pointer (some ⟨aH,0,none⟩)],#[]⟩:yI),(⟨.func 181,#[],#[.pointer (some ⟨b1,0,none⟩),.pointer (some ⟨b4,0,none⟩),.pointer (some ⟨b2,0,none⟩)]⟩:yI),(⟨.func 80,#[.pointer (some ⟨aH,0,none⟩)],#[]⟩:yI)])) (bC 0 O) O Tryz.underlying238))) O) (fun _=>(aD Ck [0] O)) O fun _=>?_
 refine D.done<|R.O1 4 O<|R.reg O<|R.q (q.lss (b:=true) O O (by decide)) O<|R.nil<|R.av O O<|R.reg O<|R.q (q.idx (i:=0) (bC 0 O) O O sW O O) O<|R.q (q.MC (x:=(⟨.func 179,#[],#[.pointer (some ⟨b1,0,none⟩),.pointer (some ⟨b2,0,none⟩)]⟩:yI)) O (q.lw (bC 0 O) O O vC O)) O<|R.u 1 O<|R.nil<|R.reg O<|R.u 1 O<|R.s O (s.aW [3,2,4,5,6,7,8,0,1,9] [0] _ _ _ O O O PH O O (fun w own hw H=>Kc b1 () b2 Gu (⟨c⟩:TJ) bz lg aH ay aG az dk w own H ‹_› (by (dsimp only;omega)) ‹_› ‹_›) O) ?_
 rintro ⟨z1,z2,z3,z4⟩
 dsimp only
 refine R.u 1 O<|R.nil<|R.reg O<|R.u 1 O<|?_
 by_cases h5:(dw lg dk c).2=0
 .
  refine R.q (q.dx O O Tryz.underlying38) O<|R.nil<|R.aB O O<|R.reg O<|R.q (q.add (r:=1) O O (by decide)) O<|R.u 1 O<|R.nil<|R.again O O<|R.reg O<|R.q (q.lss (b:=true) O O (by decide)) O<|R.nil<|R.av O O<|R.reg O<|R.q (q.idx (i:=1) (bC 7 O) O O sW O O) O<|R.q (q.MC (x:=(⟨.func 80,#[.pointer (some ⟨aH,0,none⟩)],#[]⟩:yI)) O (q.lw (bC 7 O) O O vC O)) O<|R.u 1 O<|R.nil<|R.reg O<|R.u 1 O<|R.s O (s.J3 [3,4,5,6,0,1,2,7,8,9] [] _ _ _ O O O zo O O (fun w own hw H=>kS aH z2 z3 z4 (dw lg dk c).1 w own H ‹_›) O) ?_
  rintro ⟨z5,z6,z7⟩
  dsimp only
  refine R.u 1 O<|R.nil<|R.reg O<|R.u 1 O<|?_
  by_cases h6:(ai (dw lg dk c).1).2=0
  .
   refine R.q (q.dx O O Tryz.underlying38) O<|R.nil<|R.aB O O<|R.reg O<|R.q (q.add (r:=2) O O (by decide)) O<|R.u 1 O<|R.nil<|R.again O O<|R.reg O<|R.q (q.lss (b:=true) O O (by decide)) O<|R.nil<|R.av O O<|R.reg O<|R.q (q.idx (i:=2) (bC 7 O) O O sW O O) O<|R.q (q.MC (x:=(⟨.func 181,#[],#[.pointer (some ⟨b1,0,none⟩),.pointer (some ⟨b4,0,none⟩),.pointer (some ⟨b2,0,none⟩)]⟩:yI)) O (q.lw (bC 7 O) O O vC O)) O<|R.u 1 O<|R.nil<|R.reg O<|R.u 1 O<|R.s O (s.aW [4,8,5,6,0,1,2,3,7,9] [0] _ _ _ O O O PL O O (fun w own hw H=>Kd b1 () b4 (⟨(lg.Next+(c.length:Int))⟩:Sx) b2 z1 (⟨c⟩:TJ) bz lg aH z5 z6 z7 (ai (dw lg dk c).1).1 w own H ‹_› (by (dsimp only;omega)) (by (dsimp only;omega)) ‹_›) O) ?_
   rintro ⟨z8,z9,kY,lZ⟩
   dsimp only
   refine R.u 1 O<|R.nil<|R.reg O<|R.u 1 O<|?_
   by_cases h7:(ap (ai (dw lg dk c).1).1 (lg.From+(lg.Next+(c.length:Int))) (dG 99 (lg.First+(lg.Next+(c.length:Int))) (bW (c.length:Int)))).2=0
   .
    refine R.q (q.dx O O Tryz.underlying38) O<|R.nil<|R.aB O O<|R.reg O<|R.q (q.add (r:=3) O O (by decide)) O<|R.u 1 O<|R.nil<|R.again O O<|R.reg O<|R.q (q.lss (b:=true) O O (by decide)) O<|R.nil<|R.av O O<|R.reg O<|R.q (q.idx (i:=3) (bC 8 O) O O sW O O) O<|R.q (q.MC (x:=(⟨.func 80,#[.pointer (some ⟨aH,0,none⟩)],#[]⟩:yI)) O (q.lw (bC 8 O) O O vC O)) O<|R.u 1 O<|R.nil<|R.reg O<|R.u 1 O<|R.s O (s.J3 [4,5,6,7,0,1,2,3,8,9] [] _ _ _ O O O zo O O (fun w own hw H=>kS aH z9 kY lZ (ap (ai (dw lg dk c).1).1 (lg.From+(lg.Next+(c.length:Int))) (dG 99 (lg.First+(lg.Next+(c.length:Int))) (bW (c.length:Int)))).1 w own H ‹_›) O) ?_
    rintro ⟨z12,pI,yE⟩
    dsimp only
    refine R.u 1 O<|R.nil<|R.reg O<|R.u 1 O<|?_
    by_cases h8:(ai (ap (ai (dw lg dk c).1).1 (lg.From+(lg.Next+(c.length:Int))) (dG 99 (lg.First+(lg.Next+(c.length:Int))) (bW (c.length:Int)))).1).2=0
    .
     refine R.q (q.dx O O Tryz.underlying38) O<|R.nil<|R.aB O O<|R.reg O<|R.q (q.add (r:=4) O O (by decide)) O<|R.u 1 O<|R.nil<|R.again O O<|R.reg O<|R.q (q.lss (b:=false) O O (by decide)) O<|R.nil<|R.aB O O<|R.reg O<|R.q (q.ld 4 O O fC O) O<|R.q (q.ld 5 O O au O) O<|R.q (q.bB (r:=(lg.Next+(c.length:Int))+1) O O) O<|R.q (q.cb O) O<|R.q (q.aO O jX O) O<|R.s O (s.st 7 _ O O O O (.inr ⟨au,rfl⟩) O O O O) fun _=>?_
     refine R.nil<|R.reg O<|R.u 1 O<|R.nil ?_
     have hz:cy lg dk c=((⟨lg.From,lg.Many,lg.First,((lg.Next+(c.length:Int))+1)⟩:Lg),(ai (ap (ai (dw lg dk c).1).1 (lg.From+(lg.Next+(c.length:Int))) (dG 99 (lg.First+(lg.Next+(c.length:Int))) (bW (c.length:Int)))).1).1,0):=by (exact ES g1 ‹_› ‹_› ‹_› ‹_›)
     rw [hz]
     exact R.w1 (z12,pI,yE) [7,0,1,2,3,9] [] O Tryz.results135 (RV.tmp O) O O O (iK O)
    refine R.q (q.d9 O O Tryz.underlying38) O<|R.nil<|R.av O O<|R.reg O<|R.u 2 O<|R.nil ?_
    have hz:cy lg dk c=(lg,(ai (ap (ai (dw lg dk c).1).1 (lg.From+(lg.Next+(c.length:Int))) (dG 99 (lg.First+(lg.Next+(c.length:Int))) (bW (c.length:Int)))).1).1,(ai (ap (ai (dw lg dk c).1).1 (lg.From+(lg.Next+(c.length:Int))) (dG 99 (lg.First+(lg.Next+(c.length:Int))) (bW (c.length:Int)))).1).2):=by (exact Om g1 ‹_› ‹_› ‹_› ‹_›)
    rw [hz]
    exact R.w1 (z12,pI,yE) [7,0,1,2,3,9] [] O Tryz.results135 (RV.tmp O) O O O O
   refine R.q (q.d9 O O Tryz.underlying38) O<|R.nil<|R.av O O<|R.reg O<|R.u 2 O<|R.nil ?_
   have hz:cy lg dk c=(lg,(ap (ai (dw lg dk c).1).1 (lg.From+(lg.Next+(c.length:Int))) (dG 99 (lg.First+(lg.Next+(c.length:Int))) (bW (c.length:Int)))).1,(ap (ai (dw lg dk c).1).1 (lg.From+(lg.Next+(c.length:Int))) (dG 99 (lg.First+(lg.Next+(c.length:Int))) (bW (c.length:Int)))).2):=by (exact Ol g1 ‹_› ‹_› ‹_›)
   rw [hz]
   exact R.w1 (z9,kY,lZ) [3,4,5,6,7,9] [] O Tryz.results135 (RV.tmp O) O O O O
  refine R.q (q.d9 O O Tryz.underlying38) O<|R.nil<|R.av O O<|R.reg O<|R.u 2 O<|R.nil ?_
  have hz:cy lg dk c=(lg,(ai (dw lg dk c).1).1,(ai (dw lg dk c).1).2):=by (exact Oj g1 ‹_› ‹_›)
  rw [hz]
  exact R.w1 (z5,z6,z7) [6,0,1,2,3,9] [] O Tryz.results135 (RV.tmp O) O O O O
 refine R.q (q.d9 O O Tryz.underlying38) O<|R.nil<|R.av O O<|R.reg O<|R.u 2 O<|R.nil ?_
 have hz:cy lg dk c=(lg,(dw lg dk c).1,(dw lg dk c).2):=by (exact Oi g1 ‹_›)
 rw [hz]
 exact R.w1 (z2,z3,z4) [2,3,4,5,6,9] [] O Tryz.results135 (RV.tmp O) O O O O
end Go.Proofs.YtkbhcbipadkcaaaGreatDoor
