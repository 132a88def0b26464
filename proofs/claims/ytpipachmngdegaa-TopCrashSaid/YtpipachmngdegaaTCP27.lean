import Derived.Test.YtpipachmngdegaaTCP19
import Derived.Test.YtpipachmngdegaaTCP23
import Derived.Test.YtpipachmngdegaaTCP26
section
namespace Go.Proofs.Ytpipachmngdegaa
open Go Go.RowKit
set_option linter.unusedVariables false
set_option linter.unusedSimpArgs false
set_option maxRecDepth 100000
theorem bN (n:Int)(w:World)(hn:0≤n∧n≤9000000000000000000):Calls Try.prog 44 #[.int .i64 n] w fun e w'=>e = .returned (.string (aM n))∧Ext w w':=by
  refine R.enter (n:=16) (vs:=[.int .i64 n]) [] [(0,.int .i64 n)] Try.func44 rfl rfl rfl rfl ?_
  refine R.reg rfl<|R.u 1 rfl<|R.nil ?_
  refine R.reg rfl<|R.u 1 rfl<|R.q (q.iu rfl (by rw [Try.underlying3];rfl) Try.underlying5 i4) rfl<|R.u 1 rfl<|R.q (q.shr (r:=n / 256) rfl rfl (by decide) (rx (D:=256) (by decide) (by decide))) rfl<|R.q (q.iu rfl (by rw [Try.underlying3];rfl) Try.underlying5 i4) rfl<|R.u 1 rfl<|R.q (q.shr (r:=n / 65536) rfl rfl (by decide) (rx (D:=65536) (by decide) (by decide))) rfl<|R.q (q.iu rfl (by rw [Try.underlying3];rfl) Try.underlying5 i4) rfl<|R.u 1 rfl<|R.q (q.shr (r:=n / 16777216) rfl rfl (by decide) (rx (D:=16777216) (by decide) (by decide))) rfl<|R.q (q.iu rfl (by rw [Try.underlying3];rfl) Try.underlying5 i4) rfl<|?_
  refine R.s rfl (s.bs (l:=([(u8 (n % 256)),(u8 ((n / 256) % 256)),(u8 ((n / 65536) % 256)),(u8 ((n / 16777216) % 256))]:List UInt8)) aJ cd rfl rfl rfl rfl rfl (bn (c8 (by omega)) (bn (c8 (by omega)) (bn (c8 (by omega)) (bn (c8 (by omega)) cS)))) rfl) fun b1=>?_
  refine R.q (q.eM (fun _=>Wd.row 0 rfl) rfl aJ Try.underlying5 Try.underlying9) rfl<|R.u 1 rfl<|R.nil ?_
  exact R.rv rfl Try.results44 rfl (rS (by (rfl)))
theorem o5 (k:Int)(n:Int)(sx:ByteArray)(w:World)(hk:0≤k∧k≤255)(hn:0≤n∧n≤9000000000000000000)(hs:sx.size≤41):Calls Try.prog 53 #[.int .u8 k,.int .i64 n,.string sx] w fun e w'=>e = .returned (.string (a8 k n sx))∧Ext w w':=by
  refine R.enter (n:=25) (vs:=[.int .u8 k,.int .i64 n,.string sx]) [] [(0,.int .u8 k),(1,.int .i64 n),(2,.string sx)] Try.func53 rfl rfl rfl rfl ?_
  refine R.reg rfl<|R.u 1 rfl<|R.nil ?_
  refine R.eT (fuel:=19) (Wd w [] [] []) rfl mixed rfl ?_
  refine D.q (i:=0) rfl (by kernel_rfl) (fun _=>Wd.aA [] [] rfl rfl rfl) rfl (q.mv rfl) rfl<|D.q (i:=3) rfl (by kernel_rfl) (fun _=>Wd.aA [] [] rfl rfl rfl) rfl (q.mv rfl) rfl<|D.q (i:=6) rfl (by kernel_rfl) (fun _=>Wd.aA [] [] rfl rfl rfl) rfl (q.mv rfl) rfl<|D.q (i:=7) rfl (by kernel_rfl) (fun _=>Wd.aA [] [] rfl rfl rfl) rfl (q.fN rfl Try.underlying9) rfl<|D.q (i:=8) rfl (by kernel_rfl) (fun _=>Wd.aA [] [] rfl rfl rfl) rfl (q.iu (r:=((sx.size:Nat):Int)) rfl (by rw [Try.underlying3];rfl) Try.underlying5 (lA (by omega))) rfl<|D.q (i:=9) rfl (by kernel_rfl) (fun _=>Wd.aA [] [] rfl rfl rfl) rfl (q.mv rfl) rfl<|D.q (i:=10) rfl (by kernel_rfl) (fun _=>Wd.aA [] [] rfl rfl rfl) rfl (q.fN rfl Try.underlying9) rfl<|D.q (i:=11) rfl (by kernel_rfl) (fun _=>Wd.aA [] [] rfl rfl rfl) rfl (q.shr (r:=(((sx.size / 256):Nat):Int)) rfl rfl (by decide) (vR (by decide))) rfl<|D.q (i:=12) rfl (by kernel_rfl) (fun _=>Wd.aA [] [] rfl rfl rfl) rfl (q.iu (r:=(((sx.size / 256):Nat):Int)) rfl (by rw [Try.underlying3];rfl) Try.underlying5 (lA (by omega))) rfl<|D.q (i:=16) rfl (by kernel_rfl) (fun _=>Wd.aA [] [] rfl rfl rfl) rfl (q.mv rfl) rfl<|?_
  refine D.three (i:=1) (j:=4) (m:=13) (by kernel_rfl) rfl rfl rfl ?_ ?_ ?_
  ·
    refine Do.s (s.bs (l:=([(u8 k)]:List UInt8)) aJ cd rfl rfl rfl rfl rfl (bn (c8 (by omega)) cS) rfl) (fun _=>(fun _=>Wd.aA [] [] rfl rfl rfl)) rfl fun b1=>?_
    refine D.three (i:=2) (j:=4) (m:=13) (by kernel_rfl) rfl rfl rfl ?_ ?_ ?_
    ·
      refine Do.s (s.c (Qt.a (q.eM (fun _=>Wd.row 0 rfl) rfl aJ Try.underlying5 Try.underlying9)) rfl) (fun _=>(fun _=>Wd.aA [] [] rfl rfl rfl)) rfl fun _=>?_
      refine D.two (i:=4) (j:=13) (by kernel_rfl) rfl rfl ?_ ?_
      ·
        refine Do.s (s.c (q.call dB rfl rfl (fun w hw=>(bN (n) w  (by omega)))) rfl) (fun _=>(fun _=>Wd.aA [] [] rfl rfl rfl)) rfl fun _=>?_
        refine D.q (i:=5) rfl (by kernel_rfl) (fun _=>Wd.aA [] [] rfl rfl rfl) rfl (q.cat rfl rfl (by first|omega|(simp only [ByteArray.size_append,aD,az,List.length_cons,List.length_nil];omega))) rfl<|?_
        refine D.one (i:=13) (by kernel_rfl) rfl ?_
        refine Do.s (s.bs (l:=([(UInt8.ofNat sx.size),(UInt8.ofNat (sx.size / 256))]:List UInt8)) aJ cd rfl rfl rfl rfl rfl (bn (bU (by omega)) (bn (bU (by omega)) cS)) rfl) (fun _=>(fun _=>Wd.aA [] [] rfl rfl rfl)) rfl fun b2=>?_
        refine D.one (i:=14) (by kernel_rfl) rfl ?_
        refine Do.s (s.c (Qt.a (q.eM (fun _=>Wd.row 0 rfl) rfl aJ Try.underlying5 Try.underlying9)) rfl) (fun _=>(fun _=>Wd.aA [] [] rfl rfl rfl)) rfl fun _=>?_
        refine D.q (i:=15) rfl (by kernel_rfl) (fun _=>Wd.aA [] [] rfl rfl rfl) rfl (q.cat rfl rfl (by first|omega|(simp only [ByteArray.size_append,aD,az,List.length_cons,List.length_nil];omega))) rfl<|D.q (i:=17) rfl (by kernel_rfl) (fun _=>Wd.aA [] [] rfl rfl rfl) rfl (q.cat rfl rfl (by first|omega|(simp only [ByteArray.size_append,aD,az,List.length_cons,List.length_nil];omega))) rfl<|D.q (i:=18) rfl (by kernel_rfl) (fun _=>Wd.aA [] [] rfl rfl rfl) rfl (q.as rfl) rfl<|D.done (by kernel_rfl)<|?_
        exact R.rv rfl Try.results53 rfl (rS (by (rfl)))
      ·
        refine Do.s (s.bs (l:=([(UInt8.ofNat sx.size),(UInt8.ofNat (sx.size / 256))]:List UInt8)) aJ cd rfl rfl rfl rfl rfl (bn (bU (by omega)) (bn (bU (by omega)) cS)) rfl) (fun _=>(fun _=>Wd.aA [] [] rfl rfl rfl)) rfl fun b3=>?_
        refine D.two (i:=4) (j:=14) (by kernel_rfl) rfl rfl ?_ ?_
        ·
          refine Do.s (s.c (q.call dB rfl rfl (fun w hw=>(bN (n) w  (by omega)))) rfl) (fun _=>(fun _=>Wd.aA [] [] rfl rfl rfl)) rfl fun _=>?_
          refine D.q (i:=5) rfl (by kernel_rfl) (fun _=>Wd.aA [] [] rfl rfl rfl) rfl (q.cat rfl rfl (by first|omega|(simp only [ByteArray.size_append,aD,az,List.length_cons,List.length_nil];omega))) rfl<|?_
          refine D.one (i:=14) (by kernel_rfl) rfl ?_
          refine Do.s (s.c (Qt.a (q.eM (fun _=>Wd.row 0 rfl) rfl aJ Try.underlying5 Try.underlying9)) rfl) (fun _=>(fun _=>Wd.aA [] [] rfl rfl rfl)) rfl fun _=>?_
          refine D.q (i:=15) rfl (by kernel_rfl) (fun _=>Wd.aA [] [] rfl rfl rfl) rfl (q.cat rfl rfl (by first|omega|(simp only [ByteArray.size_append,aD,az,List.length_cons,List.length_nil];omega))) rfl<|D.q (i:=17) rfl (by kernel_rfl) (fun _=>Wd.aA [] [] rfl rfl rfl) rfl (q.cat rfl rfl (by first|omega|(simp only [ByteArray.size_append,aD,az,List.length_cons,List.length_nil];omega))) rfl<|D.q (i:=18) rfl (by kernel_rfl) (fun _=>Wd.aA [] [] rfl rfl rfl) rfl (q.as rfl) rfl<|D.done (by kernel_rfl)<|?_
          exact R.rv rfl Try.results53 rfl (rS (by (rfl)))
        ·
          refine Do.s (s.c (Qt.a (q.eM (fun _=>Wd.row 0 rfl) rfl aJ Try.underlying5 Try.underlying9)) rfl) (fun _=>(fun _=>Wd.aA [] [] rfl rfl rfl)) rfl fun _=>?_
          refine D.one (i:=4) (by kernel_rfl) rfl ?_
          refine Do.s (s.c (q.call dB rfl rfl (fun w hw=>(bN (n) w  (by omega)))) rfl) (fun _=>(fun _=>Wd.aA [] [] rfl rfl rfl)) rfl fun _=>?_
          refine D.q (i:=5) rfl (by kernel_rfl) (fun _=>Wd.aA [] [] rfl rfl rfl) rfl (q.cat rfl rfl (by first|omega|(simp only [ByteArray.size_append,aD,az,List.length_cons,List.length_nil];omega))) rfl<|D.q (i:=15) rfl (by kernel_rfl) (fun _=>Wd.aA [] [] rfl rfl rfl) rfl (q.cat rfl rfl (by first|omega|(simp only [ByteArray.size_append,aD,az,List.length_cons,List.length_nil];omega))) rfl<|D.q (i:=17) rfl (by kernel_rfl) (fun _=>Wd.aA [] [] rfl rfl rfl) rfl (q.cat rfl rfl (by first|omega|(simp only [ByteArray.size_append,aD,az,List.length_cons,List.length_nil];omega))) rfl<|D.q (i:=18) rfl (by kernel_rfl) (fun _=>Wd.aA [] [] rfl rfl rfl) rfl (q.as rfl) rfl<|D.done (by kernel_rfl)<|?_
          exact R.rv rfl Try.results53 rfl (rS (by (rfl)))
    ·
      refine Do.s (s.c (q.call dB rfl rfl (fun w hw=>(bN (n) w  (by omega)))) rfl) (fun _=>(fun _=>Wd.aA [] [] rfl rfl rfl)) rfl fun _=>?_
      refine D.two (i:=2) (j:=13) (by kernel_rfl) rfl rfl ?_ ?_
      ·
        refine Do.s (s.c (Qt.a (q.eM (fun _=>Wd.row 0 rfl) rfl aJ Try.underlying5 Try.underlying9)) rfl) (fun _=>(fun _=>Wd.aA [] [] rfl rfl rfl)) rfl fun _=>?_
        refine D.q (i:=5) rfl (by kernel_rfl) (fun _=>Wd.aA [] [] rfl rfl rfl) rfl (q.cat rfl rfl (by first|omega|(simp only [ByteArray.size_append,aD,az,List.length_cons,List.length_nil];omega))) rfl<|?_
        refine D.one (i:=13) (by kernel_rfl) rfl ?_
        refine Do.s (s.bs (l:=([(UInt8.ofNat sx.size),(UInt8.ofNat (sx.size / 256))]:List UInt8)) aJ cd rfl rfl rfl rfl rfl (bn (bU (by omega)) (bn (bU (by omega)) cS)) rfl) (fun _=>(fun _=>Wd.aA [] [] rfl rfl rfl)) rfl fun b4=>?_
        refine D.one (i:=14) (by kernel_rfl) rfl ?_
        refine Do.s (s.c (Qt.a (q.eM (fun _=>Wd.row 0 rfl) rfl aJ Try.underlying5 Try.underlying9)) rfl) (fun _=>(fun _=>Wd.aA [] [] rfl rfl rfl)) rfl fun _=>?_
        refine D.q (i:=15) rfl (by kernel_rfl) (fun _=>Wd.aA [] [] rfl rfl rfl) rfl (q.cat rfl rfl (by first|omega|(simp only [ByteArray.size_append,aD,az,List.length_cons,List.length_nil];omega))) rfl<|D.q (i:=17) rfl (by kernel_rfl) (fun _=>Wd.aA [] [] rfl rfl rfl) rfl (q.cat rfl rfl (by first|omega|(simp only [ByteArray.size_append,aD,az,List.length_cons,List.length_nil];omega))) rfl<|D.q (i:=18) rfl (by kernel_rfl) (fun _=>Wd.aA [] [] rfl rfl rfl) rfl (q.as rfl) rfl<|D.done (by kernel_rfl)<|?_
        exact R.rv rfl Try.results53 rfl (rS (by (rfl)))
      ·
        refine Do.s (s.bs (l:=([(UInt8.ofNat sx.size),(UInt8.ofNat (sx.size / 256))]:List UInt8)) aJ cd rfl rfl rfl rfl rfl (bn (bU (by omega)) (bn (bU (by omega)) cS)) rfl) (fun _=>(fun _=>Wd.aA [] [] rfl rfl rfl)) rfl fun b5=>?_
        refine D.two (i:=2) (j:=14) (by kernel_rfl) rfl rfl ?_ ?_
        ·
          refine Do.s (s.c (Qt.a (q.eM (fun _=>Wd.row 1 rfl) rfl aJ Try.underlying5 Try.underlying9)) rfl) (fun _=>(fun _=>Wd.aA [] [] rfl rfl rfl)) rfl fun _=>?_
          refine D.q (i:=5) rfl (by kernel_rfl) (fun _=>Wd.aA [] [] rfl rfl rfl) rfl (q.cat rfl rfl (by first|omega|(simp only [ByteArray.size_append,aD,az,List.length_cons,List.length_nil];omega))) rfl<|?_
          refine D.one (i:=14) (by kernel_rfl) rfl ?_
          refine Do.s (s.c (Qt.a (q.eM (fun _=>Wd.row 0 rfl) rfl aJ Try.underlying5 Try.underlying9)) rfl) (fun _=>(fun _=>Wd.aA [] [] rfl rfl rfl)) rfl fun _=>?_
          refine D.q (i:=15) rfl (by kernel_rfl) (fun _=>Wd.aA [] [] rfl rfl rfl) rfl (q.cat rfl rfl (by first|omega|(simp only [ByteArray.size_append,aD,az,List.length_cons,List.length_nil];omega))) rfl<|D.q (i:=17) rfl (by kernel_rfl) (fun _=>Wd.aA [] [] rfl rfl rfl) rfl (q.cat rfl rfl (by first|omega|(simp only [ByteArray.size_append,aD,az,List.length_cons,List.length_nil];omega))) rfl<|D.q (i:=18) rfl (by kernel_rfl) (fun _=>Wd.aA [] [] rfl rfl rfl) rfl (q.as rfl) rfl<|D.done (by kernel_rfl)<|?_
          exact R.rv rfl Try.results53 rfl (rS (by (rfl)))
        ·
          refine Do.s (s.c (Qt.a (q.eM (fun _=>Wd.row 0 rfl) rfl aJ Try.underlying5 Try.underlying9)) rfl) (fun _=>(fun _=>Wd.aA [] [] rfl rfl rfl)) rfl fun _=>?_
          refine D.one (i:=2) (by kernel_rfl) rfl ?_
          refine Do.s (s.c (Qt.a (q.eM (fun _=>Wd.row 1 rfl) rfl aJ Try.underlying5 Try.underlying9)) rfl) (fun _=>(fun _=>Wd.aA [] [] rfl rfl rfl)) rfl fun _=>?_
          refine D.q (i:=5) rfl (by kernel_rfl) (fun _=>Wd.aA [] [] rfl rfl rfl) rfl (q.cat rfl rfl (by first|omega|(simp only [ByteArray.size_append,aD,az,List.length_cons,List.length_nil];omega))) rfl<|D.q (i:=15) rfl (by kernel_rfl) (fun _=>Wd.aA [] [] rfl rfl rfl) rfl (q.cat rfl rfl (by first|omega|(simp only [ByteArray.size_append,aD,az,List.length_cons,List.length_nil];omega))) rfl<|D.q (i:=17) rfl (by kernel_rfl) (fun _=>Wd.aA [] [] rfl rfl rfl) rfl (q.cat rfl rfl (by first|omega|(simp only [ByteArray.size_append,aD,az,List.length_cons,List.length_nil];omega))) rfl<|D.q (i:=18) rfl (by kernel_rfl) (fun _=>Wd.aA [] [] rfl rfl rfl) rfl (q.as rfl) rfl<|D.done (by kernel_rfl)<|?_
          exact R.rv rfl Try.results53 rfl (rS (by (rfl)))
    ·
      refine Do.s (s.bs (l:=([(UInt8.ofNat sx.size),(UInt8.ofNat (sx.size / 256))]:List UInt8)) aJ cd rfl rfl rfl rfl rfl (bn (bU (by omega)) (bn (bU (by omega)) cS)) rfl) (fun _=>(fun _=>Wd.aA [] [] rfl rfl rfl)) rfl fun b6=>?_
      refine D.three (i:=2) (j:=4) (m:=14) (by kernel_rfl) rfl rfl rfl ?_ ?_ ?_
      ·
        refine Do.s (s.c (Qt.a (q.eM (fun _=>Wd.row 1 rfl) rfl aJ Try.underlying5 Try.underlying9)) rfl) (fun _=>(fun _=>Wd.aA [] [] rfl rfl rfl)) rfl fun _=>?_
        refine D.two (i:=4) (j:=14) (by kernel_rfl) rfl rfl ?_ ?_
        ·
          refine Do.s (s.c (q.call dB rfl rfl (fun w hw=>(bN (n) w  (by omega)))) rfl) (fun _=>(fun _=>Wd.aA [] [] rfl rfl rfl)) rfl fun _=>?_
          refine D.q (i:=5) rfl (by kernel_rfl) (fun _=>Wd.aA [] [] rfl rfl rfl) rfl (q.cat rfl rfl (by first|omega|(simp only [ByteArray.size_append,aD,az,List.length_cons,List.length_nil];omega))) rfl<|?_
          refine D.one (i:=14) (by kernel_rfl) rfl ?_
          refine Do.s (s.c (Qt.a (q.eM (fun _=>Wd.row 0 rfl) rfl aJ Try.underlying5 Try.underlying9)) rfl) (fun _=>(fun _=>Wd.aA [] [] rfl rfl rfl)) rfl fun _=>?_
          refine D.q (i:=15) rfl (by kernel_rfl) (fun _=>Wd.aA [] [] rfl rfl rfl) rfl (q.cat rfl rfl (by first|omega|(simp only [ByteArray.size_append,aD,az,List.length_cons,List.length_nil];omega))) rfl<|D.q (i:=17) rfl (by kernel_rfl) (fun _=>Wd.aA [] [] rfl rfl rfl) rfl (q.cat rfl rfl (by first|omega|(simp only [ByteArray.size_append,aD,az,List.length_cons,List.length_nil];omega))) rfl<|D.q (i:=18) rfl (by kernel_rfl) (fun _=>Wd.aA [] [] rfl rfl rfl) rfl (q.as rfl) rfl<|D.done (by kernel_rfl)<|?_
          exact R.rv rfl Try.results53 rfl (rS (by (rfl)))
        ·
          refine Do.s (s.c (Qt.a (q.eM (fun _=>Wd.row 0 rfl) rfl aJ Try.underlying5 Try.underlying9)) rfl) (fun _=>(fun _=>Wd.aA [] [] rfl rfl rfl)) rfl fun _=>?_
          refine D.one (i:=4) (by kernel_rfl) rfl ?_
          refine Do.s (s.c (q.call dB rfl rfl (fun w hw=>(bN (n) w  (by omega)))) rfl) (fun _=>(fun _=>Wd.aA [] [] rfl rfl rfl)) rfl fun _=>?_
          refine D.q (i:=5) rfl (by kernel_rfl) (fun _=>Wd.aA [] [] rfl rfl rfl) rfl (q.cat rfl rfl (by first|omega|(simp only [ByteArray.size_append,aD,az,List.length_cons,List.length_nil];omega))) rfl<|D.q (i:=15) rfl (by kernel_rfl) (fun _=>Wd.aA [] [] rfl rfl rfl) rfl (q.cat rfl rfl (by first|omega|(simp only [ByteArray.size_append,aD,az,List.length_cons,List.length_nil];omega))) rfl<|D.q (i:=17) rfl (by kernel_rfl) (fun _=>Wd.aA [] [] rfl rfl rfl) rfl (q.cat rfl rfl (by first|omega|(simp only [ByteArray.size_append,aD,az,List.length_cons,List.length_nil];omega))) rfl<|D.q (i:=18) rfl (by kernel_rfl) (fun _=>Wd.aA [] [] rfl rfl rfl) rfl (q.as rfl) rfl<|D.done (by kernel_rfl)<|?_
          exact R.rv rfl Try.results53 rfl (rS (by (rfl)))
      ·
        refine Do.s (s.c (q.call dB rfl rfl (fun w hw=>(bN (n) w  (by omega)))) rfl) (fun _=>(fun _=>Wd.aA [] [] rfl rfl rfl)) rfl fun _=>?_
        refine D.two (i:=2) (j:=14) (by kernel_rfl) rfl rfl ?_ ?_
        ·
          refine Do.s (s.c (Qt.a (q.eM (fun _=>Wd.row 1 rfl) rfl aJ Try.underlying5 Try.underlying9)) rfl) (fun _=>(fun _=>Wd.aA [] [] rfl rfl rfl)) rfl fun _=>?_
          refine D.q (i:=5) rfl (by kernel_rfl) (fun _=>Wd.aA [] [] rfl rfl rfl) rfl (q.cat rfl rfl (by first|omega|(simp only [ByteArray.size_append,aD,az,List.length_cons,List.length_nil];omega))) rfl<|?_
          refine D.one (i:=14) (by kernel_rfl) rfl ?_
          refine Do.s (s.c (Qt.a (q.eM (fun _=>Wd.row 0 rfl) rfl aJ Try.underlying5 Try.underlying9)) rfl) (fun _=>(fun _=>Wd.aA [] [] rfl rfl rfl)) rfl fun _=>?_
          refine D.q (i:=15) rfl (by kernel_rfl) (fun _=>Wd.aA [] [] rfl rfl rfl) rfl (q.cat rfl rfl (by first|omega|(simp only [ByteArray.size_append,aD,az,List.length_cons,List.length_nil];omega))) rfl<|D.q (i:=17) rfl (by kernel_rfl) (fun _=>Wd.aA [] [] rfl rfl rfl) rfl (q.cat rfl rfl (by first|omega|(simp only [ByteArray.size_append,aD,az,List.length_cons,List.length_nil];omega))) rfl<|D.q (i:=18) rfl (by kernel_rfl) (fun _=>Wd.aA [] [] rfl rfl rfl) rfl (q.as rfl) rfl<|D.done (by kernel_rfl)<|?_
          exact R.rv rfl Try.results53 rfl (rS (by (rfl)))
        ·
          refine Do.s (s.c (Qt.a (q.eM (fun _=>Wd.row 0 rfl) rfl aJ Try.underlying5 Try.underlying9)) rfl) (fun _=>(fun _=>Wd.aA [] [] rfl rfl rfl)) rfl fun _=>?_
          refine D.one (i:=2) (by kernel_rfl) rfl ?_
          refine Do.s (s.c (Qt.a (q.eM (fun _=>Wd.row 1 rfl) rfl aJ Try.underlying5 Try.underlying9)) rfl) (fun _=>(fun _=>Wd.aA [] [] rfl rfl rfl)) rfl fun _=>?_
          refine D.q (i:=5) rfl (by kernel_rfl) (fun _=>Wd.aA [] [] rfl rfl rfl) rfl (q.cat rfl rfl (by first|omega|(simp only [ByteArray.size_append,aD,az,List.length_cons,List.length_nil];omega))) rfl<|D.q (i:=15) rfl (by kernel_rfl) (fun _=>Wd.aA [] [] rfl rfl rfl) rfl (q.cat rfl rfl (by first|omega|(simp only [ByteArray.size_append,aD,az,List.length_cons,List.length_nil];omega))) rfl<|D.q (i:=17) rfl (by kernel_rfl) (fun _=>Wd.aA [] [] rfl rfl rfl) rfl (q.cat rfl rfl (by first|omega|(simp only [ByteArray.size_append,aD,az,List.length_cons,List.length_nil];omega))) rfl<|D.q (i:=18) rfl (by kernel_rfl) (fun _=>Wd.aA [] [] rfl rfl rfl) rfl (q.as rfl) rfl<|D.done (by kernel_rfl)<|?_
          exact R.rv rfl Try.results53 rfl (rS (by (rfl)))
      ·
        refine Do.s (s.c (Qt.a (q.eM (fun _=>Wd.row 0 rfl) rfl aJ Try.underlying5 Try.underlying9)) rfl) (fun _=>(fun _=>Wd.aA [] [] rfl rfl rfl)) rfl fun _=>?_
        refine D.two (i:=2) (j:=4) (by kernel_rfl) rfl rfl ?_ ?_
        ·
          refine Do.s (s.c (Qt.a (q.eM (fun _=>Wd.row 1 rfl) rfl aJ Try.underlying5 Try.underlying9)) rfl) (fun _=>(fun _=>Wd.aA [] [] rfl rfl rfl)) rfl fun _=>?_
          refine D.one (i:=4) (by kernel_rfl) rfl ?_
          refine Do.s (s.c (q.call dB rfl rfl (fun w hw=>(bN (n) w  (by omega)))) rfl) (fun _=>(fun _=>Wd.aA [] [] rfl rfl rfl)) rfl fun _=>?_
          refine D.q (i:=5) rfl (by kernel_rfl) (fun _=>Wd.aA [] [] rfl rfl rfl) rfl (q.cat rfl rfl (by first|omega|(simp only [ByteArray.size_append,aD,az,List.length_cons,List.length_nil];omega))) rfl<|D.q (i:=15) rfl (by kernel_rfl) (fun _=>Wd.aA [] [] rfl rfl rfl) rfl (q.cat rfl rfl (by first|omega|(simp only [ByteArray.size_append,aD,az,List.length_cons,List.length_nil];omega))) rfl<|D.q (i:=17) rfl (by kernel_rfl) (fun _=>Wd.aA [] [] rfl rfl rfl) rfl (q.cat rfl rfl (by first|omega|(simp only [ByteArray.size_append,aD,az,List.length_cons,List.length_nil];omega))) rfl<|D.q (i:=18) rfl (by kernel_rfl) (fun _=>Wd.aA [] [] rfl rfl rfl) rfl (q.as rfl) rfl<|D.done (by kernel_rfl)<|?_
          exact R.rv rfl Try.results53 rfl (rS (by (rfl)))
        ·
          refine Do.s (s.c (q.call dB rfl rfl (fun w hw=>(bN (n) w  (by omega)))) rfl) (fun _=>(fun _=>Wd.aA [] [] rfl rfl rfl)) rfl fun _=>?_
          refine D.one (i:=2) (by kernel_rfl) rfl ?_
          refine Do.s (s.c (Qt.a (q.eM (fun _=>Wd.row 1 rfl) rfl aJ Try.underlying5 Try.underlying9)) rfl) (fun _=>(fun _=>Wd.aA [] [] rfl rfl rfl)) rfl fun _=>?_
          refine D.q (i:=5) rfl (by kernel_rfl) (fun _=>Wd.aA [] [] rfl rfl rfl) rfl (q.cat rfl rfl (by first|omega|(simp only [ByteArray.size_append,aD,az,List.length_cons,List.length_nil];omega))) rfl<|D.q (i:=15) rfl (by kernel_rfl) (fun _=>Wd.aA [] [] rfl rfl rfl) rfl (q.cat rfl rfl (by first|omega|(simp only [ByteArray.size_append,aD,az,List.length_cons,List.length_nil];omega))) rfl<|D.q (i:=17) rfl (by kernel_rfl) (fun _=>Wd.aA [] [] rfl rfl rfl) rfl (q.cat rfl rfl (by first|omega|(simp only [ByteArray.size_append,aD,az,List.length_cons,List.length_nil];omega))) rfl<|D.q (i:=18) rfl (by kernel_rfl) (fun _=>Wd.aA [] [] rfl rfl rfl) rfl (q.as rfl) rfl<|D.done (by kernel_rfl)<|?_
          exact R.rv rfl Try.results53 rfl (rS (by (rfl)))
  ·
    refine Do.s (s.c (q.call dB rfl rfl (fun w hw=>(bN (n) w  (by omega)))) rfl) (fun _=>(fun _=>Wd.aA [] [] rfl rfl rfl)) rfl fun _=>?_
    refine D.two (i:=1) (j:=13) (by kernel_rfl) rfl rfl ?_ ?_
    ·
      refine Do.s (s.bs (l:=([(u8 k)]:List UInt8)) aJ cd rfl rfl rfl rfl rfl (bn (c8 (by omega)) cS) rfl) (fun _=>(fun _=>Wd.aA [] [] rfl rfl rfl)) rfl fun b7=>?_
      refine D.two (i:=2) (j:=13) (by kernel_rfl) rfl rfl ?_ ?_
      ·
        refine Do.s (s.c (Qt.a (q.eM (fun _=>Wd.row 0 rfl) rfl aJ Try.underlying5 Try.underlying9)) rfl) (fun _=>(fun _=>Wd.aA [] [] rfl rfl rfl)) rfl fun _=>?_
        refine D.q (i:=5) rfl (by kernel_rfl) (fun _=>Wd.aA [] [] rfl rfl rfl) rfl (q.cat rfl rfl (by first|omega|(simp only [ByteArray.size_append,aD,az,List.length_cons,List.length_nil];omega))) rfl<|?_
        refine D.one (i:=13) (by kernel_rfl) rfl ?_
        refine Do.s (s.bs (l:=([(UInt8.ofNat sx.size),(UInt8.ofNat (sx.size / 256))]:List UInt8)) aJ cd rfl rfl rfl rfl rfl (bn (bU (by omega)) (bn (bU (by omega)) cS)) rfl) (fun _=>(fun _=>Wd.aA [] [] rfl rfl rfl)) rfl fun b8=>?_
        refine D.one (i:=14) (by kernel_rfl) rfl ?_
        refine Do.s (s.c (Qt.a (q.eM (fun _=>Wd.row 0 rfl) rfl aJ Try.underlying5 Try.underlying9)) rfl) (fun _=>(fun _=>Wd.aA [] [] rfl rfl rfl)) rfl fun _=>?_
        refine D.q (i:=15) rfl (by kernel_rfl) (fun _=>Wd.aA [] [] rfl rfl rfl) rfl (q.cat rfl rfl (by first|omega|(simp only [ByteArray.size_append,aD,az,List.length_cons,List.length_nil];omega))) rfl<|D.q (i:=17) rfl (by kernel_rfl) (fun _=>Wd.aA [] [] rfl rfl rfl) rfl (q.cat rfl rfl (by first|omega|(simp only [ByteArray.size_append,aD,az,List.length_cons,List.length_nil];omega))) rfl<|D.q (i:=18) rfl (by kernel_rfl) (fun _=>Wd.aA [] [] rfl rfl rfl) rfl (q.as rfl) rfl<|D.done (by kernel_rfl)<|?_
        exact R.rv rfl Try.results53 rfl (rS (by (rfl)))
      ·
        refine Do.s (s.bs (l:=([(UInt8.ofNat sx.size),(UInt8.ofNat (sx.size / 256))]:List UInt8)) aJ cd rfl rfl rfl rfl rfl (bn (bU (by omega)) (bn (bU (by omega)) cS)) rfl) (fun _=>(fun _=>Wd.aA [] [] rfl rfl rfl)) rfl fun b9=>?_
        refine D.two (i:=2) (j:=14) (by kernel_rfl) rfl rfl ?_ ?_
        ·
          refine Do.s (s.c (Qt.a (q.eM (fun _=>Wd.row 1 rfl) rfl aJ Try.underlying5 Try.underlying9)) rfl) (fun _=>(fun _=>Wd.aA [] [] rfl rfl rfl)) rfl fun _=>?_
          refine D.q (i:=5) rfl (by kernel_rfl) (fun _=>Wd.aA [] [] rfl rfl rfl) rfl (q.cat rfl rfl (by first|omega|(simp only [ByteArray.size_append,aD,az,List.length_cons,List.length_nil];omega))) rfl<|?_
          refine D.one (i:=14) (by kernel_rfl) rfl ?_
          refine Do.s (s.c (Qt.a (q.eM (fun _=>Wd.row 0 rfl) rfl aJ Try.underlying5 Try.underlying9)) rfl) (fun _=>(fun _=>Wd.aA [] [] rfl rfl rfl)) rfl fun _=>?_
          refine D.q (i:=15) rfl (by kernel_rfl) (fun _=>Wd.aA [] [] rfl rfl rfl) rfl (q.cat rfl rfl (by first|omega|(simp only [ByteArray.size_append,aD,az,List.length_cons,List.length_nil];omega))) rfl<|D.q (i:=17) rfl (by kernel_rfl) (fun _=>Wd.aA [] [] rfl rfl rfl) rfl (q.cat rfl rfl (by first|omega|(simp only [ByteArray.size_append,aD,az,List.length_cons,List.length_nil];omega))) rfl<|D.q (i:=18) rfl (by kernel_rfl) (fun _=>Wd.aA [] [] rfl rfl rfl) rfl (q.as rfl) rfl<|D.done (by kernel_rfl)<|?_
          exact R.rv rfl Try.results53 rfl (rS (by (rfl)))
        ·
          refine Do.s (s.c (Qt.a (q.eM (fun _=>Wd.row 0 rfl) rfl aJ Try.underlying5 Try.underlying9)) rfl) (fun _=>(fun _=>Wd.aA [] [] rfl rfl rfl)) rfl fun _=>?_
          refine D.one (i:=2) (by kernel_rfl) rfl ?_
          refine Do.s (s.c (Qt.a (q.eM (fun _=>Wd.row 1 rfl) rfl aJ Try.underlying5 Try.underlying9)) rfl) (fun _=>(fun _=>Wd.aA [] [] rfl rfl rfl)) rfl fun _=>?_
          refine D.q (i:=5) rfl (by kernel_rfl) (fun _=>Wd.aA [] [] rfl rfl rfl) rfl (q.cat rfl rfl (by first|omega|(simp only [ByteArray.size_append,aD,az,List.length_cons,List.length_nil];omega))) rfl<|D.q (i:=15) rfl (by kernel_rfl) (fun _=>Wd.aA [] [] rfl rfl rfl) rfl (q.cat rfl rfl (by first|omega|(simp only [ByteArray.size_append,aD,az,List.length_cons,List.length_nil];omega))) rfl<|D.q (i:=17) rfl (by kernel_rfl) (fun _=>Wd.aA [] [] rfl rfl rfl) rfl (q.cat rfl rfl (by first|omega|(simp only [ByteArray.size_append,aD,az,List.length_cons,List.length_nil];omega))) rfl<|D.q (i:=18) rfl (by kernel_rfl) (fun _=>Wd.aA [] [] rfl rfl rfl) rfl (q.as rfl) rfl<|D.done (by kernel_rfl)<|?_
          exact R.rv rfl Try.results53 rfl (rS (by (rfl)))
    ·
      refine Do.s (s.bs (l:=([(UInt8.ofNat sx.size),(UInt8.ofNat (sx.size / 256))]:List UInt8)) aJ cd rfl rfl rfl rfl rfl (bn (bU (by omega)) (bn (bU (by omega)) cS)) rfl) (fun _=>(fun _=>Wd.aA [] [] rfl rfl rfl)) rfl fun b10=>?_
      refine D.two (i:=1) (j:=14) (by kernel_rfl) rfl rfl ?_ ?_
      ·
        refine Do.s (s.bs (l:=([(u8 k)]:List UInt8)) aJ cd rfl rfl rfl rfl rfl (bn (c8 (by omega)) cS) rfl) (fun _=>(fun _=>Wd.aA [] [] rfl rfl rfl)) rfl fun b11=>?_
        refine D.two (i:=2) (j:=14) (by kernel_rfl) rfl rfl ?_ ?_
        ·
          refine Do.s (s.c (Qt.a (q.eM (fun _=>Wd.row 0 rfl) rfl aJ Try.underlying5 Try.underlying9)) rfl) (fun _=>(fun _=>Wd.aA [] [] rfl rfl rfl)) rfl fun _=>?_
          refine D.q (i:=5) rfl (by kernel_rfl) (fun _=>Wd.aA [] [] rfl rfl rfl) rfl (q.cat rfl rfl (by first|omega|(simp only [ByteArray.size_append,aD,az,List.length_cons,List.length_nil];omega))) rfl<|?_
          refine D.one (i:=14) (by kernel_rfl) rfl ?_
          refine Do.s (s.c (Qt.a (q.eM (fun _=>Wd.row 1 rfl) rfl aJ Try.underlying5 Try.underlying9)) rfl) (fun _=>(fun _=>Wd.aA [] [] rfl rfl rfl)) rfl fun _=>?_
          refine D.q (i:=15) rfl (by kernel_rfl) (fun _=>Wd.aA [] [] rfl rfl rfl) rfl (q.cat rfl rfl (by first|omega|(simp only [ByteArray.size_append,aD,az,List.length_cons,List.length_nil];omega))) rfl<|D.q (i:=17) rfl (by kernel_rfl) (fun _=>Wd.aA [] [] rfl rfl rfl) rfl (q.cat rfl rfl (by first|omega|(simp only [ByteArray.size_append,aD,az,List.length_cons,List.length_nil];omega))) rfl<|D.q (i:=18) rfl (by kernel_rfl) (fun _=>Wd.aA [] [] rfl rfl rfl) rfl (q.as rfl) rfl<|D.done (by kernel_rfl)<|?_
          exact R.rv rfl Try.results53 rfl (rS (by (rfl)))
        ·
          refine Do.s (s.c (Qt.a (q.eM (fun _=>Wd.row 1 rfl) rfl aJ Try.underlying5 Try.underlying9)) rfl) (fun _=>(fun _=>Wd.aA [] [] rfl rfl rfl)) rfl fun _=>?_
          refine D.one (i:=2) (by kernel_rfl) rfl ?_
          refine Do.s (s.c (Qt.a (q.eM (fun _=>Wd.row 0 rfl) rfl aJ Try.underlying5 Try.underlying9)) rfl) (fun _=>(fun _=>Wd.aA [] [] rfl rfl rfl)) rfl fun _=>?_
          refine D.q (i:=5) rfl (by kernel_rfl) (fun _=>Wd.aA [] [] rfl rfl rfl) rfl (q.cat rfl rfl (by first|omega|(simp only [ByteArray.size_append,aD,az,List.length_cons,List.length_nil];omega))) rfl<|D.q (i:=15) rfl (by kernel_rfl) (fun _=>Wd.aA [] [] rfl rfl rfl) rfl (q.cat rfl rfl (by first|omega|(simp only [ByteArray.size_append,aD,az,List.length_cons,List.length_nil];omega))) rfl<|D.q (i:=17) rfl (by kernel_rfl) (fun _=>Wd.aA [] [] rfl rfl rfl) rfl (q.cat rfl rfl (by first|omega|(simp only [ByteArray.size_append,aD,az,List.length_cons,List.length_nil];omega))) rfl<|D.q (i:=18) rfl (by kernel_rfl) (fun _=>Wd.aA [] [] rfl rfl rfl) rfl (q.as rfl) rfl<|D.done (by kernel_rfl)<|?_
          exact R.rv rfl Try.results53 rfl (rS (by (rfl)))
      ·
        refine Do.s (s.c (Qt.a (q.eM (fun _=>Wd.row 0 rfl) rfl aJ Try.underlying5 Try.underlying9)) rfl) (fun _=>(fun _=>Wd.aA [] [] rfl rfl rfl)) rfl fun _=>?_
        refine D.one (i:=1) (by kernel_rfl) rfl ?_
        refine Do.s (s.bs (l:=([(u8 k)]:List UInt8)) aJ cd rfl rfl rfl rfl rfl (bn (c8 (by omega)) cS) rfl) (fun _=>(fun _=>Wd.aA [] [] rfl rfl rfl)) rfl fun b12=>?_
        refine D.one (i:=2) (by kernel_rfl) rfl ?_
        refine Do.s (s.c (Qt.a (q.eM (fun _=>Wd.row 0 rfl) rfl aJ Try.underlying5 Try.underlying9)) rfl) (fun _=>(fun _=>Wd.aA [] [] rfl rfl rfl)) rfl fun _=>?_
        refine D.q (i:=5) rfl (by kernel_rfl) (fun _=>Wd.aA [] [] rfl rfl rfl) rfl (q.cat rfl rfl (by first|omega|(simp only [ByteArray.size_append,aD,az,List.length_cons,List.length_nil];omega))) rfl<|D.q (i:=15) rfl (by kernel_rfl) (fun _=>Wd.aA [] [] rfl rfl rfl) rfl (q.cat rfl rfl (by first|omega|(simp only [ByteArray.size_append,aD,az,List.length_cons,List.length_nil];omega))) rfl<|D.q (i:=17) rfl (by kernel_rfl) (fun _=>Wd.aA [] [] rfl rfl rfl) rfl (q.cat rfl rfl (by first|omega|(simp only [ByteArray.size_append,aD,az,List.length_cons,List.length_nil];omega))) rfl<|D.q (i:=18) rfl (by kernel_rfl) (fun _=>Wd.aA [] [] rfl rfl rfl) rfl (q.as rfl) rfl<|D.done (by kernel_rfl)<|?_
        exact R.rv rfl Try.results53 rfl (rS (by (rfl)))
  ·
    refine Do.s (s.bs (l:=([(UInt8.ofNat sx.size),(UInt8.ofNat (sx.size / 256))]:List UInt8)) aJ cd rfl rfl rfl rfl rfl (bn (bU (by omega)) (bn (bU (by omega)) cS)) rfl) (fun _=>(fun _=>Wd.aA [] [] rfl rfl rfl)) rfl fun b13=>?_
    refine D.three (i:=1) (j:=4) (m:=14) (by kernel_rfl) rfl rfl rfl ?_ ?_ ?_
    ·
      refine Do.s (s.bs (l:=([(u8 k)]:List UInt8)) aJ cd rfl rfl rfl rfl rfl (bn (c8 (by omega)) cS) rfl) (fun _=>(fun _=>Wd.aA [] [] rfl rfl rfl)) rfl fun b14=>?_
      refine D.three (i:=2) (j:=4) (m:=14) (by kernel_rfl) rfl rfl rfl ?_ ?_ ?_
      ·
        refine Do.s (s.c (Qt.a (q.eM (fun _=>Wd.row 0 rfl) rfl aJ Try.underlying5 Try.underlying9)) rfl) (fun _=>(fun _=>Wd.aA [] [] rfl rfl rfl)) rfl fun _=>?_
        refine D.two (i:=4) (j:=14) (by kernel_rfl) rfl rfl ?_ ?_
        ·
          refine Do.s (s.c (q.call dB rfl rfl (fun w hw=>(bN (n) w  (by omega)))) rfl) (fun _=>(fun _=>Wd.aA [] [] rfl rfl rfl)) rfl fun _=>?_
          refine D.q (i:=5) rfl (by kernel_rfl) (fun _=>Wd.aA [] [] rfl rfl rfl) rfl (q.cat rfl rfl (by first|omega|(simp only [ByteArray.size_append,aD,az,List.length_cons,List.length_nil];omega))) rfl<|?_
          refine D.one (i:=14) (by kernel_rfl) rfl ?_
          refine Do.s (s.c (Qt.a (q.eM (fun _=>Wd.row 1 rfl) rfl aJ Try.underlying5 Try.underlying9)) rfl) (fun _=>(fun _=>Wd.aA [] [] rfl rfl rfl)) rfl fun _=>?_
          refine D.q (i:=15) rfl (by kernel_rfl) (fun _=>Wd.aA [] [] rfl rfl rfl) rfl (q.cat rfl rfl (by first|omega|(simp only [ByteArray.size_append,aD,az,List.length_cons,List.length_nil];omega))) rfl<|D.q (i:=17) rfl (by kernel_rfl) (fun _=>Wd.aA [] [] rfl rfl rfl) rfl (q.cat rfl rfl (by first|omega|(simp only [ByteArray.size_append,aD,az,List.length_cons,List.length_nil];omega))) rfl<|D.q (i:=18) rfl (by kernel_rfl) (fun _=>Wd.aA [] [] rfl rfl rfl) rfl (q.as rfl) rfl<|D.done (by kernel_rfl)<|?_
          exact R.rv rfl Try.results53 rfl (rS (by (rfl)))
        ·
          refine Do.s (s.c (Qt.a (q.eM (fun _=>Wd.row 1 rfl) rfl aJ Try.underlying5 Try.underlying9)) rfl) (fun _=>(fun _=>Wd.aA [] [] rfl rfl rfl)) rfl fun _=>?_
          refine D.one (i:=4) (by kernel_rfl) rfl ?_
          refine Do.s (s.c (q.call dB rfl rfl (fun w hw=>(bN (n) w  (by omega)))) rfl) (fun _=>(fun _=>Wd.aA [] [] rfl rfl rfl)) rfl fun _=>?_
          refine D.q (i:=5) rfl (by kernel_rfl) (fun _=>Wd.aA [] [] rfl rfl rfl) rfl (q.cat rfl rfl (by first|omega|(simp only [ByteArray.size_append,aD,az,List.length_cons,List.length_nil];omega))) rfl<|D.q (i:=15) rfl (by kernel_rfl) (fun _=>Wd.aA [] [] rfl rfl rfl) rfl (q.cat rfl rfl (by first|omega|(simp only [ByteArray.size_append,aD,az,List.length_cons,List.length_nil];omega))) rfl<|D.q (i:=17) rfl (by kernel_rfl) (fun _=>Wd.aA [] [] rfl rfl rfl) rfl (q.cat rfl rfl (by first|omega|(simp only [ByteArray.size_append,aD,az,List.length_cons,List.length_nil];omega))) rfl<|D.q (i:=18) rfl (by kernel_rfl) (fun _=>Wd.aA [] [] rfl rfl rfl) rfl (q.as rfl) rfl<|D.done (by kernel_rfl)<|?_
          exact R.rv rfl Try.results53 rfl (rS (by (rfl)))
      ·
        refine Do.s (s.c (q.call dB rfl rfl (fun w hw=>(bN (n) w  (by omega)))) rfl) (fun _=>(fun _=>Wd.aA [] [] rfl rfl rfl)) rfl fun _=>?_
        refine D.two (i:=2) (j:=14) (by kernel_rfl) rfl rfl ?_ ?_
        ·
          refine Do.s (s.c (Qt.a (q.eM (fun _=>Wd.row 0 rfl) rfl aJ Try.underlying5 Try.underlying9)) rfl) (fun _=>(fun _=>Wd.aA [] [] rfl rfl rfl)) rfl fun _=>?_
          refine D.q (i:=5) rfl (by kernel_rfl) (fun _=>Wd.aA [] [] rfl rfl rfl) rfl (q.cat rfl rfl (by first|omega|(simp only [ByteArray.size_append,aD,az,List.length_cons,List.length_nil];omega))) rfl<|?_
          refine D.one (i:=14) (by kernel_rfl) rfl ?_
          refine Do.s (s.c (Qt.a (q.eM (fun _=>Wd.row 1 rfl) rfl aJ Try.underlying5 Try.underlying9)) rfl) (fun _=>(fun _=>Wd.aA [] [] rfl rfl rfl)) rfl fun _=>?_
          refine D.q (i:=15) rfl (by kernel_rfl) (fun _=>Wd.aA [] [] rfl rfl rfl) rfl (q.cat rfl rfl (by first|omega|(simp only [ByteArray.size_append,aD,az,List.length_cons,List.length_nil];omega))) rfl<|D.q (i:=17) rfl (by kernel_rfl) (fun _=>Wd.aA [] [] rfl rfl rfl) rfl (q.cat rfl rfl (by first|omega|(simp only [ByteArray.size_append,aD,az,List.length_cons,List.length_nil];omega))) rfl<|D.q (i:=18) rfl (by kernel_rfl) (fun _=>Wd.aA [] [] rfl rfl rfl) rfl (q.as rfl) rfl<|D.done (by kernel_rfl)<|?_
          exact R.rv rfl Try.results53 rfl (rS (by (rfl)))
        ·
          refine Do.s (s.c (Qt.a (q.eM (fun _=>Wd.row 1 rfl) rfl aJ Try.underlying5 Try.underlying9)) rfl) (fun _=>(fun _=>Wd.aA [] [] rfl rfl rfl)) rfl fun _=>?_
          refine D.one (i:=2) (by kernel_rfl) rfl ?_
          refine Do.s (s.c (Qt.a (q.eM (fun _=>Wd.row 0 rfl) rfl aJ Try.underlying5 Try.underlying9)) rfl) (fun _=>(fun _=>Wd.aA [] [] rfl rfl rfl)) rfl fun _=>?_
          refine D.q (i:=5) rfl (by kernel_rfl) (fun _=>Wd.aA [] [] rfl rfl rfl) rfl (q.cat rfl rfl (by first|omega|(simp only [ByteArray.size_append,aD,az,List.length_cons,List.length_nil];omega))) rfl<|D.q (i:=15) rfl (by kernel_rfl) (fun _=>Wd.aA [] [] rfl rfl rfl) rfl (q.cat rfl rfl (by first|omega|(simp only [ByteArray.size_append,aD,az,List.length_cons,List.length_nil];omega))) rfl<|D.q (i:=17) rfl (by kernel_rfl) (fun _=>Wd.aA [] [] rfl rfl rfl) rfl (q.cat rfl rfl (by first|omega|(simp only [ByteArray.size_append,aD,az,List.length_cons,List.length_nil];omega))) rfl<|D.q (i:=18) rfl (by kernel_rfl) (fun _=>Wd.aA [] [] rfl rfl rfl) rfl (q.as rfl) rfl<|D.done (by kernel_rfl)<|?_
          exact R.rv rfl Try.results53 rfl (rS (by (rfl)))
      ·
        refine Do.s (s.c (Qt.a (q.eM (fun _=>Wd.row 1 rfl) rfl aJ Try.underlying5 Try.underlying9)) rfl) (fun _=>(fun _=>Wd.aA [] [] rfl rfl rfl)) rfl fun _=>?_
        refine D.two (i:=2) (j:=4) (by kernel_rfl) rfl rfl ?_ ?_
        ·
          refine Do.s (s.c (Qt.a (q.eM (fun _=>Wd.row 0 rfl) rfl aJ Try.underlying5 Try.underlying9)) rfl) (fun _=>(fun _=>Wd.aA [] [] rfl rfl rfl)) rfl fun _=>?_
          refine D.one (i:=4) (by kernel_rfl) rfl ?_
          refine Do.s (s.c (q.call dB rfl rfl (fun w hw=>(bN (n) w  (by omega)))) rfl) (fun _=>(fun _=>Wd.aA [] [] rfl rfl rfl)) rfl fun _=>?_
          refine D.q (i:=5) rfl (by kernel_rfl) (fun _=>Wd.aA [] [] rfl rfl rfl) rfl (q.cat rfl rfl (by first|omega|(simp only [ByteArray.size_append,aD,az,List.length_cons,List.length_nil];omega))) rfl<|D.q (i:=15) rfl (by kernel_rfl) (fun _=>Wd.aA [] [] rfl rfl rfl) rfl (q.cat rfl rfl (by first|omega|(simp only [ByteArray.size_append,aD,az,List.length_cons,List.length_nil];omega))) rfl<|D.q (i:=17) rfl (by kernel_rfl) (fun _=>Wd.aA [] [] rfl rfl rfl) rfl (q.cat rfl rfl (by first|omega|(simp only [ByteArray.size_append,aD,az,List.length_cons,List.length_nil];omega))) rfl<|D.q (i:=18) rfl (by kernel_rfl) (fun _=>Wd.aA [] [] rfl rfl rfl) rfl (q.as rfl) rfl<|D.done (by kernel_rfl)<|?_
          exact R.rv rfl Try.results53 rfl (rS (by (rfl)))
        ·
          refine Do.s (s.c (q.call dB rfl rfl (fun w hw=>(bN (n) w  (by omega)))) rfl) (fun _=>(fun _=>Wd.aA [] [] rfl rfl rfl)) rfl fun _=>?_
          refine D.one (i:=2) (by kernel_rfl) rfl ?_
          refine Do.s (s.c (Qt.a (q.eM (fun _=>Wd.row 0 rfl) rfl aJ Try.underlying5 Try.underlying9)) rfl) (fun _=>(fun _=>Wd.aA [] [] rfl rfl rfl)) rfl fun _=>?_
          refine D.q (i:=5) rfl (by kernel_rfl) (fun _=>Wd.aA [] [] rfl rfl rfl) rfl (q.cat rfl rfl (by first|omega|(simp only [ByteArray.size_append,aD,az,List.length_cons,List.length_nil];omega))) rfl<|D.q (i:=15) rfl (by kernel_rfl) (fun _=>Wd.aA [] [] rfl rfl rfl) rfl (q.cat rfl rfl (by first|omega|(simp only [ByteArray.size_append,aD,az,List.length_cons,List.length_nil];omega))) rfl<|D.q (i:=17) rfl (by kernel_rfl) (fun _=>Wd.aA [] [] rfl rfl rfl) rfl (q.cat rfl rfl (by first|omega|(simp only [ByteArray.size_append,aD,az,List.length_cons,List.length_nil];omega))) rfl<|D.q (i:=18) rfl (by kernel_rfl) (fun _=>Wd.aA [] [] rfl rfl rfl) rfl (q.as rfl) rfl<|D.done (by kernel_rfl)<|?_
          exact R.rv rfl Try.results53 rfl (rS (by (rfl)))
    ·
      refine Do.s (s.c (q.call dB rfl rfl (fun w hw=>(bN (n) w  (by omega)))) rfl) (fun _=>(fun _=>Wd.aA [] [] rfl rfl rfl)) rfl fun _=>?_
      refine D.two (i:=1) (j:=14) (by kernel_rfl) rfl rfl ?_ ?_
      ·
        refine Do.s (s.bs (l:=([(u8 k)]:List UInt8)) aJ cd rfl rfl rfl rfl rfl (bn (c8 (by omega)) cS) rfl) (fun _=>(fun _=>Wd.aA [] [] rfl rfl rfl)) rfl fun b15=>?_
        refine D.two (i:=2) (j:=14) (by kernel_rfl) rfl rfl ?_ ?_
        ·
          refine Do.s (s.c (Qt.a (q.eM (fun _=>Wd.row 0 rfl) rfl aJ Try.underlying5 Try.underlying9)) rfl) (fun _=>(fun _=>Wd.aA [] [] rfl rfl rfl)) rfl fun _=>?_
          refine D.q (i:=5) rfl (by kernel_rfl) (fun _=>Wd.aA [] [] rfl rfl rfl) rfl (q.cat rfl rfl (by first|omega|(simp only [ByteArray.size_append,aD,az,List.length_cons,List.length_nil];omega))) rfl<|?_
          refine D.one (i:=14) (by kernel_rfl) rfl ?_
          refine Do.s (s.c (Qt.a (q.eM (fun _=>Wd.row 1 rfl) rfl aJ Try.underlying5 Try.underlying9)) rfl) (fun _=>(fun _=>Wd.aA [] [] rfl rfl rfl)) rfl fun _=>?_
          refine D.q (i:=15) rfl (by kernel_rfl) (fun _=>Wd.aA [] [] rfl rfl rfl) rfl (q.cat rfl rfl (by first|omega|(simp only [ByteArray.size_append,aD,az,List.length_cons,List.length_nil];omega))) rfl<|D.q (i:=17) rfl (by kernel_rfl) (fun _=>Wd.aA [] [] rfl rfl rfl) rfl (q.cat rfl rfl (by first|omega|(simp only [ByteArray.size_append,aD,az,List.length_cons,List.length_nil];omega))) rfl<|D.q (i:=18) rfl (by kernel_rfl) (fun _=>Wd.aA [] [] rfl rfl rfl) rfl (q.as rfl) rfl<|D.done (by kernel_rfl)<|?_
          exact R.rv rfl Try.results53 rfl (rS (by (rfl)))
        ·
          refine Do.s (s.c (Qt.a (q.eM (fun _=>Wd.row 1 rfl) rfl aJ Try.underlying5 Try.underlying9)) rfl) (fun _=>(fun _=>Wd.aA [] [] rfl rfl rfl)) rfl fun _=>?_
          refine D.one (i:=2) (by kernel_rfl) rfl ?_
          refine Do.s (s.c (Qt.a (q.eM (fun _=>Wd.row 0 rfl) rfl aJ Try.underlying5 Try.underlying9)) rfl) (fun _=>(fun _=>Wd.aA [] [] rfl rfl rfl)) rfl fun _=>?_
          refine D.q (i:=5) rfl (by kernel_rfl) (fun _=>Wd.aA [] [] rfl rfl rfl) rfl (q.cat rfl rfl (by first|omega|(simp only [ByteArray.size_append,aD,az,List.length_cons,List.length_nil];omega))) rfl<|D.q (i:=15) rfl (by kernel_rfl) (fun _=>Wd.aA [] [] rfl rfl rfl) rfl (q.cat rfl rfl (by first|omega|(simp only [ByteArray.size_append,aD,az,List.length_cons,List.length_nil];omega))) rfl<|D.q (i:=17) rfl (by kernel_rfl) (fun _=>Wd.aA [] [] rfl rfl rfl) rfl (q.cat rfl rfl (by first|omega|(simp only [ByteArray.size_append,aD,az,List.length_cons,List.length_nil];omega))) rfl<|D.q (i:=18) rfl (by kernel_rfl) (fun _=>Wd.aA [] [] rfl rfl rfl) rfl (q.as rfl) rfl<|D.done (by kernel_rfl)<|?_
          exact R.rv rfl Try.results53 rfl (rS (by (rfl)))
      ·
        refine Do.s (s.c (Qt.a (q.eM (fun _=>Wd.row 0 rfl) rfl aJ Try.underlying5 Try.underlying9)) rfl) (fun _=>(fun _=>Wd.aA [] [] rfl rfl rfl)) rfl fun _=>?_
        refine D.one (i:=1) (by kernel_rfl) rfl ?_
        refine Do.s (s.bs (l:=([(u8 k)]:List UInt8)) aJ cd rfl rfl rfl rfl rfl (bn (c8 (by omega)) cS) rfl) (fun _=>(fun _=>Wd.aA [] [] rfl rfl rfl)) rfl fun b16=>?_
        refine D.one (i:=2) (by kernel_rfl) rfl ?_
        refine Do.s (s.c (Qt.a (q.eM (fun _=>Wd.row 0 rfl) rfl aJ Try.underlying5 Try.underlying9)) rfl) (fun _=>(fun _=>Wd.aA [] [] rfl rfl rfl)) rfl fun _=>?_
        refine D.q (i:=5) rfl (by kernel_rfl) (fun _=>Wd.aA [] [] rfl rfl rfl) rfl (q.cat rfl rfl (by first|omega|(simp only [ByteArray.size_append,aD,az,List.length_cons,List.length_nil];omega))) rfl<|D.q (i:=15) rfl (by kernel_rfl) (fun _=>Wd.aA [] [] rfl rfl rfl) rfl (q.cat rfl rfl (by first|omega|(simp only [ByteArray.size_append,aD,az,List.length_cons,List.length_nil];omega))) rfl<|D.q (i:=17) rfl (by kernel_rfl) (fun _=>Wd.aA [] [] rfl rfl rfl) rfl (q.cat rfl rfl (by first|omega|(simp only [ByteArray.size_append,aD,az,List.length_cons,List.length_nil];omega))) rfl<|D.q (i:=18) rfl (by kernel_rfl) (fun _=>Wd.aA [] [] rfl rfl rfl) rfl (q.as rfl) rfl<|D.done (by kernel_rfl)<|?_
        exact R.rv rfl Try.results53 rfl (rS (by (rfl)))
    ·
      refine Do.s (s.c (Qt.a (q.eM (fun _=>Wd.row 0 rfl) rfl aJ Try.underlying5 Try.underlying9)) rfl) (fun _=>(fun _=>Wd.aA [] [] rfl rfl rfl)) rfl fun _=>?_
      refine D.two (i:=1) (j:=4) (by kernel_rfl) rfl rfl ?_ ?_
      ·
        refine Do.s (s.bs (l:=([(u8 k)]:List UInt8)) aJ cd rfl rfl rfl rfl rfl (bn (c8 (by omega)) cS) rfl) (fun _=>(fun _=>Wd.aA [] [] rfl rfl rfl)) rfl fun b17=>?_
        refine D.two (i:=2) (j:=4) (by kernel_rfl) rfl rfl ?_ ?_
        ·
          refine Do.s (s.c (Qt.a (q.eM (fun _=>Wd.row 0 rfl) rfl aJ Try.underlying5 Try.underlying9)) rfl) (fun _=>(fun _=>Wd.aA [] [] rfl rfl rfl)) rfl fun _=>?_
          refine D.one (i:=4) (by kernel_rfl) rfl ?_
          refine Do.s (s.c (q.call dB rfl rfl (fun w hw=>(bN (n) w  (by omega)))) rfl) (fun _=>(fun _=>Wd.aA [] [] rfl rfl rfl)) rfl fun _=>?_
          refine D.q (i:=5) rfl (by kernel_rfl) (fun _=>Wd.aA [] [] rfl rfl rfl) rfl (q.cat rfl rfl (by first|omega|(simp only [ByteArray.size_append,aD,az,List.length_cons,List.length_nil];omega))) rfl<|D.q (i:=15) rfl (by kernel_rfl) (fun _=>Wd.aA [] [] rfl rfl rfl) rfl (q.cat rfl rfl (by first|omega|(simp only [ByteArray.size_append,aD,az,List.length_cons,List.length_nil];omega))) rfl<|D.q (i:=17) rfl (by kernel_rfl) (fun _=>Wd.aA [] [] rfl rfl rfl) rfl (q.cat rfl rfl (by first|omega|(simp only [ByteArray.size_append,aD,az,List.length_cons,List.length_nil];omega))) rfl<|D.q (i:=18) rfl (by kernel_rfl) (fun _=>Wd.aA [] [] rfl rfl rfl) rfl (q.as rfl) rfl<|D.done (by kernel_rfl)<|?_
          exact R.rv rfl Try.results53 rfl (rS (by (rfl)))
        ·
          refine Do.s (s.c (q.call dB rfl rfl (fun w hw=>(bN (n) w  (by omega)))) rfl) (fun _=>(fun _=>Wd.aA [] [] rfl rfl rfl)) rfl fun _=>?_
          refine D.one (i:=2) (by kernel_rfl) rfl ?_
          refine Do.s (s.c (Qt.a (q.eM (fun _=>Wd.row 0 rfl) rfl aJ Try.underlying5 Try.underlying9)) rfl) (fun _=>(fun _=>Wd.aA [] [] rfl rfl rfl)) rfl fun _=>?_
          refine D.q (i:=5) rfl (by kernel_rfl) (fun _=>Wd.aA [] [] rfl rfl rfl) rfl (q.cat rfl rfl (by first|omega|(simp only [ByteArray.size_append,aD,az,List.length_cons,List.length_nil];omega))) rfl<|D.q (i:=15) rfl (by kernel_rfl) (fun _=>Wd.aA [] [] rfl rfl rfl) rfl (q.cat rfl rfl (by first|omega|(simp only [ByteArray.size_append,aD,az,List.length_cons,List.length_nil];omega))) rfl<|D.q (i:=17) rfl (by kernel_rfl) (fun _=>Wd.aA [] [] rfl rfl rfl) rfl (q.cat rfl rfl (by first|omega|(simp only [ByteArray.size_append,aD,az,List.length_cons,List.length_nil];omega))) rfl<|D.q (i:=18) rfl (by kernel_rfl) (fun _=>Wd.aA [] [] rfl rfl rfl) rfl (q.as rfl) rfl<|D.done (by kernel_rfl)<|?_
          exact R.rv rfl Try.results53 rfl (rS (by (rfl)))
      ·
        refine Do.s (s.c (q.call dB rfl rfl (fun w hw=>(bN (n) w  (by omega)))) rfl) (fun _=>(fun _=>Wd.aA [] [] rfl rfl rfl)) rfl fun _=>?_
        refine D.one (i:=1) (by kernel_rfl) rfl ?_
        refine Do.s (s.bs (l:=([(u8 k)]:List UInt8)) aJ cd rfl rfl rfl rfl rfl (bn (c8 (by omega)) cS) rfl) (fun _=>(fun _=>Wd.aA [] [] rfl rfl rfl)) rfl fun b18=>?_
        refine D.one (i:=2) (by kernel_rfl) rfl ?_
        refine Do.s (s.c (Qt.a (q.eM (fun _=>Wd.row 0 rfl) rfl aJ Try.underlying5 Try.underlying9)) rfl) (fun _=>(fun _=>Wd.aA [] [] rfl rfl rfl)) rfl fun _=>?_
        refine D.q (i:=5) rfl (by kernel_rfl) (fun _=>Wd.aA [] [] rfl rfl rfl) rfl (q.cat rfl rfl (by first|omega|(simp only [ByteArray.size_append,aD,az,List.length_cons,List.length_nil];omega))) rfl<|D.q (i:=15) rfl (by kernel_rfl) (fun _=>Wd.aA [] [] rfl rfl rfl) rfl (q.cat rfl rfl (by first|omega|(simp only [ByteArray.size_append,aD,az,List.length_cons,List.length_nil];omega))) rfl<|D.q (i:=17) rfl (by kernel_rfl) (fun _=>Wd.aA [] [] rfl rfl rfl) rfl (q.cat rfl rfl (by first|omega|(simp only [ByteArray.size_append,aD,az,List.length_cons,List.length_nil];omega))) rfl<|D.q (i:=18) rfl (by kernel_rfl) (fun _=>Wd.aA [] [] rfl rfl rfl) rfl (q.as rfl) rfl<|D.done (by kernel_rfl)<|?_
        exact R.rv rfl Try.results53 rfl (rS (by (rfl)))
theorem lX (aG:Nat)(lY:Nat)(lg:Lg)(w:World)(o6:(ah.box aG [.pointer (some ⟨lY,0,none⟩),.int .i64 lg.From,.int .i64 lg.Many,.int .i64 lg.First,.int .i64 lg.Next] 85).ok w)(hb:0≤lg.Many∧lg.Many≤1000000000∧0≤lg.Next∧lg.Next≤1000000000):Calls Try.prog 17 #[.pointer (some ⟨aG,0,none⟩)] w fun e w'=>e = .returned (.int .i64 (lg.Many-lg.Next))∧Ext w w':=by
  refine R.enter (n:=12) (vs:=[.pointer (some ⟨aG,0,none⟩)]) [] [(0,.pointer (some ⟨aG,0,none⟩))] Try.func17 rfl rfl rfl rfl ?_
  refine R.lv (r:=ah.box aG [.pointer (some ⟨lY,0,none⟩),.int .i64 lg.From,.int .i64 lg.Many,.int .i64 lg.First,.int .i64 lg.Next] 85) o6 (iW o6) ?_
  refine R.reg rfl<|R.u 1 rfl<|R.nil ?_
  refine R.d9 rfl mixed (by kernel_rfl)<|Q.u 1 rfl<|Q.q (q.bm rfl) rfl<|Q.q (q.bJ (off':=2) rfl kr rfl) rfl<|Q.q (q.pC 0 rfl rfl aS rfl) rfl<|Q.u 1 rfl<|Q.q (q.bm rfl) rfl<|Q.q (q.bJ (off':=4) rfl eY rfl) rfl<|Q.q (q.pC 0 rfl rfl aS rfl) rfl<|Q.q (q.sub (r:=lg.Many-lg.Next) rfl rfl (wr (by omega))) rfl<|Q.u 1 rfl<|Q.nil ?_
  exact R.rv rfl Try.results17 rfl (rI (by (rfl)))
theorem o7 (aG:Nat)(lY:Nat)(lg:Lg)(w:World)(o6:(ah.box aG [.pointer (some ⟨lY,0,none⟩),.int .i64 lg.From,.int .i64 lg.Many,.int .i64 lg.First,.int .i64 lg.Next] 85).ok w)(hb:0≤lg.Many∧lg.Many≤1000000000∧0≤lg.First∧lg.First≤1000000000):Calls Try.prog 18 #[.pointer (some ⟨aG,0,none⟩)] w fun e w'=>e = .returned (.int .i64 (lg.First+lg.Many))∧Ext w w':=by
  refine R.enter (n:=12) (vs:=[.pointer (some ⟨aG,0,none⟩)]) [] [(0,.pointer (some ⟨aG,0,none⟩))] Try.func18 rfl rfl rfl rfl ?_
  refine R.lv (r:=ah.box aG [.pointer (some ⟨lY,0,none⟩),.int .i64 lg.From,.int .i64 lg.Many,.int .i64 lg.First,.int .i64 lg.Next] 85) o6 (iW o6) ?_
  refine R.reg rfl<|R.u 1 rfl<|R.nil ?_
  refine R.d9 rfl mixed (by kernel_rfl)<|Q.u 1 rfl<|Q.q (q.bm rfl) rfl<|Q.q (q.bJ (off':=3) rfl eX rfl) rfl<|Q.q (q.pC 0 rfl rfl aS rfl) rfl<|Q.u 1 rfl<|Q.q (q.bm rfl) rfl<|Q.q (q.bJ (off':=2) rfl kr rfl) rfl<|Q.q (q.pC 0 rfl rfl aS rfl) rfl<|Q.q (q.add (r:=lg.First+lg.Many) rfl rfl (wr (by omega))) rfl<|Q.u 1 rfl<|Q.nil ?_
  exact R.rv rfl Try.results18 rfl (rI (by (rfl)))
theorem tq (aG:Nat)(lg:Lg)(i:Nat)(au:Nat)(ao ap ak:Value)(dk:bp)(w:World)(o6:(ah.box aG [.pointer (some ⟨au,0,none⟩),.int .i64 lg.From,.int .i64 lg.Many,.int .i64 lg.First,.int .i64 lg.Next] 85).ok w)(lM:(ah.box au [ao,ap,ak,.int .i64 dk.Fuse,.bool dk.Down] 81).ok w)(ey:Sl w ao (dk.Kept:List ByteArray))(fe:Sl w ap (dk.Now:List ByteArray))(ez:Sl w ak (dk.Wait:List Turn))(hb : -1000000000≤lg.From∧lg.From≤1000000000∧0≤lg.First∧lg.First≤8000000000000000000∧i≤1000000000)(hr:(a6 dk (lg.From+(i:Int))).2=0)(hs:((a6 dk (lg.From+(i:Int))).1).size=48):Calls Try.prog 43 #[.pointer (some ⟨aG,0,none⟩),.int .i64 (i:Int)] w fun e w'=>e = .returned (.tuple #[.int .u8 (iL ((a6 dk (lg.From+(i:Int))).1) (lg.First+(i:Int)):Int),.string (dh ((a6 dk (lg.From+(i:Int))).1) (lg.First+(i:Int))),.bool (dQ ((a6 dk (lg.From+(i:Int))).1) (lg.First+(i:Int)))])∧Ext w w':=by
  refine R.enter (n:=64) (vs:=[.pointer (some ⟨aG,0,none⟩),.int .i64 (i:Int)]) [] [(0,.pointer (some ⟨aG,0,none⟩)),(1,.int .i64 (i:Int))] Try.func43 rfl rfl rfl rfl ?_
  refine R.iZ ey ?_
  refine R.iZ fe ?_
  refine R.iZ ez ?_
  refine R.lv (r:=ah.box aG [.pointer (some ⟨au,0,none⟩),.int .i64 lg.From,.int .i64 lg.Many,.int .i64 lg.First,.int .i64 lg.Next] 85) o6 (iW o6) ?_
  refine R.lv (r:=ah.box au [ao,ap,ak,.int .i64 dk.Fuse,.bool dk.Down] 81) lM (iW lM) ?_
  refine R.reg rfl<|R.u 3 rfl<|R.nil ?_
  refine R.d9 rfl mixed (by kernel_rfl)<|Q.u 1 rfl<|Q.q (q.bm rfl) rfl<|Q.q (q.bJ (off':=0) rfl gi rfl) rfl<|Q.q (q.pC 1 rfl rfl dU rfl) rfl<|Q.u 1 rfl<|Q.q (q.bm rfl) rfl<|Q.q (q.bJ (off':=1) rfl jk rfl) rfl<|Q.q (q.pC 1 rfl rfl aS rfl) rfl<|Q.u 1 rfl<|Q.q (q.add (r:=lg.From+(i:Int)) rfl rfl (wr (by omega))) rfl<|Q.c (q.call sN rfl rfl (fun w hw=>(ku au ao ap ak  (dk) ((lg.From+(i:Int))) w (hw.f 0 rfl) (hw.bZ 4 rfl) (hw.bZ 3 rfl) (hw.bZ 2 rfl) ))) rfl<|Q.u 5 rfl<|Q.nil ?_
  by_cases h1:(((a6 dk (lg.From+(i:Int))).1).extract 1 5)=aM (lg.First+(i:Int))
  ·
    obtain ⟨y1,hy1⟩:∃z,((a6 dk (lg.From+(i:Int))).1).data[0]? = some z:=⟨_,Array.getElem?_eq_getElem (show 0<((a6 dk (lg.From+(i:Int))).1).size from by omega)⟩
    have yt:=y1.toNat_lt
    by_cases h2:y1.toNat=111
    ·
      refine R.d9 rfl mixed (by kernel_rfl)<|Q.u 1 rfl<|Q.q (q.dj rfl rfl Try.underlying28 (by omega)) rfl<|Q.u 2 rfl<|Q.qg rfl (q.qt (i:=1) (j:=5) rfl rfl rfl Try.underlying9 rfl rfl (by omega) (by omega)) rfl<|Q.u 1 rfl<|Q.qg rfl (q.bm rfl) rfl<|Q.qg rfl (q.bJ (off':=3) rfl eX rfl) rfl<|Q.qg rfl (q.pC 1 rfl rfl aS rfl) rfl<|Q.u 1 rfl<|Q.qg rfl (q.add (r:=lg.First+(i:Int)) rfl rfl (wr (by omega))) rfl<|Q.cg rfl (q.call dB rfl rfl (fun w hw=>(bN ((lg.First+(i:Int))) w  (by omega)))) rfl<|Q.qg rfl (q.j0 rfl rfl h1) rfl<|Q.u 3 rfl<|Q.qg rfl (q.dS (i:=0) rfl rfl Try.underlying9 rfl hy1) rfl<|Q.qg rfl (q.neq rfl rfl (bne_eq_false_iff_eq.2 (by omega))) rfl<|Q.u 6 rfl<|Q.nil ?_
      refine R.aI rfl rfl ?_
      obtain ⟨y2,hy2⟩:∃z,((a6 dk (lg.From+(i:Int))).1).data[5]? = some z:=⟨_,Array.getElem?_eq_getElem (show 5<((a6 dk (lg.From+(i:Int))).1).size from by omega)⟩
      have yu:=y2.toNat_lt
      obtain ⟨y3,hy3⟩:∃z,((a6 dk (lg.From+(i:Int))).1).data[6]? = some z:=⟨_,Array.getElem?_eq_getElem (show 6<((a6 dk (lg.From+(i:Int))).1).size from by omega)⟩
      have yP:=y3.toNat_lt
      refine R.d9 rfl mixed (by kernel_rfl)<|Q.u 1 rfl<|Q.q (q.dS (i:=5) rfl rfl Try.underlying9 rfl hy2) rfl<|Q.q (q.iu (r:=((y2.toNat:Nat):Int)) rfl (by rw [Try.underlying5];rfl) Try.underlying3 (wr (by omega))) rfl<|Q.u 1 rfl<|Q.q (q.dS (i:=6) rfl rfl Try.underlying9 rfl hy3) rfl<|Q.q (q.iu (r:=((y3.toNat:Nat):Int)) rfl (by rw [Try.underlying5];rfl) Try.underlying3 (wr (by omega))) rfl<|Q.q (q.mul (r:=((256*y3.toNat:Nat):Int)) rfl rfl (wr (by omega))) rfl<|Q.q (q.add (r:=((y2.toNat+(256*y3.toNat):Nat):Int)) rfl rfl (wr (by omega))) rfl<|Q.u 1 rfl<|Q.nil ?_
      refine R.reg rfl<|R.u 1 rfl<|?_
      by_cases h3:41<(y2.toNat+(256*y3.toNat))
      ·
        refine R.q (q.gtr rfl rfl (decide_eq_true (by omega))) rfl<|R.nil ?_
        refine R.aK rfl rfl ?_
        refine R.reg rfl<|R.u 3 rfl<|R.nil ?_
        exact R.wL rfl Try.results43 rfl rfl rfl (wM (by (first|(rw [(aO (cr (by assumption))).1];rfl)|(rw [(aO (ct (by rw [ag hy1];omega) (by rw [ag hy1];omega))).1];rfl)|(rw [(aO (bj (by unfold aU;rw [ag hy2,ag hy3];omega))).1];rfl)|(rw [(aO (bj (by unfold aU;rw [ag hy4,ag cU];omega))).1];rfl)|(rw [(bw (bf (by assumption) (by rw [ag hy1];omega) (by unfold aU;rw [ag hy2,ag hy3];omega))).1,ag hy1])|(rw [(bw (bf (by assumption) (by rw [ag hy1];omega) (by unfold aU;rw [ag hy4,ag cU];omega))).1,ag hy1])))) (rS (by (first|(rw [(aO (cr (by assumption))).2])|(rw [(aO (ct (by rw [ag hy1];omega) (by rw [ag hy1];omega))).2])|(rw [(aO (bj (by unfold aU;rw [ag hy2,ag hy3];omega))).2])|(rw [(aO (bj (by unfold aU;rw [ag hy4,ag cU];omega))).2])|(rw [(bw (bf (by assumption) (by rw [ag hy1];omega) (by unfold aU;rw [ag hy2,ag hy3];omega))).2];unfold fE aU;rw [ag hy2,ag hy3])|(rw [(bw (bf (by assumption) (by rw [ag hy1];omega) (by unfold aU;rw [ag hy4,ag cU];omega))).2];unfold fE aU;rw [ag hy4,ag cU])))) (rB (by (first|(exact (cr (by assumption)).symm)|(exact (ct (by rw [ag hy1];omega) (by rw [ag hy1];omega)).symm)|(exact (bj (by unfold aU;rw [ag hy2,ag hy3];omega)).symm)|(exact (bj (by unfold aU;rw [ag hy4,ag cU];omega)).symm)|(exact (bf (by assumption) (by rw [ag hy1];omega) (by unfold aU;rw [ag hy2,ag hy3];omega)).symm)|(exact (bf (by assumption) (by rw [ag hy1];omega) (by unfold aU;rw [ag hy4,ag cU];omega)).symm))))
      ·
        refine R.q (q.gtr rfl rfl (decide_eq_false (by omega))) rfl<|R.nil ?_
        refine R.aI rfl rfl ?_
        refine R.d9 rfl mixed (by kernel_rfl)<|Q.u 1 rfl<|Q.q (q.dS (i:=0) rfl rfl Try.underlying9 rfl hy1) rfl<|Q.u 2 rfl<|Q.q (q.add (r:=((7+(y2.toNat+(256*y3.toNat)):Nat):Int)) rfl rfl (wr (by omega))) rfl<|Q.q (q.qt (i:=7) (j:=(7+(y2.toNat+(256*y3.toNat)))) rfl rfl rfl Try.underlying9 rfl rfl (by omega) (by omega)) rfl<|Q.u 3 rfl<|Q.nil ?_
        exact R.wL rfl Try.results43 rfl rfl rfl (wM (by (first|(rw [(aO (cr (by assumption))).1];rfl)|(rw [(aO (ct (by rw [ag hy1];omega) (by rw [ag hy1];omega))).1];rfl)|(rw [(aO (bj (by unfold aU;rw [ag hy2,ag hy3];omega))).1];rfl)|(rw [(aO (bj (by unfold aU;rw [ag hy4,ag cU];omega))).1];rfl)|(rw [(bw (bf (by assumption) (by rw [ag hy1];omega) (by unfold aU;rw [ag hy2,ag hy3];omega))).1,ag hy1])|(rw [(bw (bf (by assumption) (by rw [ag hy1];omega) (by unfold aU;rw [ag hy4,ag cU];omega))).1,ag hy1])))) (rS (by (first|(rw [(aO (cr (by assumption))).2])|(rw [(aO (ct (by rw [ag hy1];omega) (by rw [ag hy1];omega))).2])|(rw [(aO (bj (by unfold aU;rw [ag hy2,ag hy3];omega))).2])|(rw [(aO (bj (by unfold aU;rw [ag hy4,ag cU];omega))).2])|(rw [(bw (bf (by assumption) (by rw [ag hy1];omega) (by unfold aU;rw [ag hy2,ag hy3];omega))).2];unfold fE aU;rw [ag hy2,ag hy3])|(rw [(bw (bf (by assumption) (by rw [ag hy1];omega) (by unfold aU;rw [ag hy4,ag cU];omega))).2];unfold fE aU;rw [ag hy4,ag cU])))) (rB (by (first|(exact (cr (by assumption)).symm)|(exact (ct (by rw [ag hy1];omega) (by rw [ag hy1];omega)).symm)|(exact (bj (by unfold aU;rw [ag hy2,ag hy3];omega)).symm)|(exact (bj (by unfold aU;rw [ag hy4,ag cU];omega)).symm)|(exact (bf (by assumption) (by rw [ag hy1];omega) (by unfold aU;rw [ag hy2,ag hy3];omega)).symm)|(exact (bf (by assumption) (by rw [ag hy1];omega) (by unfold aU;rw [ag hy4,ag cU];omega)).symm))))
    ·
      by_cases h4:y1.toNat=99
      ·
        refine R.d9 rfl mixed (by kernel_rfl)<|Q.u 1 rfl<|Q.q (q.dj rfl rfl Try.underlying28 (by omega)) rfl<|Q.u 2 rfl<|Q.qg rfl (q.qt (i:=1) (j:=5) rfl rfl rfl Try.underlying9 rfl rfl (by omega) (by omega)) rfl<|Q.u 1 rfl<|Q.qg rfl (q.bm rfl) rfl<|Q.qg rfl (q.bJ (off':=3) rfl eX rfl) rfl<|Q.qg rfl (q.pC 1 rfl rfl aS rfl) rfl<|Q.u 1 rfl<|Q.qg rfl (q.add (r:=lg.First+(i:Int)) rfl rfl (wr (by omega))) rfl<|Q.cg rfl (q.call dB rfl rfl (fun w hw=>(bN ((lg.First+(i:Int))) w  (by omega)))) rfl<|Q.qg rfl (q.j0 rfl rfl h1) rfl<|Q.u 3 rfl<|Q.qg rfl (q.dS (i:=0) rfl rfl Try.underlying9 rfl hy1) rfl<|Q.qg rfl (q.neq rfl rfl (bne_iff_ne.2 (by omega))) rfl<|Q.u 2 rfl<|Q.qg rfl (q.dS (i:=0) rfl rfl Try.underlying9 rfl hy1) rfl<|Q.qg rfl (q.neq rfl rfl (bne_eq_false_iff_eq.2 (by omega))) rfl<|Q.u 2 rfl<|Q.nil ?_
        refine R.aI rfl rfl ?_
        obtain ⟨y4,hy4⟩:∃z,((a6 dk (lg.From+(i:Int))).1).data[5]? = some z:=⟨_,Array.getElem?_eq_getElem (show 5<((a6 dk (lg.From+(i:Int))).1).size from by omega)⟩
        have zf:=y4.toNat_lt
        obtain ⟨y5,cU⟩:∃z,((a6 dk (lg.From+(i:Int))).1).data[6]? = some z:=⟨_,Array.getElem?_eq_getElem (show 6<((a6 dk (lg.From+(i:Int))).1).size from by omega)⟩
        have zO:=y5.toNat_lt
        refine R.d9 rfl mixed (by kernel_rfl)<|Q.u 1 rfl<|Q.q (q.dS (i:=5) rfl rfl Try.underlying9 rfl hy4) rfl<|Q.q (q.iu (r:=((y4.toNat:Nat):Int)) rfl (by rw [Try.underlying5];rfl) Try.underlying3 (wr (by omega))) rfl<|Q.u 1 rfl<|Q.q (q.dS (i:=6) rfl rfl Try.underlying9 rfl cU) rfl<|Q.q (q.iu (r:=((y5.toNat:Nat):Int)) rfl (by rw [Try.underlying5];rfl) Try.underlying3 (wr (by omega))) rfl<|Q.q (q.mul (r:=((256*y5.toNat:Nat):Int)) rfl rfl (wr (by omega))) rfl<|Q.q (q.add (r:=((y4.toNat+(256*y5.toNat):Nat):Int)) rfl rfl (wr (by omega))) rfl<|Q.u 1 rfl<|Q.nil ?_
        refine R.reg rfl<|R.u 1 rfl<|?_
        by_cases h5:41<(y4.toNat+(256*y5.toNat))
        ·
          refine R.q (q.gtr rfl rfl (decide_eq_true (by omega))) rfl<|R.nil ?_
          refine R.aK rfl rfl ?_
          refine R.reg rfl<|R.u 3 rfl<|R.nil ?_
          exact R.wL rfl Try.results43 rfl rfl rfl (wM (by (first|(rw [(aO (cr (by assumption))).1];rfl)|(rw [(aO (ct (by rw [ag hy1];omega) (by rw [ag hy1];omega))).1];rfl)|(rw [(aO (bj (by unfold aU;rw [ag hy2,ag hy3];omega))).1];rfl)|(rw [(aO (bj (by unfold aU;rw [ag hy4,ag cU];omega))).1];rfl)|(rw [(bw (bf (by assumption) (by rw [ag hy1];omega) (by unfold aU;rw [ag hy2,ag hy3];omega))).1,ag hy1])|(rw [(bw (bf (by assumption) (by rw [ag hy1];omega) (by unfold aU;rw [ag hy4,ag cU];omega))).1,ag hy1])))) (rS (by (first|(rw [(aO (cr (by assumption))).2])|(rw [(aO (ct (by rw [ag hy1];omega) (by rw [ag hy1];omega))).2])|(rw [(aO (bj (by unfold aU;rw [ag hy2,ag hy3];omega))).2])|(rw [(aO (bj (by unfold aU;rw [ag hy4,ag cU];omega))).2])|(rw [(bw (bf (by assumption) (by rw [ag hy1];omega) (by unfold aU;rw [ag hy2,ag hy3];omega))).2];unfold fE aU;rw [ag hy2,ag hy3])|(rw [(bw (bf (by assumption) (by rw [ag hy1];omega) (by unfold aU;rw [ag hy4,ag cU];omega))).2];unfold fE aU;rw [ag hy4,ag cU])))) (rB (by (first|(exact (cr (by assumption)).symm)|(exact (ct (by rw [ag hy1];omega) (by rw [ag hy1];omega)).symm)|(exact (bj (by unfold aU;rw [ag hy2,ag hy3];omega)).symm)|(exact (bj (by unfold aU;rw [ag hy4,ag cU];omega)).symm)|(exact (bf (by assumption) (by rw [ag hy1];omega) (by unfold aU;rw [ag hy2,ag hy3];omega)).symm)|(exact (bf (by assumption) (by rw [ag hy1];omega) (by unfold aU;rw [ag hy4,ag cU];omega)).symm))))
        ·
          refine R.q (q.gtr rfl rfl (decide_eq_false (by omega))) rfl<|R.nil ?_
          refine R.aI rfl rfl ?_
          refine R.d9 rfl mixed (by kernel_rfl)<|Q.u 1 rfl<|Q.q (q.dS (i:=0) rfl rfl Try.underlying9 rfl hy1) rfl<|Q.u 2 rfl<|Q.q (q.add (r:=((7+(y4.toNat+(256*y5.toNat)):Nat):Int)) rfl rfl (wr (by omega))) rfl<|Q.q (q.qt (i:=7) (j:=(7+(y4.toNat+(256*y5.toNat)))) rfl rfl rfl Try.underlying9 rfl rfl (by omega) (by omega)) rfl<|Q.u 3 rfl<|Q.nil ?_
          exact R.wL rfl Try.results43 rfl rfl rfl (wM (by (first|(rw [(aO (cr (by assumption))).1];rfl)|(rw [(aO (ct (by rw [ag hy1];omega) (by rw [ag hy1];omega))).1];rfl)|(rw [(aO (bj (by unfold aU;rw [ag hy2,ag hy3];omega))).1];rfl)|(rw [(aO (bj (by unfold aU;rw [ag hy4,ag cU];omega))).1];rfl)|(rw [(bw (bf (by assumption) (by rw [ag hy1];omega) (by unfold aU;rw [ag hy2,ag hy3];omega))).1,ag hy1])|(rw [(bw (bf (by assumption) (by rw [ag hy1];omega) (by unfold aU;rw [ag hy4,ag cU];omega))).1,ag hy1])))) (rS (by (first|(rw [(aO (cr (by assumption))).2])|(rw [(aO (ct (by rw [ag hy1];omega) (by rw [ag hy1];omega))).2])|(rw [(aO (bj (by unfold aU;rw [ag hy2,ag hy3];omega))).2])|(rw [(aO (bj (by unfold aU;rw [ag hy4,ag cU];omega))).2])|(rw [(bw (bf (by assumption) (by rw [ag hy1];omega) (by unfold aU;rw [ag hy2,ag hy3];omega))).2];unfold fE aU;rw [ag hy2,ag hy3])|(rw [(bw (bf (by assumption) (by rw [ag hy1];omega) (by unfold aU;rw [ag hy4,ag cU];omega))).2];unfold fE aU;rw [ag hy4,ag cU])))) (rB (by (first|(exact (cr (by assumption)).symm)|(exact (ct (by rw [ag hy1];omega) (by rw [ag hy1];omega)).symm)|(exact (bj (by unfold aU;rw [ag hy2,ag hy3];omega)).symm)|(exact (bj (by unfold aU;rw [ag hy4,ag cU];omega)).symm)|(exact (bf (by assumption) (by rw [ag hy1];omega) (by unfold aU;rw [ag hy2,ag hy3];omega)).symm)|(exact (bf (by assumption) (by rw [ag hy1];omega) (by unfold aU;rw [ag hy4,ag cU];omega)).symm))))
      ·
        refine R.d9 rfl mixed (by kernel_rfl)<|Q.u 1 rfl<|Q.q (q.dj rfl rfl Try.underlying28 (by omega)) rfl<|Q.u 2 rfl<|Q.qg rfl (q.qt (i:=1) (j:=5) rfl rfl rfl Try.underlying9 rfl rfl (by omega) (by omega)) rfl<|Q.u 1 rfl<|Q.qg rfl (q.bm rfl) rfl<|Q.qg rfl (q.bJ (off':=3) rfl eX rfl) rfl<|Q.qg rfl (q.pC 1 rfl rfl aS rfl) rfl<|Q.u 1 rfl<|Q.qg rfl (q.add (r:=lg.First+(i:Int)) rfl rfl (wr (by omega))) rfl<|Q.cg rfl (q.call dB rfl rfl (fun w hw=>(bN ((lg.First+(i:Int))) w  (by omega)))) rfl<|Q.qg rfl (q.j0 rfl rfl h1) rfl<|Q.u 3 rfl<|Q.qg rfl (q.dS (i:=0) rfl rfl Try.underlying9 rfl hy1) rfl<|Q.qg rfl (q.neq rfl rfl (bne_iff_ne.2 (by omega))) rfl<|Q.u 2 rfl<|Q.qg rfl (q.dS (i:=0) rfl rfl Try.underlying9 rfl hy1) rfl<|Q.qg rfl (q.neq rfl rfl (bne_iff_ne.2 (by omega))) rfl<|Q.u 2 rfl<|Q.nil ?_
        refine R.aK rfl rfl ?_
        refine R.reg rfl<|R.u 3 rfl<|R.nil ?_
        exact R.wL rfl Try.results43 rfl rfl rfl (wM (by (first|(rw [(aO (cr (by assumption))).1];rfl)|(rw [(aO (ct (by rw [ag hy1];omega) (by rw [ag hy1];omega))).1];rfl)|(rw [(aO (bj (by unfold aU;rw [ag hy2,ag hy3];omega))).1];rfl)|(rw [(aO (bj (by unfold aU;rw [ag hy4,ag cU];omega))).1];rfl)|(rw [(bw (bf (by assumption) (by rw [ag hy1];omega) (by unfold aU;rw [ag hy2,ag hy3];omega))).1,ag hy1])|(rw [(bw (bf (by assumption) (by rw [ag hy1];omega) (by unfold aU;rw [ag hy4,ag cU];omega))).1,ag hy1])))) (rS (by (first|(rw [(aO (cr (by assumption))).2])|(rw [(aO (ct (by rw [ag hy1];omega) (by rw [ag hy1];omega))).2])|(rw [(aO (bj (by unfold aU;rw [ag hy2,ag hy3];omega))).2])|(rw [(aO (bj (by unfold aU;rw [ag hy4,ag cU];omega))).2])|(rw [(bw (bf (by assumption) (by rw [ag hy1];omega) (by unfold aU;rw [ag hy2,ag hy3];omega))).2];unfold fE aU;rw [ag hy2,ag hy3])|(rw [(bw (bf (by assumption) (by rw [ag hy1];omega) (by unfold aU;rw [ag hy4,ag cU];omega))).2];unfold fE aU;rw [ag hy4,ag cU])))) (rB (by (first|(exact (cr (by assumption)).symm)|(exact (ct (by rw [ag hy1];omega) (by rw [ag hy1];omega)).symm)|(exact (bj (by unfold aU;rw [ag hy2,ag hy3];omega)).symm)|(exact (bj (by unfold aU;rw [ag hy4,ag cU];omega)).symm)|(exact (bf (by assumption) (by rw [ag hy1];omega) (by unfold aU;rw [ag hy2,ag hy3];omega)).symm)|(exact (bf (by assumption) (by rw [ag hy1];omega) (by unfold aU;rw [ag hy4,ag cU];omega)).symm))))
  ·
    refine R.d9 rfl mixed (by kernel_rfl)<|Q.u 1 rfl<|Q.q (q.dj rfl rfl Try.underlying28 (by omega)) rfl<|Q.u 2 rfl<|Q.qg rfl (q.qt (i:=1) (j:=5) rfl rfl rfl Try.underlying9 rfl rfl (by omega) (by omega)) rfl<|Q.u 1 rfl<|Q.qg rfl (q.bm rfl) rfl<|Q.qg rfl (q.bJ (off':=3) rfl eX rfl) rfl<|Q.qg rfl (q.pC 1 rfl rfl aS rfl) rfl<|Q.u 1 rfl<|Q.qg rfl (q.add (r:=lg.First+(i:Int)) rfl rfl (wr (by omega))) rfl<|Q.cg rfl (q.call dB rfl rfl (fun w hw=>(bN ((lg.First+(i:Int))) w  (by omega)))) rfl<|Q.qg rfl (q.lq rfl rfl h1) rfl<|Q.u 11 rfl<|Q.nil ?_
    refine R.aK rfl rfl ?_
    refine R.reg rfl<|R.u 3 rfl<|R.nil ?_
    exact R.wL rfl Try.results43 rfl rfl rfl (wM (by (first|(rw [(aO (cr (by assumption))).1];rfl)|(rw [(aO (ct (by rw [ag hy1];omega) (by rw [ag hy1];omega))).1];rfl)|(rw [(aO (bj (by unfold aU;rw [ag hy2,ag hy3];omega))).1];rfl)|(rw [(aO (bj (by unfold aU;rw [ag hy4,ag cU];omega))).1];rfl)|(rw [(bw (bf (by assumption) (by rw [ag hy1];omega) (by unfold aU;rw [ag hy2,ag hy3];omega))).1,ag hy1])|(rw [(bw (bf (by assumption) (by rw [ag hy1];omega) (by unfold aU;rw [ag hy4,ag cU];omega))).1,ag hy1])))) (rS (by (first|(rw [(aO (cr (by assumption))).2])|(rw [(aO (ct (by rw [ag hy1];omega) (by rw [ag hy1];omega))).2])|(rw [(aO (bj (by unfold aU;rw [ag hy2,ag hy3];omega))).2])|(rw [(aO (bj (by unfold aU;rw [ag hy4,ag cU];omega))).2])|(rw [(bw (bf (by assumption) (by rw [ag hy1];omega) (by unfold aU;rw [ag hy2,ag hy3];omega))).2];unfold fE aU;rw [ag hy2,ag hy3])|(rw [(bw (bf (by assumption) (by rw [ag hy1];omega) (by unfold aU;rw [ag hy4,ag cU];omega))).2];unfold fE aU;rw [ag hy4,ag cU])))) (rB (by (first|(exact (cr (by assumption)).symm)|(exact (ct (by rw [ag hy1];omega) (by rw [ag hy1];omega)).symm)|(exact (bj (by unfold aU;rw [ag hy2,ag hy3];omega)).symm)|(exact (bj (by unfold aU;rw [ag hy4,ag cU];omega)).symm)|(exact (bf (by assumption) (by rw [ag hy1];omega) (by unfold aU;rw [ag hy2,ag hy3];omega)).symm)|(exact (bf (by assumption) (by rw [ag hy1];omega) (by unfold aU;rw [ag hy4,ag cU];omega)).symm))))
set_option maxRecDepth 100000 in
set_option maxHeartbeats 1600000 in
theorem o8 (au:Nat)(ao ap ak:Value)(dk:bp)(cR:Int)(many:Int)(first:Int)(w:World)(own:List Nat)(H:Wd w (blks [ah.box au [ao,ap,ak,.int .i64 dk.Fuse,.bool dk.Down] 81,ah.row 9 ao (dk.Kept:List ByteArray),ah.row 9 ap (dk.Now:List ByteArray),ah.row 83 ak (dk.Wait:List Turn)]++own) ([ah.box au [ao,ap,ak,.int .i64 dk.Fuse,.bool dk.Down] 81,ah.row 9 ao (dk.Kept:List ByteArray),ah.row 9 ap (dk.Now:List ByteArray),ah.row 83 ak (dk.Wait:List Turn)]++[ah.held w own]) [] w)(hb:0≤cR∧1≤many∧cR+many≤(dk.Now.length:Int)∧1≤first∧first≤4000000000000000000)(hd:dk.Down=false)(hD:cz dk.Now.length 90000 dk∧dk.Now.length≤100000):Calls Try.prog 11 #[.pointer (some ⟨au,0,none⟩),.int .i64 cR,.int .i64 many,.int .i64 first] w fun e w' => ∃z:Value×Value×Value×Nat×Value×List bS,e = .returned (.tuple #[.pointer (some ⟨z.2.2.2.1,0,none⟩),z.2.2.2.2.1,.nilIface])∧Wd w (blks [ah.box au [ao,ap,ak,.int .i64 dk.Fuse,.bool dk.Down] 81,ah.row 9 ao (dk.Kept:List ByteArray),ah.row 9 ap (dk.Now:List ByteArray),ah.row 83 ak (dk.Wait:List Turn)]++own) ([ah.box au [z.1,z.2.1,z.2.2.1,.int .i64 ((dk).Fuse),.bool ((dk).Down)] 81,ah.row 9 z.1 ((dk).Kept:List ByteArray),ah.row 9 z.2.1 ((dk).Now:List ByteArray),ah.row 83 z.2.2.1 ((dk).Wait:List Turn),ah.box z.2.2.2.1 [.pointer (some ⟨au,0,none⟩),.int .i64 (((⟨cR,many,first,(bY dk cR (Int.toNat many) first:Int)⟩:Lg)).From),.int .i64 (((⟨cR,many,first,(bY dk cR (Int.toNat many) first:Int)⟩:Lg)).Many),.int .i64 (((⟨cR,many,first,(bY dk cR (Int.toNat many) first:Int)⟩:Lg)).First),.int .i64 (((⟨cR,many,first,(bY dk cR (Int.toNat many) first:Int)⟩:Lg)).Next)] 85]++[ah.held w own]) [ah.ls z.2.2.2.2.1 (z.2.2.2.2.2:List bS),ah.i5 (z.2.2.2.2.2:List bS) ((dz dk cR (Int.toNat many) first))] w':=by
  have cM:=H.cap 1 rfl;have cN:=H.aU 1 rfl
  have dv:=H.cap 2 rfl;have dw:=H.aU 2 rfl
  have cO:=H.cap 3 rfl;have cQ:=H.aU 3 rfl
  obtain ⟨manyN,wn⟩:∃m:Nat,many=(m:Int):=⟨many.toNat,by omega⟩;subst wn
  refine R.bW (n:=103) (vs:=[.pointer (some ⟨au,0,none⟩),.int .i64 cR,.int .i64 (manyN:Int),.int .i64 first]) (B:=[ah.box au [ao,ap,ak,.int .i64 dk.Fuse,.bool dk.Down] 81,ah.row 9 ao (dk.Kept:List ByteArray),ah.row 9 ap (dk.Now:List ByteArray),ah.row 83 ak (dk.Wait:List Turn),ah.held w own]) [(0,.pointer (some ⟨au,0,none⟩)),(1,.int .i64 cR),(2,.int .i64 (manyN:Int)),(3,.int .i64 first)] Try.func11 rfl rfl rfl rfl H ?_
  refine R.reg rfl<|R.u 3 rfl<|R.nil ?_
  refine R.reg rfl<|R.u 1 rfl<|R.q (q.lss rfl rfl (decide_eq_false (by omega))) rfl<|R.u 2 rfl<|R.qg rfl (q.lss rfl rfl (decide_eq_false (by omega))) rfl<|R.u 4 rfl<|R.cg rfl (q.call kI rfl rfl (fun w hw=>(c9 au ao ap ak  (dk) w (hw.b 0 rfl) ((fun _=>Wd.row 1 rfl) w hw) ((fun _=>Wd.row 2 rfl) w hw) ((fun _=>Wd.row 3 rfl) w hw) ))) rfl<|R.qg rfl (q.gtr rfl rfl (decide_eq_false (by omega))) rfl<|R.u 4 rfl<|R.cg rfl (q.call kI rfl rfl (fun w hw=>(c9 au ao ap ak  (dk) w (hw.b 0 rfl) ((fun _=>Wd.row 1 rfl) w hw) ((fun _=>Wd.row 2 rfl) w hw) ((fun _=>Wd.row 3 rfl) w hw) ))) rfl<|R.u 1 rfl<|R.qg rfl (q.sub (r:=(dk.Now.length:Int)-(manyN:Int)) rfl rfl (wr (by omega))) rfl<|R.qg rfl (q.gtr rfl rfl (decide_eq_false (by omega))) rfl<|R.u 3 rfl<|R.qg rfl (q.lss rfl rfl (decide_eq_false (by omega))) rfl<|R.u 1 rfl<|R.nil ?_
  refine R.aI rfl rfl ?_
  refine R.reg rfl<|R.u 1 rfl<|R.c (q.call vw rfl rfl (fun w hw=>(cv (congrArg Value.bool hd) (m7 au ao ap ak  (dk) w (hw.b 0 rfl) ((fun _=>Wd.row 1 rfl) w hw) ((fun _=>Wd.row 2 rfl) w hw) ((fun _=>Wd.row 3 rfl) w hw) )))) rfl<|R.nil ?_
  refine R.aI rfl rfl ?_
  refine R.reg rfl<|R.u 4 rfl<|R.q (q.build (cs:=[.pointer (some ⟨au,0,none⟩),.int .i64 cR,.int .i64 (manyN:Int),.int .i64 first,.int .i64 0]) xq rfl rfl) rfl<|?_
  refine R.s rfl (s.box (cs:=[.pointer (some ⟨au,0,none⟩),.int .i64 cR,.int .i64 (manyN:Int),.int .i64 first,.int .i64 0]) rfl rfl rfl) fun b1=>?_
  refine R.u 1 rfl<|R.nil ?_
  refine R.reg rfl<|R.u 1 rfl<|R.nil ?_
  refine R.reg rfl<|R.u 1 rfl<|R.nil ?_
  refine R.reg rfl<|R.u 2 rfl<|R.nil ?_
  refine R.mp (fun _ hw=>hw.xn) ?_
  refine R.row0 (α:=bS) 46 ?_
  refine R.row0 (α:=Change) 51 ?_
  refine R.loop (fun g_:Nat×Nat×Value×(List bS)×Value×(List Change)=>[(11,.pointer (some ⟨b1,0,none⟩)),(12,g_.2.2.1),(13,g_.2.2.2.2.1),(54,.int .i64 (manyN:Int)),(55,.int .i64 (g_.1:Int))]) (fun g_:Nat×Nat×Value×(List bS)×Value×(List Change)=>[ah.row 51 g_.2.2.2.2.1 (g_.2.2.2.2.2:List Change),ah.row 46 g_.2.2.1 (g_.2.2.2.1:List bS),ah.box b1 [.pointer (some ⟨au,0,none⟩),.int .i64 cR,.int .i64 (manyN:Int),.int .i64 first,.int .i64 (g_.2.1:Int)] 85,ah.box au [ao,ap,ak,.int .i64 dk.Fuse,.bool dk.Down] 81,ah.row 9 ao (dk.Kept:List ByteArray),ah.row 9 ap (dk.Now:List ByteArray),ah.row 83 ak (dk.Wait:List Turn),ah.held w own]) (fun g_:Nat×Nat×Value×(List bS)×Value×(List Change)=>[ah.cw (g_.2.2.2.1:List bS),ah.cw ([]:List bS)]) (fun g_:Nat×Nat×Value×(List bS)×Value×(List Change)=>g_.1≤manyN∧dF ((je dk cR manyN).drop g_.1) (first+(g_.1:Int)) (g_.2.2.2.1.map bS.L) g_.2.2.2.2.2 g_.2.1 g_.1=scan (je dk cR manyN) first∧g_.2.2.2.2.2.length≤g_.1∧g_.2.2.2.1.length≤g_.1∧g_.2.1≤g_.1) (fun g_:Nat×Nat×Value×(List bS)×Value×(List Change)=>manyN-g_.1) (0,0,(.slice none 0 0),[],(.slice none 0 0),[]) rfl (by (try dsimp only);exact ⟨by omega,by show dF _ (first+0) _ _ _ _=_;rw [Int.add_zero];rfl,by simp,by simp,by simp⟩) ⟨rfl,rfl,rfl,rfl,rfl,trivial⟩ (fun _=>Wd.pick [0,1,2,3,4,5,6,7] [0,0] rfl rfl rfl) ?_
  rintro ⟨i,u,qo,ob,qd,dd⟩ ⟨hi,HS,hdl,hol,Av⟩
  dsimp only at *
  refine R.reg rfl<|?_
  by_cases h1:i<manyN
  ·
    refine R.q (q.lss rfl rfl (decide_eq_true (by omega))) rfl<|R.nil ?_
    refine R.aK rfl rfl ?_
    refine R.reg rfl<|R.u 2 rfl<|R.nil ?_
    have hrd:=lW hD.1 hd (i:=cR+(i:Int)) (by omega) (by omega);obtain ⟨hrd,hsz⟩:=hrd;have hlx:=pO (n:=first+(i:Int)) hsz
    refine R.reg rfl<|R.u 2 rfl<|R.c (q.call xA rfl rfl (fun w hw=>(cv (show (.tuple #[.int .u8 (iL ((a6 dk ((⟨cR,(manyN:Int),first,(u:Int)⟩:Lg).From+(i:Int))).1) ((⟨cR,(manyN:Int),first,(u:Int)⟩:Lg).First+(i:Int)):Int),.string (dh ((a6 dk ((⟨cR,(manyN:Int),first,(u:Int)⟩:Lg).From+(i:Int))).1) ((⟨cR,(manyN:Int),first,(u:Int)⟩:Lg).First+(i:Int))),.bool (dQ ((a6 dk ((⟨cR,(manyN:Int),first,(u:Int)⟩:Lg).From+(i:Int))).1) ((⟨cR,(manyN:Int),first,(u:Int)⟩:Lg).First+(i:Int)))]:Value) = .tuple #[.int .u8 (iL ((a6 dk (cR+(i:Int))).1) (first+(i:Int)):Int),.string (dh ((a6 dk (cR+(i:Int))).1) (first+(i:Int))),.bool (dQ ((a6 dk (cR+(i:Int))).1) (first+(i:Int)))] from rfl) (tq b1   ((⟨cR,(manyN:Int),first,(u:Int)⟩:Lg)) (i) au ao ap ak  (dk) w (hw.b 2 rfl) (hw.b 3 rfl) ((fun _=>Wd.row 4 rfl) w hw) ((fun _=>Wd.row 5 rfl) w hw) ((fun _=>Wd.row 6 rfl) w hw) (by first|assumption|omega|(dsimp only;omega)) (by assumption) (by assumption))))) rfl<|R.u 7 rfl<|R.nil ?_
    refine R.reg rfl<|R.u 1 rfl<|R.q (q.not rfl) rfl<|R.u 1 rfl<|?_
    rcases Bool.eq_false_or_eq_true (dQ ((a6 dk (cR+(i:Int))).1) (first+(i:Int))) with h2|h2
    ·
      rw [h2]
      refine R.u 1 rfl<|?_
      by_cases h3:iL ((a6 dk (cR+(i:Int))).1) (first+(i:Int))=99
      ·
        refine R.qg rfl (q.eql rfl rfl (beq_iff_eq.2 (by omega))) rfl<|R.u 3 rfl<|R.qg rfl (q.len' (fun _=>Wd.row 0 rfl) rfl Try.underlying46) rfl<|R.cg rfl (q.call dB rfl rfl (fun w hw=>(bN ((dd.length:Int)) w  (by omega)))) rfl<|?_
        by_cases h4:dh ((a6 dk (cR+(i:Int))).1) (first+(i:Int))=aM (dd.length:Int)
        ·
          refine R.qg rfl (q.j0 rfl rfl h4) rfl<|R.u 2 rfl<|R.nil ?_
          refine R.aI rfl rfl ?_
          refine R.reg rfl<|R.u 1 rfl<|R.q (q.eql rfl rfl (beq_iff_eq.2 (by omega))) rfl<|R.nil ?_
          refine R.aK rfl rfl ?_
          refine R.reg rfl<|R.u 3 rfl<|?_
          refine R.s rfl (s.zJ (l:=([(⟨qd,dd⟩:bS)]:List bS)) iw sL rfl rfl rfl rfl rfl (fun w hw=>rA ((fun _=>Wd.row 0 rfl) w hw)) rfl) fun b2=>?_
          refine R.s rfl (s.app (l2:=[(⟨qd,dd⟩:bS)]) 2 _ rfl rfl rfl (fun _=>Wd.row 0 rfl) uA (by first|omega|(simp;done)|(simp;omega)) (by first|omega|(simp;done)|(simp;omega)) (fun _=>rfl) rfl) fun v1=>?_
          refine R.u 1 rfl<|R.q (q.add (r:=((i+1:Nat):Int)) rfl rfl (wr (by omega))) rfl<|R.u 2 rfl<|R.q (q.bm rfl) rfl<|R.q (q.bJ (off':=4) rfl eY rfl) rfl<|?_
          refine R.s rfl (s.st (us:=[.int .i64 ((i+1):Int)]) (cs':=[.pointer (some ⟨au,0,none⟩),.int .i64 cR,.int .i64 (manyN:Int),.int .i64 first,.int .i64 ((i+1):Int)]) 3 _ rfl rfl rfl rfl (.inr ⟨aS,rfl⟩) rfl rfl rfl rfl) fun _=>?_
          refine R.nil ?_
          refine R.reg rfl<|R.q (q.add (r:=((i+1:Nat):Int)) rfl rfl (wr (by omega))) rfl<|R.u 1 rfl<|R.nil ?_
          refine R.mp (B':=[ah.row 46 (.slice (some ⟨b2,0,none⟩) 1 1) ([(⟨qd,dd⟩:bS)]:List bS),ah.row 46 v1 ((ob++([(⟨qd,dd⟩:bS)])):List bS),ah.box b1 [.pointer (some ⟨au,0,none⟩),.int .i64 cR,.int .i64 (manyN:Int),.int .i64 first,.int .i64 ((i+1):Int)] 85,ah.box au [ao,ap,ak,.int .i64 dk.Fuse,.bool dk.Down] 81,ah.row 9 ao (dk.Kept:List ByteArray),ah.row 9 ap (dk.Now:List ByteArray),ah.row 83 ak (dk.Wait:List Turn),ah.held w own]) (fun _ hw=>hw.fR 1 _ rfl rfl) ?_
          refine R.mp (fun _ hw=>hw.ux 1 0 rfl rfl) ?_
          refine R.row0 (α:=Change) 51 ?_
          refine R.back (i+1,(i+1),v1,(ob++([(⟨qd,dd⟩:bS)])),(.slice none 0 0),[]) rfl (by ((try dsimp only);exact ⟨by omega,by rw [List.map_append];exact s9 HS (dy (by omega)) (wj (by assumption) (by assumption) (by assumption)),by simp,by simp;omega,by omega⟩)) (by dsimp only;omega) ⟨rfl,rfl,rfl,rfl,rfl,trivial⟩ (fun _=>Wd.aA [0,2,3,4,5,6,7,8] [0,3] rfl rfl rfl)
        ·
          refine R.qg rfl (q.lq rfl rfl h4) rfl<|R.u 2 rfl<|R.nil ?_
          refine R.aK rfl rfl ?_
          refine R.reg rfl<|R.u 5 rfl<|R.nil ?_
          refine R.mp (fun _ hw=>hw.nM 0 rfl) ?_
          refine R.mp (B':=[ah.row 51 qd (dd:List Change),ah.box b1 [.pointer (some ⟨au,0,none⟩),.int .i64 cR,.int .i64 (manyN:Int),.int .i64 first,.int .i64 (u:Int)] 85,ah.box au [ao,ap,ak,.int .i64 dk.Fuse,.bool dk.Down] 81,ah.row 9 ao (dk.Kept:List ByteArray),ah.row 9 ap (dk.Now:List ByteArray),ah.row 83 ak (dk.Wait:List Turn),ah.held w own]) (fun _ hw=>hw.fR 1 _ rfl rfl) ?_
          have hz:(dk,(⟨cR,((manyN:Nat):Int),first,(bY dk cR (Int.toNat ((manyN:Nat):Int)) first:Int)⟩:Lg),dz dk cR (Int.toNat ((manyN:Nat):Int)) first)=(dk,(⟨cR,(manyN:Int),first,(u:Int)⟩:Lg),(ob.map bS.L)):=by (first|((try dsimp only);have e:=eo HS (dy (by omega)) (fF (k:=(dd.length:Int)) (by assumption)).1 (fF (k:=(dd.length:Int)) (by assumption)).2;unfold bY dz;rw [show Int.toNat ((manyN:Nat):Int)=manyN from rfl,e])|((try dsimp only);have e:=eo HS (dy (by omega)) (fG (k:=(dd.length:Int)) (by assumption) (by assumption) (by assumption)).1 (fG (k:=(dd.length:Int)) (by assumption) (by assumption) (by assumption)).2;unfold bY dz;rw [show Int.toNat ((manyN:Nat):Int)=manyN from rfl,e])|((try dsimp only);have e:=eo HS (dy (by omega)) (fH (k:=(dd.length:Int)) (by assumption) (by assumption) (by assumption)).1 (fH (k:=(dd.length:Int)) (by assumption) (by assumption) (by assumption)).2;unfold bY dz;rw [show Int.toNat ((manyN:Nat):Int)=manyN from rfl,e])|((try dsimp only);have e:=nX HS (by rw [fI];omega);unfold bY dz;rw [show Int.toNat ((manyN:Nat):Int)=manyN from rfl,e]))
          have hz0:((manyN:Nat):Int)=(manyN:Int):=congrArg (fun t_=>t_.2.1.Many) hz
          rw [hz0]
          have hz1:(bY dk cR (Int.toNat ((manyN:Nat):Int)) first:Int)=(u:Int):=congrArg (fun t_=>t_.2.1.Next) hz
          rw [hz1]
          have hz2:dz dk cR (Int.toNat ((manyN:Nat):Int)) first=(ob.map bS.L):=congrArg (fun t_=>t_.2.2) hz
          rw [hz2]
          exact R.w3 (ao,ap,ak,b1,qo,ob) [2,3,4,5,1,6] [0,1] rfl Try.results11 (RV.tmp rfl) (RV.tmp rfl) (RV.tmp rfl) rfl rfl rfl (sy rfl rfl rfl)
      ·
        refine R.qg rfl (q.eql rfl rfl (beq_eq_false_iff_ne.2 (by omega))) rfl<|R.u 8 rfl<|R.nil ?_
        refine R.aI rfl rfl ?_
        refine R.reg rfl<|R.u 1 rfl<|R.q (q.eql rfl rfl (beq_eq_false_iff_ne.2 (by omega))) rfl<|R.nil ?_
        refine R.aI rfl rfl ?_
        refine R.reg rfl<|R.u 1 rfl<|R.c (q.call xB rfl rfl (fun w hw=>(nU (dh ((a6 dk (cR+(i:Int))).1) (first+(i:Int))) w  (by omega)))) rfl<|R.u 3 rfl<|?_
        refine R.s rfl (s.alloc (cs:=[.string (⟨#[]⟩),.string (⟨#[]⟩),.bool false]) bT rfl rfl) fun b3=>?_
        refine R.s rfl (s.st (us:=[.string (((ib (dh ((a6 dk (cR+(i:Int))).1) (first+(i:Int)))).1).Key),.string (((ib (dh ((a6 dk (cR+(i:Int))).1) (first+(i:Int)))).1).Val),.bool (((ib (dh ((a6 dk (cR+(i:Int))).1) (first+(i:Int)))).1).Gone)]) (cs':=[.string (((ib (dh ((a6 dk (cR+(i:Int))).1) (first+(i:Int)))).1).Key),.string (((ib (dh ((a6 dk (cR+(i:Int))).1) (first+(i:Int)))).1).Val),.bool (((ib (dh ((a6 dk (cR+(i:Int))).1) (first+(i:Int)))).1).Gone)]) 0 _ rfl rfl rfl rfl (.inl aX) rfl rfl rfl rfl) fun _=>?_
        refine R.u 1 rfl<|R.nil ?_
        refine R.reg rfl<|R.u 1 rfl<|?_
        by_cases h5:(ib (dh ((a6 dk (cR+(i:Int))).1) (first+(i:Int)))).2=0
        ·
          refine R.q (q.dj rfl rfl Try.underlying28 (by omega)) rfl<|R.nil ?_
          refine R.aI rfl rfl ?_
          refine R.reg rfl<|R.u 1 rfl<|R.q (q.mD 0 rfl rfl aX) rfl<|?_
          refine R.s rfl (s.bs (l:=([((ib (dh ((a6 dk (cR+(i:Int))).1) (first+(i:Int)))).1)]:List Change)) aT bT rfl rfl rfl rfl rfl rfl rfl) fun b4=>?_
          refine R.s rfl (s.app (l2:=[((ib (dh ((a6 dk (cR+(i:Int))).1) (first+(i:Int)))).1)]) 2 _ rfl rfl rfl (fun _=>Wd.row 0 rfl) ek (by first|omega|(simp;done)|(simp;omega)) (by first|omega|(simp;done)|(simp;omega)) (fun _=>rfl) rfl) fun v2=>?_
          refine R.u 1 rfl<|R.nil ?_
          refine R.reg rfl<|R.q (q.add (r:=((i+1:Nat):Int)) rfl rfl (wr (by omega))) rfl<|R.u 1 rfl<|R.nil ?_
          refine R.back (i+1,u,qo,ob,v2,(dd++([((ib (dh ((a6 dk (cR+(i:Int))).1) (first+(i:Int)))).1)]))) rfl (by ((try dsimp only);have e:=wk (k:=(dd.length:Int)) (by assumption) (by assumption) (by assumption);exact ⟨by omega,by rw [e.2.2];exact uK HS (dy (by omega)) e.1 e.2.1,by simp;omega,by omega,by omega⟩)) (by dsimp only;omega) ⟨rfl,rfl,rfl,rfl,rfl,trivial⟩ (fun _=>Wd.aA [2,3,4,5,6,7,8,9] [0,1] rfl rfl rfl)
        ·
          refine R.q (q.fy rfl rfl Try.underlying28 (by omega)) rfl<|R.nil ?_
          refine R.aK rfl rfl ?_
          refine R.reg rfl<|R.u 5 rfl<|R.nil ?_
          refine R.mp (fun _ hw=>hw.nM 0 rfl) ?_
          refine R.mp (B':=[ah.box b3 [.string (((ib (dh ((a6 dk (cR+(i:Int))).1) (first+(i:Int)))).1).Key),.string (((ib (dh ((a6 dk (cR+(i:Int))).1) (first+(i:Int)))).1).Val),.bool (((ib (dh ((a6 dk (cR+(i:Int))).1) (first+(i:Int)))).1).Gone)] 51,ah.row 51 qd (dd:List Change),ah.box b1 [.pointer (some ⟨au,0,none⟩),.int .i64 cR,.int .i64 (manyN:Int),.int .i64 first,.int .i64 (u:Int)] 85,ah.box au [ao,ap,ak,.int .i64 dk.Fuse,.bool dk.Down] 81,ah.row 9 ao (dk.Kept:List ByteArray),ah.row 9 ap (dk.Now:List ByteArray),ah.row 83 ak (dk.Wait:List Turn),ah.held w own]) (fun _ hw=>hw.fR 2 _ rfl rfl) ?_
          have hz:(dk,(⟨cR,((manyN:Nat):Int),first,(bY dk cR (Int.toNat ((manyN:Nat):Int)) first:Int)⟩:Lg),dz dk cR (Int.toNat ((manyN:Nat):Int)) first)=(dk,(⟨cR,(manyN:Int),first,(u:Int)⟩:Lg),(ob.map bS.L)):=by (first|((try dsimp only);have e:=eo HS (dy (by omega)) (fF (k:=(dd.length:Int)) (by assumption)).1 (fF (k:=(dd.length:Int)) (by assumption)).2;unfold bY dz;rw [show Int.toNat ((manyN:Nat):Int)=manyN from rfl,e])|((try dsimp only);have e:=eo HS (dy (by omega)) (fG (k:=(dd.length:Int)) (by assumption) (by assumption) (by assumption)).1 (fG (k:=(dd.length:Int)) (by assumption) (by assumption) (by assumption)).2;unfold bY dz;rw [show Int.toNat ((manyN:Nat):Int)=manyN from rfl,e])|((try dsimp only);have e:=eo HS (dy (by omega)) (fH (k:=(dd.length:Int)) (by assumption) (by assumption) (by assumption)).1 (fH (k:=(dd.length:Int)) (by assumption) (by assumption) (by assumption)).2;unfold bY dz;rw [show Int.toNat ((manyN:Nat):Int)=manyN from rfl,e])|((try dsimp only);have e:=nX HS (by rw [fI];omega);unfold bY dz;rw [show Int.toNat ((manyN:Nat):Int)=manyN from rfl,e]))
          have hz0:((manyN:Nat):Int)=(manyN:Int):=congrArg (fun t_=>t_.2.1.Many) hz
          rw [hz0]
          have hz1:(bY dk cR (Int.toNat ((manyN:Nat):Int)) first:Int)=(u:Int):=congrArg (fun t_=>t_.2.1.Next) hz
          rw [hz1]
          have hz2:dz dk cR (Int.toNat ((manyN:Nat):Int)) first=(ob.map bS.L):=congrArg (fun t_=>t_.2.2) hz
          rw [hz2]
          exact R.w3 (ao,ap,ak,b1,qo,ob) [3,4,5,6,2,7] [0,1] rfl Try.results11 (RV.tmp rfl) (RV.tmp rfl) (RV.tmp rfl) rfl rfl rfl (sy rfl rfl rfl)
    ·
      rw [h2]
      refine R.u 10 rfl<|R.nil ?_
      refine R.aK rfl rfl ?_
      refine R.reg rfl<|R.u 5 rfl<|R.nil ?_
      refine R.mp (fun _ hw=>hw.nM 0 rfl) ?_
      refine R.mp (B':=[ah.row 51 qd (dd:List Change),ah.box b1 [.pointer (some ⟨au,0,none⟩),.int .i64 cR,.int .i64 (manyN:Int),.int .i64 first,.int .i64 (u:Int)] 85,ah.box au [ao,ap,ak,.int .i64 dk.Fuse,.bool dk.Down] 81,ah.row 9 ao (dk.Kept:List ByteArray),ah.row 9 ap (dk.Now:List ByteArray),ah.row 83 ak (dk.Wait:List Turn),ah.held w own]) (fun _ hw=>hw.fR 1 _ rfl rfl) ?_
      have hz:(dk,(⟨cR,((manyN:Nat):Int),first,(bY dk cR (Int.toNat ((manyN:Nat):Int)) first:Int)⟩:Lg),dz dk cR (Int.toNat ((manyN:Nat):Int)) first)=(dk,(⟨cR,(manyN:Int),first,(u:Int)⟩:Lg),(ob.map bS.L)):=by (first|((try dsimp only);have e:=eo HS (dy (by omega)) (fF (k:=(dd.length:Int)) (by assumption)).1 (fF (k:=(dd.length:Int)) (by assumption)).2;unfold bY dz;rw [show Int.toNat ((manyN:Nat):Int)=manyN from rfl,e])|((try dsimp only);have e:=eo HS (dy (by omega)) (fG (k:=(dd.length:Int)) (by assumption) (by assumption) (by assumption)).1 (fG (k:=(dd.length:Int)) (by assumption) (by assumption) (by assumption)).2;unfold bY dz;rw [show Int.toNat ((manyN:Nat):Int)=manyN from rfl,e])|((try dsimp only);have e:=eo HS (dy (by omega)) (fH (k:=(dd.length:Int)) (by assumption) (by assumption) (by assumption)).1 (fH (k:=(dd.length:Int)) (by assumption) (by assumption) (by assumption)).2;unfold bY dz;rw [show Int.toNat ((manyN:Nat):Int)=manyN from rfl,e])|((try dsimp only);have e:=nX HS (by rw [fI];omega);unfold bY dz;rw [show Int.toNat ((manyN:Nat):Int)=manyN from rfl,e]))
      have hz0:((manyN:Nat):Int)=(manyN:Int):=congrArg (fun t_=>t_.2.1.Many) hz
      rw [hz0]
      have hz1:(bY dk cR (Int.toNat ((manyN:Nat):Int)) first:Int)=(u:Int):=congrArg (fun t_=>t_.2.1.Next) hz
      rw [hz1]
      have hz2:dz dk cR (Int.toNat ((manyN:Nat):Int)) first=(ob.map bS.L):=congrArg (fun t_=>t_.2.2) hz
      rw [hz2]
      exact R.w3 (ao,ap,ak,b1,qo,ob) [2,3,4,5,1,6] [0,1] rfl Try.results11 (RV.tmp rfl) (RV.tmp rfl) (RV.tmp rfl) rfl rfl rfl (sy rfl rfl rfl)
  ·
    refine R.q (q.lss rfl rfl (decide_eq_false (by omega))) rfl<|R.nil ?_
    refine R.aI rfl rfl ?_
    refine R.reg rfl<|R.u 5 rfl<|R.nil ?_
    refine R.mp (fun _ hw=>hw.nM 0 rfl) ?_
    refine R.mp (B':=[ah.row 51 qd (dd:List Change),ah.box b1 [.pointer (some ⟨au,0,none⟩),.int .i64 cR,.int .i64 (manyN:Int),.int .i64 first,.int .i64 (u:Int)] 85,ah.box au [ao,ap,ak,.int .i64 dk.Fuse,.bool dk.Down] 81,ah.row 9 ao (dk.Kept:List ByteArray),ah.row 9 ap (dk.Now:List ByteArray),ah.row 83 ak (dk.Wait:List Turn),ah.held w own]) (fun _ hw=>hw.fR 1 _ rfl rfl) ?_
    have hz:(dk,(⟨cR,((manyN:Nat):Int),first,(bY dk cR (Int.toNat ((manyN:Nat):Int)) first:Int)⟩:Lg),dz dk cR (Int.toNat ((manyN:Nat):Int)) first)=(dk,(⟨cR,(manyN:Int),first,(u:Int)⟩:Lg),(ob.map bS.L)):=by (first|((try dsimp only);have e:=eo HS (dy (by omega)) (fF (k:=(dd.length:Int)) (by assumption)).1 (fF (k:=(dd.length:Int)) (by assumption)).2;unfold bY dz;rw [show Int.toNat ((manyN:Nat):Int)=manyN from rfl,e])|((try dsimp only);have e:=eo HS (dy (by omega)) (fG (k:=(dd.length:Int)) (by assumption) (by assumption) (by assumption)).1 (fG (k:=(dd.length:Int)) (by assumption) (by assumption) (by assumption)).2;unfold bY dz;rw [show Int.toNat ((manyN:Nat):Int)=manyN from rfl,e])|((try dsimp only);have e:=eo HS (dy (by omega)) (fH (k:=(dd.length:Int)) (by assumption) (by assumption) (by assumption)).1 (fH (k:=(dd.length:Int)) (by assumption) (by assumption) (by assumption)).2;unfold bY dz;rw [show Int.toNat ((manyN:Nat):Int)=manyN from rfl,e])|((try dsimp only);have e:=nX HS (by rw [fI];omega);unfold bY dz;rw [show Int.toNat ((manyN:Nat):Int)=manyN from rfl,e]))
    have hz0:((manyN:Nat):Int)=(manyN:Int):=congrArg (fun t_=>t_.2.1.Many) hz
    rw [hz0]
    have hz1:(bY dk cR (Int.toNat ((manyN:Nat):Int)) first:Int)=(u:Int):=congrArg (fun t_=>t_.2.1.Next) hz
    rw [hz1]
    have hz2:dz dk cR (Int.toNat ((manyN:Nat):Int)) first=(ob.map bS.L):=congrArg (fun t_=>t_.2.2) hz
    rw [hz2]
    exact R.w3 (ao,ap,ak,b1,qo,ob) [2,3,4,5,1,6] [0,1] rfl Try.results11 (RV.tmp rfl) (RV.tmp rfl) (RV.tmp rfl) rfl rfl rfl (sy rfl rfl rfl)
set_option maxRecDepth 100000 in
theorem uQ (aG:Nat)(lg:Lg)(jJ:Value)(c:List Change)(au:Nat)(ao ap ak:Value)(dk:bp)(w:World)(own:List Nat)(H:Wd w (blks [ah.box aG [.pointer (some ⟨au,0,none⟩),.int .i64 lg.From,.int .i64 lg.Many,.int .i64 lg.First,.int .i64 lg.Next] 85,ah.box au [ao,ap,ak,.int .i64 dk.Fuse,.bool dk.Down] 81,ah.row 9 ao (dk.Kept:List ByteArray),ah.row 9 ap (dk.Now:List ByteArray),ah.row 83 ak (dk.Wait:List Turn)]++own) ([ah.box aG [.pointer (some ⟨au,0,none⟩),.int .i64 lg.From,.int .i64 lg.Many,.int .i64 lg.First,.int .i64 lg.Next] 85,ah.box au [ao,ap,ak,.int .i64 dk.Fuse,.bool dk.Down] 81,ah.row 9 ao (dk.Kept:List ByteArray),ah.row 9 ap (dk.Now:List ByteArray),ah.row 83 ak (dk.Wait:List Turn)]++[ah.held w own]) [ah.ls jJ (c:List Change)] w)(hb:0≤lg.From∧lg.From≤1000000000∧0≤lg.Next∧lg.Next≤1000000000∧0≤lg.First∧lg.First≤4000000000000000000∧0≤lg.Many∧lg.Many≤1000000000)(hl:c.length≤62)(hf:∀x∈c,ea x=0)(hD:cz dk.Now.length 90000 dk∧dk.Now.length≤100000):Calls Try.prog 50 #[.pointer (some ⟨aG,0,none⟩),jJ] w fun e w' => ∃z:Value×Value×Value,e = .returned (bF (((aR lg dk c).2)))∧Wd w (blks [ah.box aG [.pointer (some ⟨au,0,none⟩),.int .i64 lg.From,.int .i64 lg.Many,.int .i64 lg.First,.int .i64 lg.Next] 85,ah.box au [ao,ap,ak,.int .i64 dk.Fuse,.bool dk.Down] 81,ah.row 9 ao (dk.Kept:List ByteArray),ah.row 9 ap (dk.Now:List ByteArray),ah.row 83 ak (dk.Wait:List Turn)]++own) ([ah.box aG [.pointer (some ⟨au,0,none⟩),.int .i64 ((lg).From),.int .i64 ((lg).Many),.int .i64 ((lg).First),.int .i64 ((lg).Next)] 85,ah.box au [z.1,z.2.1,z.2.2,.int .i64 ((((aR lg dk c).1)).Fuse),.bool ((((aR lg dk c).1)).Down)] 81,ah.row 9 z.1 ((((aR lg dk c).1)).Kept:List ByteArray),ah.row 9 z.2.1 ((((aR lg dk c).1)).Now:List ByteArray),ah.row 83 z.2.2 ((((aR lg dk c).1)).Wait:List Turn)]++[ah.held w own]) [] w':=by
  have cM:=H.cap 2 rfl;have cN:=H.aU 2 rfl
  have dv:=H.cap 3 rfl;have dw:=H.aU 3 rfl
  have cO:=H.cap 4 rfl;have cQ:=H.aU 4 rfl
  have zP:=H.jD 0 rfl
  refine R.bW (n:=85) (vs:=[.pointer (some ⟨aG,0,none⟩),jJ]) (B:=[ah.box aG [.pointer (some ⟨au,0,none⟩),.int .i64 lg.From,.int .i64 lg.Many,.int .i64 lg.First,.int .i64 lg.Next] 85,ah.box au [ao,ap,ak,.int .i64 dk.Fuse,.bool dk.Down] 81,ah.row 9 ao (dk.Kept:List ByteArray),ah.row 9 ap (dk.Now:List ByteArray),ah.row 83 ak (dk.Wait:List Turn),ah.held w own]) [(0,.pointer (some ⟨aG,0,none⟩)),(1,jJ)] Try.func50 rfl rfl rfl rfl H ?_
  refine R.reg rfl<|R.u 1 rfl<|R.nil ?_
  refine R.d9 rfl mixed (by kernel_rfl)<|Q.u 1 rfl<|Q.q (q.bm rfl) rfl<|Q.q (q.bJ (off':=1) rfl jk rfl) rfl<|Q.q (q.ld 0 rfl rfl aS rfl) rfl<|Q.u 1 rfl<|Q.q (q.bm rfl) rfl<|Q.q (q.bJ (off':=4) rfl eY rfl) rfl<|Q.q (q.ld 0 rfl rfl aS rfl) rfl<|Q.q (q.add (r:=lg.From+lg.Next) rfl rfl (wr (by omega))) rfl<|Q.u 1 rfl<|Q.nil ?_
  refine R.reg rfl<|R.u 1 rfl<|R.q (q.len' (fun _=>Wd.bZ 0 rfl) rfl Try.underlying46) rfl<|R.u 1 rfl<|R.nil ?_
  refine R.loop (fun g_:Nat×bp×Value×Value×Value=>[(0,.pointer (some ⟨aG,0,none⟩)),(1,jJ),(5,.int .i64 (lg.From+lg.Next)),(20,jJ),(21,.int .i64 (c.length:Int)),(22,.int .i64 (g_.1:Int))]) (fun g_:Nat×bp×Value×Value×Value=>[ah.box aG [.pointer (some ⟨au,0,none⟩),.int .i64 lg.From,.int .i64 lg.Many,.int .i64 lg.First,.int .i64 lg.Next] 85,ah.box au [g_.2.2.1,g_.2.2.2.1,g_.2.2.2.2,.int .i64 g_.2.1.Fuse,.bool g_.2.1.Down] 81,ah.row 9 g_.2.2.1 (g_.2.1.Kept:List ByteArray),ah.row 9 g_.2.2.2.1 (g_.2.1.Now:List ByteArray),ah.row 83 g_.2.2.2.2 (g_.2.1.Wait:List Turn),ah.held w own]) (fun g_:Nat×bp×Value×Value×Value=>[ah.ls jJ (c:List Change)]) (fun g_:Nat×bp×Value×Value×Value=>g_.1≤c.length∧fq lg g_.2.1 (c.drop g_.1) g_.1=fq lg dk c 0∧cz dk.Now.length (90000+g_.1) g_.2.1) (fun g_:Nat×bp×Value×Value×Value=>c.length-g_.1) (0,dk,ao,ap,ak) rfl (by (try dsimp only);exact ⟨by omega,rfl,hD.1⟩) ⟨rfl,rfl,rfl,rfl,rfl,rfl,trivial⟩ (fun _=>Wd.pick [0,1,2,3,4,5] [0] rfl rfl rfl) ?_
  rintro ⟨i,dm,bK,bV,bL⟩ ⟨hi,HL,hO⟩
  dsimp only at *
  have p1:=hO.fine (by omega) (by omega)
  refine R.reg rfl<|?_
  by_cases h1:i<c.length
  ·
    refine R.q (q.lss rfl rfl (decide_eq_true (by omega))) rfl<|R.nil ?_
    refine R.aK rfl rfl ?_
    refine R.reg rfl<|R.u 1 rfl<|?_
    obtain ⟨x1,hx1⟩:∃z,c[i]? = some z:=⟨_,List.getElem?_eq_getElem (by omega)⟩
    have xZ:=og (hf x1 (List.mem_of_getElem? hx1));obtain ⟨xZ,zQ⟩:=xZ
    refine R.q (q.idx (i:=i) (fun _=>Wd.bZ 0 rfl) rfl rfl aT rfl hx1) rfl<|R.q (q.iU (ds:=[.string x1.Key,.string x1.Val,.bool x1.Gone]) (fun _=>Wd.bZ 0 rfl) hx1 rfl aX rfl) rfl<|?_
    refine R.s rfl (s.alloc (cs:=[.string (⟨#[]⟩),.string (⟨#[]⟩),.bool false]) bT rfl rfl) fun b1=>?_
    refine R.u 1 rfl<|?_
    refine R.s rfl (s.st (us:=[.string x1.Key,.string x1.Val,.bool x1.Gone]) (cs':=[.string x1.Key,.string x1.Val,.bool x1.Gone]) 0 _ rfl rfl rfl rfl (.inl aX) rfl rfl rfl rfl) fun _=>?_
    refine R.nil ?_
    refine R.reg rfl<|R.q (q.mD 0 rfl rfl aX) rfl<|R.c (q.call xK rfl rfl (fun w hw=>(nT (x1) w  ))) rfl<|R.u 5 rfl<|R.nil ?_
    refine R.reg rfl<|R.u 1 rfl<|R.q (q.dj rfl rfl Try.underlying28 (by omega)) rfl<|R.nil ?_
    refine R.aI rfl rfl ?_
    refine R.eT (fuel:=22) (Wd w (blks [ah.box aG [.pointer (some ⟨au,0,none⟩),.int .i64 lg.From,.int .i64 lg.Many,.int .i64 lg.First,.int .i64 lg.Next] 85,ah.box au [ao,ap,ak,.int .i64 dk.Fuse,.bool dk.Down] 81,ah.row 9 ao (dk.Kept:List ByteArray),ah.row 9 ap (dk.Now:List ByteArray),ah.row 83 ak (dk.Wait:List Turn)]++own) [ah.box b1 [.string x1.Key,.string x1.Val,.bool x1.Gone] 51,ah.box aG [.pointer (some ⟨au,0,none⟩),.int .i64 lg.From,.int .i64 lg.Many,.int .i64 lg.First,.int .i64 lg.Next] 85,ah.held w own] [ah.ls jJ (c:List Change)]) rfl mixed rfl ?_
    refine D.q (i:=0) rfl (by kernel_rfl) (fun _=>Wd.aA [0,1,6] [0] rfl rfl rfl) rfl (q.mv rfl) rfl<|D.q (i:=1) rfl (by kernel_rfl) (fun _=>Wd.aA [0,1,6] [0] rfl rfl rfl) rfl (q.bm rfl) rfl<|D.q (i:=2) rfl (by kernel_rfl) (fun _=>Wd.aA [0,1,6] [0] rfl rfl rfl) rfl (q.bJ (off':=0) rfl gi rfl) rfl<|D.q (i:=3) rfl (by kernel_rfl) (fun _=>Wd.aA [0,1,6] [0] rfl rfl rfl) rfl (q.ld 1 rfl rfl dU rfl) rfl<|D.q (i:=4) rfl (by kernel_rfl) (fun _=>Wd.aA [0,1,6] [0] rfl rfl rfl) rfl (q.mv rfl) rfl<|D.q (i:=5) rfl (by kernel_rfl) (fun _=>Wd.aA [0,1,6] [0] rfl rfl rfl) rfl (q.mv rfl) rfl<|D.q (i:=6) rfl (by kernel_rfl) (fun _=>Wd.aA [0,1,6] [0] rfl rfl rfl) rfl (q.add (r:=(lg.From+lg.Next)+(i:Int)) rfl rfl (wr (by omega))) rfl<|D.q (i:=7) rfl (by kernel_rfl) (fun _=>Wd.aA [0,1,6] [0] rfl rfl rfl) rfl (q.mv rfl) rfl<|D.q (i:=8) rfl (by kernel_rfl) (fun _=>Wd.aA [0,1,6] [0] rfl rfl rfl) rfl (q.bm rfl) rfl<|D.q (i:=9) rfl (by kernel_rfl) (fun _=>Wd.aA [0,1,6] [0] rfl rfl rfl) rfl (q.bJ (off':=3) rfl eX rfl) rfl<|D.q (i:=10) rfl (by kernel_rfl) (fun _=>Wd.aA [0,1,6] [0] rfl rfl rfl) rfl (q.ld 1 rfl rfl aS rfl) rfl<|D.q (i:=11) rfl (by kernel_rfl) (fun _=>Wd.aA [0,1,6] [0] rfl rfl rfl) rfl (q.mv rfl) rfl<|D.q (i:=12) rfl (by kernel_rfl) (fun _=>Wd.aA [0,1,6] [0] rfl rfl rfl) rfl (q.bm rfl) rfl<|D.q (i:=13) rfl (by kernel_rfl) (fun _=>Wd.aA [0,1,6] [0] rfl rfl rfl) rfl (q.bJ (off':=4) rfl eY rfl) rfl<|D.q (i:=14) rfl (by kernel_rfl) (fun _=>Wd.aA [0,1,6] [0] rfl rfl rfl) rfl (q.ld 1 rfl rfl aS rfl) rfl<|D.q (i:=15) rfl (by kernel_rfl) (fun _=>Wd.aA [0,1,6] [0] rfl rfl rfl) rfl (q.add (r:=lg.First+lg.Next) rfl rfl (wr (by omega))) rfl<|D.q (i:=16) rfl (by kernel_rfl) (fun _=>Wd.aA [0,1,6] [0] rfl rfl rfl) rfl (q.mv rfl) rfl<|D.q (i:=17) rfl (by kernel_rfl) (fun _=>Wd.aA [0,1,6] [0] rfl rfl rfl) rfl (q.add (r:=(lg.First+lg.Next)+(i:Int)) rfl rfl (wr (by omega))) rfl<|D.q (i:=18) rfl (by kernel_rfl) (fun _=>Wd.aA [0,1,6] [0] rfl rfl rfl) rfl (q.mv rfl) rfl<|?_
    refine D.one (i:=19) (by kernel_rfl) rfl ?_
    refine Do.s (s.c (q.call vx rfl rfl (fun w hw=>(o5 (111) (((lg.First+lg.Next)+(i:Int))) ((dO x1).1) w  (by decide) (by omega) (by first|omega|assumption|(rw [az];decide))))) rfl) (fun _=>(fun _=>Wd.aA [0,1,6] [0] rfl rfl rfl)) rfl fun _=>?_
    refine D.one (i:=20) (by kernel_rfl) rfl ?_
    refine Do.s (B':=(fun g_:Value×Value×Value=>[ah.box au [g_.1,g_.2.1,g_.2.2,.int .i64 ((((ar dm ((lg.From+lg.Next)+(i:Int)) (a8 111 ((lg.First+lg.Next)+(i:Int)) ((dO x1).1)))).1).Fuse),.bool ((((ar dm ((lg.From+lg.Next)+(i:Int)) (a8 111 ((lg.First+lg.Next)+(i:Int)) ((dO x1).1)))).1).Down)] 81,ah.row 9 g_.1 ((((ar dm ((lg.From+lg.Next)+(i:Int)) (a8 111 ((lg.First+lg.Next)+(i:Int)) ((dO x1).1)))).1).Kept:List ByteArray),ah.row 9 g_.2.1 ((((ar dm ((lg.From+lg.Next)+(i:Int)) (a8 111 ((lg.First+lg.Next)+(i:Int)) ((dO x1).1)))).1).Now:List ByteArray),ah.row 83 g_.2.2 ((((ar dm ((lg.From+lg.Next)+(i:Int)) (a8 111 ((lg.First+lg.Next)+(i:Int)) ((dO x1).1)))).1).Wait:List Turn),ah.box b1 [.string x1.Key,.string x1.Val,.bool x1.Gone] 51,ah.box aG [.pointer (some ⟨au,0,none⟩),.int .i64 lg.From,.int .i64 lg.Many,.int .i64 lg.First,.int .i64 lg.Next] 85,ah.held w own])) (F':=(fun g_:Value×Value×Value=>[ah.ls jJ (c:List Change)])) (s.bD (B0:=[ah.box au [bK,bV,bL,.int .i64 dm.Fuse,.bool dm.Down] 81,ah.row 9 bK (dm.Kept:List ByteArray),ah.row 9 bV (dm.Now:List ByteArray),ah.row 83 bL (dm.Wait:List Turn)]) (Br:=[ah.box b1 [.string x1.Key,.string x1.Val,.bool x1.Gone] 51,ah.box aG [.pointer (some ⟨au,0,none⟩),.int .i64 lg.From,.int .i64 lg.Many,.int .i64 lg.First,.int .i64 lg.Next] 85,ah.held w own]) (F0:=[]) [2,3,4,5,0,1,6] [] (fun g_:Value×Value×Value=>bF (((ar dm ((lg.From+lg.Next)+(i:Int)) (a8 111 ((lg.First+lg.Next)+(i:Int)) ((dO x1).1)))).2)) (fun g_:Value×Value×Value=>[ah.box au [g_.1,g_.2.1,g_.2.2,.int .i64 ((((ar dm ((lg.From+lg.Next)+(i:Int)) (a8 111 ((lg.First+lg.Next)+(i:Int)) ((dO x1).1)))).1).Fuse),.bool ((((ar dm ((lg.From+lg.Next)+(i:Int)) (a8 111 ((lg.First+lg.Next)+(i:Int)) ((dO x1).1)))).1).Down)] 81,ah.row 9 g_.1 ((((ar dm ((lg.From+lg.Next)+(i:Int)) (a8 111 ((lg.First+lg.Next)+(i:Int)) ((dO x1).1)))).1).Kept:List ByteArray),ah.row 9 g_.2.1 ((((ar dm ((lg.From+lg.Next)+(i:Int)) (a8 111 ((lg.First+lg.Next)+(i:Int)) ((dO x1).1)))).1).Now:List ByteArray),ah.row 83 g_.2.2 ((((ar dm ((lg.From+lg.Next)+(i:Int)) (a8 111 ((lg.First+lg.Next)+(i:Int)) ((dO x1).1)))).1).Wait:List Turn)]) (fun g_:Value×Value×Value=>[]) rfl rfl rfl kH rfl rfl (fun w own hw H=>dM au bK bV bL (dm) (((lg.From+lg.Next)+(i:Int))) (a8 111 ((lg.First+lg.Next)+(i:Int)) ((dO x1).1)) w own H (by first|assumption|omega)) rfl) (fun _=>(fun _=>Wd.aA [4,5,6] [0] rfl rfl rfl)) rfl ?_
    rintro ⟨z4,z5,z6⟩
    dsimp only
    refine D.q (i:=21) rfl (by kernel_rfl) (fun _=>Wd.aA [4,5,6] [0] rfl rfl rfl) rfl (q.as rfl) rfl<|D.done (by kernel_rfl)<|?_
    refine R.reg rfl<|R.u 1 rfl<|?_
    by_cases h2:(ar dm ((lg.From+lg.Next)+(i:Int)) (a8 111 ((lg.First+lg.Next)+(i:Int)) ((dO x1).1))).2=0
    ·
      refine R.q (q.dj rfl rfl Try.underlying28 (by omega)) rfl<|R.nil ?_
      refine R.aI rfl rfl ?_
      refine R.reg rfl<|R.q (q.add (r:=((i+1:Nat):Int)) rfl rfl (wr (by omega))) rfl<|R.u 1 rfl<|R.nil ?_
      refine R.back (i+1,((ar dm ((lg.From+lg.Next)+(i:Int)) (a8 111 ((lg.First+lg.Next)+(i:Int)) ((dO x1).1))).1),z4,z5,z6) rfl (by ((try dsimp only);exact ⟨by omega,wm HL hx1 (by assumption),hO.write _ _⟩)) (by dsimp only;omega) ⟨rfl,rfl,rfl,rfl,rfl,rfl,trivial⟩ (fun _=>Wd.aA [5,0,1,2,3,6] [0] rfl rfl rfl)
    ·
      refine R.q (q.fy rfl rfl Try.underlying28 (by omega)) rfl<|R.nil ?_
      refine R.aK rfl rfl ?_
      refine R.reg rfl<|R.u 2 rfl<|R.nil ?_
      have hz:(lg,(aR lg dk c).1,(aR lg dk c).2)=(lg,((ar dm ((lg.From+lg.Next)+(i:Int)) (a8 111 ((lg.First+lg.Next)+(i:Int)) ((dO x1).1))).1),(ar dm ((lg.From+lg.Next)+(i:Int)) (a8 111 ((lg.First+lg.Next)+(i:Int)) ((dO x1).1))).2):=by (rw [rO (ta HL hx1 (by assumption)).symm (by assumption)])
      have hz0:(aR lg dk c).1=((ar dm ((lg.From+lg.Next)+(i:Int)) (a8 111 ((lg.First+lg.Next)+(i:Int)) ((dO x1).1))).1):=congrArg (fun t_=>t_.2.1) hz
      rw [hz0]
      have hz1:(aR lg dk c).2=(ar dm ((lg.From+lg.Next)+(i:Int)) (a8 111 ((lg.First+lg.Next)+(i:Int)) ((dO x1).1))).2:=congrArg (fun t_=>t_.2.2) hz
      rw [hz1]
      exact R.w1 (z4,z5,z6) [5,0,1,2,3,6] [] rfl Try.results50 (RV.tmp rfl) rfl rfl rfl rfl
  ·
    refine R.q (q.lss rfl rfl (decide_eq_false (by omega))) rfl<|R.nil ?_
    refine R.aI rfl rfl ?_
    refine R.reg rfl<|R.u 1 rfl<|R.q (q.bm rfl) rfl<|R.q (q.bJ (off':=4) rfl eY rfl) rfl<|R.q (q.ld 0 rfl rfl aS rfl) rfl<|R.u 1 rfl<|R.q (q.len' (fun _=>Wd.bZ 0 rfl) rfl Try.underlying46) rfl<|R.q (q.add (r:=lg.Next+(c.length:Int)) rfl rfl (wr (by omega))) rfl<|R.q (q.add (r:=(lg.Next+(c.length:Int))+1) rfl rfl (wr (by omega))) rfl<|R.u 1 rfl<|R.nil ?_
    refine R.reg rfl<|R.u 2 rfl<|R.q (q.bm rfl) rfl<|R.q (q.bJ (off':=2) rfl kr rfl) rfl<|R.q (q.ld 0 rfl rfl aS rfl) rfl<|?_
    by_cases h3:((lg.Next+(c.length:Int))+1)<lg.Many
    ·
      refine R.q (q.lss rfl rfl (decide_eq_true (by omega))) rfl<|R.nil ?_
      refine R.aK rfl rfl ?_
      refine R.eT (fuel:=12) (Wd w (blks [ah.box aG [.pointer (some ⟨au,0,none⟩),.int .i64 lg.From,.int .i64 lg.Many,.int .i64 lg.First,.int .i64 lg.Next] 85,ah.box au [ao,ap,ak,.int .i64 dk.Fuse,.bool dk.Down] 81,ah.row 9 ao (dk.Kept:List ByteArray),ah.row 9 ap (dk.Now:List ByteArray),ah.row 83 ak (dk.Wait:List Turn)]++own) [ah.box aG [.pointer (some ⟨au,0,none⟩),.int .i64 lg.From,.int .i64 lg.Many,.int .i64 lg.First,.int .i64 lg.Next] 85,ah.held w own] [ah.ls jJ (c:List Change)]) rfl mixed rfl ?_
      refine D.q (i:=0) rfl (by kernel_rfl) (fun _=>Wd.aA [0,5] [0] rfl rfl rfl) rfl (q.mv rfl) rfl<|D.q (i:=1) rfl (by kernel_rfl) (fun _=>Wd.aA [0,5] [0] rfl rfl rfl) rfl (q.bm rfl) rfl<|D.q (i:=2) rfl (by kernel_rfl) (fun _=>Wd.aA [0,5] [0] rfl rfl rfl) rfl (q.bJ (off':=0) rfl gi rfl) rfl<|D.q (i:=3) rfl (by kernel_rfl) (fun _=>Wd.aA [0,5] [0] rfl rfl rfl) rfl (q.ld 0 rfl rfl dU rfl) rfl<|D.q (i:=4) rfl (by kernel_rfl) (fun _=>Wd.aA [0,5] [0] rfl rfl rfl) rfl (q.mv rfl) rfl<|D.q (i:=5) rfl (by kernel_rfl) (fun _=>Wd.aA [0,5] [0] rfl rfl rfl) rfl (q.bm rfl) rfl<|D.q (i:=6) rfl (by kernel_rfl) (fun _=>Wd.aA [0,5] [0] rfl rfl rfl) rfl (q.bJ (off':=1) rfl jk rfl) rfl<|D.q (i:=7) rfl (by kernel_rfl) (fun _=>Wd.aA [0,5] [0] rfl rfl rfl) rfl (q.ld 0 rfl rfl aS rfl) rfl<|D.q (i:=8) rfl (by kernel_rfl) (fun _=>Wd.aA [0,5] [0] rfl rfl rfl) rfl (q.mv rfl) rfl<|D.q (i:=9) rfl (by kernel_rfl) (fun _=>Wd.aA [0,5] [0] rfl rfl rfl) rfl (q.add (r:=lg.From+((lg.Next+(c.length:Int))+1)) rfl rfl (wr (by omega))) rfl<|?_
      refine D.one (i:=10) (by kernel_rfl) rfl ?_
      refine Do.s (B':=(fun g_:Value×Value×Value=>[ah.box au [g_.1,g_.2.1,g_.2.2,.int .i64 ((((ar dm (lg.From+((lg.Next+(c.length:Int))+1)) (⟨#[]⟩))).1).Fuse),.bool ((((ar dm (lg.From+((lg.Next+(c.length:Int))+1)) (⟨#[]⟩))).1).Down)] 81,ah.row 9 g_.1 ((((ar dm (lg.From+((lg.Next+(c.length:Int))+1)) (⟨#[]⟩))).1).Kept:List ByteArray),ah.row 9 g_.2.1 ((((ar dm (lg.From+((lg.Next+(c.length:Int))+1)) (⟨#[]⟩))).1).Now:List ByteArray),ah.row 83 g_.2.2 ((((ar dm (lg.From+((lg.Next+(c.length:Int))+1)) (⟨#[]⟩))).1).Wait:List Turn),ah.box aG [.pointer (some ⟨au,0,none⟩),.int .i64 lg.From,.int .i64 lg.Many,.int .i64 lg.First,.int .i64 lg.Next] 85,ah.held w own])) (F':=(fun g_:Value×Value×Value=>[ah.ls jJ (c:List Change)])) (s.bD (B0:=[ah.box au [bK,bV,bL,.int .i64 dm.Fuse,.bool dm.Down] 81,ah.row 9 bK (dm.Kept:List ByteArray),ah.row 9 bV (dm.Now:List ByteArray),ah.row 83 bL (dm.Wait:List Turn)]) (Br:=[ah.box aG [.pointer (some ⟨au,0,none⟩),.int .i64 lg.From,.int .i64 lg.Many,.int .i64 lg.First,.int .i64 lg.Next] 85,ah.held w own]) (F0:=[]) [1,2,3,4,0,5] [] (fun g_:Value×Value×Value=>bF (((ar dm (lg.From+((lg.Next+(c.length:Int))+1)) (⟨#[]⟩))).2)) (fun g_:Value×Value×Value=>[ah.box au [g_.1,g_.2.1,g_.2.2,.int .i64 ((((ar dm (lg.From+((lg.Next+(c.length:Int))+1)) (⟨#[]⟩))).1).Fuse),.bool ((((ar dm (lg.From+((lg.Next+(c.length:Int))+1)) (⟨#[]⟩))).1).Down)] 81,ah.row 9 g_.1 ((((ar dm (lg.From+((lg.Next+(c.length:Int))+1)) (⟨#[]⟩))).1).Kept:List ByteArray),ah.row 9 g_.2.1 ((((ar dm (lg.From+((lg.Next+(c.length:Int))+1)) (⟨#[]⟩))).1).Now:List ByteArray),ah.row 83 g_.2.2 ((((ar dm (lg.From+((lg.Next+(c.length:Int))+1)) (⟨#[]⟩))).1).Wait:List Turn)]) (fun g_:Value×Value×Value=>[]) rfl rfl rfl kH rfl rfl (fun w own hw H=>dM au bK bV bL (dm) ((lg.From+((lg.Next+(c.length:Int))+1))) (⟨#[]⟩) w own H (by first|assumption|omega)) rfl) (fun _=>(fun _=>Wd.aA [4,5] [0] rfl rfl rfl)) rfl ?_
      rintro ⟨gU,fx,z12⟩
      dsimp only
      refine D.q (i:=11) rfl (by kernel_rfl) (fun _=>Wd.aA [4,5] [0] rfl rfl rfl) rfl (q.as rfl) rfl<|D.done (by kernel_rfl)<|?_
      have hz:(lg,(aR lg dk c).1,(aR lg dk c).2)=(lg,((ar dm (lg.From+((lg.Next+(c.length:Int))+1)) (⟨#[]⟩)).1),(ar dm (lg.From+((lg.Next+(c.length:Int))+1)) (⟨#[]⟩)).2):=by (have e:=qT HL (by omega);first|(rw [o0 e (by assumption)];done)|(rw [nj e (by omega)];done))
      have hz0:(aR lg dk c).1=((ar dm (lg.From+((lg.Next+(c.length:Int))+1)) (⟨#[]⟩)).1):=congrArg (fun t_=>t_.2.1) hz
      rw [hz0]
      have hz1:(aR lg dk c).2=(ar dm (lg.From+((lg.Next+(c.length:Int))+1)) (⟨#[]⟩)).2:=congrArg (fun t_=>t_.2.2) hz
      rw [hz1]
      exact R.w1 (gU,fx,z12) [4,0,1,2,3,5] [] rfl Try.results50 (RV.tmp rfl) rfl rfl rfl rfl
    ·
      refine R.q (q.lss rfl rfl (decide_eq_false (by omega))) rfl<|R.nil ?_
      refine R.aI rfl rfl ?_
      refine R.reg rfl<|R.u 1 rfl<|R.nil ?_
      have hz:(lg,(aR lg dk c).1,(aR lg dk c).2)=(lg,dm,0):=by (have e:=qT HL (by omega);first|(rw [o0 e (by assumption)];done)|(rw [nj e (by omega)];done))
      have hz0:(aR lg dk c).1=dm:=congrArg (fun t_=>t_.2.1) hz
      rw [hz0]
      have hz1:(aR lg dk c).2=0:=congrArg (fun t_=>t_.2.2) hz
      rw [hz1]
      exact R.w1 (bK,bV,bL) [0,1,2,3,4,5] [] rfl Try.results50 (RV.tmp rfl) rfl rfl rfl (lp rfl)
theorem tr (gB:Nat)(pl:Unit)(gC:Nat)(dH:Value)(pc:vE)(aG:Nat)(lg:Lg)(au:Nat)(ao ap ak:Value)(dk:bp)(w:World)(own:List Nat)(H:Wd w (blks [ah.box gB [.pointer (some ⟨aG,0,none⟩)] 32,ah.box gC [dH] 46,ah.box aG [.pointer (some ⟨au,0,none⟩),.int .i64 lg.From,.int .i64 lg.Many,.int .i64 lg.First,.int .i64 lg.Next] 85,ah.box au [ao,ap,ak,.int .i64 dk.Fuse,.bool dk.Down] 81,ah.row 9 ao (dk.Kept:List ByteArray),ah.row 9 ap (dk.Now:List ByteArray),ah.row 83 ak (dk.Wait:List Turn)]++own) ([ah.box gB [.pointer (some ⟨aG,0,none⟩)] 32,ah.box gC [dH] 46,ah.box aG [.pointer (some ⟨au,0,none⟩),.int .i64 lg.From,.int .i64 lg.Many,.int .i64 lg.First,.int .i64 lg.Next] 85,ah.box au [ao,ap,ak,.int .i64 dk.Fuse,.bool dk.Down] 81,ah.row 9 ao (dk.Kept:List ByteArray),ah.row 9 ap (dk.Now:List ByteArray),ah.row 83 ak (dk.Wait:List Turn)]++[ah.held w own]) [ah.ls dH (pc.C:List Change)] w)(hb:0≤lg.From∧lg.From≤1000000000∧0≤lg.Next∧lg.Next≤1000000000∧0≤lg.First∧lg.First≤4000000000000000000∧0≤lg.Many∧lg.Many≤1000000000)(hl:pc.C.length≤62)(hf:∀x∈pc.C,ea x=0)(hD:cz dk.Now.length 90000 dk∧dk.Now.length≤100000):Calls Try.prog 49 #[.pointer (some ⟨gB,0,none⟩),.pointer (some ⟨gC,0,none⟩)] w fun e w' => ∃z:Value×Value×Value×Value,e = .returned (bF (((aR lg dk pc.C).2)))∧Wd w (blks [ah.box gB [.pointer (some ⟨aG,0,none⟩)] 32,ah.box gC [dH] 46,ah.box aG [.pointer (some ⟨au,0,none⟩),.int .i64 lg.From,.int .i64 lg.Many,.int .i64 lg.First,.int .i64 lg.Next] 85,ah.box au [ao,ap,ak,.int .i64 dk.Fuse,.bool dk.Down] 81,ah.row 9 ao (dk.Kept:List ByteArray),ah.row 9 ap (dk.Now:List ByteArray),ah.row 83 ak (dk.Wait:List Turn)]++own) ([ah.box gB [.pointer (some ⟨aG,0,none⟩)] 32,ah.box gC [z.1] 46,ah.box aG [.pointer (some ⟨au,0,none⟩),.int .i64 ((lg).From),.int .i64 ((lg).Many),.int .i64 ((lg).First),.int .i64 ((lg).Next)] 85,ah.box au [z.2.1,z.2.2.1,z.2.2.2,.int .i64 ((((aR lg dk pc.C).1)).Fuse),.bool ((((aR lg dk pc.C).1)).Down)] 81,ah.row 9 z.2.1 ((((aR lg dk pc.C).1)).Kept:List ByteArray),ah.row 9 z.2.2.1 ((((aR lg dk pc.C).1)).Now:List ByteArray),ah.row 83 z.2.2.2 ((((aR lg dk pc.C).1)).Wait:List Turn)]++[ah.held w own]) [ah.ls z.1 ((pc).C:List Change)] w':=by
  have cM:=H.cap 4 rfl;have cN:=H.aU 4 rfl
  have dv:=H.cap 5 rfl;have dw:=H.aU 5 rfl
  have cO:=H.cap 6 rfl;have cQ:=H.aU 6 rfl
  have wo:=H.jD 0 rfl
  refine R.bW (n:=6) (vs:=[.pointer (some ⟨gB,0,none⟩),.pointer (some ⟨gC,0,none⟩)]) (B:=[ah.box gB [.pointer (some ⟨aG,0,none⟩)] 32,ah.box gC [dH] 46,ah.box aG [.pointer (some ⟨au,0,none⟩),.int .i64 lg.From,.int .i64 lg.Many,.int .i64 lg.First,.int .i64 lg.Next] 85,ah.box au [ao,ap,ak,.int .i64 dk.Fuse,.bool dk.Down] 81,ah.row 9 ao (dk.Kept:List ByteArray),ah.row 9 ap (dk.Now:List ByteArray),ah.row 83 ak (dk.Wait:List Turn),ah.held w own]) [(0,.pointer (some ⟨gB,0,none⟩)),(1,.pointer (some ⟨gC,0,none⟩))] Try.func49 rfl rfl rfl rfl H ?_
  refine R.reg rfl<|R.u 1 rfl<|R.nil ?_
  refine R.reg rfl<|R.q (q.ld 0 rfl rfl dr rfl) rfl<|R.q (q.ld 1 rfl rfl cj rfl) rfl<|?_
  refine R.s (B':=(fun g_:Value×Value×Value=>[ah.box aG [.pointer (some ⟨au,0,none⟩),.int .i64 ((lg).From),.int .i64 ((lg).Many),.int .i64 ((lg).First),.int .i64 ((lg).Next)] 85,ah.box au [g_.1,g_.2.1,g_.2.2,.int .i64 ((((aR lg dk pc.C).1)).Fuse),.bool ((((aR lg dk pc.C).1)).Down)] 81,ah.row 9 g_.1 ((((aR lg dk pc.C).1)).Kept:List ByteArray),ah.row 9 g_.2.1 ((((aR lg dk pc.C).1)).Now:List ByteArray),ah.row 83 g_.2.2 ((((aR lg dk pc.C).1)).Wait:List Turn),ah.box gB [.pointer (some ⟨aG,0,none⟩)] 32,ah.box gC [dH] 46,ah.held w own])) (F':=(fun g_:Value×Value×Value=>[ah.ls dH (pc.C:List Change)])) rfl (s.bD (B0:=[ah.box aG [.pointer (some ⟨au,0,none⟩),.int .i64 lg.From,.int .i64 lg.Many,.int .i64 lg.First,.int .i64 lg.Next] 85,ah.box au [ao,ap,ak,.int .i64 dk.Fuse,.bool dk.Down] 81,ah.row 9 ao (dk.Kept:List ByteArray),ah.row 9 ap (dk.Now:List ByteArray),ah.row 83 ak (dk.Wait:List Turn)]) (Br:=[ah.box gB [.pointer (some ⟨aG,0,none⟩)] 32,ah.box gC [dH] 46,ah.held w own]) (F0:=[ah.ls dH (pc.C:List Change)]) [2,3,4,5,6,0,1,7] [0] (fun g_:Value×Value×Value=>bF (((aR lg dk pc.C).2))) (fun g_:Value×Value×Value=>[ah.box aG [.pointer (some ⟨au,0,none⟩),.int .i64 ((lg).From),.int .i64 ((lg).Many),.int .i64 ((lg).First),.int .i64 ((lg).Next)] 85,ah.box au [g_.1,g_.2.1,g_.2.2,.int .i64 ((((aR lg dk pc.C).1)).Fuse),.bool ((((aR lg dk pc.C).1)).Down)] 81,ah.row 9 g_.1 ((((aR lg dk pc.C).1)).Kept:List ByteArray),ah.row 9 g_.2.1 ((((aR lg dk pc.C).1)).Now:List ByteArray),ah.row 83 g_.2.2 ((((aR lg dk pc.C).1)).Wait:List Turn)]) (fun g_:Value×Value×Value=>[]) rfl rfl rfl xD rfl rfl (fun w own hw H=>uQ aG  (lg) dH (pc.C) au ao ap ak (dk) w own H (by first|assumption|omega|(dsimp only;omega)) (by omega) (by assumption) (by first|assumption|exact ⟨by assumption,by omega⟩)) rfl) ?_
  rintro ⟨z1,z2,z3⟩
  dsimp only
  refine R.u 1 rfl<|R.nil ?_
  have hz:((),pc,lg,(aR lg dk pc.C).1,(aR lg dk pc.C).2)=((),pc,lg,((aR lg dk pc.C).1),(aR lg dk pc.C).2):=by (rfl)
  exact R.w1 (dH,z1,z2,z3) [5,6,0,1,2,3,4,7] [0] rfl Try.results49 (RV.tmp rfl) rfl rfl rfl rfl
theorem tu (gB:Nat)(pl:Unit)(kW:Nat)(pe:uP)(gC:Nat)(dH:Value)(pc:vE)(aG:Nat)(lg:Lg)(au:Nat)(ao ap ak:Value)(dk:bp)(w:World)(own:List Nat)(H:Wd w (blks [ah.box gB [.pointer (some ⟨aG,0,none⟩)] 32,ah.box kW [.int .i64 pe.E] 3,ah.box gC [dH] 46,ah.box aG [.pointer (some ⟨au,0,none⟩),.int .i64 lg.From,.int .i64 lg.Many,.int .i64 lg.First,.int .i64 lg.Next] 85,ah.box au [ao,ap,ak,.int .i64 dk.Fuse,.bool dk.Down] 81,ah.row 9 ao (dk.Kept:List ByteArray),ah.row 9 ap (dk.Now:List ByteArray),ah.row 83 ak (dk.Wait:List Turn)]++own) ([ah.box gB [.pointer (some ⟨aG,0,none⟩)] 32,ah.box kW [.int .i64 pe.E] 3,ah.box gC [dH] 46,ah.box aG [.pointer (some ⟨au,0,none⟩),.int .i64 lg.From,.int .i64 lg.Many,.int .i64 lg.First,.int .i64 lg.Next] 85,ah.box au [ao,ap,ak,.int .i64 dk.Fuse,.bool dk.Down] 81,ah.row 9 ao (dk.Kept:List ByteArray),ah.row 9 ap (dk.Now:List ByteArray),ah.row 83 ak (dk.Wait:List Turn)]++[ah.held w own]) [ah.ls dH (pc.C:List Change)] w)(hb:0≤lg.From∧lg.From≤1000000000∧0≤lg.Next∧lg.Next≤1000000000∧0≤lg.First∧lg.First≤4000000000000000000∧0≤lg.Many∧lg.Many≤1000000000)(he:0≤pe.E∧pe.E≤2000000000)(hl:pc.C.length≤62)(hD:cz dk.Now.length 91000 dk∧dk.Now.length≤100000):Calls Try.prog 52 #[.pointer (some ⟨gB,0,none⟩),.pointer (some ⟨kW,0,none⟩),.pointer (some ⟨gC,0,none⟩)] w fun e w' => ∃z:Value×Value×Value×Value,e = .returned (bF (((ar dk (lg.From+pe.E) (a8 99 (lg.First+pe.E) (aM (pc.C.length:Int)))).2)))∧Wd w (blks [ah.box gB [.pointer (some ⟨aG,0,none⟩)] 32,ah.box kW [.int .i64 pe.E] 3,ah.box gC [dH] 46,ah.box aG [.pointer (some ⟨au,0,none⟩),.int .i64 lg.From,.int .i64 lg.Many,.int .i64 lg.First,.int .i64 lg.Next] 85,ah.box au [ao,ap,ak,.int .i64 dk.Fuse,.bool dk.Down] 81,ah.row 9 ao (dk.Kept:List ByteArray),ah.row 9 ap (dk.Now:List ByteArray),ah.row 83 ak (dk.Wait:List Turn)]++own) ([ah.box gB [.pointer (some ⟨aG,0,none⟩)] 32,ah.box kW [.int .i64 ((pe).E)] 3,ah.box gC [z.1] 46,ah.box aG [.pointer (some ⟨au,0,none⟩),.int .i64 ((lg).From),.int .i64 ((lg).Many),.int .i64 ((lg).First),.int .i64 ((lg).Next)] 85,ah.box au [z.2.1,z.2.2.1,z.2.2.2,.int .i64 ((((ar dk (lg.From+pe.E) (a8 99 (lg.First+pe.E) (aM (pc.C.length:Int)))).1)).Fuse),.bool ((((ar dk (lg.From+pe.E) (a8 99 (lg.First+pe.E) (aM (pc.C.length:Int)))).1)).Down)] 81,ah.row 9 z.2.1 ((((ar dk (lg.From+pe.E) (a8 99 (lg.First+pe.E) (aM (pc.C.length:Int)))).1)).Kept:List ByteArray),ah.row 9 z.2.2.1 ((((ar dk (lg.From+pe.E) (a8 99 (lg.First+pe.E) (aM (pc.C.length:Int)))).1)).Now:List ByteArray),ah.row 83 z.2.2.2 ((((ar dk (lg.From+pe.E) (a8 99 (lg.First+pe.E) (aM (pc.C.length:Int)))).1)).Wait:List Turn)]++[ah.held w own]) [ah.ls z.1 ((pc).C:List Change)] w':=by
  have cM:=H.cap 5 rfl;have cN:=H.aU 5 rfl
  have dv:=H.cap 6 rfl;have dw:=H.aU 6 rfl
  have cO:=H.cap 7 rfl;have cQ:=H.aU 7 rfl
  have wo:=H.jD 0 rfl
  have p1:=hD.1.fine (by omega) (by omega)
  refine R.bW (n:=25) (vs:=[.pointer (some ⟨gB,0,none⟩),.pointer (some ⟨kW,0,none⟩),.pointer (some ⟨gC,0,none⟩)]) (B:=[ah.box gB [.pointer (some ⟨aG,0,none⟩)] 32,ah.box kW [.int .i64 pe.E] 3,ah.box gC [dH] 46,ah.box aG [.pointer (some ⟨au,0,none⟩),.int .i64 lg.From,.int .i64 lg.Many,.int .i64 lg.First,.int .i64 lg.Next] 85,ah.box au [ao,ap,ak,.int .i64 dk.Fuse,.bool dk.Down] 81,ah.row 9 ao (dk.Kept:List ByteArray),ah.row 9 ap (dk.Now:List ByteArray),ah.row 83 ak (dk.Wait:List Turn),ah.held w own]) [(0,.pointer (some ⟨gB,0,none⟩)),(1,.pointer (some ⟨kW,0,none⟩)),(2,.pointer (some ⟨gC,0,none⟩))] Try.func52 rfl rfl rfl rfl H ?_
  refine R.reg rfl<|R.u 1 rfl<|R.nil ?_
  refine R.eT (fuel:=22) (Wd w (blks [ah.box gB [.pointer (some ⟨aG,0,none⟩)] 32,ah.box kW [.int .i64 pe.E] 3,ah.box gC [dH] 46,ah.box aG [.pointer (some ⟨au,0,none⟩),.int .i64 lg.From,.int .i64 lg.Many,.int .i64 lg.First,.int .i64 lg.Next] 85,ah.box au [ao,ap,ak,.int .i64 dk.Fuse,.bool dk.Down] 81,ah.row 9 ao (dk.Kept:List ByteArray),ah.row 9 ap (dk.Now:List ByteArray),ah.row 83 ak (dk.Wait:List Turn)]++own) [ah.box gB [.pointer (some ⟨aG,0,none⟩)] 32,ah.box kW [.int .i64 pe.E] 3,ah.box gC [dH] 46,ah.box aG [.pointer (some ⟨au,0,none⟩),.int .i64 lg.From,.int .i64 lg.Many,.int .i64 lg.First,.int .i64 lg.Next] 85,ah.held w own] [ah.ls dH (pc.C:List Change)]) rfl mixed rfl ?_
  refine D.q (i:=0) rfl (by kernel_rfl) (fun _=>Wd.aA [0,1,2,3,8] [0] rfl rfl rfl) rfl (q.ld 0 rfl rfl dr rfl) rfl<|D.q (i:=1) rfl (by kernel_rfl) (fun _=>Wd.aA [0,1,2,3,8] [0] rfl rfl rfl) rfl (q.bm rfl) rfl<|D.q (i:=2) rfl (by kernel_rfl) (fun _=>Wd.aA [0,1,2,3,8] [0] rfl rfl rfl) rfl (q.bJ (off':=0) rfl gi rfl) rfl<|D.q (i:=3) rfl (by kernel_rfl) (fun _=>Wd.aA [0,1,2,3,8] [0] rfl rfl rfl) rfl (q.ld 3 rfl rfl dU rfl) rfl<|D.q (i:=4) rfl (by kernel_rfl) (fun _=>Wd.aA [0,1,2,3,8] [0] rfl rfl rfl) rfl (q.ld 0 rfl rfl dr rfl) rfl<|D.q (i:=5) rfl (by kernel_rfl) (fun _=>Wd.aA [0,1,2,3,8] [0] rfl rfl rfl) rfl (q.bm rfl) rfl<|D.q (i:=6) rfl (by kernel_rfl) (fun _=>Wd.aA [0,1,2,3,8] [0] rfl rfl rfl) rfl (q.bJ (off':=1) rfl jk rfl) rfl<|D.q (i:=7) rfl (by kernel_rfl) (fun _=>Wd.aA [0,1,2,3,8] [0] rfl rfl rfl) rfl (q.ld 3 rfl rfl aS rfl) rfl<|D.q (i:=8) rfl (by kernel_rfl) (fun _=>Wd.aA [0,1,2,3,8] [0] rfl rfl rfl) rfl (q.ld 1 rfl rfl aS rfl) rfl<|D.q (i:=9) rfl (by kernel_rfl) (fun _=>Wd.aA [0,1,2,3,8] [0] rfl rfl rfl) rfl (q.add (r:=lg.From+pe.E) rfl rfl (wr (by omega))) rfl<|D.q (i:=10) rfl (by kernel_rfl) (fun _=>Wd.aA [0,1,2,3,8] [0] rfl rfl rfl) rfl (q.ld 0 rfl rfl dr rfl) rfl<|D.q (i:=11) rfl (by kernel_rfl) (fun _=>Wd.aA [0,1,2,3,8] [0] rfl rfl rfl) rfl (q.bm rfl) rfl<|D.q (i:=12) rfl (by kernel_rfl) (fun _=>Wd.aA [0,1,2,3,8] [0] rfl rfl rfl) rfl (q.bJ (off':=3) rfl eX rfl) rfl<|D.q (i:=13) rfl (by kernel_rfl) (fun _=>Wd.aA [0,1,2,3,8] [0] rfl rfl rfl) rfl (q.ld 3 rfl rfl aS rfl) rfl<|D.q (i:=14) rfl (by kernel_rfl) (fun _=>Wd.aA [0,1,2,3,8] [0] rfl rfl rfl) rfl (q.ld 1 rfl rfl aS rfl) rfl<|D.q (i:=15) rfl (by kernel_rfl) (fun _=>Wd.aA [0,1,2,3,8] [0] rfl rfl rfl) rfl (q.add (r:=lg.First+pe.E) rfl rfl (wr (by omega))) rfl<|D.q (i:=16) rfl (by kernel_rfl) (fun _=>Wd.aA [0,1,2,3,8] [0] rfl rfl rfl) rfl (q.ld 2 rfl rfl cj rfl) rfl<|D.q (i:=17) rfl (by kernel_rfl) (fun _=>Wd.aA [0,1,2,3,8] [0] rfl rfl rfl) rfl (q.len' (fun _=>Wd.bZ 0 rfl) rfl Try.underlying46) rfl<|?_
  refine D.one (i:=18) (by kernel_rfl) rfl ?_
  refine Do.s (s.c (q.call dB rfl rfl (fun w hw=>(bN ((pc.C.length:Int)) w  (by omega)))) rfl) (fun _=>(fun _=>Wd.aA [0,1,2,3,8] [0] rfl rfl rfl)) rfl fun _=>?_
  refine D.one (i:=19) (by kernel_rfl) rfl ?_
  refine Do.s (s.c (q.call vx rfl rfl (fun w hw=>(o5 (99) ((lg.First+pe.E)) (aM (pc.C.length:Int)) w  (by decide) (by omega) (by first|omega|assumption|(rw [az];decide))))) rfl) (fun _=>(fun _=>Wd.aA [0,1,2,3,8] [0] rfl rfl rfl)) rfl fun _=>?_
  refine D.one (i:=20) (by kernel_rfl) rfl ?_
  refine Do.s (B':=(fun g_:Value×Value×Value=>[ah.box au [g_.1,g_.2.1,g_.2.2,.int .i64 ((((ar dk (lg.From+pe.E) (a8 99 (lg.First+pe.E) (aM (pc.C.length:Int))))).1).Fuse),.bool ((((ar dk (lg.From+pe.E) (a8 99 (lg.First+pe.E) (aM (pc.C.length:Int))))).1).Down)] 81,ah.row 9 g_.1 ((((ar dk (lg.From+pe.E) (a8 99 (lg.First+pe.E) (aM (pc.C.length:Int))))).1).Kept:List ByteArray),ah.row 9 g_.2.1 ((((ar dk (lg.From+pe.E) (a8 99 (lg.First+pe.E) (aM (pc.C.length:Int))))).1).Now:List ByteArray),ah.row 83 g_.2.2 ((((ar dk (lg.From+pe.E) (a8 99 (lg.First+pe.E) (aM (pc.C.length:Int))))).1).Wait:List Turn),ah.box gB [.pointer (some ⟨aG,0,none⟩)] 32,ah.box kW [.int .i64 pe.E] 3,ah.box gC [dH] 46,ah.box aG [.pointer (some ⟨au,0,none⟩),.int .i64 lg.From,.int .i64 lg.Many,.int .i64 lg.First,.int .i64 lg.Next] 85,ah.held w own])) (F':=(fun g_:Value×Value×Value=>[ah.ls dH (pc.C:List Change)])) (s.bD (B0:=[ah.box au [ao,ap,ak,.int .i64 dk.Fuse,.bool dk.Down] 81,ah.row 9 ao (dk.Kept:List ByteArray),ah.row 9 ap (dk.Now:List ByteArray),ah.row 83 ak (dk.Wait:List Turn)]) (Br:=[ah.box gB [.pointer (some ⟨aG,0,none⟩)] 32,ah.box kW [.int .i64 pe.E] 3,ah.box gC [dH] 46,ah.box aG [.pointer (some ⟨au,0,none⟩),.int .i64 lg.From,.int .i64 lg.Many,.int .i64 lg.First,.int .i64 lg.Next] 85,ah.held w own]) (F0:=[]) [4,5,6,7,0,1,2,3,8] [] (fun g_:Value×Value×Value=>bF (((ar dk (lg.From+pe.E) (a8 99 (lg.First+pe.E) (aM (pc.C.length:Int))))).2)) (fun g_:Value×Value×Value=>[ah.box au [g_.1,g_.2.1,g_.2.2,.int .i64 ((((ar dk (lg.From+pe.E) (a8 99 (lg.First+pe.E) (aM (pc.C.length:Int))))).1).Fuse),.bool ((((ar dk (lg.From+pe.E) (a8 99 (lg.First+pe.E) (aM (pc.C.length:Int))))).1).Down)] 81,ah.row 9 g_.1 ((((ar dk (lg.From+pe.E) (a8 99 (lg.First+pe.E) (aM (pc.C.length:Int))))).1).Kept:List ByteArray),ah.row 9 g_.2.1 ((((ar dk (lg.From+pe.E) (a8 99 (lg.First+pe.E) (aM (pc.C.length:Int))))).1).Now:List ByteArray),ah.row 83 g_.2.2 ((((ar dk (lg.From+pe.E) (a8 99 (lg.First+pe.E) (aM (pc.C.length:Int))))).1).Wait:List Turn)]) (fun g_:Value×Value×Value=>[]) rfl rfl rfl kH rfl rfl (fun w own hw H=>dM au ao ap ak (dk) ((lg.From+pe.E)) (a8 99 (lg.First+pe.E) (aM (pc.C.length:Int))) w own H (by first|assumption|omega)) rfl) (fun _=>(fun _=>Wd.aA [4,5,6,7,8] [0] rfl rfl rfl)) rfl ?_
  rintro ⟨z4,z5,z6⟩
  dsimp only
  refine D.q (i:=21) rfl (by kernel_rfl) (fun _=>Wd.aA [4,5,6,7,8] [0] rfl rfl rfl) rfl (q.as rfl) rfl<|D.done (by kernel_rfl)<|?_
  have hz:((),pe,pc,lg,(ar dk (lg.From+pe.E) (a8 99 (lg.First+pe.E) (aM (pc.C.length:Int)))).1,(ar dk (lg.From+pe.E) (a8 99 (lg.First+pe.E) (aM (pc.C.length:Int)))).2)=((),pe,pc,lg,((ar dk (lg.From+pe.E) (a8 99 (lg.First+pe.E) (aM (pc.C.length:Int)))).1),(ar dk (lg.From+pe.E) (a8 99 (lg.First+pe.E) (aM (pc.C.length:Int)))).2):=by (rfl)
  exact R.w1 (dH,z4,z5,z6) [4,5,6,7,0,1,2,3,8] [0] rfl Try.results52 (RV.tmp rfl) rfl rfl rfl rfl
set_option maxHeartbeats 1600000 in
theorem qY (aG:Nat)(lg:Lg)(jJ:Value)(c:List Change)(au:Nat)(ao ap ak:Value)(dk:bp)(w:World)(own:List Nat)(H:Wd w (blks [ah.box aG [.pointer (some ⟨au,0,none⟩),.int .i64 lg.From,.int .i64 lg.Many,.int .i64 lg.First,.int .i64 lg.Next] 85,ah.box au [ao,ap,ak,.int .i64 dk.Fuse,.bool dk.Down] 81,ah.row 9 ao (dk.Kept:List ByteArray),ah.row 9 ap (dk.Now:List ByteArray),ah.row 83 ak (dk.Wait:List Turn)]++own) ([ah.box aG [.pointer (some ⟨au,0,none⟩),.int .i64 lg.From,.int .i64 lg.Many,.int .i64 lg.First,.int .i64 lg.Next] 85,ah.box au [ao,ap,ak,.int .i64 dk.Fuse,.bool dk.Down] 81,ah.row 9 ao (dk.Kept:List ByteArray),ah.row 9 ap (dk.Now:List ByteArray),ah.row 83 ak (dk.Wait:List Turn)]++[ah.held w own]) [ah.ls jJ (c:List Change)] w)(hb:0≤lg.From∧lg.From≤1000000000∧0≤lg.Next∧lg.Next≤1000000000∧0≤lg.First∧lg.First≤4000000000000000000∧0≤lg.Many∧lg.Many≤1000000000)(hD:cz dk.Now.length 80000 dk∧dk.Now.length≤100000):Calls Try.prog 20 #[.pointer (some ⟨aG,0,none⟩),jJ] w fun e w' => ∃z:Value×Value×Value,e = .returned (bF (((aP lg dk c)).2.2))∧Wd w (blks [ah.box aG [.pointer (some ⟨au,0,none⟩),.int .i64 lg.From,.int .i64 lg.Many,.int .i64 lg.First,.int .i64 lg.Next] 85,ah.box au [ao,ap,ak,.int .i64 dk.Fuse,.bool dk.Down] 81,ah.row 9 ao (dk.Kept:List ByteArray),ah.row 9 ap (dk.Now:List ByteArray),ah.row 83 ak (dk.Wait:List Turn)]++own) ([ah.box aG [.pointer (some ⟨au,0,none⟩),.int .i64 ((((aP lg dk c)).1).From),.int .i64 ((((aP lg dk c)).1).Many),.int .i64 ((((aP lg dk c)).1).First),.int .i64 ((((aP lg dk c)).1).Next)] 85,ah.box au [z.1,z.2.1,z.2.2,.int .i64 ((((aP lg dk c)).2.1).Fuse),.bool ((((aP lg dk c)).2.1).Down)] 81,ah.row 9 z.1 ((((aP lg dk c)).2.1).Kept:List ByteArray),ah.row 9 z.2.1 ((((aP lg dk c)).2.1).Now:List ByteArray),ah.row 83 z.2.2 ((((aP lg dk c)).2.1).Wait:List Turn)]++[ah.held w own]) [] w':=by
  have cM:=H.cap 2 rfl;have cN:=H.aU 2 rfl
  have dv:=H.cap 3 rfl;have dw:=H.aU 3 rfl
  have cO:=H.cap 4 rfl;have cQ:=H.aU 4 rfl
  have zP:=H.jD 0 rfl
  refine R.bW (n:=71) (vs:=[.pointer (some ⟨aG,0,none⟩),jJ]) (B:=[ah.box aG [.pointer (some ⟨au,0,none⟩),.int .i64 lg.From,.int .i64 lg.Many,.int .i64 lg.First,.int .i64 lg.Next] 85,ah.box au [ao,ap,ak,.int .i64 dk.Fuse,.bool dk.Down] 81,ah.row 9 ao (dk.Kept:List ByteArray),ah.row 9 ap (dk.Now:List ByteArray),ah.row 83 ak (dk.Wait:List Turn),ah.held w own]) [(0,.pointer (some ⟨aG,0,none⟩)),(1,jJ)] Try.func20 rfl rfl rfl rfl H ?_
  refine R.reg rfl<|?_
  refine R.s rfl (s.box (cs:=[.pointer (some ⟨aG,0,none⟩)]) rfl rfl rfl) fun b1=>?_
  refine R.s rfl (s.xg (cs:=[jJ]) rfl (fun w hw=>Sl.eu ((fun _=>Wd.bZ 0 rfl) w hw)) rfl) fun b2=>?_
  refine R.u 1 rfl<|R.nil ?_
  refine R.reg rfl<|R.q (q.ld 0 rfl rfl cj rfl) rfl<|R.q (q.len' (fun _=>Wd.bZ 0 rfl) rfl Try.underlying46) rfl<|?_
  by_cases h1:62<c.length
  ·
    refine R.q (q.gtr rfl rfl (decide_eq_true (by omega))) rfl<|R.nil ?_
    refine R.aK rfl rfl ?_
    refine R.reg rfl<|R.q (q.iface rfl cD) rfl<|R.u 1 rfl<|R.nil ?_
    have hz:aP lg dk c=(lg,dk,2):=by (exact tg (by assumption))
    rw [hz]
    exact R.w1 (ao,ap,ak) [2,3,4,5,6,7] [] rfl Try.results20 (RV.tmp rfl) rfl rfl rfl (fO (by decide) rfl)
  ·
    refine R.q (q.gtr rfl rfl (decide_eq_false (by omega))) rfl<|R.nil ?_
    refine R.aI rfl rfl ?_
    by_cases h2:lg.Many-lg.Next<((c.length+1):Int)
    ·
      refine R.d9 rfl mixed (by kernel_rfl)<|Q.q (q.ld 0 rfl rfl cj rfl) rfl<|Q.q (q.len' (fun _=>Wd.bZ 0 rfl) rfl Try.underlying46) rfl<|Q.q (q.add (r:=((c.length+1:Nat):Int)) rfl rfl (wr (by omega))) rfl<|Q.q (q.ld 1 rfl rfl dr rfl) rfl<|Q.c (q.call sO rfl rfl (fun w hw=>(lX aG  au (lg) w (hw.b 2 rfl) (by first|assumption|omega|(dsimp only;omega))))) rfl<|Q.q (q.gtr rfl rfl (decide_eq_true (by omega))) rfl<|Q.nil ?_
      refine R.aK rfl rfl ?_
      refine R.reg rfl<|R.q (q.iface rfl cD) rfl<|R.u 1 rfl<|R.nil ?_
      have hz:aP lg dk c=(lg,dk,9):=by (exact tj (by omega) (by omega))
      rw [hz]
      exact R.w1 (ao,ap,ak) [2,3,4,5,6,7] [] rfl Try.results20 (RV.tmp rfl) rfl rfl rfl (fO (by decide) rfl)
    ·
      refine R.d9 rfl mixed (by kernel_rfl)<|Q.q (q.ld 0 rfl rfl cj rfl) rfl<|Q.q (q.len' (fun _=>Wd.bZ 0 rfl) rfl Try.underlying46) rfl<|Q.q (q.add (r:=((c.length+1:Nat):Int)) rfl rfl (wr (by omega))) rfl<|Q.q (q.ld 1 rfl rfl dr rfl) rfl<|Q.c (q.call sO rfl rfl (fun w hw=>(lX aG  au (lg) w (hw.b 2 rfl) (by first|assumption|omega|(dsimp only;omega))))) rfl<|Q.q (q.gtr rfl rfl (decide_eq_false (by omega))) rfl<|Q.nil ?_
      refine R.aI rfl rfl ?_
      refine R.reg rfl<|R.q (q.ld 0 rfl rfl cj rfl) rfl<|R.q (q.len' (fun _=>Wd.bZ 0 rfl) rfl Try.underlying46) rfl<|R.u 1 rfl<|R.nil ?_
      refine R.loop (fun i:Nat=>[(2,.pointer (some ⟨b1,0,none⟩)),(3,.pointer (some ⟨b2,0,none⟩)),(23,jJ),(24,.int .i64 (c.length:Int)),(25,.int .i64 (i:Int))]) (fun i:Nat=>[ah.box b2 [jJ] 46,ah.box b1 [.pointer (some ⟨aG,0,none⟩)] 32,ah.box aG [.pointer (some ⟨au,0,none⟩),.int .i64 lg.From,.int .i64 lg.Many,.int .i64 lg.First,.int .i64 lg.Next] 85,ah.box au [ao,ap,ak,.int .i64 dk.Fuse,.bool dk.Down] 81,ah.row 9 ao (dk.Kept:List ByteArray),ah.row 9 ap (dk.Now:List ByteArray),ah.row 83 ak (dk.Wait:List Turn),ah.held w own]) (fun i:Nat=>[ah.ls jJ (c:List Change)]) (fun i:Nat=>i≤c.length∧dR (c.drop i)=dR c) (fun i:Nat=>c.length-i) 0 rfl (by exact ⟨by omega,rfl⟩) ⟨rfl,rfl,rfl,rfl,rfl,trivial⟩ (fun _=>Wd.pick [0,1,2,3,4,5,6,7] [0] rfl rfl rfl) ?_
      rintro i ⟨hi,HL⟩
      refine R.reg rfl<|?_
      by_cases h3:i<c.length
      ·
        refine R.q (q.lss rfl rfl (decide_eq_true (by omega))) rfl<|R.nil ?_
        refine R.aK rfl rfl ?_
        refine R.reg rfl<|?_
        obtain ⟨x1,hx1⟩:∃z,c[i]? = some z:=⟨_,List.getElem?_eq_getElem (by omega)⟩
        have xZ:=aQ x1
        refine R.q (q.idx (i:=i) (fun _=>Wd.bZ 0 rfl) rfl rfl aT rfl hx1) rfl<|R.q (q.iU (ds:=[.string x1.Key,.string x1.Val,.bool x1.Gone]) (fun _=>Wd.bZ 0 rfl) hx1 rfl aX rfl) rfl<|?_
        refine R.s rfl (s.alloc (cs:=[.string (⟨#[]⟩),.string (⟨#[]⟩),.bool false]) bT rfl rfl) fun b3=>?_
        refine R.s rfl (s.st (us:=[.string x1.Key,.string x1.Val,.bool x1.Gone]) (cs':=[.string x1.Key,.string x1.Val,.bool x1.Gone]) 0 _ rfl rfl rfl rfl (.inl aX) rfl rfl rfl rfl) fun _=>?_
        refine R.nil ?_
        refine R.reg rfl<|R.q (q.mD 0 rfl rfl aX) rfl<|R.c (q.call mZ rfl rfl (fun w hw=>(dZ (x1) w  ))) rfl<|R.u 1 rfl<|R.nil ?_
        refine R.reg rfl<|R.u 1 rfl<|?_
        by_cases h4:ea x1=0
        ·
          refine R.q (q.dj rfl rfl Try.underlying28 (by omega)) rfl<|R.nil ?_
          refine R.aI rfl rfl ?_
          refine R.reg rfl<|R.q (q.add (r:=((i+1:Nat):Int)) rfl rfl (wr (by omega))) rfl<|R.u 1 rfl<|R.nil ?_
          refine R.back (i+1) rfl (by (exact ⟨by omega,td HL hx1 (by omega)⟩)) (by omega) ⟨rfl,rfl,rfl,rfl,rfl,trivial⟩ (fun _=>Wd.aA [1,2,3,4,5,6,7,8] [0] rfl rfl rfl)
        ·
          refine R.q (q.fy rfl rfl Try.underlying28 (by omega)) rfl<|R.nil ?_
          refine R.aK rfl rfl ?_
          refine R.reg rfl<|R.u 2 rfl<|R.nil ?_
          have hz:aP lg dk c=(lg,dk,ea x1):=by (exact rP (by assumption) (by omega) (om HL hx1 (by assumption)) (by assumption))
          rw [hz]
          exact R.w1 (ao,ap,ak) [3,4,5,6,7,8] [] rfl Try.results20 (RV.tmp rfl) rfl rfl rfl rfl
      ·
        refine R.q (q.lss rfl rfl (decide_eq_false (by omega))) rfl<|R.nil ?_
        refine R.aI rfl rfl ?_
        have g0:dR c=0:=tf HL (by omega);have g1:=oo (lg:=lg) (by assumption) (by omega) g0;have g2:=jq g0
        refine R.eT (fuel:=9) (Wd w (blks [ah.box aG [.pointer (some ⟨au,0,none⟩),.int .i64 lg.From,.int .i64 lg.Many,.int .i64 lg.First,.int .i64 lg.Next] 85,ah.box au [ao,ap,ak,.int .i64 dk.Fuse,.bool dk.Down] 81,ah.row 9 ao (dk.Kept:List ByteArray),ah.row 9 ap (dk.Now:List ByteArray),ah.row 83 ak (dk.Wait:List Turn)]++own) [ah.box b2 [jJ] 46,ah.box b1 [.pointer (some ⟨aG,0,none⟩)] 32,ah.box aG [.pointer (some ⟨au,0,none⟩),.int .i64 lg.From,.int .i64 lg.Many,.int .i64 lg.First,.int .i64 lg.Next] 85,ah.box au [ao,ap,ak,.int .i64 dk.Fuse,.bool dk.Down] 81,ah.row 9 ao (dk.Kept:List ByteArray),ah.row 9 ap (dk.Now:List ByteArray),ah.row 83 ak (dk.Wait:List Turn),ah.held w own] [ah.ls jJ (c:List Change)]) rfl mixed rfl ?_
        refine D.q (i:=0) rfl (by kernel_rfl) (fun _=>Wd.aA [0,1,2,3,4,5,6,7] [0] rfl rfl rfl) rfl (q.ld 1 rfl rfl dr rfl) rfl<|D.q (i:=1) rfl (by kernel_rfl) (fun _=>Wd.aA [0,1,2,3,4,5,6,7] [0] rfl rfl rfl) rfl (q.bm rfl) rfl<|D.q (i:=2) rfl (by kernel_rfl) (fun _=>Wd.aA [0,1,2,3,4,5,6,7] [0] rfl rfl rfl) rfl (q.bJ (off':=4) rfl eY rfl) rfl<|D.q (i:=3) rfl (by kernel_rfl) (fun _=>Wd.aA [0,1,2,3,4,5,6,7] [0] rfl rfl rfl) rfl (q.ld 2 rfl rfl aS rfl) rfl<|D.q (i:=4) rfl (by kernel_rfl) (fun _=>Wd.aA [0,1,2,3,4,5,6,7] [0] rfl rfl rfl) rfl (q.ld 0 rfl rfl cj rfl) rfl<|D.q (i:=5) rfl (by kernel_rfl) (fun _=>Wd.aA [0,1,2,3,4,5,6,7] [0] rfl rfl rfl) rfl (q.len' (fun _=>Wd.bZ 0 rfl) rfl Try.underlying46) rfl<|D.q (i:=6) rfl (by kernel_rfl) (fun _=>Wd.aA [0,1,2,3,4,5,6,7] [0] rfl rfl rfl) rfl (q.add (r:=lg.Next+(c.length:Int)) rfl rfl (wr (by omega))) rfl<|?_
        refine D.one (i:=7) (by kernel_rfl) rfl ?_
        refine Do.s (s.alloc (cs:=[.int .i64 0]) qy rfl rfl) (fun _=>(fun _=>Wd.aA [1,2,3,4,5,6,7,8] [0] rfl rfl rfl)) rfl fun b4=>?_
        refine D.one (i:=8) (by kernel_rfl) rfl ?_
        refine Do.s (s.st (us:=[.int .i64 (lg.Next+(c.length:Int))]) (cs':=[.int .i64 (lg.Next+(c.length:Int))]) 0 _ rfl rfl rfl rfl (.inr ⟨aS,rfl⟩) rfl rfl rfl rfl) (fun _=>(fun _=>Wd.aA [1,2,3,4,5,6,7,8] [0] rfl rfl rfl)) rfl fun _=>?_
        refine D.done (by kernel_rfl)<|?_
        have a0:cz dk.Now.length 90000 dk∧dk.Now.length≤100000:=⟨hD.1.up (by omega),hD.2⟩;have a2:cz dk.Now.length 90000 ((aR lg dk c).1):=(oj (lg:=lg) (c:=c) hD.1).up (by omega);have n2:=a2.nl;have q2:=a2.fine (by omega) (by omega)
        have a3:cz dk.Now.length 90000 ((aj ((aR lg dk c).1)).1):=a2.flush;have n3:((aj ((aR lg dk c).1)).1).Now.length=dk.Now.length:=a3.nl;have q3:cz ((aj ((aR lg dk c).1)).1).Now.length 91000 ((aj ((aR lg dk c).1)).1)∧((aj ((aR lg dk c).1)).1).Now.length≤100000:=⟨n3▸a3.up (by omega),by omega⟩
        have a4:cz dk.Now.length 90001 ((ar ((aj ((aR lg dk c).1)).1) (lg.From+(lg.Next+(c.length:Int))) (a8 99 (lg.First+(lg.Next+(c.length:Int))) (aM (c.length:Int)))).1):=a3.write _ _;have n4:=a4.nl;have q4:=a4.fine (by omega) (by omega)
        refine R.eT (fuel:=15) (Wd w (blks [ah.box aG [.pointer (some ⟨au,0,none⟩),.int .i64 lg.From,.int .i64 lg.Many,.int .i64 lg.First,.int .i64 lg.Next] 85,ah.box au [ao,ap,ak,.int .i64 dk.Fuse,.bool dk.Down] 81,ah.row 9 ao (dk.Kept:List ByteArray),ah.row 9 ap (dk.Now:List ByteArray),ah.row 83 ak (dk.Wait:List Turn)]++own) [ah.box b4 [.int .i64 (lg.Next+(c.length:Int))] 3,ah.box b2 [jJ] 46,ah.box b1 [.pointer (some ⟨aG,0,none⟩)] 32,ah.box aG [.pointer (some ⟨au,0,none⟩),.int .i64 lg.From,.int .i64 lg.Many,.int .i64 lg.First,.int .i64 lg.Next] 85,ah.box au [ao,ap,ak,.int .i64 dk.Fuse,.bool dk.Down] 81,ah.row 9 ao (dk.Kept:List ByteArray),ah.row 9 ap (dk.Now:List ByteArray),ah.row 83 ak (dk.Wait:List Turn),ah.held w own] [ah.ls jJ (c:List Change)]) rfl mixed rfl ?_
        refine D.q (i:=0) rfl (by kernel_rfl) (fun _=>Wd.aA [0,1,2,3,4,5,6,7,8] [0] rfl rfl rfl) rfl (q.yB (cap:=[.pointer (some ⟨b1,0,none⟩),.pointer (some ⟨b2,0,none⟩)]) rfl rfl) rfl<|D.q (i:=1) rfl (by kernel_rfl) (fun _=>Wd.aA [0,1,2,3,4,5,6,7,8] [0] rfl rfl rfl) rfl (q.ld 2 rfl rfl dr rfl) rfl<|D.q (i:=2) rfl (by kernel_rfl) (fun _=>Wd.aA [0,1,2,3,4,5,6,7,8] [0] rfl rfl rfl) rfl (q.bm rfl) rfl<|D.q (i:=3) rfl (by kernel_rfl) (fun _=>Wd.aA [0,1,2,3,4,5,6,7,8] [0] rfl rfl rfl) rfl (q.bJ (off':=0) rfl gi rfl) rfl<|D.q (i:=4) rfl (by kernel_rfl) (fun _=>Wd.aA [0,1,2,3,4,5,6,7,8] [0] rfl rfl rfl) rfl (q.ld 3 rfl rfl dU rfl) rfl<|D.q (i:=5) rfl (by kernel_rfl) (fun _=>Wd.aA [0,1,2,3,4,5,6,7,8] [0] rfl rfl rfl) rfl (q.xo (bnd:=[.pointer (some ⟨au,0,none⟩)]) (cap:=[]) rfl rfl) rfl<|D.q (i:=6) rfl (by kernel_rfl) (fun _=>Wd.aA [0,1,2,3,4,5,6,7,8] [0] rfl rfl rfl) rfl (q.yB (cap:=[.pointer (some ⟨b1,0,none⟩),.pointer (some ⟨b4,0,none⟩),.pointer (some ⟨b2,0,none⟩)]) rfl rfl) rfl<|D.q (i:=7) rfl (by kernel_rfl) (fun _=>Wd.aA [0,1,2,3,4,5,6,7,8] [0] rfl rfl rfl) rfl (q.ld 2 rfl rfl dr rfl) rfl<|D.q (i:=8) rfl (by kernel_rfl) (fun _=>Wd.aA [0,1,2,3,4,5,6,7,8] [0] rfl rfl rfl) rfl (q.bm rfl) rfl<|D.q (i:=9) rfl (by kernel_rfl) (fun _=>Wd.aA [0,1,2,3,4,5,6,7,8] [0] rfl rfl rfl) rfl (q.bJ (off':=0) rfl gi rfl) rfl<|D.q (i:=10) rfl (by kernel_rfl) (fun _=>Wd.aA [0,1,2,3,4,5,6,7,8] [0] rfl rfl rfl) rfl (q.ld 3 rfl rfl dU rfl) rfl<|D.q (i:=11) rfl (by kernel_rfl) (fun _=>Wd.aA [0,1,2,3,4,5,6,7,8] [0] rfl rfl rfl) rfl (q.xo (bnd:=[.pointer (some ⟨au,0,none⟩)]) (cap:=[]) rfl rfl) rfl<|D.q (i:=14) rfl (by kernel_rfl) (fun _=>Wd.aA [0,1,2,3,4,5,6,7,8] [0] rfl rfl rfl) rfl (q.mv rfl) rfl<|?_
        refine D.one (i:=12) (by kernel_rfl) rfl ?_
        refine Do.s (s.bs (l:=(([(⟨.func 49,#[],#[.pointer (some ⟨b1,0,none⟩),.pointer (some ⟨b2,0,none⟩)]⟩:eJ),(⟨.func 51,#[.pointer (some ⟨au,0,none⟩)],#[]⟩:eJ),(⟨.func 52,#[],#[.pointer (some ⟨b1,0,none⟩),.pointer (some ⟨b4,0,none⟩),.pointer (some ⟨b2,0,none⟩)]⟩:eJ),(⟨.func 51,#[.pointer (some ⟨au,0,none⟩)],#[]⟩:eJ)]):List eJ)) lE sM rfl rfl rfl rfl rfl rfl rfl) (fun _=>(fun _=>Wd.aA [1,2,3,4,5,6,7,8,9] [0] rfl rfl rfl)) rfl fun b5=>?_
        refine D.one (i:=13) (by kernel_rfl) rfl ?_
        refine Do.s (s.c (Qt.a (q.xh (v:= .int .i64 ((List.length ([(⟨.func 49,#[],#[.pointer (some ⟨b1,0,none⟩),.pointer (some ⟨b2,0,none⟩)]⟩:eJ),(⟨.func 51,#[.pointer (some ⟨au,0,none⟩)],#[]⟩:eJ),(⟨.func 52,#[],#[.pointer (some ⟨b1,0,none⟩),.pointer (some ⟨b4,0,none⟩),.pointer (some ⟨b2,0,none⟩)]⟩:eJ),(⟨.func 51,#[.pointer (some ⟨au,0,none⟩)],#[]⟩:eJ)]):Nat):Int)) (v':= .int .i64 4) rfl (q.len' (l:=([(⟨.func 49,#[],#[.pointer (some ⟨b1,0,none⟩),.pointer (some ⟨b2,0,none⟩)]⟩:eJ),(⟨.func 51,#[.pointer (some ⟨au,0,none⟩)],#[]⟩:eJ),(⟨.func 52,#[],#[.pointer (some ⟨b1,0,none⟩),.pointer (some ⟨b4,0,none⟩),.pointer (some ⟨b2,0,none⟩)]⟩:eJ),(⟨.func 51,#[.pointer (some ⟨au,0,none⟩)],#[]⟩:eJ)])) (fun _=>Wd.row 0 rfl) rfl Try.underlying96))) rfl) (fun _=>(fun _=>Wd.aA [1,2,3,4,5,6,7,8,9] [0] rfl rfl rfl)) rfl fun _=>?_
        refine D.done (by kernel_rfl)<|?_
        refine R.vM 4 rfl ?_
        refine R.reg rfl<|R.q (q.lss (b:=true) rfl rfl (by decide)) rfl<|R.nil ?_
        refine R.aK rfl rfl ?_
        refine R.reg rfl<|R.q (q.idx (i:=0) (fun _=>Wd.row 0 rfl) rfl rfl lE rfl rfl) rfl<|R.q (q.uy (x:=(⟨.func 49,#[],#[.pointer (some ⟨b1,0,none⟩),.pointer (some ⟨b2,0,none⟩)]⟩:eJ)) rfl (q.iP (fun _=>Wd.row 0 rfl) rfl rfl kZ rfl)) rfl<|R.u 1 rfl<|R.nil ?_
        refine R.reg rfl<|R.u 1 rfl<|?_
        refine R.s (B':=(fun g_:Value×Value×Value×Value=>[ah.box b1 [.pointer (some ⟨aG,0,none⟩)] 32,ah.box b2 [g_.1] 46,ah.box aG [.pointer (some ⟨au,0,none⟩),.int .i64 ((lg).From),.int .i64 ((lg).Many),.int .i64 ((lg).First),.int .i64 ((lg).Next)] 85,ah.box au [g_.2.1,g_.2.2.1,g_.2.2.2,.int .i64 ((((aR lg dk c).1)).Fuse),.bool ((((aR lg dk c).1)).Down)] 81,ah.row 9 g_.2.1 ((((aR lg dk c).1)).Kept:List ByteArray),ah.row 9 g_.2.2.1 ((((aR lg dk c).1)).Now:List ByteArray),ah.row 83 g_.2.2.2 ((((aR lg dk c).1)).Wait:List Turn),ah.row 62 (.slice (some ⟨b5,0,none⟩) 4 4) (([(⟨.func 49,#[],#[.pointer (some ⟨b1,0,none⟩),.pointer (some ⟨b2,0,none⟩)]⟩:eJ),(⟨.func 51,#[.pointer (some ⟨au,0,none⟩)],#[]⟩:eJ),(⟨.func 52,#[],#[.pointer (some ⟨b1,0,none⟩),.pointer (some ⟨b4,0,none⟩),.pointer (some ⟨b2,0,none⟩)]⟩:eJ),(⟨.func 51,#[.pointer (some ⟨au,0,none⟩)],#[]⟩:eJ)]):List eJ),ah.box b4 [.int .i64 (lg.Next+(c.length:Int))] 3,ah.held w own])) (F':=(fun g_:Value×Value×Value×Value=>[ah.ls g_.1 (((⟨c⟩:vE)).C:List Change),ah.ls jJ (c:List Change)])) rfl (s.bD (B0:=[ah.box b1 [.pointer (some ⟨aG,0,none⟩)] 32,ah.box b2 [jJ] 46,ah.box aG [.pointer (some ⟨au,0,none⟩),.int .i64 lg.From,.int .i64 lg.Many,.int .i64 lg.First,.int .i64 lg.Next] 85,ah.box au [ao,ap,ak,.int .i64 dk.Fuse,.bool dk.Down] 81,ah.row 9 ao (dk.Kept:List ByteArray),ah.row 9 ap (dk.Now:List ByteArray),ah.row 83 ak (dk.Wait:List Turn)]) (Br:=[ah.row 62 (.slice (some ⟨b5,0,none⟩) 4 4) (([(⟨.func 49,#[],#[.pointer (some ⟨b1,0,none⟩),.pointer (some ⟨b2,0,none⟩)]⟩:eJ),(⟨.func 51,#[.pointer (some ⟨au,0,none⟩)],#[]⟩:eJ),(⟨.func 52,#[],#[.pointer (some ⟨b1,0,none⟩),.pointer (some ⟨b4,0,none⟩),.pointer (some ⟨b2,0,none⟩)]⟩:eJ),(⟨.func 51,#[.pointer (some ⟨au,0,none⟩)],#[]⟩:eJ)]):List eJ),ah.box b4 [.int .i64 (lg.Next+(c.length:Int))] 3,ah.held w own]) (F0:=[ah.ls jJ (c:List Change)]) [3,2,4,5,6,7,8,0,1,9] [0] (fun g_:Value×Value×Value×Value=>bF (((aR lg dk c).2))) (fun g_:Value×Value×Value×Value=>[ah.box b1 [.pointer (some ⟨aG,0,none⟩)] 32,ah.box b2 [g_.1] 46,ah.box aG [.pointer (some ⟨au,0,none⟩),.int .i64 ((lg).From),.int .i64 ((lg).Many),.int .i64 ((lg).First),.int .i64 ((lg).Next)] 85,ah.box au [g_.2.1,g_.2.2.1,g_.2.2.2,.int .i64 ((((aR lg dk c).1)).Fuse),.bool ((((aR lg dk c).1)).Down)] 81,ah.row 9 g_.2.1 ((((aR lg dk c).1)).Kept:List ByteArray),ah.row 9 g_.2.2.1 ((((aR lg dk c).1)).Now:List ByteArray),ah.row 83 g_.2.2.2 ((((aR lg dk c).1)).Wait:List Turn)]) (fun g_:Value×Value×Value×Value=>[ah.ls g_.1 (((⟨c⟩:vE)).C:List Change)]) rfl rfl rfl xC rfl rfl (fun w own hw H=>tr b1  (()) b2 jJ ((⟨c⟩:vE)) aG  (lg) au ao ap ak (dk) w own H (by first|assumption|omega|(dsimp only;omega)) (by first|omega|assumption|(dsimp only;omega)) (by assumption) (by first|assumption|exact ⟨by assumption,by omega⟩)) rfl) ?_
        rintro ⟨z1,z2,z3,z4⟩
        dsimp only
        refine R.u 1 rfl<|R.nil ?_
        refine R.reg rfl<|R.u 1 rfl<|?_
        by_cases h5:(aR lg dk c).2=0
        ·
          refine R.q (q.dj rfl rfl Try.underlying28 (by omega)) rfl<|R.nil ?_
          refine R.aI rfl rfl ?_
          refine R.reg rfl<|R.q (q.add (r:=1) rfl rfl (by decide)) rfl<|R.u 1 rfl<|R.nil ?_
          refine R.again rfl rfl ?_
          refine R.reg rfl<|R.q (q.lss (b:=true) rfl rfl (by decide)) rfl<|R.nil ?_
          refine R.aK rfl rfl ?_
          refine R.reg rfl<|R.q (q.idx (i:=1) (fun _=>Wd.row 7 rfl) rfl rfl lE rfl rfl) rfl<|R.q (q.uy (x:=(⟨.func 51,#[.pointer (some ⟨au,0,none⟩)],#[]⟩:eJ)) rfl (q.iP (fun _=>Wd.row 7 rfl) rfl rfl kZ rfl)) rfl<|R.u 1 rfl<|R.nil ?_
          refine R.reg rfl<|R.u 1 rfl<|?_
          refine R.s (B':=(fun g_:Value×Value×Value=>[ah.box au [g_.1,g_.2.1,g_.2.2,.int .i64 ((((aj ((aR lg dk c).1))).1).Fuse),.bool ((((aj ((aR lg dk c).1))).1).Down)] 81,ah.row 9 g_.1 ((((aj ((aR lg dk c).1))).1).Kept:List ByteArray),ah.row 9 g_.2.1 ((((aj ((aR lg dk c).1))).1).Now:List ByteArray),ah.row 83 g_.2.2 ((((aj ((aR lg dk c).1))).1).Wait:List Turn),ah.box b1 [.pointer (some ⟨aG,0,none⟩)] 32,ah.box b2 [z1] 46,ah.box aG [.pointer (some ⟨au,0,none⟩),.int .i64 lg.From,.int .i64 lg.Many,.int .i64 lg.First,.int .i64 lg.Next] 85,ah.row 62 (.slice (some ⟨b5,0,none⟩) 4 4) (([(⟨.func 49,#[],#[.pointer (some ⟨b1,0,none⟩),.pointer (some ⟨b2,0,none⟩)]⟩:eJ),(⟨.func 51,#[.pointer (some ⟨au,0,none⟩)],#[]⟩:eJ),(⟨.func 52,#[],#[.pointer (some ⟨b1,0,none⟩),.pointer (some ⟨b4,0,none⟩),.pointer (some ⟨b2,0,none⟩)]⟩:eJ),(⟨.func 51,#[.pointer (some ⟨au,0,none⟩)],#[]⟩:eJ)]):List eJ),ah.box b4 [.int .i64 (lg.Next+(c.length:Int))] 3,ah.held w own])) (F':=(fun g_:Value×Value×Value=>[ah.ls z1 (c:List Change),ah.ls jJ (c:List Change)])) rfl (s.sJ (B0:=[ah.box au [z2,z3,z4,.int .i64 (((aR lg dk c).1).Fuse),.bool (((aR lg dk c).1).Down)] 81,ah.row 9 z2 (((aR lg dk c).1).Kept:List ByteArray),ah.row 9 z3 (((aR lg dk c).1).Now:List ByteArray),ah.row 83 z4 (((aR lg dk c).1).Wait:List Turn)]) (Br:=[ah.box b1 [.pointer (some ⟨aG,0,none⟩)] 32,ah.box b2 [z1] 46,ah.box aG [.pointer (some ⟨au,0,none⟩),.int .i64 lg.From,.int .i64 lg.Many,.int .i64 lg.First,.int .i64 lg.Next] 85,ah.row 62 (.slice (some ⟨b5,0,none⟩) 4 4) (([(⟨.func 49,#[],#[.pointer (some ⟨b1,0,none⟩),.pointer (some ⟨b2,0,none⟩)]⟩:eJ),(⟨.func 51,#[.pointer (some ⟨au,0,none⟩)],#[]⟩:eJ),(⟨.func 52,#[],#[.pointer (some ⟨b1,0,none⟩),.pointer (some ⟨b4,0,none⟩),.pointer (some ⟨b2,0,none⟩)]⟩:eJ),(⟨.func 51,#[.pointer (some ⟨au,0,none⟩)],#[]⟩:eJ)]):List eJ),ah.box b4 [.int .i64 (lg.Next+(c.length:Int))] 3,ah.held w own]) (F0:=[]) [3,4,5,6,0,1,2,7,8,9] [] (fun g_:Value×Value×Value=>bF (((aj ((aR lg dk c).1))).2)) (fun g_:Value×Value×Value=>[ah.box au [g_.1,g_.2.1,g_.2.2,.int .i64 ((((aj ((aR lg dk c).1))).1).Fuse),.bool ((((aj ((aR lg dk c).1))).1).Down)] 81,ah.row 9 g_.1 ((((aj ((aR lg dk c).1))).1).Kept:List ByteArray),ah.row 9 g_.2.1 ((((aj ((aR lg dk c).1))).1).Now:List ByteArray),ah.row 83 g_.2.2 ((((aj ((aR lg dk c).1))).1).Wait:List Turn)]) (fun g_:Value×Value×Value=>[]) rfl rfl rfl m4 rfl rfl (fun w own hw H=>ff au z2 z3 z4 (((aR lg dk c).1)) w own H (by first|assumption|omega)) rfl) ?_
          rintro ⟨z5,z6,z7⟩
          dsimp only
          refine R.u 1 rfl<|R.nil ?_
          refine R.reg rfl<|R.u 1 rfl<|?_
          by_cases h6:(aj ((aR lg dk c).1)).2=0
          ·
            refine R.q (q.dj rfl rfl Try.underlying28 (by omega)) rfl<|R.nil ?_
            refine R.aI rfl rfl ?_
            refine R.reg rfl<|R.q (q.add (r:=2) rfl rfl (by decide)) rfl<|R.u 1 rfl<|R.nil ?_
            refine R.again rfl rfl ?_
            refine R.reg rfl<|R.q (q.lss (b:=true) rfl rfl (by decide)) rfl<|R.nil ?_
            refine R.aK rfl rfl ?_
            refine R.reg rfl<|R.q (q.idx (i:=2) (fun _=>Wd.row 7 rfl) rfl rfl lE rfl rfl) rfl<|R.q (q.uy (x:=(⟨.func 52,#[],#[.pointer (some ⟨b1,0,none⟩),.pointer (some ⟨b4,0,none⟩),.pointer (some ⟨b2,0,none⟩)]⟩:eJ)) rfl (q.iP (fun _=>Wd.row 7 rfl) rfl rfl kZ rfl)) rfl<|R.u 1 rfl<|R.nil ?_
            refine R.reg rfl<|R.u 1 rfl<|?_
            refine R.s (B':=(fun g_:Value×Value×Value×Value=>[ah.box b1 [.pointer (some ⟨aG,0,none⟩)] 32,ah.box b4 [.int .i64 (((⟨(lg.Next+(c.length:Int))⟩:uP)).E)] 3,ah.box b2 [g_.1] 46,ah.box aG [.pointer (some ⟨au,0,none⟩),.int .i64 ((lg).From),.int .i64 ((lg).Many),.int .i64 ((lg).First),.int .i64 ((lg).Next)] 85,ah.box au [g_.2.1,g_.2.2.1,g_.2.2.2,.int .i64 ((((ar ((aj ((aR lg dk c).1)).1) (lg.From+(lg.Next+(c.length:Int))) (a8 99 (lg.First+(lg.Next+(c.length:Int))) (aM (c.length:Int)))).1)).Fuse),.bool ((((ar ((aj ((aR lg dk c).1)).1) (lg.From+(lg.Next+(c.length:Int))) (a8 99 (lg.First+(lg.Next+(c.length:Int))) (aM (c.length:Int)))).1)).Down)] 81,ah.row 9 g_.2.1 ((((ar ((aj ((aR lg dk c).1)).1) (lg.From+(lg.Next+(c.length:Int))) (a8 99 (lg.First+(lg.Next+(c.length:Int))) (aM (c.length:Int)))).1)).Kept:List ByteArray),ah.row 9 g_.2.2.1 ((((ar ((aj ((aR lg dk c).1)).1) (lg.From+(lg.Next+(c.length:Int))) (a8 99 (lg.First+(lg.Next+(c.length:Int))) (aM (c.length:Int)))).1)).Now:List ByteArray),ah.row 83 g_.2.2.2 ((((ar ((aj ((aR lg dk c).1)).1) (lg.From+(lg.Next+(c.length:Int))) (a8 99 (lg.First+(lg.Next+(c.length:Int))) (aM (c.length:Int)))).1)).Wait:List Turn),ah.row 62 (.slice (some ⟨b5,0,none⟩) 4 4) (([(⟨.func 49,#[],#[.pointer (some ⟨b1,0,none⟩),.pointer (some ⟨b2,0,none⟩)]⟩:eJ),(⟨.func 51,#[.pointer (some ⟨au,0,none⟩)],#[]⟩:eJ),(⟨.func 52,#[],#[.pointer (some ⟨b1,0,none⟩),.pointer (some ⟨b4,0,none⟩),.pointer (some ⟨b2,0,none⟩)]⟩:eJ),(⟨.func 51,#[.pointer (some ⟨au,0,none⟩)],#[]⟩:eJ)]):List eJ),ah.held w own])) (F':=(fun g_:Value×Value×Value×Value=>[ah.ls g_.1 (((⟨c⟩:vE)).C:List Change),ah.ls z1 (c:List Change),ah.ls jJ (c:List Change)])) rfl (s.bD (B0:=[ah.box b1 [.pointer (some ⟨aG,0,none⟩)] 32,ah.box b4 [.int .i64 (lg.Next+(c.length:Int))] 3,ah.box b2 [z1] 46,ah.box aG [.pointer (some ⟨au,0,none⟩),.int .i64 lg.From,.int .i64 lg.Many,.int .i64 lg.First,.int .i64 lg.Next] 85,ah.box au [z5,z6,z7,.int .i64 (((aj ((aR lg dk c).1)).1).Fuse),.bool (((aj ((aR lg dk c).1)).1).Down)] 81,ah.row 9 z5 (((aj ((aR lg dk c).1)).1).Kept:List ByteArray),ah.row 9 z6 (((aj ((aR lg dk c).1)).1).Now:List ByteArray),ah.row 83 z7 (((aj ((aR lg dk c).1)).1).Wait:List Turn)]) (Br:=[ah.row 62 (.slice (some ⟨b5,0,none⟩) 4 4) (([(⟨.func 49,#[],#[.pointer (some ⟨b1,0,none⟩),.pointer (some ⟨b2,0,none⟩)]⟩:eJ),(⟨.func 51,#[.pointer (some ⟨au,0,none⟩)],#[]⟩:eJ),(⟨.func 52,#[],#[.pointer (some ⟨b1,0,none⟩),.pointer (some ⟨b4,0,none⟩),.pointer (some ⟨b2,0,none⟩)]⟩:eJ),(⟨.func 51,#[.pointer (some ⟨au,0,none⟩)],#[]⟩:eJ)]):List eJ),ah.held w own]) (F0:=[ah.ls z1 (c:List Change)]) [4,8,5,6,0,1,2,3,7,9] [0] (fun g_:Value×Value×Value×Value=>bF (((ar ((aj ((aR lg dk c).1)).1) (lg.From+(lg.Next+(c.length:Int))) (a8 99 (lg.First+(lg.Next+(c.length:Int))) (aM (c.length:Int)))).2))) (fun g_:Value×Value×Value×Value=>[ah.box b1 [.pointer (some ⟨aG,0,none⟩)] 32,ah.box b4 [.int .i64 (((⟨(lg.Next+(c.length:Int))⟩:uP)).E)] 3,ah.box b2 [g_.1] 46,ah.box aG [.pointer (some ⟨au,0,none⟩),.int .i64 ((lg).From),.int .i64 ((lg).Many),.int .i64 ((lg).First),.int .i64 ((lg).Next)] 85,ah.box au [g_.2.1,g_.2.2.1,g_.2.2.2,.int .i64 ((((ar ((aj ((aR lg dk c).1)).1) (lg.From+(lg.Next+(c.length:Int))) (a8 99 (lg.First+(lg.Next+(c.length:Int))) (aM (c.length:Int)))).1)).Fuse),.bool ((((ar ((aj ((aR lg dk c).1)).1) (lg.From+(lg.Next+(c.length:Int))) (a8 99 (lg.First+(lg.Next+(c.length:Int))) (aM (c.length:Int)))).1)).Down)] 81,ah.row 9 g_.2.1 ((((ar ((aj ((aR lg dk c).1)).1) (lg.From+(lg.Next+(c.length:Int))) (a8 99 (lg.First+(lg.Next+(c.length:Int))) (aM (c.length:Int)))).1)).Kept:List ByteArray),ah.row 9 g_.2.2.1 ((((ar ((aj ((aR lg dk c).1)).1) (lg.From+(lg.Next+(c.length:Int))) (a8 99 (lg.First+(lg.Next+(c.length:Int))) (aM (c.length:Int)))).1)).Now:List ByteArray),ah.row 83 g_.2.2.2 ((((ar ((aj ((aR lg dk c).1)).1) (lg.From+(lg.Next+(c.length:Int))) (a8 99 (lg.First+(lg.Next+(c.length:Int))) (aM (c.length:Int)))).1)).Wait:List Turn)]) (fun g_:Value×Value×Value×Value=>[ah.ls g_.1 (((⟨c⟩:vE)).C:List Change)]) rfl rfl rfl xE rfl rfl (fun w own hw H=>tu b1  (()) b4  ((⟨(lg.Next+(c.length:Int))⟩:uP)) b2 z1 ((⟨c⟩:vE)) aG  (lg) au z5 z6 z7 (((aj ((aR lg dk c).1)).1)) w own H (by first|assumption|omega|(dsimp only;omega)) (by first|omega|(dsimp only;omega)) (by first|omega|assumption|(dsimp only;omega)) (by first|assumption|exact ⟨by assumption,by omega⟩)) rfl) ?_
            rintro ⟨z8,z9,gU,fx⟩
            dsimp only
            refine R.u 1 rfl<|R.nil ?_
            refine R.reg rfl<|R.u 1 rfl<|?_
            by_cases h7:(ar ((aj ((aR lg dk c).1)).1) (lg.From+(lg.Next+(c.length:Int))) (a8 99 (lg.First+(lg.Next+(c.length:Int))) (aM (c.length:Int)))).2=0
            ·
              refine R.q (q.dj rfl rfl Try.underlying28 (by omega)) rfl<|R.nil ?_
              refine R.aI rfl rfl ?_
              refine R.reg rfl<|R.q (q.add (r:=3) rfl rfl (by decide)) rfl<|R.u 1 rfl<|R.nil ?_
              refine R.again rfl rfl ?_
              refine R.reg rfl<|R.q (q.lss (b:=true) rfl rfl (by decide)) rfl<|R.nil ?_
              refine R.aK rfl rfl ?_
              refine R.reg rfl<|R.q (q.idx (i:=3) (fun _=>Wd.row 8 rfl) rfl rfl lE rfl rfl) rfl<|R.q (q.uy (x:=(⟨.func 51,#[.pointer (some ⟨au,0,none⟩)],#[]⟩:eJ)) rfl (q.iP (fun _=>Wd.row 8 rfl) rfl rfl kZ rfl)) rfl<|R.u 1 rfl<|R.nil ?_
              refine R.reg rfl<|R.u 1 rfl<|?_
              refine R.s (B':=(fun g_:Value×Value×Value=>[ah.box au [g_.1,g_.2.1,g_.2.2,.int .i64 ((((aj ((ar ((aj ((aR lg dk c).1)).1) (lg.From+(lg.Next+(c.length:Int))) (a8 99 (lg.First+(lg.Next+(c.length:Int))) (aM (c.length:Int)))).1))).1).Fuse),.bool ((((aj ((ar ((aj ((aR lg dk c).1)).1) (lg.From+(lg.Next+(c.length:Int))) (a8 99 (lg.First+(lg.Next+(c.length:Int))) (aM (c.length:Int)))).1))).1).Down)] 81,ah.row 9 g_.1 ((((aj ((ar ((aj ((aR lg dk c).1)).1) (lg.From+(lg.Next+(c.length:Int))) (a8 99 (lg.First+(lg.Next+(c.length:Int))) (aM (c.length:Int)))).1))).1).Kept:List ByteArray),ah.row 9 g_.2.1 ((((aj ((ar ((aj ((aR lg dk c).1)).1) (lg.From+(lg.Next+(c.length:Int))) (a8 99 (lg.First+(lg.Next+(c.length:Int))) (aM (c.length:Int)))).1))).1).Now:List ByteArray),ah.row 83 g_.2.2 ((((aj ((ar ((aj ((aR lg dk c).1)).1) (lg.From+(lg.Next+(c.length:Int))) (a8 99 (lg.First+(lg.Next+(c.length:Int))) (aM (c.length:Int)))).1))).1).Wait:List Turn),ah.box b1 [.pointer (some ⟨aG,0,none⟩)] 32,ah.box b4 [.int .i64 (lg.Next+(c.length:Int))] 3,ah.box b2 [z8] 46,ah.box aG [.pointer (some ⟨au,0,none⟩),.int .i64 lg.From,.int .i64 lg.Many,.int .i64 lg.First,.int .i64 lg.Next] 85,ah.row 62 (.slice (some ⟨b5,0,none⟩) 4 4) (([(⟨.func 49,#[],#[.pointer (some ⟨b1,0,none⟩),.pointer (some ⟨b2,0,none⟩)]⟩:eJ),(⟨.func 51,#[.pointer (some ⟨au,0,none⟩)],#[]⟩:eJ),(⟨.func 52,#[],#[.pointer (some ⟨b1,0,none⟩),.pointer (some ⟨b4,0,none⟩),.pointer (some ⟨b2,0,none⟩)]⟩:eJ),(⟨.func 51,#[.pointer (some ⟨au,0,none⟩)],#[]⟩:eJ)]):List eJ),ah.held w own])) (F':=(fun g_:Value×Value×Value=>[ah.ls z8 (c:List Change),ah.ls z1 (c:List Change),ah.ls jJ (c:List Change)])) rfl (s.sJ (B0:=[ah.box au [z9,gU,fx,.int .i64 (((ar ((aj ((aR lg dk c).1)).1) (lg.From+(lg.Next+(c.length:Int))) (a8 99 (lg.First+(lg.Next+(c.length:Int))) (aM (c.length:Int)))).1).Fuse),.bool (((ar ((aj ((aR lg dk c).1)).1) (lg.From+(lg.Next+(c.length:Int))) (a8 99 (lg.First+(lg.Next+(c.length:Int))) (aM (c.length:Int)))).1).Down)] 81,ah.row 9 z9 (((ar ((aj ((aR lg dk c).1)).1) (lg.From+(lg.Next+(c.length:Int))) (a8 99 (lg.First+(lg.Next+(c.length:Int))) (aM (c.length:Int)))).1).Kept:List ByteArray),ah.row 9 gU (((ar ((aj ((aR lg dk c).1)).1) (lg.From+(lg.Next+(c.length:Int))) (a8 99 (lg.First+(lg.Next+(c.length:Int))) (aM (c.length:Int)))).1).Now:List ByteArray),ah.row 83 fx (((ar ((aj ((aR lg dk c).1)).1) (lg.From+(lg.Next+(c.length:Int))) (a8 99 (lg.First+(lg.Next+(c.length:Int))) (aM (c.length:Int)))).1).Wait:List Turn)]) (Br:=[ah.box b1 [.pointer (some ⟨aG,0,none⟩)] 32,ah.box b4 [.int .i64 (lg.Next+(c.length:Int))] 3,ah.box b2 [z8] 46,ah.box aG [.pointer (some ⟨au,0,none⟩),.int .i64 lg.From,.int .i64 lg.Many,.int .i64 lg.First,.int .i64 lg.Next] 85,ah.row 62 (.slice (some ⟨b5,0,none⟩) 4 4) (([(⟨.func 49,#[],#[.pointer (some ⟨b1,0,none⟩),.pointer (some ⟨b2,0,none⟩)]⟩:eJ),(⟨.func 51,#[.pointer (some ⟨au,0,none⟩)],#[]⟩:eJ),(⟨.func 52,#[],#[.pointer (some ⟨b1,0,none⟩),.pointer (some ⟨b4,0,none⟩),.pointer (some ⟨b2,0,none⟩)]⟩:eJ),(⟨.func 51,#[.pointer (some ⟨au,0,none⟩)],#[]⟩:eJ)]):List eJ),ah.held w own]) (F0:=[]) [4,5,6,7,0,1,2,3,8,9] [] (fun g_:Value×Value×Value=>bF (((aj ((ar ((aj ((aR lg dk c).1)).1) (lg.From+(lg.Next+(c.length:Int))) (a8 99 (lg.First+(lg.Next+(c.length:Int))) (aM (c.length:Int)))).1))).2)) (fun g_:Value×Value×Value=>[ah.box au [g_.1,g_.2.1,g_.2.2,.int .i64 ((((aj ((ar ((aj ((aR lg dk c).1)).1) (lg.From+(lg.Next+(c.length:Int))) (a8 99 (lg.First+(lg.Next+(c.length:Int))) (aM (c.length:Int)))).1))).1).Fuse),.bool ((((aj ((ar ((aj ((aR lg dk c).1)).1) (lg.From+(lg.Next+(c.length:Int))) (a8 99 (lg.First+(lg.Next+(c.length:Int))) (aM (c.length:Int)))).1))).1).Down)] 81,ah.row 9 g_.1 ((((aj ((ar ((aj ((aR lg dk c).1)).1) (lg.From+(lg.Next+(c.length:Int))) (a8 99 (lg.First+(lg.Next+(c.length:Int))) (aM (c.length:Int)))).1))).1).Kept:List ByteArray),ah.row 9 g_.2.1 ((((aj ((ar ((aj ((aR lg dk c).1)).1) (lg.From+(lg.Next+(c.length:Int))) (a8 99 (lg.First+(lg.Next+(c.length:Int))) (aM (c.length:Int)))).1))).1).Now:List ByteArray),ah.row 83 g_.2.2 ((((aj ((ar ((aj ((aR lg dk c).1)).1) (lg.From+(lg.Next+(c.length:Int))) (a8 99 (lg.First+(lg.Next+(c.length:Int))) (aM (c.length:Int)))).1))).1).Wait:List Turn)]) (fun g_:Value×Value×Value=>[]) rfl rfl rfl m4 rfl rfl (fun w own hw H=>ff au z9 gU fx (((ar ((aj ((aR lg dk c).1)).1) (lg.From+(lg.Next+(c.length:Int))) (a8 99 (lg.First+(lg.Next+(c.length:Int))) (aM (c.length:Int)))).1)) w own H (by first|assumption|omega)) rfl) ?_
              rintro ⟨z12,jK,o9⟩
              dsimp only
              refine R.u 1 rfl<|R.nil ?_
              refine R.reg rfl<|R.u 1 rfl<|?_
              by_cases h8:(aj ((ar ((aj ((aR lg dk c).1)).1) (lg.From+(lg.Next+(c.length:Int))) (a8 99 (lg.First+(lg.Next+(c.length:Int))) (aM (c.length:Int)))).1)).2=0
              ·
                refine R.q (q.dj rfl rfl Try.underlying28 (by omega)) rfl<|R.nil ?_
                refine R.aI rfl rfl ?_
                refine R.reg rfl<|R.q (q.add (r:=4) rfl rfl (by decide)) rfl<|R.u 1 rfl<|R.nil ?_
                refine R.again rfl rfl ?_
                refine R.reg rfl<|R.q (q.lss (b:=false) rfl rfl (by decide)) rfl<|R.nil ?_
                refine R.aI rfl rfl ?_
                refine R.reg rfl<|R.q (q.ld 4 rfl rfl dr rfl) rfl<|R.q (q.ld 5 rfl rfl aS rfl) rfl<|R.q (q.add (r:=(lg.Next+(c.length:Int))+1) rfl rfl (wr (by omega))) rfl<|R.q (q.bm rfl) rfl<|R.q (q.bJ (off':=4) rfl eY rfl) rfl<|?_
                refine R.s rfl (s.st (us:=[.int .i64 ((lg.Next+(c.length:Int))+1)]) (cs':=[.pointer (some ⟨au,0,none⟩),.int .i64 lg.From,.int .i64 lg.Many,.int .i64 lg.First,.int .i64 ((lg.Next+(c.length:Int))+1)]) 7 _ rfl rfl rfl rfl (.inr ⟨aS,rfl⟩) rfl rfl rfl rfl) fun _=>?_
                refine R.nil ?_
                refine R.reg rfl<|R.u 1 rfl<|R.nil ?_
                have hz:aP lg dk c=((⟨lg.From,lg.Many,lg.First,((lg.Next+(c.length:Int))+1)⟩:Lg),((aj ((ar ((aj ((aR lg dk c).1)).1) (lg.From+(lg.Next+(c.length:Int))) (a8 99 (lg.First+(lg.Next+(c.length:Int))) (aM (c.length:Int)))).1)).1),0):=by (first|exact nk g1 (by assumption)|exact nn g1 (by assumption) (by assumption)|exact np g1 (by assumption) (by assumption) (by assumption)|exact nq g1 (by assumption) (by assumption) (by assumption) (by assumption)|exact jI g1 (by assumption) (by assumption) (by assumption) (by assumption))
                rw [hz]
                exact R.w1 (z12,jK,o9) [7,0,1,2,3,9] [] rfl Try.results20 (RV.tmp rfl) rfl rfl rfl (lp rfl)
              ·
                refine R.q (q.fy rfl rfl Try.underlying28 (by omega)) rfl<|R.nil ?_
                refine R.aK rfl rfl ?_
                refine R.reg rfl<|R.u 2 rfl<|R.nil ?_
                have hz:aP lg dk c=(lg,((aj ((ar ((aj ((aR lg dk c).1)).1) (lg.From+(lg.Next+(c.length:Int))) (a8 99 (lg.First+(lg.Next+(c.length:Int))) (aM (c.length:Int)))).1)).1),(aj ((ar ((aj ((aR lg dk c).1)).1) (lg.From+(lg.Next+(c.length:Int))) (a8 99 (lg.First+(lg.Next+(c.length:Int))) (aM (c.length:Int)))).1)).2):=by (first|exact nk g1 (by assumption)|exact nn g1 (by assumption) (by assumption)|exact np g1 (by assumption) (by assumption) (by assumption)|exact nq g1 (by assumption) (by assumption) (by assumption) (by assumption)|exact jI g1 (by assumption) (by assumption) (by assumption) (by assumption))
                rw [hz]
                exact R.w1 (z12,jK,o9) [7,0,1,2,3,9] [] rfl Try.results20 (RV.tmp rfl) rfl rfl rfl rfl
            ·
              refine R.q (q.fy rfl rfl Try.underlying28 (by omega)) rfl<|R.nil ?_
              refine R.aK rfl rfl ?_
              refine R.reg rfl<|R.u 2 rfl<|R.nil ?_
              have hz:aP lg dk c=(lg,((ar ((aj ((aR lg dk c).1)).1) (lg.From+(lg.Next+(c.length:Int))) (a8 99 (lg.First+(lg.Next+(c.length:Int))) (aM (c.length:Int)))).1),(ar ((aj ((aR lg dk c).1)).1) (lg.From+(lg.Next+(c.length:Int))) (a8 99 (lg.First+(lg.Next+(c.length:Int))) (aM (c.length:Int)))).2):=by (first|exact nk g1 (by assumption)|exact nn g1 (by assumption) (by assumption)|exact np g1 (by assumption) (by assumption) (by assumption)|exact nq g1 (by assumption) (by assumption) (by assumption) (by assumption)|exact jI g1 (by assumption) (by assumption) (by assumption) (by assumption))
              rw [hz]
              exact R.w1 (z9,gU,fx) [3,4,5,6,7,9] [] rfl Try.results20 (RV.tmp rfl) rfl rfl rfl rfl
          ·
            refine R.q (q.fy rfl rfl Try.underlying28 (by omega)) rfl<|R.nil ?_
            refine R.aK rfl rfl ?_
            refine R.reg rfl<|R.u 2 rfl<|R.nil ?_
            have hz:aP lg dk c=(lg,((aj ((aR lg dk c).1)).1),(aj ((aR lg dk c).1)).2):=by (first|exact nk g1 (by assumption)|exact nn g1 (by assumption) (by assumption)|exact np g1 (by assumption) (by assumption) (by assumption)|exact nq g1 (by assumption) (by assumption) (by assumption) (by assumption)|exact jI g1 (by assumption) (by assumption) (by assumption) (by assumption))
            rw [hz]
            exact R.w1 (z5,z6,z7) [6,0,1,2,3,9] [] rfl Try.results20 (RV.tmp rfl) rfl rfl rfl rfl
        ·
          refine R.q (q.fy rfl rfl Try.underlying28 (by omega)) rfl<|R.nil ?_
          refine R.aK rfl rfl ?_
          refine R.reg rfl<|R.u 2 rfl<|R.nil ?_
          have hz:aP lg dk c=(lg,((aR lg dk c).1),(aR lg dk c).2):=by (first|exact nk g1 (by assumption)|exact nn g1 (by assumption) (by assumption)|exact np g1 (by assumption) (by assumption) (by assumption)|exact nq g1 (by assumption) (by assumption) (by assumption) (by assumption)|exact jI g1 (by assumption) (by assumption) (by assumption) (by assumption))
          rw [hz]
          exact R.w1 (z2,z3,z4) [2,3,4,5,6,9] [] rfl Try.results20 (RV.tmp rfl) rfl rfl rfl rfl
end Go.Proofs.Ytpipachmngdegaa
end
