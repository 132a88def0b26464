import Derived.Test.YtpipachmngdegaaSSP19
import Derived.Test.YtpipachmngdegaaSSP23
import Derived.Test.YtpipachmngdegaaSSP26
section
namespace Go.Proofs.Ytpipachmngdegaa
open Go Go.RowKit
set_option linter.unusedVariables false
set_option linter.unusedSimpArgs false
set_option maxRecDepth 100000
theorem bO (n:Int)(w:World)(hn:0≤n∧n≤9000000000000000000):Calls Try.prog 44 #[.int .i64 n] w fun e w'=>e = .returned (.string (aN n))∧Ext w w':=by
  refine R.enter (n:=16) (vs:=[.int .i64 n]) [] [(0,.int .i64 n)] Try.func44 rfl rfl rfl rfl ?_
  refine R.reg rfl<|R.u 1 rfl<|R.nil ?_
  refine R.reg rfl<|R.u 1 rfl<|R.q (q.iD rfl (by rw [Try.underlying3];rfl) Try.underlying5 je) rfl<|R.u 1 rfl<|R.q (q.shr (r:=n / 256) rfl rfl (by decide) (rG (D:=256) (by decide) (by decide))) rfl<|R.q (q.iD rfl (by rw [Try.underlying3];rfl) Try.underlying5 je) rfl<|R.u 1 rfl<|R.q (q.shr (r:=n / 65536) rfl rfl (by decide) (rG (D:=65536) (by decide) (by decide))) rfl<|R.q (q.iD rfl (by rw [Try.underlying3];rfl) Try.underlying5 je) rfl<|R.u 1 rfl<|R.q (q.shr (r:=n / 16777216) rfl rfl (by decide) (rG (D:=16777216) (by decide) (by decide))) rfl<|R.q (q.iD rfl (by rw [Try.underlying3];rfl) Try.underlying5 je) rfl<|?_
  refine R.s rfl (s.bs (l:=([(u8 (n % 256)),(u8 ((n / 256) % 256)),(u8 ((n / 65536) % 256)),(u8 ((n / 16777216) % 256))]:List UInt8)) aJ ck rfl rfl rfl rfl rfl (bq (dr (by omega)) (bq (dr (by omega)) (bq (dr (by omega)) (bq (dr (by omega)) cT)))) rfl) fun b1=>?_
  refine R.q (q.e9 (fun _=>Wd.row 0 rfl) rfl aJ Try.underlying5 Try.underlying9) rfl<|R.u 1 rfl<|R.nil ?_
  exact R.rv rfl Try.results44 rfl (rS (by (rfl)))
theorem pj (k:Int)(n:Int)(sx:ByteArray)(w:World)(hk:0≤k∧k≤255)(hn:0≤n∧n≤9000000000000000000)(hs:sx.size≤41):Calls Try.prog 53 #[.int .u8 k,.int .i64 n,.string sx] w fun e w'=>e = .returned (.string (bf k n sx))∧Ext w w':=by
  refine R.enter (n:=25) (vs:=[.int .u8 k,.int .i64 n,.string sx]) [] [(0,.int .u8 k),(1,.int .i64 n),(2,.string sx)] Try.func53 rfl rfl rfl rfl ?_
  refine R.reg rfl<|R.u 1 rfl<|R.nil ?_
  refine R.eX (fuel:=19) (Wd w [] [] []) rfl mixed rfl ?_
  refine D.q (i:=0) rfl (by kernel_rfl) (fun _=>Wd.ay [] [] rfl rfl rfl) rfl (q.mv rfl) rfl<|D.q (i:=3) rfl (by kernel_rfl) (fun _=>Wd.ay [] [] rfl rfl rfl) rfl (q.mv rfl) rfl<|D.q (i:=6) rfl (by kernel_rfl) (fun _=>Wd.ay [] [] rfl rfl rfl) rfl (q.mv rfl) rfl<|D.q (i:=7) rfl (by kernel_rfl) (fun _=>Wd.ay [] [] rfl rfl rfl) rfl (q.eW rfl Try.underlying9) rfl<|D.q (i:=8) rfl (by kernel_rfl) (fun _=>Wd.ay [] [] rfl rfl rfl) rfl (q.iD (r:=((sx.size:Nat):Int)) rfl (by rw [Try.underlying3];rfl) Try.underlying5 (lO (by omega))) rfl<|D.q (i:=9) rfl (by kernel_rfl) (fun _=>Wd.ay [] [] rfl rfl rfl) rfl (q.mv rfl) rfl<|D.q (i:=10) rfl (by kernel_rfl) (fun _=>Wd.ay [] [] rfl rfl rfl) rfl (q.eW rfl Try.underlying9) rfl<|D.q (i:=11) rfl (by kernel_rfl) (fun _=>Wd.ay [] [] rfl rfl rfl) rfl (q.shr (r:=(((sx.size / 256):Nat):Int)) rfl rfl (by decide) (wi (by decide))) rfl<|D.q (i:=12) rfl (by kernel_rfl) (fun _=>Wd.ay [] [] rfl rfl rfl) rfl (q.iD (r:=(((sx.size / 256):Nat):Int)) rfl (by rw [Try.underlying3];rfl) Try.underlying5 (lO (by omega))) rfl<|D.q (i:=16) rfl (by kernel_rfl) (fun _=>Wd.ay [] [] rfl rfl rfl) rfl (q.mv rfl) rfl<|?_
  refine D.three (i:=1) (j:=4) (m:=13) (by kernel_rfl) rfl rfl rfl ?_ ?_ ?_
  ·
    refine Do.s (s.bs (l:=([(u8 k)]:List UInt8)) aJ ck rfl rfl rfl rfl rfl (bq (dr (by omega)) cT) rfl) (fun _=>(fun _=>Wd.ay [] [] rfl rfl rfl)) rfl fun b1=>?_
    refine D.three (i:=2) (j:=4) (m:=13) (by kernel_rfl) rfl rfl rfl ?_ ?_ ?_
    ·
      refine Do.s (s.c (Qt.a (q.e9 (fun _=>Wd.row 0 rfl) rfl aJ Try.underlying5 Try.underlying9)) rfl) (fun _=>(fun _=>Wd.ay [] [] rfl rfl rfl)) rfl fun _=>?_
      refine D.two (i:=4) (j:=13) (by kernel_rfl) rfl rfl ?_ ?_
      ·
        refine Do.s (s.c (q.call dI rfl rfl (fun w hw=>(bO (n) w  (by omega)))) rfl) (fun _=>(fun _=>Wd.ay [] [] rfl rfl rfl)) rfl fun _=>?_
        refine D.q (i:=5) rfl (by kernel_rfl) (fun _=>Wd.ay [] [] rfl rfl rfl) rfl (q.cat rfl rfl (by first|omega|(simp only [ByteArray.size_append,aC,au,List.length_cons,List.length_nil];omega))) rfl<|?_
        refine D.one (i:=13) (by kernel_rfl) rfl ?_
        refine Do.s (s.bs (l:=([(UInt8.ofNat sx.size),(UInt8.ofNat (sx.size / 256))]:List UInt8)) aJ ck rfl rfl rfl rfl rfl (bq (bU (by omega)) (bq (bU (by omega)) cT)) rfl) (fun _=>(fun _=>Wd.ay [] [] rfl rfl rfl)) rfl fun b2=>?_
        refine D.one (i:=14) (by kernel_rfl) rfl ?_
        refine Do.s (s.c (Qt.a (q.e9 (fun _=>Wd.row 0 rfl) rfl aJ Try.underlying5 Try.underlying9)) rfl) (fun _=>(fun _=>Wd.ay [] [] rfl rfl rfl)) rfl fun _=>?_
        refine D.q (i:=15) rfl (by kernel_rfl) (fun _=>Wd.ay [] [] rfl rfl rfl) rfl (q.cat rfl rfl (by first|omega|(simp only [ByteArray.size_append,aC,au,List.length_cons,List.length_nil];omega))) rfl<|D.q (i:=17) rfl (by kernel_rfl) (fun _=>Wd.ay [] [] rfl rfl rfl) rfl (q.cat rfl rfl (by first|omega|(simp only [ByteArray.size_append,aC,au,List.length_cons,List.length_nil];omega))) rfl<|D.q (i:=18) rfl (by kernel_rfl) (fun _=>Wd.ay [] [] rfl rfl rfl) rfl (q.as rfl) rfl<|D.done (by kernel_rfl)<|?_
        exact R.rv rfl Try.results53 rfl (rS (by (rfl)))
      ·
        refine Do.s (s.bs (l:=([(UInt8.ofNat sx.size),(UInt8.ofNat (sx.size / 256))]:List UInt8)) aJ ck rfl rfl rfl rfl rfl (bq (bU (by omega)) (bq (bU (by omega)) cT)) rfl) (fun _=>(fun _=>Wd.ay [] [] rfl rfl rfl)) rfl fun b3=>?_
        refine D.two (i:=4) (j:=14) (by kernel_rfl) rfl rfl ?_ ?_
        ·
          refine Do.s (s.c (q.call dI rfl rfl (fun w hw=>(bO (n) w  (by omega)))) rfl) (fun _=>(fun _=>Wd.ay [] [] rfl rfl rfl)) rfl fun _=>?_
          refine D.q (i:=5) rfl (by kernel_rfl) (fun _=>Wd.ay [] [] rfl rfl rfl) rfl (q.cat rfl rfl (by first|omega|(simp only [ByteArray.size_append,aC,au,List.length_cons,List.length_nil];omega))) rfl<|?_
          refine D.one (i:=14) (by kernel_rfl) rfl ?_
          refine Do.s (s.c (Qt.a (q.e9 (fun _=>Wd.row 0 rfl) rfl aJ Try.underlying5 Try.underlying9)) rfl) (fun _=>(fun _=>Wd.ay [] [] rfl rfl rfl)) rfl fun _=>?_
          refine D.q (i:=15) rfl (by kernel_rfl) (fun _=>Wd.ay [] [] rfl rfl rfl) rfl (q.cat rfl rfl (by first|omega|(simp only [ByteArray.size_append,aC,au,List.length_cons,List.length_nil];omega))) rfl<|D.q (i:=17) rfl (by kernel_rfl) (fun _=>Wd.ay [] [] rfl rfl rfl) rfl (q.cat rfl rfl (by first|omega|(simp only [ByteArray.size_append,aC,au,List.length_cons,List.length_nil];omega))) rfl<|D.q (i:=18) rfl (by kernel_rfl) (fun _=>Wd.ay [] [] rfl rfl rfl) rfl (q.as rfl) rfl<|D.done (by kernel_rfl)<|?_
          exact R.rv rfl Try.results53 rfl (rS (by (rfl)))
        ·
          refine Do.s (s.c (Qt.a (q.e9 (fun _=>Wd.row 0 rfl) rfl aJ Try.underlying5 Try.underlying9)) rfl) (fun _=>(fun _=>Wd.ay [] [] rfl rfl rfl)) rfl fun _=>?_
          refine D.one (i:=4) (by kernel_rfl) rfl ?_
          refine Do.s (s.c (q.call dI rfl rfl (fun w hw=>(bO (n) w  (by omega)))) rfl) (fun _=>(fun _=>Wd.ay [] [] rfl rfl rfl)) rfl fun _=>?_
          refine D.q (i:=5) rfl (by kernel_rfl) (fun _=>Wd.ay [] [] rfl rfl rfl) rfl (q.cat rfl rfl (by first|omega|(simp only [ByteArray.size_append,aC,au,List.length_cons,List.length_nil];omega))) rfl<|D.q (i:=15) rfl (by kernel_rfl) (fun _=>Wd.ay [] [] rfl rfl rfl) rfl (q.cat rfl rfl (by first|omega|(simp only [ByteArray.size_append,aC,au,List.length_cons,List.length_nil];omega))) rfl<|D.q (i:=17) rfl (by kernel_rfl) (fun _=>Wd.ay [] [] rfl rfl rfl) rfl (q.cat rfl rfl (by first|omega|(simp only [ByteArray.size_append,aC,au,List.length_cons,List.length_nil];omega))) rfl<|D.q (i:=18) rfl (by kernel_rfl) (fun _=>Wd.ay [] [] rfl rfl rfl) rfl (q.as rfl) rfl<|D.done (by kernel_rfl)<|?_
          exact R.rv rfl Try.results53 rfl (rS (by (rfl)))
    ·
      refine Do.s (s.c (q.call dI rfl rfl (fun w hw=>(bO (n) w  (by omega)))) rfl) (fun _=>(fun _=>Wd.ay [] [] rfl rfl rfl)) rfl fun _=>?_
      refine D.two (i:=2) (j:=13) (by kernel_rfl) rfl rfl ?_ ?_
      ·
        refine Do.s (s.c (Qt.a (q.e9 (fun _=>Wd.row 0 rfl) rfl aJ Try.underlying5 Try.underlying9)) rfl) (fun _=>(fun _=>Wd.ay [] [] rfl rfl rfl)) rfl fun _=>?_
        refine D.q (i:=5) rfl (by kernel_rfl) (fun _=>Wd.ay [] [] rfl rfl rfl) rfl (q.cat rfl rfl (by first|omega|(simp only [ByteArray.size_append,aC,au,List.length_cons,List.length_nil];omega))) rfl<|?_
        refine D.one (i:=13) (by kernel_rfl) rfl ?_
        refine Do.s (s.bs (l:=([(UInt8.ofNat sx.size),(UInt8.ofNat (sx.size / 256))]:List UInt8)) aJ ck rfl rfl rfl rfl rfl (bq (bU (by omega)) (bq (bU (by omega)) cT)) rfl) (fun _=>(fun _=>Wd.ay [] [] rfl rfl rfl)) rfl fun b4=>?_
        refine D.one (i:=14) (by kernel_rfl) rfl ?_
        refine Do.s (s.c (Qt.a (q.e9 (fun _=>Wd.row 0 rfl) rfl aJ Try.underlying5 Try.underlying9)) rfl) (fun _=>(fun _=>Wd.ay [] [] rfl rfl rfl)) rfl fun _=>?_
        refine D.q (i:=15) rfl (by kernel_rfl) (fun _=>Wd.ay [] [] rfl rfl rfl) rfl (q.cat rfl rfl (by first|omega|(simp only [ByteArray.size_append,aC,au,List.length_cons,List.length_nil];omega))) rfl<|D.q (i:=17) rfl (by kernel_rfl) (fun _=>Wd.ay [] [] rfl rfl rfl) rfl (q.cat rfl rfl (by first|omega|(simp only [ByteArray.size_append,aC,au,List.length_cons,List.length_nil];omega))) rfl<|D.q (i:=18) rfl (by kernel_rfl) (fun _=>Wd.ay [] [] rfl rfl rfl) rfl (q.as rfl) rfl<|D.done (by kernel_rfl)<|?_
        exact R.rv rfl Try.results53 rfl (rS (by (rfl)))
      ·
        refine Do.s (s.bs (l:=([(UInt8.ofNat sx.size),(UInt8.ofNat (sx.size / 256))]:List UInt8)) aJ ck rfl rfl rfl rfl rfl (bq (bU (by omega)) (bq (bU (by omega)) cT)) rfl) (fun _=>(fun _=>Wd.ay [] [] rfl rfl rfl)) rfl fun b5=>?_
        refine D.two (i:=2) (j:=14) (by kernel_rfl) rfl rfl ?_ ?_
        ·
          refine Do.s (s.c (Qt.a (q.e9 (fun _=>Wd.row 1 rfl) rfl aJ Try.underlying5 Try.underlying9)) rfl) (fun _=>(fun _=>Wd.ay [] [] rfl rfl rfl)) rfl fun _=>?_
          refine D.q (i:=5) rfl (by kernel_rfl) (fun _=>Wd.ay [] [] rfl rfl rfl) rfl (q.cat rfl rfl (by first|omega|(simp only [ByteArray.size_append,aC,au,List.length_cons,List.length_nil];omega))) rfl<|?_
          refine D.one (i:=14) (by kernel_rfl) rfl ?_
          refine Do.s (s.c (Qt.a (q.e9 (fun _=>Wd.row 0 rfl) rfl aJ Try.underlying5 Try.underlying9)) rfl) (fun _=>(fun _=>Wd.ay [] [] rfl rfl rfl)) rfl fun _=>?_
          refine D.q (i:=15) rfl (by kernel_rfl) (fun _=>Wd.ay [] [] rfl rfl rfl) rfl (q.cat rfl rfl (by first|omega|(simp only [ByteArray.size_append,aC,au,List.length_cons,List.length_nil];omega))) rfl<|D.q (i:=17) rfl (by kernel_rfl) (fun _=>Wd.ay [] [] rfl rfl rfl) rfl (q.cat rfl rfl (by first|omega|(simp only [ByteArray.size_append,aC,au,List.length_cons,List.length_nil];omega))) rfl<|D.q (i:=18) rfl (by kernel_rfl) (fun _=>Wd.ay [] [] rfl rfl rfl) rfl (q.as rfl) rfl<|D.done (by kernel_rfl)<|?_
          exact R.rv rfl Try.results53 rfl (rS (by (rfl)))
        ·
          refine Do.s (s.c (Qt.a (q.e9 (fun _=>Wd.row 0 rfl) rfl aJ Try.underlying5 Try.underlying9)) rfl) (fun _=>(fun _=>Wd.ay [] [] rfl rfl rfl)) rfl fun _=>?_
          refine D.one (i:=2) (by kernel_rfl) rfl ?_
          refine Do.s (s.c (Qt.a (q.e9 (fun _=>Wd.row 1 rfl) rfl aJ Try.underlying5 Try.underlying9)) rfl) (fun _=>(fun _=>Wd.ay [] [] rfl rfl rfl)) rfl fun _=>?_
          refine D.q (i:=5) rfl (by kernel_rfl) (fun _=>Wd.ay [] [] rfl rfl rfl) rfl (q.cat rfl rfl (by first|omega|(simp only [ByteArray.size_append,aC,au,List.length_cons,List.length_nil];omega))) rfl<|D.q (i:=15) rfl (by kernel_rfl) (fun _=>Wd.ay [] [] rfl rfl rfl) rfl (q.cat rfl rfl (by first|omega|(simp only [ByteArray.size_append,aC,au,List.length_cons,List.length_nil];omega))) rfl<|D.q (i:=17) rfl (by kernel_rfl) (fun _=>Wd.ay [] [] rfl rfl rfl) rfl (q.cat rfl rfl (by first|omega|(simp only [ByteArray.size_append,aC,au,List.length_cons,List.length_nil];omega))) rfl<|D.q (i:=18) rfl (by kernel_rfl) (fun _=>Wd.ay [] [] rfl rfl rfl) rfl (q.as rfl) rfl<|D.done (by kernel_rfl)<|?_
          exact R.rv rfl Try.results53 rfl (rS (by (rfl)))
    ·
      refine Do.s (s.bs (l:=([(UInt8.ofNat sx.size),(UInt8.ofNat (sx.size / 256))]:List UInt8)) aJ ck rfl rfl rfl rfl rfl (bq (bU (by omega)) (bq (bU (by omega)) cT)) rfl) (fun _=>(fun _=>Wd.ay [] [] rfl rfl rfl)) rfl fun b6=>?_
      refine D.three (i:=2) (j:=4) (m:=14) (by kernel_rfl) rfl rfl rfl ?_ ?_ ?_
      ·
        refine Do.s (s.c (Qt.a (q.e9 (fun _=>Wd.row 1 rfl) rfl aJ Try.underlying5 Try.underlying9)) rfl) (fun _=>(fun _=>Wd.ay [] [] rfl rfl rfl)) rfl fun _=>?_
        refine D.two (i:=4) (j:=14) (by kernel_rfl) rfl rfl ?_ ?_
        ·
          refine Do.s (s.c (q.call dI rfl rfl (fun w hw=>(bO (n) w  (by omega)))) rfl) (fun _=>(fun _=>Wd.ay [] [] rfl rfl rfl)) rfl fun _=>?_
          refine D.q (i:=5) rfl (by kernel_rfl) (fun _=>Wd.ay [] [] rfl rfl rfl) rfl (q.cat rfl rfl (by first|omega|(simp only [ByteArray.size_append,aC,au,List.length_cons,List.length_nil];omega))) rfl<|?_
          refine D.one (i:=14) (by kernel_rfl) rfl ?_
          refine Do.s (s.c (Qt.a (q.e9 (fun _=>Wd.row 0 rfl) rfl aJ Try.underlying5 Try.underlying9)) rfl) (fun _=>(fun _=>Wd.ay [] [] rfl rfl rfl)) rfl fun _=>?_
          refine D.q (i:=15) rfl (by kernel_rfl) (fun _=>Wd.ay [] [] rfl rfl rfl) rfl (q.cat rfl rfl (by first|omega|(simp only [ByteArray.size_append,aC,au,List.length_cons,List.length_nil];omega))) rfl<|D.q (i:=17) rfl (by kernel_rfl) (fun _=>Wd.ay [] [] rfl rfl rfl) rfl (q.cat rfl rfl (by first|omega|(simp only [ByteArray.size_append,aC,au,List.length_cons,List.length_nil];omega))) rfl<|D.q (i:=18) rfl (by kernel_rfl) (fun _=>Wd.ay [] [] rfl rfl rfl) rfl (q.as rfl) rfl<|D.done (by kernel_rfl)<|?_
          exact R.rv rfl Try.results53 rfl (rS (by (rfl)))
        ·
          refine Do.s (s.c (Qt.a (q.e9 (fun _=>Wd.row 0 rfl) rfl aJ Try.underlying5 Try.underlying9)) rfl) (fun _=>(fun _=>Wd.ay [] [] rfl rfl rfl)) rfl fun _=>?_
          refine D.one (i:=4) (by kernel_rfl) rfl ?_
          refine Do.s (s.c (q.call dI rfl rfl (fun w hw=>(bO (n) w  (by omega)))) rfl) (fun _=>(fun _=>Wd.ay [] [] rfl rfl rfl)) rfl fun _=>?_
          refine D.q (i:=5) rfl (by kernel_rfl) (fun _=>Wd.ay [] [] rfl rfl rfl) rfl (q.cat rfl rfl (by first|omega|(simp only [ByteArray.size_append,aC,au,List.length_cons,List.length_nil];omega))) rfl<|D.q (i:=15) rfl (by kernel_rfl) (fun _=>Wd.ay [] [] rfl rfl rfl) rfl (q.cat rfl rfl (by first|omega|(simp only [ByteArray.size_append,aC,au,List.length_cons,List.length_nil];omega))) rfl<|D.q (i:=17) rfl (by kernel_rfl) (fun _=>Wd.ay [] [] rfl rfl rfl) rfl (q.cat rfl rfl (by first|omega|(simp only [ByteArray.size_append,aC,au,List.length_cons,List.length_nil];omega))) rfl<|D.q (i:=18) rfl (by kernel_rfl) (fun _=>Wd.ay [] [] rfl rfl rfl) rfl (q.as rfl) rfl<|D.done (by kernel_rfl)<|?_
          exact R.rv rfl Try.results53 rfl (rS (by (rfl)))
      ·
        refine Do.s (s.c (q.call dI rfl rfl (fun w hw=>(bO (n) w  (by omega)))) rfl) (fun _=>(fun _=>Wd.ay [] [] rfl rfl rfl)) rfl fun _=>?_
        refine D.two (i:=2) (j:=14) (by kernel_rfl) rfl rfl ?_ ?_
        ·
          refine Do.s (s.c (Qt.a (q.e9 (fun _=>Wd.row 1 rfl) rfl aJ Try.underlying5 Try.underlying9)) rfl) (fun _=>(fun _=>Wd.ay [] [] rfl rfl rfl)) rfl fun _=>?_
          refine D.q (i:=5) rfl (by kernel_rfl) (fun _=>Wd.ay [] [] rfl rfl rfl) rfl (q.cat rfl rfl (by first|omega|(simp only [ByteArray.size_append,aC,au,List.length_cons,List.length_nil];omega))) rfl<|?_
          refine D.one (i:=14) (by kernel_rfl) rfl ?_
          refine Do.s (s.c (Qt.a (q.e9 (fun _=>Wd.row 0 rfl) rfl aJ Try.underlying5 Try.underlying9)) rfl) (fun _=>(fun _=>Wd.ay [] [] rfl rfl rfl)) rfl fun _=>?_
          refine D.q (i:=15) rfl (by kernel_rfl) (fun _=>Wd.ay [] [] rfl rfl rfl) rfl (q.cat rfl rfl (by first|omega|(simp only [ByteArray.size_append,aC,au,List.length_cons,List.length_nil];omega))) rfl<|D.q (i:=17) rfl (by kernel_rfl) (fun _=>Wd.ay [] [] rfl rfl rfl) rfl (q.cat rfl rfl (by first|omega|(simp only [ByteArray.size_append,aC,au,List.length_cons,List.length_nil];omega))) rfl<|D.q (i:=18) rfl (by kernel_rfl) (fun _=>Wd.ay [] [] rfl rfl rfl) rfl (q.as rfl) rfl<|D.done (by kernel_rfl)<|?_
          exact R.rv rfl Try.results53 rfl (rS (by (rfl)))
        ·
          refine Do.s (s.c (Qt.a (q.e9 (fun _=>Wd.row 0 rfl) rfl aJ Try.underlying5 Try.underlying9)) rfl) (fun _=>(fun _=>Wd.ay [] [] rfl rfl rfl)) rfl fun _=>?_
          refine D.one (i:=2) (by kernel_rfl) rfl ?_
          refine Do.s (s.c (Qt.a (q.e9 (fun _=>Wd.row 1 rfl) rfl aJ Try.underlying5 Try.underlying9)) rfl) (fun _=>(fun _=>Wd.ay [] [] rfl rfl rfl)) rfl fun _=>?_
          refine D.q (i:=5) rfl (by kernel_rfl) (fun _=>Wd.ay [] [] rfl rfl rfl) rfl (q.cat rfl rfl (by first|omega|(simp only [ByteArray.size_append,aC,au,List.length_cons,List.length_nil];omega))) rfl<|D.q (i:=15) rfl (by kernel_rfl) (fun _=>Wd.ay [] [] rfl rfl rfl) rfl (q.cat rfl rfl (by first|omega|(simp only [ByteArray.size_append,aC,au,List.length_cons,List.length_nil];omega))) rfl<|D.q (i:=17) rfl (by kernel_rfl) (fun _=>Wd.ay [] [] rfl rfl rfl) rfl (q.cat rfl rfl (by first|omega|(simp only [ByteArray.size_append,aC,au,List.length_cons,List.length_nil];omega))) rfl<|D.q (i:=18) rfl (by kernel_rfl) (fun _=>Wd.ay [] [] rfl rfl rfl) rfl (q.as rfl) rfl<|D.done (by kernel_rfl)<|?_
          exact R.rv rfl Try.results53 rfl (rS (by (rfl)))
      ·
        refine Do.s (s.c (Qt.a (q.e9 (fun _=>Wd.row 0 rfl) rfl aJ Try.underlying5 Try.underlying9)) rfl) (fun _=>(fun _=>Wd.ay [] [] rfl rfl rfl)) rfl fun _=>?_
        refine D.two (i:=2) (j:=4) (by kernel_rfl) rfl rfl ?_ ?_
        ·
          refine Do.s (s.c (Qt.a (q.e9 (fun _=>Wd.row 1 rfl) rfl aJ Try.underlying5 Try.underlying9)) rfl) (fun _=>(fun _=>Wd.ay [] [] rfl rfl rfl)) rfl fun _=>?_
          refine D.one (i:=4) (by kernel_rfl) rfl ?_
          refine Do.s (s.c (q.call dI rfl rfl (fun w hw=>(bO (n) w  (by omega)))) rfl) (fun _=>(fun _=>Wd.ay [] [] rfl rfl rfl)) rfl fun _=>?_
          refine D.q (i:=5) rfl (by kernel_rfl) (fun _=>Wd.ay [] [] rfl rfl rfl) rfl (q.cat rfl rfl (by first|omega|(simp only [ByteArray.size_append,aC,au,List.length_cons,List.length_nil];omega))) rfl<|D.q (i:=15) rfl (by kernel_rfl) (fun _=>Wd.ay [] [] rfl rfl rfl) rfl (q.cat rfl rfl (by first|omega|(simp only [ByteArray.size_append,aC,au,List.length_cons,List.length_nil];omega))) rfl<|D.q (i:=17) rfl (by kernel_rfl) (fun _=>Wd.ay [] [] rfl rfl rfl) rfl (q.cat rfl rfl (by first|omega|(simp only [ByteArray.size_append,aC,au,List.length_cons,List.length_nil];omega))) rfl<|D.q (i:=18) rfl (by kernel_rfl) (fun _=>Wd.ay [] [] rfl rfl rfl) rfl (q.as rfl) rfl<|D.done (by kernel_rfl)<|?_
          exact R.rv rfl Try.results53 rfl (rS (by (rfl)))
        ·
          refine Do.s (s.c (q.call dI rfl rfl (fun w hw=>(bO (n) w  (by omega)))) rfl) (fun _=>(fun _=>Wd.ay [] [] rfl rfl rfl)) rfl fun _=>?_
          refine D.one (i:=2) (by kernel_rfl) rfl ?_
          refine Do.s (s.c (Qt.a (q.e9 (fun _=>Wd.row 1 rfl) rfl aJ Try.underlying5 Try.underlying9)) rfl) (fun _=>(fun _=>Wd.ay [] [] rfl rfl rfl)) rfl fun _=>?_
          refine D.q (i:=5) rfl (by kernel_rfl) (fun _=>Wd.ay [] [] rfl rfl rfl) rfl (q.cat rfl rfl (by first|omega|(simp only [ByteArray.size_append,aC,au,List.length_cons,List.length_nil];omega))) rfl<|D.q (i:=15) rfl (by kernel_rfl) (fun _=>Wd.ay [] [] rfl rfl rfl) rfl (q.cat rfl rfl (by first|omega|(simp only [ByteArray.size_append,aC,au,List.length_cons,List.length_nil];omega))) rfl<|D.q (i:=17) rfl (by kernel_rfl) (fun _=>Wd.ay [] [] rfl rfl rfl) rfl (q.cat rfl rfl (by first|omega|(simp only [ByteArray.size_append,aC,au,List.length_cons,List.length_nil];omega))) rfl<|D.q (i:=18) rfl (by kernel_rfl) (fun _=>Wd.ay [] [] rfl rfl rfl) rfl (q.as rfl) rfl<|D.done (by kernel_rfl)<|?_
          exact R.rv rfl Try.results53 rfl (rS (by (rfl)))
  ·
    refine Do.s (s.c (q.call dI rfl rfl (fun w hw=>(bO (n) w  (by omega)))) rfl) (fun _=>(fun _=>Wd.ay [] [] rfl rfl rfl)) rfl fun _=>?_
    refine D.two (i:=1) (j:=13) (by kernel_rfl) rfl rfl ?_ ?_
    ·
      refine Do.s (s.bs (l:=([(u8 k)]:List UInt8)) aJ ck rfl rfl rfl rfl rfl (bq (dr (by omega)) cT) rfl) (fun _=>(fun _=>Wd.ay [] [] rfl rfl rfl)) rfl fun b7=>?_
      refine D.two (i:=2) (j:=13) (by kernel_rfl) rfl rfl ?_ ?_
      ·
        refine Do.s (s.c (Qt.a (q.e9 (fun _=>Wd.row 0 rfl) rfl aJ Try.underlying5 Try.underlying9)) rfl) (fun _=>(fun _=>Wd.ay [] [] rfl rfl rfl)) rfl fun _=>?_
        refine D.q (i:=5) rfl (by kernel_rfl) (fun _=>Wd.ay [] [] rfl rfl rfl) rfl (q.cat rfl rfl (by first|omega|(simp only [ByteArray.size_append,aC,au,List.length_cons,List.length_nil];omega))) rfl<|?_
        refine D.one (i:=13) (by kernel_rfl) rfl ?_
        refine Do.s (s.bs (l:=([(UInt8.ofNat sx.size),(UInt8.ofNat (sx.size / 256))]:List UInt8)) aJ ck rfl rfl rfl rfl rfl (bq (bU (by omega)) (bq (bU (by omega)) cT)) rfl) (fun _=>(fun _=>Wd.ay [] [] rfl rfl rfl)) rfl fun b8=>?_
        refine D.one (i:=14) (by kernel_rfl) rfl ?_
        refine Do.s (s.c (Qt.a (q.e9 (fun _=>Wd.row 0 rfl) rfl aJ Try.underlying5 Try.underlying9)) rfl) (fun _=>(fun _=>Wd.ay [] [] rfl rfl rfl)) rfl fun _=>?_
        refine D.q (i:=15) rfl (by kernel_rfl) (fun _=>Wd.ay [] [] rfl rfl rfl) rfl (q.cat rfl rfl (by first|omega|(simp only [ByteArray.size_append,aC,au,List.length_cons,List.length_nil];omega))) rfl<|D.q (i:=17) rfl (by kernel_rfl) (fun _=>Wd.ay [] [] rfl rfl rfl) rfl (q.cat rfl rfl (by first|omega|(simp only [ByteArray.size_append,aC,au,List.length_cons,List.length_nil];omega))) rfl<|D.q (i:=18) rfl (by kernel_rfl) (fun _=>Wd.ay [] [] rfl rfl rfl) rfl (q.as rfl) rfl<|D.done (by kernel_rfl)<|?_
        exact R.rv rfl Try.results53 rfl (rS (by (rfl)))
      ·
        refine Do.s (s.bs (l:=([(UInt8.ofNat sx.size),(UInt8.ofNat (sx.size / 256))]:List UInt8)) aJ ck rfl rfl rfl rfl rfl (bq (bU (by omega)) (bq (bU (by omega)) cT)) rfl) (fun _=>(fun _=>Wd.ay [] [] rfl rfl rfl)) rfl fun b9=>?_
        refine D.two (i:=2) (j:=14) (by kernel_rfl) rfl rfl ?_ ?_
        ·
          refine Do.s (s.c (Qt.a (q.e9 (fun _=>Wd.row 1 rfl) rfl aJ Try.underlying5 Try.underlying9)) rfl) (fun _=>(fun _=>Wd.ay [] [] rfl rfl rfl)) rfl fun _=>?_
          refine D.q (i:=5) rfl (by kernel_rfl) (fun _=>Wd.ay [] [] rfl rfl rfl) rfl (q.cat rfl rfl (by first|omega|(simp only [ByteArray.size_append,aC,au,List.length_cons,List.length_nil];omega))) rfl<|?_
          refine D.one (i:=14) (by kernel_rfl) rfl ?_
          refine Do.s (s.c (Qt.a (q.e9 (fun _=>Wd.row 0 rfl) rfl aJ Try.underlying5 Try.underlying9)) rfl) (fun _=>(fun _=>Wd.ay [] [] rfl rfl rfl)) rfl fun _=>?_
          refine D.q (i:=15) rfl (by kernel_rfl) (fun _=>Wd.ay [] [] rfl rfl rfl) rfl (q.cat rfl rfl (by first|omega|(simp only [ByteArray.size_append,aC,au,List.length_cons,List.length_nil];omega))) rfl<|D.q (i:=17) rfl (by kernel_rfl) (fun _=>Wd.ay [] [] rfl rfl rfl) rfl (q.cat rfl rfl (by first|omega|(simp only [ByteArray.size_append,aC,au,List.length_cons,List.length_nil];omega))) rfl<|D.q (i:=18) rfl (by kernel_rfl) (fun _=>Wd.ay [] [] rfl rfl rfl) rfl (q.as rfl) rfl<|D.done (by kernel_rfl)<|?_
          exact R.rv rfl Try.results53 rfl (rS (by (rfl)))
        ·
          refine Do.s (s.c (Qt.a (q.e9 (fun _=>Wd.row 0 rfl) rfl aJ Try.underlying5 Try.underlying9)) rfl) (fun _=>(fun _=>Wd.ay [] [] rfl rfl rfl)) rfl fun _=>?_
          refine D.one (i:=2) (by kernel_rfl) rfl ?_
          refine Do.s (s.c (Qt.a (q.e9 (fun _=>Wd.row 1 rfl) rfl aJ Try.underlying5 Try.underlying9)) rfl) (fun _=>(fun _=>Wd.ay [] [] rfl rfl rfl)) rfl fun _=>?_
          refine D.q (i:=5) rfl (by kernel_rfl) (fun _=>Wd.ay [] [] rfl rfl rfl) rfl (q.cat rfl rfl (by first|omega|(simp only [ByteArray.size_append,aC,au,List.length_cons,List.length_nil];omega))) rfl<|D.q (i:=15) rfl (by kernel_rfl) (fun _=>Wd.ay [] [] rfl rfl rfl) rfl (q.cat rfl rfl (by first|omega|(simp only [ByteArray.size_append,aC,au,List.length_cons,List.length_nil];omega))) rfl<|D.q (i:=17) rfl (by kernel_rfl) (fun _=>Wd.ay [] [] rfl rfl rfl) rfl (q.cat rfl rfl (by first|omega|(simp only [ByteArray.size_append,aC,au,List.length_cons,List.length_nil];omega))) rfl<|D.q (i:=18) rfl (by kernel_rfl) (fun _=>Wd.ay [] [] rfl rfl rfl) rfl (q.as rfl) rfl<|D.done (by kernel_rfl)<|?_
          exact R.rv rfl Try.results53 rfl (rS (by (rfl)))
    ·
      refine Do.s (s.bs (l:=([(UInt8.ofNat sx.size),(UInt8.ofNat (sx.size / 256))]:List UInt8)) aJ ck rfl rfl rfl rfl rfl (bq (bU (by omega)) (bq (bU (by omega)) cT)) rfl) (fun _=>(fun _=>Wd.ay [] [] rfl rfl rfl)) rfl fun b10=>?_
      refine D.two (i:=1) (j:=14) (by kernel_rfl) rfl rfl ?_ ?_
      ·
        refine Do.s (s.bs (l:=([(u8 k)]:List UInt8)) aJ ck rfl rfl rfl rfl rfl (bq (dr (by omega)) cT) rfl) (fun _=>(fun _=>Wd.ay [] [] rfl rfl rfl)) rfl fun b11=>?_
        refine D.two (i:=2) (j:=14) (by kernel_rfl) rfl rfl ?_ ?_
        ·
          refine Do.s (s.c (Qt.a (q.e9 (fun _=>Wd.row 0 rfl) rfl aJ Try.underlying5 Try.underlying9)) rfl) (fun _=>(fun _=>Wd.ay [] [] rfl rfl rfl)) rfl fun _=>?_
          refine D.q (i:=5) rfl (by kernel_rfl) (fun _=>Wd.ay [] [] rfl rfl rfl) rfl (q.cat rfl rfl (by first|omega|(simp only [ByteArray.size_append,aC,au,List.length_cons,List.length_nil];omega))) rfl<|?_
          refine D.one (i:=14) (by kernel_rfl) rfl ?_
          refine Do.s (s.c (Qt.a (q.e9 (fun _=>Wd.row 1 rfl) rfl aJ Try.underlying5 Try.underlying9)) rfl) (fun _=>(fun _=>Wd.ay [] [] rfl rfl rfl)) rfl fun _=>?_
          refine D.q (i:=15) rfl (by kernel_rfl) (fun _=>Wd.ay [] [] rfl rfl rfl) rfl (q.cat rfl rfl (by first|omega|(simp only [ByteArray.size_append,aC,au,List.length_cons,List.length_nil];omega))) rfl<|D.q (i:=17) rfl (by kernel_rfl) (fun _=>Wd.ay [] [] rfl rfl rfl) rfl (q.cat rfl rfl (by first|omega|(simp only [ByteArray.size_append,aC,au,List.length_cons,List.length_nil];omega))) rfl<|D.q (i:=18) rfl (by kernel_rfl) (fun _=>Wd.ay [] [] rfl rfl rfl) rfl (q.as rfl) rfl<|D.done (by kernel_rfl)<|?_
          exact R.rv rfl Try.results53 rfl (rS (by (rfl)))
        ·
          refine Do.s (s.c (Qt.a (q.e9 (fun _=>Wd.row 1 rfl) rfl aJ Try.underlying5 Try.underlying9)) rfl) (fun _=>(fun _=>Wd.ay [] [] rfl rfl rfl)) rfl fun _=>?_
          refine D.one (i:=2) (by kernel_rfl) rfl ?_
          refine Do.s (s.c (Qt.a (q.e9 (fun _=>Wd.row 0 rfl) rfl aJ Try.underlying5 Try.underlying9)) rfl) (fun _=>(fun _=>Wd.ay [] [] rfl rfl rfl)) rfl fun _=>?_
          refine D.q (i:=5) rfl (by kernel_rfl) (fun _=>Wd.ay [] [] rfl rfl rfl) rfl (q.cat rfl rfl (by first|omega|(simp only [ByteArray.size_append,aC,au,List.length_cons,List.length_nil];omega))) rfl<|D.q (i:=15) rfl (by kernel_rfl) (fun _=>Wd.ay [] [] rfl rfl rfl) rfl (q.cat rfl rfl (by first|omega|(simp only [ByteArray.size_append,aC,au,List.length_cons,List.length_nil];omega))) rfl<|D.q (i:=17) rfl (by kernel_rfl) (fun _=>Wd.ay [] [] rfl rfl rfl) rfl (q.cat rfl rfl (by first|omega|(simp only [ByteArray.size_append,aC,au,List.length_cons,List.length_nil];omega))) rfl<|D.q (i:=18) rfl (by kernel_rfl) (fun _=>Wd.ay [] [] rfl rfl rfl) rfl (q.as rfl) rfl<|D.done (by kernel_rfl)<|?_
          exact R.rv rfl Try.results53 rfl (rS (by (rfl)))
      ·
        refine Do.s (s.c (Qt.a (q.e9 (fun _=>Wd.row 0 rfl) rfl aJ Try.underlying5 Try.underlying9)) rfl) (fun _=>(fun _=>Wd.ay [] [] rfl rfl rfl)) rfl fun _=>?_
        refine D.one (i:=1) (by kernel_rfl) rfl ?_
        refine Do.s (s.bs (l:=([(u8 k)]:List UInt8)) aJ ck rfl rfl rfl rfl rfl (bq (dr (by omega)) cT) rfl) (fun _=>(fun _=>Wd.ay [] [] rfl rfl rfl)) rfl fun b12=>?_
        refine D.one (i:=2) (by kernel_rfl) rfl ?_
        refine Do.s (s.c (Qt.a (q.e9 (fun _=>Wd.row 0 rfl) rfl aJ Try.underlying5 Try.underlying9)) rfl) (fun _=>(fun _=>Wd.ay [] [] rfl rfl rfl)) rfl fun _=>?_
        refine D.q (i:=5) rfl (by kernel_rfl) (fun _=>Wd.ay [] [] rfl rfl rfl) rfl (q.cat rfl rfl (by first|omega|(simp only [ByteArray.size_append,aC,au,List.length_cons,List.length_nil];omega))) rfl<|D.q (i:=15) rfl (by kernel_rfl) (fun _=>Wd.ay [] [] rfl rfl rfl) rfl (q.cat rfl rfl (by first|omega|(simp only [ByteArray.size_append,aC,au,List.length_cons,List.length_nil];omega))) rfl<|D.q (i:=17) rfl (by kernel_rfl) (fun _=>Wd.ay [] [] rfl rfl rfl) rfl (q.cat rfl rfl (by first|omega|(simp only [ByteArray.size_append,aC,au,List.length_cons,List.length_nil];omega))) rfl<|D.q (i:=18) rfl (by kernel_rfl) (fun _=>Wd.ay [] [] rfl rfl rfl) rfl (q.as rfl) rfl<|D.done (by kernel_rfl)<|?_
        exact R.rv rfl Try.results53 rfl (rS (by (rfl)))
  ·
    refine Do.s (s.bs (l:=([(UInt8.ofNat sx.size),(UInt8.ofNat (sx.size / 256))]:List UInt8)) aJ ck rfl rfl rfl rfl rfl (bq (bU (by omega)) (bq (bU (by omega)) cT)) rfl) (fun _=>(fun _=>Wd.ay [] [] rfl rfl rfl)) rfl fun b13=>?_
    refine D.three (i:=1) (j:=4) (m:=14) (by kernel_rfl) rfl rfl rfl ?_ ?_ ?_
    ·
      refine Do.s (s.bs (l:=([(u8 k)]:List UInt8)) aJ ck rfl rfl rfl rfl rfl (bq (dr (by omega)) cT) rfl) (fun _=>(fun _=>Wd.ay [] [] rfl rfl rfl)) rfl fun b14=>?_
      refine D.three (i:=2) (j:=4) (m:=14) (by kernel_rfl) rfl rfl rfl ?_ ?_ ?_
      ·
        refine Do.s (s.c (Qt.a (q.e9 (fun _=>Wd.row 0 rfl) rfl aJ Try.underlying5 Try.underlying9)) rfl) (fun _=>(fun _=>Wd.ay [] [] rfl rfl rfl)) rfl fun _=>?_
        refine D.two (i:=4) (j:=14) (by kernel_rfl) rfl rfl ?_ ?_
        ·
          refine Do.s (s.c (q.call dI rfl rfl (fun w hw=>(bO (n) w  (by omega)))) rfl) (fun _=>(fun _=>Wd.ay [] [] rfl rfl rfl)) rfl fun _=>?_
          refine D.q (i:=5) rfl (by kernel_rfl) (fun _=>Wd.ay [] [] rfl rfl rfl) rfl (q.cat rfl rfl (by first|omega|(simp only [ByteArray.size_append,aC,au,List.length_cons,List.length_nil];omega))) rfl<|?_
          refine D.one (i:=14) (by kernel_rfl) rfl ?_
          refine Do.s (s.c (Qt.a (q.e9 (fun _=>Wd.row 1 rfl) rfl aJ Try.underlying5 Try.underlying9)) rfl) (fun _=>(fun _=>Wd.ay [] [] rfl rfl rfl)) rfl fun _=>?_
          refine D.q (i:=15) rfl (by kernel_rfl) (fun _=>Wd.ay [] [] rfl rfl rfl) rfl (q.cat rfl rfl (by first|omega|(simp only [ByteArray.size_append,aC,au,List.length_cons,List.length_nil];omega))) rfl<|D.q (i:=17) rfl (by kernel_rfl) (fun _=>Wd.ay [] [] rfl rfl rfl) rfl (q.cat rfl rfl (by first|omega|(simp only [ByteArray.size_append,aC,au,List.length_cons,List.length_nil];omega))) rfl<|D.q (i:=18) rfl (by kernel_rfl) (fun _=>Wd.ay [] [] rfl rfl rfl) rfl (q.as rfl) rfl<|D.done (by kernel_rfl)<|?_
          exact R.rv rfl Try.results53 rfl (rS (by (rfl)))
        ·
          refine Do.s (s.c (Qt.a (q.e9 (fun _=>Wd.row 1 rfl) rfl aJ Try.underlying5 Try.underlying9)) rfl) (fun _=>(fun _=>Wd.ay [] [] rfl rfl rfl)) rfl fun _=>?_
          refine D.one (i:=4) (by kernel_rfl) rfl ?_
          refine Do.s (s.c (q.call dI rfl rfl (fun w hw=>(bO (n) w  (by omega)))) rfl) (fun _=>(fun _=>Wd.ay [] [] rfl rfl rfl)) rfl fun _=>?_
          refine D.q (i:=5) rfl (by kernel_rfl) (fun _=>Wd.ay [] [] rfl rfl rfl) rfl (q.cat rfl rfl (by first|omega|(simp only [ByteArray.size_append,aC,au,List.length_cons,List.length_nil];omega))) rfl<|D.q (i:=15) rfl (by kernel_rfl) (fun _=>Wd.ay [] [] rfl rfl rfl) rfl (q.cat rfl rfl (by first|omega|(simp only [ByteArray.size_append,aC,au,List.length_cons,List.length_nil];omega))) rfl<|D.q (i:=17) rfl (by kernel_rfl) (fun _=>Wd.ay [] [] rfl rfl rfl) rfl (q.cat rfl rfl (by first|omega|(simp only [ByteArray.size_append,aC,au,List.length_cons,List.length_nil];omega))) rfl<|D.q (i:=18) rfl (by kernel_rfl) (fun _=>Wd.ay [] [] rfl rfl rfl) rfl (q.as rfl) rfl<|D.done (by kernel_rfl)<|?_
          exact R.rv rfl Try.results53 rfl (rS (by (rfl)))
      ·
        refine Do.s (s.c (q.call dI rfl rfl (fun w hw=>(bO (n) w  (by omega)))) rfl) (fun _=>(fun _=>Wd.ay [] [] rfl rfl rfl)) rfl fun _=>?_
        refine D.two (i:=2) (j:=14) (by kernel_rfl) rfl rfl ?_ ?_
        ·
          refine Do.s (s.c (Qt.a (q.e9 (fun _=>Wd.row 0 rfl) rfl aJ Try.underlying5 Try.underlying9)) rfl) (fun _=>(fun _=>Wd.ay [] [] rfl rfl rfl)) rfl fun _=>?_
          refine D.q (i:=5) rfl (by kernel_rfl) (fun _=>Wd.ay [] [] rfl rfl rfl) rfl (q.cat rfl rfl (by first|omega|(simp only [ByteArray.size_append,aC,au,List.length_cons,List.length_nil];omega))) rfl<|?_
          refine D.one (i:=14) (by kernel_rfl) rfl ?_
          refine Do.s (s.c (Qt.a (q.e9 (fun _=>Wd.row 1 rfl) rfl aJ Try.underlying5 Try.underlying9)) rfl) (fun _=>(fun _=>Wd.ay [] [] rfl rfl rfl)) rfl fun _=>?_
          refine D.q (i:=15) rfl (by kernel_rfl) (fun _=>Wd.ay [] [] rfl rfl rfl) rfl (q.cat rfl rfl (by first|omega|(simp only [ByteArray.size_append,aC,au,List.length_cons,List.length_nil];omega))) rfl<|D.q (i:=17) rfl (by kernel_rfl) (fun _=>Wd.ay [] [] rfl rfl rfl) rfl (q.cat rfl rfl (by first|omega|(simp only [ByteArray.size_append,aC,au,List.length_cons,List.length_nil];omega))) rfl<|D.q (i:=18) rfl (by kernel_rfl) (fun _=>Wd.ay [] [] rfl rfl rfl) rfl (q.as rfl) rfl<|D.done (by kernel_rfl)<|?_
          exact R.rv rfl Try.results53 rfl (rS (by (rfl)))
        ·
          refine Do.s (s.c (Qt.a (q.e9 (fun _=>Wd.row 1 rfl) rfl aJ Try.underlying5 Try.underlying9)) rfl) (fun _=>(fun _=>Wd.ay [] [] rfl rfl rfl)) rfl fun _=>?_
          refine D.one (i:=2) (by kernel_rfl) rfl ?_
          refine Do.s (s.c (Qt.a (q.e9 (fun _=>Wd.row 0 rfl) rfl aJ Try.underlying5 Try.underlying9)) rfl) (fun _=>(fun _=>Wd.ay [] [] rfl rfl rfl)) rfl fun _=>?_
          refine D.q (i:=5) rfl (by kernel_rfl) (fun _=>Wd.ay [] [] rfl rfl rfl) rfl (q.cat rfl rfl (by first|omega|(simp only [ByteArray.size_append,aC,au,List.length_cons,List.length_nil];omega))) rfl<|D.q (i:=15) rfl (by kernel_rfl) (fun _=>Wd.ay [] [] rfl rfl rfl) rfl (q.cat rfl rfl (by first|omega|(simp only [ByteArray.size_append,aC,au,List.length_cons,List.length_nil];omega))) rfl<|D.q (i:=17) rfl (by kernel_rfl) (fun _=>Wd.ay [] [] rfl rfl rfl) rfl (q.cat rfl rfl (by first|omega|(simp only [ByteArray.size_append,aC,au,List.length_cons,List.length_nil];omega))) rfl<|D.q (i:=18) rfl (by kernel_rfl) (fun _=>Wd.ay [] [] rfl rfl rfl) rfl (q.as rfl) rfl<|D.done (by kernel_rfl)<|?_
          exact R.rv rfl Try.results53 rfl (rS (by (rfl)))
      ·
        refine Do.s (s.c (Qt.a (q.e9 (fun _=>Wd.row 1 rfl) rfl aJ Try.underlying5 Try.underlying9)) rfl) (fun _=>(fun _=>Wd.ay [] [] rfl rfl rfl)) rfl fun _=>?_
        refine D.two (i:=2) (j:=4) (by kernel_rfl) rfl rfl ?_ ?_
        ·
          refine Do.s (s.c (Qt.a (q.e9 (fun _=>Wd.row 0 rfl) rfl aJ Try.underlying5 Try.underlying9)) rfl) (fun _=>(fun _=>Wd.ay [] [] rfl rfl rfl)) rfl fun _=>?_
          refine D.one (i:=4) (by kernel_rfl) rfl ?_
          refine Do.s (s.c (q.call dI rfl rfl (fun w hw=>(bO (n) w  (by omega)))) rfl) (fun _=>(fun _=>Wd.ay [] [] rfl rfl rfl)) rfl fun _=>?_
          refine D.q (i:=5) rfl (by kernel_rfl) (fun _=>Wd.ay [] [] rfl rfl rfl) rfl (q.cat rfl rfl (by first|omega|(simp only [ByteArray.size_append,aC,au,List.length_cons,List.length_nil];omega))) rfl<|D.q (i:=15) rfl (by kernel_rfl) (fun _=>Wd.ay [] [] rfl rfl rfl) rfl (q.cat rfl rfl (by first|omega|(simp only [ByteArray.size_append,aC,au,List.length_cons,List.length_nil];omega))) rfl<|D.q (i:=17) rfl (by kernel_rfl) (fun _=>Wd.ay [] [] rfl rfl rfl) rfl (q.cat rfl rfl (by first|omega|(simp only [ByteArray.size_append,aC,au,List.length_cons,List.length_nil];omega))) rfl<|D.q (i:=18) rfl (by kernel_rfl) (fun _=>Wd.ay [] [] rfl rfl rfl) rfl (q.as rfl) rfl<|D.done (by kernel_rfl)<|?_
          exact R.rv rfl Try.results53 rfl (rS (by (rfl)))
        ·
          refine Do.s (s.c (q.call dI rfl rfl (fun w hw=>(bO (n) w  (by omega)))) rfl) (fun _=>(fun _=>Wd.ay [] [] rfl rfl rfl)) rfl fun _=>?_
          refine D.one (i:=2) (by kernel_rfl) rfl ?_
          refine Do.s (s.c (Qt.a (q.e9 (fun _=>Wd.row 0 rfl) rfl aJ Try.underlying5 Try.underlying9)) rfl) (fun _=>(fun _=>Wd.ay [] [] rfl rfl rfl)) rfl fun _=>?_
          refine D.q (i:=5) rfl (by kernel_rfl) (fun _=>Wd.ay [] [] rfl rfl rfl) rfl (q.cat rfl rfl (by first|omega|(simp only [ByteArray.size_append,aC,au,List.length_cons,List.length_nil];omega))) rfl<|D.q (i:=15) rfl (by kernel_rfl) (fun _=>Wd.ay [] [] rfl rfl rfl) rfl (q.cat rfl rfl (by first|omega|(simp only [ByteArray.size_append,aC,au,List.length_cons,List.length_nil];omega))) rfl<|D.q (i:=17) rfl (by kernel_rfl) (fun _=>Wd.ay [] [] rfl rfl rfl) rfl (q.cat rfl rfl (by first|omega|(simp only [ByteArray.size_append,aC,au,List.length_cons,List.length_nil];omega))) rfl<|D.q (i:=18) rfl (by kernel_rfl) (fun _=>Wd.ay [] [] rfl rfl rfl) rfl (q.as rfl) rfl<|D.done (by kernel_rfl)<|?_
          exact R.rv rfl Try.results53 rfl (rS (by (rfl)))
    ·
      refine Do.s (s.c (q.call dI rfl rfl (fun w hw=>(bO (n) w  (by omega)))) rfl) (fun _=>(fun _=>Wd.ay [] [] rfl rfl rfl)) rfl fun _=>?_
      refine D.two (i:=1) (j:=14) (by kernel_rfl) rfl rfl ?_ ?_
      ·
        refine Do.s (s.bs (l:=([(u8 k)]:List UInt8)) aJ ck rfl rfl rfl rfl rfl (bq (dr (by omega)) cT) rfl) (fun _=>(fun _=>Wd.ay [] [] rfl rfl rfl)) rfl fun b15=>?_
        refine D.two (i:=2) (j:=14) (by kernel_rfl) rfl rfl ?_ ?_
        ·
          refine Do.s (s.c (Qt.a (q.e9 (fun _=>Wd.row 0 rfl) rfl aJ Try.underlying5 Try.underlying9)) rfl) (fun _=>(fun _=>Wd.ay [] [] rfl rfl rfl)) rfl fun _=>?_
          refine D.q (i:=5) rfl (by kernel_rfl) (fun _=>Wd.ay [] [] rfl rfl rfl) rfl (q.cat rfl rfl (by first|omega|(simp only [ByteArray.size_append,aC,au,List.length_cons,List.length_nil];omega))) rfl<|?_
          refine D.one (i:=14) (by kernel_rfl) rfl ?_
          refine Do.s (s.c (Qt.a (q.e9 (fun _=>Wd.row 1 rfl) rfl aJ Try.underlying5 Try.underlying9)) rfl) (fun _=>(fun _=>Wd.ay [] [] rfl rfl rfl)) rfl fun _=>?_
          refine D.q (i:=15) rfl (by kernel_rfl) (fun _=>Wd.ay [] [] rfl rfl rfl) rfl (q.cat rfl rfl (by first|omega|(simp only [ByteArray.size_append,aC,au,List.length_cons,List.length_nil];omega))) rfl<|D.q (i:=17) rfl (by kernel_rfl) (fun _=>Wd.ay [] [] rfl rfl rfl) rfl (q.cat rfl rfl (by first|omega|(simp only [ByteArray.size_append,aC,au,List.length_cons,List.length_nil];omega))) rfl<|D.q (i:=18) rfl (by kernel_rfl) (fun _=>Wd.ay [] [] rfl rfl rfl) rfl (q.as rfl) rfl<|D.done (by kernel_rfl)<|?_
          exact R.rv rfl Try.results53 rfl (rS (by (rfl)))
        ·
          refine Do.s (s.c (Qt.a (q.e9 (fun _=>Wd.row 1 rfl) rfl aJ Try.underlying5 Try.underlying9)) rfl) (fun _=>(fun _=>Wd.ay [] [] rfl rfl rfl)) rfl fun _=>?_
          refine D.one (i:=2) (by kernel_rfl) rfl ?_
          refine Do.s (s.c (Qt.a (q.e9 (fun _=>Wd.row 0 rfl) rfl aJ Try.underlying5 Try.underlying9)) rfl) (fun _=>(fun _=>Wd.ay [] [] rfl rfl rfl)) rfl fun _=>?_
          refine D.q (i:=5) rfl (by kernel_rfl) (fun _=>Wd.ay [] [] rfl rfl rfl) rfl (q.cat rfl rfl (by first|omega|(simp only [ByteArray.size_append,aC,au,List.length_cons,List.length_nil];omega))) rfl<|D.q (i:=15) rfl (by kernel_rfl) (fun _=>Wd.ay [] [] rfl rfl rfl) rfl (q.cat rfl rfl (by first|omega|(simp only [ByteArray.size_append,aC,au,List.length_cons,List.length_nil];omega))) rfl<|D.q (i:=17) rfl (by kernel_rfl) (fun _=>Wd.ay [] [] rfl rfl rfl) rfl (q.cat rfl rfl (by first|omega|(simp only [ByteArray.size_append,aC,au,List.length_cons,List.length_nil];omega))) rfl<|D.q (i:=18) rfl (by kernel_rfl) (fun _=>Wd.ay [] [] rfl rfl rfl) rfl (q.as rfl) rfl<|D.done (by kernel_rfl)<|?_
          exact R.rv rfl Try.results53 rfl (rS (by (rfl)))
      ·
        refine Do.s (s.c (Qt.a (q.e9 (fun _=>Wd.row 0 rfl) rfl aJ Try.underlying5 Try.underlying9)) rfl) (fun _=>(fun _=>Wd.ay [] [] rfl rfl rfl)) rfl fun _=>?_
        refine D.one (i:=1) (by kernel_rfl) rfl ?_
        refine Do.s (s.bs (l:=([(u8 k)]:List UInt8)) aJ ck rfl rfl rfl rfl rfl (bq (dr (by omega)) cT) rfl) (fun _=>(fun _=>Wd.ay [] [] rfl rfl rfl)) rfl fun b16=>?_
        refine D.one (i:=2) (by kernel_rfl) rfl ?_
        refine Do.s (s.c (Qt.a (q.e9 (fun _=>Wd.row 0 rfl) rfl aJ Try.underlying5 Try.underlying9)) rfl) (fun _=>(fun _=>Wd.ay [] [] rfl rfl rfl)) rfl fun _=>?_
        refine D.q (i:=5) rfl (by kernel_rfl) (fun _=>Wd.ay [] [] rfl rfl rfl) rfl (q.cat rfl rfl (by first|omega|(simp only [ByteArray.size_append,aC,au,List.length_cons,List.length_nil];omega))) rfl<|D.q (i:=15) rfl (by kernel_rfl) (fun _=>Wd.ay [] [] rfl rfl rfl) rfl (q.cat rfl rfl (by first|omega|(simp only [ByteArray.size_append,aC,au,List.length_cons,List.length_nil];omega))) rfl<|D.q (i:=17) rfl (by kernel_rfl) (fun _=>Wd.ay [] [] rfl rfl rfl) rfl (q.cat rfl rfl (by first|omega|(simp only [ByteArray.size_append,aC,au,List.length_cons,List.length_nil];omega))) rfl<|D.q (i:=18) rfl (by kernel_rfl) (fun _=>Wd.ay [] [] rfl rfl rfl) rfl (q.as rfl) rfl<|D.done (by kernel_rfl)<|?_
        exact R.rv rfl Try.results53 rfl (rS (by (rfl)))
    ·
      refine Do.s (s.c (Qt.a (q.e9 (fun _=>Wd.row 0 rfl) rfl aJ Try.underlying5 Try.underlying9)) rfl) (fun _=>(fun _=>Wd.ay [] [] rfl rfl rfl)) rfl fun _=>?_
      refine D.two (i:=1) (j:=4) (by kernel_rfl) rfl rfl ?_ ?_
      ·
        refine Do.s (s.bs (l:=([(u8 k)]:List UInt8)) aJ ck rfl rfl rfl rfl rfl (bq (dr (by omega)) cT) rfl) (fun _=>(fun _=>Wd.ay [] [] rfl rfl rfl)) rfl fun b17=>?_
        refine D.two (i:=2) (j:=4) (by kernel_rfl) rfl rfl ?_ ?_
        ·
          refine Do.s (s.c (Qt.a (q.e9 (fun _=>Wd.row 0 rfl) rfl aJ Try.underlying5 Try.underlying9)) rfl) (fun _=>(fun _=>Wd.ay [] [] rfl rfl rfl)) rfl fun _=>?_
          refine D.one (i:=4) (by kernel_rfl) rfl ?_
          refine Do.s (s.c (q.call dI rfl rfl (fun w hw=>(bO (n) w  (by omega)))) rfl) (fun _=>(fun _=>Wd.ay [] [] rfl rfl rfl)) rfl fun _=>?_
          refine D.q (i:=5) rfl (by kernel_rfl) (fun _=>Wd.ay [] [] rfl rfl rfl) rfl (q.cat rfl rfl (by first|omega|(simp only [ByteArray.size_append,aC,au,List.length_cons,List.length_nil];omega))) rfl<|D.q (i:=15) rfl (by kernel_rfl) (fun _=>Wd.ay [] [] rfl rfl rfl) rfl (q.cat rfl rfl (by first|omega|(simp only [ByteArray.size_append,aC,au,List.length_cons,List.length_nil];omega))) rfl<|D.q (i:=17) rfl (by kernel_rfl) (fun _=>Wd.ay [] [] rfl rfl rfl) rfl (q.cat rfl rfl (by first|omega|(simp only [ByteArray.size_append,aC,au,List.length_cons,List.length_nil];omega))) rfl<|D.q (i:=18) rfl (by kernel_rfl) (fun _=>Wd.ay [] [] rfl rfl rfl) rfl (q.as rfl) rfl<|D.done (by kernel_rfl)<|?_
          exact R.rv rfl Try.results53 rfl (rS (by (rfl)))
        ·
          refine Do.s (s.c (q.call dI rfl rfl (fun w hw=>(bO (n) w  (by omega)))) rfl) (fun _=>(fun _=>Wd.ay [] [] rfl rfl rfl)) rfl fun _=>?_
          refine D.one (i:=2) (by kernel_rfl) rfl ?_
          refine Do.s (s.c (Qt.a (q.e9 (fun _=>Wd.row 0 rfl) rfl aJ Try.underlying5 Try.underlying9)) rfl) (fun _=>(fun _=>Wd.ay [] [] rfl rfl rfl)) rfl fun _=>?_
          refine D.q (i:=5) rfl (by kernel_rfl) (fun _=>Wd.ay [] [] rfl rfl rfl) rfl (q.cat rfl rfl (by first|omega|(simp only [ByteArray.size_append,aC,au,List.length_cons,List.length_nil];omega))) rfl<|D.q (i:=15) rfl (by kernel_rfl) (fun _=>Wd.ay [] [] rfl rfl rfl) rfl (q.cat rfl rfl (by first|omega|(simp only [ByteArray.size_append,aC,au,List.length_cons,List.length_nil];omega))) rfl<|D.q (i:=17) rfl (by kernel_rfl) (fun _=>Wd.ay [] [] rfl rfl rfl) rfl (q.cat rfl rfl (by first|omega|(simp only [ByteArray.size_append,aC,au,List.length_cons,List.length_nil];omega))) rfl<|D.q (i:=18) rfl (by kernel_rfl) (fun _=>Wd.ay [] [] rfl rfl rfl) rfl (q.as rfl) rfl<|D.done (by kernel_rfl)<|?_
          exact R.rv rfl Try.results53 rfl (rS (by (rfl)))
      ·
        refine Do.s (s.c (q.call dI rfl rfl (fun w hw=>(bO (n) w  (by omega)))) rfl) (fun _=>(fun _=>Wd.ay [] [] rfl rfl rfl)) rfl fun _=>?_
        refine D.one (i:=1) (by kernel_rfl) rfl ?_
        refine Do.s (s.bs (l:=([(u8 k)]:List UInt8)) aJ ck rfl rfl rfl rfl rfl (bq (dr (by omega)) cT) rfl) (fun _=>(fun _=>Wd.ay [] [] rfl rfl rfl)) rfl fun b18=>?_
        refine D.one (i:=2) (by kernel_rfl) rfl ?_
        refine Do.s (s.c (Qt.a (q.e9 (fun _=>Wd.row 0 rfl) rfl aJ Try.underlying5 Try.underlying9)) rfl) (fun _=>(fun _=>Wd.ay [] [] rfl rfl rfl)) rfl fun _=>?_
        refine D.q (i:=5) rfl (by kernel_rfl) (fun _=>Wd.ay [] [] rfl rfl rfl) rfl (q.cat rfl rfl (by first|omega|(simp only [ByteArray.size_append,aC,au,List.length_cons,List.length_nil];omega))) rfl<|D.q (i:=15) rfl (by kernel_rfl) (fun _=>Wd.ay [] [] rfl rfl rfl) rfl (q.cat rfl rfl (by first|omega|(simp only [ByteArray.size_append,aC,au,List.length_cons,List.length_nil];omega))) rfl<|D.q (i:=17) rfl (by kernel_rfl) (fun _=>Wd.ay [] [] rfl rfl rfl) rfl (q.cat rfl rfl (by first|omega|(simp only [ByteArray.size_append,aC,au,List.length_cons,List.length_nil];omega))) rfl<|D.q (i:=18) rfl (by kernel_rfl) (fun _=>Wd.ay [] [] rfl rfl rfl) rfl (q.as rfl) rfl<|D.done (by kernel_rfl)<|?_
        exact R.rv rfl Try.results53 rfl (rS (by (rfl)))
theorem ku (aG:Nat)(iO:Nat)(lg:Lg)(w:World)(me:(af.box aG [.pointer (some ⟨iO,0,none⟩),.int .i64 lg.From,.int .i64 lg.Many,.int .i64 lg.First,.int .i64 lg.Next] 85).ok w)(hb:0≤lg.Many∧lg.Many≤1000000000∧0≤lg.Next∧lg.Next≤1000000000):Calls Try.prog 17 #[.pointer (some ⟨aG,0,none⟩)] w fun e w'=>e = .returned (.int .i64 (lg.Many-lg.Next))∧Ext w w':=by
  refine R.enter (n:=12) (vs:=[.pointer (some ⟨aG,0,none⟩)]) [] [(0,.pointer (some ⟨aG,0,none⟩))] Try.func17 rfl rfl rfl rfl ?_
  refine R.kD (r:=af.box aG [.pointer (some ⟨iO,0,none⟩),.int .i64 lg.From,.int .i64 lg.Many,.int .i64 lg.First,.int .i64 lg.Next] 85) me (hZ me) ?_
  refine R.reg rfl<|R.u 1 rfl<|R.nil ?_
  refine R.dC rfl mixed (by kernel_rfl)<|Q.u 1 rfl<|Q.q (q.a7 rfl) rfl<|Q.q (q.bz (off':=2) rfl kG rfl) rfl<|Q.q (q.oK 0 rfl rfl aK rfl) rfl<|Q.u 1 rfl<|Q.q (q.a7 rfl) rfl<|Q.q (q.bz (off':=4) rfl fA rfl) rfl<|Q.q (q.oK 0 rfl rfl aK rfl) rfl<|Q.q (q.sub (r:=lg.Many-lg.Next) rfl rfl (wr (by omega))) rfl<|Q.u 1 rfl<|Q.nil ?_
  exact R.rv rfl Try.results17 rfl (rI (by (rfl)))
theorem pk (aG:Nat)(iO:Nat)(lg:Lg)(w:World)(me:(af.box aG [.pointer (some ⟨iO,0,none⟩),.int .i64 lg.From,.int .i64 lg.Many,.int .i64 lg.First,.int .i64 lg.Next] 85).ok w)(hb:0≤lg.Many∧lg.Many≤1000000000∧0≤lg.First∧lg.First≤1000000000):Calls Try.prog 18 #[.pointer (some ⟨aG,0,none⟩)] w fun e w'=>e = .returned (.int .i64 (lg.First+lg.Many))∧Ext w w':=by
  refine R.enter (n:=12) (vs:=[.pointer (some ⟨aG,0,none⟩)]) [] [(0,.pointer (some ⟨aG,0,none⟩))] Try.func18 rfl rfl rfl rfl ?_
  refine R.kD (r:=af.box aG [.pointer (some ⟨iO,0,none⟩),.int .i64 lg.From,.int .i64 lg.Many,.int .i64 lg.First,.int .i64 lg.Next] 85) me (hZ me) ?_
  refine R.reg rfl<|R.u 1 rfl<|R.nil ?_
  refine R.dC rfl mixed (by kernel_rfl)<|Q.u 1 rfl<|Q.q (q.a7 rfl) rfl<|Q.q (q.bz (off':=3) rfl fy rfl) rfl<|Q.q (q.oK 0 rfl rfl aK rfl) rfl<|Q.u 1 rfl<|Q.q (q.a7 rfl) rfl<|Q.q (q.bz (off':=2) rfl kG rfl) rfl<|Q.q (q.oK 0 rfl rfl aK rfl) rfl<|Q.q (q.add (r:=lg.First+lg.Many) rfl rfl (wr (by omega))) rfl<|Q.u 1 rfl<|Q.nil ?_
  exact R.rv rfl Try.results18 rfl (rI (by (rfl)))
theorem tI (aG:Nat)(lg:Lg)(i:Nat)(ap:Nat)(ah ak ai:Value)(dk:bA)(w:World)(me:(af.box aG [.pointer (some ⟨ap,0,none⟩),.int .i64 lg.From,.int .i64 lg.Many,.int .i64 lg.First,.int .i64 lg.Next] 85).ok w)(lY:(af.box ap [ah,ak,ai,.int .i64 dk.Fuse,.bool dk.Down] 81).ok w)(eM:Sl w ah (dk.Kept:List ByteArray))(fD:Sl w ak (dk.Now:List ByteArray))(eN:Sl w ai (dk.Wait:List Turn))(hb : -1000000000≤lg.From∧lg.From≤1000000000∧0≤lg.First∧lg.First≤8000000000000000000∧i≤1000000000)(hr:(aO dk (lg.From+(i:Int))).2=0)(hs:((aO dk (lg.From+(i:Int))).1).size=48):Calls Try.prog 43 #[.pointer (some ⟨aG,0,none⟩),.int .i64 (i:Int)] w fun e w'=>e = .returned (.tuple #[.int .u8 (iU ((aO dk (lg.From+(i:Int))).1) (lg.First+(i:Int)):Int),.string (dw ((aO dk (lg.From+(i:Int))).1) (lg.First+(i:Int))),.bool (ej ((aO dk (lg.From+(i:Int))).1) (lg.First+(i:Int)))])∧Ext w w':=by
  refine R.enter (n:=64) (vs:=[.pointer (some ⟨aG,0,none⟩),.int .i64 (i:Int)]) [] [(0,.pointer (some ⟨aG,0,none⟩)),(1,.int .i64 (i:Int))] Try.func43 rfl rfl rfl rfl ?_
  refine R.iY eM ?_
  refine R.iY fD ?_
  refine R.iY eN ?_
  refine R.kD (r:=af.box aG [.pointer (some ⟨ap,0,none⟩),.int .i64 lg.From,.int .i64 lg.Many,.int .i64 lg.First,.int .i64 lg.Next] 85) me (hZ me) ?_
  refine R.kD (r:=af.box ap [ah,ak,ai,.int .i64 dk.Fuse,.bool dk.Down] 81) lY (hZ lY) ?_
  refine R.reg rfl<|R.u 3 rfl<|R.nil ?_
  refine R.dC rfl mixed (by kernel_rfl)<|Q.u 1 rfl<|Q.q (q.a7 rfl) rfl<|Q.q (q.bz (off':=0) rfl gA rfl) rfl<|Q.q (q.oK 1 rfl rfl eo rfl) rfl<|Q.u 1 rfl<|Q.q (q.a7 rfl) rfl<|Q.q (q.bz (off':=1) rfl jx rfl) rfl<|Q.q (q.oK 1 rfl rfl aK rfl) rfl<|Q.u 1 rfl<|Q.q (q.add (r:=lg.From+(i:Int)) rfl rfl (wr (by omega))) rfl<|Q.c (q.call qL rfl rfl (fun w hw=>(jz ap ah ak ai  (dk) ((lg.From+(i:Int))) w (hw.f 0 rfl) (hw.bV 4 rfl) (hw.bV 3 rfl) (hw.bV 2 rfl) ))) rfl<|Q.u 5 rfl<|Q.nil ?_
  by_cases h1:(((aO dk (lg.From+(i:Int))).1).extract 1 5)=aN (lg.First+(i:Int))
  ·
    obtain ⟨y1,hy1⟩:∃z,((aO dk (lg.From+(i:Int))).1).data[0]? = some z:=⟨_,Array.getElem?_eq_getElem (show 0<((aO dk (lg.From+(i:Int))).1).size from by omega)⟩
    have yQ:=y1.toNat_lt
    by_cases h2:y1.toNat=111
    ·
      refine R.dC rfl mixed (by kernel_rfl)<|Q.u 1 rfl<|Q.q (q.dx rfl rfl Try.underlying28 (by omega)) rfl<|Q.u 2 rfl<|Q.qg rfl (q.qC (i:=1) (j:=5) rfl rfl rfl Try.underlying9 rfl rfl (by omega) (by omega)) rfl<|Q.u 1 rfl<|Q.qg rfl (q.a7 rfl) rfl<|Q.qg rfl (q.bz (off':=3) rfl fy rfl) rfl<|Q.qg rfl (q.oK 1 rfl rfl aK rfl) rfl<|Q.u 1 rfl<|Q.qg rfl (q.add (r:=lg.First+(i:Int)) rfl rfl (wr (by omega))) rfl<|Q.cg rfl (q.call dI rfl rfl (fun w hw=>(bO ((lg.First+(i:Int))) w  (by omega)))) rfl<|Q.qg rfl (q.jM rfl rfl h1) rfl<|Q.u 3 rfl<|Q.qg rfl (q.ek (i:=0) rfl rfl Try.underlying9 rfl hy1) rfl<|Q.qg rfl (q.neq rfl rfl (bne_eq_false_iff_eq.2 (by omega))) rfl<|Q.u 6 rfl<|Q.nil ?_
      refine R.aH rfl rfl ?_
      obtain ⟨y2,hy2⟩:∃z,((aO dk (lg.From+(i:Int))).1).data[5]? = some z:=⟨_,Array.getElem?_eq_getElem (show 5<((aO dk (lg.From+(i:Int))).1).size from by omega)⟩
      have yR:=y2.toNat_lt
      obtain ⟨y3,hy3⟩:∃z,((aO dk (lg.From+(i:Int))).1).data[6]? = some z:=⟨_,Array.getElem?_eq_getElem (show 6<((aO dk (lg.From+(i:Int))).1).size from by omega)⟩
      have zo:=y3.toNat_lt
      refine R.dC rfl mixed (by kernel_rfl)<|Q.u 1 rfl<|Q.q (q.ek (i:=5) rfl rfl Try.underlying9 rfl hy2) rfl<|Q.q (q.iD (r:=((y2.toNat:Nat):Int)) rfl (by rw [Try.underlying5];rfl) Try.underlying3 (wr (by omega))) rfl<|Q.u 1 rfl<|Q.q (q.ek (i:=6) rfl rfl Try.underlying9 rfl hy3) rfl<|Q.q (q.iD (r:=((y3.toNat:Nat):Int)) rfl (by rw [Try.underlying5];rfl) Try.underlying3 (wr (by omega))) rfl<|Q.q (q.mul (r:=((256*y3.toNat:Nat):Int)) rfl rfl (wr (by omega))) rfl<|Q.q (q.add (r:=((y2.toNat+(256*y3.toNat):Nat):Int)) rfl rfl (wr (by omega))) rfl<|Q.u 1 rfl<|Q.nil ?_
      refine R.reg rfl<|R.u 1 rfl<|?_
      by_cases h3:41<(y2.toNat+(256*y3.toNat))
      ·
        refine R.q (q.gtr rfl rfl (decide_eq_true (by omega))) rfl<|R.nil ?_
        refine R.aF rfl rfl ?_
        refine R.reg rfl<|R.u 3 rfl<|R.nil ?_
        exact R.xa rfl Try.results43 rfl rfl rfl (xd (by (first|(rw [(aP (cw (by assumption))).1];rfl)|(rw [(aP (cx (by rw [ae hy1];omega) (by rw [ae hy1];omega))).1];rfl)|(rw [(aP (bn (by unfold aX;rw [ae hy2,ae hy3];omega))).1];rfl)|(rw [(aP (bn (by unfold aX;rw [ae hy4,ae cW];omega))).1];rfl)|(rw [(bw (bh (by assumption) (by rw [ae hy1];omega) (by unfold aX;rw [ae hy2,ae hy3];omega))).1,ae hy1])|(rw [(bw (bh (by assumption) (by rw [ae hy1];omega) (by unfold aX;rw [ae hy4,ae cW];omega))).1,ae hy1])))) (rS (by (first|(rw [(aP (cw (by assumption))).2])|(rw [(aP (cx (by rw [ae hy1];omega) (by rw [ae hy1];omega))).2])|(rw [(aP (bn (by unfold aX;rw [ae hy2,ae hy3];omega))).2])|(rw [(aP (bn (by unfold aX;rw [ae hy4,ae cW];omega))).2])|(rw [(bw (bh (by assumption) (by rw [ae hy1];omega) (by unfold aX;rw [ae hy2,ae hy3];omega))).2];unfold fH aX;rw [ae hy2,ae hy3])|(rw [(bw (bh (by assumption) (by rw [ae hy1];omega) (by unfold aX;rw [ae hy4,ae cW];omega))).2];unfold fH aX;rw [ae hy4,ae cW])))) (rB (by (first|(exact (cw (by assumption)).symm)|(exact (cx (by rw [ae hy1];omega) (by rw [ae hy1];omega)).symm)|(exact (bn (by unfold aX;rw [ae hy2,ae hy3];omega)).symm)|(exact (bn (by unfold aX;rw [ae hy4,ae cW];omega)).symm)|(exact (bh (by assumption) (by rw [ae hy1];omega) (by unfold aX;rw [ae hy2,ae hy3];omega)).symm)|(exact (bh (by assumption) (by rw [ae hy1];omega) (by unfold aX;rw [ae hy4,ae cW];omega)).symm))))
      ·
        refine R.q (q.gtr rfl rfl (decide_eq_false (by omega))) rfl<|R.nil ?_
        refine R.aH rfl rfl ?_
        refine R.dC rfl mixed (by kernel_rfl)<|Q.u 1 rfl<|Q.q (q.ek (i:=0) rfl rfl Try.underlying9 rfl hy1) rfl<|Q.u 2 rfl<|Q.q (q.add (r:=((7+(y2.toNat+(256*y3.toNat)):Nat):Int)) rfl rfl (wr (by omega))) rfl<|Q.q (q.qC (i:=7) (j:=(7+(y2.toNat+(256*y3.toNat)))) rfl rfl rfl Try.underlying9 rfl rfl (by omega) (by omega)) rfl<|Q.u 3 rfl<|Q.nil ?_
        exact R.xa rfl Try.results43 rfl rfl rfl (xd (by (first|(rw [(aP (cw (by assumption))).1];rfl)|(rw [(aP (cx (by rw [ae hy1];omega) (by rw [ae hy1];omega))).1];rfl)|(rw [(aP (bn (by unfold aX;rw [ae hy2,ae hy3];omega))).1];rfl)|(rw [(aP (bn (by unfold aX;rw [ae hy4,ae cW];omega))).1];rfl)|(rw [(bw (bh (by assumption) (by rw [ae hy1];omega) (by unfold aX;rw [ae hy2,ae hy3];omega))).1,ae hy1])|(rw [(bw (bh (by assumption) (by rw [ae hy1];omega) (by unfold aX;rw [ae hy4,ae cW];omega))).1,ae hy1])))) (rS (by (first|(rw [(aP (cw (by assumption))).2])|(rw [(aP (cx (by rw [ae hy1];omega) (by rw [ae hy1];omega))).2])|(rw [(aP (bn (by unfold aX;rw [ae hy2,ae hy3];omega))).2])|(rw [(aP (bn (by unfold aX;rw [ae hy4,ae cW];omega))).2])|(rw [(bw (bh (by assumption) (by rw [ae hy1];omega) (by unfold aX;rw [ae hy2,ae hy3];omega))).2];unfold fH aX;rw [ae hy2,ae hy3])|(rw [(bw (bh (by assumption) (by rw [ae hy1];omega) (by unfold aX;rw [ae hy4,ae cW];omega))).2];unfold fH aX;rw [ae hy4,ae cW])))) (rB (by (first|(exact (cw (by assumption)).symm)|(exact (cx (by rw [ae hy1];omega) (by rw [ae hy1];omega)).symm)|(exact (bn (by unfold aX;rw [ae hy2,ae hy3];omega)).symm)|(exact (bn (by unfold aX;rw [ae hy4,ae cW];omega)).symm)|(exact (bh (by assumption) (by rw [ae hy1];omega) (by unfold aX;rw [ae hy2,ae hy3];omega)).symm)|(exact (bh (by assumption) (by rw [ae hy1];omega) (by unfold aX;rw [ae hy4,ae cW];omega)).symm))))
    ·
      by_cases h4:y1.toNat=99
      ·
        refine R.dC rfl mixed (by kernel_rfl)<|Q.u 1 rfl<|Q.q (q.dx rfl rfl Try.underlying28 (by omega)) rfl<|Q.u 2 rfl<|Q.qg rfl (q.qC (i:=1) (j:=5) rfl rfl rfl Try.underlying9 rfl rfl (by omega) (by omega)) rfl<|Q.u 1 rfl<|Q.qg rfl (q.a7 rfl) rfl<|Q.qg rfl (q.bz (off':=3) rfl fy rfl) rfl<|Q.qg rfl (q.oK 1 rfl rfl aK rfl) rfl<|Q.u 1 rfl<|Q.qg rfl (q.add (r:=lg.First+(i:Int)) rfl rfl (wr (by omega))) rfl<|Q.cg rfl (q.call dI rfl rfl (fun w hw=>(bO ((lg.First+(i:Int))) w  (by omega)))) rfl<|Q.qg rfl (q.jM rfl rfl h1) rfl<|Q.u 3 rfl<|Q.qg rfl (q.ek (i:=0) rfl rfl Try.underlying9 rfl hy1) rfl<|Q.qg rfl (q.neq rfl rfl (bne_iff_ne.2 (by omega))) rfl<|Q.u 2 rfl<|Q.qg rfl (q.ek (i:=0) rfl rfl Try.underlying9 rfl hy1) rfl<|Q.qg rfl (q.neq rfl rfl (bne_eq_false_iff_eq.2 (by omega))) rfl<|Q.u 2 rfl<|Q.nil ?_
        refine R.aH rfl rfl ?_
        obtain ⟨y4,hy4⟩:∃z,((aO dk (lg.From+(i:Int))).1).data[5]? = some z:=⟨_,Array.getElem?_eq_getElem (show 5<((aO dk (lg.From+(i:Int))).1).size from by omega)⟩
        have zN:=y4.toNat_lt
        obtain ⟨y5,cW⟩:∃z,((aO dk (lg.From+(i:Int))).1).data[6]? = some z:=⟨_,Array.getElem?_eq_getElem (show 6<((aO dk (lg.From+(i:Int))).1).size from by omega)⟩
        have Aw:=y5.toNat_lt
        refine R.dC rfl mixed (by kernel_rfl)<|Q.u 1 rfl<|Q.q (q.ek (i:=5) rfl rfl Try.underlying9 rfl hy4) rfl<|Q.q (q.iD (r:=((y4.toNat:Nat):Int)) rfl (by rw [Try.underlying5];rfl) Try.underlying3 (wr (by omega))) rfl<|Q.u 1 rfl<|Q.q (q.ek (i:=6) rfl rfl Try.underlying9 rfl cW) rfl<|Q.q (q.iD (r:=((y5.toNat:Nat):Int)) rfl (by rw [Try.underlying5];rfl) Try.underlying3 (wr (by omega))) rfl<|Q.q (q.mul (r:=((256*y5.toNat:Nat):Int)) rfl rfl (wr (by omega))) rfl<|Q.q (q.add (r:=((y4.toNat+(256*y5.toNat):Nat):Int)) rfl rfl (wr (by omega))) rfl<|Q.u 1 rfl<|Q.nil ?_
        refine R.reg rfl<|R.u 1 rfl<|?_
        by_cases h5:41<(y4.toNat+(256*y5.toNat))
        ·
          refine R.q (q.gtr rfl rfl (decide_eq_true (by omega))) rfl<|R.nil ?_
          refine R.aF rfl rfl ?_
          refine R.reg rfl<|R.u 3 rfl<|R.nil ?_
          exact R.xa rfl Try.results43 rfl rfl rfl (xd (by (first|(rw [(aP (cw (by assumption))).1];rfl)|(rw [(aP (cx (by rw [ae hy1];omega) (by rw [ae hy1];omega))).1];rfl)|(rw [(aP (bn (by unfold aX;rw [ae hy2,ae hy3];omega))).1];rfl)|(rw [(aP (bn (by unfold aX;rw [ae hy4,ae cW];omega))).1];rfl)|(rw [(bw (bh (by assumption) (by rw [ae hy1];omega) (by unfold aX;rw [ae hy2,ae hy3];omega))).1,ae hy1])|(rw [(bw (bh (by assumption) (by rw [ae hy1];omega) (by unfold aX;rw [ae hy4,ae cW];omega))).1,ae hy1])))) (rS (by (first|(rw [(aP (cw (by assumption))).2])|(rw [(aP (cx (by rw [ae hy1];omega) (by rw [ae hy1];omega))).2])|(rw [(aP (bn (by unfold aX;rw [ae hy2,ae hy3];omega))).2])|(rw [(aP (bn (by unfold aX;rw [ae hy4,ae cW];omega))).2])|(rw [(bw (bh (by assumption) (by rw [ae hy1];omega) (by unfold aX;rw [ae hy2,ae hy3];omega))).2];unfold fH aX;rw [ae hy2,ae hy3])|(rw [(bw (bh (by assumption) (by rw [ae hy1];omega) (by unfold aX;rw [ae hy4,ae cW];omega))).2];unfold fH aX;rw [ae hy4,ae cW])))) (rB (by (first|(exact (cw (by assumption)).symm)|(exact (cx (by rw [ae hy1];omega) (by rw [ae hy1];omega)).symm)|(exact (bn (by unfold aX;rw [ae hy2,ae hy3];omega)).symm)|(exact (bn (by unfold aX;rw [ae hy4,ae cW];omega)).symm)|(exact (bh (by assumption) (by rw [ae hy1];omega) (by unfold aX;rw [ae hy2,ae hy3];omega)).symm)|(exact (bh (by assumption) (by rw [ae hy1];omega) (by unfold aX;rw [ae hy4,ae cW];omega)).symm))))
        ·
          refine R.q (q.gtr rfl rfl (decide_eq_false (by omega))) rfl<|R.nil ?_
          refine R.aH rfl rfl ?_
          refine R.dC rfl mixed (by kernel_rfl)<|Q.u 1 rfl<|Q.q (q.ek (i:=0) rfl rfl Try.underlying9 rfl hy1) rfl<|Q.u 2 rfl<|Q.q (q.add (r:=((7+(y4.toNat+(256*y5.toNat)):Nat):Int)) rfl rfl (wr (by omega))) rfl<|Q.q (q.qC (i:=7) (j:=(7+(y4.toNat+(256*y5.toNat)))) rfl rfl rfl Try.underlying9 rfl rfl (by omega) (by omega)) rfl<|Q.u 3 rfl<|Q.nil ?_
          exact R.xa rfl Try.results43 rfl rfl rfl (xd (by (first|(rw [(aP (cw (by assumption))).1];rfl)|(rw [(aP (cx (by rw [ae hy1];omega) (by rw [ae hy1];omega))).1];rfl)|(rw [(aP (bn (by unfold aX;rw [ae hy2,ae hy3];omega))).1];rfl)|(rw [(aP (bn (by unfold aX;rw [ae hy4,ae cW];omega))).1];rfl)|(rw [(bw (bh (by assumption) (by rw [ae hy1];omega) (by unfold aX;rw [ae hy2,ae hy3];omega))).1,ae hy1])|(rw [(bw (bh (by assumption) (by rw [ae hy1];omega) (by unfold aX;rw [ae hy4,ae cW];omega))).1,ae hy1])))) (rS (by (first|(rw [(aP (cw (by assumption))).2])|(rw [(aP (cx (by rw [ae hy1];omega) (by rw [ae hy1];omega))).2])|(rw [(aP (bn (by unfold aX;rw [ae hy2,ae hy3];omega))).2])|(rw [(aP (bn (by unfold aX;rw [ae hy4,ae cW];omega))).2])|(rw [(bw (bh (by assumption) (by rw [ae hy1];omega) (by unfold aX;rw [ae hy2,ae hy3];omega))).2];unfold fH aX;rw [ae hy2,ae hy3])|(rw [(bw (bh (by assumption) (by rw [ae hy1];omega) (by unfold aX;rw [ae hy4,ae cW];omega))).2];unfold fH aX;rw [ae hy4,ae cW])))) (rB (by (first|(exact (cw (by assumption)).symm)|(exact (cx (by rw [ae hy1];omega) (by rw [ae hy1];omega)).symm)|(exact (bn (by unfold aX;rw [ae hy2,ae hy3];omega)).symm)|(exact (bn (by unfold aX;rw [ae hy4,ae cW];omega)).symm)|(exact (bh (by assumption) (by rw [ae hy1];omega) (by unfold aX;rw [ae hy2,ae hy3];omega)).symm)|(exact (bh (by assumption) (by rw [ae hy1];omega) (by unfold aX;rw [ae hy4,ae cW];omega)).symm))))
      ·
        refine R.dC rfl mixed (by kernel_rfl)<|Q.u 1 rfl<|Q.q (q.dx rfl rfl Try.underlying28 (by omega)) rfl<|Q.u 2 rfl<|Q.qg rfl (q.qC (i:=1) (j:=5) rfl rfl rfl Try.underlying9 rfl rfl (by omega) (by omega)) rfl<|Q.u 1 rfl<|Q.qg rfl (q.a7 rfl) rfl<|Q.qg rfl (q.bz (off':=3) rfl fy rfl) rfl<|Q.qg rfl (q.oK 1 rfl rfl aK rfl) rfl<|Q.u 1 rfl<|Q.qg rfl (q.add (r:=lg.First+(i:Int)) rfl rfl (wr (by omega))) rfl<|Q.cg rfl (q.call dI rfl rfl (fun w hw=>(bO ((lg.First+(i:Int))) w  (by omega)))) rfl<|Q.qg rfl (q.jM rfl rfl h1) rfl<|Q.u 3 rfl<|Q.qg rfl (q.ek (i:=0) rfl rfl Try.underlying9 rfl hy1) rfl<|Q.qg rfl (q.neq rfl rfl (bne_iff_ne.2 (by omega))) rfl<|Q.u 2 rfl<|Q.qg rfl (q.ek (i:=0) rfl rfl Try.underlying9 rfl hy1) rfl<|Q.qg rfl (q.neq rfl rfl (bne_iff_ne.2 (by omega))) rfl<|Q.u 2 rfl<|Q.nil ?_
        refine R.aF rfl rfl ?_
        refine R.reg rfl<|R.u 3 rfl<|R.nil ?_
        exact R.xa rfl Try.results43 rfl rfl rfl (xd (by (first|(rw [(aP (cw (by assumption))).1];rfl)|(rw [(aP (cx (by rw [ae hy1];omega) (by rw [ae hy1];omega))).1];rfl)|(rw [(aP (bn (by unfold aX;rw [ae hy2,ae hy3];omega))).1];rfl)|(rw [(aP (bn (by unfold aX;rw [ae hy4,ae cW];omega))).1];rfl)|(rw [(bw (bh (by assumption) (by rw [ae hy1];omega) (by unfold aX;rw [ae hy2,ae hy3];omega))).1,ae hy1])|(rw [(bw (bh (by assumption) (by rw [ae hy1];omega) (by unfold aX;rw [ae hy4,ae cW];omega))).1,ae hy1])))) (rS (by (first|(rw [(aP (cw (by assumption))).2])|(rw [(aP (cx (by rw [ae hy1];omega) (by rw [ae hy1];omega))).2])|(rw [(aP (bn (by unfold aX;rw [ae hy2,ae hy3];omega))).2])|(rw [(aP (bn (by unfold aX;rw [ae hy4,ae cW];omega))).2])|(rw [(bw (bh (by assumption) (by rw [ae hy1];omega) (by unfold aX;rw [ae hy2,ae hy3];omega))).2];unfold fH aX;rw [ae hy2,ae hy3])|(rw [(bw (bh (by assumption) (by rw [ae hy1];omega) (by unfold aX;rw [ae hy4,ae cW];omega))).2];unfold fH aX;rw [ae hy4,ae cW])))) (rB (by (first|(exact (cw (by assumption)).symm)|(exact (cx (by rw [ae hy1];omega) (by rw [ae hy1];omega)).symm)|(exact (bn (by unfold aX;rw [ae hy2,ae hy3];omega)).symm)|(exact (bn (by unfold aX;rw [ae hy4,ae cW];omega)).symm)|(exact (bh (by assumption) (by rw [ae hy1];omega) (by unfold aX;rw [ae hy2,ae hy3];omega)).symm)|(exact (bh (by assumption) (by rw [ae hy1];omega) (by unfold aX;rw [ae hy4,ae cW];omega)).symm))))
  ·
    refine R.dC rfl mixed (by kernel_rfl)<|Q.u 1 rfl<|Q.q (q.dx rfl rfl Try.underlying28 (by omega)) rfl<|Q.u 2 rfl<|Q.qg rfl (q.qC (i:=1) (j:=5) rfl rfl rfl Try.underlying9 rfl rfl (by omega) (by omega)) rfl<|Q.u 1 rfl<|Q.qg rfl (q.a7 rfl) rfl<|Q.qg rfl (q.bz (off':=3) rfl fy rfl) rfl<|Q.qg rfl (q.oK 1 rfl rfl aK rfl) rfl<|Q.u 1 rfl<|Q.qg rfl (q.add (r:=lg.First+(i:Int)) rfl rfl (wr (by omega))) rfl<|Q.cg rfl (q.call dI rfl rfl (fun w hw=>(bO ((lg.First+(i:Int))) w  (by omega)))) rfl<|Q.qg rfl (q.kS rfl rfl h1) rfl<|Q.u 11 rfl<|Q.nil ?_
    refine R.aF rfl rfl ?_
    refine R.reg rfl<|R.u 3 rfl<|R.nil ?_
    exact R.xa rfl Try.results43 rfl rfl rfl (xd (by (first|(rw [(aP (cw (by assumption))).1];rfl)|(rw [(aP (cx (by rw [ae hy1];omega) (by rw [ae hy1];omega))).1];rfl)|(rw [(aP (bn (by unfold aX;rw [ae hy2,ae hy3];omega))).1];rfl)|(rw [(aP (bn (by unfold aX;rw [ae hy4,ae cW];omega))).1];rfl)|(rw [(bw (bh (by assumption) (by rw [ae hy1];omega) (by unfold aX;rw [ae hy2,ae hy3];omega))).1,ae hy1])|(rw [(bw (bh (by assumption) (by rw [ae hy1];omega) (by unfold aX;rw [ae hy4,ae cW];omega))).1,ae hy1])))) (rS (by (first|(rw [(aP (cw (by assumption))).2])|(rw [(aP (cx (by rw [ae hy1];omega) (by rw [ae hy1];omega))).2])|(rw [(aP (bn (by unfold aX;rw [ae hy2,ae hy3];omega))).2])|(rw [(aP (bn (by unfold aX;rw [ae hy4,ae cW];omega))).2])|(rw [(bw (bh (by assumption) (by rw [ae hy1];omega) (by unfold aX;rw [ae hy2,ae hy3];omega))).2];unfold fH aX;rw [ae hy2,ae hy3])|(rw [(bw (bh (by assumption) (by rw [ae hy1];omega) (by unfold aX;rw [ae hy4,ae cW];omega))).2];unfold fH aX;rw [ae hy4,ae cW])))) (rB (by (first|(exact (cw (by assumption)).symm)|(exact (cx (by rw [ae hy1];omega) (by rw [ae hy1];omega)).symm)|(exact (bn (by unfold aX;rw [ae hy2,ae hy3];omega)).symm)|(exact (bn (by unfold aX;rw [ae hy4,ae cW];omega)).symm)|(exact (bh (by assumption) (by rw [ae hy1];omega) (by unfold aX;rw [ae hy2,ae hy3];omega)).symm)|(exact (bh (by assumption) (by rw [ae hy1];omega) (by unfold aX;rw [ae hy4,ae cW];omega)).symm))))
set_option maxRecDepth 100000 in
set_option maxHeartbeats 1600000 in
theorem pn (ap:Nat)(ah ak ai:Value)(dk:bA)(cS:Int)(many:Int)(first:Int)(w:World)(own:List Nat)(H:Wd w (blks [af.box ap [ah,ak,ai,.int .i64 dk.Fuse,.bool dk.Down] 81,af.row 9 ah (dk.Kept:List ByteArray),af.row 9 ak (dk.Now:List ByteArray),af.row 83 ai (dk.Wait:List Turn)]++own) ([af.box ap [ah,ak,ai,.int .i64 dk.Fuse,.bool dk.Down] 81,af.row 9 ah (dk.Kept:List ByteArray),af.row 9 ak (dk.Now:List ByteArray),af.row 83 ai (dk.Wait:List Turn)]++[af.held w own]) [] w)(hb:0≤cS∧1≤many∧cS+many≤(dk.Now.length:Int)∧1≤first∧first≤4000000000000000000)(hd:dk.Down=false)(hD:cI dk.Now.length 90000 dk∧dk.Now.length≤100000):Calls Try.prog 11 #[.pointer (some ⟨ap,0,none⟩),.int .i64 cS,.int .i64 many,.int .i64 first] w fun e w' => ∃z:Value×Value×Value×Nat×Value×List dz,e = .returned (.tuple #[.pointer (some ⟨z.2.2.2.1,0,none⟩),z.2.2.2.2.1,.nilIface])∧Wd w (blks [af.box ap [ah,ak,ai,.int .i64 dk.Fuse,.bool dk.Down] 81,af.row 9 ah (dk.Kept:List ByteArray),af.row 9 ak (dk.Now:List ByteArray),af.row 83 ai (dk.Wait:List Turn)]++own) ([af.box ap [z.1,z.2.1,z.2.2.1,.int .i64 ((dk).Fuse),.bool ((dk).Down)] 81,af.row 9 z.1 ((dk).Kept:List ByteArray),af.row 9 z.2.1 ((dk).Now:List ByteArray),af.row 83 z.2.2.1 ((dk).Wait:List Turn),af.box z.2.2.2.1 [.pointer (some ⟨ap,0,none⟩),.int .i64 (((⟨cS,many,first,(cj dk cS (Int.toNat many) first:Int)⟩:Lg)).From),.int .i64 (((⟨cS,many,first,(cj dk cS (Int.toNat many) first:Int)⟩:Lg)).Many),.int .i64 (((⟨cS,many,first,(cj dk cS (Int.toNat many) first:Int)⟩:Lg)).First),.int .i64 (((⟨cS,many,first,(cj dk cS (Int.toNat many) first:Int)⟩:Lg)).Next)] 85]++[af.held w own]) [af.ls z.2.2.2.2.1 (z.2.2.2.2.2:List dz),af.jl (z.2.2.2.2.2:List dz) ((dL dk cS (Int.toNat many) first))] w':=by
  have cZ:=H.cap 1 rfl;have da:=H.aX 1 rfl
  have dJ:=H.cap 2 rfl;have dK:=H.aX 2 rfl
  have dc:=H.cap 3 rfl;have df:=H.aX 3 rfl
  obtain ⟨manyN,wH⟩:∃m:Nat,many=(m:Int):=⟨many.toNat,by omega⟩;subst wH
  refine R.bY (n:=103) (vs:=[.pointer (some ⟨ap,0,none⟩),.int .i64 cS,.int .i64 (manyN:Int),.int .i64 first]) (B:=[af.box ap [ah,ak,ai,.int .i64 dk.Fuse,.bool dk.Down] 81,af.row 9 ah (dk.Kept:List ByteArray),af.row 9 ak (dk.Now:List ByteArray),af.row 83 ai (dk.Wait:List Turn),af.held w own]) [(0,.pointer (some ⟨ap,0,none⟩)),(1,.int .i64 cS),(2,.int .i64 (manyN:Int)),(3,.int .i64 first)] Try.func11 rfl rfl rfl rfl H ?_
  refine R.reg rfl<|R.u 3 rfl<|R.nil ?_
  refine R.reg rfl<|R.u 1 rfl<|R.q (q.lss rfl rfl (decide_eq_false (by omega))) rfl<|R.u 2 rfl<|R.qg rfl (q.lss rfl rfl (decide_eq_false (by omega))) rfl<|R.u 4 rfl<|R.cg rfl (q.call ke rfl rfl (fun w hw=>(cJ ap ah ak ai  (dk) w (hw.b 0 rfl) ((fun _=>Wd.row 1 rfl) w hw) ((fun _=>Wd.row 2 rfl) w hw) ((fun _=>Wd.row 3 rfl) w hw) ))) rfl<|R.qg rfl (q.gtr rfl rfl (decide_eq_false (by omega))) rfl<|R.u 4 rfl<|R.cg rfl (q.call ke rfl rfl (fun w hw=>(cJ ap ah ak ai  (dk) w (hw.b 0 rfl) ((fun _=>Wd.row 1 rfl) w hw) ((fun _=>Wd.row 2 rfl) w hw) ((fun _=>Wd.row 3 rfl) w hw) ))) rfl<|R.u 1 rfl<|R.qg rfl (q.sub (r:=(dk.Now.length:Int)-(manyN:Int)) rfl rfl (wr (by omega))) rfl<|R.qg rfl (q.gtr rfl rfl (decide_eq_false (by omega))) rfl<|R.u 3 rfl<|R.qg rfl (q.lss rfl rfl (decide_eq_false (by omega))) rfl<|R.u 1 rfl<|R.nil ?_
  refine R.aH rfl rfl ?_
  refine R.reg rfl<|R.u 1 rfl<|R.c (q.call s8 rfl rfl (fun w hw=>(cv (congrArg Value.bool hd) (kH ap ah ak ai  (dk) w (hw.b 0 rfl) ((fun _=>Wd.row 1 rfl) w hw) ((fun _=>Wd.row 2 rfl) w hw) ((fun _=>Wd.row 3 rfl) w hw) )))) rfl<|R.nil ?_
  refine R.aH rfl rfl ?_
  refine R.reg rfl<|R.u 4 rfl<|R.q (q.build (cs:=[.pointer (some ⟨ap,0,none⟩),.int .i64 cS,.int .i64 (manyN:Int),.int .i64 first,.int .i64 0]) xK rfl rfl) rfl<|?_
  refine R.s rfl (s.box (cs:=[.pointer (some ⟨ap,0,none⟩),.int .i64 cS,.int .i64 (manyN:Int),.int .i64 first,.int .i64 0]) rfl rfl rfl) fun b1=>?_
  refine R.u 1 rfl<|R.nil ?_
  refine R.reg rfl<|R.u 1 rfl<|R.nil ?_
  refine R.reg rfl<|R.u 1 rfl<|R.nil ?_
  refine R.reg rfl<|R.u 2 rfl<|R.nil ?_
  refine R.mp (fun _ hw=>hw.yp) ?_
  refine R.row0 (α:=dz) 46 ?_
  refine R.row0 (α:=Change) 51 ?_
  refine R.loop (fun g_:Nat×Nat×Value×(List dz)×Value×(List Change)=>[(11,.pointer (some ⟨b1,0,none⟩)),(12,g_.2.2.1),(13,g_.2.2.2.2.1),(54,.int .i64 (manyN:Int)),(55,.int .i64 (g_.1:Int))]) (fun g_:Nat×Nat×Value×(List dz)×Value×(List Change)=>[af.row 51 g_.2.2.2.2.1 (g_.2.2.2.2.2:List Change),af.row 46 g_.2.2.1 (g_.2.2.2.1:List dz),af.box b1 [.pointer (some ⟨ap,0,none⟩),.int .i64 cS,.int .i64 (manyN:Int),.int .i64 first,.int .i64 (g_.2.1:Int)] 85,af.box ap [ah,ak,ai,.int .i64 dk.Fuse,.bool dk.Down] 81,af.row 9 ah (dk.Kept:List ByteArray),af.row 9 ak (dk.Now:List ByteArray),af.row 83 ai (dk.Wait:List Turn),af.held w own]) (fun g_:Nat×Nat×Value×(List dz)×Value×(List Change)=>[af.gj (g_.2.2.2.1:List dz),af.gj ([]:List dz)]) (fun g_:Nat×Nat×Value×(List dz)×Value×(List Change)=>g_.1≤manyN∧dQ ((jm dk cS manyN).drop g_.1) (first+(g_.1:Int)) (g_.2.2.2.1.map dz.L) g_.2.2.2.2.2 g_.2.1 g_.1=scan (jm dk cS manyN) first∧g_.2.2.2.2.2.length≤g_.1∧g_.2.2.2.1.length≤g_.1∧g_.2.1≤g_.1) (fun g_:Nat×Nat×Value×(List dz)×Value×(List Change)=>manyN-g_.1) (0,0,(.slice none 0 0),[],(.slice none 0 0),[]) rfl (by (try dsimp only);exact ⟨by omega,by show dQ _ (first+0) _ _ _ _=_;rw [Int.add_zero];rfl,by simp,by simp,by simp⟩) ⟨rfl,rfl,rfl,rfl,rfl,trivial⟩ (fun _=>Wd.pick [0,1,2,3,4,5,6,7] [0,0] rfl rfl rfl) ?_
  rintro ⟨i,u,qo,ob,qd,dd⟩ ⟨hi,HS,hdl,hol,Bc⟩
  dsimp only at *
  refine R.reg rfl<|?_
  by_cases h1:i<manyN
  ·
    refine R.q (q.lss rfl rfl (decide_eq_true (by omega))) rfl<|R.nil ?_
    refine R.aF rfl rfl ?_
    refine R.reg rfl<|R.u 2 rfl<|R.nil ?_
    have hrd:=kt hD.1 hd (i:=cS+(i:Int)) (by omega) (by omega);obtain ⟨hrd,hsz⟩:=hrd;have hlx:=p7 (n:=first+(i:Int)) hsz
    refine R.reg rfl<|R.u 2 rfl<|R.c (q.call xV rfl rfl (fun w hw=>(cv (show (.tuple #[.int .u8 (iU ((aO dk ((⟨cS,(manyN:Int),first,(u:Int)⟩:Lg).From+(i:Int))).1) ((⟨cS,(manyN:Int),first,(u:Int)⟩:Lg).First+(i:Int)):Int),.string (dw ((aO dk ((⟨cS,(manyN:Int),first,(u:Int)⟩:Lg).From+(i:Int))).1) ((⟨cS,(manyN:Int),first,(u:Int)⟩:Lg).First+(i:Int))),.bool (ej ((aO dk ((⟨cS,(manyN:Int),first,(u:Int)⟩:Lg).From+(i:Int))).1) ((⟨cS,(manyN:Int),first,(u:Int)⟩:Lg).First+(i:Int)))]:Value) = .tuple #[.int .u8 (iU ((aO dk (cS+(i:Int))).1) (first+(i:Int)):Int),.string (dw ((aO dk (cS+(i:Int))).1) (first+(i:Int))),.bool (ej ((aO dk (cS+(i:Int))).1) (first+(i:Int)))] from rfl) (tI b1   ((⟨cS,(manyN:Int),first,(u:Int)⟩:Lg)) (i) ap ah ak ai  (dk) w (hw.b 2 rfl) (hw.b 3 rfl) ((fun _=>Wd.row 4 rfl) w hw) ((fun _=>Wd.row 5 rfl) w hw) ((fun _=>Wd.row 6 rfl) w hw) (by first|assumption|omega|(dsimp only;omega)) (by assumption) (by assumption))))) rfl<|R.u 7 rfl<|R.nil ?_
    refine R.reg rfl<|R.u 1 rfl<|R.q (q.not rfl) rfl<|R.u 1 rfl<|?_
    rcases Bool.eq_false_or_eq_true (ej ((aO dk (cS+(i:Int))).1) (first+(i:Int))) with h2|h2
    ·
      rw [h2]
      refine R.u 1 rfl<|?_
      by_cases h3:iU ((aO dk (cS+(i:Int))).1) (first+(i:Int))=99
      ·
        refine R.qg rfl (q.eql rfl rfl (beq_iff_eq.2 (by omega))) rfl<|R.u 3 rfl<|R.qg rfl (q.len' (fun _=>Wd.row 0 rfl) rfl Try.underlying46) rfl<|R.cg rfl (q.call dI rfl rfl (fun w hw=>(bO ((dd.length:Int)) w  (by omega)))) rfl<|?_
        by_cases h4:dw ((aO dk (cS+(i:Int))).1) (first+(i:Int))=aN (dd.length:Int)
        ·
          refine R.qg rfl (q.jM rfl rfl h4) rfl<|R.u 2 rfl<|R.nil ?_
          refine R.aH rfl rfl ?_
          refine R.reg rfl<|R.u 1 rfl<|R.q (q.eql rfl rfl (beq_iff_eq.2 (by omega))) rfl<|R.nil ?_
          refine R.aF rfl rfl ?_
          refine R.reg rfl<|R.u 3 rfl<|?_
          refine R.s rfl (s.Av (l:=([(⟨qd,dd⟩:dz)]:List dz)) sV sW rfl rfl rfl rfl rfl (fun w hw=>rV ((fun _=>Wd.row 0 rfl) w hw)) rfl) fun b2=>?_
          refine R.s rfl (s.app (l2:=[(⟨qd,dd⟩:dz)]) 2 _ rfl rfl rfl (fun _=>Wd.row 0 rfl) uI (by first|omega|(simp;done)|(simp;omega)) (by first|omega|(simp;done)|(simp;omega)) (fun _=>rfl) rfl) fun v1=>?_
          refine R.u 1 rfl<|R.q (q.add (r:=((i+1:Nat):Int)) rfl rfl (wr (by omega))) rfl<|R.u 2 rfl<|R.q (q.a7 rfl) rfl<|R.q (q.bz (off':=4) rfl fA rfl) rfl<|?_
          refine R.s rfl (s.st (us:=[.int .i64 ((i+1):Int)]) (cs':=[.pointer (some ⟨ap,0,none⟩),.int .i64 cS,.int .i64 (manyN:Int),.int .i64 first,.int .i64 ((i+1):Int)]) 3 _ rfl rfl rfl rfl (.inr ⟨aK,rfl⟩) rfl rfl rfl rfl) fun _=>?_
          refine R.nil ?_
          refine R.reg rfl<|R.q (q.add (r:=((i+1:Nat):Int)) rfl rfl (wr (by omega))) rfl<|R.u 1 rfl<|R.nil ?_
          refine R.mp (B':=[af.row 46 (.slice (some ⟨b2,0,none⟩) 1 1) ([(⟨qd,dd⟩:dz)]:List dz),af.row 46 v1 ((ob++([(⟨qd,dd⟩:dz)])):List dz),af.box b1 [.pointer (some ⟨ap,0,none⟩),.int .i64 cS,.int .i64 (manyN:Int),.int .i64 first,.int .i64 ((i+1):Int)] 85,af.box ap [ah,ak,ai,.int .i64 dk.Fuse,.bool dk.Down] 81,af.row 9 ah (dk.Kept:List ByteArray),af.row 9 ak (dk.Now:List ByteArray),af.row 83 ai (dk.Wait:List Turn),af.held w own]) (fun _ hw=>hw.gT 1 _ rfl rfl) ?_
          refine R.mp (fun _ hw=>hw.uZ 1 0 rfl rfl) ?_
          refine R.row0 (α:=Change) 51 ?_
          refine R.back (i+1,(i+1),v1,(ob++([(⟨qd,dd⟩:dz)])),(.slice none 0 0),[]) rfl (by ((try dsimp only);exact ⟨by omega,by rw [List.map_append];exact tC HS (dE (by omega)) (wE (by assumption) (by assumption) (by assumption)),by simp,by simp;omega,by omega⟩)) (by dsimp only;omega) ⟨rfl,rfl,rfl,rfl,rfl,trivial⟩ (fun _=>Wd.ay [0,2,3,4,5,6,7,8] [0,3] rfl rfl rfl)
        ·
          refine R.qg rfl (q.kS rfl rfl h4) rfl<|R.u 2 rfl<|R.nil ?_
          refine R.aF rfl rfl ?_
          refine R.reg rfl<|R.u 5 rfl<|R.nil ?_
          refine R.mp (fun _ hw=>hw.ox 0 rfl) ?_
          refine R.mp (B':=[af.row 51 qd (dd:List Change),af.box b1 [.pointer (some ⟨ap,0,none⟩),.int .i64 cS,.int .i64 (manyN:Int),.int .i64 first,.int .i64 (u:Int)] 85,af.box ap [ah,ak,ai,.int .i64 dk.Fuse,.bool dk.Down] 81,af.row 9 ah (dk.Kept:List ByteArray),af.row 9 ak (dk.Now:List ByteArray),af.row 83 ai (dk.Wait:List Turn),af.held w own]) (fun _ hw=>hw.gT 1 _ rfl rfl) ?_
          have hz:(dk,(⟨cS,((manyN:Nat):Int),first,(cj dk cS (Int.toNat ((manyN:Nat):Int)) first:Int)⟩:Lg),dL dk cS (Int.toNat ((manyN:Nat):Int)) first)=(dk,(⟨cS,(manyN:Int),first,(u:Int)⟩:Lg),(ob.map dz.L)):=by (first|((try dsimp only);have e:=eI HS (dE (by omega)) (fT (k:=(dd.length:Int)) (by assumption)).1 (fT (k:=(dd.length:Int)) (by assumption)).2;unfold cj dL;rw [show Int.toNat ((manyN:Nat):Int)=manyN from rfl,e])|((try dsimp only);have e:=eI HS (dE (by omega)) (fU (k:=(dd.length:Int)) (by assumption) (by assumption) (by assumption)).1 (fU (k:=(dd.length:Int)) (by assumption) (by assumption) (by assumption)).2;unfold cj dL;rw [show Int.toNat ((manyN:Nat):Int)=manyN from rfl,e])|((try dsimp only);have e:=eI HS (dE (by omega)) (fV (k:=(dd.length:Int)) (by assumption) (by assumption) (by assumption)).1 (fV (k:=(dd.length:Int)) (by assumption) (by assumption) (by assumption)).2;unfold cj dL;rw [show Int.toNat ((manyN:Nat):Int)=manyN from rfl,e])|((try dsimp only);have e:=oq HS (by rw [fW];omega);unfold cj dL;rw [show Int.toNat ((manyN:Nat):Int)=manyN from rfl,e]))
          have hz0:((manyN:Nat):Int)=(manyN:Int):=congrArg (fun t_=>t_.2.1.Many) hz
          rw [hz0]
          have hz1:(cj dk cS (Int.toNat ((manyN:Nat):Int)) first:Int)=(u:Int):=congrArg (fun t_=>t_.2.1.Next) hz
          rw [hz1]
          have hz2:dL dk cS (Int.toNat ((manyN:Nat):Int)) first=(ob.map dz.L):=congrArg (fun t_=>t_.2.2) hz
          rw [hz2]
          exact R.w3 (ah,ak,ai,b1,qo,ob) [2,3,4,5,1,6] [0,1] rfl Try.results11 (RV.tmp rfl) (RV.tmp rfl) (RV.tmp rfl) rfl rfl rfl (sM rfl rfl rfl)
      ·
        refine R.qg rfl (q.eql rfl rfl (beq_eq_false_iff_ne.2 (by omega))) rfl<|R.u 8 rfl<|R.nil ?_
        refine R.aH rfl rfl ?_
        refine R.reg rfl<|R.u 1 rfl<|R.q (q.eql rfl rfl (beq_eq_false_iff_ne.2 (by omega))) rfl<|R.nil ?_
        refine R.aH rfl rfl ?_
        refine R.reg rfl<|R.u 1 rfl<|R.c (q.call xW rfl rfl (fun w hw=>(oj (dw ((aO dk (cS+(i:Int))).1) (first+(i:Int))) w  (by omega)))) rfl<|R.u 3 rfl<|?_
        refine R.s rfl (s.alloc (cs:=[.string (⟨#[]⟩),.string (⟨#[]⟩),.bool false]) bT rfl rfl) fun b3=>?_
        refine R.s rfl (s.st (us:=[.string (((iy (dw ((aO dk (cS+(i:Int))).1) (first+(i:Int)))).1).Key),.string (((iy (dw ((aO dk (cS+(i:Int))).1) (first+(i:Int)))).1).Val),.bool (((iy (dw ((aO dk (cS+(i:Int))).1) (first+(i:Int)))).1).Gone)]) (cs':=[.string (((iy (dw ((aO dk (cS+(i:Int))).1) (first+(i:Int)))).1).Key),.string (((iy (dw ((aO dk (cS+(i:Int))).1) (first+(i:Int)))).1).Val),.bool (((iy (dw ((aO dk (cS+(i:Int))).1) (first+(i:Int)))).1).Gone)]) 0 _ rfl rfl rfl rfl (.inl aY) rfl rfl rfl rfl) fun _=>?_
        refine R.u 1 rfl<|R.nil ?_
        refine R.reg rfl<|R.u 1 rfl<|?_
        by_cases h5:(iy (dw ((aO dk (cS+(i:Int))).1) (first+(i:Int)))).2=0
        ·
          refine R.q (q.dx rfl rfl Try.underlying28 (by omega)) rfl<|R.nil ?_
          refine R.aH rfl rfl ?_
          refine R.reg rfl<|R.u 1 rfl<|R.q (q.mO 0 rfl rfl aY) rfl<|?_
          refine R.s rfl (s.bs (l:=([((iy (dw ((aO dk (cS+(i:Int))).1) (first+(i:Int)))).1)]:List Change)) aU bT rfl rfl rfl rfl rfl rfl rfl) fun b4=>?_
          refine R.s rfl (s.app (l2:=[((iy (dw ((aO dk (cS+(i:Int))).1) (first+(i:Int)))).1)]) 2 _ rfl rfl rfl (fun _=>Wd.row 0 rfl) eH (by first|omega|(simp;done)|(simp;omega)) (by first|omega|(simp;done)|(simp;omega)) (fun _=>rfl) rfl) fun v2=>?_
          refine R.u 1 rfl<|R.nil ?_
          refine R.reg rfl<|R.q (q.add (r:=((i+1:Nat):Int)) rfl rfl (wr (by omega))) rfl<|R.u 1 rfl<|R.nil ?_
          refine R.back (i+1,u,qo,ob,v2,(dd++([((iy (dw ((aO dk (cS+(i:Int))).1) (first+(i:Int)))).1)]))) rfl (by ((try dsimp only);have e:=wF (k:=(dd.length:Int)) (by assumption) (by assumption) (by assumption);exact ⟨by omega,by rw [e.2.2];exact uT HS (dE (by omega)) e.1 e.2.1,by simp;omega,by omega,by omega⟩)) (by dsimp only;omega) ⟨rfl,rfl,rfl,rfl,rfl,trivial⟩ (fun _=>Wd.ay [2,3,4,5,6,7,8,9] [0,1] rfl rfl rfl)
        ·
          refine R.q (q.e8 rfl rfl Try.underlying28 (by omega)) rfl<|R.nil ?_
          refine R.aF rfl rfl ?_
          refine R.reg rfl<|R.u 5 rfl<|R.nil ?_
          refine R.mp (fun _ hw=>hw.ox 0 rfl) ?_
          refine R.mp (B':=[af.box b3 [.string (((iy (dw ((aO dk (cS+(i:Int))).1) (first+(i:Int)))).1).Key),.string (((iy (dw ((aO dk (cS+(i:Int))).1) (first+(i:Int)))).1).Val),.bool (((iy (dw ((aO dk (cS+(i:Int))).1) (first+(i:Int)))).1).Gone)] 51,af.row 51 qd (dd:List Change),af.box b1 [.pointer (some ⟨ap,0,none⟩),.int .i64 cS,.int .i64 (manyN:Int),.int .i64 first,.int .i64 (u:Int)] 85,af.box ap [ah,ak,ai,.int .i64 dk.Fuse,.bool dk.Down] 81,af.row 9 ah (dk.Kept:List ByteArray),af.row 9 ak (dk.Now:List ByteArray),af.row 83 ai (dk.Wait:List Turn),af.held w own]) (fun _ hw=>hw.gT 2 _ rfl rfl) ?_
          have hz:(dk,(⟨cS,((manyN:Nat):Int),first,(cj dk cS (Int.toNat ((manyN:Nat):Int)) first:Int)⟩:Lg),dL dk cS (Int.toNat ((manyN:Nat):Int)) first)=(dk,(⟨cS,(manyN:Int),first,(u:Int)⟩:Lg),(ob.map dz.L)):=by (first|((try dsimp only);have e:=eI HS (dE (by omega)) (fT (k:=(dd.length:Int)) (by assumption)).1 (fT (k:=(dd.length:Int)) (by assumption)).2;unfold cj dL;rw [show Int.toNat ((manyN:Nat):Int)=manyN from rfl,e])|((try dsimp only);have e:=eI HS (dE (by omega)) (fU (k:=(dd.length:Int)) (by assumption) (by assumption) (by assumption)).1 (fU (k:=(dd.length:Int)) (by assumption) (by assumption) (by assumption)).2;unfold cj dL;rw [show Int.toNat ((manyN:Nat):Int)=manyN from rfl,e])|((try dsimp only);have e:=eI HS (dE (by omega)) (fV (k:=(dd.length:Int)) (by assumption) (by assumption) (by assumption)).1 (fV (k:=(dd.length:Int)) (by assumption) (by assumption) (by assumption)).2;unfold cj dL;rw [show Int.toNat ((manyN:Nat):Int)=manyN from rfl,e])|((try dsimp only);have e:=oq HS (by rw [fW];omega);unfold cj dL;rw [show Int.toNat ((manyN:Nat):Int)=manyN from rfl,e]))
          have hz0:((manyN:Nat):Int)=(manyN:Int):=congrArg (fun t_=>t_.2.1.Many) hz
          rw [hz0]
          have hz1:(cj dk cS (Int.toNat ((manyN:Nat):Int)) first:Int)=(u:Int):=congrArg (fun t_=>t_.2.1.Next) hz
          rw [hz1]
          have hz2:dL dk cS (Int.toNat ((manyN:Nat):Int)) first=(ob.map dz.L):=congrArg (fun t_=>t_.2.2) hz
          rw [hz2]
          exact R.w3 (ah,ak,ai,b1,qo,ob) [3,4,5,6,2,7] [0,1] rfl Try.results11 (RV.tmp rfl) (RV.tmp rfl) (RV.tmp rfl) rfl rfl rfl (sM rfl rfl rfl)
    ·
      rw [h2]
      refine R.u 10 rfl<|R.nil ?_
      refine R.aF rfl rfl ?_
      refine R.reg rfl<|R.u 5 rfl<|R.nil ?_
      refine R.mp (fun _ hw=>hw.ox 0 rfl) ?_
      refine R.mp (B':=[af.row 51 qd (dd:List Change),af.box b1 [.pointer (some ⟨ap,0,none⟩),.int .i64 cS,.int .i64 (manyN:Int),.int .i64 first,.int .i64 (u:Int)] 85,af.box ap [ah,ak,ai,.int .i64 dk.Fuse,.bool dk.Down] 81,af.row 9 ah (dk.Kept:List ByteArray),af.row 9 ak (dk.Now:List ByteArray),af.row 83 ai (dk.Wait:List Turn),af.held w own]) (fun _ hw=>hw.gT 1 _ rfl rfl) ?_
      have hz:(dk,(⟨cS,((manyN:Nat):Int),first,(cj dk cS (Int.toNat ((manyN:Nat):Int)) first:Int)⟩:Lg),dL dk cS (Int.toNat ((manyN:Nat):Int)) first)=(dk,(⟨cS,(manyN:Int),first,(u:Int)⟩:Lg),(ob.map dz.L)):=by (first|((try dsimp only);have e:=eI HS (dE (by omega)) (fT (k:=(dd.length:Int)) (by assumption)).1 (fT (k:=(dd.length:Int)) (by assumption)).2;unfold cj dL;rw [show Int.toNat ((manyN:Nat):Int)=manyN from rfl,e])|((try dsimp only);have e:=eI HS (dE (by omega)) (fU (k:=(dd.length:Int)) (by assumption) (by assumption) (by assumption)).1 (fU (k:=(dd.length:Int)) (by assumption) (by assumption) (by assumption)).2;unfold cj dL;rw [show Int.toNat ((manyN:Nat):Int)=manyN from rfl,e])|((try dsimp only);have e:=eI HS (dE (by omega)) (fV (k:=(dd.length:Int)) (by assumption) (by assumption) (by assumption)).1 (fV (k:=(dd.length:Int)) (by assumption) (by assumption) (by assumption)).2;unfold cj dL;rw [show Int.toNat ((manyN:Nat):Int)=manyN from rfl,e])|((try dsimp only);have e:=oq HS (by rw [fW];omega);unfold cj dL;rw [show Int.toNat ((manyN:Nat):Int)=manyN from rfl,e]))
      have hz0:((manyN:Nat):Int)=(manyN:Int):=congrArg (fun t_=>t_.2.1.Many) hz
      rw [hz0]
      have hz1:(cj dk cS (Int.toNat ((manyN:Nat):Int)) first:Int)=(u:Int):=congrArg (fun t_=>t_.2.1.Next) hz
      rw [hz1]
      have hz2:dL dk cS (Int.toNat ((manyN:Nat):Int)) first=(ob.map dz.L):=congrArg (fun t_=>t_.2.2) hz
      rw [hz2]
      exact R.w3 (ah,ak,ai,b1,qo,ob) [2,3,4,5,1,6] [0,1] rfl Try.results11 (RV.tmp rfl) (RV.tmp rfl) (RV.tmp rfl) rfl rfl rfl (sM rfl rfl rfl)
  ·
    refine R.q (q.lss rfl rfl (decide_eq_false (by omega))) rfl<|R.nil ?_
    refine R.aH rfl rfl ?_
    refine R.reg rfl<|R.u 5 rfl<|R.nil ?_
    refine R.mp (fun _ hw=>hw.ox 0 rfl) ?_
    refine R.mp (B':=[af.row 51 qd (dd:List Change),af.box b1 [.pointer (some ⟨ap,0,none⟩),.int .i64 cS,.int .i64 (manyN:Int),.int .i64 first,.int .i64 (u:Int)] 85,af.box ap [ah,ak,ai,.int .i64 dk.Fuse,.bool dk.Down] 81,af.row 9 ah (dk.Kept:List ByteArray),af.row 9 ak (dk.Now:List ByteArray),af.row 83 ai (dk.Wait:List Turn),af.held w own]) (fun _ hw=>hw.gT 1 _ rfl rfl) ?_
    have hz:(dk,(⟨cS,((manyN:Nat):Int),first,(cj dk cS (Int.toNat ((manyN:Nat):Int)) first:Int)⟩:Lg),dL dk cS (Int.toNat ((manyN:Nat):Int)) first)=(dk,(⟨cS,(manyN:Int),first,(u:Int)⟩:Lg),(ob.map dz.L)):=by (first|((try dsimp only);have e:=eI HS (dE (by omega)) (fT (k:=(dd.length:Int)) (by assumption)).1 (fT (k:=(dd.length:Int)) (by assumption)).2;unfold cj dL;rw [show Int.toNat ((manyN:Nat):Int)=manyN from rfl,e])|((try dsimp only);have e:=eI HS (dE (by omega)) (fU (k:=(dd.length:Int)) (by assumption) (by assumption) (by assumption)).1 (fU (k:=(dd.length:Int)) (by assumption) (by assumption) (by assumption)).2;unfold cj dL;rw [show Int.toNat ((manyN:Nat):Int)=manyN from rfl,e])|((try dsimp only);have e:=eI HS (dE (by omega)) (fV (k:=(dd.length:Int)) (by assumption) (by assumption) (by assumption)).1 (fV (k:=(dd.length:Int)) (by assumption) (by assumption) (by assumption)).2;unfold cj dL;rw [show Int.toNat ((manyN:Nat):Int)=manyN from rfl,e])|((try dsimp only);have e:=oq HS (by rw [fW];omega);unfold cj dL;rw [show Int.toNat ((manyN:Nat):Int)=manyN from rfl,e]))
    have hz0:((manyN:Nat):Int)=(manyN:Int):=congrArg (fun t_=>t_.2.1.Many) hz
    rw [hz0]
    have hz1:(cj dk cS (Int.toNat ((manyN:Nat):Int)) first:Int)=(u:Int):=congrArg (fun t_=>t_.2.1.Next) hz
    rw [hz1]
    have hz2:dL dk cS (Int.toNat ((manyN:Nat):Int)) first=(ob.map dz.L):=congrArg (fun t_=>t_.2.2) hz
    rw [hz2]
    exact R.w3 (ah,ak,ai,b1,qo,ob) [2,3,4,5,1,6] [0,1] rfl Try.results11 (RV.tmp rfl) (RV.tmp rfl) (RV.tmp rfl) rfl rfl rfl (sM rfl rfl rfl)
set_option maxRecDepth 100000 in
theorem vd (aG:Nat)(lg:Lg)(jW:Value)(c:List Change)(ap:Nat)(ah ak ai:Value)(dk:bA)(w:World)(own:List Nat)(H:Wd w (blks [af.box aG [.pointer (some ⟨ap,0,none⟩),.int .i64 lg.From,.int .i64 lg.Many,.int .i64 lg.First,.int .i64 lg.Next] 85,af.box ap [ah,ak,ai,.int .i64 dk.Fuse,.bool dk.Down] 81,af.row 9 ah (dk.Kept:List ByteArray),af.row 9 ak (dk.Now:List ByteArray),af.row 83 ai (dk.Wait:List Turn)]++own) ([af.box aG [.pointer (some ⟨ap,0,none⟩),.int .i64 lg.From,.int .i64 lg.Many,.int .i64 lg.First,.int .i64 lg.Next] 85,af.box ap [ah,ak,ai,.int .i64 dk.Fuse,.bool dk.Down] 81,af.row 9 ah (dk.Kept:List ByteArray),af.row 9 ak (dk.Now:List ByteArray),af.row 83 ai (dk.Wait:List Turn)]++[af.held w own]) [af.ls jW (c:List Change)] w)(hb:0≤lg.From∧lg.From≤1000000000∧0≤lg.Next∧lg.Next≤1000000000∧0≤lg.First∧lg.First≤4000000000000000000∧0≤lg.Many∧lg.Many≤1000000000)(hl:c.length≤62)(hf:∀x∈c,dH x=0)(hD:cI dk.Now.length 90000 dk∧dk.Now.length≤100000):Calls Try.prog 50 #[.pointer (some ⟨aG,0,none⟩),jW] w fun e w' => ∃z:Value×Value×Value,e = .returned (bG (((aV lg dk c).2)))∧Wd w (blks [af.box aG [.pointer (some ⟨ap,0,none⟩),.int .i64 lg.From,.int .i64 lg.Many,.int .i64 lg.First,.int .i64 lg.Next] 85,af.box ap [ah,ak,ai,.int .i64 dk.Fuse,.bool dk.Down] 81,af.row 9 ah (dk.Kept:List ByteArray),af.row 9 ak (dk.Now:List ByteArray),af.row 83 ai (dk.Wait:List Turn)]++own) ([af.box aG [.pointer (some ⟨ap,0,none⟩),.int .i64 ((lg).From),.int .i64 ((lg).Many),.int .i64 ((lg).First),.int .i64 ((lg).Next)] 85,af.box ap [z.1,z.2.1,z.2.2,.int .i64 ((((aV lg dk c).1)).Fuse),.bool ((((aV lg dk c).1)).Down)] 81,af.row 9 z.1 ((((aV lg dk c).1)).Kept:List ByteArray),af.row 9 z.2.1 ((((aV lg dk c).1)).Now:List ByteArray),af.row 83 z.2.2 ((((aV lg dk c).1)).Wait:List Turn)]++[af.held w own]) [] w':=by
  have cZ:=H.cap 2 rfl;have da:=H.aX 2 rfl
  have dJ:=H.cap 3 rfl;have dK:=H.aX 3 rfl
  have dc:=H.cap 4 rfl;have df:=H.aX 4 rfl
  have Ax:=H.jd 0 rfl
  refine R.bY (n:=85) (vs:=[.pointer (some ⟨aG,0,none⟩),jW]) (B:=[af.box aG [.pointer (some ⟨ap,0,none⟩),.int .i64 lg.From,.int .i64 lg.Many,.int .i64 lg.First,.int .i64 lg.Next] 85,af.box ap [ah,ak,ai,.int .i64 dk.Fuse,.bool dk.Down] 81,af.row 9 ah (dk.Kept:List ByteArray),af.row 9 ak (dk.Now:List ByteArray),af.row 83 ai (dk.Wait:List Turn),af.held w own]) [(0,.pointer (some ⟨aG,0,none⟩)),(1,jW)] Try.func50 rfl rfl rfl rfl H ?_
  refine R.reg rfl<|R.u 1 rfl<|R.nil ?_
  refine R.dC rfl mixed (by kernel_rfl)<|Q.u 1 rfl<|Q.q (q.a7 rfl) rfl<|Q.q (q.bz (off':=1) rfl jx rfl) rfl<|Q.q (q.ld 0 rfl rfl aK rfl) rfl<|Q.u 1 rfl<|Q.q (q.a7 rfl) rfl<|Q.q (q.bz (off':=4) rfl fA rfl) rfl<|Q.q (q.ld 0 rfl rfl aK rfl) rfl<|Q.q (q.add (r:=lg.From+lg.Next) rfl rfl (wr (by omega))) rfl<|Q.u 1 rfl<|Q.nil ?_
  refine R.reg rfl<|R.u 1 rfl<|R.q (q.len' (fun _=>Wd.bV 0 rfl) rfl Try.underlying46) rfl<|R.u 1 rfl<|R.nil ?_
  refine R.loop (fun g_:Nat×bA×Value×Value×Value=>[(0,.pointer (some ⟨aG,0,none⟩)),(1,jW),(5,.int .i64 (lg.From+lg.Next)),(20,jW),(21,.int .i64 (c.length:Int)),(22,.int .i64 (g_.1:Int))]) (fun g_:Nat×bA×Value×Value×Value=>[af.box aG [.pointer (some ⟨ap,0,none⟩),.int .i64 lg.From,.int .i64 lg.Many,.int .i64 lg.First,.int .i64 lg.Next] 85,af.box ap [g_.2.2.1,g_.2.2.2.1,g_.2.2.2.2,.int .i64 g_.2.1.Fuse,.bool g_.2.1.Down] 81,af.row 9 g_.2.2.1 (g_.2.1.Kept:List ByteArray),af.row 9 g_.2.2.2.1 (g_.2.1.Now:List ByteArray),af.row 83 g_.2.2.2.2 (g_.2.1.Wait:List Turn),af.held w own]) (fun g_:Nat×bA×Value×Value×Value=>[af.ls jW (c:List Change)]) (fun g_:Nat×bA×Value×Value×Value=>g_.1≤c.length∧fI lg g_.2.1 (c.drop g_.1) g_.1=fI lg dk c 0∧cI dk.Now.length (90000+g_.1) g_.2.1) (fun g_:Nat×bA×Value×Value×Value=>c.length-g_.1) (0,dk,ah,ak,ai) rfl (by (try dsimp only);exact ⟨by omega,rfl,hD.1⟩) ⟨rfl,rfl,rfl,rfl,rfl,rfl,trivial⟩ (fun _=>Wd.pick [0,1,2,3,4,5] [0] rfl rfl rfl) ?_
  rintro ⟨i,dm,bK,bW,bL⟩ ⟨hi,HL,hO⟩
  dsimp only at *
  have p1:=hO.fine (by omega) (by omega)
  refine R.reg rfl<|?_
  by_cases h1:i<c.length
  ·
    refine R.q (q.lss rfl rfl (decide_eq_true (by omega))) rfl<|R.nil ?_
    refine R.aF rfl rfl ?_
    refine R.reg rfl<|R.u 1 rfl<|?_
    obtain ⟨x1,hx1⟩:∃z,c[i]? = some z:=⟨_,List.getElem?_eq_getElem (by omega)⟩
    have xe:=oz (hf x1 (List.mem_of_getElem? hx1));obtain ⟨xe,Ay⟩:=xe
    refine R.q (q.idx (i:=i) (fun _=>Wd.bV 0 rfl) rfl rfl aU rfl hx1) rfl<|R.q (q.iX (ds:=[.string x1.Key,.string x1.Val,.bool x1.Gone]) (fun _=>Wd.bV 0 rfl) hx1 rfl aY rfl) rfl<|?_
    refine R.s rfl (s.alloc (cs:=[.string (⟨#[]⟩),.string (⟨#[]⟩),.bool false]) bT rfl rfl) fun b1=>?_
    refine R.u 1 rfl<|?_
    refine R.s rfl (s.st (us:=[.string x1.Key,.string x1.Val,.bool x1.Gone]) (cs':=[.string x1.Key,.string x1.Val,.bool x1.Gone]) 0 _ rfl rfl rfl rfl (.inl aY) rfl rfl rfl rfl) fun _=>?_
    refine R.nil ?_
    refine R.reg rfl<|R.q (q.mO 0 rfl rfl aY) rfl<|R.c (q.call x9 rfl rfl (fun w hw=>(og (x1) w  ))) rfl<|R.u 5 rfl<|R.nil ?_
    refine R.reg rfl<|R.u 1 rfl<|R.q (q.dx rfl rfl Try.underlying28 (by omega)) rfl<|R.nil ?_
    refine R.aH rfl rfl ?_
    refine R.eX (fuel:=22) (Wd w (blks [af.box aG [.pointer (some ⟨ap,0,none⟩),.int .i64 lg.From,.int .i64 lg.Many,.int .i64 lg.First,.int .i64 lg.Next] 85,af.box ap [ah,ak,ai,.int .i64 dk.Fuse,.bool dk.Down] 81,af.row 9 ah (dk.Kept:List ByteArray),af.row 9 ak (dk.Now:List ByteArray),af.row 83 ai (dk.Wait:List Turn)]++own) [af.box b1 [.string x1.Key,.string x1.Val,.bool x1.Gone] 51,af.box aG [.pointer (some ⟨ap,0,none⟩),.int .i64 lg.From,.int .i64 lg.Many,.int .i64 lg.First,.int .i64 lg.Next] 85,af.held w own] [af.ls jW (c:List Change)]) rfl mixed rfl ?_
    refine D.q (i:=0) rfl (by kernel_rfl) (fun _=>Wd.ay [0,1,6] [0] rfl rfl rfl) rfl (q.mv rfl) rfl<|D.q (i:=1) rfl (by kernel_rfl) (fun _=>Wd.ay [0,1,6] [0] rfl rfl rfl) rfl (q.a7 rfl) rfl<|D.q (i:=2) rfl (by kernel_rfl) (fun _=>Wd.ay [0,1,6] [0] rfl rfl rfl) rfl (q.bz (off':=0) rfl gA rfl) rfl<|D.q (i:=3) rfl (by kernel_rfl) (fun _=>Wd.ay [0,1,6] [0] rfl rfl rfl) rfl (q.ld 1 rfl rfl eo rfl) rfl<|D.q (i:=4) rfl (by kernel_rfl) (fun _=>Wd.ay [0,1,6] [0] rfl rfl rfl) rfl (q.mv rfl) rfl<|D.q (i:=5) rfl (by kernel_rfl) (fun _=>Wd.ay [0,1,6] [0] rfl rfl rfl) rfl (q.mv rfl) rfl<|D.q (i:=6) rfl (by kernel_rfl) (fun _=>Wd.ay [0,1,6] [0] rfl rfl rfl) rfl (q.add (r:=(lg.From+lg.Next)+(i:Int)) rfl rfl (wr (by omega))) rfl<|D.q (i:=7) rfl (by kernel_rfl) (fun _=>Wd.ay [0,1,6] [0] rfl rfl rfl) rfl (q.mv rfl) rfl<|D.q (i:=8) rfl (by kernel_rfl) (fun _=>Wd.ay [0,1,6] [0] rfl rfl rfl) rfl (q.a7 rfl) rfl<|D.q (i:=9) rfl (by kernel_rfl) (fun _=>Wd.ay [0,1,6] [0] rfl rfl rfl) rfl (q.bz (off':=3) rfl fy rfl) rfl<|D.q (i:=10) rfl (by kernel_rfl) (fun _=>Wd.ay [0,1,6] [0] rfl rfl rfl) rfl (q.ld 1 rfl rfl aK rfl) rfl<|D.q (i:=11) rfl (by kernel_rfl) (fun _=>Wd.ay [0,1,6] [0] rfl rfl rfl) rfl (q.mv rfl) rfl<|D.q (i:=12) rfl (by kernel_rfl) (fun _=>Wd.ay [0,1,6] [0] rfl rfl rfl) rfl (q.a7 rfl) rfl<|D.q (i:=13) rfl (by kernel_rfl) (fun _=>Wd.ay [0,1,6] [0] rfl rfl rfl) rfl (q.bz (off':=4) rfl fA rfl) rfl<|D.q (i:=14) rfl (by kernel_rfl) (fun _=>Wd.ay [0,1,6] [0] rfl rfl rfl) rfl (q.ld 1 rfl rfl aK rfl) rfl<|D.q (i:=15) rfl (by kernel_rfl) (fun _=>Wd.ay [0,1,6] [0] rfl rfl rfl) rfl (q.add (r:=lg.First+lg.Next) rfl rfl (wr (by omega))) rfl<|D.q (i:=16) rfl (by kernel_rfl) (fun _=>Wd.ay [0,1,6] [0] rfl rfl rfl) rfl (q.mv rfl) rfl<|D.q (i:=17) rfl (by kernel_rfl) (fun _=>Wd.ay [0,1,6] [0] rfl rfl rfl) rfl (q.add (r:=(lg.First+lg.Next)+(i:Int)) rfl rfl (wr (by omega))) rfl<|D.q (i:=18) rfl (by kernel_rfl) (fun _=>Wd.ay [0,1,6] [0] rfl rfl rfl) rfl (q.mv rfl) rfl<|?_
    refine D.one (i:=19) (by kernel_rfl) rfl ?_
    refine Do.s (s.c (q.call vL rfl rfl (fun w hw=>(pj (111) (((lg.First+lg.Next)+(i:Int))) ((ef x1).1) w  (by decide) (by omega) (by first|omega|assumption|(rw [au];decide))))) rfl) (fun _=>(fun _=>Wd.ay [0,1,6] [0] rfl rfl rfl)) rfl fun _=>?_
    refine D.one (i:=20) (by kernel_rfl) rfl ?_
    refine Do.s (B':=(fun g_:Value×Value×Value=>[af.box ap [g_.1,g_.2.1,g_.2.2,.int .i64 ((((aj dm ((lg.From+lg.Next)+(i:Int)) (bf 111 ((lg.First+lg.Next)+(i:Int)) ((ef x1).1)))).1).Fuse),.bool ((((aj dm ((lg.From+lg.Next)+(i:Int)) (bf 111 ((lg.First+lg.Next)+(i:Int)) ((ef x1).1)))).1).Down)] 81,af.row 9 g_.1 ((((aj dm ((lg.From+lg.Next)+(i:Int)) (bf 111 ((lg.First+lg.Next)+(i:Int)) ((ef x1).1)))).1).Kept:List ByteArray),af.row 9 g_.2.1 ((((aj dm ((lg.From+lg.Next)+(i:Int)) (bf 111 ((lg.First+lg.Next)+(i:Int)) ((ef x1).1)))).1).Now:List ByteArray),af.row 83 g_.2.2 ((((aj dm ((lg.From+lg.Next)+(i:Int)) (bf 111 ((lg.First+lg.Next)+(i:Int)) ((ef x1).1)))).1).Wait:List Turn),af.box b1 [.string x1.Key,.string x1.Val,.bool x1.Gone] 51,af.box aG [.pointer (some ⟨ap,0,none⟩),.int .i64 lg.From,.int .i64 lg.Many,.int .i64 lg.First,.int .i64 lg.Next] 85,af.held w own])) (F':=(fun g_:Value×Value×Value=>[af.ls jW (c:List Change)])) (s.bM (B0:=[af.box ap [bK,bW,bL,.int .i64 dm.Fuse,.bool dm.Down] 81,af.row 9 bK (dm.Kept:List ByteArray),af.row 9 bW (dm.Now:List ByteArray),af.row 83 bL (dm.Wait:List Turn)]) (Br:=[af.box b1 [.string x1.Key,.string x1.Val,.bool x1.Gone] 51,af.box aG [.pointer (some ⟨ap,0,none⟩),.int .i64 lg.From,.int .i64 lg.Many,.int .i64 lg.First,.int .i64 lg.Next] 85,af.held w own]) (F0:=[]) [2,3,4,5,0,1,6] [] (fun g_:Value×Value×Value=>bG (((aj dm ((lg.From+lg.Next)+(i:Int)) (bf 111 ((lg.First+lg.Next)+(i:Int)) ((ef x1).1)))).2)) (fun g_:Value×Value×Value=>[af.box ap [g_.1,g_.2.1,g_.2.2,.int .i64 ((((aj dm ((lg.From+lg.Next)+(i:Int)) (bf 111 ((lg.First+lg.Next)+(i:Int)) ((ef x1).1)))).1).Fuse),.bool ((((aj dm ((lg.From+lg.Next)+(i:Int)) (bf 111 ((lg.First+lg.Next)+(i:Int)) ((ef x1).1)))).1).Down)] 81,af.row 9 g_.1 ((((aj dm ((lg.From+lg.Next)+(i:Int)) (bf 111 ((lg.First+lg.Next)+(i:Int)) ((ef x1).1)))).1).Kept:List ByteArray),af.row 9 g_.2.1 ((((aj dm ((lg.From+lg.Next)+(i:Int)) (bf 111 ((lg.First+lg.Next)+(i:Int)) ((ef x1).1)))).1).Now:List ByteArray),af.row 83 g_.2.2 ((((aj dm ((lg.From+lg.Next)+(i:Int)) (bf 111 ((lg.First+lg.Next)+(i:Int)) ((ef x1).1)))).1).Wait:List Turn)]) (fun g_:Value×Value×Value=>[]) rfl rfl rfl kT rfl rfl (fun w own hw H=>ea ap bK bW bL (dm) (((lg.From+lg.Next)+(i:Int))) (bf 111 ((lg.First+lg.Next)+(i:Int)) ((ef x1).1)) w own H (by first|assumption|omega)) rfl) (fun _=>(fun _=>Wd.ay [4,5,6] [0] rfl rfl rfl)) rfl ?_
    rintro ⟨z4,z5,z6⟩
    dsimp only
    refine D.q (i:=21) rfl (by kernel_rfl) (fun _=>Wd.ay [4,5,6] [0] rfl rfl rfl) rfl (q.as rfl) rfl<|D.done (by kernel_rfl)<|?_
    refine R.reg rfl<|R.u 1 rfl<|?_
    by_cases h2:(aj dm ((lg.From+lg.Next)+(i:Int)) (bf 111 ((lg.First+lg.Next)+(i:Int)) ((ef x1).1))).2=0
    ·
      refine R.q (q.dx rfl rfl Try.underlying28 (by omega)) rfl<|R.nil ?_
      refine R.aH rfl rfl ?_
      refine R.reg rfl<|R.q (q.add (r:=((i+1:Nat):Int)) rfl rfl (wr (by omega))) rfl<|R.u 1 rfl<|R.nil ?_
      refine R.back (i+1,((aj dm ((lg.From+lg.Next)+(i:Int)) (bf 111 ((lg.First+lg.Next)+(i:Int)) ((ef x1).1))).1),z4,z5,z6) rfl (by ((try dsimp only);exact ⟨by omega,wG HL hx1 (by assumption),hO.write _ _⟩)) (by dsimp only;omega) ⟨rfl,rfl,rfl,rfl,rfl,rfl,trivial⟩ (fun _=>Wd.ay [5,0,1,2,3,6] [0] rfl rfl rfl)
    ·
      refine R.q (q.e8 rfl rfl Try.underlying28 (by omega)) rfl<|R.nil ?_
      refine R.aF rfl rfl ?_
      refine R.reg rfl<|R.u 2 rfl<|R.nil ?_
      have hz:(lg,(aV lg dk c).1,(aV lg dk c).2)=(lg,((aj dm ((lg.From+lg.Next)+(i:Int)) (bf 111 ((lg.First+lg.Next)+(i:Int)) ((ef x1).1))).1),(aj dm ((lg.From+lg.Next)+(i:Int)) (bf 111 ((lg.First+lg.Next)+(i:Int)) ((ef x1).1))).2):=by (rw [rX (tF HL hx1 (by assumption)).symm (by assumption)])
      have hz0:(aV lg dk c).1=((aj dm ((lg.From+lg.Next)+(i:Int)) (bf 111 ((lg.First+lg.Next)+(i:Int)) ((ef x1).1))).1):=congrArg (fun t_=>t_.2.1) hz
      rw [hz0]
      have hz1:(aV lg dk c).2=(aj dm ((lg.From+lg.Next)+(i:Int)) (bf 111 ((lg.First+lg.Next)+(i:Int)) ((ef x1).1))).2:=congrArg (fun t_=>t_.2.2) hz
      rw [hz1]
      exact R.w1 (z4,z5,z6) [5,0,1,2,3,6] [] rfl Try.results50 (RV.tmp rfl) rfl rfl rfl rfl
  ·
    refine R.q (q.lss rfl rfl (decide_eq_false (by omega))) rfl<|R.nil ?_
    refine R.aH rfl rfl ?_
    refine R.reg rfl<|R.u 1 rfl<|R.q (q.a7 rfl) rfl<|R.q (q.bz (off':=4) rfl fA rfl) rfl<|R.q (q.ld 0 rfl rfl aK rfl) rfl<|R.u 1 rfl<|R.q (q.len' (fun _=>Wd.bV 0 rfl) rfl Try.underlying46) rfl<|R.q (q.add (r:=lg.Next+(c.length:Int)) rfl rfl (wr (by omega))) rfl<|R.q (q.add (r:=(lg.Next+(c.length:Int))+1) rfl rfl (wr (by omega))) rfl<|R.u 1 rfl<|R.nil ?_
    refine R.reg rfl<|R.u 2 rfl<|R.q (q.a7 rfl) rfl<|R.q (q.bz (off':=2) rfl kG rfl) rfl<|R.q (q.ld 0 rfl rfl aK rfl) rfl<|?_
    by_cases h3:((lg.Next+(c.length:Int))+1)<lg.Many
    ·
      refine R.q (q.lss rfl rfl (decide_eq_true (by omega))) rfl<|R.nil ?_
      refine R.aF rfl rfl ?_
      refine R.eX (fuel:=12) (Wd w (blks [af.box aG [.pointer (some ⟨ap,0,none⟩),.int .i64 lg.From,.int .i64 lg.Many,.int .i64 lg.First,.int .i64 lg.Next] 85,af.box ap [ah,ak,ai,.int .i64 dk.Fuse,.bool dk.Down] 81,af.row 9 ah (dk.Kept:List ByteArray),af.row 9 ak (dk.Now:List ByteArray),af.row 83 ai (dk.Wait:List Turn)]++own) [af.box aG [.pointer (some ⟨ap,0,none⟩),.int .i64 lg.From,.int .i64 lg.Many,.int .i64 lg.First,.int .i64 lg.Next] 85,af.held w own] [af.ls jW (c:List Change)]) rfl mixed rfl ?_
      refine D.q (i:=0) rfl (by kernel_rfl) (fun _=>Wd.ay [0,5] [0] rfl rfl rfl) rfl (q.mv rfl) rfl<|D.q (i:=1) rfl (by kernel_rfl) (fun _=>Wd.ay [0,5] [0] rfl rfl rfl) rfl (q.a7 rfl) rfl<|D.q (i:=2) rfl (by kernel_rfl) (fun _=>Wd.ay [0,5] [0] rfl rfl rfl) rfl (q.bz (off':=0) rfl gA rfl) rfl<|D.q (i:=3) rfl (by kernel_rfl) (fun _=>Wd.ay [0,5] [0] rfl rfl rfl) rfl (q.ld 0 rfl rfl eo rfl) rfl<|D.q (i:=4) rfl (by kernel_rfl) (fun _=>Wd.ay [0,5] [0] rfl rfl rfl) rfl (q.mv rfl) rfl<|D.q (i:=5) rfl (by kernel_rfl) (fun _=>Wd.ay [0,5] [0] rfl rfl rfl) rfl (q.a7 rfl) rfl<|D.q (i:=6) rfl (by kernel_rfl) (fun _=>Wd.ay [0,5] [0] rfl rfl rfl) rfl (q.bz (off':=1) rfl jx rfl) rfl<|D.q (i:=7) rfl (by kernel_rfl) (fun _=>Wd.ay [0,5] [0] rfl rfl rfl) rfl (q.ld 0 rfl rfl aK rfl) rfl<|D.q (i:=8) rfl (by kernel_rfl) (fun _=>Wd.ay [0,5] [0] rfl rfl rfl) rfl (q.mv rfl) rfl<|D.q (i:=9) rfl (by kernel_rfl) (fun _=>Wd.ay [0,5] [0] rfl rfl rfl) rfl (q.add (r:=lg.From+((lg.Next+(c.length:Int))+1)) rfl rfl (wr (by omega))) rfl<|?_
      refine D.one (i:=10) (by kernel_rfl) rfl ?_
      refine Do.s (B':=(fun g_:Value×Value×Value=>[af.box ap [g_.1,g_.2.1,g_.2.2,.int .i64 ((((aj dm (lg.From+((lg.Next+(c.length:Int))+1)) (⟨#[]⟩))).1).Fuse),.bool ((((aj dm (lg.From+((lg.Next+(c.length:Int))+1)) (⟨#[]⟩))).1).Down)] 81,af.row 9 g_.1 ((((aj dm (lg.From+((lg.Next+(c.length:Int))+1)) (⟨#[]⟩))).1).Kept:List ByteArray),af.row 9 g_.2.1 ((((aj dm (lg.From+((lg.Next+(c.length:Int))+1)) (⟨#[]⟩))).1).Now:List ByteArray),af.row 83 g_.2.2 ((((aj dm (lg.From+((lg.Next+(c.length:Int))+1)) (⟨#[]⟩))).1).Wait:List Turn),af.box aG [.pointer (some ⟨ap,0,none⟩),.int .i64 lg.From,.int .i64 lg.Many,.int .i64 lg.First,.int .i64 lg.Next] 85,af.held w own])) (F':=(fun g_:Value×Value×Value=>[af.ls jW (c:List Change)])) (s.bM (B0:=[af.box ap [bK,bW,bL,.int .i64 dm.Fuse,.bool dm.Down] 81,af.row 9 bK (dm.Kept:List ByteArray),af.row 9 bW (dm.Now:List ByteArray),af.row 83 bL (dm.Wait:List Turn)]) (Br:=[af.box aG [.pointer (some ⟨ap,0,none⟩),.int .i64 lg.From,.int .i64 lg.Many,.int .i64 lg.First,.int .i64 lg.Next] 85,af.held w own]) (F0:=[]) [1,2,3,4,0,5] [] (fun g_:Value×Value×Value=>bG (((aj dm (lg.From+((lg.Next+(c.length:Int))+1)) (⟨#[]⟩))).2)) (fun g_:Value×Value×Value=>[af.box ap [g_.1,g_.2.1,g_.2.2,.int .i64 ((((aj dm (lg.From+((lg.Next+(c.length:Int))+1)) (⟨#[]⟩))).1).Fuse),.bool ((((aj dm (lg.From+((lg.Next+(c.length:Int))+1)) (⟨#[]⟩))).1).Down)] 81,af.row 9 g_.1 ((((aj dm (lg.From+((lg.Next+(c.length:Int))+1)) (⟨#[]⟩))).1).Kept:List ByteArray),af.row 9 g_.2.1 ((((aj dm (lg.From+((lg.Next+(c.length:Int))+1)) (⟨#[]⟩))).1).Now:List ByteArray),af.row 83 g_.2.2 ((((aj dm (lg.From+((lg.Next+(c.length:Int))+1)) (⟨#[]⟩))).1).Wait:List Turn)]) (fun g_:Value×Value×Value=>[]) rfl rfl rfl kT rfl rfl (fun w own hw H=>ea ap bK bW bL (dm) ((lg.From+((lg.Next+(c.length:Int))+1))) (⟨#[]⟩) w own H (by first|assumption|omega)) rfl) (fun _=>(fun _=>Wd.ay [4,5] [0] rfl rfl rfl)) rfl ?_
      rintro ⟨gP,gK,z12⟩
      dsimp only
      refine D.q (i:=11) rfl (by kernel_rfl) (fun _=>Wd.ay [4,5] [0] rfl rfl rfl) rfl (q.as rfl) rfl<|D.done (by kernel_rfl)<|?_
      have hz:(lg,(aV lg dk c).1,(aV lg dk c).2)=(lg,((aj dm (lg.From+((lg.Next+(c.length:Int))+1)) (⟨#[]⟩)).1),(aj dm (lg.From+((lg.Next+(c.length:Int))+1)) (⟨#[]⟩)).2):=by (have e:=ra HL (by omega);first|(rw [pg e (by assumption)];done)|(rw [nz e (by omega)];done))
      have hz0:(aV lg dk c).1=((aj dm (lg.From+((lg.Next+(c.length:Int))+1)) (⟨#[]⟩)).1):=congrArg (fun t_=>t_.2.1) hz
      rw [hz0]
      have hz1:(aV lg dk c).2=(aj dm (lg.From+((lg.Next+(c.length:Int))+1)) (⟨#[]⟩)).2:=congrArg (fun t_=>t_.2.2) hz
      rw [hz1]
      exact R.w1 (gP,gK,z12) [4,0,1,2,3,5] [] rfl Try.results50 (RV.tmp rfl) rfl rfl rfl rfl
    ·
      refine R.q (q.lss rfl rfl (decide_eq_false (by omega))) rfl<|R.nil ?_
      refine R.aH rfl rfl ?_
      refine R.reg rfl<|R.u 1 rfl<|R.nil ?_
      have hz:(lg,(aV lg dk c).1,(aV lg dk c).2)=(lg,dm,0):=by (have e:=ra HL (by omega);first|(rw [pg e (by assumption)];done)|(rw [nz e (by omega)];done))
      have hz0:(aV lg dk c).1=dm:=congrArg (fun t_=>t_.2.1) hz
      rw [hz0]
      have hz1:(aV lg dk c).2=0:=congrArg (fun t_=>t_.2.2) hz
      rw [hz1]
      exact R.w1 (bK,bW,bL) [0,1,2,3,4,5] [] rfl Try.results50 (RV.tmp rfl) rfl rfl rfl (lH rfl)
theorem tJ (gL:Nat)(pl:Unit)(gM:Nat)(dV:Value)(pc:vT)(aG:Nat)(lg:Lg)(ap:Nat)(ah ak ai:Value)(dk:bA)(w:World)(own:List Nat)(H:Wd w (blks [af.box gL [.pointer (some ⟨aG,0,none⟩)] 32,af.box gM [dV] 46,af.box aG [.pointer (some ⟨ap,0,none⟩),.int .i64 lg.From,.int .i64 lg.Many,.int .i64 lg.First,.int .i64 lg.Next] 85,af.box ap [ah,ak,ai,.int .i64 dk.Fuse,.bool dk.Down] 81,af.row 9 ah (dk.Kept:List ByteArray),af.row 9 ak (dk.Now:List ByteArray),af.row 83 ai (dk.Wait:List Turn)]++own) ([af.box gL [.pointer (some ⟨aG,0,none⟩)] 32,af.box gM [dV] 46,af.box aG [.pointer (some ⟨ap,0,none⟩),.int .i64 lg.From,.int .i64 lg.Many,.int .i64 lg.First,.int .i64 lg.Next] 85,af.box ap [ah,ak,ai,.int .i64 dk.Fuse,.bool dk.Down] 81,af.row 9 ah (dk.Kept:List ByteArray),af.row 9 ak (dk.Now:List ByteArray),af.row 83 ai (dk.Wait:List Turn)]++[af.held w own]) [af.ls dV (pc.C:List Change)] w)(hb:0≤lg.From∧lg.From≤1000000000∧0≤lg.Next∧lg.Next≤1000000000∧0≤lg.First∧lg.First≤4000000000000000000∧0≤lg.Many∧lg.Many≤1000000000)(hl:pc.C.length≤62)(hf:∀x∈pc.C,dH x=0)(hD:cI dk.Now.length 90000 dk∧dk.Now.length≤100000):Calls Try.prog 49 #[.pointer (some ⟨gL,0,none⟩),.pointer (some ⟨gM,0,none⟩)] w fun e w' => ∃z:Value×Value×Value×Value,e = .returned (bG (((aV lg dk pc.C).2)))∧Wd w (blks [af.box gL [.pointer (some ⟨aG,0,none⟩)] 32,af.box gM [dV] 46,af.box aG [.pointer (some ⟨ap,0,none⟩),.int .i64 lg.From,.int .i64 lg.Many,.int .i64 lg.First,.int .i64 lg.Next] 85,af.box ap [ah,ak,ai,.int .i64 dk.Fuse,.bool dk.Down] 81,af.row 9 ah (dk.Kept:List ByteArray),af.row 9 ak (dk.Now:List ByteArray),af.row 83 ai (dk.Wait:List Turn)]++own) ([af.box gL [.pointer (some ⟨aG,0,none⟩)] 32,af.box gM [z.1] 46,af.box aG [.pointer (some ⟨ap,0,none⟩),.int .i64 ((lg).From),.int .i64 ((lg).Many),.int .i64 ((lg).First),.int .i64 ((lg).Next)] 85,af.box ap [z.2.1,z.2.2.1,z.2.2.2,.int .i64 ((((aV lg dk pc.C).1)).Fuse),.bool ((((aV lg dk pc.C).1)).Down)] 81,af.row 9 z.2.1 ((((aV lg dk pc.C).1)).Kept:List ByteArray),af.row 9 z.2.2.1 ((((aV lg dk pc.C).1)).Now:List ByteArray),af.row 83 z.2.2.2 ((((aV lg dk pc.C).1)).Wait:List Turn)]++[af.held w own]) [af.ls z.1 ((pc).C:List Change)] w':=by
  have cZ:=H.cap 4 rfl;have da:=H.aX 4 rfl
  have dJ:=H.cap 5 rfl;have dK:=H.aX 5 rfl
  have dc:=H.cap 6 rfl;have df:=H.aX 6 rfl
  have wI:=H.jd 0 rfl
  refine R.bY (n:=6) (vs:=[.pointer (some ⟨gL,0,none⟩),.pointer (some ⟨gM,0,none⟩)]) (B:=[af.box gL [.pointer (some ⟨aG,0,none⟩)] 32,af.box gM [dV] 46,af.box aG [.pointer (some ⟨ap,0,none⟩),.int .i64 lg.From,.int .i64 lg.Many,.int .i64 lg.First,.int .i64 lg.Next] 85,af.box ap [ah,ak,ai,.int .i64 dk.Fuse,.bool dk.Down] 81,af.row 9 ah (dk.Kept:List ByteArray),af.row 9 ak (dk.Now:List ByteArray),af.row 83 ai (dk.Wait:List Turn),af.held w own]) [(0,.pointer (some ⟨gL,0,none⟩)),(1,.pointer (some ⟨gM,0,none⟩))] Try.func49 rfl rfl rfl rfl H ?_
  refine R.reg rfl<|R.u 1 rfl<|R.nil ?_
  refine R.reg rfl<|R.q (q.ld 0 rfl rfl dq rfl) rfl<|R.q (q.ld 1 rfl rfl bX rfl) rfl<|?_
  refine R.s (B':=(fun g_:Value×Value×Value=>[af.box aG [.pointer (some ⟨ap,0,none⟩),.int .i64 ((lg).From),.int .i64 ((lg).Many),.int .i64 ((lg).First),.int .i64 ((lg).Next)] 85,af.box ap [g_.1,g_.2.1,g_.2.2,.int .i64 ((((aV lg dk pc.C).1)).Fuse),.bool ((((aV lg dk pc.C).1)).Down)] 81,af.row 9 g_.1 ((((aV lg dk pc.C).1)).Kept:List ByteArray),af.row 9 g_.2.1 ((((aV lg dk pc.C).1)).Now:List ByteArray),af.row 83 g_.2.2 ((((aV lg dk pc.C).1)).Wait:List Turn),af.box gL [.pointer (some ⟨aG,0,none⟩)] 32,af.box gM [dV] 46,af.held w own])) (F':=(fun g_:Value×Value×Value=>[af.ls dV (pc.C:List Change)])) rfl (s.bM (B0:=[af.box aG [.pointer (some ⟨ap,0,none⟩),.int .i64 lg.From,.int .i64 lg.Many,.int .i64 lg.First,.int .i64 lg.Next] 85,af.box ap [ah,ak,ai,.int .i64 dk.Fuse,.bool dk.Down] 81,af.row 9 ah (dk.Kept:List ByteArray),af.row 9 ak (dk.Now:List ByteArray),af.row 83 ai (dk.Wait:List Turn)]) (Br:=[af.box gL [.pointer (some ⟨aG,0,none⟩)] 32,af.box gM [dV] 46,af.held w own]) (F0:=[af.ls dV (pc.C:List Change)]) [2,3,4,5,6,0,1,7] [0] (fun g_:Value×Value×Value=>bG (((aV lg dk pc.C).2))) (fun g_:Value×Value×Value=>[af.box aG [.pointer (some ⟨ap,0,none⟩),.int .i64 ((lg).From),.int .i64 ((lg).Many),.int .i64 ((lg).First),.int .i64 ((lg).Next)] 85,af.box ap [g_.1,g_.2.1,g_.2.2,.int .i64 ((((aV lg dk pc.C).1)).Fuse),.bool ((((aV lg dk pc.C).1)).Down)] 81,af.row 9 g_.1 ((((aV lg dk pc.C).1)).Kept:List ByteArray),af.row 9 g_.2.1 ((((aV lg dk pc.C).1)).Now:List ByteArray),af.row 83 g_.2.2 ((((aV lg dk pc.C).1)).Wait:List Turn)]) (fun g_:Value×Value×Value=>[]) rfl rfl rfl xY rfl rfl (fun w own hw H=>vd aG  (lg) dV (pc.C) ap ah ak ai (dk) w own H (by first|assumption|omega|(dsimp only;omega)) (by omega) (by assumption) (by first|assumption|exact ⟨by assumption,by omega⟩)) rfl) ?_
  rintro ⟨z1,z2,z3⟩
  dsimp only
  refine R.u 1 rfl<|R.nil ?_
  have hz:((),pc,lg,(aV lg dk pc.C).1,(aV lg dk pc.C).2)=((),pc,lg,((aV lg dk pc.C).1),(aV lg dk pc.C).2):=by (rfl)
  exact R.w1 (dV,z1,z2,z3) [5,6,0,1,2,3,4,7] [0] rfl Try.results49 (RV.tmp rfl) rfl rfl rfl rfl
theorem tK (gL:Nat)(pl:Unit)(lr:Nat)(pe:u7)(gM:Nat)(dV:Value)(pc:vT)(aG:Nat)(lg:Lg)(ap:Nat)(ah ak ai:Value)(dk:bA)(w:World)(own:List Nat)(H:Wd w (blks [af.box gL [.pointer (some ⟨aG,0,none⟩)] 32,af.box lr [.int .i64 pe.E] 3,af.box gM [dV] 46,af.box aG [.pointer (some ⟨ap,0,none⟩),.int .i64 lg.From,.int .i64 lg.Many,.int .i64 lg.First,.int .i64 lg.Next] 85,af.box ap [ah,ak,ai,.int .i64 dk.Fuse,.bool dk.Down] 81,af.row 9 ah (dk.Kept:List ByteArray),af.row 9 ak (dk.Now:List ByteArray),af.row 83 ai (dk.Wait:List Turn)]++own) ([af.box gL [.pointer (some ⟨aG,0,none⟩)] 32,af.box lr [.int .i64 pe.E] 3,af.box gM [dV] 46,af.box aG [.pointer (some ⟨ap,0,none⟩),.int .i64 lg.From,.int .i64 lg.Many,.int .i64 lg.First,.int .i64 lg.Next] 85,af.box ap [ah,ak,ai,.int .i64 dk.Fuse,.bool dk.Down] 81,af.row 9 ah (dk.Kept:List ByteArray),af.row 9 ak (dk.Now:List ByteArray),af.row 83 ai (dk.Wait:List Turn)]++[af.held w own]) [af.ls dV (pc.C:List Change)] w)(hb:0≤lg.From∧lg.From≤1000000000∧0≤lg.Next∧lg.Next≤1000000000∧0≤lg.First∧lg.First≤4000000000000000000∧0≤lg.Many∧lg.Many≤1000000000)(he:0≤pe.E∧pe.E≤2000000000)(hl:pc.C.length≤62)(hD:cI dk.Now.length 91000 dk∧dk.Now.length≤100000):Calls Try.prog 52 #[.pointer (some ⟨gL,0,none⟩),.pointer (some ⟨lr,0,none⟩),.pointer (some ⟨gM,0,none⟩)] w fun e w' => ∃z:Value×Value×Value×Value,e = .returned (bG (((aj dk (lg.From+pe.E) (bf 99 (lg.First+pe.E) (aN (pc.C.length:Int)))).2)))∧Wd w (blks [af.box gL [.pointer (some ⟨aG,0,none⟩)] 32,af.box lr [.int .i64 pe.E] 3,af.box gM [dV] 46,af.box aG [.pointer (some ⟨ap,0,none⟩),.int .i64 lg.From,.int .i64 lg.Many,.int .i64 lg.First,.int .i64 lg.Next] 85,af.box ap [ah,ak,ai,.int .i64 dk.Fuse,.bool dk.Down] 81,af.row 9 ah (dk.Kept:List ByteArray),af.row 9 ak (dk.Now:List ByteArray),af.row 83 ai (dk.Wait:List Turn)]++own) ([af.box gL [.pointer (some ⟨aG,0,none⟩)] 32,af.box lr [.int .i64 ((pe).E)] 3,af.box gM [z.1] 46,af.box aG [.pointer (some ⟨ap,0,none⟩),.int .i64 ((lg).From),.int .i64 ((lg).Many),.int .i64 ((lg).First),.int .i64 ((lg).Next)] 85,af.box ap [z.2.1,z.2.2.1,z.2.2.2,.int .i64 ((((aj dk (lg.From+pe.E) (bf 99 (lg.First+pe.E) (aN (pc.C.length:Int)))).1)).Fuse),.bool ((((aj dk (lg.From+pe.E) (bf 99 (lg.First+pe.E) (aN (pc.C.length:Int)))).1)).Down)] 81,af.row 9 z.2.1 ((((aj dk (lg.From+pe.E) (bf 99 (lg.First+pe.E) (aN (pc.C.length:Int)))).1)).Kept:List ByteArray),af.row 9 z.2.2.1 ((((aj dk (lg.From+pe.E) (bf 99 (lg.First+pe.E) (aN (pc.C.length:Int)))).1)).Now:List ByteArray),af.row 83 z.2.2.2 ((((aj dk (lg.From+pe.E) (bf 99 (lg.First+pe.E) (aN (pc.C.length:Int)))).1)).Wait:List Turn)]++[af.held w own]) [af.ls z.1 ((pc).C:List Change)] w':=by
  have cZ:=H.cap 5 rfl;have da:=H.aX 5 rfl
  have dJ:=H.cap 6 rfl;have dK:=H.aX 6 rfl
  have dc:=H.cap 7 rfl;have df:=H.aX 7 rfl
  have wI:=H.jd 0 rfl
  have p1:=hD.1.fine (by omega) (by omega)
  refine R.bY (n:=25) (vs:=[.pointer (some ⟨gL,0,none⟩),.pointer (some ⟨lr,0,none⟩),.pointer (some ⟨gM,0,none⟩)]) (B:=[af.box gL [.pointer (some ⟨aG,0,none⟩)] 32,af.box lr [.int .i64 pe.E] 3,af.box gM [dV] 46,af.box aG [.pointer (some ⟨ap,0,none⟩),.int .i64 lg.From,.int .i64 lg.Many,.int .i64 lg.First,.int .i64 lg.Next] 85,af.box ap [ah,ak,ai,.int .i64 dk.Fuse,.bool dk.Down] 81,af.row 9 ah (dk.Kept:List ByteArray),af.row 9 ak (dk.Now:List ByteArray),af.row 83 ai (dk.Wait:List Turn),af.held w own]) [(0,.pointer (some ⟨gL,0,none⟩)),(1,.pointer (some ⟨lr,0,none⟩)),(2,.pointer (some ⟨gM,0,none⟩))] Try.func52 rfl rfl rfl rfl H ?_
  refine R.reg rfl<|R.u 1 rfl<|R.nil ?_
  refine R.eX (fuel:=22) (Wd w (blks [af.box gL [.pointer (some ⟨aG,0,none⟩)] 32,af.box lr [.int .i64 pe.E] 3,af.box gM [dV] 46,af.box aG [.pointer (some ⟨ap,0,none⟩),.int .i64 lg.From,.int .i64 lg.Many,.int .i64 lg.First,.int .i64 lg.Next] 85,af.box ap [ah,ak,ai,.int .i64 dk.Fuse,.bool dk.Down] 81,af.row 9 ah (dk.Kept:List ByteArray),af.row 9 ak (dk.Now:List ByteArray),af.row 83 ai (dk.Wait:List Turn)]++own) [af.box gL [.pointer (some ⟨aG,0,none⟩)] 32,af.box lr [.int .i64 pe.E] 3,af.box gM [dV] 46,af.box aG [.pointer (some ⟨ap,0,none⟩),.int .i64 lg.From,.int .i64 lg.Many,.int .i64 lg.First,.int .i64 lg.Next] 85,af.held w own] [af.ls dV (pc.C:List Change)]) rfl mixed rfl ?_
  refine D.q (i:=0) rfl (by kernel_rfl) (fun _=>Wd.ay [0,1,2,3,8] [0] rfl rfl rfl) rfl (q.ld 0 rfl rfl dq rfl) rfl<|D.q (i:=1) rfl (by kernel_rfl) (fun _=>Wd.ay [0,1,2,3,8] [0] rfl rfl rfl) rfl (q.a7 rfl) rfl<|D.q (i:=2) rfl (by kernel_rfl) (fun _=>Wd.ay [0,1,2,3,8] [0] rfl rfl rfl) rfl (q.bz (off':=0) rfl gA rfl) rfl<|D.q (i:=3) rfl (by kernel_rfl) (fun _=>Wd.ay [0,1,2,3,8] [0] rfl rfl rfl) rfl (q.ld 3 rfl rfl eo rfl) rfl<|D.q (i:=4) rfl (by kernel_rfl) (fun _=>Wd.ay [0,1,2,3,8] [0] rfl rfl rfl) rfl (q.ld 0 rfl rfl dq rfl) rfl<|D.q (i:=5) rfl (by kernel_rfl) (fun _=>Wd.ay [0,1,2,3,8] [0] rfl rfl rfl) rfl (q.a7 rfl) rfl<|D.q (i:=6) rfl (by kernel_rfl) (fun _=>Wd.ay [0,1,2,3,8] [0] rfl rfl rfl) rfl (q.bz (off':=1) rfl jx rfl) rfl<|D.q (i:=7) rfl (by kernel_rfl) (fun _=>Wd.ay [0,1,2,3,8] [0] rfl rfl rfl) rfl (q.ld 3 rfl rfl aK rfl) rfl<|D.q (i:=8) rfl (by kernel_rfl) (fun _=>Wd.ay [0,1,2,3,8] [0] rfl rfl rfl) rfl (q.ld 1 rfl rfl aK rfl) rfl<|D.q (i:=9) rfl (by kernel_rfl) (fun _=>Wd.ay [0,1,2,3,8] [0] rfl rfl rfl) rfl (q.add (r:=lg.From+pe.E) rfl rfl (wr (by omega))) rfl<|D.q (i:=10) rfl (by kernel_rfl) (fun _=>Wd.ay [0,1,2,3,8] [0] rfl rfl rfl) rfl (q.ld 0 rfl rfl dq rfl) rfl<|D.q (i:=11) rfl (by kernel_rfl) (fun _=>Wd.ay [0,1,2,3,8] [0] rfl rfl rfl) rfl (q.a7 rfl) rfl<|D.q (i:=12) rfl (by kernel_rfl) (fun _=>Wd.ay [0,1,2,3,8] [0] rfl rfl rfl) rfl (q.bz (off':=3) rfl fy rfl) rfl<|D.q (i:=13) rfl (by kernel_rfl) (fun _=>Wd.ay [0,1,2,3,8] [0] rfl rfl rfl) rfl (q.ld 3 rfl rfl aK rfl) rfl<|D.q (i:=14) rfl (by kernel_rfl) (fun _=>Wd.ay [0,1,2,3,8] [0] rfl rfl rfl) rfl (q.ld 1 rfl rfl aK rfl) rfl<|D.q (i:=15) rfl (by kernel_rfl) (fun _=>Wd.ay [0,1,2,3,8] [0] rfl rfl rfl) rfl (q.add (r:=lg.First+pe.E) rfl rfl (wr (by omega))) rfl<|D.q (i:=16) rfl (by kernel_rfl) (fun _=>Wd.ay [0,1,2,3,8] [0] rfl rfl rfl) rfl (q.ld 2 rfl rfl bX rfl) rfl<|D.q (i:=17) rfl (by kernel_rfl) (fun _=>Wd.ay [0,1,2,3,8] [0] rfl rfl rfl) rfl (q.len' (fun _=>Wd.bV 0 rfl) rfl Try.underlying46) rfl<|?_
  refine D.one (i:=18) (by kernel_rfl) rfl ?_
  refine Do.s (s.c (q.call dI rfl rfl (fun w hw=>(bO ((pc.C.length:Int)) w  (by omega)))) rfl) (fun _=>(fun _=>Wd.ay [0,1,2,3,8] [0] rfl rfl rfl)) rfl fun _=>?_
  refine D.one (i:=19) (by kernel_rfl) rfl ?_
  refine Do.s (s.c (q.call vL rfl rfl (fun w hw=>(pj (99) ((lg.First+pe.E)) (aN (pc.C.length:Int)) w  (by decide) (by omega) (by first|omega|assumption|(rw [au];decide))))) rfl) (fun _=>(fun _=>Wd.ay [0,1,2,3,8] [0] rfl rfl rfl)) rfl fun _=>?_
  refine D.one (i:=20) (by kernel_rfl) rfl ?_
  refine Do.s (B':=(fun g_:Value×Value×Value=>[af.box ap [g_.1,g_.2.1,g_.2.2,.int .i64 ((((aj dk (lg.From+pe.E) (bf 99 (lg.First+pe.E) (aN (pc.C.length:Int))))).1).Fuse),.bool ((((aj dk (lg.From+pe.E) (bf 99 (lg.First+pe.E) (aN (pc.C.length:Int))))).1).Down)] 81,af.row 9 g_.1 ((((aj dk (lg.From+pe.E) (bf 99 (lg.First+pe.E) (aN (pc.C.length:Int))))).1).Kept:List ByteArray),af.row 9 g_.2.1 ((((aj dk (lg.From+pe.E) (bf 99 (lg.First+pe.E) (aN (pc.C.length:Int))))).1).Now:List ByteArray),af.row 83 g_.2.2 ((((aj dk (lg.From+pe.E) (bf 99 (lg.First+pe.E) (aN (pc.C.length:Int))))).1).Wait:List Turn),af.box gL [.pointer (some ⟨aG,0,none⟩)] 32,af.box lr [.int .i64 pe.E] 3,af.box gM [dV] 46,af.box aG [.pointer (some ⟨ap,0,none⟩),.int .i64 lg.From,.int .i64 lg.Many,.int .i64 lg.First,.int .i64 lg.Next] 85,af.held w own])) (F':=(fun g_:Value×Value×Value=>[af.ls dV (pc.C:List Change)])) (s.bM (B0:=[af.box ap [ah,ak,ai,.int .i64 dk.Fuse,.bool dk.Down] 81,af.row 9 ah (dk.Kept:List ByteArray),af.row 9 ak (dk.Now:List ByteArray),af.row 83 ai (dk.Wait:List Turn)]) (Br:=[af.box gL [.pointer (some ⟨aG,0,none⟩)] 32,af.box lr [.int .i64 pe.E] 3,af.box gM [dV] 46,af.box aG [.pointer (some ⟨ap,0,none⟩),.int .i64 lg.From,.int .i64 lg.Many,.int .i64 lg.First,.int .i64 lg.Next] 85,af.held w own]) (F0:=[]) [4,5,6,7,0,1,2,3,8] [] (fun g_:Value×Value×Value=>bG (((aj dk (lg.From+pe.E) (bf 99 (lg.First+pe.E) (aN (pc.C.length:Int))))).2)) (fun g_:Value×Value×Value=>[af.box ap [g_.1,g_.2.1,g_.2.2,.int .i64 ((((aj dk (lg.From+pe.E) (bf 99 (lg.First+pe.E) (aN (pc.C.length:Int))))).1).Fuse),.bool ((((aj dk (lg.From+pe.E) (bf 99 (lg.First+pe.E) (aN (pc.C.length:Int))))).1).Down)] 81,af.row 9 g_.1 ((((aj dk (lg.From+pe.E) (bf 99 (lg.First+pe.E) (aN (pc.C.length:Int))))).1).Kept:List ByteArray),af.row 9 g_.2.1 ((((aj dk (lg.From+pe.E) (bf 99 (lg.First+pe.E) (aN (pc.C.length:Int))))).1).Now:List ByteArray),af.row 83 g_.2.2 ((((aj dk (lg.From+pe.E) (bf 99 (lg.First+pe.E) (aN (pc.C.length:Int))))).1).Wait:List Turn)]) (fun g_:Value×Value×Value=>[]) rfl rfl rfl kT rfl rfl (fun w own hw H=>ea ap ah ak ai (dk) ((lg.From+pe.E)) (bf 99 (lg.First+pe.E) (aN (pc.C.length:Int))) w own H (by first|assumption|omega)) rfl) (fun _=>(fun _=>Wd.ay [4,5,6,7,8] [0] rfl rfl rfl)) rfl ?_
  rintro ⟨z4,z5,z6⟩
  dsimp only
  refine D.q (i:=21) rfl (by kernel_rfl) (fun _=>Wd.ay [4,5,6,7,8] [0] rfl rfl rfl) rfl (q.as rfl) rfl<|D.done (by kernel_rfl)<|?_
  have hz:((),pe,pc,lg,(aj dk (lg.From+pe.E) (bf 99 (lg.First+pe.E) (aN (pc.C.length:Int)))).1,(aj dk (lg.From+pe.E) (bf 99 (lg.First+pe.E) (aN (pc.C.length:Int)))).2)=((),pe,pc,lg,((aj dk (lg.From+pe.E) (bf 99 (lg.First+pe.E) (aN (pc.C.length:Int)))).1),(aj dk (lg.From+pe.E) (bf 99 (lg.First+pe.E) (aN (pc.C.length:Int)))).2):=by (rfl)
  exact R.w1 (dV,z4,z5,z6) [4,5,6,7,0,1,2,3,8] [0] rfl Try.results52 (RV.tmp rfl) rfl rfl rfl rfl
set_option maxHeartbeats 1600000 in
theorem rm (aG:Nat)(lg:Lg)(jW:Value)(c:List Change)(ap:Nat)(ah ak ai:Value)(dk:bA)(w:World)(own:List Nat)(H:Wd w (blks [af.box aG [.pointer (some ⟨ap,0,none⟩),.int .i64 lg.From,.int .i64 lg.Many,.int .i64 lg.First,.int .i64 lg.Next] 85,af.box ap [ah,ak,ai,.int .i64 dk.Fuse,.bool dk.Down] 81,af.row 9 ah (dk.Kept:List ByteArray),af.row 9 ak (dk.Now:List ByteArray),af.row 83 ai (dk.Wait:List Turn)]++own) ([af.box aG [.pointer (some ⟨ap,0,none⟩),.int .i64 lg.From,.int .i64 lg.Many,.int .i64 lg.First,.int .i64 lg.Next] 85,af.box ap [ah,ak,ai,.int .i64 dk.Fuse,.bool dk.Down] 81,af.row 9 ah (dk.Kept:List ByteArray),af.row 9 ak (dk.Now:List ByteArray),af.row 83 ai (dk.Wait:List Turn)]++[af.held w own]) [af.ls jW (c:List Change)] w)(hb:0≤lg.From∧lg.From≤1000000000∧0≤lg.Next∧lg.Next≤1000000000∧0≤lg.First∧lg.First≤4000000000000000000∧0≤lg.Many∧lg.Many≤1000000000)(hD:cI dk.Now.length 80000 dk∧dk.Now.length≤100000):Calls Try.prog 20 #[.pointer (some ⟨aG,0,none⟩),jW] w fun e w' => ∃z:Value×Value×Value,e = .returned (bG (((aR lg dk c)).2.2))∧Wd w (blks [af.box aG [.pointer (some ⟨ap,0,none⟩),.int .i64 lg.From,.int .i64 lg.Many,.int .i64 lg.First,.int .i64 lg.Next] 85,af.box ap [ah,ak,ai,.int .i64 dk.Fuse,.bool dk.Down] 81,af.row 9 ah (dk.Kept:List ByteArray),af.row 9 ak (dk.Now:List ByteArray),af.row 83 ai (dk.Wait:List Turn)]++own) ([af.box aG [.pointer (some ⟨ap,0,none⟩),.int .i64 ((((aR lg dk c)).1).From),.int .i64 ((((aR lg dk c)).1).Many),.int .i64 ((((aR lg dk c)).1).First),.int .i64 ((((aR lg dk c)).1).Next)] 85,af.box ap [z.1,z.2.1,z.2.2,.int .i64 ((((aR lg dk c)).2.1).Fuse),.bool ((((aR lg dk c)).2.1).Down)] 81,af.row 9 z.1 ((((aR lg dk c)).2.1).Kept:List ByteArray),af.row 9 z.2.1 ((((aR lg dk c)).2.1).Now:List ByteArray),af.row 83 z.2.2 ((((aR lg dk c)).2.1).Wait:List Turn)]++[af.held w own]) [] w':=by
  have cZ:=H.cap 2 rfl;have da:=H.aX 2 rfl
  have dJ:=H.cap 3 rfl;have dK:=H.aX 3 rfl
  have dc:=H.cap 4 rfl;have df:=H.aX 4 rfl
  have Ax:=H.jd 0 rfl
  refine R.bY (n:=71) (vs:=[.pointer (some ⟨aG,0,none⟩),jW]) (B:=[af.box aG [.pointer (some ⟨ap,0,none⟩),.int .i64 lg.From,.int .i64 lg.Many,.int .i64 lg.First,.int .i64 lg.Next] 85,af.box ap [ah,ak,ai,.int .i64 dk.Fuse,.bool dk.Down] 81,af.row 9 ah (dk.Kept:List ByteArray),af.row 9 ak (dk.Now:List ByteArray),af.row 83 ai (dk.Wait:List Turn),af.held w own]) [(0,.pointer (some ⟨aG,0,none⟩)),(1,jW)] Try.func20 rfl rfl rfl rfl H ?_
  refine R.reg rfl<|?_
  refine R.s rfl (s.box (cs:=[.pointer (some ⟨aG,0,none⟩)]) rfl rfl rfl) fun b1=>?_
  refine R.s rfl (s.xF (cs:=[jW]) rfl (fun w hw=>Sl.dX ((fun _=>Wd.bV 0 rfl) w hw)) rfl) fun b2=>?_
  refine R.u 1 rfl<|R.nil ?_
  refine R.reg rfl<|R.q (q.ld 0 rfl rfl bX rfl) rfl<|R.q (q.len' (fun _=>Wd.bV 0 rfl) rfl Try.underlying46) rfl<|?_
  by_cases h1:62<c.length
  ·
    refine R.q (q.gtr rfl rfl (decide_eq_true (by omega))) rfl<|R.nil ?_
    refine R.aF rfl rfl ?_
    refine R.reg rfl<|R.q (q.iface rfl cm) rfl<|R.u 1 rfl<|R.nil ?_
    have hz:aR lg dk c=(lg,dk,2):=by (exact tG (by assumption))
    rw [hz]
    exact R.w1 (ah,ak,ai) [2,3,4,5,6,7] [] rfl Try.results20 (RV.tmp rfl) rfl rfl rfl (fu (by decide) rfl)
  ·
    refine R.q (q.gtr rfl rfl (decide_eq_false (by omega))) rfl<|R.nil ?_
    refine R.aH rfl rfl ?_
    by_cases h2:lg.Many-lg.Next<((c.length+1):Int)
    ·
      refine R.dC rfl mixed (by kernel_rfl)<|Q.q (q.ld 0 rfl rfl bX rfl) rfl<|Q.q (q.len' (fun _=>Wd.bV 0 rfl) rfl Try.underlying46) rfl<|Q.q (q.add (r:=((c.length+1:Nat):Int)) rfl rfl (wr (by omega))) rfl<|Q.q (q.ld 1 rfl rfl dq rfl) rfl<|Q.c (q.call qM rfl rfl (fun w hw=>(ku aG  ap (lg) w (hw.b 2 rfl) (by first|assumption|omega|(dsimp only;omega))))) rfl<|Q.q (q.gtr rfl rfl (decide_eq_true (by omega))) rfl<|Q.nil ?_
      refine R.aF rfl rfl ?_
      refine R.reg rfl<|R.q (q.iface rfl cm) rfl<|R.u 1 rfl<|R.nil ?_
      have hz:aR lg dk c=(lg,dk,9):=by (exact tH (by omega) (by omega))
      rw [hz]
      exact R.w1 (ah,ak,ai) [2,3,4,5,6,7] [] rfl Try.results20 (RV.tmp rfl) rfl rfl rfl (fu (by decide) rfl)
    ·
      refine R.dC rfl mixed (by kernel_rfl)<|Q.q (q.ld 0 rfl rfl bX rfl) rfl<|Q.q (q.len' (fun _=>Wd.bV 0 rfl) rfl Try.underlying46) rfl<|Q.q (q.add (r:=((c.length+1:Nat):Int)) rfl rfl (wr (by omega))) rfl<|Q.q (q.ld 1 rfl rfl dq rfl) rfl<|Q.c (q.call qM rfl rfl (fun w hw=>(ku aG  ap (lg) w (hw.b 2 rfl) (by first|assumption|omega|(dsimp only;omega))))) rfl<|Q.q (q.gtr rfl rfl (decide_eq_false (by omega))) rfl<|Q.nil ?_
      refine R.aH rfl rfl ?_
      refine R.reg rfl<|R.q (q.ld 0 rfl rfl bX rfl) rfl<|R.q (q.len' (fun _=>Wd.bV 0 rfl) rfl Try.underlying46) rfl<|R.u 1 rfl<|R.nil ?_
      refine R.loop (fun i:Nat=>[(2,.pointer (some ⟨b1,0,none⟩)),(3,.pointer (some ⟨b2,0,none⟩)),(23,jW),(24,.int .i64 (c.length:Int)),(25,.int .i64 (i:Int))]) (fun i:Nat=>[af.box b2 [jW] 46,af.box b1 [.pointer (some ⟨aG,0,none⟩)] 32,af.box aG [.pointer (some ⟨ap,0,none⟩),.int .i64 lg.From,.int .i64 lg.Many,.int .i64 lg.First,.int .i64 lg.Next] 85,af.box ap [ah,ak,ai,.int .i64 dk.Fuse,.bool dk.Down] 81,af.row 9 ah (dk.Kept:List ByteArray),af.row 9 ak (dk.Now:List ByteArray),af.row 83 ai (dk.Wait:List Turn),af.held w own]) (fun i:Nat=>[af.ls jW (c:List Change)]) (fun i:Nat=>i≤c.length∧dF (c.drop i)=dF c) (fun i:Nat=>c.length-i) 0 rfl (by exact ⟨by omega,rfl⟩) ⟨rfl,rfl,rfl,rfl,rfl,trivial⟩ (fun _=>Wd.pick [0,1,2,3,4,5,6,7] [0] rfl rfl rfl) ?_
      rintro i ⟨hi,HL⟩
      refine R.reg rfl<|?_
      by_cases h3:i<c.length
      ·
        refine R.q (q.lss rfl rfl (decide_eq_true (by omega))) rfl<|R.nil ?_
        refine R.aF rfl rfl ?_
        refine R.reg rfl<|?_
        obtain ⟨x1,hx1⟩:∃z,c[i]? = some z:=⟨_,List.getElem?_eq_getElem (by omega)⟩
        have xe:=aS x1
        refine R.q (q.idx (i:=i) (fun _=>Wd.bV 0 rfl) rfl rfl aU rfl hx1) rfl<|R.q (q.iX (ds:=[.string x1.Key,.string x1.Val,.bool x1.Gone]) (fun _=>Wd.bV 0 rfl) hx1 rfl aY rfl) rfl<|?_
        refine R.s rfl (s.alloc (cs:=[.string (⟨#[]⟩),.string (⟨#[]⟩),.bool false]) bT rfl rfl) fun b3=>?_
        refine R.s rfl (s.st (us:=[.string x1.Key,.string x1.Val,.bool x1.Gone]) (cs':=[.string x1.Key,.string x1.Val,.bool x1.Gone]) 0 _ rfl rfl rfl rfl (.inl aY) rfl rfl rfl rfl) fun _=>?_
        refine R.nil ?_
        refine R.reg rfl<|R.q (q.mO 0 rfl rfl aY) rfl<|R.c (q.call nj rfl rfl (fun w hw=>(ey (x1) w  ))) rfl<|R.u 1 rfl<|R.nil ?_
        refine R.reg rfl<|R.u 1 rfl<|?_
        by_cases h4:dH x1=0
        ·
          refine R.q (q.dx rfl rfl Try.underlying28 (by omega)) rfl<|R.nil ?_
          refine R.aH rfl rfl ?_
          refine R.reg rfl<|R.q (q.add (r:=((i+1:Nat):Int)) rfl rfl (wr (by omega))) rfl<|R.u 1 rfl<|R.nil ?_
          refine R.back (i+1) rfl (by (exact ⟨by omega,rl HL hx1 (by omega)⟩)) (by omega) ⟨rfl,rfl,rfl,rfl,rfl,trivial⟩ (fun _=>Wd.ay [1,2,3,4,5,6,7,8] [0] rfl rfl rfl)
        ·
          refine R.q (q.e8 rfl rfl Try.underlying28 (by omega)) rfl<|R.nil ?_
          refine R.aF rfl rfl ?_
          refine R.reg rfl<|R.u 2 rfl<|R.nil ?_
          have hz:aR lg dk c=(lg,dk,dH x1):=by (exact rY (by assumption) (by omega) (lz HL hx1 (by assumption)) (by assumption))
          rw [hz]
          exact R.w1 (ah,ak,ai) [3,4,5,6,7,8] [] rfl Try.results20 (RV.tmp rfl) rfl rfl rfl rfl
      ·
        refine R.q (q.lss rfl rfl (decide_eq_false (by omega))) rfl<|R.nil ?_
        refine R.aH rfl rfl ?_
        have g0:dF c=0:=p8 HL (by omega);have g1:=oB (lg:=lg) (by assumption) (by omega) g0;have g2:=jC g0
        refine R.eX (fuel:=9) (Wd w (blks [af.box aG [.pointer (some ⟨ap,0,none⟩),.int .i64 lg.From,.int .i64 lg.Many,.int .i64 lg.First,.int .i64 lg.Next] 85,af.box ap [ah,ak,ai,.int .i64 dk.Fuse,.bool dk.Down] 81,af.row 9 ah (dk.Kept:List ByteArray),af.row 9 ak (dk.Now:List ByteArray),af.row 83 ai (dk.Wait:List Turn)]++own) [af.box b2 [jW] 46,af.box b1 [.pointer (some ⟨aG,0,none⟩)] 32,af.box aG [.pointer (some ⟨ap,0,none⟩),.int .i64 lg.From,.int .i64 lg.Many,.int .i64 lg.First,.int .i64 lg.Next] 85,af.box ap [ah,ak,ai,.int .i64 dk.Fuse,.bool dk.Down] 81,af.row 9 ah (dk.Kept:List ByteArray),af.row 9 ak (dk.Now:List ByteArray),af.row 83 ai (dk.Wait:List Turn),af.held w own] [af.ls jW (c:List Change)]) rfl mixed rfl ?_
        refine D.q (i:=0) rfl (by kernel_rfl) (fun _=>Wd.ay [0,1,2,3,4,5,6,7] [0] rfl rfl rfl) rfl (q.ld 1 rfl rfl dq rfl) rfl<|D.q (i:=1) rfl (by kernel_rfl) (fun _=>Wd.ay [0,1,2,3,4,5,6,7] [0] rfl rfl rfl) rfl (q.a7 rfl) rfl<|D.q (i:=2) rfl (by kernel_rfl) (fun _=>Wd.ay [0,1,2,3,4,5,6,7] [0] rfl rfl rfl) rfl (q.bz (off':=4) rfl fA rfl) rfl<|D.q (i:=3) rfl (by kernel_rfl) (fun _=>Wd.ay [0,1,2,3,4,5,6,7] [0] rfl rfl rfl) rfl (q.ld 2 rfl rfl aK rfl) rfl<|D.q (i:=4) rfl (by kernel_rfl) (fun _=>Wd.ay [0,1,2,3,4,5,6,7] [0] rfl rfl rfl) rfl (q.ld 0 rfl rfl bX rfl) rfl<|D.q (i:=5) rfl (by kernel_rfl) (fun _=>Wd.ay [0,1,2,3,4,5,6,7] [0] rfl rfl rfl) rfl (q.len' (fun _=>Wd.bV 0 rfl) rfl Try.underlying46) rfl<|D.q (i:=6) rfl (by kernel_rfl) (fun _=>Wd.ay [0,1,2,3,4,5,6,7] [0] rfl rfl rfl) rfl (q.add (r:=lg.Next+(c.length:Int)) rfl rfl (wr (by omega))) rfl<|?_
        refine D.one (i:=7) (by kernel_rfl) rfl ?_
        refine Do.s (s.alloc (cs:=[.int .i64 0]) qF rfl rfl) (fun _=>(fun _=>Wd.ay [1,2,3,4,5,6,7,8] [0] rfl rfl rfl)) rfl fun b4=>?_
        refine D.one (i:=8) (by kernel_rfl) rfl ?_
        refine Do.s (s.st (us:=[.int .i64 (lg.Next+(c.length:Int))]) (cs':=[.int .i64 (lg.Next+(c.length:Int))]) 0 _ rfl rfl rfl rfl (.inr ⟨aK,rfl⟩) rfl rfl rfl rfl) (fun _=>(fun _=>Wd.ay [1,2,3,4,5,6,7,8] [0] rfl rfl rfl)) rfl fun _=>?_
        refine D.done (by kernel_rfl)<|?_
        have a0:cI dk.Now.length 90000 dk∧dk.Now.length≤100000:=⟨hD.1.up (by omega),hD.2⟩;have a2:cI dk.Now.length 90000 ((aV lg dk c).1):=(oA (lg:=lg) (c:=c) hD.1).up (by omega);have n2:=a2.nl;have q2:=a2.fine (by omega) (by omega)
        have a3:cI dk.Now.length 90000 ((ag ((aV lg dk c).1)).1):=a2.flush;have n3:((ag ((aV lg dk c).1)).1).Now.length=dk.Now.length:=a3.nl;have q3:cI ((ag ((aV lg dk c).1)).1).Now.length 91000 ((ag ((aV lg dk c).1)).1)∧((ag ((aV lg dk c).1)).1).Now.length≤100000:=⟨n3▸a3.up (by omega),by omega⟩
        have a4:cI dk.Now.length 90001 ((aj ((ag ((aV lg dk c).1)).1) (lg.From+(lg.Next+(c.length:Int))) (bf 99 (lg.First+(lg.Next+(c.length:Int))) (aN (c.length:Int)))).1):=a3.write _ _;have n4:=a4.nl;have q4:=a4.fine (by omega) (by omega)
        refine R.eX (fuel:=15) (Wd w (blks [af.box aG [.pointer (some ⟨ap,0,none⟩),.int .i64 lg.From,.int .i64 lg.Many,.int .i64 lg.First,.int .i64 lg.Next] 85,af.box ap [ah,ak,ai,.int .i64 dk.Fuse,.bool dk.Down] 81,af.row 9 ah (dk.Kept:List ByteArray),af.row 9 ak (dk.Now:List ByteArray),af.row 83 ai (dk.Wait:List Turn)]++own) [af.box b4 [.int .i64 (lg.Next+(c.length:Int))] 3,af.box b2 [jW] 46,af.box b1 [.pointer (some ⟨aG,0,none⟩)] 32,af.box aG [.pointer (some ⟨ap,0,none⟩),.int .i64 lg.From,.int .i64 lg.Many,.int .i64 lg.First,.int .i64 lg.Next] 85,af.box ap [ah,ak,ai,.int .i64 dk.Fuse,.bool dk.Down] 81,af.row 9 ah (dk.Kept:List ByteArray),af.row 9 ak (dk.Now:List ByteArray),af.row 83 ai (dk.Wait:List Turn),af.held w own] [af.ls jW (c:List Change)]) rfl mixed rfl ?_
        refine D.q (i:=0) rfl (by kernel_rfl) (fun _=>Wd.ay [0,1,2,3,4,5,6,7,8] [0] rfl rfl rfl) rfl (q.y9 (cap:=[.pointer (some ⟨b1,0,none⟩),.pointer (some ⟨b2,0,none⟩)]) rfl rfl) rfl<|D.q (i:=1) rfl (by kernel_rfl) (fun _=>Wd.ay [0,1,2,3,4,5,6,7,8] [0] rfl rfl rfl) rfl (q.ld 2 rfl rfl dq rfl) rfl<|D.q (i:=2) rfl (by kernel_rfl) (fun _=>Wd.ay [0,1,2,3,4,5,6,7,8] [0] rfl rfl rfl) rfl (q.a7 rfl) rfl<|D.q (i:=3) rfl (by kernel_rfl) (fun _=>Wd.ay [0,1,2,3,4,5,6,7,8] [0] rfl rfl rfl) rfl (q.bz (off':=0) rfl gA rfl) rfl<|D.q (i:=4) rfl (by kernel_rfl) (fun _=>Wd.ay [0,1,2,3,4,5,6,7,8] [0] rfl rfl rfl) rfl (q.ld 3 rfl rfl eo rfl) rfl<|D.q (i:=5) rfl (by kernel_rfl) (fun _=>Wd.ay [0,1,2,3,4,5,6,7,8] [0] rfl rfl rfl) rfl (q.yq (bnd:=[.pointer (some ⟨ap,0,none⟩)]) (cap:=[]) rfl rfl) rfl<|D.q (i:=6) rfl (by kernel_rfl) (fun _=>Wd.ay [0,1,2,3,4,5,6,7,8] [0] rfl rfl rfl) rfl (q.y9 (cap:=[.pointer (some ⟨b1,0,none⟩),.pointer (some ⟨b4,0,none⟩),.pointer (some ⟨b2,0,none⟩)]) rfl rfl) rfl<|D.q (i:=7) rfl (by kernel_rfl) (fun _=>Wd.ay [0,1,2,3,4,5,6,7,8] [0] rfl rfl rfl) rfl (q.ld 2 rfl rfl dq rfl) rfl<|D.q (i:=8) rfl (by kernel_rfl) (fun _=>Wd.ay [0,1,2,3,4,5,6,7,8] [0] rfl rfl rfl) rfl (q.a7 rfl) rfl<|D.q (i:=9) rfl (by kernel_rfl) (fun _=>Wd.ay [0,1,2,3,4,5,6,7,8] [0] rfl rfl rfl) rfl (q.bz (off':=0) rfl gA rfl) rfl<|D.q (i:=10) rfl (by kernel_rfl) (fun _=>Wd.ay [0,1,2,3,4,5,6,7,8] [0] rfl rfl rfl) rfl (q.ld 3 rfl rfl eo rfl) rfl<|D.q (i:=11) rfl (by kernel_rfl) (fun _=>Wd.ay [0,1,2,3,4,5,6,7,8] [0] rfl rfl rfl) rfl (q.yq (bnd:=[.pointer (some ⟨ap,0,none⟩)]) (cap:=[]) rfl rfl) rfl<|D.q (i:=14) rfl (by kernel_rfl) (fun _=>Wd.ay [0,1,2,3,4,5,6,7,8] [0] rfl rfl rfl) rfl (q.mv rfl) rfl<|?_
        refine D.one (i:=12) (by kernel_rfl) rfl ?_
        refine Do.s (s.bs (l:=(([(⟨.func 49,#[],#[.pointer (some ⟨b1,0,none⟩),.pointer (some ⟨b2,0,none⟩)]⟩:eY),(⟨.func 51,#[.pointer (some ⟨ap,0,none⟩)],#[]⟩:eY),(⟨.func 52,#[],#[.pointer (some ⟨b1,0,none⟩),.pointer (some ⟨b4,0,none⟩),.pointer (some ⟨b2,0,none⟩)]⟩:eY),(⟨.func 51,#[.pointer (some ⟨ap,0,none⟩)],#[]⟩:eY)]):List eY)) lR sY rfl rfl rfl rfl rfl rfl rfl) (fun _=>(fun _=>Wd.ay [1,2,3,4,5,6,7,8,9] [0] rfl rfl rfl)) rfl fun b5=>?_
        refine D.one (i:=13) (by kernel_rfl) rfl ?_
        refine Do.s (s.c (Qt.a (q.xG (v:= .int .i64 ((List.length ([(⟨.func 49,#[],#[.pointer (some ⟨b1,0,none⟩),.pointer (some ⟨b2,0,none⟩)]⟩:eY),(⟨.func 51,#[.pointer (some ⟨ap,0,none⟩)],#[]⟩:eY),(⟨.func 52,#[],#[.pointer (some ⟨b1,0,none⟩),.pointer (some ⟨b4,0,none⟩),.pointer (some ⟨b2,0,none⟩)]⟩:eY),(⟨.func 51,#[.pointer (some ⟨ap,0,none⟩)],#[]⟩:eY)]):Nat):Int)) (v':= .int .i64 4) rfl (q.len' (l:=([(⟨.func 49,#[],#[.pointer (some ⟨b1,0,none⟩),.pointer (some ⟨b2,0,none⟩)]⟩:eY),(⟨.func 51,#[.pointer (some ⟨ap,0,none⟩)],#[]⟩:eY),(⟨.func 52,#[],#[.pointer (some ⟨b1,0,none⟩),.pointer (some ⟨b4,0,none⟩),.pointer (some ⟨b2,0,none⟩)]⟩:eY),(⟨.func 51,#[.pointer (some ⟨ap,0,none⟩)],#[]⟩:eY)])) (fun _=>Wd.row 0 rfl) rfl Try.underlying96))) rfl) (fun _=>(fun _=>Wd.ay [1,2,3,4,5,6,7,8,9] [0] rfl rfl rfl)) rfl fun _=>?_
        refine D.done (by kernel_rfl)<|?_
        refine R.wa 4 rfl ?_
        refine R.reg rfl<|R.q (q.lss (b:=true) rfl rfl (by decide)) rfl<|R.nil ?_
        refine R.aF rfl rfl ?_
        refine R.reg rfl<|R.q (q.idx (i:=0) (fun _=>Wd.row 0 rfl) rfl rfl lR rfl rfl) rfl<|R.q (q.u6 (x:=(⟨.func 49,#[],#[.pointer (some ⟨b1,0,none⟩),.pointer (some ⟨b2,0,none⟩)]⟩:eY)) rfl (q.jS (fun _=>Wd.row 0 rfl) rfl rfl lw rfl)) rfl<|R.u 1 rfl<|R.nil ?_
        refine R.reg rfl<|R.u 1 rfl<|?_
        refine R.s (B':=(fun g_:Value×Value×Value×Value=>[af.box b1 [.pointer (some ⟨aG,0,none⟩)] 32,af.box b2 [g_.1] 46,af.box aG [.pointer (some ⟨ap,0,none⟩),.int .i64 ((lg).From),.int .i64 ((lg).Many),.int .i64 ((lg).First),.int .i64 ((lg).Next)] 85,af.box ap [g_.2.1,g_.2.2.1,g_.2.2.2,.int .i64 ((((aV lg dk c).1)).Fuse),.bool ((((aV lg dk c).1)).Down)] 81,af.row 9 g_.2.1 ((((aV lg dk c).1)).Kept:List ByteArray),af.row 9 g_.2.2.1 ((((aV lg dk c).1)).Now:List ByteArray),af.row 83 g_.2.2.2 ((((aV lg dk c).1)).Wait:List Turn),af.row 62 (.slice (some ⟨b5,0,none⟩) 4 4) (([(⟨.func 49,#[],#[.pointer (some ⟨b1,0,none⟩),.pointer (some ⟨b2,0,none⟩)]⟩:eY),(⟨.func 51,#[.pointer (some ⟨ap,0,none⟩)],#[]⟩:eY),(⟨.func 52,#[],#[.pointer (some ⟨b1,0,none⟩),.pointer (some ⟨b4,0,none⟩),.pointer (some ⟨b2,0,none⟩)]⟩:eY),(⟨.func 51,#[.pointer (some ⟨ap,0,none⟩)],#[]⟩:eY)]):List eY),af.box b4 [.int .i64 (lg.Next+(c.length:Int))] 3,af.held w own])) (F':=(fun g_:Value×Value×Value×Value=>[af.ls g_.1 (((⟨c⟩:vT)).C:List Change),af.ls jW (c:List Change)])) rfl (s.bM (B0:=[af.box b1 [.pointer (some ⟨aG,0,none⟩)] 32,af.box b2 [jW] 46,af.box aG [.pointer (some ⟨ap,0,none⟩),.int .i64 lg.From,.int .i64 lg.Many,.int .i64 lg.First,.int .i64 lg.Next] 85,af.box ap [ah,ak,ai,.int .i64 dk.Fuse,.bool dk.Down] 81,af.row 9 ah (dk.Kept:List ByteArray),af.row 9 ak (dk.Now:List ByteArray),af.row 83 ai (dk.Wait:List Turn)]) (Br:=[af.row 62 (.slice (some ⟨b5,0,none⟩) 4 4) (([(⟨.func 49,#[],#[.pointer (some ⟨b1,0,none⟩),.pointer (some ⟨b2,0,none⟩)]⟩:eY),(⟨.func 51,#[.pointer (some ⟨ap,0,none⟩)],#[]⟩:eY),(⟨.func 52,#[],#[.pointer (some ⟨b1,0,none⟩),.pointer (some ⟨b4,0,none⟩),.pointer (some ⟨b2,0,none⟩)]⟩:eY),(⟨.func 51,#[.pointer (some ⟨ap,0,none⟩)],#[]⟩:eY)]):List eY),af.box b4 [.int .i64 (lg.Next+(c.length:Int))] 3,af.held w own]) (F0:=[af.ls jW (c:List Change)]) [3,2,4,5,6,7,8,0,1,9] [0] (fun g_:Value×Value×Value×Value=>bG (((aV lg dk c).2))) (fun g_:Value×Value×Value×Value=>[af.box b1 [.pointer (some ⟨aG,0,none⟩)] 32,af.box b2 [g_.1] 46,af.box aG [.pointer (some ⟨ap,0,none⟩),.int .i64 ((lg).From),.int .i64 ((lg).Many),.int .i64 ((lg).First),.int .i64 ((lg).Next)] 85,af.box ap [g_.2.1,g_.2.2.1,g_.2.2.2,.int .i64 ((((aV lg dk c).1)).Fuse),.bool ((((aV lg dk c).1)).Down)] 81,af.row 9 g_.2.1 ((((aV lg dk c).1)).Kept:List ByteArray),af.row 9 g_.2.2.1 ((((aV lg dk c).1)).Now:List ByteArray),af.row 83 g_.2.2.2 ((((aV lg dk c).1)).Wait:List Turn)]) (fun g_:Value×Value×Value×Value=>[af.ls g_.1 (((⟨c⟩:vT)).C:List Change)]) rfl rfl rfl xX rfl rfl (fun w own hw H=>tJ b1  (()) b2 jW ((⟨c⟩:vT)) aG  (lg) ap ah ak ai (dk) w own H (by first|assumption|omega|(dsimp only;omega)) (by first|omega|assumption|(dsimp only;omega)) (by assumption) (by first|assumption|exact ⟨by assumption,by omega⟩)) rfl) ?_
        rintro ⟨z1,z2,z3,z4⟩
        dsimp only
        refine R.u 1 rfl<|R.nil ?_
        refine R.reg rfl<|R.u 1 rfl<|?_
        by_cases h5:(aV lg dk c).2=0
        ·
          refine R.q (q.dx rfl rfl Try.underlying28 (by omega)) rfl<|R.nil ?_
          refine R.aH rfl rfl ?_
          refine R.reg rfl<|R.q (q.add (r:=1) rfl rfl (by decide)) rfl<|R.u 1 rfl<|R.nil ?_
          refine R.again rfl rfl ?_
          refine R.reg rfl<|R.q (q.lss (b:=true) rfl rfl (by decide)) rfl<|R.nil ?_
          refine R.aF rfl rfl ?_
          refine R.reg rfl<|R.q (q.idx (i:=1) (fun _=>Wd.row 7 rfl) rfl rfl lR rfl rfl) rfl<|R.q (q.u6 (x:=(⟨.func 51,#[.pointer (some ⟨ap,0,none⟩)],#[]⟩:eY)) rfl (q.jS (fun _=>Wd.row 7 rfl) rfl rfl lw rfl)) rfl<|R.u 1 rfl<|R.nil ?_
          refine R.reg rfl<|R.u 1 rfl<|?_
          refine R.s (B':=(fun g_:Value×Value×Value=>[af.box ap [g_.1,g_.2.1,g_.2.2,.int .i64 ((((ag ((aV lg dk c).1))).1).Fuse),.bool ((((ag ((aV lg dk c).1))).1).Down)] 81,af.row 9 g_.1 ((((ag ((aV lg dk c).1))).1).Kept:List ByteArray),af.row 9 g_.2.1 ((((ag ((aV lg dk c).1))).1).Now:List ByteArray),af.row 83 g_.2.2 ((((ag ((aV lg dk c).1))).1).Wait:List Turn),af.box b1 [.pointer (some ⟨aG,0,none⟩)] 32,af.box b2 [z1] 46,af.box aG [.pointer (some ⟨ap,0,none⟩),.int .i64 lg.From,.int .i64 lg.Many,.int .i64 lg.First,.int .i64 lg.Next] 85,af.row 62 (.slice (some ⟨b5,0,none⟩) 4 4) (([(⟨.func 49,#[],#[.pointer (some ⟨b1,0,none⟩),.pointer (some ⟨b2,0,none⟩)]⟩:eY),(⟨.func 51,#[.pointer (some ⟨ap,0,none⟩)],#[]⟩:eY),(⟨.func 52,#[],#[.pointer (some ⟨b1,0,none⟩),.pointer (some ⟨b4,0,none⟩),.pointer (some ⟨b2,0,none⟩)]⟩:eY),(⟨.func 51,#[.pointer (some ⟨ap,0,none⟩)],#[]⟩:eY)]):List eY),af.box b4 [.int .i64 (lg.Next+(c.length:Int))] 3,af.held w own])) (F':=(fun g_:Value×Value×Value=>[af.ls z1 (c:List Change),af.ls jW (c:List Change)])) rfl (s.tE (B0:=[af.box ap [z2,z3,z4,.int .i64 (((aV lg dk c).1).Fuse),.bool (((aV lg dk c).1).Down)] 81,af.row 9 z2 (((aV lg dk c).1).Kept:List ByteArray),af.row 9 z3 (((aV lg dk c).1).Now:List ByteArray),af.row 83 z4 (((aV lg dk c).1).Wait:List Turn)]) (Br:=[af.box b1 [.pointer (some ⟨aG,0,none⟩)] 32,af.box b2 [z1] 46,af.box aG [.pointer (some ⟨ap,0,none⟩),.int .i64 lg.From,.int .i64 lg.Many,.int .i64 lg.First,.int .i64 lg.Next] 85,af.row 62 (.slice (some ⟨b5,0,none⟩) 4 4) (([(⟨.func 49,#[],#[.pointer (some ⟨b1,0,none⟩),.pointer (some ⟨b2,0,none⟩)]⟩:eY),(⟨.func 51,#[.pointer (some ⟨ap,0,none⟩)],#[]⟩:eY),(⟨.func 52,#[],#[.pointer (some ⟨b1,0,none⟩),.pointer (some ⟨b4,0,none⟩),.pointer (some ⟨b2,0,none⟩)]⟩:eY),(⟨.func 51,#[.pointer (some ⟨ap,0,none⟩)],#[]⟩:eY)]):List eY),af.box b4 [.int .i64 (lg.Next+(c.length:Int))] 3,af.held w own]) (F0:=[]) [3,4,5,6,0,1,2,7,8,9] [] (fun g_:Value×Value×Value=>bG (((ag ((aV lg dk c).1))).2)) (fun g_:Value×Value×Value=>[af.box ap [g_.1,g_.2.1,g_.2.2,.int .i64 ((((ag ((aV lg dk c).1))).1).Fuse),.bool ((((ag ((aV lg dk c).1))).1).Down)] 81,af.row 9 g_.1 ((((ag ((aV lg dk c).1))).1).Kept:List ByteArray),af.row 9 g_.2.1 ((((ag ((aV lg dk c).1))).1).Now:List ByteArray),af.row 83 g_.2.2 ((((ag ((aV lg dk c).1))).1).Wait:List Turn)]) (fun g_:Value×Value×Value=>[]) rfl rfl rfl nk rfl rfl (fun w own hw H=>fE ap z2 z3 z4 (((aV lg dk c).1)) w own H (by first|assumption|omega)) rfl) ?_
          rintro ⟨z5,z6,z7⟩
          dsimp only
          refine R.u 1 rfl<|R.nil ?_
          refine R.reg rfl<|R.u 1 rfl<|?_
          by_cases h6:(ag ((aV lg dk c).1)).2=0
          ·
            refine R.q (q.dx rfl rfl Try.underlying28 (by omega)) rfl<|R.nil ?_
            refine R.aH rfl rfl ?_
            refine R.reg rfl<|R.q (q.add (r:=2) rfl rfl (by decide)) rfl<|R.u 1 rfl<|R.nil ?_
            refine R.again rfl rfl ?_
            refine R.reg rfl<|R.q (q.lss (b:=true) rfl rfl (by decide)) rfl<|R.nil ?_
            refine R.aF rfl rfl ?_
            refine R.reg rfl<|R.q (q.idx (i:=2) (fun _=>Wd.row 7 rfl) rfl rfl lR rfl rfl) rfl<|R.q (q.u6 (x:=(⟨.func 52,#[],#[.pointer (some ⟨b1,0,none⟩),.pointer (some ⟨b4,0,none⟩),.pointer (some ⟨b2,0,none⟩)]⟩:eY)) rfl (q.jS (fun _=>Wd.row 7 rfl) rfl rfl lw rfl)) rfl<|R.u 1 rfl<|R.nil ?_
            refine R.reg rfl<|R.u 1 rfl<|?_
            refine R.s (B':=(fun g_:Value×Value×Value×Value=>[af.box b1 [.pointer (some ⟨aG,0,none⟩)] 32,af.box b4 [.int .i64 (((⟨(lg.Next+(c.length:Int))⟩:u7)).E)] 3,af.box b2 [g_.1] 46,af.box aG [.pointer (some ⟨ap,0,none⟩),.int .i64 ((lg).From),.int .i64 ((lg).Many),.int .i64 ((lg).First),.int .i64 ((lg).Next)] 85,af.box ap [g_.2.1,g_.2.2.1,g_.2.2.2,.int .i64 ((((aj ((ag ((aV lg dk c).1)).1) (lg.From+(lg.Next+(c.length:Int))) (bf 99 (lg.First+(lg.Next+(c.length:Int))) (aN (c.length:Int)))).1)).Fuse),.bool ((((aj ((ag ((aV lg dk c).1)).1) (lg.From+(lg.Next+(c.length:Int))) (bf 99 (lg.First+(lg.Next+(c.length:Int))) (aN (c.length:Int)))).1)).Down)] 81,af.row 9 g_.2.1 ((((aj ((ag ((aV lg dk c).1)).1) (lg.From+(lg.Next+(c.length:Int))) (bf 99 (lg.First+(lg.Next+(c.length:Int))) (aN (c.length:Int)))).1)).Kept:List ByteArray),af.row 9 g_.2.2.1 ((((aj ((ag ((aV lg dk c).1)).1) (lg.From+(lg.Next+(c.length:Int))) (bf 99 (lg.First+(lg.Next+(c.length:Int))) (aN (c.length:Int)))).1)).Now:List ByteArray),af.row 83 g_.2.2.2 ((((aj ((ag ((aV lg dk c).1)).1) (lg.From+(lg.Next+(c.length:Int))) (bf 99 (lg.First+(lg.Next+(c.length:Int))) (aN (c.length:Int)))).1)).Wait:List Turn),af.row 62 (.slice (some ⟨b5,0,none⟩) 4 4) (([(⟨.func 49,#[],#[.pointer (some ⟨b1,0,none⟩),.pointer (some ⟨b2,0,none⟩)]⟩:eY),(⟨.func 51,#[.pointer (some ⟨ap,0,none⟩)],#[]⟩:eY),(⟨.func 52,#[],#[.pointer (some ⟨b1,0,none⟩),.pointer (some ⟨b4,0,none⟩),.pointer (some ⟨b2,0,none⟩)]⟩:eY),(⟨.func 51,#[.pointer (some ⟨ap,0,none⟩)],#[]⟩:eY)]):List eY),af.held w own])) (F':=(fun g_:Value×Value×Value×Value=>[af.ls g_.1 (((⟨c⟩:vT)).C:List Change),af.ls z1 (c:List Change),af.ls jW (c:List Change)])) rfl (s.bM (B0:=[af.box b1 [.pointer (some ⟨aG,0,none⟩)] 32,af.box b4 [.int .i64 (lg.Next+(c.length:Int))] 3,af.box b2 [z1] 46,af.box aG [.pointer (some ⟨ap,0,none⟩),.int .i64 lg.From,.int .i64 lg.Many,.int .i64 lg.First,.int .i64 lg.Next] 85,af.box ap [z5,z6,z7,.int .i64 (((ag ((aV lg dk c).1)).1).Fuse),.bool (((ag ((aV lg dk c).1)).1).Down)] 81,af.row 9 z5 (((ag ((aV lg dk c).1)).1).Kept:List ByteArray),af.row 9 z6 (((ag ((aV lg dk c).1)).1).Now:List ByteArray),af.row 83 z7 (((ag ((aV lg dk c).1)).1).Wait:List Turn)]) (Br:=[af.row 62 (.slice (some ⟨b5,0,none⟩) 4 4) (([(⟨.func 49,#[],#[.pointer (some ⟨b1,0,none⟩),.pointer (some ⟨b2,0,none⟩)]⟩:eY),(⟨.func 51,#[.pointer (some ⟨ap,0,none⟩)],#[]⟩:eY),(⟨.func 52,#[],#[.pointer (some ⟨b1,0,none⟩),.pointer (some ⟨b4,0,none⟩),.pointer (some ⟨b2,0,none⟩)]⟩:eY),(⟨.func 51,#[.pointer (some ⟨ap,0,none⟩)],#[]⟩:eY)]):List eY),af.held w own]) (F0:=[af.ls z1 (c:List Change)]) [4,8,5,6,0,1,2,3,7,9] [0] (fun g_:Value×Value×Value×Value=>bG (((aj ((ag ((aV lg dk c).1)).1) (lg.From+(lg.Next+(c.length:Int))) (bf 99 (lg.First+(lg.Next+(c.length:Int))) (aN (c.length:Int)))).2))) (fun g_:Value×Value×Value×Value=>[af.box b1 [.pointer (some ⟨aG,0,none⟩)] 32,af.box b4 [.int .i64 (((⟨(lg.Next+(c.length:Int))⟩:u7)).E)] 3,af.box b2 [g_.1] 46,af.box aG [.pointer (some ⟨ap,0,none⟩),.int .i64 ((lg).From),.int .i64 ((lg).Many),.int .i64 ((lg).First),.int .i64 ((lg).Next)] 85,af.box ap [g_.2.1,g_.2.2.1,g_.2.2.2,.int .i64 ((((aj ((ag ((aV lg dk c).1)).1) (lg.From+(lg.Next+(c.length:Int))) (bf 99 (lg.First+(lg.Next+(c.length:Int))) (aN (c.length:Int)))).1)).Fuse),.bool ((((aj ((ag ((aV lg dk c).1)).1) (lg.From+(lg.Next+(c.length:Int))) (bf 99 (lg.First+(lg.Next+(c.length:Int))) (aN (c.length:Int)))).1)).Down)] 81,af.row 9 g_.2.1 ((((aj ((ag ((aV lg dk c).1)).1) (lg.From+(lg.Next+(c.length:Int))) (bf 99 (lg.First+(lg.Next+(c.length:Int))) (aN (c.length:Int)))).1)).Kept:List ByteArray),af.row 9 g_.2.2.1 ((((aj ((ag ((aV lg dk c).1)).1) (lg.From+(lg.Next+(c.length:Int))) (bf 99 (lg.First+(lg.Next+(c.length:Int))) (aN (c.length:Int)))).1)).Now:List ByteArray),af.row 83 g_.2.2.2 ((((aj ((ag ((aV lg dk c).1)).1) (lg.From+(lg.Next+(c.length:Int))) (bf 99 (lg.First+(lg.Next+(c.length:Int))) (aN (c.length:Int)))).1)).Wait:List Turn)]) (fun g_:Value×Value×Value×Value=>[af.ls g_.1 (((⟨c⟩:vT)).C:List Change)]) rfl rfl rfl xZ rfl rfl (fun w own hw H=>tK b1  (()) b4  ((⟨(lg.Next+(c.length:Int))⟩:u7)) b2 z1 ((⟨c⟩:vT)) aG  (lg) ap z5 z6 z7 (((ag ((aV lg dk c).1)).1)) w own H (by first|assumption|omega|(dsimp only;omega)) (by first|omega|(dsimp only;omega)) (by first|omega|assumption|(dsimp only;omega)) (by first|assumption|exact ⟨by assumption,by omega⟩)) rfl) ?_
            rintro ⟨z8,z9,gP,gK⟩
            dsimp only
            refine R.u 1 rfl<|R.nil ?_
            refine R.reg rfl<|R.u 1 rfl<|?_
            by_cases h7:(aj ((ag ((aV lg dk c).1)).1) (lg.From+(lg.Next+(c.length:Int))) (bf 99 (lg.First+(lg.Next+(c.length:Int))) (aN (c.length:Int)))).2=0
            ·
              refine R.q (q.dx rfl rfl Try.underlying28 (by omega)) rfl<|R.nil ?_
              refine R.aH rfl rfl ?_
              refine R.reg rfl<|R.q (q.add (r:=3) rfl rfl (by decide)) rfl<|R.u 1 rfl<|R.nil ?_
              refine R.again rfl rfl ?_
              refine R.reg rfl<|R.q (q.lss (b:=true) rfl rfl (by decide)) rfl<|R.nil ?_
              refine R.aF rfl rfl ?_
              refine R.reg rfl<|R.q (q.idx (i:=3) (fun _=>Wd.row 8 rfl) rfl rfl lR rfl rfl) rfl<|R.q (q.u6 (x:=(⟨.func 51,#[.pointer (some ⟨ap,0,none⟩)],#[]⟩:eY)) rfl (q.jS (fun _=>Wd.row 8 rfl) rfl rfl lw rfl)) rfl<|R.u 1 rfl<|R.nil ?_
              refine R.reg rfl<|R.u 1 rfl<|?_
              refine R.s (B':=(fun g_:Value×Value×Value=>[af.box ap [g_.1,g_.2.1,g_.2.2,.int .i64 ((((ag ((aj ((ag ((aV lg dk c).1)).1) (lg.From+(lg.Next+(c.length:Int))) (bf 99 (lg.First+(lg.Next+(c.length:Int))) (aN (c.length:Int)))).1))).1).Fuse),.bool ((((ag ((aj ((ag ((aV lg dk c).1)).1) (lg.From+(lg.Next+(c.length:Int))) (bf 99 (lg.First+(lg.Next+(c.length:Int))) (aN (c.length:Int)))).1))).1).Down)] 81,af.row 9 g_.1 ((((ag ((aj ((ag ((aV lg dk c).1)).1) (lg.From+(lg.Next+(c.length:Int))) (bf 99 (lg.First+(lg.Next+(c.length:Int))) (aN (c.length:Int)))).1))).1).Kept:List ByteArray),af.row 9 g_.2.1 ((((ag ((aj ((ag ((aV lg dk c).1)).1) (lg.From+(lg.Next+(c.length:Int))) (bf 99 (lg.First+(lg.Next+(c.length:Int))) (aN (c.length:Int)))).1))).1).Now:List ByteArray),af.row 83 g_.2.2 ((((ag ((aj ((ag ((aV lg dk c).1)).1) (lg.From+(lg.Next+(c.length:Int))) (bf 99 (lg.First+(lg.Next+(c.length:Int))) (aN (c.length:Int)))).1))).1).Wait:List Turn),af.box b1 [.pointer (some ⟨aG,0,none⟩)] 32,af.box b4 [.int .i64 (lg.Next+(c.length:Int))] 3,af.box b2 [z8] 46,af.box aG [.pointer (some ⟨ap,0,none⟩),.int .i64 lg.From,.int .i64 lg.Many,.int .i64 lg.First,.int .i64 lg.Next] 85,af.row 62 (.slice (some ⟨b5,0,none⟩) 4 4) (([(⟨.func 49,#[],#[.pointer (some ⟨b1,0,none⟩),.pointer (some ⟨b2,0,none⟩)]⟩:eY),(⟨.func 51,#[.pointer (some ⟨ap,0,none⟩)],#[]⟩:eY),(⟨.func 52,#[],#[.pointer (some ⟨b1,0,none⟩),.pointer (some ⟨b4,0,none⟩),.pointer (some ⟨b2,0,none⟩)]⟩:eY),(⟨.func 51,#[.pointer (some ⟨ap,0,none⟩)],#[]⟩:eY)]):List eY),af.held w own])) (F':=(fun g_:Value×Value×Value=>[af.ls z8 (c:List Change),af.ls z1 (c:List Change),af.ls jW (c:List Change)])) rfl (s.tE (B0:=[af.box ap [z9,gP,gK,.int .i64 (((aj ((ag ((aV lg dk c).1)).1) (lg.From+(lg.Next+(c.length:Int))) (bf 99 (lg.First+(lg.Next+(c.length:Int))) (aN (c.length:Int)))).1).Fuse),.bool (((aj ((ag ((aV lg dk c).1)).1) (lg.From+(lg.Next+(c.length:Int))) (bf 99 (lg.First+(lg.Next+(c.length:Int))) (aN (c.length:Int)))).1).Down)] 81,af.row 9 z9 (((aj ((ag ((aV lg dk c).1)).1) (lg.From+(lg.Next+(c.length:Int))) (bf 99 (lg.First+(lg.Next+(c.length:Int))) (aN (c.length:Int)))).1).Kept:List ByteArray),af.row 9 gP (((aj ((ag ((aV lg dk c).1)).1) (lg.From+(lg.Next+(c.length:Int))) (bf 99 (lg.First+(lg.Next+(c.length:Int))) (aN (c.length:Int)))).1).Now:List ByteArray),af.row 83 gK (((aj ((ag ((aV lg dk c).1)).1) (lg.From+(lg.Next+(c.length:Int))) (bf 99 (lg.First+(lg.Next+(c.length:Int))) (aN (c.length:Int)))).1).Wait:List Turn)]) (Br:=[af.box b1 [.pointer (some ⟨aG,0,none⟩)] 32,af.box b4 [.int .i64 (lg.Next+(c.length:Int))] 3,af.box b2 [z8] 46,af.box aG [.pointer (some ⟨ap,0,none⟩),.int .i64 lg.From,.int .i64 lg.Many,.int .i64 lg.First,.int .i64 lg.Next] 85,af.row 62 (.slice (some ⟨b5,0,none⟩) 4 4) (([(⟨.func 49,#[],#[.pointer (some ⟨b1,0,none⟩),.pointer (some ⟨b2,0,none⟩)]⟩:eY),(⟨.func 51,#[.pointer (some ⟨ap,0,none⟩)],#[]⟩:eY),(⟨.func 52,#[],#[.pointer (some ⟨b1,0,none⟩),.pointer (some ⟨b4,0,none⟩),.pointer (some ⟨b2,0,none⟩)]⟩:eY),(⟨.func 51,#[.pointer (some ⟨ap,0,none⟩)],#[]⟩:eY)]):List eY),af.held w own]) (F0:=[]) [4,5,6,7,0,1,2,3,8,9] [] (fun g_:Value×Value×Value=>bG (((ag ((aj ((ag ((aV lg dk c).1)).1) (lg.From+(lg.Next+(c.length:Int))) (bf 99 (lg.First+(lg.Next+(c.length:Int))) (aN (c.length:Int)))).1))).2)) (fun g_:Value×Value×Value=>[af.box ap [g_.1,g_.2.1,g_.2.2,.int .i64 ((((ag ((aj ((ag ((aV lg dk c).1)).1) (lg.From+(lg.Next+(c.length:Int))) (bf 99 (lg.First+(lg.Next+(c.length:Int))) (aN (c.length:Int)))).1))).1).Fuse),.bool ((((ag ((aj ((ag ((aV lg dk c).1)).1) (lg.From+(lg.Next+(c.length:Int))) (bf 99 (lg.First+(lg.Next+(c.length:Int))) (aN (c.length:Int)))).1))).1).Down)] 81,af.row 9 g_.1 ((((ag ((aj ((ag ((aV lg dk c).1)).1) (lg.From+(lg.Next+(c.length:Int))) (bf 99 (lg.First+(lg.Next+(c.length:Int))) (aN (c.length:Int)))).1))).1).Kept:List ByteArray),af.row 9 g_.2.1 ((((ag ((aj ((ag ((aV lg dk c).1)).1) (lg.From+(lg.Next+(c.length:Int))) (bf 99 (lg.First+(lg.Next+(c.length:Int))) (aN (c.length:Int)))).1))).1).Now:List ByteArray),af.row 83 g_.2.2 ((((ag ((aj ((ag ((aV lg dk c).1)).1) (lg.From+(lg.Next+(c.length:Int))) (bf 99 (lg.First+(lg.Next+(c.length:Int))) (aN (c.length:Int)))).1))).1).Wait:List Turn)]) (fun g_:Value×Value×Value=>[]) rfl rfl rfl nk rfl rfl (fun w own hw H=>fE ap z9 gP gK (((aj ((ag ((aV lg dk c).1)).1) (lg.From+(lg.Next+(c.length:Int))) (bf 99 (lg.First+(lg.Next+(c.length:Int))) (aN (c.length:Int)))).1)) w own H (by first|assumption|omega)) rfl) ?_
              rintro ⟨z12,kV,sH⟩
              dsimp only
              refine R.u 1 rfl<|R.nil ?_
              refine R.reg rfl<|R.u 1 rfl<|?_
              by_cases h8:(ag ((aj ((ag ((aV lg dk c).1)).1) (lg.From+(lg.Next+(c.length:Int))) (bf 99 (lg.First+(lg.Next+(c.length:Int))) (aN (c.length:Int)))).1)).2=0
              ·
                refine R.q (q.dx rfl rfl Try.underlying28 (by omega)) rfl<|R.nil ?_
                refine R.aH rfl rfl ?_
                refine R.reg rfl<|R.q (q.add (r:=4) rfl rfl (by decide)) rfl<|R.u 1 rfl<|R.nil ?_
                refine R.again rfl rfl ?_
                refine R.reg rfl<|R.q (q.lss (b:=false) rfl rfl (by decide)) rfl<|R.nil ?_
                refine R.aH rfl rfl ?_
                refine R.reg rfl<|R.q (q.ld 4 rfl rfl dq rfl) rfl<|R.q (q.ld 5 rfl rfl aK rfl) rfl<|R.q (q.add (r:=(lg.Next+(c.length:Int))+1) rfl rfl (wr (by omega))) rfl<|R.q (q.a7 rfl) rfl<|R.q (q.bz (off':=4) rfl fA rfl) rfl<|?_
                refine R.s rfl (s.st (us:=[.int .i64 ((lg.Next+(c.length:Int))+1)]) (cs':=[.pointer (some ⟨ap,0,none⟩),.int .i64 lg.From,.int .i64 lg.Many,.int .i64 lg.First,.int .i64 ((lg.Next+(c.length:Int))+1)]) 7 _ rfl rfl rfl rfl (.inr ⟨aK,rfl⟩) rfl rfl rfl rfl) fun _=>?_
                refine R.nil ?_
                refine R.reg rfl<|R.u 1 rfl<|R.nil ?_
                have hz:aR lg dk c=((⟨lg.From,lg.Many,lg.First,((lg.Next+(c.length:Int))+1)⟩:Lg),((ag ((aj ((ag ((aV lg dk c).1)).1) (lg.From+(lg.Next+(c.length:Int))) (bf 99 (lg.First+(lg.Next+(c.length:Int))) (aN (c.length:Int)))).1)).1),0):=by (first|exact nA g1 (by assumption)|exact nB g1 (by assumption) (by assumption)|exact nC g1 (by assumption) (by assumption) (by assumption)|exact nD g1 (by assumption) (by assumption) (by assumption) (by assumption)|exact jV g1 (by assumption) (by assumption) (by assumption) (by assumption))
                rw [hz]
                exact R.w1 (z12,kV,sH) [7,0,1,2,3,9] [] rfl Try.results20 (RV.tmp rfl) rfl rfl rfl (lH rfl)
              ·
                refine R.q (q.e8 rfl rfl Try.underlying28 (by omega)) rfl<|R.nil ?_
                refine R.aF rfl rfl ?_
                refine R.reg rfl<|R.u 2 rfl<|R.nil ?_
                have hz:aR lg dk c=(lg,((ag ((aj ((ag ((aV lg dk c).1)).1) (lg.From+(lg.Next+(c.length:Int))) (bf 99 (lg.First+(lg.Next+(c.length:Int))) (aN (c.length:Int)))).1)).1),(ag ((aj ((ag ((aV lg dk c).1)).1) (lg.From+(lg.Next+(c.length:Int))) (bf 99 (lg.First+(lg.Next+(c.length:Int))) (aN (c.length:Int)))).1)).2):=by (first|exact nA g1 (by assumption)|exact nB g1 (by assumption) (by assumption)|exact nC g1 (by assumption) (by assumption) (by assumption)|exact nD g1 (by assumption) (by assumption) (by assumption) (by assumption)|exact jV g1 (by assumption) (by assumption) (by assumption) (by assumption))
                rw [hz]
                exact R.w1 (z12,kV,sH) [7,0,1,2,3,9] [] rfl Try.results20 (RV.tmp rfl) rfl rfl rfl rfl
            ·
              refine R.q (q.e8 rfl rfl Try.underlying28 (by omega)) rfl<|R.nil ?_
              refine R.aF rfl rfl ?_
              refine R.reg rfl<|R.u 2 rfl<|R.nil ?_
              have hz:aR lg dk c=(lg,((aj ((ag ((aV lg dk c).1)).1) (lg.From+(lg.Next+(c.length:Int))) (bf 99 (lg.First+(lg.Next+(c.length:Int))) (aN (c.length:Int)))).1),(aj ((ag ((aV lg dk c).1)).1) (lg.From+(lg.Next+(c.length:Int))) (bf 99 (lg.First+(lg.Next+(c.length:Int))) (aN (c.length:Int)))).2):=by (first|exact nA g1 (by assumption)|exact nB g1 (by assumption) (by assumption)|exact nC g1 (by assumption) (by assumption) (by assumption)|exact nD g1 (by assumption) (by assumption) (by assumption) (by assumption)|exact jV g1 (by assumption) (by assumption) (by assumption) (by assumption))
              rw [hz]
              exact R.w1 (z9,gP,gK) [3,4,5,6,7,9] [] rfl Try.results20 (RV.tmp rfl) rfl rfl rfl rfl
          ·
            refine R.q (q.e8 rfl rfl Try.underlying28 (by omega)) rfl<|R.nil ?_
            refine R.aF rfl rfl ?_
            refine R.reg rfl<|R.u 2 rfl<|R.nil ?_
            have hz:aR lg dk c=(lg,((ag ((aV lg dk c).1)).1),(ag ((aV lg dk c).1)).2):=by (first|exact nA g1 (by assumption)|exact nB g1 (by assumption) (by assumption)|exact nC g1 (by assumption) (by assumption) (by assumption)|exact nD g1 (by assumption) (by assumption) (by assumption) (by assumption)|exact jV g1 (by assumption) (by assumption) (by assumption) (by assumption))
            rw [hz]
            exact R.w1 (z5,z6,z7) [6,0,1,2,3,9] [] rfl Try.results20 (RV.tmp rfl) rfl rfl rfl rfl
        ·
          refine R.q (q.e8 rfl rfl Try.underlying28 (by omega)) rfl<|R.nil ?_
          refine R.aF rfl rfl ?_
          refine R.reg rfl<|R.u 2 rfl<|R.nil ?_
          have hz:aR lg dk c=(lg,((aV lg dk c).1),(aV lg dk c).2):=by (first|exact nA g1 (by assumption)|exact nB g1 (by assumption) (by assumption)|exact nC g1 (by assumption) (by assumption) (by assumption)|exact nD g1 (by assumption) (by assumption) (by assumption) (by assumption)|exact jV g1 (by assumption) (by assumption) (by assumption) (by assumption))
          rw [hz]
          exact R.w1 (z2,z3,z4) [2,3,4,5,6,9] [] rfl Try.results20 (RV.tmp rfl) rfl rfl rfl rfl
end Go.Proofs.Ytpipachmngdegaa
end
