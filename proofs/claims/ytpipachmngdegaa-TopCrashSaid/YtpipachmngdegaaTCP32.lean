import Derived.Test.YtpipachmngdegaaTCP27
import Derived.Test.YtpipachmngdegaaTCP29
import Derived.Test.YtpipachmngdegaaTCP30
import Derived.Test.YtpipachmngdegaaTCP31
section
namespace Go.Proofs.Ytpipachmngdegaa
open Go Go.RowKit
set_option linter.unusedVariables false
set_option linter.unusedSimpArgs false
set_option maxRecDepth 100000
theorem ju (n:Int)(w:World)(hn:0≤n∧n≤9000000000000000000):Calls Try.prog 69 #[.int .i64 n] w fun e w'=>e = .returned (.string (aM n))∧Ext w w':=by
  refine R.enter (n:=16) (vs:=[.int .i64 n]) [] [(0,.int .i64 n)] Try.func69 rfl rfl rfl rfl ?_
  refine R.reg rfl<|R.u 1 rfl<|R.nil ?_
  refine R.reg rfl<|R.u 1 rfl<|R.q (q.iu rfl (by rw [Try.underlying3];rfl) Try.underlying5 i4) rfl<|R.u 1 rfl<|R.q (q.shr (r:=n / 256) rfl rfl (by decide) (rx (D:=256) (by decide) (by decide))) rfl<|R.q (q.iu rfl (by rw [Try.underlying3];rfl) Try.underlying5 i4) rfl<|R.u 1 rfl<|R.q (q.shr (r:=n / 65536) rfl rfl (by decide) (rx (D:=65536) (by decide) (by decide))) rfl<|R.q (q.iu rfl (by rw [Try.underlying3];rfl) Try.underlying5 i4) rfl<|R.u 1 rfl<|R.q (q.shr (r:=n / 16777216) rfl rfl (by decide) (rx (D:=16777216) (by decide) (by decide))) rfl<|R.q (q.iu rfl (by rw [Try.underlying3];rfl) Try.underlying5 i4) rfl<|?_
  refine R.s rfl (s.bs (l:=([(u8 (n % 256)),(u8 ((n / 256) % 256)),(u8 ((n / 65536) % 256)),(u8 ((n / 16777216) % 256))]:List UInt8)) aJ cd rfl rfl rfl rfl rfl (bn (c8 (by omega)) (bn (c8 (by omega)) (bn (c8 (by omega)) (bn (c8 (by omega)) cS)))) rfl) fun b1=>?_
  refine R.q (q.eM (fun _=>Wd.row 0 rfl) rfl aJ Try.underlying5 Try.underlying9) rfl<|R.u 1 rfl<|R.nil ?_
  exact R.rv rfl Try.results69 rfl (rS (by (rfl)))
theorem ck (sx:ByteArray)(w:World)(hs:4≤sx.size):Calls Try.prog 63 #[.string sx] w fun e w'=>e = .returned (.int .i64 (bP sx:Int))∧Ext w w':=by
  refine R.enter (n:=21) (vs:=[.string sx]) [] [(0,.string sx)] Try.func63 rfl rfl rfl rfl ?_
  refine R.reg rfl<|R.u 1 rfl<|R.nil ?_
  obtain ⟨y1,hy1⟩:∃z,sx.data[0]? = some z:=⟨_,Array.getElem?_eq_getElem (show 0<sx.size from by omega)⟩
  have yt:=y1.toNat_lt
  obtain ⟨y2,hy2⟩:∃z,sx.data[1]? = some z:=⟨_,Array.getElem?_eq_getElem (show 1<sx.size from by omega)⟩
  have yu:=y2.toNat_lt
  obtain ⟨y3,hy3⟩:∃z,sx.data[2]? = some z:=⟨_,Array.getElem?_eq_getElem (show 2<sx.size from by omega)⟩
  have yP:=y3.toNat_lt
  obtain ⟨y4,hy4⟩:∃z,sx.data[3]? = some z:=⟨_,Array.getElem?_eq_getElem (show 3<sx.size from by omega)⟩
  have zf:=y4.toNat_lt
  refine R.d9 rfl mixed (by kernel_rfl)<|Q.u 1 rfl<|Q.q (q.dS (i:=0) rfl rfl Try.underlying9 rfl hy1) rfl<|Q.q (q.iu (r:=((y1.toNat:Nat):Int)) rfl (by rw [Try.underlying5];rfl) Try.underlying3 (wr (by omega))) rfl<|Q.u 1 rfl<|Q.q (q.dS (i:=1) rfl rfl Try.underlying9 rfl hy2) rfl<|Q.q (q.iu (r:=((y2.toNat:Nat):Int)) rfl (by rw [Try.underlying5];rfl) Try.underlying3 (wr (by omega))) rfl<|Q.q (q.shl (r:=(((y2.toNat*256):Nat):Int)) rfl rfl (by decide) (wu 256 (by decide) (by have:=y2.toNat_lt;omega))) rfl<|Q.q (q.or (r:=(((y1.toNat+(y2.toNat*256)):Nat):Int)) rfl rfl (yQ 8 256 rfl (by have:=y1.toNat_lt;have:=y2.toNat_lt;omega) (by have:=y1.toNat_lt;have:=y2.toNat_lt;omega))) rfl<|Q.u 1 rfl<|Q.q (q.dS (i:=2) rfl rfl Try.underlying9 rfl hy3) rfl<|Q.q (q.iu (r:=((y3.toNat:Nat):Int)) rfl (by rw [Try.underlying5];rfl) Try.underlying3 (wr (by omega))) rfl<|Q.q (q.shl (r:=(((y3.toNat*65536):Nat):Int)) rfl rfl (by decide) (wu 65536 (by decide) (by have:=y3.toNat_lt;omega))) rfl<|Q.q (q.or (r:=((((y1.toNat+(y2.toNat*256))+(y3.toNat*65536)):Nat):Int)) rfl rfl (yQ 16 65536 rfl (by have:=y1.toNat_lt;have:=y2.toNat_lt;have:=y3.toNat_lt;omega) (by have:=y1.toNat_lt;have:=y2.toNat_lt;have:=y3.toNat_lt;omega))) rfl<|Q.u 1 rfl<|Q.q (q.dS (i:=3) rfl rfl Try.underlying9 rfl hy4) rfl<|Q.q (q.iu (r:=((y4.toNat:Nat):Int)) rfl (by rw [Try.underlying5];rfl) Try.underlying3 (wr (by omega))) rfl<|Q.q (q.shl (r:=(((y4.toNat*16777216):Nat):Int)) rfl rfl (by decide) (wu 16777216 (by decide) (by have:=y4.toNat_lt;omega))) rfl<|Q.q (q.or (r:=(((((y1.toNat+(y2.toNat*256))+(y3.toNat*65536))+(y4.toNat*16777216)):Nat):Int)) rfl rfl (yQ 24 16777216 rfl (by have:=y1.toNat_lt;have:=y2.toNat_lt;have:=y3.toNat_lt;have:=y4.toNat_lt;omega) (by have:=y1.toNat_lt;have:=y2.toNat_lt;have:=y3.toNat_lt;have:=y4.toNat_lt;omega))) rfl<|Q.u 1 rfl<|Q.nil ?_
  exact R.rv rfl Try.results63 rfl (rI (by (unfold bP;rw [ag hy1,ag hy2,ag hy3,ag hy4])))
theorem nz (h:bq)(w:World)(hn:0≤h.Epoch∧h.Epoch≤9000000000000000000∧0≤h.Side∧h.Side≤9000000000000000000∧0≤h.Size∧h.Size≤9000000000000000000∧0≤h.First∧h.First≤9000000000000000000):Calls Try.prog 57 #[.agg #[.int .i64 h.Epoch,.int .i64 h.Side,.int .i64 h.Size,.int .i64 h.First]] w fun e w'=>e = .returned (.string (aC h))∧Ext w w':=by
  refine R.enter (n:=19) (vs:=[.agg #[.int .i64 h.Epoch,.int .i64 h.Side,.int .i64 h.Size,.int .i64 h.First]]) [] [(0,.agg #[.int .i64 h.Epoch,.int .i64 h.Side,.int .i64 h.Size,.int .i64 h.First])] Try.func57 rfl rfl rfl rfl ?_
  refine R.reg rfl<|?_
  refine R.s rfl (s.box (cs:=[.int .i64 h.Epoch,.int .i64 h.Side,.int .i64 h.Size,.int .i64 h.First]) rfl rfl rfl) fun b1=>?_
  refine R.u 1 rfl<|R.nil ?_
  refine R.d9 rfl mixed (by kernel_rfl)<|Q.q (q.bJ (off':=0) rfl eG rfl) rfl<|Q.q (q.ld 0 rfl rfl aS rfl) rfl<|Q.c (q.call qH rfl rfl (fun w hw=>(ju (h.Epoch) w  (by first|omega|assumption)))) rfl<|Q.q (q.cat rfl rfl (by first|omega|(simp only [ByteArray.size_append,aD,az,List.length_cons,List.length_nil];omega))) rfl<|Q.q (q.bJ (off':=1) rfl dY rfl) rfl<|Q.q (q.ld 0 rfl rfl aS rfl) rfl<|Q.c (q.call qH rfl rfl (fun w hw=>(ju (h.Side) w  (by first|omega|assumption)))) rfl<|Q.q (q.cat rfl rfl (by first|omega|(simp only [ByteArray.size_append,aD,az,List.length_cons,List.length_nil];omega))) rfl<|Q.q (q.bJ (off':=2) rfl eZ rfl) rfl<|Q.q (q.ld 0 rfl rfl aS rfl) rfl<|Q.c (q.call qH rfl rfl (fun w hw=>(ju (h.Size) w  (by first|omega|assumption)))) rfl<|Q.q (q.cat rfl rfl (by first|omega|(simp only [ByteArray.size_append,aD,az,List.length_cons,List.length_nil];omega))) rfl<|Q.q (q.bJ (off':=3) rfl eH rfl) rfl<|Q.q (q.ld 0 rfl rfl aS rfl) rfl<|Q.c (q.call qH rfl rfl (fun w hw=>(ju (h.First) w  (by first|omega|assumption)))) rfl<|Q.q (q.cat rfl rfl (by first|omega|(simp only [ByteArray.size_append,aD,az,List.length_cons,List.length_nil];omega))) rfl<|Q.u 1 rfl<|Q.nil ?_
  exact R.rv rfl Try.results57 rfl (rS (by (rfl)))
theorem pQ (sx:ByteArray)(w:World)(own:List Nat)(H:Wd w (blks []++own) ([]++[ah.held w own]) [] w)(hs:sx.size=48):Calls Try.prog 54 #[.string sx] w fun e w' => ∃z:Unit,e = .returned (.agg #[.int .i64 (((bh sx)).Epoch),.int .i64 (((bh sx)).Side),.int .i64 (((bh sx)).Size),.int .i64 (((bh sx)).First)])∧Wd w (blks []++own) ([]++[ah.held w own]) [] w':=by
  refine R.bW (n:=37) (vs:=[.string sx]) (B:=[ah.held w own]) [(0,.string sx)] Try.func54 rfl rfl rfl rfl H ?_
  refine R.reg rfl<|?_
  refine R.s rfl (s.alloc (cs:=[.int .i64 0,.int .i64 0,.int .i64 0,.int .i64 0]) eP rfl rfl) fun b1=>?_
  refine R.nil ?_
  refine R.eT (fuel:=15) (Wd w (blks []++own) [ah.box b1 [.int .i64 0,.int .i64 0,.int .i64 0,.int .i64 0] 98,ah.held w own] []) rfl mixed rfl ?_
  refine D.q (i:=0) rfl (by kernel_rfl) (fun _=>Wd.aA [0,1] [] rfl rfl rfl) rfl (q.mv rfl) rfl<|D.q (i:=1) rfl (by kernel_rfl) (fun _=>Wd.aA [0,1] [] rfl rfl rfl) rfl (q.qt (i:=1) (j:=5) rfl rfl rfl Try.underlying9 rfl rfl (by omega) (by omega)) rfl<|D.q (i:=3) rfl (by kernel_rfl) (fun _=>Wd.aA [0,1] [] rfl rfl rfl) rfl (q.mv rfl) rfl<|D.q (i:=4) rfl (by kernel_rfl) (fun _=>Wd.aA [0,1] [] rfl rfl rfl) rfl (q.qt (i:=5) (j:=9) rfl rfl rfl Try.underlying9 rfl rfl (by omega) (by omega)) rfl<|D.q (i:=6) rfl (by kernel_rfl) (fun _=>Wd.aA [0,1] [] rfl rfl rfl) rfl (q.mv rfl) rfl<|D.q (i:=7) rfl (by kernel_rfl) (fun _=>Wd.aA [0,1] [] rfl rfl rfl) rfl (q.qt (i:=9) (j:=13) rfl rfl rfl Try.underlying9 rfl rfl (by omega) (by omega)) rfl<|D.q (i:=9) rfl (by kernel_rfl) (fun _=>Wd.aA [0,1] [] rfl rfl rfl) rfl (q.mv rfl) rfl<|D.q (i:=10) rfl (by kernel_rfl) (fun _=>Wd.aA [0,1] [] rfl rfl rfl) rfl (q.qt (i:=13) (j:=17) rfl rfl rfl Try.underlying9 rfl rfl (by omega) (by omega)) rfl<|?_
  refine D.two (i:=2) (j:=13) (by kernel_rfl) rfl rfl ?_ ?_
  ·
    refine Do.s (s.c (q.call gL rfl rfl (fun w hw=>(ck ((sx.extract 1 5)) w  (by first|omega|(rw [ByteArray.size_extract];omega))))) rfl) (fun _=>(fun _=>Wd.aA [0,1] [] rfl rfl rfl)) rfl fun _=>?_
    refine D.two (i:=5) (j:=13) (by kernel_rfl) rfl rfl ?_ ?_
    ·
      refine Do.s (s.c (q.call gL rfl rfl (fun w hw=>(ck ((sx.extract 5 9)) w  (by first|omega|(rw [ByteArray.size_extract];omega))))) rfl) (fun _=>(fun _=>Wd.aA [0,1] [] rfl rfl rfl)) rfl fun _=>?_
      refine D.two (i:=8) (j:=13) (by kernel_rfl) rfl rfl ?_ ?_
      ·
        refine Do.s (s.c (q.call gL rfl rfl (fun w hw=>(ck ((sx.extract 9 13)) w  (by first|omega|(rw [ByteArray.size_extract];omega))))) rfl) (fun _=>(fun _=>Wd.aA [0,1] [] rfl rfl rfl)) rfl fun _=>?_
        refine D.two (i:=11) (j:=13) (by kernel_rfl) rfl rfl ?_ ?_
        ·
          refine Do.s (s.c (q.call gL rfl rfl (fun w hw=>(ck ((sx.extract 13 17)) w  (by first|omega|(rw [ByteArray.size_extract];omega))))) rfl) (fun _=>(fun _=>Wd.aA [0,1] [] rfl rfl rfl)) rfl fun _=>?_
          refine D.q (i:=12) rfl (by kernel_rfl) (fun _=>Wd.aA [0,1] [] rfl rfl rfl) rfl (q.build (cs:=[.int .i64 (bP (sx.extract 1 5):Int),.int .i64 (bP (sx.extract 5 9):Int),.int .i64 (bP (sx.extract 9 13):Int),.int .i64 (bP (sx.extract 13 17):Int)]) dq rfl rfl) rfl<|?_
          refine D.one (i:=13) (by kernel_rfl) rfl ?_
          refine Do.s (s.alloc (cs:=[.int .i64 0,.int .i64 0,.int .i64 0,.int .i64 0]) eP rfl rfl) (fun _=>(fun _=>Wd.aA [1,2] [] rfl rfl rfl)) rfl fun b2=>?_
          refine D.one (i:=14) (by kernel_rfl) rfl ?_
          refine Do.s (s.st (us:=[.int .i64 (bP (sx.extract 1 5):Int),.int .i64 (bP (sx.extract 5 9):Int),.int .i64 (bP (sx.extract 9 13):Int),.int .i64 (bP (sx.extract 13 17):Int)]) (cs':=[.int .i64 (bP (sx.extract 1 5):Int),.int .i64 (bP (sx.extract 5 9):Int),.int .i64 (bP (sx.extract 9 13):Int),.int .i64 (bP (sx.extract 13 17):Int)]) 0 _ rfl rfl rfl rfl (.inl aN) rfl rfl rfl rfl) (fun _=>(fun _=>Wd.aA [1,2] [] rfl rfl rfl)) rfl fun _=>?_
          refine D.done (by kernel_rfl)<|?_
          refine R.reg rfl<|R.u 1 rfl<|?_
          obtain ⟨y1,hy1⟩:∃z,sx.data[0]? = some z:=⟨_,Array.getElem?_eq_getElem (show 0<sx.size from by omega)⟩
          have yt:=y1.toNat_lt
          refine R.q (q.dS (i:=0) rfl rfl Try.underlying9 rfl hy1) rfl<|?_
          by_cases h1:y1.toNat=72
          ·
            refine R.q (q.neq rfl rfl (bne_eq_false_iff_eq.2 (by omega))) rfl<|R.u 1 rfl<|R.qg rfl (q.bJ (off':=1) rfl dY rfl) rfl<|R.qg rfl (q.ld 0 rfl rfl aS rfl) rfl<|?_
            by_cases h2:1<bP (sx.extract 5 9)
            ·
              refine R.qg rfl (q.gtr rfl rfl (decide_eq_true (by omega))) rfl<|R.u 11 rfl<|R.nil ?_
              refine R.aK rfl rfl ?_
              refine R.reg rfl<|R.q (q.build (cs:=[.int .i64 0,.int .i64 0,.int .i64 0,.int .i64 0]) dq rfl rfl) rfl<|?_
              refine R.s rfl (s.st (us:=[.int .i64 0,.int .i64 0,.int .i64 0,.int .i64 0]) (cs':=[.int .i64 0,.int .i64 0,.int .i64 0,.int .i64 0]) 1 _ rfl rfl rfl rfl (.inl aN) rfl rfl rfl rfl) fun _=>?_
              refine R.nil ?_
              have hz:bh sx=(⟨0,0,0,0⟩:bq):=by (first|(rw [bI (by unfold bE;(first|rw [ag hy1] | rw [ag hy2] | rw [ag hy3] | rw [ag hy4] | rw [ag cU] | rw [ag fU] | rw [ag fV] | rw [ag fW]);omega)];first|done|rfl)|(rw [bA (by unfold bE;(first|rw [ag hy1] | rw [ag hy2] | rw [ag hy3] | rw [ag hy4] | rw [ag cU] | rw [ag fU] | rw [ag fV] | rw [ag fW]);omega)];first|done|rfl))
              rw [hz]
              exact R.w1 () [2] [] rfl Try.results54 (RV.cell 1 rfl rfl aN) rfl rfl rfl rfl
            ·
              refine R.qg rfl (q.gtr rfl rfl (decide_eq_false (by omega))) rfl<|R.u 2 rfl<|R.qg rfl (q.bJ (off':=2) rfl eZ rfl) rfl<|R.qg rfl (q.ld 0 rfl rfl aS rfl) rfl<|?_
              by_cases h3:2400<bP (sx.extract 9 13)
              ·
                refine R.qg rfl (q.gtr rfl rfl (decide_eq_true (by omega))) rfl<|R.u 6 rfl<|R.nil ?_
                refine R.aK rfl rfl ?_
                refine R.reg rfl<|R.q (q.build (cs:=[.int .i64 0,.int .i64 0,.int .i64 0,.int .i64 0]) dq rfl rfl) rfl<|?_
                refine R.s rfl (s.st (us:=[.int .i64 0,.int .i64 0,.int .i64 0,.int .i64 0]) (cs':=[.int .i64 0,.int .i64 0,.int .i64 0,.int .i64 0]) 1 _ rfl rfl rfl rfl (.inl aN) rfl rfl rfl rfl) fun _=>?_
                refine R.nil ?_
                have hz:bh sx=(⟨0,0,0,0⟩:bq):=by (first|(rw [bI (by unfold bE;(first|rw [ag hy1] | rw [ag hy2] | rw [ag hy3] | rw [ag hy4] | rw [ag cU] | rw [ag fU] | rw [ag fV] | rw [ag fW]);omega)];first|done|rfl)|(rw [bA (by unfold bE;(first|rw [ag hy1] | rw [ag hy2] | rw [ag hy3] | rw [ag hy4] | rw [ag cU] | rw [ag fU] | rw [ag fV] | rw [ag fW]);omega)];first|done|rfl))
                rw [hz]
                exact R.w1 () [2] [] rfl Try.results54 (RV.cell 1 rfl rfl aN) rfl rfl rfl rfl
              ·
                refine R.qg rfl (q.gtr rfl rfl (decide_eq_false (by omega))) rfl<|R.u 2 rfl<|R.qg rfl (q.bJ (off':=3) rfl eH rfl) rfl<|R.qg rfl (q.ld 0 rfl rfl aS rfl) rfl<|?_
                by_cases h4:bP (sx.extract 13 17)<1
                ·
                  refine R.qg rfl (q.lss rfl rfl (decide_eq_true (by omega))) rfl<|R.u 1 rfl<|R.nil ?_
                  refine R.aK rfl rfl ?_
                  refine R.reg rfl<|R.q (q.build (cs:=[.int .i64 0,.int .i64 0,.int .i64 0,.int .i64 0]) dq rfl rfl) rfl<|?_
                  refine R.s rfl (s.st (us:=[.int .i64 0,.int .i64 0,.int .i64 0,.int .i64 0]) (cs':=[.int .i64 0,.int .i64 0,.int .i64 0,.int .i64 0]) 1 _ rfl rfl rfl rfl (.inl aN) rfl rfl rfl rfl) fun _=>?_
                  refine R.nil ?_
                  have hz:bh sx=(⟨0,0,0,0⟩:bq):=by (first|(rw [bI (by unfold bE;(first|rw [ag hy1] | rw [ag hy2] | rw [ag hy3] | rw [ag hy4] | rw [ag cU] | rw [ag fU] | rw [ag fV] | rw [ag fW]);omega)];first|done|rfl)|(rw [bA (by unfold bE;(first|rw [ag hy1] | rw [ag hy2] | rw [ag hy3] | rw [ag hy4] | rw [ag cU] | rw [ag fU] | rw [ag fV] | rw [ag fW]);omega)];first|done|rfl))
                  rw [hz]
                  exact R.w1 () [2] [] rfl Try.results54 (RV.cell 1 rfl rfl aN) rfl rfl rfl rfl
                ·
                  refine R.qg rfl (q.lss rfl rfl (decide_eq_false (by omega))) rfl<|R.u 1 rfl<|R.nil ?_
                  refine R.aI rfl rfl ?_
                  refine R.reg rfl<|R.q (q.mD 0 rfl rfl aN) rfl<|?_
                  refine R.s rfl (s.st (us:=[.int .i64 (bP (sx.extract 1 5):Int),.int .i64 (bP (sx.extract 5 9):Int),.int .i64 (bP (sx.extract 9 13):Int),.int .i64 (bP (sx.extract 13 17):Int)]) (cs':=[.int .i64 (bP (sx.extract 1 5):Int),.int .i64 (bP (sx.extract 5 9):Int),.int .i64 (bP (sx.extract 9 13):Int),.int .i64 (bP (sx.extract 13 17):Int)]) 1 _ rfl rfl rfl rfl (.inl aN) rfl rfl rfl rfl) fun _=>?_
                  refine R.nil ?_
                  have hz:bh sx=(⟨(bP (sx.extract 1 5):Int),(bP (sx.extract 5 9):Int),(bP (sx.extract 9 13):Int),(bP (sx.extract 13 17):Int)⟩:bq):=by (first|(rw [bI (by unfold bE;(first|rw [ag hy1] | rw [ag hy2] | rw [ag hy3] | rw [ag hy4] | rw [ag cU] | rw [ag fU] | rw [ag fV] | rw [ag fW]);omega)];first|done|rfl)|(rw [bA (by unfold bE;(first|rw [ag hy1] | rw [ag hy2] | rw [ag hy3] | rw [ag hy4] | rw [ag cU] | rw [ag fU] | rw [ag fV] | rw [ag fW]);omega)];first|done|rfl))
                  rw [hz]
                  exact R.w1 () [2] [] rfl Try.results54 (RV.cell 1 rfl rfl aN) rfl rfl rfl rfl
          ·
            refine R.q (q.neq rfl rfl (bne_iff_ne.2 (by omega))) rfl<|R.u 15 rfl<|R.nil ?_
            refine R.aK rfl rfl ?_
            refine R.reg rfl<|R.q (q.build (cs:=[.int .i64 0,.int .i64 0,.int .i64 0,.int .i64 0]) dq rfl rfl) rfl<|?_
            refine R.s rfl (s.st (us:=[.int .i64 0,.int .i64 0,.int .i64 0,.int .i64 0]) (cs':=[.int .i64 0,.int .i64 0,.int .i64 0,.int .i64 0]) 1 _ rfl rfl rfl rfl (.inl aN) rfl rfl rfl rfl) fun _=>?_
            refine R.nil ?_
            have hz:bh sx=(⟨0,0,0,0⟩:bq):=by (first|(rw [bI (by unfold bE;(first|rw [ag hy1] | rw [ag hy2] | rw [ag hy3] | rw [ag hy4] | rw [ag cU] | rw [ag fU] | rw [ag fV] | rw [ag fW]);omega)];first|done|rfl)|(rw [bA (by unfold bE;(first|rw [ag hy1] | rw [ag hy2] | rw [ag hy3] | rw [ag hy4] | rw [ag cU] | rw [ag fU] | rw [ag fV] | rw [ag fW]);omega)];first|done|rfl))
            rw [hz]
            exact R.w1 () [2] [] rfl Try.results54 (RV.cell 1 rfl rfl aN) rfl rfl rfl rfl
        ·
          refine Do.s (s.alloc (cs:=[.int .i64 0,.int .i64 0,.int .i64 0,.int .i64 0]) eP rfl rfl) (fun _=>(fun _=>Wd.aA [1,2] [] rfl rfl rfl)) rfl fun b3=>?_
          refine D.one (i:=11) (by kernel_rfl) rfl ?_
          refine Do.s (s.c (q.call gL rfl rfl (fun w hw=>(ck ((sx.extract 13 17)) w  (by first|omega|(rw [ByteArray.size_extract];omega))))) rfl) (fun _=>(fun _=>Wd.aA [1,2] [] rfl rfl rfl)) rfl fun _=>?_
          refine D.q (i:=12) rfl (by kernel_rfl) (fun _=>Wd.aA [1,2] [] rfl rfl rfl) rfl (q.build (cs:=[.int .i64 (bP (sx.extract 1 5):Int),.int .i64 (bP (sx.extract 5 9):Int),.int .i64 (bP (sx.extract 9 13):Int),.int .i64 (bP (sx.extract 13 17):Int)]) dq rfl rfl) rfl<|?_
          refine D.one (i:=14) (by kernel_rfl) rfl ?_
          refine Do.s (s.st (us:=[.int .i64 (bP (sx.extract 1 5):Int),.int .i64 (bP (sx.extract 5 9):Int),.int .i64 (bP (sx.extract 9 13):Int),.int .i64 (bP (sx.extract 13 17):Int)]) (cs':=[.int .i64 (bP (sx.extract 1 5):Int),.int .i64 (bP (sx.extract 5 9):Int),.int .i64 (bP (sx.extract 9 13):Int),.int .i64 (bP (sx.extract 13 17):Int)]) 0 _ rfl rfl rfl rfl (.inl aN) rfl rfl rfl rfl) (fun _=>(fun _=>Wd.aA [1,2] [] rfl rfl rfl)) rfl fun _=>?_
          refine D.done (by kernel_rfl)<|?_
          refine R.reg rfl<|R.u 1 rfl<|?_
          obtain ⟨y2,hy2⟩:∃z,sx.data[0]? = some z:=⟨_,Array.getElem?_eq_getElem (show 0<sx.size from by omega)⟩
          have yu:=y2.toNat_lt
          refine R.q (q.dS (i:=0) rfl rfl Try.underlying9 rfl hy2) rfl<|?_
          by_cases h5:y2.toNat=72
          ·
            refine R.q (q.neq rfl rfl (bne_eq_false_iff_eq.2 (by omega))) rfl<|R.u 1 rfl<|R.qg rfl (q.bJ (off':=1) rfl dY rfl) rfl<|R.qg rfl (q.ld 0 rfl rfl aS rfl) rfl<|?_
            by_cases h6:1<bP (sx.extract 5 9)
            ·
              refine R.qg rfl (q.gtr rfl rfl (decide_eq_true (by omega))) rfl<|R.u 11 rfl<|R.nil ?_
              refine R.aK rfl rfl ?_
              refine R.reg rfl<|R.q (q.build (cs:=[.int .i64 0,.int .i64 0,.int .i64 0,.int .i64 0]) dq rfl rfl) rfl<|?_
              refine R.s rfl (s.st (us:=[.int .i64 0,.int .i64 0,.int .i64 0,.int .i64 0]) (cs':=[.int .i64 0,.int .i64 0,.int .i64 0,.int .i64 0]) 1 _ rfl rfl rfl rfl (.inl aN) rfl rfl rfl rfl) fun _=>?_
              refine R.nil ?_
              have hz:bh sx=(⟨0,0,0,0⟩:bq):=by (first|(rw [bI (by unfold bE;(first|rw [ag hy1] | rw [ag hy2] | rw [ag hy3] | rw [ag hy4] | rw [ag cU] | rw [ag fU] | rw [ag fV] | rw [ag fW]);omega)];first|done|rfl)|(rw [bA (by unfold bE;(first|rw [ag hy1] | rw [ag hy2] | rw [ag hy3] | rw [ag hy4] | rw [ag cU] | rw [ag fU] | rw [ag fV] | rw [ag fW]);omega)];first|done|rfl))
              rw [hz]
              exact R.w1 () [2] [] rfl Try.results54 (RV.cell 1 rfl rfl aN) rfl rfl rfl rfl
            ·
              refine R.qg rfl (q.gtr rfl rfl (decide_eq_false (by omega))) rfl<|R.u 2 rfl<|R.qg rfl (q.bJ (off':=2) rfl eZ rfl) rfl<|R.qg rfl (q.ld 0 rfl rfl aS rfl) rfl<|?_
              by_cases h7:2400<bP (sx.extract 9 13)
              ·
                refine R.qg rfl (q.gtr rfl rfl (decide_eq_true (by omega))) rfl<|R.u 6 rfl<|R.nil ?_
                refine R.aK rfl rfl ?_
                refine R.reg rfl<|R.q (q.build (cs:=[.int .i64 0,.int .i64 0,.int .i64 0,.int .i64 0]) dq rfl rfl) rfl<|?_
                refine R.s rfl (s.st (us:=[.int .i64 0,.int .i64 0,.int .i64 0,.int .i64 0]) (cs':=[.int .i64 0,.int .i64 0,.int .i64 0,.int .i64 0]) 1 _ rfl rfl rfl rfl (.inl aN) rfl rfl rfl rfl) fun _=>?_
                refine R.nil ?_
                have hz:bh sx=(⟨0,0,0,0⟩:bq):=by (first|(rw [bI (by unfold bE;(first|rw [ag hy1] | rw [ag hy2] | rw [ag hy3] | rw [ag hy4] | rw [ag cU] | rw [ag fU] | rw [ag fV] | rw [ag fW]);omega)];first|done|rfl)|(rw [bA (by unfold bE;(first|rw [ag hy1] | rw [ag hy2] | rw [ag hy3] | rw [ag hy4] | rw [ag cU] | rw [ag fU] | rw [ag fV] | rw [ag fW]);omega)];first|done|rfl))
                rw [hz]
                exact R.w1 () [2] [] rfl Try.results54 (RV.cell 1 rfl rfl aN) rfl rfl rfl rfl
              ·
                refine R.qg rfl (q.gtr rfl rfl (decide_eq_false (by omega))) rfl<|R.u 2 rfl<|R.qg rfl (q.bJ (off':=3) rfl eH rfl) rfl<|R.qg rfl (q.ld 0 rfl rfl aS rfl) rfl<|?_
                by_cases h8:bP (sx.extract 13 17)<1
                ·
                  refine R.qg rfl (q.lss rfl rfl (decide_eq_true (by omega))) rfl<|R.u 1 rfl<|R.nil ?_
                  refine R.aK rfl rfl ?_
                  refine R.reg rfl<|R.q (q.build (cs:=[.int .i64 0,.int .i64 0,.int .i64 0,.int .i64 0]) dq rfl rfl) rfl<|?_
                  refine R.s rfl (s.st (us:=[.int .i64 0,.int .i64 0,.int .i64 0,.int .i64 0]) (cs':=[.int .i64 0,.int .i64 0,.int .i64 0,.int .i64 0]) 1 _ rfl rfl rfl rfl (.inl aN) rfl rfl rfl rfl) fun _=>?_
                  refine R.nil ?_
                  have hz:bh sx=(⟨0,0,0,0⟩:bq):=by (first|(rw [bI (by unfold bE;(first|rw [ag hy1] | rw [ag hy2] | rw [ag hy3] | rw [ag hy4] | rw [ag cU] | rw [ag fU] | rw [ag fV] | rw [ag fW]);omega)];first|done|rfl)|(rw [bA (by unfold bE;(first|rw [ag hy1] | rw [ag hy2] | rw [ag hy3] | rw [ag hy4] | rw [ag cU] | rw [ag fU] | rw [ag fV] | rw [ag fW]);omega)];first|done|rfl))
                  rw [hz]
                  exact R.w1 () [2] [] rfl Try.results54 (RV.cell 1 rfl rfl aN) rfl rfl rfl rfl
                ·
                  refine R.qg rfl (q.lss rfl rfl (decide_eq_false (by omega))) rfl<|R.u 1 rfl<|R.nil ?_
                  refine R.aI rfl rfl ?_
                  refine R.reg rfl<|R.q (q.mD 0 rfl rfl aN) rfl<|?_
                  refine R.s rfl (s.st (us:=[.int .i64 (bP (sx.extract 1 5):Int),.int .i64 (bP (sx.extract 5 9):Int),.int .i64 (bP (sx.extract 9 13):Int),.int .i64 (bP (sx.extract 13 17):Int)]) (cs':=[.int .i64 (bP (sx.extract 1 5):Int),.int .i64 (bP (sx.extract 5 9):Int),.int .i64 (bP (sx.extract 9 13):Int),.int .i64 (bP (sx.extract 13 17):Int)]) 1 _ rfl rfl rfl rfl (.inl aN) rfl rfl rfl rfl) fun _=>?_
                  refine R.nil ?_
                  have hz:bh sx=(⟨(bP (sx.extract 1 5):Int),(bP (sx.extract 5 9):Int),(bP (sx.extract 9 13):Int),(bP (sx.extract 13 17):Int)⟩:bq):=by (first|(rw [bI (by unfold bE;(first|rw [ag hy1] | rw [ag hy2] | rw [ag hy3] | rw [ag hy4] | rw [ag cU] | rw [ag fU] | rw [ag fV] | rw [ag fW]);omega)];first|done|rfl)|(rw [bA (by unfold bE;(first|rw [ag hy1] | rw [ag hy2] | rw [ag hy3] | rw [ag hy4] | rw [ag cU] | rw [ag fU] | rw [ag fV] | rw [ag fW]);omega)];first|done|rfl))
                  rw [hz]
                  exact R.w1 () [2] [] rfl Try.results54 (RV.cell 1 rfl rfl aN) rfl rfl rfl rfl
          ·
            refine R.q (q.neq rfl rfl (bne_iff_ne.2 (by omega))) rfl<|R.u 15 rfl<|R.nil ?_
            refine R.aK rfl rfl ?_
            refine R.reg rfl<|R.q (q.build (cs:=[.int .i64 0,.int .i64 0,.int .i64 0,.int .i64 0]) dq rfl rfl) rfl<|?_
            refine R.s rfl (s.st (us:=[.int .i64 0,.int .i64 0,.int .i64 0,.int .i64 0]) (cs':=[.int .i64 0,.int .i64 0,.int .i64 0,.int .i64 0]) 1 _ rfl rfl rfl rfl (.inl aN) rfl rfl rfl rfl) fun _=>?_
            refine R.nil ?_
            have hz:bh sx=(⟨0,0,0,0⟩:bq):=by (first|(rw [bI (by unfold bE;(first|rw [ag hy1] | rw [ag hy2] | rw [ag hy3] | rw [ag hy4] | rw [ag cU] | rw [ag fU] | rw [ag fV] | rw [ag fW]);omega)];first|done|rfl)|(rw [bA (by unfold bE;(first|rw [ag hy1] | rw [ag hy2] | rw [ag hy3] | rw [ag hy4] | rw [ag cU] | rw [ag fU] | rw [ag fV] | rw [ag fW]);omega)];first|done|rfl))
            rw [hz]
            exact R.w1 () [2] [] rfl Try.results54 (RV.cell 1 rfl rfl aN) rfl rfl rfl rfl
      ·
        refine Do.s (s.alloc (cs:=[.int .i64 0,.int .i64 0,.int .i64 0,.int .i64 0]) eP rfl rfl) (fun _=>(fun _=>Wd.aA [1,2] [] rfl rfl rfl)) rfl fun b4=>?_
        refine D.one (i:=8) (by kernel_rfl) rfl ?_
        refine Do.s (s.c (q.call gL rfl rfl (fun w hw=>(ck ((sx.extract 9 13)) w  (by first|omega|(rw [ByteArray.size_extract];omega))))) rfl) (fun _=>(fun _=>Wd.aA [1,2] [] rfl rfl rfl)) rfl fun _=>?_
        refine D.one (i:=11) (by kernel_rfl) rfl ?_
        refine Do.s (s.c (q.call gL rfl rfl (fun w hw=>(ck ((sx.extract 13 17)) w  (by first|omega|(rw [ByteArray.size_extract];omega))))) rfl) (fun _=>(fun _=>Wd.aA [1,2] [] rfl rfl rfl)) rfl fun _=>?_
        refine D.q (i:=12) rfl (by kernel_rfl) (fun _=>Wd.aA [1,2] [] rfl rfl rfl) rfl (q.build (cs:=[.int .i64 (bP (sx.extract 1 5):Int),.int .i64 (bP (sx.extract 5 9):Int),.int .i64 (bP (sx.extract 9 13):Int),.int .i64 (bP (sx.extract 13 17):Int)]) dq rfl rfl) rfl<|?_
        refine D.one (i:=14) (by kernel_rfl) rfl ?_
        refine Do.s (s.st (us:=[.int .i64 (bP (sx.extract 1 5):Int),.int .i64 (bP (sx.extract 5 9):Int),.int .i64 (bP (sx.extract 9 13):Int),.int .i64 (bP (sx.extract 13 17):Int)]) (cs':=[.int .i64 (bP (sx.extract 1 5):Int),.int .i64 (bP (sx.extract 5 9):Int),.int .i64 (bP (sx.extract 9 13):Int),.int .i64 (bP (sx.extract 13 17):Int)]) 0 _ rfl rfl rfl rfl (.inl aN) rfl rfl rfl rfl) (fun _=>(fun _=>Wd.aA [1,2] [] rfl rfl rfl)) rfl fun _=>?_
        refine D.done (by kernel_rfl)<|?_
        refine R.reg rfl<|R.u 1 rfl<|?_
        obtain ⟨y3,hy3⟩:∃z,sx.data[0]? = some z:=⟨_,Array.getElem?_eq_getElem (show 0<sx.size from by omega)⟩
        have yP:=y3.toNat_lt
        refine R.q (q.dS (i:=0) rfl rfl Try.underlying9 rfl hy3) rfl<|?_
        by_cases h9:y3.toNat=72
        ·
          refine R.q (q.neq rfl rfl (bne_eq_false_iff_eq.2 (by omega))) rfl<|R.u 1 rfl<|R.qg rfl (q.bJ (off':=1) rfl dY rfl) rfl<|R.qg rfl (q.ld 0 rfl rfl aS rfl) rfl<|?_
          by_cases h10:1<bP (sx.extract 5 9)
          ·
            refine R.qg rfl (q.gtr rfl rfl (decide_eq_true (by omega))) rfl<|R.u 11 rfl<|R.nil ?_
            refine R.aK rfl rfl ?_
            refine R.reg rfl<|R.q (q.build (cs:=[.int .i64 0,.int .i64 0,.int .i64 0,.int .i64 0]) dq rfl rfl) rfl<|?_
            refine R.s rfl (s.st (us:=[.int .i64 0,.int .i64 0,.int .i64 0,.int .i64 0]) (cs':=[.int .i64 0,.int .i64 0,.int .i64 0,.int .i64 0]) 1 _ rfl rfl rfl rfl (.inl aN) rfl rfl rfl rfl) fun _=>?_
            refine R.nil ?_
            have hz:bh sx=(⟨0,0,0,0⟩:bq):=by (first|(rw [bI (by unfold bE;(first|rw [ag hy1] | rw [ag hy2] | rw [ag hy3] | rw [ag hy4] | rw [ag cU] | rw [ag fU] | rw [ag fV] | rw [ag fW]);omega)];first|done|rfl)|(rw [bA (by unfold bE;(first|rw [ag hy1] | rw [ag hy2] | rw [ag hy3] | rw [ag hy4] | rw [ag cU] | rw [ag fU] | rw [ag fV] | rw [ag fW]);omega)];first|done|rfl))
            rw [hz]
            exact R.w1 () [2] [] rfl Try.results54 (RV.cell 1 rfl rfl aN) rfl rfl rfl rfl
          ·
            refine R.qg rfl (q.gtr rfl rfl (decide_eq_false (by omega))) rfl<|R.u 2 rfl<|R.qg rfl (q.bJ (off':=2) rfl eZ rfl) rfl<|R.qg rfl (q.ld 0 rfl rfl aS rfl) rfl<|?_
            by_cases h11:2400<bP (sx.extract 9 13)
            ·
              refine R.qg rfl (q.gtr rfl rfl (decide_eq_true (by omega))) rfl<|R.u 6 rfl<|R.nil ?_
              refine R.aK rfl rfl ?_
              refine R.reg rfl<|R.q (q.build (cs:=[.int .i64 0,.int .i64 0,.int .i64 0,.int .i64 0]) dq rfl rfl) rfl<|?_
              refine R.s rfl (s.st (us:=[.int .i64 0,.int .i64 0,.int .i64 0,.int .i64 0]) (cs':=[.int .i64 0,.int .i64 0,.int .i64 0,.int .i64 0]) 1 _ rfl rfl rfl rfl (.inl aN) rfl rfl rfl rfl) fun _=>?_
              refine R.nil ?_
              have hz:bh sx=(⟨0,0,0,0⟩:bq):=by (first|(rw [bI (by unfold bE;(first|rw [ag hy1] | rw [ag hy2] | rw [ag hy3] | rw [ag hy4] | rw [ag cU] | rw [ag fU] | rw [ag fV] | rw [ag fW]);omega)];first|done|rfl)|(rw [bA (by unfold bE;(first|rw [ag hy1] | rw [ag hy2] | rw [ag hy3] | rw [ag hy4] | rw [ag cU] | rw [ag fU] | rw [ag fV] | rw [ag fW]);omega)];first|done|rfl))
              rw [hz]
              exact R.w1 () [2] [] rfl Try.results54 (RV.cell 1 rfl rfl aN) rfl rfl rfl rfl
            ·
              refine R.qg rfl (q.gtr rfl rfl (decide_eq_false (by omega))) rfl<|R.u 2 rfl<|R.qg rfl (q.bJ (off':=3) rfl eH rfl) rfl<|R.qg rfl (q.ld 0 rfl rfl aS rfl) rfl<|?_
              by_cases h12:bP (sx.extract 13 17)<1
              ·
                refine R.qg rfl (q.lss rfl rfl (decide_eq_true (by omega))) rfl<|R.u 1 rfl<|R.nil ?_
                refine R.aK rfl rfl ?_
                refine R.reg rfl<|R.q (q.build (cs:=[.int .i64 0,.int .i64 0,.int .i64 0,.int .i64 0]) dq rfl rfl) rfl<|?_
                refine R.s rfl (s.st (us:=[.int .i64 0,.int .i64 0,.int .i64 0,.int .i64 0]) (cs':=[.int .i64 0,.int .i64 0,.int .i64 0,.int .i64 0]) 1 _ rfl rfl rfl rfl (.inl aN) rfl rfl rfl rfl) fun _=>?_
                refine R.nil ?_
                have hz:bh sx=(⟨0,0,0,0⟩:bq):=by (first|(rw [bI (by unfold bE;(first|rw [ag hy1] | rw [ag hy2] | rw [ag hy3] | rw [ag hy4] | rw [ag cU] | rw [ag fU] | rw [ag fV] | rw [ag fW]);omega)];first|done|rfl)|(rw [bA (by unfold bE;(first|rw [ag hy1] | rw [ag hy2] | rw [ag hy3] | rw [ag hy4] | rw [ag cU] | rw [ag fU] | rw [ag fV] | rw [ag fW]);omega)];first|done|rfl))
                rw [hz]
                exact R.w1 () [2] [] rfl Try.results54 (RV.cell 1 rfl rfl aN) rfl rfl rfl rfl
              ·
                refine R.qg rfl (q.lss rfl rfl (decide_eq_false (by omega))) rfl<|R.u 1 rfl<|R.nil ?_
                refine R.aI rfl rfl ?_
                refine R.reg rfl<|R.q (q.mD 0 rfl rfl aN) rfl<|?_
                refine R.s rfl (s.st (us:=[.int .i64 (bP (sx.extract 1 5):Int),.int .i64 (bP (sx.extract 5 9):Int),.int .i64 (bP (sx.extract 9 13):Int),.int .i64 (bP (sx.extract 13 17):Int)]) (cs':=[.int .i64 (bP (sx.extract 1 5):Int),.int .i64 (bP (sx.extract 5 9):Int),.int .i64 (bP (sx.extract 9 13):Int),.int .i64 (bP (sx.extract 13 17):Int)]) 1 _ rfl rfl rfl rfl (.inl aN) rfl rfl rfl rfl) fun _=>?_
                refine R.nil ?_
                have hz:bh sx=(⟨(bP (sx.extract 1 5):Int),(bP (sx.extract 5 9):Int),(bP (sx.extract 9 13):Int),(bP (sx.extract 13 17):Int)⟩:bq):=by (first|(rw [bI (by unfold bE;(first|rw [ag hy1] | rw [ag hy2] | rw [ag hy3] | rw [ag hy4] | rw [ag cU] | rw [ag fU] | rw [ag fV] | rw [ag fW]);omega)];first|done|rfl)|(rw [bA (by unfold bE;(first|rw [ag hy1] | rw [ag hy2] | rw [ag hy3] | rw [ag hy4] | rw [ag cU] | rw [ag fU] | rw [ag fV] | rw [ag fW]);omega)];first|done|rfl))
                rw [hz]
                exact R.w1 () [2] [] rfl Try.results54 (RV.cell 1 rfl rfl aN) rfl rfl rfl rfl
        ·
          refine R.q (q.neq rfl rfl (bne_iff_ne.2 (by omega))) rfl<|R.u 15 rfl<|R.nil ?_
          refine R.aK rfl rfl ?_
          refine R.reg rfl<|R.q (q.build (cs:=[.int .i64 0,.int .i64 0,.int .i64 0,.int .i64 0]) dq rfl rfl) rfl<|?_
          refine R.s rfl (s.st (us:=[.int .i64 0,.int .i64 0,.int .i64 0,.int .i64 0]) (cs':=[.int .i64 0,.int .i64 0,.int .i64 0,.int .i64 0]) 1 _ rfl rfl rfl rfl (.inl aN) rfl rfl rfl rfl) fun _=>?_
          refine R.nil ?_
          have hz:bh sx=(⟨0,0,0,0⟩:bq):=by (first|(rw [bI (by unfold bE;(first|rw [ag hy1] | rw [ag hy2] | rw [ag hy3] | rw [ag hy4] | rw [ag cU] | rw [ag fU] | rw [ag fV] | rw [ag fW]);omega)];first|done|rfl)|(rw [bA (by unfold bE;(first|rw [ag hy1] | rw [ag hy2] | rw [ag hy3] | rw [ag hy4] | rw [ag cU] | rw [ag fU] | rw [ag fV] | rw [ag fW]);omega)];first|done|rfl))
          rw [hz]
          exact R.w1 () [2] [] rfl Try.results54 (RV.cell 1 rfl rfl aN) rfl rfl rfl rfl
    ·
      refine Do.s (s.alloc (cs:=[.int .i64 0,.int .i64 0,.int .i64 0,.int .i64 0]) eP rfl rfl) (fun _=>(fun _=>Wd.aA [1,2] [] rfl rfl rfl)) rfl fun b5=>?_
      refine D.one (i:=5) (by kernel_rfl) rfl ?_
      refine Do.s (s.c (q.call gL rfl rfl (fun w hw=>(ck ((sx.extract 5 9)) w  (by first|omega|(rw [ByteArray.size_extract];omega))))) rfl) (fun _=>(fun _=>Wd.aA [1,2] [] rfl rfl rfl)) rfl fun _=>?_
      refine D.one (i:=8) (by kernel_rfl) rfl ?_
      refine Do.s (s.c (q.call gL rfl rfl (fun w hw=>(ck ((sx.extract 9 13)) w  (by first|omega|(rw [ByteArray.size_extract];omega))))) rfl) (fun _=>(fun _=>Wd.aA [1,2] [] rfl rfl rfl)) rfl fun _=>?_
      refine D.one (i:=11) (by kernel_rfl) rfl ?_
      refine Do.s (s.c (q.call gL rfl rfl (fun w hw=>(ck ((sx.extract 13 17)) w  (by first|omega|(rw [ByteArray.size_extract];omega))))) rfl) (fun _=>(fun _=>Wd.aA [1,2] [] rfl rfl rfl)) rfl fun _=>?_
      refine D.q (i:=12) rfl (by kernel_rfl) (fun _=>Wd.aA [1,2] [] rfl rfl rfl) rfl (q.build (cs:=[.int .i64 (bP (sx.extract 1 5):Int),.int .i64 (bP (sx.extract 5 9):Int),.int .i64 (bP (sx.extract 9 13):Int),.int .i64 (bP (sx.extract 13 17):Int)]) dq rfl rfl) rfl<|?_
      refine D.one (i:=14) (by kernel_rfl) rfl ?_
      refine Do.s (s.st (us:=[.int .i64 (bP (sx.extract 1 5):Int),.int .i64 (bP (sx.extract 5 9):Int),.int .i64 (bP (sx.extract 9 13):Int),.int .i64 (bP (sx.extract 13 17):Int)]) (cs':=[.int .i64 (bP (sx.extract 1 5):Int),.int .i64 (bP (sx.extract 5 9):Int),.int .i64 (bP (sx.extract 9 13):Int),.int .i64 (bP (sx.extract 13 17):Int)]) 0 _ rfl rfl rfl rfl (.inl aN) rfl rfl rfl rfl) (fun _=>(fun _=>Wd.aA [1,2] [] rfl rfl rfl)) rfl fun _=>?_
      refine D.done (by kernel_rfl)<|?_
      refine R.reg rfl<|R.u 1 rfl<|?_
      obtain ⟨y4,hy4⟩:∃z,sx.data[0]? = some z:=⟨_,Array.getElem?_eq_getElem (show 0<sx.size from by omega)⟩
      have zf:=y4.toNat_lt
      refine R.q (q.dS (i:=0) rfl rfl Try.underlying9 rfl hy4) rfl<|?_
      by_cases Aw:y4.toNat=72
      ·
        refine R.q (q.neq rfl rfl (bne_eq_false_iff_eq.2 (by omega))) rfl<|R.u 1 rfl<|R.qg rfl (q.bJ (off':=1) rfl dY rfl) rfl<|R.qg rfl (q.ld 0 rfl rfl aS rfl) rfl<|?_
        by_cases Ax:1<bP (sx.extract 5 9)
        ·
          refine R.qg rfl (q.gtr rfl rfl (decide_eq_true (by omega))) rfl<|R.u 11 rfl<|R.nil ?_
          refine R.aK rfl rfl ?_
          refine R.reg rfl<|R.q (q.build (cs:=[.int .i64 0,.int .i64 0,.int .i64 0,.int .i64 0]) dq rfl rfl) rfl<|?_
          refine R.s rfl (s.st (us:=[.int .i64 0,.int .i64 0,.int .i64 0,.int .i64 0]) (cs':=[.int .i64 0,.int .i64 0,.int .i64 0,.int .i64 0]) 1 _ rfl rfl rfl rfl (.inl aN) rfl rfl rfl rfl) fun _=>?_
          refine R.nil ?_
          have hz:bh sx=(⟨0,0,0,0⟩:bq):=by (first|(rw [bI (by unfold bE;(first|rw [ag hy1] | rw [ag hy2] | rw [ag hy3] | rw [ag hy4] | rw [ag cU] | rw [ag fU] | rw [ag fV] | rw [ag fW]);omega)];first|done|rfl)|(rw [bA (by unfold bE;(first|rw [ag hy1] | rw [ag hy2] | rw [ag hy3] | rw [ag hy4] | rw [ag cU] | rw [ag fU] | rw [ag fV] | rw [ag fW]);omega)];first|done|rfl))
          rw [hz]
          exact R.w1 () [2] [] rfl Try.results54 (RV.cell 1 rfl rfl aN) rfl rfl rfl rfl
        ·
          refine R.qg rfl (q.gtr rfl rfl (decide_eq_false (by omega))) rfl<|R.u 2 rfl<|R.qg rfl (q.bJ (off':=2) rfl eZ rfl) rfl<|R.qg rfl (q.ld 0 rfl rfl aS rfl) rfl<|?_
          by_cases Ay:2400<bP (sx.extract 9 13)
          ·
            refine R.qg rfl (q.gtr rfl rfl (decide_eq_true (by omega))) rfl<|R.u 6 rfl<|R.nil ?_
            refine R.aK rfl rfl ?_
            refine R.reg rfl<|R.q (q.build (cs:=[.int .i64 0,.int .i64 0,.int .i64 0,.int .i64 0]) dq rfl rfl) rfl<|?_
            refine R.s rfl (s.st (us:=[.int .i64 0,.int .i64 0,.int .i64 0,.int .i64 0]) (cs':=[.int .i64 0,.int .i64 0,.int .i64 0,.int .i64 0]) 1 _ rfl rfl rfl rfl (.inl aN) rfl rfl rfl rfl) fun _=>?_
            refine R.nil ?_
            have hz:bh sx=(⟨0,0,0,0⟩:bq):=by (first|(rw [bI (by unfold bE;(first|rw [ag hy1] | rw [ag hy2] | rw [ag hy3] | rw [ag hy4] | rw [ag cU] | rw [ag fU] | rw [ag fV] | rw [ag fW]);omega)];first|done|rfl)|(rw [bA (by unfold bE;(first|rw [ag hy1] | rw [ag hy2] | rw [ag hy3] | rw [ag hy4] | rw [ag cU] | rw [ag fU] | rw [ag fV] | rw [ag fW]);omega)];first|done|rfl))
            rw [hz]
            exact R.w1 () [2] [] rfl Try.results54 (RV.cell 1 rfl rfl aN) rfl rfl rfl rfl
          ·
            refine R.qg rfl (q.gtr rfl rfl (decide_eq_false (by omega))) rfl<|R.u 2 rfl<|R.qg rfl (q.bJ (off':=3) rfl eH rfl) rfl<|R.qg rfl (q.ld 0 rfl rfl aS rfl) rfl<|?_
            by_cases h16:bP (sx.extract 13 17)<1
            ·
              refine R.qg rfl (q.lss rfl rfl (decide_eq_true (by omega))) rfl<|R.u 1 rfl<|R.nil ?_
              refine R.aK rfl rfl ?_
              refine R.reg rfl<|R.q (q.build (cs:=[.int .i64 0,.int .i64 0,.int .i64 0,.int .i64 0]) dq rfl rfl) rfl<|?_
              refine R.s rfl (s.st (us:=[.int .i64 0,.int .i64 0,.int .i64 0,.int .i64 0]) (cs':=[.int .i64 0,.int .i64 0,.int .i64 0,.int .i64 0]) 1 _ rfl rfl rfl rfl (.inl aN) rfl rfl rfl rfl) fun _=>?_
              refine R.nil ?_
              have hz:bh sx=(⟨0,0,0,0⟩:bq):=by (first|(rw [bI (by unfold bE;(first|rw [ag hy1] | rw [ag hy2] | rw [ag hy3] | rw [ag hy4] | rw [ag cU] | rw [ag fU] | rw [ag fV] | rw [ag fW]);omega)];first|done|rfl)|(rw [bA (by unfold bE;(first|rw [ag hy1] | rw [ag hy2] | rw [ag hy3] | rw [ag hy4] | rw [ag cU] | rw [ag fU] | rw [ag fV] | rw [ag fW]);omega)];first|done|rfl))
              rw [hz]
              exact R.w1 () [2] [] rfl Try.results54 (RV.cell 1 rfl rfl aN) rfl rfl rfl rfl
            ·
              refine R.qg rfl (q.lss rfl rfl (decide_eq_false (by omega))) rfl<|R.u 1 rfl<|R.nil ?_
              refine R.aI rfl rfl ?_
              refine R.reg rfl<|R.q (q.mD 0 rfl rfl aN) rfl<|?_
              refine R.s rfl (s.st (us:=[.int .i64 (bP (sx.extract 1 5):Int),.int .i64 (bP (sx.extract 5 9):Int),.int .i64 (bP (sx.extract 9 13):Int),.int .i64 (bP (sx.extract 13 17):Int)]) (cs':=[.int .i64 (bP (sx.extract 1 5):Int),.int .i64 (bP (sx.extract 5 9):Int),.int .i64 (bP (sx.extract 9 13):Int),.int .i64 (bP (sx.extract 13 17):Int)]) 1 _ rfl rfl rfl rfl (.inl aN) rfl rfl rfl rfl) fun _=>?_
              refine R.nil ?_
              have hz:bh sx=(⟨(bP (sx.extract 1 5):Int),(bP (sx.extract 5 9):Int),(bP (sx.extract 9 13):Int),(bP (sx.extract 13 17):Int)⟩:bq):=by (first|(rw [bI (by unfold bE;(first|rw [ag hy1] | rw [ag hy2] | rw [ag hy3] | rw [ag hy4] | rw [ag cU] | rw [ag fU] | rw [ag fV] | rw [ag fW]);omega)];first|done|rfl)|(rw [bA (by unfold bE;(first|rw [ag hy1] | rw [ag hy2] | rw [ag hy3] | rw [ag hy4] | rw [ag cU] | rw [ag fU] | rw [ag fV] | rw [ag fW]);omega)];first|done|rfl))
              rw [hz]
              exact R.w1 () [2] [] rfl Try.results54 (RV.cell 1 rfl rfl aN) rfl rfl rfl rfl
      ·
        refine R.q (q.neq rfl rfl (bne_iff_ne.2 (by omega))) rfl<|R.u 15 rfl<|R.nil ?_
        refine R.aK rfl rfl ?_
        refine R.reg rfl<|R.q (q.build (cs:=[.int .i64 0,.int .i64 0,.int .i64 0,.int .i64 0]) dq rfl rfl) rfl<|?_
        refine R.s rfl (s.st (us:=[.int .i64 0,.int .i64 0,.int .i64 0,.int .i64 0]) (cs':=[.int .i64 0,.int .i64 0,.int .i64 0,.int .i64 0]) 1 _ rfl rfl rfl rfl (.inl aN) rfl rfl rfl rfl) fun _=>?_
        refine R.nil ?_
        have hz:bh sx=(⟨0,0,0,0⟩:bq):=by (first|(rw [bI (by unfold bE;(first|rw [ag hy1] | rw [ag hy2] | rw [ag hy3] | rw [ag hy4] | rw [ag cU] | rw [ag fU] | rw [ag fV] | rw [ag fW]);omega)];first|done|rfl)|(rw [bA (by unfold bE;(first|rw [ag hy1] | rw [ag hy2] | rw [ag hy3] | rw [ag hy4] | rw [ag cU] | rw [ag fU] | rw [ag fV] | rw [ag fW]);omega)];first|done|rfl))
        rw [hz]
        exact R.w1 () [2] [] rfl Try.results54 (RV.cell 1 rfl rfl aN) rfl rfl rfl rfl
  ·
    refine Do.s (s.alloc (cs:=[.int .i64 0,.int .i64 0,.int .i64 0,.int .i64 0]) eP rfl rfl) (fun _=>(fun _=>Wd.aA [1,2] [] rfl rfl rfl)) rfl fun b6=>?_
    refine D.one (i:=2) (by kernel_rfl) rfl ?_
    refine Do.s (s.c (q.call gL rfl rfl (fun w hw=>(ck ((sx.extract 1 5)) w  (by first|omega|(rw [ByteArray.size_extract];omega))))) rfl) (fun _=>(fun _=>Wd.aA [1,2] [] rfl rfl rfl)) rfl fun _=>?_
    refine D.one (i:=5) (by kernel_rfl) rfl ?_
    refine Do.s (s.c (q.call gL rfl rfl (fun w hw=>(ck ((sx.extract 5 9)) w  (by first|omega|(rw [ByteArray.size_extract];omega))))) rfl) (fun _=>(fun _=>Wd.aA [1,2] [] rfl rfl rfl)) rfl fun _=>?_
    refine D.one (i:=8) (by kernel_rfl) rfl ?_
    refine Do.s (s.c (q.call gL rfl rfl (fun w hw=>(ck ((sx.extract 9 13)) w  (by first|omega|(rw [ByteArray.size_extract];omega))))) rfl) (fun _=>(fun _=>Wd.aA [1,2] [] rfl rfl rfl)) rfl fun _=>?_
    refine D.one (i:=11) (by kernel_rfl) rfl ?_
    refine Do.s (s.c (q.call gL rfl rfl (fun w hw=>(ck ((sx.extract 13 17)) w  (by first|omega|(rw [ByteArray.size_extract];omega))))) rfl) (fun _=>(fun _=>Wd.aA [1,2] [] rfl rfl rfl)) rfl fun _=>?_
    refine D.q (i:=12) rfl (by kernel_rfl) (fun _=>Wd.aA [1,2] [] rfl rfl rfl) rfl (q.build (cs:=[.int .i64 (bP (sx.extract 1 5):Int),.int .i64 (bP (sx.extract 5 9):Int),.int .i64 (bP (sx.extract 9 13):Int),.int .i64 (bP (sx.extract 13 17):Int)]) dq rfl rfl) rfl<|?_
    refine D.one (i:=14) (by kernel_rfl) rfl ?_
    refine Do.s (s.st (us:=[.int .i64 (bP (sx.extract 1 5):Int),.int .i64 (bP (sx.extract 5 9):Int),.int .i64 (bP (sx.extract 9 13):Int),.int .i64 (bP (sx.extract 13 17):Int)]) (cs':=[.int .i64 (bP (sx.extract 1 5):Int),.int .i64 (bP (sx.extract 5 9):Int),.int .i64 (bP (sx.extract 9 13):Int),.int .i64 (bP (sx.extract 13 17):Int)]) 0 _ rfl rfl rfl rfl (.inl aN) rfl rfl rfl rfl) (fun _=>(fun _=>Wd.aA [1,2] [] rfl rfl rfl)) rfl fun _=>?_
    refine D.done (by kernel_rfl)<|?_
    refine R.reg rfl<|R.u 1 rfl<|?_
    obtain ⟨y5,cU⟩:∃z,sx.data[0]? = some z:=⟨_,Array.getElem?_eq_getElem (show 0<sx.size from by omega)⟩
    have zO:=y5.toNat_lt
    refine R.q (q.dS (i:=0) rfl rfl Try.underlying9 rfl cU) rfl<|?_
    by_cases Az:y5.toNat=72
    ·
      refine R.q (q.neq rfl rfl (bne_eq_false_iff_eq.2 (by omega))) rfl<|R.u 1 rfl<|R.qg rfl (q.bJ (off':=1) rfl dY rfl) rfl<|R.qg rfl (q.ld 0 rfl rfl aS rfl) rfl<|?_
      by_cases h18:1<bP (sx.extract 5 9)
      ·
        refine R.qg rfl (q.gtr rfl rfl (decide_eq_true (by omega))) rfl<|R.u 11 rfl<|R.nil ?_
        refine R.aK rfl rfl ?_
        refine R.reg rfl<|R.q (q.build (cs:=[.int .i64 0,.int .i64 0,.int .i64 0,.int .i64 0]) dq rfl rfl) rfl<|?_
        refine R.s rfl (s.st (us:=[.int .i64 0,.int .i64 0,.int .i64 0,.int .i64 0]) (cs':=[.int .i64 0,.int .i64 0,.int .i64 0,.int .i64 0]) 1 _ rfl rfl rfl rfl (.inl aN) rfl rfl rfl rfl) fun _=>?_
        refine R.nil ?_
        have hz:bh sx=(⟨0,0,0,0⟩:bq):=by (first|(rw [bI (by unfold bE;(first|rw [ag hy1] | rw [ag hy2] | rw [ag hy3] | rw [ag hy4] | rw [ag cU] | rw [ag fU] | rw [ag fV] | rw [ag fW]);omega)];first|done|rfl)|(rw [bA (by unfold bE;(first|rw [ag hy1] | rw [ag hy2] | rw [ag hy3] | rw [ag hy4] | rw [ag cU] | rw [ag fU] | rw [ag fV] | rw [ag fW]);omega)];first|done|rfl))
        rw [hz]
        exact R.w1 () [2] [] rfl Try.results54 (RV.cell 1 rfl rfl aN) rfl rfl rfl rfl
      ·
        refine R.qg rfl (q.gtr rfl rfl (decide_eq_false (by omega))) rfl<|R.u 2 rfl<|R.qg rfl (q.bJ (off':=2) rfl eZ rfl) rfl<|R.qg rfl (q.ld 0 rfl rfl aS rfl) rfl<|?_
        by_cases h19:2400<bP (sx.extract 9 13)
        ·
          refine R.qg rfl (q.gtr rfl rfl (decide_eq_true (by omega))) rfl<|R.u 6 rfl<|R.nil ?_
          refine R.aK rfl rfl ?_
          refine R.reg rfl<|R.q (q.build (cs:=[.int .i64 0,.int .i64 0,.int .i64 0,.int .i64 0]) dq rfl rfl) rfl<|?_
          refine R.s rfl (s.st (us:=[.int .i64 0,.int .i64 0,.int .i64 0,.int .i64 0]) (cs':=[.int .i64 0,.int .i64 0,.int .i64 0,.int .i64 0]) 1 _ rfl rfl rfl rfl (.inl aN) rfl rfl rfl rfl) fun _=>?_
          refine R.nil ?_
          have hz:bh sx=(⟨0,0,0,0⟩:bq):=by (first|(rw [bI (by unfold bE;(first|rw [ag hy1] | rw [ag hy2] | rw [ag hy3] | rw [ag hy4] | rw [ag cU] | rw [ag fU] | rw [ag fV] | rw [ag fW]);omega)];first|done|rfl)|(rw [bA (by unfold bE;(first|rw [ag hy1] | rw [ag hy2] | rw [ag hy3] | rw [ag hy4] | rw [ag cU] | rw [ag fU] | rw [ag fV] | rw [ag fW]);omega)];first|done|rfl))
          rw [hz]
          exact R.w1 () [2] [] rfl Try.results54 (RV.cell 1 rfl rfl aN) rfl rfl rfl rfl
        ·
          refine R.qg rfl (q.gtr rfl rfl (decide_eq_false (by omega))) rfl<|R.u 2 rfl<|R.qg rfl (q.bJ (off':=3) rfl eH rfl) rfl<|R.qg rfl (q.ld 0 rfl rfl aS rfl) rfl<|?_
          by_cases h20:bP (sx.extract 13 17)<1
          ·
            refine R.qg rfl (q.lss rfl rfl (decide_eq_true (by omega))) rfl<|R.u 1 rfl<|R.nil ?_
            refine R.aK rfl rfl ?_
            refine R.reg rfl<|R.q (q.build (cs:=[.int .i64 0,.int .i64 0,.int .i64 0,.int .i64 0]) dq rfl rfl) rfl<|?_
            refine R.s rfl (s.st (us:=[.int .i64 0,.int .i64 0,.int .i64 0,.int .i64 0]) (cs':=[.int .i64 0,.int .i64 0,.int .i64 0,.int .i64 0]) 1 _ rfl rfl rfl rfl (.inl aN) rfl rfl rfl rfl) fun _=>?_
            refine R.nil ?_
            have hz:bh sx=(⟨0,0,0,0⟩:bq):=by (first|(rw [bI (by unfold bE;(first|rw [ag hy1] | rw [ag hy2] | rw [ag hy3] | rw [ag hy4] | rw [ag cU] | rw [ag fU] | rw [ag fV] | rw [ag fW]);omega)];first|done|rfl)|(rw [bA (by unfold bE;(first|rw [ag hy1] | rw [ag hy2] | rw [ag hy3] | rw [ag hy4] | rw [ag cU] | rw [ag fU] | rw [ag fV] | rw [ag fW]);omega)];first|done|rfl))
            rw [hz]
            exact R.w1 () [2] [] rfl Try.results54 (RV.cell 1 rfl rfl aN) rfl rfl rfl rfl
          ·
            refine R.qg rfl (q.lss rfl rfl (decide_eq_false (by omega))) rfl<|R.u 1 rfl<|R.nil ?_
            refine R.aI rfl rfl ?_
            refine R.reg rfl<|R.q (q.mD 0 rfl rfl aN) rfl<|?_
            refine R.s rfl (s.st (us:=[.int .i64 (bP (sx.extract 1 5):Int),.int .i64 (bP (sx.extract 5 9):Int),.int .i64 (bP (sx.extract 9 13):Int),.int .i64 (bP (sx.extract 13 17):Int)]) (cs':=[.int .i64 (bP (sx.extract 1 5):Int),.int .i64 (bP (sx.extract 5 9):Int),.int .i64 (bP (sx.extract 9 13):Int),.int .i64 (bP (sx.extract 13 17):Int)]) 1 _ rfl rfl rfl rfl (.inl aN) rfl rfl rfl rfl) fun _=>?_
            refine R.nil ?_
            have hz:bh sx=(⟨(bP (sx.extract 1 5):Int),(bP (sx.extract 5 9):Int),(bP (sx.extract 9 13):Int),(bP (sx.extract 13 17):Int)⟩:bq):=by (first|(rw [bI (by unfold bE;(first|rw [ag hy1] | rw [ag hy2] | rw [ag hy3] | rw [ag hy4] | rw [ag cU] | rw [ag fU] | rw [ag fV] | rw [ag fW]);omega)];first|done|rfl)|(rw [bA (by unfold bE;(first|rw [ag hy1] | rw [ag hy2] | rw [ag hy3] | rw [ag hy4] | rw [ag cU] | rw [ag fU] | rw [ag fV] | rw [ag fW]);omega)];first|done|rfl))
            rw [hz]
            exact R.w1 () [2] [] rfl Try.results54 (RV.cell 1 rfl rfl aN) rfl rfl rfl rfl
    ·
      refine R.q (q.neq rfl rfl (bne_iff_ne.2 (by omega))) rfl<|R.u 15 rfl<|R.nil ?_
      refine R.aK rfl rfl ?_
      refine R.reg rfl<|R.q (q.build (cs:=[.int .i64 0,.int .i64 0,.int .i64 0,.int .i64 0]) dq rfl rfl) rfl<|?_
      refine R.s rfl (s.st (us:=[.int .i64 0,.int .i64 0,.int .i64 0,.int .i64 0]) (cs':=[.int .i64 0,.int .i64 0,.int .i64 0,.int .i64 0]) 1 _ rfl rfl rfl rfl (.inl aN) rfl rfl rfl rfl) fun _=>?_
      refine R.nil ?_
      have hz:bh sx=(⟨0,0,0,0⟩:bq):=by (first|(rw [bI (by unfold bE;(first|rw [ag hy1] | rw [ag hy2] | rw [ag hy3] | rw [ag hy4] | rw [ag cU] | rw [ag fU] | rw [ag fV] | rw [ag fW]);omega)];first|done|rfl)|(rw [bA (by unfold bE;(first|rw [ag hy1] | rw [ag hy2] | rw [ag hy3] | rw [ag hy4] | rw [ag cU] | rw [ag fU] | rw [ag fV] | rw [ag fW]);omega)];first|done|rfl))
      rw [hz]
      exact R.w1 () [2] [] rfl Try.results54 (RV.cell 1 rfl rfl aN) rfl rfl rfl rfl
structure gV where
  Epoch:Int
  Side:Int
  Size:Int
  First:Int
  Rows:List Change
def iQ.c (st:iQ):gV:=⟨st.Epoch,st.Side,st.Size,st.First,st.Rows⟩
theorem jg {t:ByteArray}{x y z:UInt8}(hx:t.data[0]? = some x)(hy:t.data[1]? = some y)(hz:t.data[2]? = some z):jf t=3+x.toNat+y.toNat+256*z.toNat:=by
  unfold jf;rw [ag hx,ag hy,ag hz]
theorem nA {t:ByteArray}{x y z:UInt8}{c:Change}(hx:t.data[0]? = some x)(hy:t.data[1]? = some y)(hz:t.data[2]? = some z)(hc:c=⟨t.extract 3 (3+x.toNat),t.extract (3+x.toNat) (3+x.toNat+y.toNat+256*z.toNat),false⟩):l4 t=c:=by
  rw [hc];unfold l4;rw [jg hx hy hz,ag hx]
theorem rX (sx:ByteArray)(w:World)(own:List Nat)(H:Wd w (blks []++own) ([]++[ah.held w own]) [] w)(hs:sx.size≤2400):Calls Try.prog 55 #[.string sx] w fun e w' => ∃z:Value,e = .returned (.tuple #[z,.bool (((cp sx)).2)])∧Wd w (blks []++own) ([ah.row 51 z (((cp sx)).1:List Change)]++[ah.held w own]) [] w':=by
  refine R.bW (n:=64) (vs:=[.string sx]) (B:=[ah.held w own]) [(0,.string sx)] Try.func55 rfl rfl rfl rfl H ?_
  refine R.reg rfl<|R.u 2 rfl<|R.nil ?_
  refine R.reg rfl<|R.u 1 rfl<|R.nil ?_
  refine R.row0 (α:=Change) 51 ?_
  refine R.loop (fun g_:ByteArray×Nat×Value×(List Change)=>[(0,.string g_.1),(4,g_.2.2.1)]) (fun g_:ByteArray×Nat×Value×(List Change)=>[ah.row 51 g_.2.2.1 (g_.2.2.2:List Change),ah.held w own]) (fun g_:ByteArray×Nat×Value×(List Change)=>[]) (fun g_:ByteArray×Nat×Value×(List Change)=>g_.1.size+g_.2.2.2.length≤2400∧g_.1.size<g_.2.1∧iO g_.2.1 g_.1 g_.2.2.2=cp sx) (fun g_:ByteArray×Nat×Value×(List Change)=>g_.2.1) (sx,sx.size+1,(.slice none 0 0),[]) rfl (by dsimp only;exact ⟨by simp;omega,by omega,rfl⟩) ⟨rfl,rfl,trivial⟩ (fun _=>Wd.pick [0,1] [] rfl rfl rfl) ?_
  rintro ⟨tt,k,u,rs⟩ ⟨hl,hk,HP⟩
  dsimp only at *
  refine R.reg rfl<|R.u 1 rfl<|?_
  by_cases h1:tt=⟨#[]⟩
  ·
    refine R.q (q.j0 rfl rfl h1) rfl<|R.nil ?_
    refine R.aI rfl rfl ?_
    refine R.reg rfl<|R.u 3 rfl<|R.nil ?_
    have hz:cp sx=(rs,true):=by (first|exact (lf HP hk (by assumption))|exact (gR HP hk (by assumption) (.inl (by omega)))|exact (gR HP hk (by assumption) (.inr (by rw [jg hy1 hy2 hy3];omega)))|exact (jt HP hk (by assumption) (by rw [jg hy1 hy2 hy3];omega) (by rw [nA hy1 hy2 hy3 rfl];assumption)))
    rw [hz]
    exact R.w2 u [0,1] [] rfl Try.results55 (RV.tmp rfl) (RV.tmp rfl) rfl rfl rfl (oD rfl rfl)
  ·
    refine R.q (q.lq rfl rfl h1) rfl<|R.nil ?_
    refine R.aK rfl rfl ?_
    by_cases h2:tt.size<3
    ·
      refine R.d9 rfl mixed (by kernel_rfl)<|Q.u 1 rfl<|Q.q (q.fN rfl Try.underlying9) rfl<|Q.q (q.lss rfl rfl (decide_eq_true (by omega))) rfl<|Q.u 18 rfl<|Q.nil ?_
      refine R.aK rfl rfl ?_
      refine R.reg rfl<|R.u 2 rfl<|R.nil ?_
      refine R.row0 (α:=Change) 51 ?_
      have hz:cp sx=([],false):=by (first|exact (lf HP hk (by assumption))|exact (gR HP hk (by assumption) (.inl (by omega)))|exact (gR HP hk (by assumption) (.inr (by rw [jg hy1 hy2 hy3];omega)))|exact (jt HP hk (by assumption) (by rw [jg hy1 hy2 hy3];omega) (by rw [nA hy1 hy2 hy3 rfl];assumption)))
      rw [hz]
      exact R.w2 (.slice none 0 0) [0,2] [] rfl Try.results55 (RV.tmp rfl) (RV.tmp rfl) rfl rfl rfl (oD rfl rfl)
    ·
      obtain ⟨y1,hy1⟩:∃z,tt.data[0]? = some z:=⟨_,Array.getElem?_eq_getElem (show 0<tt.size from by omega)⟩
      have yt:=y1.toNat_lt
      obtain ⟨y2,hy2⟩:∃z,tt.data[1]? = some z:=⟨_,Array.getElem?_eq_getElem (show 1<tt.size from by omega)⟩
      have yu:=y2.toNat_lt
      obtain ⟨y3,hy3⟩:∃z,tt.data[2]? = some z:=⟨_,Array.getElem?_eq_getElem (show 2<tt.size from by omega)⟩
      have yP:=y3.toNat_lt
      by_cases h3:tt.size<(((3+y1.toNat)+y2.toNat)+(256*y3.toNat))
      ·
        refine R.d9 rfl mixed (by kernel_rfl)<|Q.u 1 rfl<|Q.q (q.fN rfl Try.underlying9) rfl<|Q.q (q.lss rfl rfl (decide_eq_false (by omega))) rfl<|Q.u 2 rfl<|Q.qg rfl (q.dS (i:=0) rfl rfl Try.underlying9 rfl hy1) rfl<|Q.qg rfl (q.iu (r:=((y1.toNat:Nat):Int)) rfl (by rw [Try.underlying5];rfl) Try.underlying3 (wr (by omega))) rfl<|Q.qg rfl (q.add (r:=((3+y1.toNat:Nat):Int)) rfl rfl (wr (by omega))) rfl<|Q.u 1 rfl<|Q.qg rfl (q.dS (i:=1) rfl rfl Try.underlying9 rfl hy2) rfl<|Q.qg rfl (q.iu (r:=((y2.toNat:Nat):Int)) rfl (by rw [Try.underlying5];rfl) Try.underlying3 (wr (by omega))) rfl<|Q.qg rfl (q.add (r:=(((3+y1.toNat)+y2.toNat:Nat):Int)) rfl rfl (wr (by omega))) rfl<|Q.u 1 rfl<|Q.qg rfl (q.dS (i:=2) rfl rfl Try.underlying9 rfl hy3) rfl<|Q.qg rfl (q.iu (r:=((y3.toNat:Nat):Int)) rfl (by rw [Try.underlying5];rfl) Try.underlying3 (wr (by omega))) rfl<|Q.qg rfl (q.mul (r:=((256*y3.toNat:Nat):Int)) rfl rfl (wr (by omega))) rfl<|Q.qg rfl (q.add (r:=((((3+y1.toNat)+y2.toNat)+(256*y3.toNat):Nat):Int)) rfl rfl (wr (by omega))) rfl<|Q.u 1 rfl<|Q.qg rfl (q.fN rfl Try.underlying9) rfl<|Q.qg rfl (q.gtr rfl rfl (decide_eq_true (by omega))) rfl<|Q.u 1 rfl<|Q.nil ?_
        refine R.aK rfl rfl ?_
        refine R.reg rfl<|R.u 2 rfl<|R.nil ?_
        refine R.row0 (α:=Change) 51 ?_
        have hz:cp sx=([],false):=by (first|exact (lf HP hk (by assumption))|exact (gR HP hk (by assumption) (.inl (by omega)))|exact (gR HP hk (by assumption) (.inr (by rw [jg hy1 hy2 hy3];omega)))|exact (jt HP hk (by assumption) (by rw [jg hy1 hy2 hy3];omega) (by rw [nA hy1 hy2 hy3 rfl];assumption)))
        rw [hz]
        exact R.w2 (.slice none 0 0) [0,2] [] rfl Try.results55 (RV.tmp rfl) (RV.tmp rfl) rfl rfl rfl (oD rfl rfl)
      ·
        refine R.d9 rfl mixed (by kernel_rfl)<|Q.u 1 rfl<|Q.q (q.fN rfl Try.underlying9) rfl<|Q.q (q.lss rfl rfl (decide_eq_false (by omega))) rfl<|Q.u 2 rfl<|Q.qg rfl (q.dS (i:=0) rfl rfl Try.underlying9 rfl hy1) rfl<|Q.qg rfl (q.iu (r:=((y1.toNat:Nat):Int)) rfl (by rw [Try.underlying5];rfl) Try.underlying3 (wr (by omega))) rfl<|Q.qg rfl (q.add (r:=((3+y1.toNat:Nat):Int)) rfl rfl (wr (by omega))) rfl<|Q.u 1 rfl<|Q.qg rfl (q.dS (i:=1) rfl rfl Try.underlying9 rfl hy2) rfl<|Q.qg rfl (q.iu (r:=((y2.toNat:Nat):Int)) rfl (by rw [Try.underlying5];rfl) Try.underlying3 (wr (by omega))) rfl<|Q.qg rfl (q.add (r:=(((3+y1.toNat)+y2.toNat:Nat):Int)) rfl rfl (wr (by omega))) rfl<|Q.u 1 rfl<|Q.qg rfl (q.dS (i:=2) rfl rfl Try.underlying9 rfl hy3) rfl<|Q.qg rfl (q.iu (r:=((y3.toNat:Nat):Int)) rfl (by rw [Try.underlying5];rfl) Try.underlying3 (wr (by omega))) rfl<|Q.qg rfl (q.mul (r:=((256*y3.toNat:Nat):Int)) rfl rfl (wr (by omega))) rfl<|Q.qg rfl (q.add (r:=((((3+y1.toNat)+y2.toNat)+(256*y3.toNat):Nat):Int)) rfl rfl (wr (by omega))) rfl<|Q.u 1 rfl<|Q.qg rfl (q.fN rfl Try.underlying9) rfl<|Q.qg rfl (q.gtr rfl rfl (decide_eq_false (by omega))) rfl<|Q.u 1 rfl<|Q.nil ?_
        refine R.aI rfl rfl ?_
        refine R.reg rfl<|R.u 1 rfl<|R.q (q.dS (i:=0) rfl rfl Try.underlying9 rfl hy1) rfl<|R.q (q.iu (r:=((y1.toNat:Nat):Int)) rfl (by rw [Try.underlying5];rfl) Try.underlying3 (wr (by omega))) rfl<|R.q (q.add (r:=((3+y1.toNat:Nat):Int)) rfl rfl (wr (by omega))) rfl<|R.u 1 rfl<|R.nil ?_
        refine R.d9 rfl mixed (by kernel_rfl)<|Q.u 2 rfl<|Q.q (q.dS (i:=1) rfl rfl Try.underlying9 rfl hy2) rfl<|Q.q (q.iu (r:=((y2.toNat:Nat):Int)) rfl (by rw [Try.underlying5];rfl) Try.underlying3 (wr (by omega))) rfl<|Q.q (q.add (r:=(((3+y1.toNat)+y2.toNat:Nat):Int)) rfl rfl (wr (by omega))) rfl<|Q.u 1 rfl<|Q.q (q.dS (i:=2) rfl rfl Try.underlying9 rfl hy3) rfl<|Q.q (q.iu (r:=((y3.toNat:Nat):Int)) rfl (by rw [Try.underlying5];rfl) Try.underlying3 (wr (by omega))) rfl<|Q.q (q.mul (r:=((256*y3.toNat:Nat):Int)) rfl rfl (wr (by omega))) rfl<|Q.q (q.add (r:=((((3+y1.toNat)+y2.toNat)+(256*y3.toNat):Nat):Int)) rfl rfl (wr (by omega))) rfl<|Q.u 1 rfl<|Q.nil ?_
        refine R.eT (fuel:=10) (Wd w (blks []++own) [ah.row 51 u (rs:List Change),ah.held w own] []) rfl mixed rfl ?_
        refine D.q (i:=0) rfl (by kernel_rfl) (fun _=>Wd.aA [0,1] [] rfl rfl rfl) rfl (q.mv rfl) rfl<|D.q (i:=1) rfl (by kernel_rfl) (fun _=>Wd.aA [0,1] [] rfl rfl rfl) rfl (q.mv rfl) rfl<|D.q (i:=2) rfl (by kernel_rfl) (fun _=>Wd.aA [0,1] [] rfl rfl rfl) rfl (q.qt (i:=3) (j:=(3+y1.toNat)) rfl rfl rfl Try.underlying9 rfl rfl (by omega) (by omega)) rfl<|D.q (i:=3) rfl (by kernel_rfl) (fun _=>Wd.aA [0,1] [] rfl rfl rfl) rfl (q.mv rfl) rfl<|D.q (i:=4) rfl (by kernel_rfl) (fun _=>Wd.aA [0,1] [] rfl rfl rfl) rfl (q.mv rfl) rfl<|D.q (i:=5) rfl (by kernel_rfl) (fun _=>Wd.aA [0,1] [] rfl rfl rfl) rfl (q.mv rfl) rfl<|D.q (i:=6) rfl (by kernel_rfl) (fun _=>Wd.aA [0,1] [] rfl rfl rfl) rfl (q.qt (i:=(3+y1.toNat)) (j:=(((3+y1.toNat)+y2.toNat)+(256*y3.toNat))) rfl rfl rfl Try.underlying9 rfl rfl (by omega) (by omega)) rfl<|D.q (i:=7) rfl (by kernel_rfl) (fun _=>Wd.aA [0,1] [] rfl rfl rfl) rfl (q.build (cs:=[.string (tt.extract 3 (3+y1.toNat)),.string (tt.extract (3+y1.toNat) (((3+y1.toNat)+y2.toNat)+(256*y3.toNat))),.bool false]) j3 rfl rfl) rfl<|?_
        refine D.one (i:=8) (by kernel_rfl) rfl ?_
        refine Do.s (s.alloc (cs:=[.string (⟨#[]⟩),.string (⟨#[]⟩),.bool false]) bT rfl rfl) (fun _=>(fun _=>Wd.aA [1,2] [] rfl rfl rfl)) rfl fun b1=>?_
        refine D.one (i:=9) (by kernel_rfl) rfl ?_
        refine Do.s (s.st (us:=[.string (tt.extract 3 (3+y1.toNat)),.string (tt.extract (3+y1.toNat) (((3+y1.toNat)+y2.toNat)+(256*y3.toNat))),.bool false]) (cs':=[.string (tt.extract 3 (3+y1.toNat)),.string (tt.extract (3+y1.toNat) (((3+y1.toNat)+y2.toNat)+(256*y3.toNat))),.bool false]) 0 _ rfl rfl rfl rfl (.inl aX) rfl rfl rfl rfl) (fun _=>(fun _=>Wd.aA [1,2] [] rfl rfl rfl)) rfl fun _=>?_
        refine D.done (by kernel_rfl)<|?_
        refine R.reg rfl<|R.q (q.mD 0 rfl rfl aX) rfl<|R.c (q.call mZ rfl rfl (fun w hw=>(dZ ((⟨(tt.extract 3 (3+y1.toNat)),(tt.extract (3+y1.toNat) (((3+y1.toNat)+y2.toNat)+(256*y3.toNat))),false⟩:Change)) w  ))) rfl<|?_
        by_cases h4:ea (⟨(tt.extract 3 (3+y1.toNat)),(tt.extract (3+y1.toNat) (((3+y1.toNat)+y2.toNat)+(256*y3.toNat))),false⟩:Change)=0
        ·
          refine R.q (q.dj rfl rfl Try.underlying28 (by omega)) rfl<|R.nil ?_
          refine R.aI rfl rfl ?_
          refine R.reg rfl<|R.u 1 rfl<|R.q (q.mD 0 rfl rfl aX) rfl<|?_
          refine R.s rfl (s.bs (l:=([(⟨(tt.extract 3 (3+y1.toNat)),(tt.extract (3+y1.toNat) (((3+y1.toNat)+y2.toNat)+(256*y3.toNat))),false⟩:Change)]:List Change)) aT bT rfl rfl rfl rfl rfl rfl rfl) fun b2=>?_
          refine R.s (B':=(fun aW:Value=>[ah.row 51 aW ((a7 rs ([(⟨(tt.extract 3 (3+y1.toNat)),(tt.extract (3+y1.toNat) (((3+y1.toNat)+y2.toNat)+(256*y3.toNat))),false⟩:Change)])):List Change),ah.box b1 [.string (tt.extract 3 (3+y1.toNat)),.string (tt.extract (3+y1.toNat) (((3+y1.toNat)+y2.toNat)+(256*y3.toNat))),.bool false] 51,ah.held w own])) (F':=(fun aW:Value=>[ah.ls (.slice (some ⟨b2,0,none⟩) 1 1) ([(⟨(tt.extract 3 (3+y1.toNat)),(tt.extract (3+y1.toNat) (((3+y1.toNat)+y2.toNat)+(256*y3.toNat))),false⟩:Change)]:List Change),ah.ls u (rs:List Change)])) rfl (s.pre (B2:=[ah.row 51 (.slice (some ⟨b2,0,none⟩) 1 1) ([(⟨(tt.extract 3 (3+y1.toNat)),(tt.extract (3+y1.toNat) (((3+y1.toNat)+y2.toNat)+(256*y3.toNat))),false⟩:Change)]:List Change),ah.box b1 [.string (tt.extract 3 (3+y1.toNat)),.string (tt.extract (3+y1.toNat) (((3+y1.toNat)+y2.toNat)+(256*y3.toNat))),.bool false] 51,ah.held w own]) (F2:=[ah.ls u (rs:List Change)]) (fun _ hw=>hw.fR 2 _ rfl rfl) (s.pre (B2:=[ah.box b1 [.string (tt.extract 3 (3+y1.toNat)),.string (tt.extract (3+y1.toNat) (((3+y1.toNat)+y2.toNat)+(256*y3.toNat))),.bool false] 51,ah.held w own]) (F2:=[ah.ls (.slice (some ⟨b2,0,none⟩) 1 1) ([(⟨(tt.extract 3 (3+y1.toNat)),(tt.extract (3+y1.toNat) (((3+y1.toNat)+y2.toNat)+(256*y3.toNat))),false⟩:Change)]:List Change),ah.ls u (rs:List Change)]) (fun _ hw=>hw.fR 0 _ rfl rfl) (s.bD (B0:=[]) (Br:=[ah.box b1 [.string (tt.extract 3 (3+y1.toNat)),.string (tt.extract (3+y1.toNat) (((3+y1.toNat)+y2.toNat)+(256*y3.toNat))),.bool false] 51,ah.held w own]) (F0:=[ah.ls u (rs:List Change),ah.ls (.slice (some ⟨b2,0,none⟩) 1 1) ([(⟨(tt.extract 3 (3+y1.toNat)),(tt.extract (3+y1.toNat) (((3+y1.toNat)+y2.toNat)+(256*y3.toNat))),false⟩:Change)]:List Change)]) [0,1] [1,0] (fun aW:Value=>aW) (fun aW:Value=>[ah.row 51 aW ((a7 rs ([(⟨(tt.extract 3 (3+y1.toNat)),(tt.extract (3+y1.toNat) (((3+y1.toNat)+y2.toNat)+(256*y3.toNat))),false⟩:Change)])):List Change)]) (fun aW:Value=>[]) rfl rfl rfl sR rfl rfl (fun w own hw H=>iE u (rs) (.slice (some ⟨b2,0,none⟩) 1 1) ([(⟨(tt.extract 3 (3+y1.toNat)),(tt.extract (3+y1.toNat) (((3+y1.toNat)+y2.toNat)+(256*y3.toNat))),false⟩:Change)]) w own H (by first|omega|assumption|(simp;done)|(simp;omega))) rfl))) fun z1=>?_
          refine R.u 1 rfl<|R.nil ?_
          refine R.reg rfl<|R.u 2 rfl<|R.q (q.sE (i:=(((3+y1.toNat)+y2.toNat)+(256*y3.toNat))) rfl rfl Try.underlying9 rfl (by omega)) rfl<|R.u 1 rfl<|R.nil ?_
          refine R.back ((tt.extract (((3+y1.toNat)+y2.toNat)+(256*y3.toNat)) tt.size),k-1,z1,a7 rs ([(⟨(tt.extract 3 (3+y1.toNat)),(tt.extract (3+y1.toNat) (((3+y1.toNat)+y2.toNat)+(256*y3.toNat))),false⟩:Change)])) rfl (by ((try dsimp only);have g:=wq HP hk (by assumption) (by rw [jg hy1 hy2 hy3];omega) (by rw [nA hy1 hy2 hy3 rfl];assumption);rw [jg hy1 hy2 hy3,nA hy1 hy2 hy3 rfl] at g;have ha:=fj [(⟨(tt.extract 3 (3+y1.toNat)),(tt.extract (3+y1.toNat) (((3+y1.toNat)+y2.toNat)+(256*y3.toNat))),false⟩:Change)] rs;rw [List.length_singleton] at ha;exact ⟨by rw [ByteArray.size_extract];omega,g.2,g.1⟩)) (by dsimp only;omega) ⟨rfl,rfl,trivial⟩ (fun _=>Wd.aA [0,2] [] rfl rfl rfl)
        ·
          refine R.q (q.fy rfl rfl Try.underlying28 (by omega)) rfl<|R.nil ?_
          refine R.aK rfl rfl ?_
          refine R.reg rfl<|R.u 2 rfl<|R.nil ?_
          refine R.row0 (α:=Change) 51 ?_
          have hz:cp sx=([],false):=by (first|exact (lf HP hk (by assumption))|exact (gR HP hk (by assumption) (.inl (by omega)))|exact (gR HP hk (by assumption) (.inr (by rw [jg hy1 hy2 hy3];omega)))|exact (jt HP hk (by assumption) (by rw [jg hy1 hy2 hy3];omega) (by rw [nA hy1 hy2 hy3 rfl];assumption)))
          rw [hz]
          exact R.w2 (.slice none 0 0) [0,3] [] rfl Try.results55 (RV.tmp rfl) (RV.tmp rfl) rfl rfl rfl (oD rfl rfl)
theorem tI {k i:Nat}{m:bp}{e:Int}{Z:bp×Int}(h:eR k i (m,e)=Z)(he:e=0)(hk:0<k):eR (k-1) (i+1) (ar m (i:Int) ⟨#[]⟩)=Z:=by
  cases k with
  | zero=>omega
  | succ k=>rw [eR,if_pos he] at h;exact h
theorem bQ {k i:Nat}{m:bp}{e:Int}{Z:bp×Int}(h:eR k i (m,e)=Z)(he:¬ e=0):Z=(m,e):=by
  cases k with
  | zero=>exact h.symm
  | succ k=>rw [eR,if_neg he] at h;exact h.symm
theorem bH {k i:Nat}{m:bp}{e:Int}{Z:bp×Int}(h:eR k i (m,e)=Z)(hk:k=0):Z=(m,e):=by subst hk;exact h.symm
theorem pR (au:Nat)(ao ap ak:Value)(dk:bp)(w:World)(own:List Nat)(H:Wd w (blks [ah.box au [ao,ap,ak,.int .i64 dk.Fuse,.bool dk.Down] 81,ah.row 9 ao (dk.Kept:List ByteArray),ah.row 9 ap (dk.Now:List ByteArray),ah.row 83 ak (dk.Wait:List Turn)]++own) ([ah.box au [ao,ap,ak,.int .i64 dk.Fuse,.bool dk.Down] 81,ah.row 9 ao (dk.Kept:List ByteArray),ah.row 9 ap (dk.Now:List ByteArray),ah.row 83 ak (dk.Wait:List Turn)]++[ah.held w own]) [] w)(hD:cz dk.Now.length 80000 dk∧dk.Now.length≤1000):Calls Try.prog 23 #[.pointer (some ⟨au,0,none⟩)] w fun e w' => ∃z:Value×Value×Value,e = .returned (bF (((av dk)).2))∧Wd w (blks [ah.box au [ao,ap,ak,.int .i64 dk.Fuse,.bool dk.Down] 81,ah.row 9 ao (dk.Kept:List ByteArray),ah.row 9 ap (dk.Now:List ByteArray),ah.row 83 ak (dk.Wait:List Turn)]++own) ([ah.box au [z.1,z.2.1,z.2.2,.int .i64 ((((av dk)).1).Fuse),.bool ((((av dk)).1).Down)] 81,ah.row 9 z.1 ((((av dk)).1).Kept:List ByteArray),ah.row 9 z.2.1 ((((av dk)).1).Now:List ByteArray),ah.row 83 z.2.2 ((((av dk)).1).Wait:List Turn)]++[ah.held w own]) [] w':=by
  have cM:=H.cap 1 rfl;have cN:=H.aU 1 rfl
  have dv:=H.cap 2 rfl;have dw:=H.aU 2 rfl
  have cO:=H.cap 3 rfl;have cQ:=H.aU 3 rfl
  have p0:=hD.1.fine (by omega) (by omega)
  refine R.bW (n:=39) (vs:=[.pointer (some ⟨au,0,none⟩)]) (B:=[ah.box au [ao,ap,ak,.int .i64 dk.Fuse,.bool dk.Down] 81,ah.row 9 ao (dk.Kept:List ByteArray),ah.row 9 ap (dk.Now:List ByteArray),ah.row 83 ak (dk.Wait:List Turn),ah.held w own]) [(0,.pointer (some ⟨au,0,none⟩))] Try.func23 rfl rfl rfl rfl H ?_
  refine R.reg rfl<|R.u 1 rfl<|R.nil ?_
  refine R.reg rfl<|R.u 1 rfl<|R.c (q.call kI rfl rfl (fun w hw=>(c9 au ao ap ak  (dk) w (hw.b 0 rfl) ((fun _=>Wd.row 1 rfl) w hw) ((fun _=>Wd.row 2 rfl) w hw) ((fun _=>Wd.row 3 rfl) w hw) ))) rfl<|?_
  by_cases h1:dk.Now.length<166
  ·
    refine R.q (q.lss rfl rfl (decide_eq_true (by omega))) rfl<|R.nil ?_
    refine R.aK rfl rfl ?_
    refine R.reg rfl<|R.q (q.iface rfl cD) rfl<|R.u 1 rfl<|R.nil ?_
    have hz:av dk=(dk,9):=by (first|exact gk (by omega)|exact nu (by omega) (by first|exact (bQ HB (by assumption))|exact (bH HB (by omega))) (by assumption)|exact nw (by omega) (by first|exact (bQ HB (by assumption))|exact (bH HB (by omega))) (by assumption) (by assumption)|exact ny (by omega) (by first|exact (bQ HB (by assumption))|exact (bH HB (by omega))) (by assumption) (by assumption) (by assumption)|exact l8 (by omega) (by first|exact (bQ HB (by assumption))|exact (bH HB (by omega))) (by assumption) (by assumption) (by assumption))
    rw [hz]
    exact R.w1 (ao,ap,ak) [0,1,2,3,4] [] rfl Try.results23 (RV.tmp rfl) rfl rfl rfl (fO (by decide) rfl)
  ·
    refine R.q (q.lss rfl rfl (decide_eq_false (by omega))) rfl<|R.nil ?_
    refine R.aI rfl rfl ?_
    refine R.reg rfl<|R.u 1 rfl<|?_
    refine R.s (B':=(fun g_:Value×Value×Value=>[ah.box au [g_.1,g_.2.1,g_.2.2,.int .i64 ((((ar dk 0 (⟨#[]⟩))).1).Fuse),.bool ((((ar dk 0 (⟨#[]⟩))).1).Down)] 81,ah.row 9 g_.1 ((((ar dk 0 (⟨#[]⟩))).1).Kept:List ByteArray),ah.row 9 g_.2.1 ((((ar dk 0 (⟨#[]⟩))).1).Now:List ByteArray),ah.row 83 g_.2.2 ((((ar dk 0 (⟨#[]⟩))).1).Wait:List Turn),ah.held w own])) (F':=(fun g_:Value×Value×Value=>[])) rfl (s.bD (B0:=[ah.box au [ao,ap,ak,.int .i64 dk.Fuse,.bool dk.Down] 81,ah.row 9 ao (dk.Kept:List ByteArray),ah.row 9 ap (dk.Now:List ByteArray),ah.row 83 ak (dk.Wait:List Turn)]) (Br:=[ah.held w own]) (F0:=[]) [0,1,2,3,4] [] (fun g_:Value×Value×Value=>bF (((ar dk 0 (⟨#[]⟩))).2)) (fun g_:Value×Value×Value=>[ah.box au [g_.1,g_.2.1,g_.2.2,.int .i64 ((((ar dk 0 (⟨#[]⟩))).1).Fuse),.bool ((((ar dk 0 (⟨#[]⟩))).1).Down)] 81,ah.row 9 g_.1 ((((ar dk 0 (⟨#[]⟩))).1).Kept:List ByteArray),ah.row 9 g_.2.1 ((((ar dk 0 (⟨#[]⟩))).1).Now:List ByteArray),ah.row 83 g_.2.2 ((((ar dk 0 (⟨#[]⟩))).1).Wait:List Turn)]) (fun g_:Value×Value×Value=>[]) rfl rfl rfl kH rfl rfl (fun w own hw H=>dM au ao ap ak (dk) (0) (⟨#[]⟩) w own H (by first|assumption|omega)) rfl) ?_
    rintro ⟨z1,z2,z3⟩
    dsimp only
    refine R.u 1 rfl<|R.nil ?_
    refine R.reg rfl<|R.u 1 rfl<|R.nil ?_
    refine R.loop (fun g_:Nat×Int×bp×Value×Value×Value=>[(0,.pointer (some ⟨au,0,none⟩)),(3,bF g_.2.1),(4,.int .i64 ((102+g_.1):Int))]) (fun g_:Nat×Int×bp×Value×Value×Value=>[ah.box au [g_.2.2.2.1,g_.2.2.2.2.1,g_.2.2.2.2.2,.int .i64 g_.2.2.1.Fuse,.bool g_.2.2.1.Down] 81,ah.row 9 g_.2.2.2.1 (g_.2.2.1.Kept:List ByteArray),ah.row 9 g_.2.2.2.2.1 (g_.2.2.1.Now:List ByteArray),ah.row 83 g_.2.2.2.2.2 (g_.2.2.1.Wait:List Turn),ah.held w own]) (fun g_:Nat×Int×bp×Value×Value×Value=>[]) (fun g_:Nat×Int×bp×Value×Value×Value=>102+g_.1≤dk.Now.length∧eR (dk.Now.length-102-g_.1) (102+g_.1) (g_.2.2.1,g_.2.1)=l3 dk∧cz dk.Now.length (80001+g_.1) g_.2.2.1) (fun g_:Nat×Int×bp×Value×Value×Value=>dk.Now.length-g_.1) (0,(ar dk 0 (⟨#[]⟩)).2,((ar dk 0 (⟨#[]⟩)).1),z1,z2,z3) rfl (by (try dsimp only);exact ⟨by omega,rfl,hD.1.write _ _⟩) ⟨rfl,rfl,rfl,trivial⟩ (fun _=>Wd.pick [0,1,2,3,4] [] rfl rfl rfl) ?_
    rintro ⟨j,e,dm,bK,bV,bL⟩ ⟨hj,HB,hO⟩
    dsimp only at *
    have AA:=hO.nl;have p1:=hO.fine (by omega) (by omega)
    refine R.reg rfl<|R.u 2 rfl<|R.c (q.call kI rfl rfl (fun w hw=>(c9 au bK bV bL  (dm) w (hw.b 0 rfl) ((fun _=>Wd.row 1 rfl) w hw) ((fun _=>Wd.row 2 rfl) w hw) ((fun _=>Wd.row 3 rfl) w hw) ))) rfl<|?_
    by_cases h2:(102+j)<dm.Now.length
    ·
      refine R.q (q.lss rfl rfl (decide_eq_true (by omega))) rfl<|R.u 2 rfl<|?_
      by_cases h3:e=0
      ·
        refine R.qg rfl (q.hG rfl rfl Try.underlying28 (by omega)) rfl<|R.u 1 rfl<|R.nil ?_
        refine R.aK rfl rfl ?_
        refine R.reg rfl<|R.u 2 rfl<|?_
        refine R.s (B':=(fun g_:Value×Value×Value=>[ah.box au [g_.1,g_.2.1,g_.2.2,.int .i64 ((((ar dm ((102+j):Int) (⟨#[]⟩))).1).Fuse),.bool ((((ar dm ((102+j):Int) (⟨#[]⟩))).1).Down)] 81,ah.row 9 g_.1 ((((ar dm ((102+j):Int) (⟨#[]⟩))).1).Kept:List ByteArray),ah.row 9 g_.2.1 ((((ar dm ((102+j):Int) (⟨#[]⟩))).1).Now:List ByteArray),ah.row 83 g_.2.2 ((((ar dm ((102+j):Int) (⟨#[]⟩))).1).Wait:List Turn),ah.held w own])) (F':=(fun g_:Value×Value×Value=>[])) rfl (s.bD (B0:=[ah.box au [bK,bV,bL,.int .i64 dm.Fuse,.bool dm.Down] 81,ah.row 9 bK (dm.Kept:List ByteArray),ah.row 9 bV (dm.Now:List ByteArray),ah.row 83 bL (dm.Wait:List Turn)]) (Br:=[ah.held w own]) (F0:=[]) [0,1,2,3,4] [] (fun g_:Value×Value×Value=>bF (((ar dm ((102+j):Int) (⟨#[]⟩))).2)) (fun g_:Value×Value×Value=>[ah.box au [g_.1,g_.2.1,g_.2.2,.int .i64 ((((ar dm ((102+j):Int) (⟨#[]⟩))).1).Fuse),.bool ((((ar dm ((102+j):Int) (⟨#[]⟩))).1).Down)] 81,ah.row 9 g_.1 ((((ar dm ((102+j):Int) (⟨#[]⟩))).1).Kept:List ByteArray),ah.row 9 g_.2.1 ((((ar dm ((102+j):Int) (⟨#[]⟩))).1).Now:List ByteArray),ah.row 83 g_.2.2 ((((ar dm ((102+j):Int) (⟨#[]⟩))).1).Wait:List Turn)]) (fun g_:Value×Value×Value=>[]) rfl rfl rfl kH rfl rfl (fun w own hw H=>dM au bK bV bL (dm) (((102+j):Int)) (⟨#[]⟩) w own H (by first|assumption|omega)) rfl) ?_
        rintro ⟨z4,z5,z6⟩
        dsimp only
        refine R.u 1 rfl<|R.nil ?_
        refine R.reg rfl<|R.u 1 rfl<|R.q (q.add (r:=(((102+j)+1:Nat):Int)) rfl rfl (wr (by omega))) rfl<|R.u 1 rfl<|R.nil ?_
        refine R.back (j+1,(ar dm ((102+j):Int) (⟨#[]⟩)).2,((ar dm ((102+j):Int) (⟨#[]⟩)).1),z4,z5,z6) rfl (by ((try dsimp only);exact ⟨by omega,by have g:=tI HB (by assumption) (by omega);rwa [show dk.Now.length-102-(j+1)=dk.Now.length-102-j-1 by omega],hO.write _ _⟩)) (by dsimp only;omega) ⟨rfl,rfl,rfl,trivial⟩ (fun _=>Wd.aA [0,1,2,3,4] [] rfl rfl rfl)
      ·
        refine R.qg rfl (q.eF rfl rfl Try.underlying28 (by omega)) rfl<|R.u 1 rfl<|R.nil ?_
        refine R.aI rfl rfl ?_
        refine R.reg rfl<|R.u 1 rfl<|R.q (q.eF rfl rfl Try.underlying28 (by omega)) rfl<|R.nil ?_
        refine R.aI rfl rfl ?_
        refine R.reg rfl<|R.u 1 rfl<|R.q (q.eF rfl rfl Try.underlying28 (by omega)) rfl<|R.nil ?_
        refine R.aI rfl rfl ?_
        refine R.reg rfl<|R.u 1 rfl<|R.q (q.eF rfl rfl Try.underlying28 (by omega)) rfl<|R.nil ?_
        refine R.aI rfl rfl ?_
        refine R.reg rfl<|R.u 2 rfl<|R.nil ?_
        have hz:av dk=(dm,e):=by (first|exact gk (by omega)|exact nu (by omega) (by first|exact (bQ HB (by assumption))|exact (bH HB (by omega))) (by assumption)|exact nw (by omega) (by first|exact (bQ HB (by assumption))|exact (bH HB (by omega))) (by assumption) (by assumption)|exact ny (by omega) (by first|exact (bQ HB (by assumption))|exact (bH HB (by omega))) (by assumption) (by assumption) (by assumption)|exact l8 (by omega) (by first|exact (bQ HB (by assumption))|exact (bH HB (by omega))) (by assumption) (by assumption) (by assumption))
        rw [hz]
        exact R.w1 (bK,bV,bL) [0,1,2,3,4] [] rfl Try.results23 (RV.tmp rfl) rfl rfl rfl rfl
    ·
      refine R.q (q.lss rfl rfl (decide_eq_false (by omega))) rfl<|R.u 4 rfl<|R.nil ?_
      refine R.aI rfl rfl ?_
      refine R.reg rfl<|R.u 1 rfl<|?_
      by_cases h4:e=0
      ·
        refine R.q (q.hG rfl rfl Try.underlying28 (by omega)) rfl<|R.nil ?_
        refine R.aK rfl rfl ?_
        refine R.reg rfl<|R.u 1 rfl<|?_
        refine R.s (B':=(fun g_:Value×Value×Value=>[ah.box au [g_.1,g_.2.1,g_.2.2,.int .i64 ((((aj dm)).1).Fuse),.bool ((((aj dm)).1).Down)] 81,ah.row 9 g_.1 ((((aj dm)).1).Kept:List ByteArray),ah.row 9 g_.2.1 ((((aj dm)).1).Now:List ByteArray),ah.row 83 g_.2.2 ((((aj dm)).1).Wait:List Turn),ah.held w own])) (F':=(fun g_:Value×Value×Value=>[])) rfl (s.bD (B0:=[ah.box au [bK,bV,bL,.int .i64 dm.Fuse,.bool dm.Down] 81,ah.row 9 bK (dm.Kept:List ByteArray),ah.row 9 bV (dm.Now:List ByteArray),ah.row 83 bL (dm.Wait:List Turn)]) (Br:=[ah.held w own]) (F0:=[]) [0,1,2,3,4] [] (fun g_:Value×Value×Value=>bF (((aj dm)).2)) (fun g_:Value×Value×Value=>[ah.box au [g_.1,g_.2.1,g_.2.2,.int .i64 ((((aj dm)).1).Fuse),.bool ((((aj dm)).1).Down)] 81,ah.row 9 g_.1 ((((aj dm)).1).Kept:List ByteArray),ah.row 9 g_.2.1 ((((aj dm)).1).Now:List ByteArray),ah.row 83 g_.2.2 ((((aj dm)).1).Wait:List Turn)]) (fun g_:Value×Value×Value=>[]) rfl rfl rfl m4 rfl rfl (fun w own hw H=>ff au bK bV bL (dm) w own H (by first|assumption|omega)) rfl) ?_
        rintro ⟨z7,z8,z9⟩
        dsimp only
        refine R.u 1 rfl<|R.nil ?_
        refine R.reg rfl<|R.u 1 rfl<|?_
        by_cases h5:(aj dm).2=0
        ·
          refine R.q (q.hG rfl rfl Try.underlying28 (by omega)) rfl<|R.nil ?_
          refine R.aK rfl rfl ?_
          have p2:=hO.flush.fine (by omega) (by omega)
          refine R.reg rfl<|R.u 1 rfl<|R.q (q.build (cs:=[.int .i64 1,.int .i64 0,.int .i64 0,.int .i64 1]) dq rfl rfl) rfl<|R.c (q.call vy rfl rfl (fun w hw=>(nz ((⟨1,0,0,1⟩:bq)) w  (by first|omega|assumption|(dsimp only;omega)|decide)))) rfl<|?_
          refine R.s (B':=(fun g_:Value×Value×Value=>[ah.box au [g_.1,g_.2.1,g_.2.2,.int .i64 ((((ar ((aj dm).1) 1 (aC (⟨1,0,0,1⟩:bq)))).1).Fuse),.bool ((((ar ((aj dm).1) 1 (aC (⟨1,0,0,1⟩:bq)))).1).Down)] 81,ah.row 9 g_.1 ((((ar ((aj dm).1) 1 (aC (⟨1,0,0,1⟩:bq)))).1).Kept:List ByteArray),ah.row 9 g_.2.1 ((((ar ((aj dm).1) 1 (aC (⟨1,0,0,1⟩:bq)))).1).Now:List ByteArray),ah.row 83 g_.2.2 ((((ar ((aj dm).1) 1 (aC (⟨1,0,0,1⟩:bq)))).1).Wait:List Turn),ah.held w own])) (F':=(fun g_:Value×Value×Value=>[])) rfl (s.bD (B0:=[ah.box au [z7,z8,z9,.int .i64 (((aj dm).1).Fuse),.bool (((aj dm).1).Down)] 81,ah.row 9 z7 (((aj dm).1).Kept:List ByteArray),ah.row 9 z8 (((aj dm).1).Now:List ByteArray),ah.row 83 z9 (((aj dm).1).Wait:List Turn)]) (Br:=[ah.held w own]) (F0:=[]) [0,1,2,3,4] [] (fun g_:Value×Value×Value=>bF (((ar ((aj dm).1) 1 (aC (⟨1,0,0,1⟩:bq)))).2)) (fun g_:Value×Value×Value=>[ah.box au [g_.1,g_.2.1,g_.2.2,.int .i64 ((((ar ((aj dm).1) 1 (aC (⟨1,0,0,1⟩:bq)))).1).Fuse),.bool ((((ar ((aj dm).1) 1 (aC (⟨1,0,0,1⟩:bq)))).1).Down)] 81,ah.row 9 g_.1 ((((ar ((aj dm).1) 1 (aC (⟨1,0,0,1⟩:bq)))).1).Kept:List ByteArray),ah.row 9 g_.2.1 ((((ar ((aj dm).1) 1 (aC (⟨1,0,0,1⟩:bq)))).1).Now:List ByteArray),ah.row 83 g_.2.2 ((((ar ((aj dm).1) 1 (aC (⟨1,0,0,1⟩:bq)))).1).Wait:List Turn)]) (fun g_:Value×Value×Value=>[]) rfl rfl rfl kH rfl rfl (fun w own hw H=>dM au z7 z8 z9 (((aj dm).1)) (1) (aC (⟨1,0,0,1⟩:bq)) w own H (by first|assumption|omega)) rfl) ?_
          rintro ⟨gU,fx,z12⟩
          dsimp only
          refine R.u 1 rfl<|R.nil ?_
          refine R.reg rfl<|R.u 1 rfl<|?_
          by_cases h6:(ar ((aj dm).1) 1 (aC (⟨1,0,0,1⟩:bq))).2=0
          ·
            refine R.q (q.hG rfl rfl Try.underlying28 (by omega)) rfl<|R.nil ?_
            refine R.aK rfl rfl ?_
            have p3:=(hO.flush.write 1 (aC ⟨1,0,0,1⟩)).fine (by omega) (by omega)
            refine R.reg rfl<|R.u 1 rfl<|?_
            refine R.s (B':=(fun g_:Value×Value×Value=>[ah.box au [g_.1,g_.2.1,g_.2.2,.int .i64 ((((aj ((ar ((aj dm).1) 1 (aC (⟨1,0,0,1⟩:bq))).1))).1).Fuse),.bool ((((aj ((ar ((aj dm).1) 1 (aC (⟨1,0,0,1⟩:bq))).1))).1).Down)] 81,ah.row 9 g_.1 ((((aj ((ar ((aj dm).1) 1 (aC (⟨1,0,0,1⟩:bq))).1))).1).Kept:List ByteArray),ah.row 9 g_.2.1 ((((aj ((ar ((aj dm).1) 1 (aC (⟨1,0,0,1⟩:bq))).1))).1).Now:List ByteArray),ah.row 83 g_.2.2 ((((aj ((ar ((aj dm).1) 1 (aC (⟨1,0,0,1⟩:bq))).1))).1).Wait:List Turn),ah.held w own])) (F':=(fun g_:Value×Value×Value=>[])) rfl (s.bD (B0:=[ah.box au [gU,fx,z12,.int .i64 (((ar ((aj dm).1) 1 (aC (⟨1,0,0,1⟩:bq))).1).Fuse),.bool (((ar ((aj dm).1) 1 (aC (⟨1,0,0,1⟩:bq))).1).Down)] 81,ah.row 9 gU (((ar ((aj dm).1) 1 (aC (⟨1,0,0,1⟩:bq))).1).Kept:List ByteArray),ah.row 9 fx (((ar ((aj dm).1) 1 (aC (⟨1,0,0,1⟩:bq))).1).Now:List ByteArray),ah.row 83 z12 (((ar ((aj dm).1) 1 (aC (⟨1,0,0,1⟩:bq))).1).Wait:List Turn)]) (Br:=[ah.held w own]) (F0:=[]) [0,1,2,3,4] [] (fun g_:Value×Value×Value=>bF (((aj ((ar ((aj dm).1) 1 (aC (⟨1,0,0,1⟩:bq))).1))).2)) (fun g_:Value×Value×Value=>[ah.box au [g_.1,g_.2.1,g_.2.2,.int .i64 ((((aj ((ar ((aj dm).1) 1 (aC (⟨1,0,0,1⟩:bq))).1))).1).Fuse),.bool ((((aj ((ar ((aj dm).1) 1 (aC (⟨1,0,0,1⟩:bq))).1))).1).Down)] 81,ah.row 9 g_.1 ((((aj ((ar ((aj dm).1) 1 (aC (⟨1,0,0,1⟩:bq))).1))).1).Kept:List ByteArray),ah.row 9 g_.2.1 ((((aj ((ar ((aj dm).1) 1 (aC (⟨1,0,0,1⟩:bq))).1))).1).Now:List ByteArray),ah.row 83 g_.2.2 ((((aj ((ar ((aj dm).1) 1 (aC (⟨1,0,0,1⟩:bq))).1))).1).Wait:List Turn)]) (fun g_:Value×Value×Value=>[]) rfl rfl rfl m4 rfl rfl (fun w own hw H=>ff au gU fx z12 (((ar ((aj dm).1) 1 (aC (⟨1,0,0,1⟩:bq))).1)) w own H (by first|assumption|omega)) rfl) ?_
            rintro ⟨jK,o9,vF⟩
            dsimp only
            refine R.u 1 rfl<|R.nil ?_
            refine R.reg rfl<|R.u 2 rfl<|R.nil ?_
            have hz:av dk=(((aj ((ar ((aj dm).1) 1 (aC (⟨1,0,0,1⟩:bq))).1)).1),(aj ((ar ((aj dm).1) 1 (aC (⟨1,0,0,1⟩:bq))).1)).2):=by (first|exact gk (by omega)|exact nu (by omega) (by first|exact (bQ HB (by assumption))|exact (bH HB (by omega))) (by assumption)|exact nw (by omega) (by first|exact (bQ HB (by assumption))|exact (bH HB (by omega))) (by assumption) (by assumption)|exact ny (by omega) (by first|exact (bQ HB (by assumption))|exact (bH HB (by omega))) (by assumption) (by assumption) (by assumption)|exact l8 (by omega) (by first|exact (bQ HB (by assumption))|exact (bH HB (by omega))) (by assumption) (by assumption) (by assumption))
            rw [hz]
            exact R.w1 (jK,o9,vF) [0,1,2,3,4] [] rfl Try.results23 (RV.tmp rfl) rfl rfl rfl rfl
          ·
            refine R.q (q.eF rfl rfl Try.underlying28 (by omega)) rfl<|R.nil ?_
            refine R.aI rfl rfl ?_
            refine R.reg rfl<|R.u 2 rfl<|R.nil ?_
            have hz:av dk=(((ar ((aj dm).1) 1 (aC (⟨1,0,0,1⟩:bq))).1),(ar ((aj dm).1) 1 (aC (⟨1,0,0,1⟩:bq))).2):=by (first|exact gk (by omega)|exact nu (by omega) (by first|exact (bQ HB (by assumption))|exact (bH HB (by omega))) (by assumption)|exact nw (by omega) (by first|exact (bQ HB (by assumption))|exact (bH HB (by omega))) (by assumption) (by assumption)|exact ny (by omega) (by first|exact (bQ HB (by assumption))|exact (bH HB (by omega))) (by assumption) (by assumption) (by assumption)|exact l8 (by omega) (by first|exact (bQ HB (by assumption))|exact (bH HB (by omega))) (by assumption) (by assumption) (by assumption))
            rw [hz]
            exact R.w1 (gU,fx,z12) [0,1,2,3,4] [] rfl Try.results23 (RV.tmp rfl) rfl rfl rfl rfl
        ·
          refine R.q (q.eF rfl rfl Try.underlying28 (by omega)) rfl<|R.nil ?_
          refine R.aI rfl rfl ?_
          refine R.reg rfl<|R.u 1 rfl<|R.q (q.eF rfl rfl Try.underlying28 (by omega)) rfl<|R.nil ?_
          refine R.aI rfl rfl ?_
          refine R.reg rfl<|R.u 2 rfl<|R.nil ?_
          have hz:av dk=(((aj dm).1),(aj dm).2):=by (first|exact gk (by omega)|exact nu (by omega) (by first|exact (bQ HB (by assumption))|exact (bH HB (by omega))) (by assumption)|exact nw (by omega) (by first|exact (bQ HB (by assumption))|exact (bH HB (by omega))) (by assumption) (by assumption)|exact ny (by omega) (by first|exact (bQ HB (by assumption))|exact (bH HB (by omega))) (by assumption) (by assumption) (by assumption)|exact l8 (by omega) (by first|exact (bQ HB (by assumption))|exact (bH HB (by omega))) (by assumption) (by assumption) (by assumption))
          rw [hz]
          exact R.w1 (z7,z8,z9) [0,1,2,3,4] [] rfl Try.results23 (RV.tmp rfl) rfl rfl rfl rfl
      ·
        refine R.q (q.eF rfl rfl Try.underlying28 (by omega)) rfl<|R.nil ?_
        refine R.aI rfl rfl ?_
        refine R.reg rfl<|R.u 1 rfl<|R.q (q.eF rfl rfl Try.underlying28 (by omega)) rfl<|R.nil ?_
        refine R.aI rfl rfl ?_
        refine R.reg rfl<|R.u 1 rfl<|R.q (q.eF rfl rfl Try.underlying28 (by omega)) rfl<|R.nil ?_
        refine R.aI rfl rfl ?_
        refine R.reg rfl<|R.u 2 rfl<|R.nil ?_
        have hz:av dk=(dm,e):=by (first|exact gk (by omega)|exact nu (by omega) (by first|exact (bQ HB (by assumption))|exact (bH HB (by omega))) (by assumption)|exact nw (by omega) (by first|exact (bQ HB (by assumption))|exact (bH HB (by omega))) (by assumption) (by assumption)|exact ny (by omega) (by first|exact (bQ HB (by assumption))|exact (bH HB (by omega))) (by assumption) (by assumption) (by assumption)|exact l8 (by omega) (by first|exact (bQ HB (by assumption))|exact (bH HB (by omega))) (by assumption) (by assumption) (by assumption))
        rw [hz]
        exact R.w1 (bK,bV,bL) [0,1,2,3,4] [] rfl Try.results23 (RV.tmp rfl) rfl rfl rfl rfl
structure kY where
  Buf:List UInt8
structure pd where
  Used:Bool
  Buf:List UInt8
theorem mI (bO:Nat)(aY:Value)(bd:kY)(w:World)(own:List Nat)(H:Wd w (blks [ah.box bO [.pointer none,aY] 124,ah.row 5 aY (bd.Buf:List UInt8)]++own) ([ah.box bO [.pointer none,aY] 124,ah.row 5 aY (bd.Buf:List UInt8)]++[ah.held w own]) [] w)  : Calls Try.prog 78 #[.pointer (some ⟨bO,0,none⟩)] w fun e w' => ∃z:Value,e = .returned (.tuple #[])∧Wd w (blks [ah.box bO [.pointer none,aY] 124,ah.row 5 aY (bd.Buf:List UInt8)]++own) ([ah.box bO [.pointer (some ⟨bO,0,none⟩),z] 124,ah.row 5 z ((bd).Buf:List UInt8)]++[ah.held w own]) [] w':=by
  have l9:=H.cap 1 rfl;have ma:=H.aU 1 rfl
  refine R.bW (n:=20) (vs:=[.pointer (some ⟨bO,0,none⟩)]) (B:=[ah.box bO [.pointer none,aY] 124,ah.row 5 aY (bd.Buf:List UInt8),ah.held w own]) [(0,.pointer (some ⟨bO,0,none⟩))] Try.func78 rfl rfl rfl rfl H ?_
  refine R.reg rfl<|R.u 1 rfl<|R.q (q.bm rfl) rfl<|R.q (q.bJ (off':=0) rfl iy rfl) rfl<|R.q (q.ld 0 rfl rfl j4 rfl) rfl<|R.q (q.ut rfl rfl Try.underlying122) rfl<|R.nil ?_
  refine R.aK rfl rfl ?_
  refine R.reg rfl<|R.u 2 rfl<|R.q (q.zR (i:=0) rfl rfl Try.underlying122 Try.underlying135 rfl (by decide) (by simp)) rfl<|R.q (q.x6 Try.func81 (by decide +kernel) rfl rfl rfl rfl rfl) rfl<|R.q (q.zS (i:=0) rfl rfl Try.underlying135 Try.underlying122 rfl 2 rfl (by decide +kernel)) rfl<|R.q (q.bm rfl) rfl<|R.q (q.bJ (off':=0) rfl iy rfl) rfl<|?_
  refine R.s rfl (s.st (us:=[.pointer (some ⟨bO,0,none⟩)]) (cs':=[.pointer (some ⟨bO,0,none⟩),aY]) 0 _ rfl rfl rfl rfl (.inr ⟨j4,rfl⟩) rfl rfl rfl rfl) fun _=>?_
  refine R.nil ?_
  exact R.w0 aY [0,1,2] [] (by first|exact .inl rfl|exact .inr ⟨_,rfl⟩) Try.results78  rfl rfl rfl rfl
theorem mJ (bO:Nat)(aY:Value)(bd:kY)(sx:ByteArray)(w:World)(own:List Nat)(H:Wd w (blks [ah.box bO [.pointer none,aY] 124,ah.row 5 aY (bd.Buf:List UInt8)]++own) ([ah.box bO [.pointer none,aY] 124,ah.row 5 aY (bd.Buf:List UInt8)]++[ah.held w own]) [] w)(hl:bd.Buf.length+sx.size≤1000000):Calls Try.prog 70 #[.pointer (some ⟨bO,0,none⟩),.string sx] w fun e w' => ∃z:Value,e = .returned (.tuple #[.int .i64 (sx.size:Int),.nilIface])∧Wd w (blks [ah.box bO [.pointer none,aY] 124,ah.row 5 aY (bd.Buf:List UInt8)]++own) ([ah.box bO [.pointer (some ⟨bO,0,none⟩),z] 124,ah.row 5 z (((⟨bd.Buf++sx.data.toList⟩:kY)).Buf:List UInt8)]++[ah.held w own]) [] w':=by
  have l9:=H.cap 1 rfl;have ma:=H.aU 1 rfl
  refine R.bW (n:=19) (vs:=[.pointer (some ⟨bO,0,none⟩),.string sx]) (B:=[ah.box bO [.pointer none,aY] 124,ah.row 5 aY (bd.Buf:List UInt8),ah.held w own]) [(0,.pointer (some ⟨bO,0,none⟩)),(1,.string sx)] Try.func70 rfl rfl rfl rfl H ?_
  refine R.reg rfl<|R.u 2 rfl<|R.nil ?_
  refine R.reg rfl<|R.u 1 rfl<|?_
  refine R.s (B':=(fun aW:Value=>[ah.box bO [.pointer (some ⟨bO,0,none⟩),aW] 124,ah.row 5 aW ((bd).Buf:List UInt8),ah.held w own])) (F':=(fun aW:Value=>[])) rfl (s.bD (B0:=[ah.box bO [.pointer none,aY] 124,ah.row 5 aY (bd.Buf:List UInt8)]) (Br:=[ah.held w own]) (F0:=[]) [0,1,2] [] (fun aW:Value => .tuple #[]) (fun aW:Value=>[ah.box bO [.pointer (some ⟨bO,0,none⟩),aW] 124,ah.row 5 aW ((bd).Buf:List UInt8)]) (fun aW:Value=>[]) rfl rfl rfl vA rfl rfl (fun w own hw H=>mI bO aY (bd) w own H ) rfl) fun z1=>?_
  refine R.nil ?_
  refine R.reg rfl<|R.u 2 rfl<|R.q (q.bm rfl) rfl<|R.q (q.bJ (off':=1) rfl iz rfl) rfl<|R.q (q.ld 0 rfl rfl gw rfl) rfl<|R.u 1 rfl<|?_
  refine R.s rfl (s.tF 1 rfl rfl rfl Try.underlying109 Try.underlying9 rfl rfl rfl rfl (by first|omega|(simp;done)|(simp;omega)) rfl) fun v1=>?_
  refine R.q (q.bm rfl) rfl<|R.q (q.bJ (off':=1) rfl iz rfl) rfl<|?_
  refine R.s rfl (s.su (us:=[v1]) (cs':=[.pointer (some ⟨bO,0,none⟩),v1]) 0 _ rfl rfl rfl (fun w hw=>Sl.eu ((fun _=>Wd.row 1 rfl) w hw)) (.inr ⟨gw,rfl⟩) (fun w hw=>(dA (Sl.one ((fun _=>Wd.row 1 rfl) w hw)) eh)) rfl rfl rfl) fun _=>?_
  refine R.nil ?_
  refine R.reg rfl<|R.u 1 rfl<|R.q (q.fN rfl Try.underlying9) rfl<|R.u 2 rfl<|R.nil ?_
  have hz:((⟨bd.Buf++sx.data.toList⟩:kY),sx.size)=((⟨(bd.Buf++sx.data.toList)⟩:kY),sx.size):=by (rfl)
  exact R.w2 v1 [0,1,2] [] rfl Try.results70 (RV.tmp rfl) (RV.tmp rfl) rfl rfl rfl (oD rfl rfl)
theorem mK (bO:Nat)(aY:Value)(bd:kY)(w:World)(own:List Nat)(H:Wd w (blks [ah.box bO [.pointer (some ⟨bO,0,none⟩),aY] 124,ah.row 5 aY (bd.Buf:List UInt8)]++own) ([ah.box bO [.pointer (some ⟨bO,0,none⟩),aY] 124,ah.row 5 aY (bd.Buf:List UInt8)]++[ah.held w own]) [] w)  : Calls Try.prog 78 #[.pointer (some ⟨bO,0,none⟩)] w fun e w' => ∃z:Value,e = .returned (.tuple #[])∧Wd w (blks [ah.box bO [.pointer (some ⟨bO,0,none⟩),aY] 124,ah.row 5 aY (bd.Buf:List UInt8)]++own) ([ah.box bO [.pointer (some ⟨bO,0,none⟩),z] 124,ah.row 5 z ((bd).Buf:List UInt8)]++[ah.held w own]) [] w':=by
  have l9:=H.cap 1 rfl;have ma:=H.aU 1 rfl
  refine R.bW (n:=20) (vs:=[.pointer (some ⟨bO,0,none⟩)]) (B:=[ah.box bO [.pointer (some ⟨bO,0,none⟩),aY] 124,ah.row 5 aY (bd.Buf:List UInt8),ah.held w own]) [(0,.pointer (some ⟨bO,0,none⟩))] Try.func78 rfl rfl rfl rfl H ?_
  refine R.reg rfl<|R.u 1 rfl<|R.q (q.bm rfl) rfl<|R.q (q.bJ (off':=0) rfl iy rfl) rfl<|R.q (q.ld 0 rfl rfl j4 rfl) rfl<|R.q (q.ut rfl rfl Try.underlying122) rfl<|R.nil ?_
  refine R.aI rfl rfl ?_
  refine R.reg rfl<|R.u 1 rfl<|R.q (q.bm rfl) rfl<|R.q (q.bJ (off':=0) rfl iy rfl) rfl<|R.q (q.ld 0 rfl rfl j4 rfl) rfl<|R.u 1 rfl<|R.q (q.same rfl rfl Try.underlying122 rfl) rfl<|R.nil ?_
  refine R.aI rfl rfl ?_
  exact R.w0 aY [0,1,2] [] (by first|exact .inl rfl|exact .inr ⟨_,rfl⟩) Try.results78  rfl rfl rfl rfl
theorem mL (bO:Nat)(aY:Value)(bd:kY)(sx:ByteArray)(w:World)(own:List Nat)(H:Wd w (blks [ah.box bO [.pointer (some ⟨bO,0,none⟩),aY] 124,ah.row 5 aY (bd.Buf:List UInt8)]++own) ([ah.box bO [.pointer (some ⟨bO,0,none⟩),aY] 124,ah.row 5 aY (bd.Buf:List UInt8)]++[ah.held w own]) [] w)(hl:bd.Buf.length+sx.size≤1000000):Calls Try.prog 70 #[.pointer (some ⟨bO,0,none⟩),.string sx] w fun e w' => ∃z:Value,e = .returned (.tuple #[.int .i64 (sx.size:Int),.nilIface])∧Wd w (blks [ah.box bO [.pointer (some ⟨bO,0,none⟩),aY] 124,ah.row 5 aY (bd.Buf:List UInt8)]++own) ([ah.box bO [.pointer (some ⟨bO,0,none⟩),z] 124,ah.row 5 z (((⟨bd.Buf++sx.data.toList⟩:kY)).Buf:List UInt8)]++[ah.held w own]) [] w':=by
  have l9:=H.cap 1 rfl;have ma:=H.aU 1 rfl
  refine R.bW (n:=19) (vs:=[.pointer (some ⟨bO,0,none⟩),.string sx]) (B:=[ah.box bO [.pointer (some ⟨bO,0,none⟩),aY] 124,ah.row 5 aY (bd.Buf:List UInt8),ah.held w own]) [(0,.pointer (some ⟨bO,0,none⟩)),(1,.string sx)] Try.func70 rfl rfl rfl rfl H ?_
  refine R.reg rfl<|R.u 2 rfl<|R.nil ?_
  refine R.reg rfl<|R.u 1 rfl<|?_
  refine R.s (B':=(fun aW:Value=>[ah.box bO [.pointer (some ⟨bO,0,none⟩),aW] 124,ah.row 5 aW ((bd).Buf:List UInt8),ah.held w own])) (F':=(fun aW:Value=>[])) rfl (s.bD (B0:=[ah.box bO [.pointer (some ⟨bO,0,none⟩),aY] 124,ah.row 5 aY (bd.Buf:List UInt8)]) (Br:=[ah.held w own]) (F0:=[]) [0,1,2] [] (fun aW:Value => .tuple #[]) (fun aW:Value=>[ah.box bO [.pointer (some ⟨bO,0,none⟩),aW] 124,ah.row 5 aW ((bd).Buf:List UInt8)]) (fun aW:Value=>[]) rfl rfl rfl vA rfl rfl (fun w own hw H=>mK bO aY (bd) w own H ) rfl) fun z1=>?_
  refine R.nil ?_
  refine R.reg rfl<|R.u 2 rfl<|R.q (q.bm rfl) rfl<|R.q (q.bJ (off':=1) rfl iz rfl) rfl<|R.q (q.ld 0 rfl rfl gw rfl) rfl<|R.u 1 rfl<|?_
  refine R.s rfl (s.tF 1 rfl rfl rfl Try.underlying109 Try.underlying9 rfl rfl rfl rfl (by first|omega|(simp;done)|(simp;omega)) rfl) fun v1=>?_
  refine R.q (q.bm rfl) rfl<|R.q (q.bJ (off':=1) rfl iz rfl) rfl<|?_
  refine R.s rfl (s.su (us:=[v1]) (cs':=[.pointer (some ⟨bO,0,none⟩),v1]) 0 _ rfl rfl rfl (fun w hw=>Sl.eu ((fun _=>Wd.row 1 rfl) w hw)) (.inr ⟨gw,rfl⟩) (fun w hw=>(dA (Sl.one ((fun _=>Wd.row 1 rfl) w hw)) eh)) rfl rfl rfl) fun _=>?_
  refine R.nil ?_
  refine R.reg rfl<|R.u 1 rfl<|R.q (q.fN rfl Try.underlying9) rfl<|R.u 2 rfl<|R.nil ?_
  have hz:((⟨bd.Buf++sx.data.toList⟩:kY),sx.size)=((⟨(bd.Buf++sx.data.toList)⟩:kY),sx.size):=by (rfl)
  exact R.w2 v1 [0,1,2] [] rfl Try.results70 (RV.tmp rfl) (RV.tmp rfl) rfl rfl rfl (oD rfl rfl)
theorem ot (bO:Nat)(aY:Value)(bd:pd)(sx:ByteArray)(w:World)(own:List Nat)(H:Wd w (blks [ah.box bO [iM bO bd.Used,aY] 124,ah.row 5 aY (bd.Buf:List UInt8)]++own) ([ah.box bO [iM bO bd.Used,aY] 124,ah.row 5 aY (bd.Buf:List UInt8)]++[ah.held w own]) [] w)(hl:bd.Buf.length+sx.size≤1000000):Calls Try.prog 70 #[.pointer (some ⟨bO,0,none⟩),.string sx] w fun e w' => ∃z:Value,e = .returned (.tuple #[.int .i64 (sx.size:Int),.nilIface])∧Wd w (blks [ah.box bO [iM bO bd.Used,aY] 124,ah.row 5 aY (bd.Buf:List UInt8)]++own) ([ah.box bO [iM bO (((⟨true,bd.Buf++sx.data.toList⟩:pd)).Used),z] 124,ah.row 5 z (((⟨true,bd.Buf++sx.data.toList⟩:pd)).Buf:List UInt8)]++[ah.held w own]) [] w':=by
  obtain ⟨u_,l_⟩:=bd
  cases u_ with
  | true=>exact mL bO aY (⟨l_⟩:kY) sx w own H hl
  | false=>exact mJ bO aY (⟨l_⟩:kY) sx w own H hl
theorem uR (bR:Value)(l:List Change)(w:World)(oz:Sl w bR l)(hl:l.length≤1000)(hF:∀c∈l,ea c=0):Calls Try.prog 58 #[bR] w fun e w'=>e = .returned (.string (aB l))∧Ext w w':=by
  have yq:=oz.jZ
  refine R.enter (n:=36) (vs:=[bR]) [] [(0,bR)] Try.func58 rfl rfl rfl rfl ?_
  refine R.iZ oz ?_
  refine R.reg rfl<|R.u 1 rfl<|R.nil ?_
  refine R.reg rfl<|?_
  refine R.s rfl (s.alloc (cs:=[.pointer none,.slice none 0 0]) rH rfl rfl) fun b1=>?_
  refine R.nil ?_
  refine R.reg rfl<|R.u 1 rfl<|R.q (q.len' (fun _=>Wd.bZ 0 rfl) rfl Try.underlying46) rfl<|R.u 1 rfl<|R.nil ?_
  refine R.row0 (α:=UInt8) 5 ?_
  refine R.loop (fun g_:Nat×Bool×Value×(List UInt8)=>[(3,.pointer (some ⟨b1,0,none⟩)),(6,bR),(7,.int .i64 (l.length:Int)),(8,.int .i64 (g_.1:Int))]) (fun g_:Nat×Bool×Value×(List UInt8)=>[ah.row 5 g_.2.2.1 (g_.2.2.2:List UInt8),ah.box b1 [iM b1 g_.2.1,g_.2.2.1] 124]) (fun g_:Nat×Bool×Value×(List UInt8)=>[ah.ls bR (l:List Change)]) (fun g_:Nat×Bool×Value×(List UInt8)=>g_.1≤l.length∧g_.2.2.2=(aB (l.take g_.1)).data.toList) (fun g_:Nat×Bool×Value×(List UInt8)=>l.length-g_.1) (0,false,(.slice none 0 0),[]) rfl (by exact ⟨by omega,rfl⟩) ⟨rfl,rfl,rfl,rfl,trivial⟩ (fun _=>Wd.pick [0,1] [0] rfl rfl rfl) ?_
  rintro ⟨k,u,qb,bb⟩ ⟨hk,HB⟩
  dsimp only at *
  have hbl:bb.length≤35*k:=by have:=k9 (l:=l.take k) (fun c hc=>hF c (List.mem_of_mem_take hc));rw [List.length_take] at this;rw [HB,Array.length_toList];show (aB (l.take k)).size≤_;omega
  refine R.reg rfl<|?_
  by_cases h1:k<l.length
  ·
    refine R.q (q.lss rfl rfl (decide_eq_true (by omega))) rfl<|R.nil ?_
    refine R.aK rfl rfl ?_
    refine R.reg rfl<|?_
    obtain ⟨x1,hx1⟩:∃z,l[k]? = some z:=⟨_,List.getElem?_eq_getElem (by omega)⟩
    obtain ⟨xZ,zQ,AB,AE⟩:=dx (hF x1 (List.mem_of_getElem? hx1))
    refine R.q (q.idx (i:=k) (fun _=>Wd.bZ 0 rfl) rfl rfl aT rfl hx1) rfl<|R.q (q.iU (ds:=[.string x1.Key,.string x1.Val,.bool x1.Gone]) (fun _=>Wd.bZ 0 rfl) hx1 rfl aX rfl) rfl<|?_
    refine R.s rfl (s.alloc (cs:=[.string (⟨#[]⟩),.string (⟨#[]⟩),.bool false]) bT rfl rfl) fun b2=>?_
    refine R.s rfl (s.st (us:=[.string x1.Key,.string x1.Val,.bool x1.Gone]) (cs':=[.string x1.Key,.string x1.Val,.bool x1.Gone]) 0 _ rfl rfl rfl rfl (.inl aX) rfl rfl rfl rfl) fun _=>?_
    refine R.nil ?_
    refine R.reg rfl<|R.q (q.bJ (off':=0) rfl bu rfl) rfl<|R.q (q.ld 0 rfl rfl bB rfl) rfl<|R.q (q.fN rfl Try.underlying9) rfl<|R.q (q.iu (r:=((x1.Key.size:Nat):Int)) rfl (by rw [Try.underlying3];rfl) Try.underlying5 (lA (by omega))) rfl<|R.q (q.bJ (off':=1) rfl dV rfl) rfl<|R.q (q.ld 0 rfl rfl bB rfl) rfl<|R.q (q.fN rfl Try.underlying9) rfl<|R.q (q.iu (r:=((x1.Val.size:Nat):Int)) rfl (by rw [Try.underlying3];rfl) Try.underlying5 (lA (by omega))) rfl<|R.q (q.bJ (off':=1) rfl dV rfl) rfl<|R.q (q.ld 0 rfl rfl bB rfl) rfl<|R.q (q.fN rfl Try.underlying9) rfl<|R.q (q.shr (r:=(((x1.Val.size / 256):Nat):Int)) rfl rfl (by decide) (vR (by decide))) rfl<|R.q (q.iu (r:=(((x1.Val.size / 256):Nat):Int)) rfl (by rw [Try.underlying3];rfl) Try.underlying5 (lA (by omega))) rfl<|?_
    refine R.s rfl (s.bs (l:=([(UInt8.ofNat x1.Key.size),(UInt8.ofNat x1.Val.size),(UInt8.ofNat (x1.Val.size / 256))]:List UInt8)) aJ cd rfl rfl rfl rfl rfl (bn (bU (by omega)) (bn (bU (by omega)) (bn (bU (by omega)) cS))) rfl) fun b3=>?_
    refine R.q (q.eM (fun _=>Wd.row 0 rfl) rfl aJ Try.underlying5 Try.underlying9) rfl<|R.q (q.bJ (off':=0) rfl bu rfl) rfl<|R.q (q.ld 1 rfl rfl bB rfl) rfl<|R.q (q.cat rfl rfl (by first|omega|(simp only [ByteArray.size_append,aD,az,List.length_cons,List.length_nil];omega))) rfl<|R.q (q.bJ (off':=1) rfl dV rfl) rfl<|R.q (q.ld 1 rfl rfl bB rfl) rfl<|R.q (q.cat rfl rfl (by first|omega|(simp only [ByteArray.size_append,aD,az,List.length_cons,List.length_nil];omega))) rfl<|?_
    refine R.s (B':=(fun aW:Value=>[ah.box b1 [iM b1 (((⟨true,bb++(((⟨([(UInt8.ofNat x1.Key.size),(UInt8.ofNat x1.Val.size),(UInt8.ofNat (x1.Val.size / 256))]).toArray⟩:ByteArray)++x1.Key)++x1.Val).data.toList⟩:pd)).Used),aW] 124,ah.row 5 aW (((⟨true,bb++(((⟨([(UInt8.ofNat x1.Key.size),(UInt8.ofNat x1.Val.size),(UInt8.ofNat (x1.Val.size / 256))]).toArray⟩:ByteArray)++x1.Key)++x1.Val).data.toList⟩:pd)).Buf:List UInt8),ah.row 5 (.slice (some ⟨b3,0,none⟩) 3 3) ([(UInt8.ofNat x1.Key.size),(UInt8.ofNat x1.Val.size),(UInt8.ofNat (x1.Val.size / 256))]:List UInt8),ah.box b2 [.string x1.Key,.string x1.Val,.bool x1.Gone] 51])) (F':=(fun aW:Value=>[ah.ls bR (l:List Change)])) rfl (s.bD (B0:=[ah.box b1 [iM b1 u,qb] 124,ah.row 5 qb (bb:List UInt8)]) (Br:=[ah.row 5 (.slice (some ⟨b3,0,none⟩) 3 3) ([(UInt8.ofNat x1.Key.size),(UInt8.ofNat x1.Val.size),(UInt8.ofNat (x1.Val.size / 256))]:List UInt8),ah.box b2 [.string x1.Key,.string x1.Val,.bool x1.Gone] 51]) (F0:=[]) [3,2,0,1] [] (fun aW:Value => .tuple #[.int .i64 (((((⟨([(UInt8.ofNat x1.Key.size),(UInt8.ofNat x1.Val.size),(UInt8.ofNat (x1.Val.size / 256))]).toArray⟩:ByteArray)++x1.Key)++x1.Val).size):Int),.nilIface]) (fun aW:Value=>[ah.box b1 [iM b1 (((⟨true,bb++(((⟨([(UInt8.ofNat x1.Key.size),(UInt8.ofNat x1.Val.size),(UInt8.ofNat (x1.Val.size / 256))]).toArray⟩:ByteArray)++x1.Key)++x1.Val).data.toList⟩:pd)).Used),aW] 124,ah.row 5 aW (((⟨true,bb++(((⟨([(UInt8.ofNat x1.Key.size),(UInt8.ofNat x1.Val.size),(UInt8.ofNat (x1.Val.size / 256))]).toArray⟩:ByteArray)++x1.Key)++x1.Val).data.toList⟩:pd)).Buf:List UInt8)]) (fun aW:Value=>[]) rfl rfl rfl xR rfl rfl (fun w own hw H=>ot b1 qb ((⟨u,bb⟩:pd)) ((((⟨([(UInt8.ofNat x1.Key.size),(UInt8.ofNat x1.Val.size),(UInt8.ofNat (x1.Val.size / 256))]).toArray⟩:ByteArray)++x1.Key)++x1.Val)) w own H (by first|omega|assumption|(simp only [ByteArray.size_append,aD,List.length_cons,List.length_nil];omega))) rfl) fun z1=>?_
    refine R.nil ?_
    refine R.reg rfl<|R.q (q.add (r:=((k+1:Nat):Int)) rfl rfl (wr (by omega))) rfl<|R.u 1 rfl<|R.nil ?_
    refine R.back (k+1,true,z1,(bb++(((⟨([(UInt8.ofNat x1.Key.size),(UInt8.ofNat x1.Val.size),(UInt8.ofNat (x1.Val.size / 256))]).toArray⟩:ByteArray)++x1.Key)++x1.Val).data.toList)) rfl (by (exact ⟨by omega,by rw [rQ hx1,HB];simp [dI]⟩)) (by dsimp only;omega) ⟨rfl,rfl,rfl,rfl,trivial⟩ (fun _=>Wd.aA [1,0] [0] rfl rfl rfl)
  ·
    refine R.q (q.lss rfl rfl (decide_eq_false (by omega))) rfl<|R.nil ?_
    refine R.aI rfl rfl ?_
    refine R.reg rfl<|?_
    refine R.s rfl (s.yR (i:=1) (j:=0) (u:=u) (l:=bb) xS rfl rfl (by decide) rfl rfl (fun W h hW=>Try.Builder_String_any _ _ _ W h hW) rfl) fun _=>?_
    refine R.u 1 rfl<|R.nil ?_
    exact R.rv rfl Try.results58 rfl (rS (by (rw [HB,List.take_of_length_le (by omega)])))
end Go.Proofs.Ytpipachmngdegaa
end
