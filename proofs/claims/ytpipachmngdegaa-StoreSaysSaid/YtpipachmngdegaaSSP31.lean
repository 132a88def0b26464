import Derived.Test.YtpipachmngdegaaSSP27
import Derived.Test.YtpipachmngdegaaSSP28
import Derived.Test.YtpipachmngdegaaSSP29
import Derived.Test.YtpipachmngdegaaSSP30
section
namespace Go.Proofs.Ytpipachmngdegaa
open Go Go.RowKit
set_option linter.unusedVariables false
set_option linter.unusedSimpArgs false
set_option maxRecDepth 100000
theorem jF (n:Int)(w:World)(hn:0≤n∧n≤9000000000000000000):Calls Try.prog 69 #[.int .i64 n] w fun e w'=>e = .returned (.string (aN n))∧Ext w w':=by
  refine R.enter (n:=16) (vs:=[.int .i64 n]) [] [(0,.int .i64 n)] Try.func69 rfl rfl rfl rfl ?_
  refine R.reg rfl<|R.u 1 rfl<|R.nil ?_
  refine R.reg rfl<|R.u 1 rfl<|R.q (q.iD rfl (by rw [Try.underlying3];rfl) Try.underlying5 je) rfl<|R.u 1 rfl<|R.q (q.shr (r:=n / 256) rfl rfl (by decide) (rG (D:=256) (by decide) (by decide))) rfl<|R.q (q.iD rfl (by rw [Try.underlying3];rfl) Try.underlying5 je) rfl<|R.u 1 rfl<|R.q (q.shr (r:=n / 65536) rfl rfl (by decide) (rG (D:=65536) (by decide) (by decide))) rfl<|R.q (q.iD rfl (by rw [Try.underlying3];rfl) Try.underlying5 je) rfl<|R.u 1 rfl<|R.q (q.shr (r:=n / 16777216) rfl rfl (by decide) (rG (D:=16777216) (by decide) (by decide))) rfl<|R.q (q.iD rfl (by rw [Try.underlying3];rfl) Try.underlying5 je) rfl<|?_
  refine R.s rfl (s.bs (l:=([(u8 (n % 256)),(u8 ((n / 256) % 256)),(u8 ((n / 65536) % 256)),(u8 ((n / 16777216) % 256))]:List UInt8)) aJ ck rfl rfl rfl rfl rfl (bq (dr (by omega)) (bq (dr (by omega)) (bq (dr (by omega)) (bq (dr (by omega)) cT)))) rfl) fun b1=>?_
  refine R.q (q.e9 (fun _=>Wd.row 0 rfl) rfl aJ Try.underlying5 Try.underlying9) rfl<|R.u 1 rfl<|R.nil ?_
  exact R.rv rfl Try.results69 rfl (rS (by (rfl)))
theorem cq (sx:ByteArray)(w:World)(hs:4≤sx.size):Calls Try.prog 63 #[.string sx] w fun e w'=>e = .returned (.int .i64 (bR sx:Int))∧Ext w w':=by
  refine R.enter (n:=21) (vs:=[.string sx]) [] [(0,.string sx)] Try.func63 rfl rfl rfl rfl ?_
  refine R.reg rfl<|R.u 1 rfl<|R.nil ?_
  obtain ⟨y1,hy1⟩:∃z,sx.data[0]? = some z:=⟨_,Array.getElem?_eq_getElem (show 0<sx.size from by omega)⟩
  have yQ:=y1.toNat_lt
  obtain ⟨y2,hy2⟩:∃z,sx.data[1]? = some z:=⟨_,Array.getElem?_eq_getElem (show 1<sx.size from by omega)⟩
  have yR:=y2.toNat_lt
  obtain ⟨y3,hy3⟩:∃z,sx.data[2]? = some z:=⟨_,Array.getElem?_eq_getElem (show 2<sx.size from by omega)⟩
  have zo:=y3.toNat_lt
  obtain ⟨y4,hy4⟩:∃z,sx.data[3]? = some z:=⟨_,Array.getElem?_eq_getElem (show 3<sx.size from by omega)⟩
  have zN:=y4.toNat_lt
  refine R.dC rfl mixed (by kernel_rfl)<|Q.u 1 rfl<|Q.q (q.ek (i:=0) rfl rfl Try.underlying9 rfl hy1) rfl<|Q.q (q.iD (r:=((y1.toNat:Nat):Int)) rfl (by rw [Try.underlying5];rfl) Try.underlying3 (wr (by omega))) rfl<|Q.u 1 rfl<|Q.q (q.ek (i:=1) rfl rfl Try.underlying9 rfl hy2) rfl<|Q.q (q.iD (r:=((y2.toNat:Nat):Int)) rfl (by rw [Try.underlying5];rfl) Try.underlying3 (wr (by omega))) rfl<|Q.q (q.shl (r:=(((y2.toNat*256):Nat):Int)) rfl rfl (by decide) (wL 256 (by decide) (by have:=y2.toNat_lt;omega))) rfl<|Q.q (q.or (r:=(((y1.toNat+(y2.toNat*256)):Nat):Int)) rfl rfl (zp 8 256 rfl (by have:=y1.toNat_lt;have:=y2.toNat_lt;omega) (by have:=y1.toNat_lt;have:=y2.toNat_lt;omega))) rfl<|Q.u 1 rfl<|Q.q (q.ek (i:=2) rfl rfl Try.underlying9 rfl hy3) rfl<|Q.q (q.iD (r:=((y3.toNat:Nat):Int)) rfl (by rw [Try.underlying5];rfl) Try.underlying3 (wr (by omega))) rfl<|Q.q (q.shl (r:=(((y3.toNat*65536):Nat):Int)) rfl rfl (by decide) (wL 65536 (by decide) (by have:=y3.toNat_lt;omega))) rfl<|Q.q (q.or (r:=((((y1.toNat+(y2.toNat*256))+(y3.toNat*65536)):Nat):Int)) rfl rfl (zp 16 65536 rfl (by have:=y1.toNat_lt;have:=y2.toNat_lt;have:=y3.toNat_lt;omega) (by have:=y1.toNat_lt;have:=y2.toNat_lt;have:=y3.toNat_lt;omega))) rfl<|Q.u 1 rfl<|Q.q (q.ek (i:=3) rfl rfl Try.underlying9 rfl hy4) rfl<|Q.q (q.iD (r:=((y4.toNat:Nat):Int)) rfl (by rw [Try.underlying5];rfl) Try.underlying3 (wr (by omega))) rfl<|Q.q (q.shl (r:=(((y4.toNat*16777216):Nat):Int)) rfl rfl (by decide) (wL 16777216 (by decide) (by have:=y4.toNat_lt;omega))) rfl<|Q.q (q.or (r:=(((((y1.toNat+(y2.toNat*256))+(y3.toNat*65536))+(y4.toNat*16777216)):Nat):Int)) rfl rfl (zp 24 16777216 rfl (by have:=y1.toNat_lt;have:=y2.toNat_lt;have:=y3.toNat_lt;have:=y4.toNat_lt;omega) (by have:=y1.toNat_lt;have:=y2.toNat_lt;have:=y3.toNat_lt;have:=y4.toNat_lt;omega))) rfl<|Q.u 1 rfl<|Q.nil ?_
  exact R.rv rfl Try.results63 rfl (rI (by (unfold bR;rw [ae hy1,ae hy2,ae hy3,ae hy4])))
theorem nJ (h:br)(w:World)(hn:0≤h.Epoch∧h.Epoch≤9000000000000000000∧0≤h.Side∧h.Side≤9000000000000000000∧0≤h.Size∧h.Size≤9000000000000000000∧0≤h.First∧h.First≤9000000000000000000):Calls Try.prog 57 #[.agg #[.int .i64 h.Epoch,.int .i64 h.Side,.int .i64 h.Size,.int .i64 h.First]] w fun e w'=>e = .returned (.string (aA h))∧Ext w w':=by
  refine R.enter (n:=19) (vs:=[.agg #[.int .i64 h.Epoch,.int .i64 h.Side,.int .i64 h.Size,.int .i64 h.First]]) [] [(0,.agg #[.int .i64 h.Epoch,.int .i64 h.Side,.int .i64 h.Size,.int .i64 h.First])] Try.func57 rfl rfl rfl rfl ?_
  refine R.reg rfl<|?_
  refine R.s rfl (s.box (cs:=[.int .i64 h.Epoch,.int .i64 h.Side,.int .i64 h.Size,.int .i64 h.First]) rfl rfl rfl) fun b1=>?_
  refine R.u 1 rfl<|R.nil ?_
  refine R.dC rfl mixed (by kernel_rfl)<|Q.q (q.bz (off':=0) rfl cR rfl) rfl<|Q.q (q.ld 0 rfl rfl aK rfl) rfl<|Q.c (q.call qO rfl rfl (fun w hw=>(jF (h.Epoch) w  (by first|omega|assumption)))) rfl<|Q.q (q.cat rfl rfl (by first|omega|(simp only [ByteArray.size_append,aC,au,List.length_cons,List.length_nil];omega))) rfl<|Q.q (q.bz (off':=1) rfl ew rfl) rfl<|Q.q (q.ld 0 rfl rfl aK rfl) rfl<|Q.c (q.call qO rfl rfl (fun w hw=>(jF (h.Side) w  (by first|omega|assumption)))) rfl<|Q.q (q.cat rfl rfl (by first|omega|(simp only [ByteArray.size_append,aC,au,List.length_cons,List.length_nil];omega))) rfl<|Q.q (q.bz (off':=2) rfl fB rfl) rfl<|Q.q (q.ld 0 rfl rfl aK rfl) rfl<|Q.c (q.call qO rfl rfl (fun w hw=>(jF (h.Size) w  (by first|omega|assumption)))) rfl<|Q.q (q.cat rfl rfl (by first|omega|(simp only [ByteArray.size_append,aC,au,List.length_cons,List.length_nil];omega))) rfl<|Q.q (q.bz (off':=3) rfl eT rfl) rfl<|Q.q (q.ld 0 rfl rfl aK rfl) rfl<|Q.c (q.call qO rfl rfl (fun w hw=>(jF (h.First) w  (by first|omega|assumption)))) rfl<|Q.q (q.cat rfl rfl (by first|omega|(simp only [ByteArray.size_append,aC,au,List.length_cons,List.length_nil];omega))) rfl<|Q.u 1 rfl<|Q.nil ?_
  exact R.rv rfl Try.results57 rfl (rS (by (rfl)))
theorem mr (sx:ByteArray)(w:World)(own:List Nat)(H:Wd w (blks []++own) ([]++[af.held w own]) [] w)(hs:sx.size=48):Calls Try.prog 54 #[.string sx] w fun e w' => ∃z:Unit,e = .returned (.agg #[.int .i64 (((aT sx)).Epoch),.int .i64 (((aT sx)).Side),.int .i64 (((aT sx)).Size),.int .i64 (((aT sx)).First)])∧Wd w (blks []++own) ([]++[af.held w own]) [] w':=by
  refine R.bY (n:=37) (vs:=[.string sx]) (B:=[af.held w own]) [(0,.string sx)] Try.func54 rfl rfl rfl rfl H ?_
  refine R.reg rfl<|?_
  refine R.s rfl (s.alloc (cs:=[.int .i64 0,.int .i64 0,.int .i64 0,.int .i64 0]) eC rfl rfl) fun b1=>?_
  refine R.nil ?_
  refine R.eX (fuel:=15) (Wd w (blks []++own) [af.box b1 [.int .i64 0,.int .i64 0,.int .i64 0,.int .i64 0] 98,af.held w own] []) rfl mixed rfl ?_
  refine D.q (i:=0) rfl (by kernel_rfl) (fun _=>Wd.ay [0,1] [] rfl rfl rfl) rfl (q.mv rfl) rfl<|D.q (i:=1) rfl (by kernel_rfl) (fun _=>Wd.ay [0,1] [] rfl rfl rfl) rfl (q.qC (i:=1) (j:=5) rfl rfl rfl Try.underlying9 rfl rfl (by omega) (by omega)) rfl<|D.q (i:=3) rfl (by kernel_rfl) (fun _=>Wd.ay [0,1] [] rfl rfl rfl) rfl (q.mv rfl) rfl<|D.q (i:=4) rfl (by kernel_rfl) (fun _=>Wd.ay [0,1] [] rfl rfl rfl) rfl (q.qC (i:=5) (j:=9) rfl rfl rfl Try.underlying9 rfl rfl (by omega) (by omega)) rfl<|D.q (i:=6) rfl (by kernel_rfl) (fun _=>Wd.ay [0,1] [] rfl rfl rfl) rfl (q.mv rfl) rfl<|D.q (i:=7) rfl (by kernel_rfl) (fun _=>Wd.ay [0,1] [] rfl rfl rfl) rfl (q.qC (i:=9) (j:=13) rfl rfl rfl Try.underlying9 rfl rfl (by omega) (by omega)) rfl<|D.q (i:=9) rfl (by kernel_rfl) (fun _=>Wd.ay [0,1] [] rfl rfl rfl) rfl (q.mv rfl) rfl<|D.q (i:=10) rfl (by kernel_rfl) (fun _=>Wd.ay [0,1] [] rfl rfl rfl) rfl (q.qC (i:=13) (j:=17) rfl rfl rfl Try.underlying9 rfl rfl (by omega) (by omega)) rfl<|?_
  refine D.two (i:=2) (j:=13) (by kernel_rfl) rfl rfl ?_ ?_
  ·
    refine Do.s (s.c (q.call gV rfl rfl (fun w hw=>(cq ((sx.extract 1 5)) w  (by first|omega|(rw [ByteArray.size_extract];omega))))) rfl) (fun _=>(fun _=>Wd.ay [0,1] [] rfl rfl rfl)) rfl fun _=>?_
    refine D.two (i:=5) (j:=13) (by kernel_rfl) rfl rfl ?_ ?_
    ·
      refine Do.s (s.c (q.call gV rfl rfl (fun w hw=>(cq ((sx.extract 5 9)) w  (by first|omega|(rw [ByteArray.size_extract];omega))))) rfl) (fun _=>(fun _=>Wd.ay [0,1] [] rfl rfl rfl)) rfl fun _=>?_
      refine D.two (i:=8) (j:=13) (by kernel_rfl) rfl rfl ?_ ?_
      ·
        refine Do.s (s.c (q.call gV rfl rfl (fun w hw=>(cq ((sx.extract 9 13)) w  (by first|omega|(rw [ByteArray.size_extract];omega))))) rfl) (fun _=>(fun _=>Wd.ay [0,1] [] rfl rfl rfl)) rfl fun _=>?_
        refine D.two (i:=11) (j:=13) (by kernel_rfl) rfl rfl ?_ ?_
        ·
          refine Do.s (s.c (q.call gV rfl rfl (fun w hw=>(cq ((sx.extract 13 17)) w  (by first|omega|(rw [ByteArray.size_extract];omega))))) rfl) (fun _=>(fun _=>Wd.ay [0,1] [] rfl rfl rfl)) rfl fun _=>?_
          refine D.q (i:=12) rfl (by kernel_rfl) (fun _=>Wd.ay [0,1] [] rfl rfl rfl) rfl (q.build (cs:=[.int .i64 (bR (sx.extract 1 5):Int),.int .i64 (bR (sx.extract 5 9):Int),.int .i64 (bR (sx.extract 9 13):Int),.int .i64 (bR (sx.extract 13 17):Int)]) dy rfl rfl) rfl<|?_
          refine D.one (i:=13) (by kernel_rfl) rfl ?_
          refine Do.s (s.alloc (cs:=[.int .i64 0,.int .i64 0,.int .i64 0,.int .i64 0]) eC rfl rfl) (fun _=>(fun _=>Wd.ay [1,2] [] rfl rfl rfl)) rfl fun b2=>?_
          refine D.one (i:=14) (by kernel_rfl) rfl ?_
          refine Do.s (s.st (us:=[.int .i64 (bR (sx.extract 1 5):Int),.int .i64 (bR (sx.extract 5 9):Int),.int .i64 (bR (sx.extract 9 13):Int),.int .i64 (bR (sx.extract 13 17):Int)]) (cs':=[.int .i64 (bR (sx.extract 1 5):Int),.int .i64 (bR (sx.extract 5 9):Int),.int .i64 (bR (sx.extract 9 13):Int),.int .i64 (bR (sx.extract 13 17):Int)]) 0 _ rfl rfl rfl rfl (.inl aM) rfl rfl rfl rfl) (fun _=>(fun _=>Wd.ay [1,2] [] rfl rfl rfl)) rfl fun _=>?_
          refine D.done (by kernel_rfl)<|?_
          refine R.reg rfl<|R.u 1 rfl<|?_
          obtain ⟨y1,hy1⟩:∃z,sx.data[0]? = some z:=⟨_,Array.getElem?_eq_getElem (show 0<sx.size from by omega)⟩
          have yQ:=y1.toNat_lt
          refine R.q (q.ek (i:=0) rfl rfl Try.underlying9 rfl hy1) rfl<|?_
          by_cases h1:y1.toNat=72
          ·
            refine R.q (q.neq rfl rfl (bne_eq_false_iff_eq.2 (by omega))) rfl<|R.u 1 rfl<|R.qg rfl (q.bz (off':=1) rfl ew rfl) rfl<|R.qg rfl (q.ld 0 rfl rfl aK rfl) rfl<|?_
            by_cases h2:1<bR (sx.extract 5 9)
            ·
              refine R.qg rfl (q.gtr rfl rfl (decide_eq_true (by omega))) rfl<|R.u 11 rfl<|R.nil ?_
              refine R.aF rfl rfl ?_
              refine R.reg rfl<|R.q (q.build (cs:=[.int .i64 0,.int .i64 0,.int .i64 0,.int .i64 0]) dy rfl rfl) rfl<|?_
              refine R.s rfl (s.st (us:=[.int .i64 0,.int .i64 0,.int .i64 0,.int .i64 0]) (cs':=[.int .i64 0,.int .i64 0,.int .i64 0,.int .i64 0]) 1 _ rfl rfl rfl rfl (.inl aM) rfl rfl rfl rfl) fun _=>?_
              refine R.nil ?_
              have hz:aT sx=(⟨0,0,0,0⟩:br):=by (first|(rw [bJ (by unfold bD;(first|rw [ae hy1] | rw [ae hy2] | rw [ae hy3] | rw [ae hy4] | rw [ae cW] | rw [ae gp] | rw [ae gq] | rw [ae gu]);omega)];first|done|rfl)|(rw [bB (by unfold bD;(first|rw [ae hy1] | rw [ae hy2] | rw [ae hy3] | rw [ae hy4] | rw [ae cW] | rw [ae gp] | rw [ae gq] | rw [ae gu]);omega)];first|done|rfl))
              rw [hz]
              exact R.w1 () [2] [] rfl Try.results54 (RV.cell 1 rfl rfl aM) rfl rfl rfl rfl
            ·
              refine R.qg rfl (q.gtr rfl rfl (decide_eq_false (by omega))) rfl<|R.u 2 rfl<|R.qg rfl (q.bz (off':=2) rfl fB rfl) rfl<|R.qg rfl (q.ld 0 rfl rfl aK rfl) rfl<|?_
              by_cases h3:2400<bR (sx.extract 9 13)
              ·
                refine R.qg rfl (q.gtr rfl rfl (decide_eq_true (by omega))) rfl<|R.u 6 rfl<|R.nil ?_
                refine R.aF rfl rfl ?_
                refine R.reg rfl<|R.q (q.build (cs:=[.int .i64 0,.int .i64 0,.int .i64 0,.int .i64 0]) dy rfl rfl) rfl<|?_
                refine R.s rfl (s.st (us:=[.int .i64 0,.int .i64 0,.int .i64 0,.int .i64 0]) (cs':=[.int .i64 0,.int .i64 0,.int .i64 0,.int .i64 0]) 1 _ rfl rfl rfl rfl (.inl aM) rfl rfl rfl rfl) fun _=>?_
                refine R.nil ?_
                have hz:aT sx=(⟨0,0,0,0⟩:br):=by (first|(rw [bJ (by unfold bD;(first|rw [ae hy1] | rw [ae hy2] | rw [ae hy3] | rw [ae hy4] | rw [ae cW] | rw [ae gp] | rw [ae gq] | rw [ae gu]);omega)];first|done|rfl)|(rw [bB (by unfold bD;(first|rw [ae hy1] | rw [ae hy2] | rw [ae hy3] | rw [ae hy4] | rw [ae cW] | rw [ae gp] | rw [ae gq] | rw [ae gu]);omega)];first|done|rfl))
                rw [hz]
                exact R.w1 () [2] [] rfl Try.results54 (RV.cell 1 rfl rfl aM) rfl rfl rfl rfl
              ·
                refine R.qg rfl (q.gtr rfl rfl (decide_eq_false (by omega))) rfl<|R.u 2 rfl<|R.qg rfl (q.bz (off':=3) rfl eT rfl) rfl<|R.qg rfl (q.ld 0 rfl rfl aK rfl) rfl<|?_
                by_cases h4:bR (sx.extract 13 17)<1
                ·
                  refine R.qg rfl (q.lss rfl rfl (decide_eq_true (by omega))) rfl<|R.u 1 rfl<|R.nil ?_
                  refine R.aF rfl rfl ?_
                  refine R.reg rfl<|R.q (q.build (cs:=[.int .i64 0,.int .i64 0,.int .i64 0,.int .i64 0]) dy rfl rfl) rfl<|?_
                  refine R.s rfl (s.st (us:=[.int .i64 0,.int .i64 0,.int .i64 0,.int .i64 0]) (cs':=[.int .i64 0,.int .i64 0,.int .i64 0,.int .i64 0]) 1 _ rfl rfl rfl rfl (.inl aM) rfl rfl rfl rfl) fun _=>?_
                  refine R.nil ?_
                  have hz:aT sx=(⟨0,0,0,0⟩:br):=by (first|(rw [bJ (by unfold bD;(first|rw [ae hy1] | rw [ae hy2] | rw [ae hy3] | rw [ae hy4] | rw [ae cW] | rw [ae gp] | rw [ae gq] | rw [ae gu]);omega)];first|done|rfl)|(rw [bB (by unfold bD;(first|rw [ae hy1] | rw [ae hy2] | rw [ae hy3] | rw [ae hy4] | rw [ae cW] | rw [ae gp] | rw [ae gq] | rw [ae gu]);omega)];first|done|rfl))
                  rw [hz]
                  exact R.w1 () [2] [] rfl Try.results54 (RV.cell 1 rfl rfl aM) rfl rfl rfl rfl
                ·
                  refine R.qg rfl (q.lss rfl rfl (decide_eq_false (by omega))) rfl<|R.u 1 rfl<|R.nil ?_
                  refine R.aH rfl rfl ?_
                  refine R.reg rfl<|R.q (q.mO 0 rfl rfl aM) rfl<|?_
                  refine R.s rfl (s.st (us:=[.int .i64 (bR (sx.extract 1 5):Int),.int .i64 (bR (sx.extract 5 9):Int),.int .i64 (bR (sx.extract 9 13):Int),.int .i64 (bR (sx.extract 13 17):Int)]) (cs':=[.int .i64 (bR (sx.extract 1 5):Int),.int .i64 (bR (sx.extract 5 9):Int),.int .i64 (bR (sx.extract 9 13):Int),.int .i64 (bR (sx.extract 13 17):Int)]) 1 _ rfl rfl rfl rfl (.inl aM) rfl rfl rfl rfl) fun _=>?_
                  refine R.nil ?_
                  have hz:aT sx=(⟨(bR (sx.extract 1 5):Int),(bR (sx.extract 5 9):Int),(bR (sx.extract 9 13):Int),(bR (sx.extract 13 17):Int)⟩:br):=by (first|(rw [bJ (by unfold bD;(first|rw [ae hy1] | rw [ae hy2] | rw [ae hy3] | rw [ae hy4] | rw [ae cW] | rw [ae gp] | rw [ae gq] | rw [ae gu]);omega)];first|done|rfl)|(rw [bB (by unfold bD;(first|rw [ae hy1] | rw [ae hy2] | rw [ae hy3] | rw [ae hy4] | rw [ae cW] | rw [ae gp] | rw [ae gq] | rw [ae gu]);omega)];first|done|rfl))
                  rw [hz]
                  exact R.w1 () [2] [] rfl Try.results54 (RV.cell 1 rfl rfl aM) rfl rfl rfl rfl
          ·
            refine R.q (q.neq rfl rfl (bne_iff_ne.2 (by omega))) rfl<|R.u 15 rfl<|R.nil ?_
            refine R.aF rfl rfl ?_
            refine R.reg rfl<|R.q (q.build (cs:=[.int .i64 0,.int .i64 0,.int .i64 0,.int .i64 0]) dy rfl rfl) rfl<|?_
            refine R.s rfl (s.st (us:=[.int .i64 0,.int .i64 0,.int .i64 0,.int .i64 0]) (cs':=[.int .i64 0,.int .i64 0,.int .i64 0,.int .i64 0]) 1 _ rfl rfl rfl rfl (.inl aM) rfl rfl rfl rfl) fun _=>?_
            refine R.nil ?_
            have hz:aT sx=(⟨0,0,0,0⟩:br):=by (first|(rw [bJ (by unfold bD;(first|rw [ae hy1] | rw [ae hy2] | rw [ae hy3] | rw [ae hy4] | rw [ae cW] | rw [ae gp] | rw [ae gq] | rw [ae gu]);omega)];first|done|rfl)|(rw [bB (by unfold bD;(first|rw [ae hy1] | rw [ae hy2] | rw [ae hy3] | rw [ae hy4] | rw [ae cW] | rw [ae gp] | rw [ae gq] | rw [ae gu]);omega)];first|done|rfl))
            rw [hz]
            exact R.w1 () [2] [] rfl Try.results54 (RV.cell 1 rfl rfl aM) rfl rfl rfl rfl
        ·
          refine Do.s (s.alloc (cs:=[.int .i64 0,.int .i64 0,.int .i64 0,.int .i64 0]) eC rfl rfl) (fun _=>(fun _=>Wd.ay [1,2] [] rfl rfl rfl)) rfl fun b3=>?_
          refine D.one (i:=11) (by kernel_rfl) rfl ?_
          refine Do.s (s.c (q.call gV rfl rfl (fun w hw=>(cq ((sx.extract 13 17)) w  (by first|omega|(rw [ByteArray.size_extract];omega))))) rfl) (fun _=>(fun _=>Wd.ay [1,2] [] rfl rfl rfl)) rfl fun _=>?_
          refine D.q (i:=12) rfl (by kernel_rfl) (fun _=>Wd.ay [1,2] [] rfl rfl rfl) rfl (q.build (cs:=[.int .i64 (bR (sx.extract 1 5):Int),.int .i64 (bR (sx.extract 5 9):Int),.int .i64 (bR (sx.extract 9 13):Int),.int .i64 (bR (sx.extract 13 17):Int)]) dy rfl rfl) rfl<|?_
          refine D.one (i:=14) (by kernel_rfl) rfl ?_
          refine Do.s (s.st (us:=[.int .i64 (bR (sx.extract 1 5):Int),.int .i64 (bR (sx.extract 5 9):Int),.int .i64 (bR (sx.extract 9 13):Int),.int .i64 (bR (sx.extract 13 17):Int)]) (cs':=[.int .i64 (bR (sx.extract 1 5):Int),.int .i64 (bR (sx.extract 5 9):Int),.int .i64 (bR (sx.extract 9 13):Int),.int .i64 (bR (sx.extract 13 17):Int)]) 0 _ rfl rfl rfl rfl (.inl aM) rfl rfl rfl rfl) (fun _=>(fun _=>Wd.ay [1,2] [] rfl rfl rfl)) rfl fun _=>?_
          refine D.done (by kernel_rfl)<|?_
          refine R.reg rfl<|R.u 1 rfl<|?_
          obtain ⟨y2,hy2⟩:∃z,sx.data[0]? = some z:=⟨_,Array.getElem?_eq_getElem (show 0<sx.size from by omega)⟩
          have yR:=y2.toNat_lt
          refine R.q (q.ek (i:=0) rfl rfl Try.underlying9 rfl hy2) rfl<|?_
          by_cases h5:y2.toNat=72
          ·
            refine R.q (q.neq rfl rfl (bne_eq_false_iff_eq.2 (by omega))) rfl<|R.u 1 rfl<|R.qg rfl (q.bz (off':=1) rfl ew rfl) rfl<|R.qg rfl (q.ld 0 rfl rfl aK rfl) rfl<|?_
            by_cases h6:1<bR (sx.extract 5 9)
            ·
              refine R.qg rfl (q.gtr rfl rfl (decide_eq_true (by omega))) rfl<|R.u 11 rfl<|R.nil ?_
              refine R.aF rfl rfl ?_
              refine R.reg rfl<|R.q (q.build (cs:=[.int .i64 0,.int .i64 0,.int .i64 0,.int .i64 0]) dy rfl rfl) rfl<|?_
              refine R.s rfl (s.st (us:=[.int .i64 0,.int .i64 0,.int .i64 0,.int .i64 0]) (cs':=[.int .i64 0,.int .i64 0,.int .i64 0,.int .i64 0]) 1 _ rfl rfl rfl rfl (.inl aM) rfl rfl rfl rfl) fun _=>?_
              refine R.nil ?_
              have hz:aT sx=(⟨0,0,0,0⟩:br):=by (first|(rw [bJ (by unfold bD;(first|rw [ae hy1] | rw [ae hy2] | rw [ae hy3] | rw [ae hy4] | rw [ae cW] | rw [ae gp] | rw [ae gq] | rw [ae gu]);omega)];first|done|rfl)|(rw [bB (by unfold bD;(first|rw [ae hy1] | rw [ae hy2] | rw [ae hy3] | rw [ae hy4] | rw [ae cW] | rw [ae gp] | rw [ae gq] | rw [ae gu]);omega)];first|done|rfl))
              rw [hz]
              exact R.w1 () [2] [] rfl Try.results54 (RV.cell 1 rfl rfl aM) rfl rfl rfl rfl
            ·
              refine R.qg rfl (q.gtr rfl rfl (decide_eq_false (by omega))) rfl<|R.u 2 rfl<|R.qg rfl (q.bz (off':=2) rfl fB rfl) rfl<|R.qg rfl (q.ld 0 rfl rfl aK rfl) rfl<|?_
              by_cases h7:2400<bR (sx.extract 9 13)
              ·
                refine R.qg rfl (q.gtr rfl rfl (decide_eq_true (by omega))) rfl<|R.u 6 rfl<|R.nil ?_
                refine R.aF rfl rfl ?_
                refine R.reg rfl<|R.q (q.build (cs:=[.int .i64 0,.int .i64 0,.int .i64 0,.int .i64 0]) dy rfl rfl) rfl<|?_
                refine R.s rfl (s.st (us:=[.int .i64 0,.int .i64 0,.int .i64 0,.int .i64 0]) (cs':=[.int .i64 0,.int .i64 0,.int .i64 0,.int .i64 0]) 1 _ rfl rfl rfl rfl (.inl aM) rfl rfl rfl rfl) fun _=>?_
                refine R.nil ?_
                have hz:aT sx=(⟨0,0,0,0⟩:br):=by (first|(rw [bJ (by unfold bD;(first|rw [ae hy1] | rw [ae hy2] | rw [ae hy3] | rw [ae hy4] | rw [ae cW] | rw [ae gp] | rw [ae gq] | rw [ae gu]);omega)];first|done|rfl)|(rw [bB (by unfold bD;(first|rw [ae hy1] | rw [ae hy2] | rw [ae hy3] | rw [ae hy4] | rw [ae cW] | rw [ae gp] | rw [ae gq] | rw [ae gu]);omega)];first|done|rfl))
                rw [hz]
                exact R.w1 () [2] [] rfl Try.results54 (RV.cell 1 rfl rfl aM) rfl rfl rfl rfl
              ·
                refine R.qg rfl (q.gtr rfl rfl (decide_eq_false (by omega))) rfl<|R.u 2 rfl<|R.qg rfl (q.bz (off':=3) rfl eT rfl) rfl<|R.qg rfl (q.ld 0 rfl rfl aK rfl) rfl<|?_
                by_cases h8:bR (sx.extract 13 17)<1
                ·
                  refine R.qg rfl (q.lss rfl rfl (decide_eq_true (by omega))) rfl<|R.u 1 rfl<|R.nil ?_
                  refine R.aF rfl rfl ?_
                  refine R.reg rfl<|R.q (q.build (cs:=[.int .i64 0,.int .i64 0,.int .i64 0,.int .i64 0]) dy rfl rfl) rfl<|?_
                  refine R.s rfl (s.st (us:=[.int .i64 0,.int .i64 0,.int .i64 0,.int .i64 0]) (cs':=[.int .i64 0,.int .i64 0,.int .i64 0,.int .i64 0]) 1 _ rfl rfl rfl rfl (.inl aM) rfl rfl rfl rfl) fun _=>?_
                  refine R.nil ?_
                  have hz:aT sx=(⟨0,0,0,0⟩:br):=by (first|(rw [bJ (by unfold bD;(first|rw [ae hy1] | rw [ae hy2] | rw [ae hy3] | rw [ae hy4] | rw [ae cW] | rw [ae gp] | rw [ae gq] | rw [ae gu]);omega)];first|done|rfl)|(rw [bB (by unfold bD;(first|rw [ae hy1] | rw [ae hy2] | rw [ae hy3] | rw [ae hy4] | rw [ae cW] | rw [ae gp] | rw [ae gq] | rw [ae gu]);omega)];first|done|rfl))
                  rw [hz]
                  exact R.w1 () [2] [] rfl Try.results54 (RV.cell 1 rfl rfl aM) rfl rfl rfl rfl
                ·
                  refine R.qg rfl (q.lss rfl rfl (decide_eq_false (by omega))) rfl<|R.u 1 rfl<|R.nil ?_
                  refine R.aH rfl rfl ?_
                  refine R.reg rfl<|R.q (q.mO 0 rfl rfl aM) rfl<|?_
                  refine R.s rfl (s.st (us:=[.int .i64 (bR (sx.extract 1 5):Int),.int .i64 (bR (sx.extract 5 9):Int),.int .i64 (bR (sx.extract 9 13):Int),.int .i64 (bR (sx.extract 13 17):Int)]) (cs':=[.int .i64 (bR (sx.extract 1 5):Int),.int .i64 (bR (sx.extract 5 9):Int),.int .i64 (bR (sx.extract 9 13):Int),.int .i64 (bR (sx.extract 13 17):Int)]) 1 _ rfl rfl rfl rfl (.inl aM) rfl rfl rfl rfl) fun _=>?_
                  refine R.nil ?_
                  have hz:aT sx=(⟨(bR (sx.extract 1 5):Int),(bR (sx.extract 5 9):Int),(bR (sx.extract 9 13):Int),(bR (sx.extract 13 17):Int)⟩:br):=by (first|(rw [bJ (by unfold bD;(first|rw [ae hy1] | rw [ae hy2] | rw [ae hy3] | rw [ae hy4] | rw [ae cW] | rw [ae gp] | rw [ae gq] | rw [ae gu]);omega)];first|done|rfl)|(rw [bB (by unfold bD;(first|rw [ae hy1] | rw [ae hy2] | rw [ae hy3] | rw [ae hy4] | rw [ae cW] | rw [ae gp] | rw [ae gq] | rw [ae gu]);omega)];first|done|rfl))
                  rw [hz]
                  exact R.w1 () [2] [] rfl Try.results54 (RV.cell 1 rfl rfl aM) rfl rfl rfl rfl
          ·
            refine R.q (q.neq rfl rfl (bne_iff_ne.2 (by omega))) rfl<|R.u 15 rfl<|R.nil ?_
            refine R.aF rfl rfl ?_
            refine R.reg rfl<|R.q (q.build (cs:=[.int .i64 0,.int .i64 0,.int .i64 0,.int .i64 0]) dy rfl rfl) rfl<|?_
            refine R.s rfl (s.st (us:=[.int .i64 0,.int .i64 0,.int .i64 0,.int .i64 0]) (cs':=[.int .i64 0,.int .i64 0,.int .i64 0,.int .i64 0]) 1 _ rfl rfl rfl rfl (.inl aM) rfl rfl rfl rfl) fun _=>?_
            refine R.nil ?_
            have hz:aT sx=(⟨0,0,0,0⟩:br):=by (first|(rw [bJ (by unfold bD;(first|rw [ae hy1] | rw [ae hy2] | rw [ae hy3] | rw [ae hy4] | rw [ae cW] | rw [ae gp] | rw [ae gq] | rw [ae gu]);omega)];first|done|rfl)|(rw [bB (by unfold bD;(first|rw [ae hy1] | rw [ae hy2] | rw [ae hy3] | rw [ae hy4] | rw [ae cW] | rw [ae gp] | rw [ae gq] | rw [ae gu]);omega)];first|done|rfl))
            rw [hz]
            exact R.w1 () [2] [] rfl Try.results54 (RV.cell 1 rfl rfl aM) rfl rfl rfl rfl
      ·
        refine Do.s (s.alloc (cs:=[.int .i64 0,.int .i64 0,.int .i64 0,.int .i64 0]) eC rfl rfl) (fun _=>(fun _=>Wd.ay [1,2] [] rfl rfl rfl)) rfl fun b4=>?_
        refine D.one (i:=8) (by kernel_rfl) rfl ?_
        refine Do.s (s.c (q.call gV rfl rfl (fun w hw=>(cq ((sx.extract 9 13)) w  (by first|omega|(rw [ByteArray.size_extract];omega))))) rfl) (fun _=>(fun _=>Wd.ay [1,2] [] rfl rfl rfl)) rfl fun _=>?_
        refine D.one (i:=11) (by kernel_rfl) rfl ?_
        refine Do.s (s.c (q.call gV rfl rfl (fun w hw=>(cq ((sx.extract 13 17)) w  (by first|omega|(rw [ByteArray.size_extract];omega))))) rfl) (fun _=>(fun _=>Wd.ay [1,2] [] rfl rfl rfl)) rfl fun _=>?_
        refine D.q (i:=12) rfl (by kernel_rfl) (fun _=>Wd.ay [1,2] [] rfl rfl rfl) rfl (q.build (cs:=[.int .i64 (bR (sx.extract 1 5):Int),.int .i64 (bR (sx.extract 5 9):Int),.int .i64 (bR (sx.extract 9 13):Int),.int .i64 (bR (sx.extract 13 17):Int)]) dy rfl rfl) rfl<|?_
        refine D.one (i:=14) (by kernel_rfl) rfl ?_
        refine Do.s (s.st (us:=[.int .i64 (bR (sx.extract 1 5):Int),.int .i64 (bR (sx.extract 5 9):Int),.int .i64 (bR (sx.extract 9 13):Int),.int .i64 (bR (sx.extract 13 17):Int)]) (cs':=[.int .i64 (bR (sx.extract 1 5):Int),.int .i64 (bR (sx.extract 5 9):Int),.int .i64 (bR (sx.extract 9 13):Int),.int .i64 (bR (sx.extract 13 17):Int)]) 0 _ rfl rfl rfl rfl (.inl aM) rfl rfl rfl rfl) (fun _=>(fun _=>Wd.ay [1,2] [] rfl rfl rfl)) rfl fun _=>?_
        refine D.done (by kernel_rfl)<|?_
        refine R.reg rfl<|R.u 1 rfl<|?_
        obtain ⟨y3,hy3⟩:∃z,sx.data[0]? = some z:=⟨_,Array.getElem?_eq_getElem (show 0<sx.size from by omega)⟩
        have zo:=y3.toNat_lt
        refine R.q (q.ek (i:=0) rfl rfl Try.underlying9 rfl hy3) rfl<|?_
        by_cases h9:y3.toNat=72
        ·
          refine R.q (q.neq rfl rfl (bne_eq_false_iff_eq.2 (by omega))) rfl<|R.u 1 rfl<|R.qg rfl (q.bz (off':=1) rfl ew rfl) rfl<|R.qg rfl (q.ld 0 rfl rfl aK rfl) rfl<|?_
          by_cases h10:1<bR (sx.extract 5 9)
          ·
            refine R.qg rfl (q.gtr rfl rfl (decide_eq_true (by omega))) rfl<|R.u 11 rfl<|R.nil ?_
            refine R.aF rfl rfl ?_
            refine R.reg rfl<|R.q (q.build (cs:=[.int .i64 0,.int .i64 0,.int .i64 0,.int .i64 0]) dy rfl rfl) rfl<|?_
            refine R.s rfl (s.st (us:=[.int .i64 0,.int .i64 0,.int .i64 0,.int .i64 0]) (cs':=[.int .i64 0,.int .i64 0,.int .i64 0,.int .i64 0]) 1 _ rfl rfl rfl rfl (.inl aM) rfl rfl rfl rfl) fun _=>?_
            refine R.nil ?_
            have hz:aT sx=(⟨0,0,0,0⟩:br):=by (first|(rw [bJ (by unfold bD;(first|rw [ae hy1] | rw [ae hy2] | rw [ae hy3] | rw [ae hy4] | rw [ae cW] | rw [ae gp] | rw [ae gq] | rw [ae gu]);omega)];first|done|rfl)|(rw [bB (by unfold bD;(first|rw [ae hy1] | rw [ae hy2] | rw [ae hy3] | rw [ae hy4] | rw [ae cW] | rw [ae gp] | rw [ae gq] | rw [ae gu]);omega)];first|done|rfl))
            rw [hz]
            exact R.w1 () [2] [] rfl Try.results54 (RV.cell 1 rfl rfl aM) rfl rfl rfl rfl
          ·
            refine R.qg rfl (q.gtr rfl rfl (decide_eq_false (by omega))) rfl<|R.u 2 rfl<|R.qg rfl (q.bz (off':=2) rfl fB rfl) rfl<|R.qg rfl (q.ld 0 rfl rfl aK rfl) rfl<|?_
            by_cases h11:2400<bR (sx.extract 9 13)
            ·
              refine R.qg rfl (q.gtr rfl rfl (decide_eq_true (by omega))) rfl<|R.u 6 rfl<|R.nil ?_
              refine R.aF rfl rfl ?_
              refine R.reg rfl<|R.q (q.build (cs:=[.int .i64 0,.int .i64 0,.int .i64 0,.int .i64 0]) dy rfl rfl) rfl<|?_
              refine R.s rfl (s.st (us:=[.int .i64 0,.int .i64 0,.int .i64 0,.int .i64 0]) (cs':=[.int .i64 0,.int .i64 0,.int .i64 0,.int .i64 0]) 1 _ rfl rfl rfl rfl (.inl aM) rfl rfl rfl rfl) fun _=>?_
              refine R.nil ?_
              have hz:aT sx=(⟨0,0,0,0⟩:br):=by (first|(rw [bJ (by unfold bD;(first|rw [ae hy1] | rw [ae hy2] | rw [ae hy3] | rw [ae hy4] | rw [ae cW] | rw [ae gp] | rw [ae gq] | rw [ae gu]);omega)];first|done|rfl)|(rw [bB (by unfold bD;(first|rw [ae hy1] | rw [ae hy2] | rw [ae hy3] | rw [ae hy4] | rw [ae cW] | rw [ae gp] | rw [ae gq] | rw [ae gu]);omega)];first|done|rfl))
              rw [hz]
              exact R.w1 () [2] [] rfl Try.results54 (RV.cell 1 rfl rfl aM) rfl rfl rfl rfl
            ·
              refine R.qg rfl (q.gtr rfl rfl (decide_eq_false (by omega))) rfl<|R.u 2 rfl<|R.qg rfl (q.bz (off':=3) rfl eT rfl) rfl<|R.qg rfl (q.ld 0 rfl rfl aK rfl) rfl<|?_
              by_cases h12:bR (sx.extract 13 17)<1
              ·
                refine R.qg rfl (q.lss rfl rfl (decide_eq_true (by omega))) rfl<|R.u 1 rfl<|R.nil ?_
                refine R.aF rfl rfl ?_
                refine R.reg rfl<|R.q (q.build (cs:=[.int .i64 0,.int .i64 0,.int .i64 0,.int .i64 0]) dy rfl rfl) rfl<|?_
                refine R.s rfl (s.st (us:=[.int .i64 0,.int .i64 0,.int .i64 0,.int .i64 0]) (cs':=[.int .i64 0,.int .i64 0,.int .i64 0,.int .i64 0]) 1 _ rfl rfl rfl rfl (.inl aM) rfl rfl rfl rfl) fun _=>?_
                refine R.nil ?_
                have hz:aT sx=(⟨0,0,0,0⟩:br):=by (first|(rw [bJ (by unfold bD;(first|rw [ae hy1] | rw [ae hy2] | rw [ae hy3] | rw [ae hy4] | rw [ae cW] | rw [ae gp] | rw [ae gq] | rw [ae gu]);omega)];first|done|rfl)|(rw [bB (by unfold bD;(first|rw [ae hy1] | rw [ae hy2] | rw [ae hy3] | rw [ae hy4] | rw [ae cW] | rw [ae gp] | rw [ae gq] | rw [ae gu]);omega)];first|done|rfl))
                rw [hz]
                exact R.w1 () [2] [] rfl Try.results54 (RV.cell 1 rfl rfl aM) rfl rfl rfl rfl
              ·
                refine R.qg rfl (q.lss rfl rfl (decide_eq_false (by omega))) rfl<|R.u 1 rfl<|R.nil ?_
                refine R.aH rfl rfl ?_
                refine R.reg rfl<|R.q (q.mO 0 rfl rfl aM) rfl<|?_
                refine R.s rfl (s.st (us:=[.int .i64 (bR (sx.extract 1 5):Int),.int .i64 (bR (sx.extract 5 9):Int),.int .i64 (bR (sx.extract 9 13):Int),.int .i64 (bR (sx.extract 13 17):Int)]) (cs':=[.int .i64 (bR (sx.extract 1 5):Int),.int .i64 (bR (sx.extract 5 9):Int),.int .i64 (bR (sx.extract 9 13):Int),.int .i64 (bR (sx.extract 13 17):Int)]) 1 _ rfl rfl rfl rfl (.inl aM) rfl rfl rfl rfl) fun _=>?_
                refine R.nil ?_
                have hz:aT sx=(⟨(bR (sx.extract 1 5):Int),(bR (sx.extract 5 9):Int),(bR (sx.extract 9 13):Int),(bR (sx.extract 13 17):Int)⟩:br):=by (first|(rw [bJ (by unfold bD;(first|rw [ae hy1] | rw [ae hy2] | rw [ae hy3] | rw [ae hy4] | rw [ae cW] | rw [ae gp] | rw [ae gq] | rw [ae gu]);omega)];first|done|rfl)|(rw [bB (by unfold bD;(first|rw [ae hy1] | rw [ae hy2] | rw [ae hy3] | rw [ae hy4] | rw [ae cW] | rw [ae gp] | rw [ae gq] | rw [ae gu]);omega)];first|done|rfl))
                rw [hz]
                exact R.w1 () [2] [] rfl Try.results54 (RV.cell 1 rfl rfl aM) rfl rfl rfl rfl
        ·
          refine R.q (q.neq rfl rfl (bne_iff_ne.2 (by omega))) rfl<|R.u 15 rfl<|R.nil ?_
          refine R.aF rfl rfl ?_
          refine R.reg rfl<|R.q (q.build (cs:=[.int .i64 0,.int .i64 0,.int .i64 0,.int .i64 0]) dy rfl rfl) rfl<|?_
          refine R.s rfl (s.st (us:=[.int .i64 0,.int .i64 0,.int .i64 0,.int .i64 0]) (cs':=[.int .i64 0,.int .i64 0,.int .i64 0,.int .i64 0]) 1 _ rfl rfl rfl rfl (.inl aM) rfl rfl rfl rfl) fun _=>?_
          refine R.nil ?_
          have hz:aT sx=(⟨0,0,0,0⟩:br):=by (first|(rw [bJ (by unfold bD;(first|rw [ae hy1] | rw [ae hy2] | rw [ae hy3] | rw [ae hy4] | rw [ae cW] | rw [ae gp] | rw [ae gq] | rw [ae gu]);omega)];first|done|rfl)|(rw [bB (by unfold bD;(first|rw [ae hy1] | rw [ae hy2] | rw [ae hy3] | rw [ae hy4] | rw [ae cW] | rw [ae gp] | rw [ae gq] | rw [ae gu]);omega)];first|done|rfl))
          rw [hz]
          exact R.w1 () [2] [] rfl Try.results54 (RV.cell 1 rfl rfl aM) rfl rfl rfl rfl
    ·
      refine Do.s (s.alloc (cs:=[.int .i64 0,.int .i64 0,.int .i64 0,.int .i64 0]) eC rfl rfl) (fun _=>(fun _=>Wd.ay [1,2] [] rfl rfl rfl)) rfl fun b5=>?_
      refine D.one (i:=5) (by kernel_rfl) rfl ?_
      refine Do.s (s.c (q.call gV rfl rfl (fun w hw=>(cq ((sx.extract 5 9)) w  (by first|omega|(rw [ByteArray.size_extract];omega))))) rfl) (fun _=>(fun _=>Wd.ay [1,2] [] rfl rfl rfl)) rfl fun _=>?_
      refine D.one (i:=8) (by kernel_rfl) rfl ?_
      refine Do.s (s.c (q.call gV rfl rfl (fun w hw=>(cq ((sx.extract 9 13)) w  (by first|omega|(rw [ByteArray.size_extract];omega))))) rfl) (fun _=>(fun _=>Wd.ay [1,2] [] rfl rfl rfl)) rfl fun _=>?_
      refine D.one (i:=11) (by kernel_rfl) rfl ?_
      refine Do.s (s.c (q.call gV rfl rfl (fun w hw=>(cq ((sx.extract 13 17)) w  (by first|omega|(rw [ByteArray.size_extract];omega))))) rfl) (fun _=>(fun _=>Wd.ay [1,2] [] rfl rfl rfl)) rfl fun _=>?_
      refine D.q (i:=12) rfl (by kernel_rfl) (fun _=>Wd.ay [1,2] [] rfl rfl rfl) rfl (q.build (cs:=[.int .i64 (bR (sx.extract 1 5):Int),.int .i64 (bR (sx.extract 5 9):Int),.int .i64 (bR (sx.extract 9 13):Int),.int .i64 (bR (sx.extract 13 17):Int)]) dy rfl rfl) rfl<|?_
      refine D.one (i:=14) (by kernel_rfl) rfl ?_
      refine Do.s (s.st (us:=[.int .i64 (bR (sx.extract 1 5):Int),.int .i64 (bR (sx.extract 5 9):Int),.int .i64 (bR (sx.extract 9 13):Int),.int .i64 (bR (sx.extract 13 17):Int)]) (cs':=[.int .i64 (bR (sx.extract 1 5):Int),.int .i64 (bR (sx.extract 5 9):Int),.int .i64 (bR (sx.extract 9 13):Int),.int .i64 (bR (sx.extract 13 17):Int)]) 0 _ rfl rfl rfl rfl (.inl aM) rfl rfl rfl rfl) (fun _=>(fun _=>Wd.ay [1,2] [] rfl rfl rfl)) rfl fun _=>?_
      refine D.done (by kernel_rfl)<|?_
      refine R.reg rfl<|R.u 1 rfl<|?_
      obtain ⟨y4,hy4⟩:∃z,sx.data[0]? = some z:=⟨_,Array.getElem?_eq_getElem (show 0<sx.size from by omega)⟩
      have zN:=y4.toNat_lt
      refine R.q (q.ek (i:=0) rfl rfl Try.underlying9 rfl hy4) rfl<|?_
      by_cases zP:y4.toNat=72
      ·
        refine R.q (q.neq rfl rfl (bne_eq_false_iff_eq.2 (by omega))) rfl<|R.u 1 rfl<|R.qg rfl (q.bz (off':=1) rfl ew rfl) rfl<|R.qg rfl (q.ld 0 rfl rfl aK rfl) rfl<|?_
        by_cases zr:1<bR (sx.extract 5 9)
        ·
          refine R.qg rfl (q.gtr rfl rfl (decide_eq_true (by omega))) rfl<|R.u 11 rfl<|R.nil ?_
          refine R.aF rfl rfl ?_
          refine R.reg rfl<|R.q (q.build (cs:=[.int .i64 0,.int .i64 0,.int .i64 0,.int .i64 0]) dy rfl rfl) rfl<|?_
          refine R.s rfl (s.st (us:=[.int .i64 0,.int .i64 0,.int .i64 0,.int .i64 0]) (cs':=[.int .i64 0,.int .i64 0,.int .i64 0,.int .i64 0]) 1 _ rfl rfl rfl rfl (.inl aM) rfl rfl rfl rfl) fun _=>?_
          refine R.nil ?_
          have hz:aT sx=(⟨0,0,0,0⟩:br):=by (first|(rw [bJ (by unfold bD;(first|rw [ae hy1] | rw [ae hy2] | rw [ae hy3] | rw [ae hy4] | rw [ae cW] | rw [ae gp] | rw [ae gq] | rw [ae gu]);omega)];first|done|rfl)|(rw [bB (by unfold bD;(first|rw [ae hy1] | rw [ae hy2] | rw [ae hy3] | rw [ae hy4] | rw [ae cW] | rw [ae gp] | rw [ae gq] | rw [ae gu]);omega)];first|done|rfl))
          rw [hz]
          exact R.w1 () [2] [] rfl Try.results54 (RV.cell 1 rfl rfl aM) rfl rfl rfl rfl
        ·
          refine R.qg rfl (q.gtr rfl rfl (decide_eq_false (by omega))) rfl<|R.u 2 rfl<|R.qg rfl (q.bz (off':=2) rfl fB rfl) rfl<|R.qg rfl (q.ld 0 rfl rfl aK rfl) rfl<|?_
          by_cases AB:2400<bR (sx.extract 9 13)
          ·
            refine R.qg rfl (q.gtr rfl rfl (decide_eq_true (by omega))) rfl<|R.u 6 rfl<|R.nil ?_
            refine R.aF rfl rfl ?_
            refine R.reg rfl<|R.q (q.build (cs:=[.int .i64 0,.int .i64 0,.int .i64 0,.int .i64 0]) dy rfl rfl) rfl<|?_
            refine R.s rfl (s.st (us:=[.int .i64 0,.int .i64 0,.int .i64 0,.int .i64 0]) (cs':=[.int .i64 0,.int .i64 0,.int .i64 0,.int .i64 0]) 1 _ rfl rfl rfl rfl (.inl aM) rfl rfl rfl rfl) fun _=>?_
            refine R.nil ?_
            have hz:aT sx=(⟨0,0,0,0⟩:br):=by (first|(rw [bJ (by unfold bD;(first|rw [ae hy1] | rw [ae hy2] | rw [ae hy3] | rw [ae hy4] | rw [ae cW] | rw [ae gp] | rw [ae gq] | rw [ae gu]);omega)];first|done|rfl)|(rw [bB (by unfold bD;(first|rw [ae hy1] | rw [ae hy2] | rw [ae hy3] | rw [ae hy4] | rw [ae cW] | rw [ae gp] | rw [ae gq] | rw [ae gu]);omega)];first|done|rfl))
            rw [hz]
            exact R.w1 () [2] [] rfl Try.results54 (RV.cell 1 rfl rfl aM) rfl rfl rfl rfl
          ·
            refine R.qg rfl (q.gtr rfl rfl (decide_eq_false (by omega))) rfl<|R.u 2 rfl<|R.qg rfl (q.bz (off':=3) rfl eT rfl) rfl<|R.qg rfl (q.ld 0 rfl rfl aK rfl) rfl<|?_
            by_cases h16:bR (sx.extract 13 17)<1
            ·
              refine R.qg rfl (q.lss rfl rfl (decide_eq_true (by omega))) rfl<|R.u 1 rfl<|R.nil ?_
              refine R.aF rfl rfl ?_
              refine R.reg rfl<|R.q (q.build (cs:=[.int .i64 0,.int .i64 0,.int .i64 0,.int .i64 0]) dy rfl rfl) rfl<|?_
              refine R.s rfl (s.st (us:=[.int .i64 0,.int .i64 0,.int .i64 0,.int .i64 0]) (cs':=[.int .i64 0,.int .i64 0,.int .i64 0,.int .i64 0]) 1 _ rfl rfl rfl rfl (.inl aM) rfl rfl rfl rfl) fun _=>?_
              refine R.nil ?_
              have hz:aT sx=(⟨0,0,0,0⟩:br):=by (first|(rw [bJ (by unfold bD;(first|rw [ae hy1] | rw [ae hy2] | rw [ae hy3] | rw [ae hy4] | rw [ae cW] | rw [ae gp] | rw [ae gq] | rw [ae gu]);omega)];first|done|rfl)|(rw [bB (by unfold bD;(first|rw [ae hy1] | rw [ae hy2] | rw [ae hy3] | rw [ae hy4] | rw [ae cW] | rw [ae gp] | rw [ae gq] | rw [ae gu]);omega)];first|done|rfl))
              rw [hz]
              exact R.w1 () [2] [] rfl Try.results54 (RV.cell 1 rfl rfl aM) rfl rfl rfl rfl
            ·
              refine R.qg rfl (q.lss rfl rfl (decide_eq_false (by omega))) rfl<|R.u 1 rfl<|R.nil ?_
              refine R.aH rfl rfl ?_
              refine R.reg rfl<|R.q (q.mO 0 rfl rfl aM) rfl<|?_
              refine R.s rfl (s.st (us:=[.int .i64 (bR (sx.extract 1 5):Int),.int .i64 (bR (sx.extract 5 9):Int),.int .i64 (bR (sx.extract 9 13):Int),.int .i64 (bR (sx.extract 13 17):Int)]) (cs':=[.int .i64 (bR (sx.extract 1 5):Int),.int .i64 (bR (sx.extract 5 9):Int),.int .i64 (bR (sx.extract 9 13):Int),.int .i64 (bR (sx.extract 13 17):Int)]) 1 _ rfl rfl rfl rfl (.inl aM) rfl rfl rfl rfl) fun _=>?_
              refine R.nil ?_
              have hz:aT sx=(⟨(bR (sx.extract 1 5):Int),(bR (sx.extract 5 9):Int),(bR (sx.extract 9 13):Int),(bR (sx.extract 13 17):Int)⟩:br):=by (first|(rw [bJ (by unfold bD;(first|rw [ae hy1] | rw [ae hy2] | rw [ae hy3] | rw [ae hy4] | rw [ae cW] | rw [ae gp] | rw [ae gq] | rw [ae gu]);omega)];first|done|rfl)|(rw [bB (by unfold bD;(first|rw [ae hy1] | rw [ae hy2] | rw [ae hy3] | rw [ae hy4] | rw [ae cW] | rw [ae gp] | rw [ae gq] | rw [ae gu]);omega)];first|done|rfl))
              rw [hz]
              exact R.w1 () [2] [] rfl Try.results54 (RV.cell 1 rfl rfl aM) rfl rfl rfl rfl
      ·
        refine R.q (q.neq rfl rfl (bne_iff_ne.2 (by omega))) rfl<|R.u 15 rfl<|R.nil ?_
        refine R.aF rfl rfl ?_
        refine R.reg rfl<|R.q (q.build (cs:=[.int .i64 0,.int .i64 0,.int .i64 0,.int .i64 0]) dy rfl rfl) rfl<|?_
        refine R.s rfl (s.st (us:=[.int .i64 0,.int .i64 0,.int .i64 0,.int .i64 0]) (cs':=[.int .i64 0,.int .i64 0,.int .i64 0,.int .i64 0]) 1 _ rfl rfl rfl rfl (.inl aM) rfl rfl rfl rfl) fun _=>?_
        refine R.nil ?_
        have hz:aT sx=(⟨0,0,0,0⟩:br):=by (first|(rw [bJ (by unfold bD;(first|rw [ae hy1] | rw [ae hy2] | rw [ae hy3] | rw [ae hy4] | rw [ae cW] | rw [ae gp] | rw [ae gq] | rw [ae gu]);omega)];first|done|rfl)|(rw [bB (by unfold bD;(first|rw [ae hy1] | rw [ae hy2] | rw [ae hy3] | rw [ae hy4] | rw [ae cW] | rw [ae gp] | rw [ae gq] | rw [ae gu]);omega)];first|done|rfl))
        rw [hz]
        exact R.w1 () [2] [] rfl Try.results54 (RV.cell 1 rfl rfl aM) rfl rfl rfl rfl
  ·
    refine Do.s (s.alloc (cs:=[.int .i64 0,.int .i64 0,.int .i64 0,.int .i64 0]) eC rfl rfl) (fun _=>(fun _=>Wd.ay [1,2] [] rfl rfl rfl)) rfl fun b6=>?_
    refine D.one (i:=2) (by kernel_rfl) rfl ?_
    refine Do.s (s.c (q.call gV rfl rfl (fun w hw=>(cq ((sx.extract 1 5)) w  (by first|omega|(rw [ByteArray.size_extract];omega))))) rfl) (fun _=>(fun _=>Wd.ay [1,2] [] rfl rfl rfl)) rfl fun _=>?_
    refine D.one (i:=5) (by kernel_rfl) rfl ?_
    refine Do.s (s.c (q.call gV rfl rfl (fun w hw=>(cq ((sx.extract 5 9)) w  (by first|omega|(rw [ByteArray.size_extract];omega))))) rfl) (fun _=>(fun _=>Wd.ay [1,2] [] rfl rfl rfl)) rfl fun _=>?_
    refine D.one (i:=8) (by kernel_rfl) rfl ?_
    refine Do.s (s.c (q.call gV rfl rfl (fun w hw=>(cq ((sx.extract 9 13)) w  (by first|omega|(rw [ByteArray.size_extract];omega))))) rfl) (fun _=>(fun _=>Wd.ay [1,2] [] rfl rfl rfl)) rfl fun _=>?_
    refine D.one (i:=11) (by kernel_rfl) rfl ?_
    refine Do.s (s.c (q.call gV rfl rfl (fun w hw=>(cq ((sx.extract 13 17)) w  (by first|omega|(rw [ByteArray.size_extract];omega))))) rfl) (fun _=>(fun _=>Wd.ay [1,2] [] rfl rfl rfl)) rfl fun _=>?_
    refine D.q (i:=12) rfl (by kernel_rfl) (fun _=>Wd.ay [1,2] [] rfl rfl rfl) rfl (q.build (cs:=[.int .i64 (bR (sx.extract 1 5):Int),.int .i64 (bR (sx.extract 5 9):Int),.int .i64 (bR (sx.extract 9 13):Int),.int .i64 (bR (sx.extract 13 17):Int)]) dy rfl rfl) rfl<|?_
    refine D.one (i:=14) (by kernel_rfl) rfl ?_
    refine Do.s (s.st (us:=[.int .i64 (bR (sx.extract 1 5):Int),.int .i64 (bR (sx.extract 5 9):Int),.int .i64 (bR (sx.extract 9 13):Int),.int .i64 (bR (sx.extract 13 17):Int)]) (cs':=[.int .i64 (bR (sx.extract 1 5):Int),.int .i64 (bR (sx.extract 5 9):Int),.int .i64 (bR (sx.extract 9 13):Int),.int .i64 (bR (sx.extract 13 17):Int)]) 0 _ rfl rfl rfl rfl (.inl aM) rfl rfl rfl rfl) (fun _=>(fun _=>Wd.ay [1,2] [] rfl rfl rfl)) rfl fun _=>?_
    refine D.done (by kernel_rfl)<|?_
    refine R.reg rfl<|R.u 1 rfl<|?_
    obtain ⟨y5,cW⟩:∃z,sx.data[0]? = some z:=⟨_,Array.getElem?_eq_getElem (show 0<sx.size from by omega)⟩
    have Aw:=y5.toNat_lt
    refine R.q (q.ek (i:=0) rfl rfl Try.underlying9 rfl cW) rfl<|?_
    by_cases zQ:y5.toNat=72
    ·
      refine R.q (q.neq rfl rfl (bne_eq_false_iff_eq.2 (by omega))) rfl<|R.u 1 rfl<|R.qg rfl (q.bz (off':=1) rfl ew rfl) rfl<|R.qg rfl (q.ld 0 rfl rfl aK rfl) rfl<|?_
      by_cases h18:1<bR (sx.extract 5 9)
      ·
        refine R.qg rfl (q.gtr rfl rfl (decide_eq_true (by omega))) rfl<|R.u 11 rfl<|R.nil ?_
        refine R.aF rfl rfl ?_
        refine R.reg rfl<|R.q (q.build (cs:=[.int .i64 0,.int .i64 0,.int .i64 0,.int .i64 0]) dy rfl rfl) rfl<|?_
        refine R.s rfl (s.st (us:=[.int .i64 0,.int .i64 0,.int .i64 0,.int .i64 0]) (cs':=[.int .i64 0,.int .i64 0,.int .i64 0,.int .i64 0]) 1 _ rfl rfl rfl rfl (.inl aM) rfl rfl rfl rfl) fun _=>?_
        refine R.nil ?_
        have hz:aT sx=(⟨0,0,0,0⟩:br):=by (first|(rw [bJ (by unfold bD;(first|rw [ae hy1] | rw [ae hy2] | rw [ae hy3] | rw [ae hy4] | rw [ae cW] | rw [ae gp] | rw [ae gq] | rw [ae gu]);omega)];first|done|rfl)|(rw [bB (by unfold bD;(first|rw [ae hy1] | rw [ae hy2] | rw [ae hy3] | rw [ae hy4] | rw [ae cW] | rw [ae gp] | rw [ae gq] | rw [ae gu]);omega)];first|done|rfl))
        rw [hz]
        exact R.w1 () [2] [] rfl Try.results54 (RV.cell 1 rfl rfl aM) rfl rfl rfl rfl
      ·
        refine R.qg rfl (q.gtr rfl rfl (decide_eq_false (by omega))) rfl<|R.u 2 rfl<|R.qg rfl (q.bz (off':=2) rfl fB rfl) rfl<|R.qg rfl (q.ld 0 rfl rfl aK rfl) rfl<|?_
        by_cases h19:2400<bR (sx.extract 9 13)
        ·
          refine R.qg rfl (q.gtr rfl rfl (decide_eq_true (by omega))) rfl<|R.u 6 rfl<|R.nil ?_
          refine R.aF rfl rfl ?_
          refine R.reg rfl<|R.q (q.build (cs:=[.int .i64 0,.int .i64 0,.int .i64 0,.int .i64 0]) dy rfl rfl) rfl<|?_
          refine R.s rfl (s.st (us:=[.int .i64 0,.int .i64 0,.int .i64 0,.int .i64 0]) (cs':=[.int .i64 0,.int .i64 0,.int .i64 0,.int .i64 0]) 1 _ rfl rfl rfl rfl (.inl aM) rfl rfl rfl rfl) fun _=>?_
          refine R.nil ?_
          have hz:aT sx=(⟨0,0,0,0⟩:br):=by (first|(rw [bJ (by unfold bD;(first|rw [ae hy1] | rw [ae hy2] | rw [ae hy3] | rw [ae hy4] | rw [ae cW] | rw [ae gp] | rw [ae gq] | rw [ae gu]);omega)];first|done|rfl)|(rw [bB (by unfold bD;(first|rw [ae hy1] | rw [ae hy2] | rw [ae hy3] | rw [ae hy4] | rw [ae cW] | rw [ae gp] | rw [ae gq] | rw [ae gu]);omega)];first|done|rfl))
          rw [hz]
          exact R.w1 () [2] [] rfl Try.results54 (RV.cell 1 rfl rfl aM) rfl rfl rfl rfl
        ·
          refine R.qg rfl (q.gtr rfl rfl (decide_eq_false (by omega))) rfl<|R.u 2 rfl<|R.qg rfl (q.bz (off':=3) rfl eT rfl) rfl<|R.qg rfl (q.ld 0 rfl rfl aK rfl) rfl<|?_
          by_cases h20:bR (sx.extract 13 17)<1
          ·
            refine R.qg rfl (q.lss rfl rfl (decide_eq_true (by omega))) rfl<|R.u 1 rfl<|R.nil ?_
            refine R.aF rfl rfl ?_
            refine R.reg rfl<|R.q (q.build (cs:=[.int .i64 0,.int .i64 0,.int .i64 0,.int .i64 0]) dy rfl rfl) rfl<|?_
            refine R.s rfl (s.st (us:=[.int .i64 0,.int .i64 0,.int .i64 0,.int .i64 0]) (cs':=[.int .i64 0,.int .i64 0,.int .i64 0,.int .i64 0]) 1 _ rfl rfl rfl rfl (.inl aM) rfl rfl rfl rfl) fun _=>?_
            refine R.nil ?_
            have hz:aT sx=(⟨0,0,0,0⟩:br):=by (first|(rw [bJ (by unfold bD;(first|rw [ae hy1] | rw [ae hy2] | rw [ae hy3] | rw [ae hy4] | rw [ae cW] | rw [ae gp] | rw [ae gq] | rw [ae gu]);omega)];first|done|rfl)|(rw [bB (by unfold bD;(first|rw [ae hy1] | rw [ae hy2] | rw [ae hy3] | rw [ae hy4] | rw [ae cW] | rw [ae gp] | rw [ae gq] | rw [ae gu]);omega)];first|done|rfl))
            rw [hz]
            exact R.w1 () [2] [] rfl Try.results54 (RV.cell 1 rfl rfl aM) rfl rfl rfl rfl
          ·
            refine R.qg rfl (q.lss rfl rfl (decide_eq_false (by omega))) rfl<|R.u 1 rfl<|R.nil ?_
            refine R.aH rfl rfl ?_
            refine R.reg rfl<|R.q (q.mO 0 rfl rfl aM) rfl<|?_
            refine R.s rfl (s.st (us:=[.int .i64 (bR (sx.extract 1 5):Int),.int .i64 (bR (sx.extract 5 9):Int),.int .i64 (bR (sx.extract 9 13):Int),.int .i64 (bR (sx.extract 13 17):Int)]) (cs':=[.int .i64 (bR (sx.extract 1 5):Int),.int .i64 (bR (sx.extract 5 9):Int),.int .i64 (bR (sx.extract 9 13):Int),.int .i64 (bR (sx.extract 13 17):Int)]) 1 _ rfl rfl rfl rfl (.inl aM) rfl rfl rfl rfl) fun _=>?_
            refine R.nil ?_
            have hz:aT sx=(⟨(bR (sx.extract 1 5):Int),(bR (sx.extract 5 9):Int),(bR (sx.extract 9 13):Int),(bR (sx.extract 13 17):Int)⟩:br):=by (first|(rw [bJ (by unfold bD;(first|rw [ae hy1] | rw [ae hy2] | rw [ae hy3] | rw [ae hy4] | rw [ae cW] | rw [ae gp] | rw [ae gq] | rw [ae gu]);omega)];first|done|rfl)|(rw [bB (by unfold bD;(first|rw [ae hy1] | rw [ae hy2] | rw [ae hy3] | rw [ae hy4] | rw [ae cW] | rw [ae gp] | rw [ae gq] | rw [ae gu]);omega)];first|done|rfl))
            rw [hz]
            exact R.w1 () [2] [] rfl Try.results54 (RV.cell 1 rfl rfl aM) rfl rfl rfl rfl
    ·
      refine R.q (q.neq rfl rfl (bne_iff_ne.2 (by omega))) rfl<|R.u 15 rfl<|R.nil ?_
      refine R.aF rfl rfl ?_
      refine R.reg rfl<|R.q (q.build (cs:=[.int .i64 0,.int .i64 0,.int .i64 0,.int .i64 0]) dy rfl rfl) rfl<|?_
      refine R.s rfl (s.st (us:=[.int .i64 0,.int .i64 0,.int .i64 0,.int .i64 0]) (cs':=[.int .i64 0,.int .i64 0,.int .i64 0,.int .i64 0]) 1 _ rfl rfl rfl rfl (.inl aM) rfl rfl rfl rfl) fun _=>?_
      refine R.nil ?_
      have hz:aT sx=(⟨0,0,0,0⟩:br):=by (first|(rw [bJ (by unfold bD;(first|rw [ae hy1] | rw [ae hy2] | rw [ae hy3] | rw [ae hy4] | rw [ae cW] | rw [ae gp] | rw [ae gq] | rw [ae gu]);omega)];first|done|rfl)|(rw [bB (by unfold bD;(first|rw [ae hy1] | rw [ae hy2] | rw [ae hy3] | rw [ae hy4] | rw [ae cW] | rw [ae gp] | rw [ae gq] | rw [ae gu]);omega)];first|done|rfl))
      rw [hz]
      exact R.w1 () [2] [] rfl Try.results54 (RV.cell 1 rfl rfl aM) rfl rfl rfl rfl
structure ic where
  Epoch:Int
  Side:Int
  Size:Int
  First:Int
  Rows:List Change
def jo.c (st:jo):ic:=⟨st.Epoch,st.Side,st.Size,st.First,st.Rows⟩
theorem jr {t:ByteArray}{x y z:UInt8}(hx:t.data[0]? = some x)(hy:t.data[1]? = some y)(hz:t.data[2]? = some z):jq t=3+x.toNat+y.toNat+256*z.toNat:=by
  unfold jq;rw [ae hx,ae hy,ae hz]
theorem nK {t:ByteArray}{x y z:UInt8}{c:Change}(hx:t.data[0]? = some x)(hy:t.data[1]? = some y)(hz:t.data[2]? = some z)(hc:c=⟨t.extract 3 (3+x.toNat),t.extract (3+x.toNat) (3+x.toNat+y.toNat+256*z.toNat),false⟩):mh t=c:=by
  rw [hc];unfold mh;rw [jr hx hy hz,ae hx]
theorem sh (sx:ByteArray)(w:World)(own:List Nat)(H:Wd w (blks []++own) ([]++[af.held w own]) [] w)(hs:sx.size≤2400):Calls Try.prog 55 #[.string sx] w fun e w' => ∃z:Value,e = .returned (.tuple #[z,.bool (((ct sx)).2)])∧Wd w (blks []++own) ([af.row 51 z (((ct sx)).1:List Change)]++[af.held w own]) [] w':=by
  refine R.bY (n:=64) (vs:=[.string sx]) (B:=[af.held w own]) [(0,.string sx)] Try.func55 rfl rfl rfl rfl H ?_
  refine R.reg rfl<|R.u 2 rfl<|R.nil ?_
  refine R.reg rfl<|R.u 1 rfl<|R.nil ?_
  refine R.row0 (α:=Change) 51 ?_
  refine R.loop (fun g_:ByteArray×Nat×Value×(List Change)=>[(0,.string g_.1),(4,g_.2.2.1)]) (fun g_:ByteArray×Nat×Value×(List Change)=>[af.row 51 g_.2.2.1 (g_.2.2.2:List Change),af.held w own]) (fun g_:ByteArray×Nat×Value×(List Change)=>[]) (fun g_:ByteArray×Nat×Value×(List Change)=>g_.1.size+g_.2.2.2.length≤2400∧g_.1.size<g_.2.1∧iZ g_.2.1 g_.1 g_.2.2.2=ct sx) (fun g_:ByteArray×Nat×Value×(List Change)=>g_.2.1) (sx,sx.size+1,(.slice none 0 0),[]) rfl (by dsimp only;exact ⟨by simp;omega,by omega,rfl⟩) ⟨rfl,rfl,trivial⟩ (fun _=>Wd.pick [0,1] [] rfl rfl rfl) ?_
  rintro ⟨tt,k,u,rs⟩ ⟨hl,hk,HP⟩
  dsimp only at *
  refine R.reg rfl<|R.u 1 rfl<|?_
  by_cases h1:tt=⟨#[]⟩
  ·
    refine R.q (q.jM rfl rfl h1) rfl<|R.nil ?_
    refine R.aH rfl rfl ?_
    refine R.reg rfl<|R.u 3 rfl<|R.nil ?_
    have hz:ct sx=(rs,true):=by (first|exact (lB HP hk (by assumption))|exact (hG HP hk (by assumption) (.inl (by omega)))|exact (hG HP hk (by assumption) (.inr (by rw [jr hy1 hy2 hy3];omega)))|exact (jE HP hk (by assumption) (by rw [jr hy1 hy2 hy3];omega) (by rw [nK hy1 hy2 hy3 rfl];assumption)))
    rw [hz]
    exact R.w2 u [0,1] [] rfl Try.results55 (RV.tmp rfl) (RV.tmp rfl) rfl rfl rfl (mR rfl rfl)
  ·
    refine R.q (q.kS rfl rfl h1) rfl<|R.nil ?_
    refine R.aF rfl rfl ?_
    by_cases h2:tt.size<3
    ·
      refine R.dC rfl mixed (by kernel_rfl)<|Q.u 1 rfl<|Q.q (q.eW rfl Try.underlying9) rfl<|Q.q (q.lss rfl rfl (decide_eq_true (by omega))) rfl<|Q.u 18 rfl<|Q.nil ?_
      refine R.aF rfl rfl ?_
      refine R.reg rfl<|R.u 2 rfl<|R.nil ?_
      refine R.row0 (α:=Change) 51 ?_
      have hz:ct sx=([],false):=by (first|exact (lB HP hk (by assumption))|exact (hG HP hk (by assumption) (.inl (by omega)))|exact (hG HP hk (by assumption) (.inr (by rw [jr hy1 hy2 hy3];omega)))|exact (jE HP hk (by assumption) (by rw [jr hy1 hy2 hy3];omega) (by rw [nK hy1 hy2 hy3 rfl];assumption)))
      rw [hz]
      exact R.w2 (.slice none 0 0) [0,2] [] rfl Try.results55 (RV.tmp rfl) (RV.tmp rfl) rfl rfl rfl (mR rfl rfl)
    ·
      obtain ⟨y1,hy1⟩:∃z,tt.data[0]? = some z:=⟨_,Array.getElem?_eq_getElem (show 0<tt.size from by omega)⟩
      have yQ:=y1.toNat_lt
      obtain ⟨y2,hy2⟩:∃z,tt.data[1]? = some z:=⟨_,Array.getElem?_eq_getElem (show 1<tt.size from by omega)⟩
      have yR:=y2.toNat_lt
      obtain ⟨y3,hy3⟩:∃z,tt.data[2]? = some z:=⟨_,Array.getElem?_eq_getElem (show 2<tt.size from by omega)⟩
      have zo:=y3.toNat_lt
      by_cases h3:tt.size<(((3+y1.toNat)+y2.toNat)+(256*y3.toNat))
      ·
        refine R.dC rfl mixed (by kernel_rfl)<|Q.u 1 rfl<|Q.q (q.eW rfl Try.underlying9) rfl<|Q.q (q.lss rfl rfl (decide_eq_false (by omega))) rfl<|Q.u 2 rfl<|Q.qg rfl (q.ek (i:=0) rfl rfl Try.underlying9 rfl hy1) rfl<|Q.qg rfl (q.iD (r:=((y1.toNat:Nat):Int)) rfl (by rw [Try.underlying5];rfl) Try.underlying3 (wr (by omega))) rfl<|Q.qg rfl (q.add (r:=((3+y1.toNat:Nat):Int)) rfl rfl (wr (by omega))) rfl<|Q.u 1 rfl<|Q.qg rfl (q.ek (i:=1) rfl rfl Try.underlying9 rfl hy2) rfl<|Q.qg rfl (q.iD (r:=((y2.toNat:Nat):Int)) rfl (by rw [Try.underlying5];rfl) Try.underlying3 (wr (by omega))) rfl<|Q.qg rfl (q.add (r:=(((3+y1.toNat)+y2.toNat:Nat):Int)) rfl rfl (wr (by omega))) rfl<|Q.u 1 rfl<|Q.qg rfl (q.ek (i:=2) rfl rfl Try.underlying9 rfl hy3) rfl<|Q.qg rfl (q.iD (r:=((y3.toNat:Nat):Int)) rfl (by rw [Try.underlying5];rfl) Try.underlying3 (wr (by omega))) rfl<|Q.qg rfl (q.mul (r:=((256*y3.toNat:Nat):Int)) rfl rfl (wr (by omega))) rfl<|Q.qg rfl (q.add (r:=((((3+y1.toNat)+y2.toNat)+(256*y3.toNat):Nat):Int)) rfl rfl (wr (by omega))) rfl<|Q.u 1 rfl<|Q.qg rfl (q.eW rfl Try.underlying9) rfl<|Q.qg rfl (q.gtr rfl rfl (decide_eq_true (by omega))) rfl<|Q.u 1 rfl<|Q.nil ?_
        refine R.aF rfl rfl ?_
        refine R.reg rfl<|R.u 2 rfl<|R.nil ?_
        refine R.row0 (α:=Change) 51 ?_
        have hz:ct sx=([],false):=by (first|exact (lB HP hk (by assumption))|exact (hG HP hk (by assumption) (.inl (by omega)))|exact (hG HP hk (by assumption) (.inr (by rw [jr hy1 hy2 hy3];omega)))|exact (jE HP hk (by assumption) (by rw [jr hy1 hy2 hy3];omega) (by rw [nK hy1 hy2 hy3 rfl];assumption)))
        rw [hz]
        exact R.w2 (.slice none 0 0) [0,2] [] rfl Try.results55 (RV.tmp rfl) (RV.tmp rfl) rfl rfl rfl (mR rfl rfl)
      ·
        refine R.dC rfl mixed (by kernel_rfl)<|Q.u 1 rfl<|Q.q (q.eW rfl Try.underlying9) rfl<|Q.q (q.lss rfl rfl (decide_eq_false (by omega))) rfl<|Q.u 2 rfl<|Q.qg rfl (q.ek (i:=0) rfl rfl Try.underlying9 rfl hy1) rfl<|Q.qg rfl (q.iD (r:=((y1.toNat:Nat):Int)) rfl (by rw [Try.underlying5];rfl) Try.underlying3 (wr (by omega))) rfl<|Q.qg rfl (q.add (r:=((3+y1.toNat:Nat):Int)) rfl rfl (wr (by omega))) rfl<|Q.u 1 rfl<|Q.qg rfl (q.ek (i:=1) rfl rfl Try.underlying9 rfl hy2) rfl<|Q.qg rfl (q.iD (r:=((y2.toNat:Nat):Int)) rfl (by rw [Try.underlying5];rfl) Try.underlying3 (wr (by omega))) rfl<|Q.qg rfl (q.add (r:=(((3+y1.toNat)+y2.toNat:Nat):Int)) rfl rfl (wr (by omega))) rfl<|Q.u 1 rfl<|Q.qg rfl (q.ek (i:=2) rfl rfl Try.underlying9 rfl hy3) rfl<|Q.qg rfl (q.iD (r:=((y3.toNat:Nat):Int)) rfl (by rw [Try.underlying5];rfl) Try.underlying3 (wr (by omega))) rfl<|Q.qg rfl (q.mul (r:=((256*y3.toNat:Nat):Int)) rfl rfl (wr (by omega))) rfl<|Q.qg rfl (q.add (r:=((((3+y1.toNat)+y2.toNat)+(256*y3.toNat):Nat):Int)) rfl rfl (wr (by omega))) rfl<|Q.u 1 rfl<|Q.qg rfl (q.eW rfl Try.underlying9) rfl<|Q.qg rfl (q.gtr rfl rfl (decide_eq_false (by omega))) rfl<|Q.u 1 rfl<|Q.nil ?_
        refine R.aH rfl rfl ?_
        refine R.reg rfl<|R.u 1 rfl<|R.q (q.ek (i:=0) rfl rfl Try.underlying9 rfl hy1) rfl<|R.q (q.iD (r:=((y1.toNat:Nat):Int)) rfl (by rw [Try.underlying5];rfl) Try.underlying3 (wr (by omega))) rfl<|R.q (q.add (r:=((3+y1.toNat:Nat):Int)) rfl rfl (wr (by omega))) rfl<|R.u 1 rfl<|R.nil ?_
        refine R.dC rfl mixed (by kernel_rfl)<|Q.u 2 rfl<|Q.q (q.ek (i:=1) rfl rfl Try.underlying9 rfl hy2) rfl<|Q.q (q.iD (r:=((y2.toNat:Nat):Int)) rfl (by rw [Try.underlying5];rfl) Try.underlying3 (wr (by omega))) rfl<|Q.q (q.add (r:=(((3+y1.toNat)+y2.toNat:Nat):Int)) rfl rfl (wr (by omega))) rfl<|Q.u 1 rfl<|Q.q (q.ek (i:=2) rfl rfl Try.underlying9 rfl hy3) rfl<|Q.q (q.iD (r:=((y3.toNat:Nat):Int)) rfl (by rw [Try.underlying5];rfl) Try.underlying3 (wr (by omega))) rfl<|Q.q (q.mul (r:=((256*y3.toNat:Nat):Int)) rfl rfl (wr (by omega))) rfl<|Q.q (q.add (r:=((((3+y1.toNat)+y2.toNat)+(256*y3.toNat):Nat):Int)) rfl rfl (wr (by omega))) rfl<|Q.u 1 rfl<|Q.nil ?_
        refine R.eX (fuel:=10) (Wd w (blks []++own) [af.row 51 u (rs:List Change),af.held w own] []) rfl mixed rfl ?_
        refine D.q (i:=0) rfl (by kernel_rfl) (fun _=>Wd.ay [0,1] [] rfl rfl rfl) rfl (q.mv rfl) rfl<|D.q (i:=1) rfl (by kernel_rfl) (fun _=>Wd.ay [0,1] [] rfl rfl rfl) rfl (q.mv rfl) rfl<|D.q (i:=2) rfl (by kernel_rfl) (fun _=>Wd.ay [0,1] [] rfl rfl rfl) rfl (q.qC (i:=3) (j:=(3+y1.toNat)) rfl rfl rfl Try.underlying9 rfl rfl (by omega) (by omega)) rfl<|D.q (i:=3) rfl (by kernel_rfl) (fun _=>Wd.ay [0,1] [] rfl rfl rfl) rfl (q.mv rfl) rfl<|D.q (i:=4) rfl (by kernel_rfl) (fun _=>Wd.ay [0,1] [] rfl rfl rfl) rfl (q.mv rfl) rfl<|D.q (i:=5) rfl (by kernel_rfl) (fun _=>Wd.ay [0,1] [] rfl rfl rfl) rfl (q.mv rfl) rfl<|D.q (i:=6) rfl (by kernel_rfl) (fun _=>Wd.ay [0,1] [] rfl rfl rfl) rfl (q.qC (i:=(3+y1.toNat)) (j:=(((3+y1.toNat)+y2.toNat)+(256*y3.toNat))) rfl rfl rfl Try.underlying9 rfl rfl (by omega) (by omega)) rfl<|D.q (i:=7) rfl (by kernel_rfl) (fun _=>Wd.ay [0,1] [] rfl rfl rfl) rfl (q.build (cs:=[.string (tt.extract 3 (3+y1.toNat)),.string (tt.extract (3+y1.toNat) (((3+y1.toNat)+y2.toNat)+(256*y3.toNat))),.bool false]) kb rfl rfl) rfl<|?_
        refine D.one (i:=8) (by kernel_rfl) rfl ?_
        refine Do.s (s.alloc (cs:=[.string (⟨#[]⟩),.string (⟨#[]⟩),.bool false]) bT rfl rfl) (fun _=>(fun _=>Wd.ay [1,2] [] rfl rfl rfl)) rfl fun b1=>?_
        refine D.one (i:=9) (by kernel_rfl) rfl ?_
        refine Do.s (s.st (us:=[.string (tt.extract 3 (3+y1.toNat)),.string (tt.extract (3+y1.toNat) (((3+y1.toNat)+y2.toNat)+(256*y3.toNat))),.bool false]) (cs':=[.string (tt.extract 3 (3+y1.toNat)),.string (tt.extract (3+y1.toNat) (((3+y1.toNat)+y2.toNat)+(256*y3.toNat))),.bool false]) 0 _ rfl rfl rfl rfl (.inl aY) rfl rfl rfl rfl) (fun _=>(fun _=>Wd.ay [1,2] [] rfl rfl rfl)) rfl fun _=>?_
        refine D.done (by kernel_rfl)<|?_
        refine R.reg rfl<|R.q (q.mO 0 rfl rfl aY) rfl<|R.c (q.call nj rfl rfl (fun w hw=>(ey ((⟨(tt.extract 3 (3+y1.toNat)),(tt.extract (3+y1.toNat) (((3+y1.toNat)+y2.toNat)+(256*y3.toNat))),false⟩:Change)) w  ))) rfl<|?_
        by_cases h4:dH (⟨(tt.extract 3 (3+y1.toNat)),(tt.extract (3+y1.toNat) (((3+y1.toNat)+y2.toNat)+(256*y3.toNat))),false⟩:Change)=0
        ·
          refine R.q (q.dx rfl rfl Try.underlying28 (by omega)) rfl<|R.nil ?_
          refine R.aH rfl rfl ?_
          refine R.reg rfl<|R.u 1 rfl<|R.q (q.mO 0 rfl rfl aY) rfl<|?_
          refine R.s rfl (s.bs (l:=([(⟨(tt.extract 3 (3+y1.toNat)),(tt.extract (3+y1.toNat) (((3+y1.toNat)+y2.toNat)+(256*y3.toNat))),false⟩:Change)]:List Change)) aU bT rfl rfl rfl rfl rfl rfl rfl) fun b2=>?_
          refine R.s (B':=(fun bg:Value=>[af.row 51 bg ((a8 rs ([(⟨(tt.extract 3 (3+y1.toNat)),(tt.extract (3+y1.toNat) (((3+y1.toNat)+y2.toNat)+(256*y3.toNat))),false⟩:Change)])):List Change),af.box b1 [.string (tt.extract 3 (3+y1.toNat)),.string (tt.extract (3+y1.toNat) (((3+y1.toNat)+y2.toNat)+(256*y3.toNat))),.bool false] 51,af.held w own])) (F':=(fun bg:Value=>[af.ls (.slice (some ⟨b2,0,none⟩) 1 1) ([(⟨(tt.extract 3 (3+y1.toNat)),(tt.extract (3+y1.toNat) (((3+y1.toNat)+y2.toNat)+(256*y3.toNat))),false⟩:Change)]:List Change),af.ls u (rs:List Change)])) rfl (s.pre (B2:=[af.row 51 (.slice (some ⟨b2,0,none⟩) 1 1) ([(⟨(tt.extract 3 (3+y1.toNat)),(tt.extract (3+y1.toNat) (((3+y1.toNat)+y2.toNat)+(256*y3.toNat))),false⟩:Change)]:List Change),af.box b1 [.string (tt.extract 3 (3+y1.toNat)),.string (tt.extract (3+y1.toNat) (((3+y1.toNat)+y2.toNat)+(256*y3.toNat))),.bool false] 51,af.held w own]) (F2:=[af.ls u (rs:List Change)]) (fun _ hw=>hw.gT 2 _ rfl rfl) (s.pre (B2:=[af.box b1 [.string (tt.extract 3 (3+y1.toNat)),.string (tt.extract (3+y1.toNat) (((3+y1.toNat)+y2.toNat)+(256*y3.toNat))),.bool false] 51,af.held w own]) (F2:=[af.ls (.slice (some ⟨b2,0,none⟩) 1 1) ([(⟨(tt.extract 3 (3+y1.toNat)),(tt.extract (3+y1.toNat) (((3+y1.toNat)+y2.toNat)+(256*y3.toNat))),false⟩:Change)]:List Change),af.ls u (rs:List Change)]) (fun _ hw=>hw.gT 0 _ rfl rfl) (s.bM (B0:=[]) (Br:=[af.box b1 [.string (tt.extract 3 (3+y1.toNat)),.string (tt.extract (3+y1.toNat) (((3+y1.toNat)+y2.toNat)+(256*y3.toNat))),.bool false] 51,af.held w own]) (F0:=[af.ls u (rs:List Change),af.ls (.slice (some ⟨b2,0,none⟩) 1 1) ([(⟨(tt.extract 3 (3+y1.toNat)),(tt.extract (3+y1.toNat) (((3+y1.toNat)+y2.toNat)+(256*y3.toNat))),false⟩:Change)]:List Change)]) [0,1] [1,0] (fun bg:Value=>bg) (fun bg:Value=>[af.row 51 bg ((a8 rs ([(⟨(tt.extract 3 (3+y1.toNat)),(tt.extract (3+y1.toNat) (((3+y1.toNat)+y2.toNat)+(256*y3.toNat))),false⟩:Change)])):List Change)]) (fun bg:Value=>[]) rfl rfl rfl s9 rfl rfl (fun w own hw H=>iM u (rs) (.slice (some ⟨b2,0,none⟩) 1 1) ([(⟨(tt.extract 3 (3+y1.toNat)),(tt.extract (3+y1.toNat) (((3+y1.toNat)+y2.toNat)+(256*y3.toNat))),false⟩:Change)]) w own H (by first|omega|assumption|(simp;done)|(simp;omega))) rfl))) fun z1=>?_
          refine R.u 1 rfl<|R.nil ?_
          refine R.reg rfl<|R.u 2 rfl<|R.q (q.sR (i:=(((3+y1.toNat)+y2.toNat)+(256*y3.toNat))) rfl rfl Try.underlying9 rfl (by omega)) rfl<|R.u 1 rfl<|R.nil ?_
          refine R.back ((tt.extract (((3+y1.toNat)+y2.toNat)+(256*y3.toNat)) tt.size),k-1,z1,a8 rs ([(⟨(tt.extract 3 (3+y1.toNat)),(tt.extract (3+y1.toNat) (((3+y1.toNat)+y2.toNat)+(256*y3.toNat))),false⟩:Change)])) rfl (by ((try dsimp only);have g:=wJ HP hk (by assumption) (by rw [jr hy1 hy2 hy3];omega) (by rw [nK hy1 hy2 hy3 rfl];assumption);rw [jr hy1 hy2 hy3,nK hy1 hy2 hy3 rfl] at g;have ha:=fG [(⟨(tt.extract 3 (3+y1.toNat)),(tt.extract (3+y1.toNat) (((3+y1.toNat)+y2.toNat)+(256*y3.toNat))),false⟩:Change)] rs;rw [List.length_singleton] at ha;exact ⟨by rw [ByteArray.size_extract];omega,g.2,g.1⟩)) (by dsimp only;omega) ⟨rfl,rfl,trivial⟩ (fun _=>Wd.ay [0,2] [] rfl rfl rfl)
        ·
          refine R.q (q.e8 rfl rfl Try.underlying28 (by omega)) rfl<|R.nil ?_
          refine R.aF rfl rfl ?_
          refine R.reg rfl<|R.u 2 rfl<|R.nil ?_
          refine R.row0 (α:=Change) 51 ?_
          have hz:ct sx=([],false):=by (first|exact (lB HP hk (by assumption))|exact (hG HP hk (by assumption) (.inl (by omega)))|exact (hG HP hk (by assumption) (.inr (by rw [jr hy1 hy2 hy3];omega)))|exact (jE HP hk (by assumption) (by rw [jr hy1 hy2 hy3];omega) (by rw [nK hy1 hy2 hy3 rfl];assumption)))
          rw [hz]
          exact R.w2 (.slice none 0 0) [0,3] [] rfl Try.results55 (RV.tmp rfl) (RV.tmp rfl) rfl rfl rfl (mR rfl rfl)
theorem tW {k i:Nat}{m:bA}{e:Int}{Z:bA×Int}(h:fc k i (m,e)=Z)(he:e=0)(hk:0<k):fc (k-1) (i+1) (aj m (i:Int) ⟨#[]⟩)=Z:=by
  cases k with
  | zero=>omega
  | succ k=>rw [fc,if_pos he] at h;exact h
theorem bS {k i:Nat}{m:bA}{e:Int}{Z:bA×Int}(h:fc k i (m,e)=Z)(he:¬ e=0):Z=(m,e):=by
  cases k with
  | zero=>exact h.symm
  | succ k=>rw [fc,if_neg he] at h;exact h.symm
theorem bF {k i:Nat}{m:bA}{e:Int}{Z:bA×Int}(h:fc k i (m,e)=Z)(hk:k=0):Z=(m,e):=by subst hk;exact h.symm
theorem my (ap:Nat)(ah ak ai:Value)(dk:bA)(w:World)(own:List Nat)(H:Wd w (blks [af.box ap [ah,ak,ai,.int .i64 dk.Fuse,.bool dk.Down] 81,af.row 9 ah (dk.Kept:List ByteArray),af.row 9 ak (dk.Now:List ByteArray),af.row 83 ai (dk.Wait:List Turn)]++own) ([af.box ap [ah,ak,ai,.int .i64 dk.Fuse,.bool dk.Down] 81,af.row 9 ah (dk.Kept:List ByteArray),af.row 9 ak (dk.Now:List ByteArray),af.row 83 ai (dk.Wait:List Turn)]++[af.held w own]) [] w)(hD:cI dk.Now.length 80000 dk∧dk.Now.length≤1000):Calls Try.prog 23 #[.pointer (some ⟨ap,0,none⟩)] w fun e w' => ∃z:Value×Value×Value,e = .returned (bG (((ar dk)).2))∧Wd w (blks [af.box ap [ah,ak,ai,.int .i64 dk.Fuse,.bool dk.Down] 81,af.row 9 ah (dk.Kept:List ByteArray),af.row 9 ak (dk.Now:List ByteArray),af.row 83 ai (dk.Wait:List Turn)]++own) ([af.box ap [z.1,z.2.1,z.2.2,.int .i64 ((((ar dk)).1).Fuse),.bool ((((ar dk)).1).Down)] 81,af.row 9 z.1 ((((ar dk)).1).Kept:List ByteArray),af.row 9 z.2.1 ((((ar dk)).1).Now:List ByteArray),af.row 83 z.2.2 ((((ar dk)).1).Wait:List Turn)]++[af.held w own]) [] w':=by
  have cZ:=H.cap 1 rfl;have da:=H.aX 1 rfl
  have dJ:=H.cap 2 rfl;have dK:=H.aX 2 rfl
  have dc:=H.cap 3 rfl;have df:=H.aX 3 rfl
  have p0:=hD.1.fine (by omega) (by omega)
  refine R.bY (n:=39) (vs:=[.pointer (some ⟨ap,0,none⟩)]) (B:=[af.box ap [ah,ak,ai,.int .i64 dk.Fuse,.bool dk.Down] 81,af.row 9 ah (dk.Kept:List ByteArray),af.row 9 ak (dk.Now:List ByteArray),af.row 83 ai (dk.Wait:List Turn),af.held w own]) [(0,.pointer (some ⟨ap,0,none⟩))] Try.func23 rfl rfl rfl rfl H ?_
  refine R.reg rfl<|R.u 1 rfl<|R.nil ?_
  refine R.reg rfl<|R.u 1 rfl<|R.c (q.call ke rfl rfl (fun w hw=>(cJ ap ah ak ai  (dk) w (hw.b 0 rfl) ((fun _=>Wd.row 1 rfl) w hw) ((fun _=>Wd.row 2 rfl) w hw) ((fun _=>Wd.row 3 rfl) w hw) ))) rfl<|?_
  by_cases h1:dk.Now.length<166
  ·
    refine R.q (q.lss rfl rfl (decide_eq_true (by omega))) rfl<|R.nil ?_
    refine R.aF rfl rfl ?_
    refine R.reg rfl<|R.q (q.iface rfl cm) rfl<|R.u 1 rfl<|R.nil ?_
    have hz:ar dk=(dk,9):=by (first|exact eV (by omega)|exact nG (by omega) (by first|exact (bS HB (by assumption))|exact (bF HB (by omega))) (by assumption)|exact nH (by omega) (by first|exact (bS HB (by assumption))|exact (bF HB (by omega))) (by assumption) (by assumption)|exact nI (by omega) (by first|exact (bS HB (by assumption))|exact (bF HB (by omega))) (by assumption) (by assumption) (by assumption)|exact mq (by omega) (by first|exact (bS HB (by assumption))|exact (bF HB (by omega))) (by assumption) (by assumption) (by assumption))
    rw [hz]
    exact R.w1 (ah,ak,ai) [0,1,2,3,4] [] rfl Try.results23 (RV.tmp rfl) rfl rfl rfl (fu (by decide) rfl)
  ·
    refine R.q (q.lss rfl rfl (decide_eq_false (by omega))) rfl<|R.nil ?_
    refine R.aH rfl rfl ?_
    refine R.reg rfl<|R.u 1 rfl<|?_
    refine R.s (B':=(fun g_:Value×Value×Value=>[af.box ap [g_.1,g_.2.1,g_.2.2,.int .i64 ((((aj dk 0 (⟨#[]⟩))).1).Fuse),.bool ((((aj dk 0 (⟨#[]⟩))).1).Down)] 81,af.row 9 g_.1 ((((aj dk 0 (⟨#[]⟩))).1).Kept:List ByteArray),af.row 9 g_.2.1 ((((aj dk 0 (⟨#[]⟩))).1).Now:List ByteArray),af.row 83 g_.2.2 ((((aj dk 0 (⟨#[]⟩))).1).Wait:List Turn),af.held w own])) (F':=(fun g_:Value×Value×Value=>[])) rfl (s.bM (B0:=[af.box ap [ah,ak,ai,.int .i64 dk.Fuse,.bool dk.Down] 81,af.row 9 ah (dk.Kept:List ByteArray),af.row 9 ak (dk.Now:List ByteArray),af.row 83 ai (dk.Wait:List Turn)]) (Br:=[af.held w own]) (F0:=[]) [0,1,2,3,4] [] (fun g_:Value×Value×Value=>bG (((aj dk 0 (⟨#[]⟩))).2)) (fun g_:Value×Value×Value=>[af.box ap [g_.1,g_.2.1,g_.2.2,.int .i64 ((((aj dk 0 (⟨#[]⟩))).1).Fuse),.bool ((((aj dk 0 (⟨#[]⟩))).1).Down)] 81,af.row 9 g_.1 ((((aj dk 0 (⟨#[]⟩))).1).Kept:List ByteArray),af.row 9 g_.2.1 ((((aj dk 0 (⟨#[]⟩))).1).Now:List ByteArray),af.row 83 g_.2.2 ((((aj dk 0 (⟨#[]⟩))).1).Wait:List Turn)]) (fun g_:Value×Value×Value=>[]) rfl rfl rfl kT rfl rfl (fun w own hw H=>ea ap ah ak ai (dk) (0) (⟨#[]⟩) w own H (by first|assumption|omega)) rfl) ?_
    rintro ⟨z1,z2,z3⟩
    dsimp only
    refine R.u 1 rfl<|R.nil ?_
    refine R.reg rfl<|R.u 1 rfl<|R.nil ?_
    refine R.loop (fun g_:Nat×Int×bA×Value×Value×Value=>[(0,.pointer (some ⟨ap,0,none⟩)),(3,bG g_.2.1),(4,.int .i64 ((102+g_.1):Int))]) (fun g_:Nat×Int×bA×Value×Value×Value=>[af.box ap [g_.2.2.2.1,g_.2.2.2.2.1,g_.2.2.2.2.2,.int .i64 g_.2.2.1.Fuse,.bool g_.2.2.1.Down] 81,af.row 9 g_.2.2.2.1 (g_.2.2.1.Kept:List ByteArray),af.row 9 g_.2.2.2.2.1 (g_.2.2.1.Now:List ByteArray),af.row 83 g_.2.2.2.2.2 (g_.2.2.1.Wait:List Turn),af.held w own]) (fun g_:Nat×Int×bA×Value×Value×Value=>[]) (fun g_:Nat×Int×bA×Value×Value×Value=>102+g_.1≤dk.Now.length∧fc (dk.Now.length-102-g_.1) (102+g_.1) (g_.2.2.1,g_.2.1)=mg dk∧cI dk.Now.length (80001+g_.1) g_.2.2.1) (fun g_:Nat×Int×bA×Value×Value×Value=>dk.Now.length-g_.1) (0,(aj dk 0 (⟨#[]⟩)).2,((aj dk 0 (⟨#[]⟩)).1),z1,z2,z3) rfl (by (try dsimp only);exact ⟨by omega,rfl,hD.1.write _ _⟩) ⟨rfl,rfl,rfl,trivial⟩ (fun _=>Wd.pick [0,1,2,3,4] [] rfl rfl rfl) ?_
    rintro ⟨j,e,dm,bK,bW,bL⟩ ⟨hj,HB,hO⟩
    dsimp only at *
    have Bd:=hO.nl;have p1:=hO.fine (by omega) (by omega)
    refine R.reg rfl<|R.u 2 rfl<|R.c (q.call ke rfl rfl (fun w hw=>(cJ ap bK bW bL  (dm) w (hw.b 0 rfl) ((fun _=>Wd.row 1 rfl) w hw) ((fun _=>Wd.row 2 rfl) w hw) ((fun _=>Wd.row 3 rfl) w hw) ))) rfl<|?_
    by_cases h2:(102+j)<dm.Now.length
    ·
      refine R.q (q.lss rfl rfl (decide_eq_true (by omega))) rfl<|R.u 2 rfl<|?_
      by_cases h3:e=0
      ·
        refine R.qg rfl (q.i7 rfl rfl Try.underlying28 (by omega)) rfl<|R.u 1 rfl<|R.nil ?_
        refine R.aF rfl rfl ?_
        refine R.reg rfl<|R.u 2 rfl<|?_
        refine R.s (B':=(fun g_:Value×Value×Value=>[af.box ap [g_.1,g_.2.1,g_.2.2,.int .i64 ((((aj dm ((102+j):Int) (⟨#[]⟩))).1).Fuse),.bool ((((aj dm ((102+j):Int) (⟨#[]⟩))).1).Down)] 81,af.row 9 g_.1 ((((aj dm ((102+j):Int) (⟨#[]⟩))).1).Kept:List ByteArray),af.row 9 g_.2.1 ((((aj dm ((102+j):Int) (⟨#[]⟩))).1).Now:List ByteArray),af.row 83 g_.2.2 ((((aj dm ((102+j):Int) (⟨#[]⟩))).1).Wait:List Turn),af.held w own])) (F':=(fun g_:Value×Value×Value=>[])) rfl (s.bM (B0:=[af.box ap [bK,bW,bL,.int .i64 dm.Fuse,.bool dm.Down] 81,af.row 9 bK (dm.Kept:List ByteArray),af.row 9 bW (dm.Now:List ByteArray),af.row 83 bL (dm.Wait:List Turn)]) (Br:=[af.held w own]) (F0:=[]) [0,1,2,3,4] [] (fun g_:Value×Value×Value=>bG (((aj dm ((102+j):Int) (⟨#[]⟩))).2)) (fun g_:Value×Value×Value=>[af.box ap [g_.1,g_.2.1,g_.2.2,.int .i64 ((((aj dm ((102+j):Int) (⟨#[]⟩))).1).Fuse),.bool ((((aj dm ((102+j):Int) (⟨#[]⟩))).1).Down)] 81,af.row 9 g_.1 ((((aj dm ((102+j):Int) (⟨#[]⟩))).1).Kept:List ByteArray),af.row 9 g_.2.1 ((((aj dm ((102+j):Int) (⟨#[]⟩))).1).Now:List ByteArray),af.row 83 g_.2.2 ((((aj dm ((102+j):Int) (⟨#[]⟩))).1).Wait:List Turn)]) (fun g_:Value×Value×Value=>[]) rfl rfl rfl kT rfl rfl (fun w own hw H=>ea ap bK bW bL (dm) (((102+j):Int)) (⟨#[]⟩) w own H (by first|assumption|omega)) rfl) ?_
        rintro ⟨z4,z5,z6⟩
        dsimp only
        refine R.u 1 rfl<|R.nil ?_
        refine R.reg rfl<|R.u 1 rfl<|R.q (q.add (r:=(((102+j)+1:Nat):Int)) rfl rfl (wr (by omega))) rfl<|R.u 1 rfl<|R.nil ?_
        refine R.back (j+1,(aj dm ((102+j):Int) (⟨#[]⟩)).2,((aj dm ((102+j):Int) (⟨#[]⟩)).1),z4,z5,z6) rfl (by ((try dsimp only);exact ⟨by omega,by have g:=tW HB (by assumption) (by omega);rwa [show dk.Now.length-102-(j+1)=dk.Now.length-102-j-1 by omega],hO.write _ _⟩)) (by dsimp only;omega) ⟨rfl,rfl,rfl,trivial⟩ (fun _=>Wd.ay [0,1,2,3,4] [] rfl rfl rfl)
      ·
        refine R.qg rfl (q.fq rfl rfl Try.underlying28 (by omega)) rfl<|R.u 1 rfl<|R.nil ?_
        refine R.aH rfl rfl ?_
        refine R.reg rfl<|R.u 1 rfl<|R.q (q.fq rfl rfl Try.underlying28 (by omega)) rfl<|R.nil ?_
        refine R.aH rfl rfl ?_
        refine R.reg rfl<|R.u 1 rfl<|R.q (q.fq rfl rfl Try.underlying28 (by omega)) rfl<|R.nil ?_
        refine R.aH rfl rfl ?_
        refine R.reg rfl<|R.u 1 rfl<|R.q (q.fq rfl rfl Try.underlying28 (by omega)) rfl<|R.nil ?_
        refine R.aH rfl rfl ?_
        refine R.reg rfl<|R.u 2 rfl<|R.nil ?_
        have hz:ar dk=(dm,e):=by (first|exact eV (by omega)|exact nG (by omega) (by first|exact (bS HB (by assumption))|exact (bF HB (by omega))) (by assumption)|exact nH (by omega) (by first|exact (bS HB (by assumption))|exact (bF HB (by omega))) (by assumption) (by assumption)|exact nI (by omega) (by first|exact (bS HB (by assumption))|exact (bF HB (by omega))) (by assumption) (by assumption) (by assumption)|exact mq (by omega) (by first|exact (bS HB (by assumption))|exact (bF HB (by omega))) (by assumption) (by assumption) (by assumption))
        rw [hz]
        exact R.w1 (bK,bW,bL) [0,1,2,3,4] [] rfl Try.results23 (RV.tmp rfl) rfl rfl rfl rfl
    ·
      refine R.q (q.lss rfl rfl (decide_eq_false (by omega))) rfl<|R.u 4 rfl<|R.nil ?_
      refine R.aH rfl rfl ?_
      refine R.reg rfl<|R.u 1 rfl<|?_
      by_cases h4:e=0
      ·
        refine R.q (q.i7 rfl rfl Try.underlying28 (by omega)) rfl<|R.nil ?_
        refine R.aF rfl rfl ?_
        refine R.reg rfl<|R.u 1 rfl<|?_
        refine R.s (B':=(fun g_:Value×Value×Value=>[af.box ap [g_.1,g_.2.1,g_.2.2,.int .i64 ((((ag dm)).1).Fuse),.bool ((((ag dm)).1).Down)] 81,af.row 9 g_.1 ((((ag dm)).1).Kept:List ByteArray),af.row 9 g_.2.1 ((((ag dm)).1).Now:List ByteArray),af.row 83 g_.2.2 ((((ag dm)).1).Wait:List Turn),af.held w own])) (F':=(fun g_:Value×Value×Value=>[])) rfl (s.bM (B0:=[af.box ap [bK,bW,bL,.int .i64 dm.Fuse,.bool dm.Down] 81,af.row 9 bK (dm.Kept:List ByteArray),af.row 9 bW (dm.Now:List ByteArray),af.row 83 bL (dm.Wait:List Turn)]) (Br:=[af.held w own]) (F0:=[]) [0,1,2,3,4] [] (fun g_:Value×Value×Value=>bG (((ag dm)).2)) (fun g_:Value×Value×Value=>[af.box ap [g_.1,g_.2.1,g_.2.2,.int .i64 ((((ag dm)).1).Fuse),.bool ((((ag dm)).1).Down)] 81,af.row 9 g_.1 ((((ag dm)).1).Kept:List ByteArray),af.row 9 g_.2.1 ((((ag dm)).1).Now:List ByteArray),af.row 83 g_.2.2 ((((ag dm)).1).Wait:List Turn)]) (fun g_:Value×Value×Value=>[]) rfl rfl rfl nk rfl rfl (fun w own hw H=>fE ap bK bW bL (dm) w own H (by first|assumption|omega)) rfl) ?_
        rintro ⟨z7,z8,z9⟩
        dsimp only
        refine R.u 1 rfl<|R.nil ?_
        refine R.reg rfl<|R.u 1 rfl<|?_
        by_cases h5:(ag dm).2=0
        ·
          refine R.q (q.i7 rfl rfl Try.underlying28 (by omega)) rfl<|R.nil ?_
          refine R.aF rfl rfl ?_
          have p2:=hO.flush.fine (by omega) (by omega)
          refine R.reg rfl<|R.u 1 rfl<|R.q (q.build (cs:=[.int .i64 1,.int .i64 0,.int .i64 0,.int .i64 1]) dy rfl rfl) rfl<|R.c (q.call vN rfl rfl (fun w hw=>(nJ ((⟨1,0,0,1⟩:br)) w  (by first|omega|assumption|(dsimp only;omega)|decide)))) rfl<|?_
          refine R.s (B':=(fun g_:Value×Value×Value=>[af.box ap [g_.1,g_.2.1,g_.2.2,.int .i64 ((((aj ((ag dm).1) 1 (aA (⟨1,0,0,1⟩:br)))).1).Fuse),.bool ((((aj ((ag dm).1) 1 (aA (⟨1,0,0,1⟩:br)))).1).Down)] 81,af.row 9 g_.1 ((((aj ((ag dm).1) 1 (aA (⟨1,0,0,1⟩:br)))).1).Kept:List ByteArray),af.row 9 g_.2.1 ((((aj ((ag dm).1) 1 (aA (⟨1,0,0,1⟩:br)))).1).Now:List ByteArray),af.row 83 g_.2.2 ((((aj ((ag dm).1) 1 (aA (⟨1,0,0,1⟩:br)))).1).Wait:List Turn),af.held w own])) (F':=(fun g_:Value×Value×Value=>[])) rfl (s.bM (B0:=[af.box ap [z7,z8,z9,.int .i64 (((ag dm).1).Fuse),.bool (((ag dm).1).Down)] 81,af.row 9 z7 (((ag dm).1).Kept:List ByteArray),af.row 9 z8 (((ag dm).1).Now:List ByteArray),af.row 83 z9 (((ag dm).1).Wait:List Turn)]) (Br:=[af.held w own]) (F0:=[]) [0,1,2,3,4] [] (fun g_:Value×Value×Value=>bG (((aj ((ag dm).1) 1 (aA (⟨1,0,0,1⟩:br)))).2)) (fun g_:Value×Value×Value=>[af.box ap [g_.1,g_.2.1,g_.2.2,.int .i64 ((((aj ((ag dm).1) 1 (aA (⟨1,0,0,1⟩:br)))).1).Fuse),.bool ((((aj ((ag dm).1) 1 (aA (⟨1,0,0,1⟩:br)))).1).Down)] 81,af.row 9 g_.1 ((((aj ((ag dm).1) 1 (aA (⟨1,0,0,1⟩:br)))).1).Kept:List ByteArray),af.row 9 g_.2.1 ((((aj ((ag dm).1) 1 (aA (⟨1,0,0,1⟩:br)))).1).Now:List ByteArray),af.row 83 g_.2.2 ((((aj ((ag dm).1) 1 (aA (⟨1,0,0,1⟩:br)))).1).Wait:List Turn)]) (fun g_:Value×Value×Value=>[]) rfl rfl rfl kT rfl rfl (fun w own hw H=>ea ap z7 z8 z9 (((ag dm).1)) (1) (aA (⟨1,0,0,1⟩:br)) w own H (by first|assumption|omega)) rfl) ?_
          rintro ⟨gP,gK,z12⟩
          dsimp only
          refine R.u 1 rfl<|R.nil ?_
          refine R.reg rfl<|R.u 1 rfl<|?_
          by_cases h6:(aj ((ag dm).1) 1 (aA (⟨1,0,0,1⟩:br))).2=0
          ·
            refine R.q (q.i7 rfl rfl Try.underlying28 (by omega)) rfl<|R.nil ?_
            refine R.aF rfl rfl ?_
            have p3:=(hO.flush.write 1 (aA ⟨1,0,0,1⟩)).fine (by omega) (by omega)
            refine R.reg rfl<|R.u 1 rfl<|?_
            refine R.s (B':=(fun g_:Value×Value×Value=>[af.box ap [g_.1,g_.2.1,g_.2.2,.int .i64 ((((ag ((aj ((ag dm).1) 1 (aA (⟨1,0,0,1⟩:br))).1))).1).Fuse),.bool ((((ag ((aj ((ag dm).1) 1 (aA (⟨1,0,0,1⟩:br))).1))).1).Down)] 81,af.row 9 g_.1 ((((ag ((aj ((ag dm).1) 1 (aA (⟨1,0,0,1⟩:br))).1))).1).Kept:List ByteArray),af.row 9 g_.2.1 ((((ag ((aj ((ag dm).1) 1 (aA (⟨1,0,0,1⟩:br))).1))).1).Now:List ByteArray),af.row 83 g_.2.2 ((((ag ((aj ((ag dm).1) 1 (aA (⟨1,0,0,1⟩:br))).1))).1).Wait:List Turn),af.held w own])) (F':=(fun g_:Value×Value×Value=>[])) rfl (s.bM (B0:=[af.box ap [gP,gK,z12,.int .i64 (((aj ((ag dm).1) 1 (aA (⟨1,0,0,1⟩:br))).1).Fuse),.bool (((aj ((ag dm).1) 1 (aA (⟨1,0,0,1⟩:br))).1).Down)] 81,af.row 9 gP (((aj ((ag dm).1) 1 (aA (⟨1,0,0,1⟩:br))).1).Kept:List ByteArray),af.row 9 gK (((aj ((ag dm).1) 1 (aA (⟨1,0,0,1⟩:br))).1).Now:List ByteArray),af.row 83 z12 (((aj ((ag dm).1) 1 (aA (⟨1,0,0,1⟩:br))).1).Wait:List Turn)]) (Br:=[af.held w own]) (F0:=[]) [0,1,2,3,4] [] (fun g_:Value×Value×Value=>bG (((ag ((aj ((ag dm).1) 1 (aA (⟨1,0,0,1⟩:br))).1))).2)) (fun g_:Value×Value×Value=>[af.box ap [g_.1,g_.2.1,g_.2.2,.int .i64 ((((ag ((aj ((ag dm).1) 1 (aA (⟨1,0,0,1⟩:br))).1))).1).Fuse),.bool ((((ag ((aj ((ag dm).1) 1 (aA (⟨1,0,0,1⟩:br))).1))).1).Down)] 81,af.row 9 g_.1 ((((ag ((aj ((ag dm).1) 1 (aA (⟨1,0,0,1⟩:br))).1))).1).Kept:List ByteArray),af.row 9 g_.2.1 ((((ag ((aj ((ag dm).1) 1 (aA (⟨1,0,0,1⟩:br))).1))).1).Now:List ByteArray),af.row 83 g_.2.2 ((((ag ((aj ((ag dm).1) 1 (aA (⟨1,0,0,1⟩:br))).1))).1).Wait:List Turn)]) (fun g_:Value×Value×Value=>[]) rfl rfl rfl nk rfl rfl (fun w own hw H=>fE ap gP gK z12 (((aj ((ag dm).1) 1 (aA (⟨1,0,0,1⟩:br))).1)) w own H (by first|assumption|omega)) rfl) ?_
            rintro ⟨kV,sH,ru⟩
            dsimp only
            refine R.u 1 rfl<|R.nil ?_
            refine R.reg rfl<|R.u 2 rfl<|R.nil ?_
            have hz:ar dk=(((ag ((aj ((ag dm).1) 1 (aA (⟨1,0,0,1⟩:br))).1)).1),(ag ((aj ((ag dm).1) 1 (aA (⟨1,0,0,1⟩:br))).1)).2):=by (first|exact eV (by omega)|exact nG (by omega) (by first|exact (bS HB (by assumption))|exact (bF HB (by omega))) (by assumption)|exact nH (by omega) (by first|exact (bS HB (by assumption))|exact (bF HB (by omega))) (by assumption) (by assumption)|exact nI (by omega) (by first|exact (bS HB (by assumption))|exact (bF HB (by omega))) (by assumption) (by assumption) (by assumption)|exact mq (by omega) (by first|exact (bS HB (by assumption))|exact (bF HB (by omega))) (by assumption) (by assumption) (by assumption))
            rw [hz]
            exact R.w1 (kV,sH,ru) [0,1,2,3,4] [] rfl Try.results23 (RV.tmp rfl) rfl rfl rfl rfl
          ·
            refine R.q (q.fq rfl rfl Try.underlying28 (by omega)) rfl<|R.nil ?_
            refine R.aH rfl rfl ?_
            refine R.reg rfl<|R.u 2 rfl<|R.nil ?_
            have hz:ar dk=(((aj ((ag dm).1) 1 (aA (⟨1,0,0,1⟩:br))).1),(aj ((ag dm).1) 1 (aA (⟨1,0,0,1⟩:br))).2):=by (first|exact eV (by omega)|exact nG (by omega) (by first|exact (bS HB (by assumption))|exact (bF HB (by omega))) (by assumption)|exact nH (by omega) (by first|exact (bS HB (by assumption))|exact (bF HB (by omega))) (by assumption) (by assumption)|exact nI (by omega) (by first|exact (bS HB (by assumption))|exact (bF HB (by omega))) (by assumption) (by assumption) (by assumption)|exact mq (by omega) (by first|exact (bS HB (by assumption))|exact (bF HB (by omega))) (by assumption) (by assumption) (by assumption))
            rw [hz]
            exact R.w1 (gP,gK,z12) [0,1,2,3,4] [] rfl Try.results23 (RV.tmp rfl) rfl rfl rfl rfl
        ·
          refine R.q (q.fq rfl rfl Try.underlying28 (by omega)) rfl<|R.nil ?_
          refine R.aH rfl rfl ?_
          refine R.reg rfl<|R.u 1 rfl<|R.q (q.fq rfl rfl Try.underlying28 (by omega)) rfl<|R.nil ?_
          refine R.aH rfl rfl ?_
          refine R.reg rfl<|R.u 2 rfl<|R.nil ?_
          have hz:ar dk=(((ag dm).1),(ag dm).2):=by (first|exact eV (by omega)|exact nG (by omega) (by first|exact (bS HB (by assumption))|exact (bF HB (by omega))) (by assumption)|exact nH (by omega) (by first|exact (bS HB (by assumption))|exact (bF HB (by omega))) (by assumption) (by assumption)|exact nI (by omega) (by first|exact (bS HB (by assumption))|exact (bF HB (by omega))) (by assumption) (by assumption) (by assumption)|exact mq (by omega) (by first|exact (bS HB (by assumption))|exact (bF HB (by omega))) (by assumption) (by assumption) (by assumption))
          rw [hz]
          exact R.w1 (z7,z8,z9) [0,1,2,3,4] [] rfl Try.results23 (RV.tmp rfl) rfl rfl rfl rfl
      ·
        refine R.q (q.fq rfl rfl Try.underlying28 (by omega)) rfl<|R.nil ?_
        refine R.aH rfl rfl ?_
        refine R.reg rfl<|R.u 1 rfl<|R.q (q.fq rfl rfl Try.underlying28 (by omega)) rfl<|R.nil ?_
        refine R.aH rfl rfl ?_
        refine R.reg rfl<|R.u 1 rfl<|R.q (q.fq rfl rfl Try.underlying28 (by omega)) rfl<|R.nil ?_
        refine R.aH rfl rfl ?_
        refine R.reg rfl<|R.u 2 rfl<|R.nil ?_
        have hz:ar dk=(dm,e):=by (first|exact eV (by omega)|exact nG (by omega) (by first|exact (bS HB (by assumption))|exact (bF HB (by omega))) (by assumption)|exact nH (by omega) (by first|exact (bS HB (by assumption))|exact (bF HB (by omega))) (by assumption) (by assumption)|exact nI (by omega) (by first|exact (bS HB (by assumption))|exact (bF HB (by omega))) (by assumption) (by assumption) (by assumption)|exact mq (by omega) (by first|exact (bS HB (by assumption))|exact (bF HB (by omega))) (by assumption) (by assumption) (by assumption))
        rw [hz]
        exact R.w1 (bK,bW,bL) [0,1,2,3,4] [] rfl Try.results23 (RV.tmp rfl) rfl rfl rfl rfl
theorem fJ (bp:Nat)(aB:Value)(kM:Nat)(st:ic)(aG:Nat)(iO:Nat)(lg:Lg)(w:World)(tX:(af.box bp [.pointer (some ⟨kM,0,none⟩),.int .i64 st.Epoch,.int .i64 st.Side,.int .i64 st.Size,.int .i64 st.First,.pointer (some ⟨aG,0,none⟩),aB] 100).ok w)(jY:Sl w aB (st.Rows:List Change))(me:(af.box aG [.pointer (some ⟨iO,0,none⟩),.int .i64 lg.From,.int .i64 lg.Many,.int .i64 lg.First,.int .i64 lg.Next] 85).ok w)(hb:0≤lg.Many∧lg.Many≤1000000000∧0≤lg.Next∧lg.Next≤1000000000):Calls Try.prog 27 #[.pointer (some ⟨bp,0,none⟩)] w fun e w'=>e = .returned (.int .i64 (lg.Many-lg.Next))∧Ext w w':=by
  refine R.enter (n:=8) (vs:=[.pointer (some ⟨bp,0,none⟩)]) [] [(0,.pointer (some ⟨bp,0,none⟩))] Try.func27 rfl rfl rfl rfl ?_
  refine R.iY jY ?_
  refine R.kD (r:=af.box bp [.pointer (some ⟨kM,0,none⟩),.int .i64 st.Epoch,.int .i64 st.Side,.int .i64 st.Size,.int .i64 st.First,.pointer (some ⟨aG,0,none⟩),aB] 100) tX (hZ tX) ?_
  refine R.kD (r:=af.box aG [.pointer (some ⟨iO,0,none⟩),.int .i64 lg.From,.int .i64 lg.Many,.int .i64 lg.First,.int .i64 lg.Next] 85) me (hZ me) ?_
  refine R.reg rfl<|R.u 1 rfl<|R.nil ?_
  refine R.reg rfl<|R.u 1 rfl<|R.q (q.a7 rfl) rfl<|R.q (q.bz (off':=5) rfl eL rfl) rfl<|R.q (q.oK 1 rfl rfl dq rfl) rfl<|R.c (q.call qM rfl rfl (fun w hw=>(ku aG  iO (lg) w (hw.f 0 rfl) (by first|assumption|omega|(dsimp only;omega))))) rfl<|R.u 1 rfl<|R.nil ?_
  exact R.rv rfl Try.results27 rfl (rI (by (rfl)))
structure lv where
  Buf:List UInt8
structure pq where
  Used:Bool
  Buf:List UInt8
theorem mW (bP:Nat)(aZ:Value)(bd:lv)(w:World)(own:List Nat)(H:Wd w (blks [af.box bP [.pointer none,aZ] 124,af.row 5 aZ (bd.Buf:List UInt8)]++own) ([af.box bP [.pointer none,aZ] 124,af.row 5 aZ (bd.Buf:List UInt8)]++[af.held w own]) [] w)  : Calls Try.prog 78 #[.pointer (some ⟨bP,0,none⟩)] w fun e w' => ∃z:Value,e = .returned (.tuple #[])∧Wd w (blks [af.box bP [.pointer none,aZ] 124,af.row 5 aZ (bd.Buf:List UInt8)]++own) ([af.box bP [.pointer (some ⟨bP,0,none⟩),z] 124,af.row 5 z ((bd).Buf:List UInt8)]++[af.held w own]) [] w':=by
  have mA:=H.cap 1 rfl;have mB:=H.aX 1 rfl
  refine R.bY (n:=20) (vs:=[.pointer (some ⟨bP,0,none⟩)]) (B:=[af.box bP [.pointer none,aZ] 124,af.row 5 aZ (bd.Buf:List UInt8),af.held w own]) [(0,.pointer (some ⟨bP,0,none⟩))] Try.func78 rfl rfl rfl rfl H ?_
  refine R.reg rfl<|R.u 1 rfl<|R.q (q.a7 rfl) rfl<|R.q (q.bz (off':=0) rfl iE rfl) rfl<|R.q (q.ld 0 rfl rfl kc rfl) rfl<|R.q (q.pP rfl rfl Try.underlying122) rfl<|R.nil ?_
  refine R.aF rfl rfl ?_
  refine R.reg rfl<|R.u 2 rfl<|R.q (q.Az (i:=0) rfl rfl Try.underlying122 Try.underlying135 rfl (by decide) (by simp)) rfl<|R.q (q.yt Try.func81 (by decide +kernel) rfl rfl rfl rfl rfl) rfl<|R.q (q.AA (i:=0) rfl rfl Try.underlying135 Try.underlying122 rfl 2 rfl (by decide +kernel)) rfl<|R.q (q.a7 rfl) rfl<|R.q (q.bz (off':=0) rfl iE rfl) rfl<|?_
  refine R.s rfl (s.st (us:=[.pointer (some ⟨bP,0,none⟩)]) (cs':=[.pointer (some ⟨bP,0,none⟩),aZ]) 0 _ rfl rfl rfl rfl (.inr ⟨kc,rfl⟩) rfl rfl rfl rfl) fun _=>?_
  refine R.nil ?_
  exact R.w0 aZ [0,1,2] [] (by first|exact .inl rfl|exact .inr ⟨_,rfl⟩) Try.results78  rfl rfl rfl rfl
theorem mX (bP:Nat)(aZ:Value)(bd:lv)(sx:ByteArray)(w:World)(own:List Nat)(H:Wd w (blks [af.box bP [.pointer none,aZ] 124,af.row 5 aZ (bd.Buf:List UInt8)]++own) ([af.box bP [.pointer none,aZ] 124,af.row 5 aZ (bd.Buf:List UInt8)]++[af.held w own]) [] w)(hl:bd.Buf.length+sx.size≤1000000):Calls Try.prog 70 #[.pointer (some ⟨bP,0,none⟩),.string sx] w fun e w' => ∃z:Value,e = .returned (.tuple #[.int .i64 (sx.size:Int),.nilIface])∧Wd w (blks [af.box bP [.pointer none,aZ] 124,af.row 5 aZ (bd.Buf:List UInt8)]++own) ([af.box bP [.pointer (some ⟨bP,0,none⟩),z] 124,af.row 5 z (((⟨bd.Buf++sx.data.toList⟩:lv)).Buf:List UInt8)]++[af.held w own]) [] w':=by
  have mA:=H.cap 1 rfl;have mB:=H.aX 1 rfl
  refine R.bY (n:=19) (vs:=[.pointer (some ⟨bP,0,none⟩),.string sx]) (B:=[af.box bP [.pointer none,aZ] 124,af.row 5 aZ (bd.Buf:List UInt8),af.held w own]) [(0,.pointer (some ⟨bP,0,none⟩)),(1,.string sx)] Try.func70 rfl rfl rfl rfl H ?_
  refine R.reg rfl<|R.u 2 rfl<|R.nil ?_
  refine R.reg rfl<|R.u 1 rfl<|?_
  refine R.s (B':=(fun bg:Value=>[af.box bP [.pointer (some ⟨bP,0,none⟩),bg] 124,af.row 5 bg ((bd).Buf:List UInt8),af.held w own])) (F':=(fun bg:Value=>[])) rfl (s.bM (B0:=[af.box bP [.pointer none,aZ] 124,af.row 5 aZ (bd.Buf:List UInt8)]) (Br:=[af.held w own]) (F0:=[]) [0,1,2] [] (fun bg:Value => .tuple #[]) (fun bg:Value=>[af.box bP [.pointer (some ⟨bP,0,none⟩),bg] 124,af.row 5 bg ((bd).Buf:List UInt8)]) (fun bg:Value=>[]) rfl rfl rfl vP rfl rfl (fun w own hw H=>mW bP aZ (bd) w own H ) rfl) fun z1=>?_
  refine R.nil ?_
  refine R.reg rfl<|R.u 2 rfl<|R.q (q.a7 rfl) rfl<|R.q (q.bz (off':=1) rfl iF rfl) rfl<|R.q (q.ld 0 rfl rfl gG rfl) rfl<|R.u 1 rfl<|?_
  refine R.s rfl (s.tT 1 rfl rfl rfl Try.underlying109 Try.underlying9 rfl rfl rfl rfl (by first|omega|(simp;done)|(simp;omega)) rfl) fun v1=>?_
  refine R.q (q.a7 rfl) rfl<|R.q (q.bz (off':=1) rfl iF rfl) rfl<|?_
  refine R.s rfl (s.pN (us:=[v1]) (cs':=[.pointer (some ⟨bP,0,none⟩),v1]) 0 _ rfl rfl rfl (fun w hw=>Sl.dX ((fun _=>Wd.row 1 rfl) w hw)) (.inr ⟨gG,rfl⟩) (fun w hw=>(bN (Sl.one ((fun _=>Wd.row 1 rfl) w hw)) dD)) rfl rfl rfl) fun _=>?_
  refine R.nil ?_
  refine R.reg rfl<|R.u 1 rfl<|R.q (q.eW rfl Try.underlying9) rfl<|R.u 2 rfl<|R.nil ?_
  have hz:((⟨bd.Buf++sx.data.toList⟩:lv),sx.size)=((⟨(bd.Buf++sx.data.toList)⟩:lv),sx.size):=by (rfl)
  exact R.w2 v1 [0,1,2] [] rfl Try.results70 (RV.tmp rfl) (RV.tmp rfl) rfl rfl rfl (mR rfl rfl)
theorem mY (bP:Nat)(aZ:Value)(bd:lv)(w:World)(own:List Nat)(H:Wd w (blks [af.box bP [.pointer (some ⟨bP,0,none⟩),aZ] 124,af.row 5 aZ (bd.Buf:List UInt8)]++own) ([af.box bP [.pointer (some ⟨bP,0,none⟩),aZ] 124,af.row 5 aZ (bd.Buf:List UInt8)]++[af.held w own]) [] w)  : Calls Try.prog 78 #[.pointer (some ⟨bP,0,none⟩)] w fun e w' => ∃z:Value,e = .returned (.tuple #[])∧Wd w (blks [af.box bP [.pointer (some ⟨bP,0,none⟩),aZ] 124,af.row 5 aZ (bd.Buf:List UInt8)]++own) ([af.box bP [.pointer (some ⟨bP,0,none⟩),z] 124,af.row 5 z ((bd).Buf:List UInt8)]++[af.held w own]) [] w':=by
  have mA:=H.cap 1 rfl;have mB:=H.aX 1 rfl
  refine R.bY (n:=20) (vs:=[.pointer (some ⟨bP,0,none⟩)]) (B:=[af.box bP [.pointer (some ⟨bP,0,none⟩),aZ] 124,af.row 5 aZ (bd.Buf:List UInt8),af.held w own]) [(0,.pointer (some ⟨bP,0,none⟩))] Try.func78 rfl rfl rfl rfl H ?_
  refine R.reg rfl<|R.u 1 rfl<|R.q (q.a7 rfl) rfl<|R.q (q.bz (off':=0) rfl iE rfl) rfl<|R.q (q.ld 0 rfl rfl kc rfl) rfl<|R.q (q.pP rfl rfl Try.underlying122) rfl<|R.nil ?_
  refine R.aH rfl rfl ?_
  refine R.reg rfl<|R.u 1 rfl<|R.q (q.a7 rfl) rfl<|R.q (q.bz (off':=0) rfl iE rfl) rfl<|R.q (q.ld 0 rfl rfl kc rfl) rfl<|R.u 1 rfl<|R.q (q.same rfl rfl Try.underlying122 rfl) rfl<|R.nil ?_
  refine R.aH rfl rfl ?_
  exact R.w0 aZ [0,1,2] [] (by first|exact .inl rfl|exact .inr ⟨_,rfl⟩) Try.results78  rfl rfl rfl rfl
theorem mZ (bP:Nat)(aZ:Value)(bd:lv)(sx:ByteArray)(w:World)(own:List Nat)(H:Wd w (blks [af.box bP [.pointer (some ⟨bP,0,none⟩),aZ] 124,af.row 5 aZ (bd.Buf:List UInt8)]++own) ([af.box bP [.pointer (some ⟨bP,0,none⟩),aZ] 124,af.row 5 aZ (bd.Buf:List UInt8)]++[af.held w own]) [] w)(hl:bd.Buf.length+sx.size≤1000000):Calls Try.prog 70 #[.pointer (some ⟨bP,0,none⟩),.string sx] w fun e w' => ∃z:Value,e = .returned (.tuple #[.int .i64 (sx.size:Int),.nilIface])∧Wd w (blks [af.box bP [.pointer (some ⟨bP,0,none⟩),aZ] 124,af.row 5 aZ (bd.Buf:List UInt8)]++own) ([af.box bP [.pointer (some ⟨bP,0,none⟩),z] 124,af.row 5 z (((⟨bd.Buf++sx.data.toList⟩:lv)).Buf:List UInt8)]++[af.held w own]) [] w':=by
  have mA:=H.cap 1 rfl;have mB:=H.aX 1 rfl
  refine R.bY (n:=19) (vs:=[.pointer (some ⟨bP,0,none⟩),.string sx]) (B:=[af.box bP [.pointer (some ⟨bP,0,none⟩),aZ] 124,af.row 5 aZ (bd.Buf:List UInt8),af.held w own]) [(0,.pointer (some ⟨bP,0,none⟩)),(1,.string sx)] Try.func70 rfl rfl rfl rfl H ?_
  refine R.reg rfl<|R.u 2 rfl<|R.nil ?_
  refine R.reg rfl<|R.u 1 rfl<|?_
  refine R.s (B':=(fun bg:Value=>[af.box bP [.pointer (some ⟨bP,0,none⟩),bg] 124,af.row 5 bg ((bd).Buf:List UInt8),af.held w own])) (F':=(fun bg:Value=>[])) rfl (s.bM (B0:=[af.box bP [.pointer (some ⟨bP,0,none⟩),aZ] 124,af.row 5 aZ (bd.Buf:List UInt8)]) (Br:=[af.held w own]) (F0:=[]) [0,1,2] [] (fun bg:Value => .tuple #[]) (fun bg:Value=>[af.box bP [.pointer (some ⟨bP,0,none⟩),bg] 124,af.row 5 bg ((bd).Buf:List UInt8)]) (fun bg:Value=>[]) rfl rfl rfl vP rfl rfl (fun w own hw H=>mY bP aZ (bd) w own H ) rfl) fun z1=>?_
  refine R.nil ?_
  refine R.reg rfl<|R.u 2 rfl<|R.q (q.a7 rfl) rfl<|R.q (q.bz (off':=1) rfl iF rfl) rfl<|R.q (q.ld 0 rfl rfl gG rfl) rfl<|R.u 1 rfl<|?_
  refine R.s rfl (s.tT 1 rfl rfl rfl Try.underlying109 Try.underlying9 rfl rfl rfl rfl (by first|omega|(simp;done)|(simp;omega)) rfl) fun v1=>?_
  refine R.q (q.a7 rfl) rfl<|R.q (q.bz (off':=1) rfl iF rfl) rfl<|?_
  refine R.s rfl (s.pN (us:=[v1]) (cs':=[.pointer (some ⟨bP,0,none⟩),v1]) 0 _ rfl rfl rfl (fun w hw=>Sl.dX ((fun _=>Wd.row 1 rfl) w hw)) (.inr ⟨gG,rfl⟩) (fun w hw=>(bN (Sl.one ((fun _=>Wd.row 1 rfl) w hw)) dD)) rfl rfl rfl) fun _=>?_
  refine R.nil ?_
  refine R.reg rfl<|R.u 1 rfl<|R.q (q.eW rfl Try.underlying9) rfl<|R.u 2 rfl<|R.nil ?_
  have hz:((⟨bd.Buf++sx.data.toList⟩:lv),sx.size)=((⟨(bd.Buf++sx.data.toList)⟩:lv),sx.size):=by (rfl)
  exact R.w2 v1 [0,1,2] [] rfl Try.results70 (RV.tmp rfl) (RV.tmp rfl) rfl rfl rfl (mR rfl rfl)
theorem oD (bP:Nat)(aZ:Value)(bd:pq)(sx:ByteArray)(w:World)(own:List Nat)(H:Wd w (blks [af.box bP [iV bP bd.Used,aZ] 124,af.row 5 aZ (bd.Buf:List UInt8)]++own) ([af.box bP [iV bP bd.Used,aZ] 124,af.row 5 aZ (bd.Buf:List UInt8)]++[af.held w own]) [] w)(hl:bd.Buf.length+sx.size≤1000000):Calls Try.prog 70 #[.pointer (some ⟨bP,0,none⟩),.string sx] w fun e w' => ∃z:Value,e = .returned (.tuple #[.int .i64 (sx.size:Int),.nilIface])∧Wd w (blks [af.box bP [iV bP bd.Used,aZ] 124,af.row 5 aZ (bd.Buf:List UInt8)]++own) ([af.box bP [iV bP (((⟨true,bd.Buf++sx.data.toList⟩:pq)).Used),z] 124,af.row 5 z (((⟨true,bd.Buf++sx.data.toList⟩:pq)).Buf:List UInt8)]++[af.held w own]) [] w':=by
  obtain ⟨u_,l_⟩:=bd
  cases u_ with
  | true=>exact mZ bP aZ (⟨l_⟩:lv) sx w own H hl
  | false=>exact mX bP aZ (⟨l_⟩:lv) sx w own H hl
theorem ve (bZ:Value)(l:List Change)(w:World)(pX:Sl w bZ l)(hl:l.length≤1000)(hF:∀c∈l,dH c=0):Calls Try.prog 58 #[bZ] w fun e w'=>e = .returned (.string (az l))∧Ext w w':=by
  have zm:=pX.j9
  refine R.enter (n:=36) (vs:=[bZ]) [] [(0,bZ)] Try.func58 rfl rfl rfl rfl ?_
  refine R.iY pX ?_
  refine R.reg rfl<|R.u 1 rfl<|R.nil ?_
  refine R.reg rfl<|?_
  refine R.s rfl (s.alloc (cs:=[.pointer none,.slice none 0 0]) rO rfl rfl) fun b1=>?_
  refine R.nil ?_
  refine R.reg rfl<|R.u 1 rfl<|R.q (q.len' (fun _=>Wd.bV 0 rfl) rfl Try.underlying46) rfl<|R.u 1 rfl<|R.nil ?_
  refine R.row0 (α:=UInt8) 5 ?_
  refine R.loop (fun g_:Nat×Bool×Value×(List UInt8)=>[(3,.pointer (some ⟨b1,0,none⟩)),(6,bZ),(7,.int .i64 (l.length:Int)),(8,.int .i64 (g_.1:Int))]) (fun g_:Nat×Bool×Value×(List UInt8)=>[af.row 5 g_.2.2.1 (g_.2.2.2:List UInt8),af.box b1 [iV b1 g_.2.1,g_.2.2.1] 124]) (fun g_:Nat×Bool×Value×(List UInt8)=>[af.ls bZ (l:List Change)]) (fun g_:Nat×Bool×Value×(List UInt8)=>g_.1≤l.length∧g_.2.2.2=(az (l.take g_.1)).data.toList) (fun g_:Nat×Bool×Value×(List UInt8)=>l.length-g_.1) (0,false,(.slice none 0 0),[]) rfl (by exact ⟨by omega,rfl⟩) ⟨rfl,rfl,rfl,rfl,trivial⟩ (fun _=>Wd.pick [0,1] [0] rfl rfl rfl) ?_
  rintro ⟨k,u,qb,bb⟩ ⟨hk,HB⟩
  dsimp only at *
  have hbl:bb.length≤35*k:=by have:=lA (l:=l.take k) (fun c hc=>hF c (List.mem_of_mem_take hc));rw [List.length_take] at this;rw [HB,Array.length_toList];show (az (l.take k)).size≤_;omega
  refine R.reg rfl<|?_
  by_cases h1:k<l.length
  ·
    refine R.q (q.lss rfl rfl (decide_eq_true (by omega))) rfl<|R.nil ?_
    refine R.aF rfl rfl ?_
    refine R.reg rfl<|?_
    obtain ⟨x1,hx1⟩:∃z,l[k]? = some z:=⟨_,List.getElem?_eq_getElem (by omega)⟩
    obtain ⟨xe,Ay,Bf,Bg⟩:=dB (hF x1 (List.mem_of_getElem? hx1))
    refine R.q (q.idx (i:=k) (fun _=>Wd.bV 0 rfl) rfl rfl aU rfl hx1) rfl<|R.q (q.iX (ds:=[.string x1.Key,.string x1.Val,.bool x1.Gone]) (fun _=>Wd.bV 0 rfl) hx1 rfl aY rfl) rfl<|?_
    refine R.s rfl (s.alloc (cs:=[.string (⟨#[]⟩),.string (⟨#[]⟩),.bool false]) bT rfl rfl) fun b2=>?_
    refine R.s rfl (s.st (us:=[.string x1.Key,.string x1.Val,.bool x1.Gone]) (cs':=[.string x1.Key,.string x1.Val,.bool x1.Gone]) 0 _ rfl rfl rfl rfl (.inl aY) rfl rfl rfl rfl) fun _=>?_
    refine R.nil ?_
    refine R.reg rfl<|R.q (q.bz (off':=0) rfl bm rfl) rfl<|R.q (q.ld 0 rfl rfl bu rfl) rfl<|R.q (q.eW rfl Try.underlying9) rfl<|R.q (q.iD (r:=((x1.Key.size:Nat):Int)) rfl (by rw [Try.underlying3];rfl) Try.underlying5 (lO (by omega))) rfl<|R.q (q.bz (off':=1) rfl cY rfl) rfl<|R.q (q.ld 0 rfl rfl bu rfl) rfl<|R.q (q.eW rfl Try.underlying9) rfl<|R.q (q.iD (r:=((x1.Val.size:Nat):Int)) rfl (by rw [Try.underlying3];rfl) Try.underlying5 (lO (by omega))) rfl<|R.q (q.bz (off':=1) rfl cY rfl) rfl<|R.q (q.ld 0 rfl rfl bu rfl) rfl<|R.q (q.eW rfl Try.underlying9) rfl<|R.q (q.shr (r:=(((x1.Val.size / 256):Nat):Int)) rfl rfl (by decide) (wi (by decide))) rfl<|R.q (q.iD (r:=(((x1.Val.size / 256):Nat):Int)) rfl (by rw [Try.underlying3];rfl) Try.underlying5 (lO (by omega))) rfl<|?_
    refine R.s rfl (s.bs (l:=([(UInt8.ofNat x1.Key.size),(UInt8.ofNat x1.Val.size),(UInt8.ofNat (x1.Val.size / 256))]:List UInt8)) aJ ck rfl rfl rfl rfl rfl (bq (bU (by omega)) (bq (bU (by omega)) (bq (bU (by omega)) cT))) rfl) fun b3=>?_
    refine R.q (q.e9 (fun _=>Wd.row 0 rfl) rfl aJ Try.underlying5 Try.underlying9) rfl<|R.q (q.bz (off':=0) rfl bm rfl) rfl<|R.q (q.ld 1 rfl rfl bu rfl) rfl<|R.q (q.cat rfl rfl (by first|omega|(simp only [ByteArray.size_append,aC,au,List.length_cons,List.length_nil];omega))) rfl<|R.q (q.bz (off':=1) rfl cY rfl) rfl<|R.q (q.ld 1 rfl rfl bu rfl) rfl<|R.q (q.cat rfl rfl (by first|omega|(simp only [ByteArray.size_append,aC,au,List.length_cons,List.length_nil];omega))) rfl<|?_
    refine R.s (B':=(fun bg:Value=>[af.box b1 [iV b1 (((⟨true,bb++(((⟨([(UInt8.ofNat x1.Key.size),(UInt8.ofNat x1.Val.size),(UInt8.ofNat (x1.Val.size / 256))]).toArray⟩:ByteArray)++x1.Key)++x1.Val).data.toList⟩:pq)).Used),bg] 124,af.row 5 bg (((⟨true,bb++(((⟨([(UInt8.ofNat x1.Key.size),(UInt8.ofNat x1.Val.size),(UInt8.ofNat (x1.Val.size / 256))]).toArray⟩:ByteArray)++x1.Key)++x1.Val).data.toList⟩:pq)).Buf:List UInt8),af.row 5 (.slice (some ⟨b3,0,none⟩) 3 3) ([(UInt8.ofNat x1.Key.size),(UInt8.ofNat x1.Val.size),(UInt8.ofNat (x1.Val.size / 256))]:List UInt8),af.box b2 [.string x1.Key,.string x1.Val,.bool x1.Gone] 51])) (F':=(fun bg:Value=>[af.ls bZ (l:List Change)])) rfl (s.bM (B0:=[af.box b1 [iV b1 u,qb] 124,af.row 5 qb (bb:List UInt8)]) (Br:=[af.row 5 (.slice (some ⟨b3,0,none⟩) 3 3) ([(UInt8.ofNat x1.Key.size),(UInt8.ofNat x1.Val.size),(UInt8.ofNat (x1.Val.size / 256))]:List UInt8),af.box b2 [.string x1.Key,.string x1.Val,.bool x1.Gone] 51]) (F0:=[]) [3,2,0,1] [] (fun bg:Value => .tuple #[.int .i64 (((((⟨([(UInt8.ofNat x1.Key.size),(UInt8.ofNat x1.Val.size),(UInt8.ofNat (x1.Val.size / 256))]).toArray⟩:ByteArray)++x1.Key)++x1.Val).size):Int),.nilIface]) (fun bg:Value=>[af.box b1 [iV b1 (((⟨true,bb++(((⟨([(UInt8.ofNat x1.Key.size),(UInt8.ofNat x1.Val.size),(UInt8.ofNat (x1.Val.size / 256))]).toArray⟩:ByteArray)++x1.Key)++x1.Val).data.toList⟩:pq)).Used),bg] 124,af.row 5 bg (((⟨true,bb++(((⟨([(UInt8.ofNat x1.Key.size),(UInt8.ofNat x1.Val.size),(UInt8.ofNat (x1.Val.size / 256))]).toArray⟩:ByteArray)++x1.Key)++x1.Val).data.toList⟩:pq)).Buf:List UInt8)]) (fun bg:Value=>[]) rfl rfl rfl yg rfl rfl (fun w own hw H=>oD b1 qb ((⟨u,bb⟩:pq)) ((((⟨([(UInt8.ofNat x1.Key.size),(UInt8.ofNat x1.Val.size),(UInt8.ofNat (x1.Val.size / 256))]).toArray⟩:ByteArray)++x1.Key)++x1.Val)) w own H (by first|omega|assumption|(simp only [ByteArray.size_append,aC,List.length_cons,List.length_nil];omega))) rfl) fun z1=>?_
    refine R.nil ?_
    refine R.reg rfl<|R.q (q.add (r:=((k+1:Nat):Int)) rfl rfl (wr (by omega))) rfl<|R.u 1 rfl<|R.nil ?_
    refine R.back (k+1,true,z1,(bb++(((⟨([(UInt8.ofNat x1.Key.size),(UInt8.ofNat x1.Val.size),(UInt8.ofNat (x1.Val.size / 256))]).toArray⟩:ByteArray)++x1.Key)++x1.Val).data.toList)) rfl (by (exact ⟨by omega,by rw [rZ hx1,HB];simp [dW]⟩)) (by dsimp only;omega) ⟨rfl,rfl,rfl,rfl,trivial⟩ (fun _=>Wd.ay [1,0] [0] rfl rfl rfl)
  ·
    refine R.q (q.lss rfl rfl (decide_eq_false (by omega))) rfl<|R.nil ?_
    refine R.aH rfl rfl ?_
    refine R.reg rfl<|?_
    refine R.s rfl (s.zq (i:=1) (j:=0) (u:=u) (l:=bb) yh rfl rfl (by decide) rfl rfl (fun W h hW=>Try.Builder_String_any _ _ _ W h hW) rfl) fun _=>?_
    refine R.u 1 rfl<|R.nil ?_
    exact R.rv rfl Try.results58 rfl (rS (by (rw [HB,List.take_of_length_le (by omega)])))
end Go.Proofs.Ytpipachmngdegaa
end
