import Derived.Test.YtpipachmngdegaaStoreSaysProofG27
import Derived.Test.YtpipachmngdegaaStoreSaysProofG28
import Derived.Test.YtpipachmngdegaaStoreSaysProofG29
import Derived.Test.YtpipachmngdegaaStoreSaysProofG30
section
/-
  The walks of chapter 10: rows on a disk, their bytes. The program's.
-/
namespace Go.Proofs.Ytpipachmngdegaa
open Go Go.RowKit
set_option linter.unusedVariables false
set_option linter.unusedSimpArgs false
set_option maxRecDepth 100000
set_option hygiene false
local macro:max "§0" : term => `((by unfold headB; (first | rw [byteAt_of hy1] | rw [byteAt_of hy2] | rw [byteAt_of hy3] | rw [byteAt_of hy4] | rw [byteAt_of hy5] | rw [byteAt_of hy6] | rw [byteAt_of hy7] | rw [byteAt_of hy8]); omega))
local macro:max "§1" : term => `([.int .i64 (unN (sx.extract 1 5) : Int), .int .i64 (unN (sx.extract 5 9) : Int), .int .i64 (unN (sx.extract 9 13) : Int), .int .i64 (unN (sx.extract 13 17) : Int)])
local macro:max "§2" : term => `((s.st (us := [.int .i64 0, .int .i64 0, .int .i64 0, .int .i64 0]) (cs' := [.int .i64 0, .int .i64 0, .int .i64 0, .int .i64 0]) 1 _ rfl rfl rfl rfl (.inl tAgg_98) rfl rfl rfl rfl))
local macro:max "§3" : term => `((by first | exact (blank_no HB (by assumption)) | exact (blank_end HB (by omega))))
local macro:max "§4" : term => `((q.build (cs := [.int .i64 0, .int .i64 0, .int .i64 0, .int .i64 0]) tB_98 rfl rfl))
local macro:max "§5" : term => `((⟨(tt.extract 3 (3 + y1.toNat)), (tt.extract (3 + y1.toNat) (((3 + y1.toNat) + y2.toNat) + (256 * y3.toNat))), false⟩ : Change))
local macro:max "§6" : term => `((fun _ => (fun _ => Wd.pik [1, 2] [] rfl rfl rfl)))
local macro:max "§7" : term => `([.string (tt.extract 3 (3 + y1.toNat)), .string (tt.extract (3 + y1.toNat) (((3 + y1.toNat) + y2.toNat) + (256 * y3.toNat))), .bool false])
local macro:max "§8" : term => `(((⟨([(UInt8.ofNat x1.Key.size), (UInt8.ofNat x1.Val.size), (UInt8.ofNat (x1.Val.size / 256))]).toArray⟩ : ByteArray) ++ x1.Key))
local macro:max "§9" : term => `((by assumption))
local macro:max "§10" : term => `((fun _ => Wd.pik [0, 1] [] rfl rfl rfl))
local macro:max "§11" : term => `((by first | omega | (rw [ByteArray.size_extract]; omega)))
local macro:max "§12" : term => `((q.cat rfl rfl (by first | omega | (simp only [ByteArray.size_append, lit_size, fourB_size, List.length_cons, List.length_nil]; omega))))
local macro:max "§13" : term => `((⟨1, 0, 0, 1⟩ : Hed))
local macro:max "§14" : term => `([Res.box b_dk [q_dkKept, q_dkNow, q_dkWait, .int .i64 dk.Fuse, .bool dk.Down] 81, Res.row 9 q_dkKept (dk.Kept : List ByteArray), Res.row 9 q_dkNow (dk.Now : List ByteArray), Res.row 83 q_dkWait (dk.Wait : List Turn)])
local macro:max "§15" : term => `([Res.box b_bd [.pointer (some ⟨b_bd, 0, none⟩), q_bdBuf] 124, Res.row 5 q_bdBuf (bd.Buf : List UInt8)])
local macro:max "§16" : term => `((by kernel_rfl))
local macro:max "§17" : term => `((⟨(unN (sx.extract 1 5) : Int), (unN (sx.extract 5 9) : Int), (unN (sx.extract 9 13) : Int), (unN (sx.extract 13 17) : Int)⟩ : Hed))
local macro:max "§18" : term => `([Res.box b_bd [.pointer none, q_bdBuf] 124, Res.row 5 q_bdBuf (bd.Buf : List UInt8)])
local macro:max "§19" : term => `((s.alloc (cs := [.int .i64 0, .int .i64 0, .int .i64 0, .int .i64 0]) tZero_98 rfl rfl))
local macro:max "§20" : term => `((q.ld 0 rfl rfl tOne_3 rfl))
local macro:max "§21" : term => `((q.gtr rfl rfl (decide_eq_false (by omega))))
local macro:max "§22" : term => `((q.gtr rfl rfl (decide_eq_true (by omega))))
local macro:max "§23" : term => `((⟨0, 0, 0, 0⟩ : Hed))
local macro:max "§24" : term => `((q.eqlE1 rfl rfl Try.underlying28 (by omega)))
local macro:max "§25" : term => `((q.lss rfl rfl (decide_eq_false (by omega))))
local macro:max "§26" : term => `((s.c (q.call eg_63 rfl rfl (fun w hw => (unfour_any ((sx.extract 13 17)) w  §11))) rfl))
local macro:max "§27" : term => `((fun g_ : Value × Value × Value => []))
local macro:max "§28" : term => `((s.st (us := §1) (cs' := §1) 0 _ rfl rfl rfl rfl (.inl tAgg_98) rfl rfl rfl rfl))
local macro:max "§29" : term => `((s.st (us := §1) (cs' := §1) 1 _ rfl rfl rfl rfl (.inl tAgg_98) rfl rfl rfl rfl))
local macro:max "§30" : term => `((q.lss rfl rfl (decide_eq_true (by omega))))
local macro:max "§31" : term => `((q.cvi (r := ((y1.toNat : Nat) : Int)) rfl (by rw [Try.underlying5]; rfl) Try.underlying3 (wr (by omega))))
local macro:max "§32" : term => `((q.cvi (r := ((y2.toNat : Nat) : Int)) rfl (by rw [Try.underlying5]; rfl) Try.underlying3 (wr (by omega))))
local macro:max "§33" : term => `((q.cvi (r := ((y3.toNat : Nat) : Int)) rfl (by rw [Try.underlying5]; rfl) Try.underlying3 (wr (by omega))))
local macro:max "§34" : term => `([Res.held w own])
local macro:max "§35" : term => `((s.stV (us := [v1]) (cs' := [.pointer (some ⟨b_bd, 0, none⟩), v1]) 0 _ rfl rfl rfl (fun w hw => Sl.cells1 ((fun _ => Wd.row 1 rfl) w hw)) (.inr ⟨tOne_109, rfl⟩) (fun w hw => (one_cons (Sl.one ((fun _ => Wd.row 1 rfl) w hw)) one_nil)) rfl rfl rfl))
local macro:max "§36" : term => `((s.c (q.call eg_63 rfl rfl (fun w hw => (unfour_any ((sx.extract 9 13)) w  §11))) rfl))
local macro:max "§37" : term => `((by rw [par_n hy1 hy2 hy3]; omega))

theorem sfour_any (n : Int) (w : World) (hn : 0 ≤ n ∧ n ≤ 9000000000000000000) : Calls Try.prog 69 #[.int .i64 n] w fun e w' => e = .returned (.string (fourB n)) ∧ Ext w w' := by
  refine R.enter (n := 16) (vs := [.int .i64 n]) [] [(0, .int .i64 n)] Try.func69 rfl rfl rfl rfl ?_
  refine R.reg rfl <| R.u 1 rfl <| R.nil ?_
  refine R.reg rfl <| R.u 1 rfl <| R.q (q.cvi rfl (by rw [Try.underlying3]; rfl) Try.underlying5 wr_u8m) rfl <| R.u 1 rfl <| R.q (q.shr (r := n / 256) rfl rfl (by decide) (shrI (D := 256) (by decide) (by decide))) rfl <| R.q (q.cvi rfl (by rw [Try.underlying3]; rfl) Try.underlying5 wr_u8m) rfl <| R.u 1 rfl <| R.q (q.shr (r := n / 65536) rfl rfl (by decide) (shrI (D := 65536) (by decide) (by decide))) rfl <| R.q (q.cvi rfl (by rw [Try.underlying3]; rfl) Try.underlying5 wr_u8m) rfl <| R.u 1 rfl <| R.q (q.shr (r := n / 16777216) rfl rfl (by decide) (shrI (D := 16777216) (by decide) (by decide))) rfl <| R.q (q.cvi rfl (by rw [Try.underlying3]; rfl) Try.underlying5 wr_u8m) rfl <| ?_
  refine R.s rfl (s.bs (l := ([(u8 (n % 256)), (u8 ((n / 256) % 256)), (u8 ((n / 65536) % 256)), (u8 ((n / 16777216) % 256))] : List UInt8)) tSl_109 tZero_5 rfl rfl rfl rfl rfl (cl_cons (u8_cell (by omega)) (cl_cons (u8_cell (by omega)) (cl_cons (u8_cell (by omega)) (cl_cons (u8_cell (by omega)) cl_nil)))) rfl) fun b1 => ?_
  refine R.q (q.b2s (fun _ => Wd.row 0 rfl) rfl tSl_109 Try.underlying5 Try.underlying9) rfl <| R.u 1 rfl <| R.nil ?_
  exact R.rv rfl Try.results69 rfl (rS (by (rfl)))

theorem unfour_any (sx : ByteArray) (w : World) (hs : 4 ≤ sx.size) : Calls Try.prog 63 #[.string sx] w fun e w' => e = .returned (.int .i64 (unN sx : Int)) ∧ Ext w w' := by
  refine R.enter (n := 21) (vs := [.string sx]) [] [(0, .string sx)] Try.func63 rfl rfl rfl rfl ?_
  refine R.reg rfl <| R.u 1 rfl <| R.nil ?_
  obtain ⟨y1, hy1⟩ : ∃ z, sx.data[0]? = some z := ⟨_, Array.getElem?_eq_getElem (show 0 < sx.size from by omega)⟩
  have by1 := y1.toNat_lt
  obtain ⟨y2, hy2⟩ : ∃ z, sx.data[1]? = some z := ⟨_, Array.getElem?_eq_getElem (show 1 < sx.size from by omega)⟩
  have by2 := y2.toNat_lt
  obtain ⟨y3, hy3⟩ : ∃ z, sx.data[2]? = some z := ⟨_, Array.getElem?_eq_getElem (show 2 < sx.size from by omega)⟩
  have by3 := y3.toNat_lt
  obtain ⟨y4, hy4⟩ : ∃ z, sx.data[3]? = some z := ⟨_, Array.getElem?_eq_getElem (show 3 < sx.size from by omega)⟩
  have by4 := y4.toNat_lt
  refine R.regQ rfl mixed §16 <| Q.u 1 rfl <| Q.q (q.sIdx (i := 0) rfl rfl Try.underlying9 rfl hy1) rfl <| Q.q §31 rfl <| Q.u 1 rfl <| Q.q (q.sIdx (i := 1) rfl rfl Try.underlying9 rfl hy2) rfl <| Q.q §32 rfl <| Q.q (q.shl (r := (((y2.toNat * 256) : Nat) : Int)) rfl rfl (by decide) (shlN 256 (by decide) (by have := y2.toNat_lt; omega))) rfl <| Q.q (q.or (r := (((y1.toNat + (y2.toNat * 256)) : Nat) : Int)) rfl rfl (orN 8 256 rfl (by have := y1.toNat_lt; have := y2.toNat_lt; omega) (by have := y1.toNat_lt; have := y2.toNat_lt; omega))) rfl <| Q.u 1 rfl <| Q.q (q.sIdx (i := 2) rfl rfl Try.underlying9 rfl hy3) rfl <| Q.q §33 rfl <| Q.q (q.shl (r := (((y3.toNat * 65536) : Nat) : Int)) rfl rfl (by decide) (shlN 65536 (by decide) (by have := y3.toNat_lt; omega))) rfl <| Q.q (q.or (r := ((((y1.toNat + (y2.toNat * 256)) + (y3.toNat * 65536)) : Nat) : Int)) rfl rfl (orN 16 65536 rfl (by have := y1.toNat_lt; have := y2.toNat_lt; have := y3.toNat_lt; omega) (by have := y1.toNat_lt; have := y2.toNat_lt; have := y3.toNat_lt; omega))) rfl <| Q.u 1 rfl <| Q.q (q.sIdx (i := 3) rfl rfl Try.underlying9 rfl hy4) rfl <| Q.q (q.cvi (r := ((y4.toNat : Nat) : Int)) rfl (by rw [Try.underlying5]; rfl) Try.underlying3 (wr (by omega))) rfl <| Q.q (q.shl (r := (((y4.toNat * 16777216) : Nat) : Int)) rfl rfl (by decide) (shlN 16777216 (by decide) (by have := y4.toNat_lt; omega))) rfl <| Q.q (q.or (r := (((((y1.toNat + (y2.toNat * 256)) + (y3.toNat * 65536)) + (y4.toNat * 16777216)) : Nat) : Int)) rfl rfl (orN 24 16777216 rfl (by have := y1.toNat_lt; have := y2.toNat_lt; have := y3.toNat_lt; have := y4.toNat_lt; omega) (by have := y1.toNat_lt; have := y2.toNat_lt; have := y3.toNat_lt; have := y4.toNat_lt; omega))) rfl <| Q.u 1 rfl <| Q.nil ?_
  exact R.rv rfl Try.results63 rfl (rI (by (unfold unN; rw [byteAt_of hy1, byteAt_of hy2, byteAt_of hy3, byteAt_of hy4])))

theorem htext_any (h : Hed) (w : World) (hn : 0 ≤ h.Epoch ∧ h.Epoch ≤ 9000000000000000000 ∧ 0 ≤ h.Side ∧ h.Side ≤ 9000000000000000000 ∧ 0 ≤ h.Size ∧ h.Size ≤ 9000000000000000000 ∧ 0 ≤ h.First ∧ h.First ≤ 9000000000000000000) : Calls Try.prog 57 #[.agg #[.int .i64 h.Epoch, .int .i64 h.Side, .int .i64 h.Size, .int .i64 h.First]] w fun e w' => e = .returned (.string (headT h)) ∧ Ext w w' := by
  refine R.enter (n := 19) (vs := [.agg #[.int .i64 h.Epoch, .int .i64 h.Side, .int .i64 h.Size, .int .i64 h.First]]) [] [(0, .agg #[.int .i64 h.Epoch, .int .i64 h.Side, .int .i64 h.Size, .int .i64 h.First])] Try.func57 rfl rfl rfl rfl ?_
  refine R.reg rfl <| ?_
  refine R.s rfl (s.box (cs := [.int .i64 h.Epoch, .int .i64 h.Side, .int .i64 h.Size, .int .i64 h.First]) rfl rfl rfl) fun b1 => ?_
  refine R.u 1 rfl <| R.nil ?_
  refine R.regQ rfl mixed §16 <| Q.q (q.fld (off' := 0) rfl tFld_98_0 rfl) rfl <| Q.q §20 rfl <| Q.c (q.call eg_69 rfl rfl (fun w hw => (sfour_any (h.Epoch) w  (by first | omega | assumption)))) rfl <| Q.q §12 rfl <| Q.q (q.fld (off' := 1) rfl tFld_98_1 rfl) rfl <| Q.q §20 rfl <| Q.c (q.call eg_69 rfl rfl (fun w hw => (sfour_any (h.Side) w  (by first | omega | assumption)))) rfl <| Q.q §12 rfl <| Q.q (q.fld (off' := 2) rfl tFld_98_2 rfl) rfl <| Q.q §20 rfl <| Q.c (q.call eg_69 rfl rfl (fun w hw => (sfour_any (h.Size) w  (by first | omega | assumption)))) rfl <| Q.q §12 rfl <| Q.q (q.fld (off' := 3) rfl tFld_98_3 rfl) rfl <| Q.q §20 rfl <| Q.c (q.call eg_69 rfl rfl (fun w hw => (sfour_any (h.First) w  (by first | omega | assumption)))) rfl <| Q.q §12 rfl <| Q.u 1 rfl <| Q.nil ?_
  exact R.rv rfl Try.results57 rfl (rS (by (rfl)))

theorem headOf_any (sx : ByteArray) (w : World) (own : List Nat) (H : Wd w (blks [] ++ own) ([] ++ §34) [] w) (hs : sx.size = 48) : Calls Try.prog 54 #[.string sx] w fun e w' => ∃ z : Unit, e = .returned (.agg #[.int .i64 (((headO sx)).Epoch), .int .i64 (((headO sx)).Side), .int .i64 (((headO sx)).Size), .int .i64 (((headO sx)).First)]) ∧ Wd w (blks [] ++ own) ([] ++ §34) [] w' := by
  refine R.enterN (n := 37) (vs := [.string sx]) (B := §34) [(0, .string sx)] Try.func54 rfl rfl rfl rfl H ?_
  refine R.reg rfl <| ?_
  refine R.s rfl §19 fun b1 => ?_
  refine R.nil ?_
  refine R.regD (fuel := 15) (Wd w (blks [] ++ own) [Res.box b1 [.int .i64 0, .int .i64 0, .int .i64 0, .int .i64 0] 98, Res.held w own] []) rfl mixed rfl ?_
  refine D.q (i := 0) rfl §16 §10 rfl (q.mv rfl) rfl <| D.q (i := 1) rfl §16 §10 rfl (q.sSl (i := 1) (j := 5) rfl rfl rfl Try.underlying9 rfl rfl (by omega) (by omega)) rfl <| D.q (i := 3) rfl §16 §10 rfl (q.mv rfl) rfl <| D.q (i := 4) rfl §16 §10 rfl (q.sSl (i := 5) (j := 9) rfl rfl rfl Try.underlying9 rfl rfl (by omega) (by omega)) rfl <| D.q (i := 6) rfl §16 §10 rfl (q.mv rfl) rfl <| D.q (i := 7) rfl §16 §10 rfl (q.sSl (i := 9) (j := 13) rfl rfl rfl Try.underlying9 rfl rfl (by omega) (by omega)) rfl <| D.q (i := 9) rfl §16 §10 rfl (q.mv rfl) rfl <| D.q (i := 10) rfl §16 §10 rfl (q.sSl (i := 13) (j := 17) rfl rfl rfl Try.underlying9 rfl rfl (by omega) (by omega)) rfl <| ?_
  refine D.two (i := 2) (j := 13) §16 rfl rfl ?_ ?_
  · refine Do.s (s.c (q.call eg_63 rfl rfl (fun w hw => (unfour_any ((sx.extract 1 5)) w  §11))) rfl) (fun _ => §10) rfl fun _ => ?_
    refine D.two (i := 5) (j := 13) §16 rfl rfl ?_ ?_
    · refine Do.s (s.c (q.call eg_63 rfl rfl (fun w hw => (unfour_any ((sx.extract 5 9)) w  §11))) rfl) (fun _ => §10) rfl fun _ => ?_
      refine D.two (i := 8) (j := 13) §16 rfl rfl ?_ ?_
      · refine Do.s §36 (fun _ => §10) rfl fun _ => ?_
        refine D.two (i := 11) (j := 13) §16 rfl rfl ?_ ?_
        · refine Do.s §26 (fun _ => §10) rfl fun _ => ?_
          refine D.q (i := 12) rfl §16 §10 rfl (q.build (cs := §1) tB_98 rfl rfl) rfl <| ?_
          refine D.one (i := 13) §16 rfl ?_
          refine Do.s §19 §6 rfl fun b2 => ?_
          refine D.one (i := 14) §16 rfl ?_
          refine Do.s §28 §6 rfl fun _ => ?_
          refine D.done §16 <| ?_
          refine R.reg rfl <| R.u 1 rfl <| ?_
          obtain ⟨y1, hy1⟩ : ∃ z, sx.data[0]? = some z := ⟨_, Array.getElem?_eq_getElem (show 0 < sx.size from by omega)⟩
          have by1 := y1.toNat_lt
          refine R.q (q.sIdx (i := 0) rfl rfl Try.underlying9 rfl hy1) rfl <| ?_
          by_cases h1 : y1.toNat = 72
          · refine R.q (q.neq rfl rfl (bne_eq_false_iff_eq.2 (by omega))) rfl <| R.u 1 rfl <| R.qg rfl (q.fld (off' := 1) rfl tFld_98_1 rfl) rfl <| R.qg rfl §20 rfl <| ?_
            by_cases h2 : 1 < unN (sx.extract 5 9)
            · refine R.qg rfl §22 rfl <| R.u 11 rfl <| R.nil ?_
              refine R.condT rfl rfl ?_
              refine R.reg rfl <| R.q §4 rfl <| ?_
              refine R.s rfl §2 fun _ => ?_
              refine R.nil ?_
              have hz : headO sx = §23 := by (first | (rw [headO_ok §0]; first | done | rfl) | (rw [headO_bad §0]; first | done | rfl))
              rw [hz]
              exact R.w1 () [2] [] rfl Try.results54 (RV.cell 1 rfl rfl tAgg_98) rfl rfl rfl rfl
            · refine R.qg rfl §21 rfl <| R.u 2 rfl <| R.qg rfl (q.fld (off' := 2) rfl tFld_98_2 rfl) rfl <| R.qg rfl §20 rfl <| ?_
              by_cases h3 : 2400 < unN (sx.extract 9 13)
              · refine R.qg rfl §22 rfl <| R.u 6 rfl <| R.nil ?_
                refine R.condT rfl rfl ?_
                refine R.reg rfl <| R.q §4 rfl <| ?_
                refine R.s rfl §2 fun _ => ?_
                refine R.nil ?_
                have hz : headO sx = §23 := by (first | (rw [headO_ok §0]; first | done | rfl) | (rw [headO_bad §0]; first | done | rfl))
                rw [hz]
                exact R.w1 () [2] [] rfl Try.results54 (RV.cell 1 rfl rfl tAgg_98) rfl rfl rfl rfl
              · refine R.qg rfl §21 rfl <| R.u 2 rfl <| R.qg rfl (q.fld (off' := 3) rfl tFld_98_3 rfl) rfl <| R.qg rfl §20 rfl <| ?_
                by_cases h4 : unN (sx.extract 13 17) < 1
                · refine R.qg rfl §30 rfl <| R.u 1 rfl <| R.nil ?_
                  refine R.condT rfl rfl ?_
                  refine R.reg rfl <| R.q §4 rfl <| ?_
                  refine R.s rfl §2 fun _ => ?_
                  refine R.nil ?_
                  have hz : headO sx = §23 := by (first | (rw [headO_ok §0]; first | done | rfl) | (rw [headO_bad §0]; first | done | rfl))
                  rw [hz]
                  exact R.w1 () [2] [] rfl Try.results54 (RV.cell 1 rfl rfl tAgg_98) rfl rfl rfl rfl
                · refine R.qg rfl §25 rfl <| R.u 1 rfl <| R.nil ?_
                  refine R.condF rfl rfl ?_
                  refine R.reg rfl <| R.q (q.ldS 0 rfl rfl tAgg_98) rfl <| ?_
                  refine R.s rfl §29 fun _ => ?_
                  refine R.nil ?_
                  have hz : headO sx = §17 := by (first | (rw [headO_ok §0]; first | done | rfl) | (rw [headO_bad §0]; first | done | rfl))
                  rw [hz]
                  exact R.w1 () [2] [] rfl Try.results54 (RV.cell 1 rfl rfl tAgg_98) rfl rfl rfl rfl
          · refine R.q (q.neq rfl rfl (bne_iff_ne.2 (by omega))) rfl <| R.u 15 rfl <| R.nil ?_
            refine R.condT rfl rfl ?_
            refine R.reg rfl <| R.q §4 rfl <| ?_
            refine R.s rfl §2 fun _ => ?_
            refine R.nil ?_
            have hz : headO sx = §23 := by (first | (rw [headO_ok §0]; first | done | rfl) | (rw [headO_bad §0]; first | done | rfl))
            rw [hz]
            exact R.w1 () [2] [] rfl Try.results54 (RV.cell 1 rfl rfl tAgg_98) rfl rfl rfl rfl
        · refine Do.s §19 §6 rfl fun b3 => ?_
          refine D.one (i := 11) §16 rfl ?_
          refine Do.s §26 §6 rfl fun _ => ?_
          refine D.q (i := 12) rfl §16 (fun _ => Wd.pik [1, 2] [] rfl rfl rfl) rfl (q.build (cs := §1) tB_98 rfl rfl) rfl <| ?_
          refine D.one (i := 14) §16 rfl ?_
          refine Do.s §28 §6 rfl fun _ => ?_
          refine D.done §16 <| ?_
          refine R.reg rfl <| R.u 1 rfl <| ?_
          obtain ⟨y2, hy2⟩ : ∃ z, sx.data[0]? = some z := ⟨_, Array.getElem?_eq_getElem (show 0 < sx.size from by omega)⟩
          have by2 := y2.toNat_lt
          refine R.q (q.sIdx (i := 0) rfl rfl Try.underlying9 rfl hy2) rfl <| ?_
          by_cases h5 : y2.toNat = 72
          · refine R.q (q.neq rfl rfl (bne_eq_false_iff_eq.2 (by omega))) rfl <| R.u 1 rfl <| R.qg rfl (q.fld (off' := 1) rfl tFld_98_1 rfl) rfl <| R.qg rfl §20 rfl <| ?_
            by_cases h6 : 1 < unN (sx.extract 5 9)
            · refine R.qg rfl §22 rfl <| R.u 11 rfl <| R.nil ?_
              refine R.condT rfl rfl ?_
              refine R.reg rfl <| R.q §4 rfl <| ?_
              refine R.s rfl §2 fun _ => ?_
              refine R.nil ?_
              have hz : headO sx = §23 := by (first | (rw [headO_ok §0]; first | done | rfl) | (rw [headO_bad §0]; first | done | rfl))
              rw [hz]
              exact R.w1 () [2] [] rfl Try.results54 (RV.cell 1 rfl rfl tAgg_98) rfl rfl rfl rfl
            · refine R.qg rfl §21 rfl <| R.u 2 rfl <| R.qg rfl (q.fld (off' := 2) rfl tFld_98_2 rfl) rfl <| R.qg rfl §20 rfl <| ?_
              by_cases h7 : 2400 < unN (sx.extract 9 13)
              · refine R.qg rfl §22 rfl <| R.u 6 rfl <| R.nil ?_
                refine R.condT rfl rfl ?_
                refine R.reg rfl <| R.q §4 rfl <| ?_
                refine R.s rfl §2 fun _ => ?_
                refine R.nil ?_
                have hz : headO sx = §23 := by (first | (rw [headO_ok §0]; first | done | rfl) | (rw [headO_bad §0]; first | done | rfl))
                rw [hz]
                exact R.w1 () [2] [] rfl Try.results54 (RV.cell 1 rfl rfl tAgg_98) rfl rfl rfl rfl
              · refine R.qg rfl §21 rfl <| R.u 2 rfl <| R.qg rfl (q.fld (off' := 3) rfl tFld_98_3 rfl) rfl <| R.qg rfl §20 rfl <| ?_
                by_cases h8 : unN (sx.extract 13 17) < 1
                · refine R.qg rfl §30 rfl <| R.u 1 rfl <| R.nil ?_
                  refine R.condT rfl rfl ?_
                  refine R.reg rfl <| R.q §4 rfl <| ?_
                  refine R.s rfl §2 fun _ => ?_
                  refine R.nil ?_
                  have hz : headO sx = §23 := by (first | (rw [headO_ok §0]; first | done | rfl) | (rw [headO_bad §0]; first | done | rfl))
                  rw [hz]
                  exact R.w1 () [2] [] rfl Try.results54 (RV.cell 1 rfl rfl tAgg_98) rfl rfl rfl rfl
                · refine R.qg rfl §25 rfl <| R.u 1 rfl <| R.nil ?_
                  refine R.condF rfl rfl ?_
                  refine R.reg rfl <| R.q (q.ldS 0 rfl rfl tAgg_98) rfl <| ?_
                  refine R.s rfl §29 fun _ => ?_
                  refine R.nil ?_
                  have hz : headO sx = §17 := by (first | (rw [headO_ok §0]; first | done | rfl) | (rw [headO_bad §0]; first | done | rfl))
                  rw [hz]
                  exact R.w1 () [2] [] rfl Try.results54 (RV.cell 1 rfl rfl tAgg_98) rfl rfl rfl rfl
          · refine R.q (q.neq rfl rfl (bne_iff_ne.2 (by omega))) rfl <| R.u 15 rfl <| R.nil ?_
            refine R.condT rfl rfl ?_
            refine R.reg rfl <| R.q §4 rfl <| ?_
            refine R.s rfl §2 fun _ => ?_
            refine R.nil ?_
            have hz : headO sx = §23 := by (first | (rw [headO_ok §0]; first | done | rfl) | (rw [headO_bad §0]; first | done | rfl))
            rw [hz]
            exact R.w1 () [2] [] rfl Try.results54 (RV.cell 1 rfl rfl tAgg_98) rfl rfl rfl rfl
      · refine Do.s §19 §6 rfl fun b4 => ?_
        refine D.one (i := 8) §16 rfl ?_
        refine Do.s §36 §6 rfl fun _ => ?_
        refine D.one (i := 11) §16 rfl ?_
        refine Do.s §26 §6 rfl fun _ => ?_
        refine D.q (i := 12) rfl §16 (fun _ => Wd.pik [1, 2] [] rfl rfl rfl) rfl (q.build (cs := §1) tB_98 rfl rfl) rfl <| ?_
        refine D.one (i := 14) §16 rfl ?_
        refine Do.s §28 §6 rfl fun _ => ?_
        refine D.done §16 <| ?_
        refine R.reg rfl <| R.u 1 rfl <| ?_
        obtain ⟨y3, hy3⟩ : ∃ z, sx.data[0]? = some z := ⟨_, Array.getElem?_eq_getElem (show 0 < sx.size from by omega)⟩
        have by3 := y3.toNat_lt
        refine R.q (q.sIdx (i := 0) rfl rfl Try.underlying9 rfl hy3) rfl <| ?_
        by_cases h9 : y3.toNat = 72
        · refine R.q (q.neq rfl rfl (bne_eq_false_iff_eq.2 (by omega))) rfl <| R.u 1 rfl <| R.qg rfl (q.fld (off' := 1) rfl tFld_98_1 rfl) rfl <| R.qg rfl §20 rfl <| ?_
          by_cases h10 : 1 < unN (sx.extract 5 9)
          · refine R.qg rfl §22 rfl <| R.u 11 rfl <| R.nil ?_
            refine R.condT rfl rfl ?_
            refine R.reg rfl <| R.q §4 rfl <| ?_
            refine R.s rfl §2 fun _ => ?_
            refine R.nil ?_
            have hz : headO sx = §23 := by (first | (rw [headO_ok §0]; first | done | rfl) | (rw [headO_bad §0]; first | done | rfl))
            rw [hz]
            exact R.w1 () [2] [] rfl Try.results54 (RV.cell 1 rfl rfl tAgg_98) rfl rfl rfl rfl
          · refine R.qg rfl §21 rfl <| R.u 2 rfl <| R.qg rfl (q.fld (off' := 2) rfl tFld_98_2 rfl) rfl <| R.qg rfl §20 rfl <| ?_
            by_cases h11 : 2400 < unN (sx.extract 9 13)
            · refine R.qg rfl §22 rfl <| R.u 6 rfl <| R.nil ?_
              refine R.condT rfl rfl ?_
              refine R.reg rfl <| R.q §4 rfl <| ?_
              refine R.s rfl §2 fun _ => ?_
              refine R.nil ?_
              have hz : headO sx = §23 := by (first | (rw [headO_ok §0]; first | done | rfl) | (rw [headO_bad §0]; first | done | rfl))
              rw [hz]
              exact R.w1 () [2] [] rfl Try.results54 (RV.cell 1 rfl rfl tAgg_98) rfl rfl rfl rfl
            · refine R.qg rfl §21 rfl <| R.u 2 rfl <| R.qg rfl (q.fld (off' := 3) rfl tFld_98_3 rfl) rfl <| R.qg rfl §20 rfl <| ?_
              by_cases h12 : unN (sx.extract 13 17) < 1
              · refine R.qg rfl §30 rfl <| R.u 1 rfl <| R.nil ?_
                refine R.condT rfl rfl ?_
                refine R.reg rfl <| R.q §4 rfl <| ?_
                refine R.s rfl §2 fun _ => ?_
                refine R.nil ?_
                have hz : headO sx = §23 := by (first | (rw [headO_ok §0]; first | done | rfl) | (rw [headO_bad §0]; first | done | rfl))
                rw [hz]
                exact R.w1 () [2] [] rfl Try.results54 (RV.cell 1 rfl rfl tAgg_98) rfl rfl rfl rfl
              · refine R.qg rfl §25 rfl <| R.u 1 rfl <| R.nil ?_
                refine R.condF rfl rfl ?_
                refine R.reg rfl <| R.q (q.ldS 0 rfl rfl tAgg_98) rfl <| ?_
                refine R.s rfl §29 fun _ => ?_
                refine R.nil ?_
                have hz : headO sx = §17 := by (first | (rw [headO_ok §0]; first | done | rfl) | (rw [headO_bad §0]; first | done | rfl))
                rw [hz]
                exact R.w1 () [2] [] rfl Try.results54 (RV.cell 1 rfl rfl tAgg_98) rfl rfl rfl rfl
        · refine R.q (q.neq rfl rfl (bne_iff_ne.2 (by omega))) rfl <| R.u 15 rfl <| R.nil ?_
          refine R.condT rfl rfl ?_
          refine R.reg rfl <| R.q §4 rfl <| ?_
          refine R.s rfl §2 fun _ => ?_
          refine R.nil ?_
          have hz : headO sx = §23 := by (first | (rw [headO_ok §0]; first | done | rfl) | (rw [headO_bad §0]; first | done | rfl))
          rw [hz]
          exact R.w1 () [2] [] rfl Try.results54 (RV.cell 1 rfl rfl tAgg_98) rfl rfl rfl rfl
    · refine Do.s §19 §6 rfl fun b5 => ?_
      refine D.one (i := 5) §16 rfl ?_
      refine Do.s (s.c (q.call eg_63 rfl rfl (fun w hw => (unfour_any ((sx.extract 5 9)) w  §11))) rfl) §6 rfl fun _ => ?_
      refine D.one (i := 8) §16 rfl ?_
      refine Do.s §36 §6 rfl fun _ => ?_
      refine D.one (i := 11) §16 rfl ?_
      refine Do.s §26 §6 rfl fun _ => ?_
      refine D.q (i := 12) rfl §16 (fun _ => Wd.pik [1, 2] [] rfl rfl rfl) rfl (q.build (cs := §1) tB_98 rfl rfl) rfl <| ?_
      refine D.one (i := 14) §16 rfl ?_
      refine Do.s §28 §6 rfl fun _ => ?_
      refine D.done §16 <| ?_
      refine R.reg rfl <| R.u 1 rfl <| ?_
      obtain ⟨y4, hy4⟩ : ∃ z, sx.data[0]? = some z := ⟨_, Array.getElem?_eq_getElem (show 0 < sx.size from by omega)⟩
      have by4 := y4.toNat_lt
      refine R.q (q.sIdx (i := 0) rfl rfl Try.underlying9 rfl hy4) rfl <| ?_
      by_cases h13 : y4.toNat = 72
      · refine R.q (q.neq rfl rfl (bne_eq_false_iff_eq.2 (by omega))) rfl <| R.u 1 rfl <| R.qg rfl (q.fld (off' := 1) rfl tFld_98_1 rfl) rfl <| R.qg rfl §20 rfl <| ?_
        by_cases h14 : 1 < unN (sx.extract 5 9)
        · refine R.qg rfl §22 rfl <| R.u 11 rfl <| R.nil ?_
          refine R.condT rfl rfl ?_
          refine R.reg rfl <| R.q §4 rfl <| ?_
          refine R.s rfl §2 fun _ => ?_
          refine R.nil ?_
          have hz : headO sx = §23 := by (first | (rw [headO_ok §0]; first | done | rfl) | (rw [headO_bad §0]; first | done | rfl))
          rw [hz]
          exact R.w1 () [2] [] rfl Try.results54 (RV.cell 1 rfl rfl tAgg_98) rfl rfl rfl rfl
        · refine R.qg rfl §21 rfl <| R.u 2 rfl <| R.qg rfl (q.fld (off' := 2) rfl tFld_98_2 rfl) rfl <| R.qg rfl §20 rfl <| ?_
          by_cases h15 : 2400 < unN (sx.extract 9 13)
          · refine R.qg rfl §22 rfl <| R.u 6 rfl <| R.nil ?_
            refine R.condT rfl rfl ?_
            refine R.reg rfl <| R.q §4 rfl <| ?_
            refine R.s rfl §2 fun _ => ?_
            refine R.nil ?_
            have hz : headO sx = §23 := by (first | (rw [headO_ok §0]; first | done | rfl) | (rw [headO_bad §0]; first | done | rfl))
            rw [hz]
            exact R.w1 () [2] [] rfl Try.results54 (RV.cell 1 rfl rfl tAgg_98) rfl rfl rfl rfl
          · refine R.qg rfl §21 rfl <| R.u 2 rfl <| R.qg rfl (q.fld (off' := 3) rfl tFld_98_3 rfl) rfl <| R.qg rfl §20 rfl <| ?_
            by_cases h16 : unN (sx.extract 13 17) < 1
            · refine R.qg rfl §30 rfl <| R.u 1 rfl <| R.nil ?_
              refine R.condT rfl rfl ?_
              refine R.reg rfl <| R.q §4 rfl <| ?_
              refine R.s rfl §2 fun _ => ?_
              refine R.nil ?_
              have hz : headO sx = §23 := by (first | (rw [headO_ok §0]; first | done | rfl) | (rw [headO_bad §0]; first | done | rfl))
              rw [hz]
              exact R.w1 () [2] [] rfl Try.results54 (RV.cell 1 rfl rfl tAgg_98) rfl rfl rfl rfl
            · refine R.qg rfl §25 rfl <| R.u 1 rfl <| R.nil ?_
              refine R.condF rfl rfl ?_
              refine R.reg rfl <| R.q (q.ldS 0 rfl rfl tAgg_98) rfl <| ?_
              refine R.s rfl §29 fun _ => ?_
              refine R.nil ?_
              have hz : headO sx = §17 := by (first | (rw [headO_ok §0]; first | done | rfl) | (rw [headO_bad §0]; first | done | rfl))
              rw [hz]
              exact R.w1 () [2] [] rfl Try.results54 (RV.cell 1 rfl rfl tAgg_98) rfl rfl rfl rfl
      · refine R.q (q.neq rfl rfl (bne_iff_ne.2 (by omega))) rfl <| R.u 15 rfl <| R.nil ?_
        refine R.condT rfl rfl ?_
        refine R.reg rfl <| R.q §4 rfl <| ?_
        refine R.s rfl §2 fun _ => ?_
        refine R.nil ?_
        have hz : headO sx = §23 := by (first | (rw [headO_ok §0]; first | done | rfl) | (rw [headO_bad §0]; first | done | rfl))
        rw [hz]
        exact R.w1 () [2] [] rfl Try.results54 (RV.cell 1 rfl rfl tAgg_98) rfl rfl rfl rfl
  · refine Do.s §19 §6 rfl fun b6 => ?_
    refine D.one (i := 2) §16 rfl ?_
    refine Do.s (s.c (q.call eg_63 rfl rfl (fun w hw => (unfour_any ((sx.extract 1 5)) w  §11))) rfl) §6 rfl fun _ => ?_
    refine D.one (i := 5) §16 rfl ?_
    refine Do.s (s.c (q.call eg_63 rfl rfl (fun w hw => (unfour_any ((sx.extract 5 9)) w  §11))) rfl) §6 rfl fun _ => ?_
    refine D.one (i := 8) §16 rfl ?_
    refine Do.s §36 §6 rfl fun _ => ?_
    refine D.one (i := 11) §16 rfl ?_
    refine Do.s §26 §6 rfl fun _ => ?_
    refine D.q (i := 12) rfl §16 (fun _ => Wd.pik [1, 2] [] rfl rfl rfl) rfl (q.build (cs := §1) tB_98 rfl rfl) rfl <| ?_
    refine D.one (i := 14) §16 rfl ?_
    refine Do.s §28 §6 rfl fun _ => ?_
    refine D.done §16 <| ?_
    refine R.reg rfl <| R.u 1 rfl <| ?_
    obtain ⟨y5, hy5⟩ : ∃ z, sx.data[0]? = some z := ⟨_, Array.getElem?_eq_getElem (show 0 < sx.size from by omega)⟩
    have by5 := y5.toNat_lt
    refine R.q (q.sIdx (i := 0) rfl rfl Try.underlying9 rfl hy5) rfl <| ?_
    by_cases h17 : y5.toNat = 72
    · refine R.q (q.neq rfl rfl (bne_eq_false_iff_eq.2 (by omega))) rfl <| R.u 1 rfl <| R.qg rfl (q.fld (off' := 1) rfl tFld_98_1 rfl) rfl <| R.qg rfl §20 rfl <| ?_
      by_cases h18 : 1 < unN (sx.extract 5 9)
      · refine R.qg rfl §22 rfl <| R.u 11 rfl <| R.nil ?_
        refine R.condT rfl rfl ?_
        refine R.reg rfl <| R.q §4 rfl <| ?_
        refine R.s rfl §2 fun _ => ?_
        refine R.nil ?_
        have hz : headO sx = §23 := by (first | (rw [headO_ok §0]; first | done | rfl) | (rw [headO_bad §0]; first | done | rfl))
        rw [hz]
        exact R.w1 () [2] [] rfl Try.results54 (RV.cell 1 rfl rfl tAgg_98) rfl rfl rfl rfl
      · refine R.qg rfl §21 rfl <| R.u 2 rfl <| R.qg rfl (q.fld (off' := 2) rfl tFld_98_2 rfl) rfl <| R.qg rfl §20 rfl <| ?_
        by_cases h19 : 2400 < unN (sx.extract 9 13)
        · refine R.qg rfl §22 rfl <| R.u 6 rfl <| R.nil ?_
          refine R.condT rfl rfl ?_
          refine R.reg rfl <| R.q §4 rfl <| ?_
          refine R.s rfl §2 fun _ => ?_
          refine R.nil ?_
          have hz : headO sx = §23 := by (first | (rw [headO_ok §0]; first | done | rfl) | (rw [headO_bad §0]; first | done | rfl))
          rw [hz]
          exact R.w1 () [2] [] rfl Try.results54 (RV.cell 1 rfl rfl tAgg_98) rfl rfl rfl rfl
        · refine R.qg rfl §21 rfl <| R.u 2 rfl <| R.qg rfl (q.fld (off' := 3) rfl tFld_98_3 rfl) rfl <| R.qg rfl §20 rfl <| ?_
          by_cases h20 : unN (sx.extract 13 17) < 1
          · refine R.qg rfl §30 rfl <| R.u 1 rfl <| R.nil ?_
            refine R.condT rfl rfl ?_
            refine R.reg rfl <| R.q §4 rfl <| ?_
            refine R.s rfl §2 fun _ => ?_
            refine R.nil ?_
            have hz : headO sx = §23 := by (first | (rw [headO_ok §0]; first | done | rfl) | (rw [headO_bad §0]; first | done | rfl))
            rw [hz]
            exact R.w1 () [2] [] rfl Try.results54 (RV.cell 1 rfl rfl tAgg_98) rfl rfl rfl rfl
          · refine R.qg rfl §25 rfl <| R.u 1 rfl <| R.nil ?_
            refine R.condF rfl rfl ?_
            refine R.reg rfl <| R.q (q.ldS 0 rfl rfl tAgg_98) rfl <| ?_
            refine R.s rfl §29 fun _ => ?_
            refine R.nil ?_
            have hz : headO sx = §17 := by (first | (rw [headO_ok §0]; first | done | rfl) | (rw [headO_bad §0]; first | done | rfl))
            rw [hz]
            exact R.w1 () [2] [] rfl Try.results54 (RV.cell 1 rfl rfl tAgg_98) rfl rfl rfl rfl
    · refine R.q (q.neq rfl rfl (bne_iff_ne.2 (by omega))) rfl <| R.u 15 rfl <| R.nil ?_
      refine R.condT rfl rfl ?_
      refine R.reg rfl <| R.q §4 rfl <| ?_
      refine R.s rfl §2 fun _ => ?_
      refine R.nil ?_
      have hz : headO sx = §23 := by (first | (rw [headO_ok §0]; first | done | rfl) | (rw [headO_bad §0]; first | done | rfl))
      rw [hz]
      exact R.w1 () [2] [] rfl Try.results54 (RV.cell 1 rfl rfl tAgg_98) rfl rfl rfl rfl

structure StoC where
  Epoch : Int
  Side : Int
  Size : Int
  First : Int
  Rows : List Change
def Sto.c (st : Sto) : StoC := ⟨st.Epoch, st.Side, st.Size, st.First, st.Rows⟩
theorem par_n {t : ByteArray} {x y z : UInt8} (hx : t.data[0]? = some x) (hy : t.data[1]? = some y) (hz : t.data[2]? = some z) : parN t = 3 + x.toNat + y.toNat + 256 * z.toNat := by
  unfold parN; rw [byteAt_of hx, byteAt_of hy, byteAt_of hz]
theorem par_c {t : ByteArray} {x y z : UInt8} {c : Change} (hx : t.data[0]? = some x) (hy : t.data[1]? = some y) (hz : t.data[2]? = some z) (hc : c = ⟨t.extract 3 (3 + x.toNat), t.extract (3 + x.toNat) (3 + x.toNat + y.toNat + 256 * z.toNat), false⟩) : parC t = c := by
  rw [hc]; unfold parC; rw [par_n hx hy hz, byteAt_of hx]

theorem parse_any (sx : ByteArray) (w : World) (own : List Nat) (H : Wd w (blks [] ++ own) ([] ++ §34) [] w) (hs : sx.size ≤ 2400) : Calls Try.prog 55 #[.string sx] w fun e w' => ∃ z : Value, e = .returned (.tuple #[z, .bool (((parseB sx)).2)]) ∧ Wd w (blks [] ++ own) ([Res.row 51 z (((parseB sx)).1 : List Change)] ++ §34) [] w' := by
  refine R.enterN (n := 64) (vs := [.string sx]) (B := §34) [(0, .string sx)] Try.func55 rfl rfl rfl rfl H ?_
  refine R.reg rfl <| R.u 2 rfl <| R.nil ?_
  refine R.reg rfl <| R.u 1 rfl <| R.nil ?_
  refine R.row0 (α := Change) 51 ?_
  refine R.loop (fun g_ : ByteArray × Nat × Value × (List Change) => [(0, .string g_.1), (4, g_.2.2.1)]) (fun g_ : ByteArray × Nat × Value × (List Change) => [Res.row 51 g_.2.2.1 (g_.2.2.2 : List Change), Res.held w own]) (fun g_ : ByteArray × Nat × Value × (List Change) => []) (fun g_ : ByteArray × Nat × Value × (List Change) => g_.1.size + g_.2.2.2.length ≤ 2400 ∧ g_.1.size < g_.2.1 ∧ parS g_.2.1 g_.1 g_.2.2.2 = parseB sx) (fun g_ : ByteArray × Nat × Value × (List Change) => g_.2.1) (sx, sx.size + 1, (.slice none 0 0), []) rfl (by dsimp only; exact ⟨by simp; omega, by omega, rfl⟩) ⟨rfl, rfl, trivial⟩ (fun _ => Wd.pick [0, 1] [] rfl rfl rfl) ?_
  rintro ⟨tt, k, u, rs⟩ ⟨hl, hk, HP⟩
  dsimp only at *
  refine R.reg rfl <| R.u 1 rfl <| ?_
  by_cases h1 : tt = ⟨#[]⟩
  · refine R.q (q.neqS1 rfl rfl h1) rfl <| R.nil ?_
    refine R.condF rfl rfl ?_
    refine R.reg rfl <| R.u 3 rfl <| R.nil ?_
    have hz : parseB sx = (rs, true) := by (first | exact (par_end HP hk §9) | exact (par_bad HP hk §9 (.inl (by omega))) | exact (par_bad HP hk §9 (.inr §37)) | exact (par_fault HP hk §9 §37 (by rw [par_c hy1 hy2 hy3 rfl]; assumption)))
    rw [hz]
    exact R.w2 u [0, 1] [] rfl Try.results55 (RV.tmp rfl) (RV.tmp rfl) rfl rfl rfl (tup2 rfl rfl)
  · refine R.q (q.neqS0 rfl rfl h1) rfl <| R.nil ?_
    refine R.condT rfl rfl ?_
    by_cases h2 : tt.size < 3
    · refine R.regQ rfl mixed §16 <| Q.u 1 rfl <| Q.q (q.lenS rfl Try.underlying9) rfl <| Q.q §30 rfl <| Q.u 18 rfl <| Q.nil ?_
      refine R.condT rfl rfl ?_
      refine R.reg rfl <| R.u 2 rfl <| R.nil ?_
      refine R.row0 (α := Change) 51 ?_
      have hz : parseB sx = ([], false) := by (first | exact (par_end HP hk §9) | exact (par_bad HP hk §9 (.inl (by omega))) | exact (par_bad HP hk §9 (.inr §37)) | exact (par_fault HP hk §9 §37 (by rw [par_c hy1 hy2 hy3 rfl]; assumption)))
      rw [hz]
      exact R.w2 (.slice none 0 0) [0, 2] [] rfl Try.results55 (RV.tmp rfl) (RV.tmp rfl) rfl rfl rfl (tup2 rfl rfl)
    · obtain ⟨y1, hy1⟩ : ∃ z, tt.data[0]? = some z := ⟨_, Array.getElem?_eq_getElem (show 0 < tt.size from by omega)⟩
      have by1 := y1.toNat_lt
      obtain ⟨y2, hy2⟩ : ∃ z, tt.data[1]? = some z := ⟨_, Array.getElem?_eq_getElem (show 1 < tt.size from by omega)⟩
      have by2 := y2.toNat_lt
      obtain ⟨y3, hy3⟩ : ∃ z, tt.data[2]? = some z := ⟨_, Array.getElem?_eq_getElem (show 2 < tt.size from by omega)⟩
      have by3 := y3.toNat_lt
      by_cases h3 : tt.size < (((3 + y1.toNat) + y2.toNat) + (256 * y3.toNat))
      · refine R.regQ rfl mixed §16 <| Q.u 1 rfl <| Q.q (q.lenS rfl Try.underlying9) rfl <| Q.q §25 rfl <| Q.u 2 rfl <| Q.qg rfl (q.sIdx (i := 0) rfl rfl Try.underlying9 rfl hy1) rfl <| Q.qg rfl §31 rfl <| Q.qg rfl (q.add (r := ((3 + y1.toNat : Nat) : Int)) rfl rfl (wr (by omega))) rfl <| Q.u 1 rfl <| Q.qg rfl (q.sIdx (i := 1) rfl rfl Try.underlying9 rfl hy2) rfl <| Q.qg rfl §32 rfl <| Q.qg rfl (q.add (r := (((3 + y1.toNat) + y2.toNat : Nat) : Int)) rfl rfl (wr (by omega))) rfl <| Q.u 1 rfl <| Q.qg rfl (q.sIdx (i := 2) rfl rfl Try.underlying9 rfl hy3) rfl <| Q.qg rfl §33 rfl <| Q.qg rfl (q.mul (r := ((256 * y3.toNat : Nat) : Int)) rfl rfl (wr (by omega))) rfl <| Q.qg rfl (q.add (r := ((((3 + y1.toNat) + y2.toNat) + (256 * y3.toNat) : Nat) : Int)) rfl rfl (wr (by omega))) rfl <| Q.u 1 rfl <| Q.qg rfl (q.lenS rfl Try.underlying9) rfl <| Q.qg rfl §22 rfl <| Q.u 1 rfl <| Q.nil ?_
        refine R.condT rfl rfl ?_
        refine R.reg rfl <| R.u 2 rfl <| R.nil ?_
        refine R.row0 (α := Change) 51 ?_
        have hz : parseB sx = ([], false) := by (first | exact (par_end HP hk §9) | exact (par_bad HP hk §9 (.inl (by omega))) | exact (par_bad HP hk §9 (.inr §37)) | exact (par_fault HP hk §9 §37 (by rw [par_c hy1 hy2 hy3 rfl]; assumption)))
        rw [hz]
        exact R.w2 (.slice none 0 0) [0, 2] [] rfl Try.results55 (RV.tmp rfl) (RV.tmp rfl) rfl rfl rfl (tup2 rfl rfl)
      · refine R.regQ rfl mixed §16 <| Q.u 1 rfl <| Q.q (q.lenS rfl Try.underlying9) rfl <| Q.q §25 rfl <| Q.u 2 rfl <| Q.qg rfl (q.sIdx (i := 0) rfl rfl Try.underlying9 rfl hy1) rfl <| Q.qg rfl §31 rfl <| Q.qg rfl (q.add (r := ((3 + y1.toNat : Nat) : Int)) rfl rfl (wr (by omega))) rfl <| Q.u 1 rfl <| Q.qg rfl (q.sIdx (i := 1) rfl rfl Try.underlying9 rfl hy2) rfl <| Q.qg rfl §32 rfl <| Q.qg rfl (q.add (r := (((3 + y1.toNat) + y2.toNat : Nat) : Int)) rfl rfl (wr (by omega))) rfl <| Q.u 1 rfl <| Q.qg rfl (q.sIdx (i := 2) rfl rfl Try.underlying9 rfl hy3) rfl <| Q.qg rfl §33 rfl <| Q.qg rfl (q.mul (r := ((256 * y3.toNat : Nat) : Int)) rfl rfl (wr (by omega))) rfl <| Q.qg rfl (q.add (r := ((((3 + y1.toNat) + y2.toNat) + (256 * y3.toNat) : Nat) : Int)) rfl rfl (wr (by omega))) rfl <| Q.u 1 rfl <| Q.qg rfl (q.lenS rfl Try.underlying9) rfl <| Q.qg rfl §21 rfl <| Q.u 1 rfl <| Q.nil ?_
        refine R.condF rfl rfl ?_
        refine R.reg rfl <| R.u 1 rfl <| R.q (q.sIdx (i := 0) rfl rfl Try.underlying9 rfl hy1) rfl <| R.q §31 rfl <| R.q (q.add (r := ((3 + y1.toNat : Nat) : Int)) rfl rfl (wr (by omega))) rfl <| R.u 1 rfl <| R.nil ?_
        refine R.regQ rfl mixed §16 <| Q.u 2 rfl <| Q.q (q.sIdx (i := 1) rfl rfl Try.underlying9 rfl hy2) rfl <| Q.q §32 rfl <| Q.q (q.add (r := (((3 + y1.toNat) + y2.toNat : Nat) : Int)) rfl rfl (wr (by omega))) rfl <| Q.u 1 rfl <| Q.q (q.sIdx (i := 2) rfl rfl Try.underlying9 rfl hy3) rfl <| Q.q §33 rfl <| Q.q (q.mul (r := ((256 * y3.toNat : Nat) : Int)) rfl rfl (wr (by omega))) rfl <| Q.q (q.add (r := ((((3 + y1.toNat) + y2.toNat) + (256 * y3.toNat) : Nat) : Int)) rfl rfl (wr (by omega))) rfl <| Q.u 1 rfl <| Q.nil ?_
        refine R.regD (fuel := 10) (Wd w (blks [] ++ own) [Res.row 51 u (rs : List Change), Res.held w own] []) rfl mixed rfl ?_
        refine D.q (i := 0) rfl §16 §10 rfl (q.mv rfl) rfl <| D.q (i := 1) rfl §16 §10 rfl (q.mv rfl) rfl <| D.q (i := 2) rfl §16 §10 rfl (q.sSl (i := 3) (j := (3 + y1.toNat)) rfl rfl rfl Try.underlying9 rfl rfl (by omega) (by omega)) rfl <| D.q (i := 3) rfl §16 §10 rfl (q.mv rfl) rfl <| D.q (i := 4) rfl §16 §10 rfl (q.mv rfl) rfl <| D.q (i := 5) rfl §16 §10 rfl (q.mv rfl) rfl <| D.q (i := 6) rfl §16 §10 rfl (q.sSl (i := (3 + y1.toNat)) (j := (((3 + y1.toNat) + y2.toNat) + (256 * y3.toNat))) rfl rfl rfl Try.underlying9 rfl rfl (by omega) (by omega)) rfl <| D.q (i := 7) rfl §16 §10 rfl (q.build (cs := §7) tB_51 rfl rfl) rfl <| ?_
        refine D.one (i := 8) §16 rfl ?_
        refine Do.s (s.alloc (cs := [.string (⟨#[]⟩), .string (⟨#[]⟩), .bool false]) tZero_51 rfl rfl) §6 rfl fun b1 => ?_
        refine D.one (i := 9) §16 rfl ?_
        refine Do.s (s.st (us := §7) (cs' := §7) 0 _ rfl rfl rfl rfl (.inl tAgg_51) rfl rfl rfl rfl) §6 rfl fun _ => ?_
        refine D.done §16 <| ?_
        refine R.reg rfl <| R.q (q.ldS 0 rfl rfl tAgg_51) rfl <| R.c (q.call eg_48 rfl rfl (fun w hw => (rowCheck_any (§5) w  ))) rfl <| ?_
        by_cases h4 : chF §5 = 0
        · refine R.q (q.neqE0 rfl rfl Try.underlying28 (by omega)) rfl <| R.nil ?_
          refine R.condF rfl rfl ?_
          refine R.reg rfl <| R.u 1 rfl <| R.q (q.ldS 0 rfl rfl tAgg_51) rfl <| ?_
          refine R.s rfl (s.bs (l := ([§5] : List Change)) tSl_46 tZero_51 rfl rfl rfl rfl rfl rfl rfl) fun b2 => ?_
          refine R.s (B' := (fun bz0_ : Value => [Res.row 51 bz0_ ((applyR rs ([§5])) : List Change), Res.box b1 §7 51, Res.held w own])) (F' := (fun bz0_ : Value => [Res.ls (.slice (some ⟨b2, 0, none⟩) 1 1) ([§5] : List Change), Res.ls u (rs : List Change)])) rfl (s.pre (B2 := [Res.row 51 (.slice (some ⟨b2, 0, none⟩) 1 1) ([§5] : List Change), Res.box b1 §7 51, Res.held w own]) (F2 := [Res.ls u (rs : List Change)]) (fun _ hw => hw.lendL 2 _ rfl rfl) (s.pre (B2 := [Res.box b1 §7 51, Res.held w own]) (F2 := [Res.ls (.slice (some ⟨b2, 0, none⟩) 1 1) ([§5] : List Change), Res.ls u (rs : List Change)]) (fun _ hw => hw.lendL 0 _ rfl rfl) (s.callV (B0 := []) (Br := [Res.box b1 §7 51, Res.held w own]) (F0 := [Res.ls u (rs : List Change), Res.ls (.slice (some ⟨b2, 0, none⟩) 1 1) ([§5] : List Change)]) [0, 1] [1, 0] (fun bz0_ : Value => bz0_) (fun bz0_ : Value => [Res.row 51 bz0_ ((applyR rs ([§5])) : List Change)]) (fun bz0_ : Value => []) rfl rfl rfl eg_56 rfl rfl (fun w own hw H => rowApply_any u (rs) (.slice (some ⟨b2, 0, none⟩) 1 1) ([§5]) w own H (by first | omega | assumption | (simp; done) | (simp; omega))) rfl))) fun z1 => ?_
          refine R.u 1 rfl <| R.nil ?_
          refine R.reg rfl <| R.u 2 rfl <| R.q (q.sFrom (i := (((3 + y1.toNat) + y2.toNat) + (256 * y3.toNat))) rfl rfl Try.underlying9 rfl (by omega)) rfl <| R.u 1 rfl <| R.nil ?_
          refine R.back ((tt.extract (((3 + y1.toNat) + y2.toNat) + (256 * y3.toNat)) tt.size), k - 1, z1, applyR rs ([§5])) rfl (by ((try dsimp only); have g := par_go HP hk §9 §37 (by rw [par_c hy1 hy2 hy3 rfl]; assumption); rw [par_n hy1 hy2 hy3, par_c hy1 hy2 hy3 rfl] at g; have ha := applyR_len [§5] rs; rw [List.length_singleton] at ha; exact ⟨by rw [ByteArray.size_extract]; omega, g.2, g.1⟩)) (by dsimp only; omega) ⟨rfl, rfl, trivial⟩ (fun _ => Wd.pik [0, 2] [] rfl rfl rfl)
        · refine R.q (q.neqE1 rfl rfl Try.underlying28 (by omega)) rfl <| R.nil ?_
          refine R.condT rfl rfl ?_
          refine R.reg rfl <| R.u 2 rfl <| R.nil ?_
          refine R.row0 (α := Change) 51 ?_
          have hz : parseB sx = ([], false) := by (first | exact (par_end HP hk §9) | exact (par_bad HP hk §9 (.inl (by omega))) | exact (par_bad HP hk §9 (.inr §37)) | exact (par_fault HP hk §9 §37 (by rw [par_c hy1 hy2 hy3 rfl]; assumption)))
          rw [hz]
          exact R.w2 (.slice none 0 0) [0, 3] [] rfl Try.results55 (RV.tmp rfl) (RV.tmp rfl) rfl rfl rfl (tup2 rfl rfl)

theorem blank_go {k i : Nat} {m : Dsk} {e : Int} {Z : Dsk × Int} (h : blankL k i (m, e) = Z) (he : e = 0) (hk : 0 < k) : blankL (k - 1) (i + 1) (dWrite m (i : Int) ⟨#[]⟩) = Z := by
  cases k with
  | zero => omega
  | succ k => rw [blankL, if_pos he] at h; exact h
theorem blank_no {k i : Nat} {m : Dsk} {e : Int} {Z : Dsk × Int} (h : blankL k i (m, e) = Z) (he : ¬ e = 0) : Z = (m, e) := by
  cases k with
  | zero => exact h.symm
  | succ k => rw [blankL, if_neg he] at h; exact h.symm
theorem blank_end {k i : Nat} {m : Dsk} {e : Int} {Z : Dsk × Int} (h : blankL k i (m, e) = Z) (hk : k = 0) : Z = (m, e) := by subst hk; exact h.symm

theorem format_any (b_dk : Nat) (q_dkKept q_dkNow q_dkWait : Value) (dk : Dsk) (w : World) (own : List Nat) (H : Wd w (blks §14 ++ own) (§14 ++ §34) [] w) (hD : DOk dk.Now.length 80000 dk ∧ dk.Now.length ≤ 1000) : Calls Try.prog 23 #[.pointer (some ⟨b_dk, 0, none⟩)] w fun e w' => ∃ z : Value × Value × Value, e = .returned (errv (((fmtD dk)).2)) ∧ Wd w (blks §14 ++ own) ([Res.box b_dk [z.1, z.2.1, z.2.2, .int .i64 ((((fmtD dk)).1).Fuse), .bool ((((fmtD dk)).1).Down)] 81, Res.row 9 z.1 ((((fmtD dk)).1).Kept : List ByteArray), Res.row 9 z.2.1 ((((fmtD dk)).1).Now : List ByteArray), Res.row 83 z.2.2 ((((fmtD dk)).1).Wait : List Turn)] ++ §34) [] w' := by
  have c_dk_Kept := H.cap 1 rfl; have m_dk_Kept := H.lenB 1 rfl
  have c_dk_Now := H.cap 2 rfl; have m_dk_Now := H.lenB 2 rfl
  have c_dk_Wait := H.cap 3 rfl; have m_dk_Wait := H.lenB 3 rfl
  have p0 := hD.1.fine (by omega) (by omega)
  refine R.enterN (n := 39) (vs := [.pointer (some ⟨b_dk, 0, none⟩)]) (B := [Res.box b_dk [q_dkKept, q_dkNow, q_dkWait, .int .i64 dk.Fuse, .bool dk.Down] 81, Res.row 9 q_dkKept (dk.Kept : List ByteArray), Res.row 9 q_dkNow (dk.Now : List ByteArray), Res.row 83 q_dkWait (dk.Wait : List Turn), Res.held w own]) [(0, .pointer (some ⟨b_dk, 0, none⟩))] Try.func23 rfl rfl rfl rfl H ?_
  refine R.reg rfl <| R.u 1 rfl <| R.nil ?_
  refine R.reg rfl <| R.u 1 rfl <| R.c (q.call eg_12 rfl rfl (fun w hw => (dSectors_any b_dk q_dkKept q_dkNow q_dkWait  (dk) w (hw.b 0 rfl) ((fun _ => Wd.row 1 rfl) w hw) ((fun _ => Wd.row 2 rfl) w hw) ((fun _ => Wd.row 3 rfl) w hw) ))) rfl <| ?_
  by_cases h1 : dk.Now.length < 166
  · refine R.q §30 rfl <| R.nil ?_
    refine R.condT rfl rfl ?_
    refine R.reg rfl <| R.q (q.iface rfl con_75) rfl <| R.u 1 rfl <| R.nil ?_
    have hz : fmtD dk = (dk, 9) := by (first | exact fmt_small (by omega) | exact fmt_a (by omega) §3 §9 | exact fmt_b (by omega) §3 §9 §9 | exact fmt_c (by omega) §3 §9 §9 §9 | exact fmt_d (by omega) §3 §9 §9 §9)
    rw [hz]
    exact R.w1 (q_dkKept, q_dkNow, q_dkWait) [0, 1, 2, 3, 4] [] rfl Try.results23 (RV.tmp rfl) rfl rfl rfl (errk (by decide) rfl)
  · refine R.q §25 rfl <| R.nil ?_
    refine R.condF rfl rfl ?_
    refine R.reg rfl <| R.u 1 rfl <| ?_
    refine R.s (B' := (fun g_ : Value × Value × Value => [Res.box b_dk [g_.1, g_.2.1, g_.2.2, .int .i64 ((((dWrite dk 0 (⟨#[]⟩))).1).Fuse), .bool ((((dWrite dk 0 (⟨#[]⟩))).1).Down)] 81, Res.row 9 g_.1 ((((dWrite dk 0 (⟨#[]⟩))).1).Kept : List ByteArray), Res.row 9 g_.2.1 ((((dWrite dk 0 (⟨#[]⟩))).1).Now : List ByteArray), Res.row 83 g_.2.2 ((((dWrite dk 0 (⟨#[]⟩))).1).Wait : List Turn), Res.held w own])) (F' := §27) rfl (s.callV (B0 := §14) (Br := §34) (F0 := []) [0, 1, 2, 3, 4] [] (fun g_ : Value × Value × Value => errv (((dWrite dk 0 (⟨#[]⟩))).2)) (fun g_ : Value × Value × Value => [Res.box b_dk [g_.1, g_.2.1, g_.2.2, .int .i64 ((((dWrite dk 0 (⟨#[]⟩))).1).Fuse), .bool ((((dWrite dk 0 (⟨#[]⟩))).1).Down)] 81, Res.row 9 g_.1 ((((dWrite dk 0 (⟨#[]⟩))).1).Kept : List ByteArray), Res.row 9 g_.2.1 ((((dWrite dk 0 (⟨#[]⟩))).1).Now : List ByteArray), Res.row 83 g_.2.2 ((((dWrite dk 0 (⟨#[]⟩))).1).Wait : List Turn)]) §27 rfl rfl rfl eg_10 rfl rfl (fun w own hw H => dWrite_any b_dk q_dkKept q_dkNow q_dkWait (dk) (0) (⟨#[]⟩) w own H (by first | assumption | omega)) rfl) ?_
    rintro ⟨z1, z2, z3⟩
    dsimp only
    refine R.u 1 rfl <| R.nil ?_
    refine R.reg rfl <| R.u 1 rfl <| R.nil ?_
    refine R.loop (fun g_ : Nat × Int × Dsk × Value × Value × Value => [(0, .pointer (some ⟨b_dk, 0, none⟩)), (3, errv g_.2.1), (4, .int .i64 ((102 + g_.1) : Int))]) (fun g_ : Nat × Int × Dsk × Value × Value × Value => [Res.box b_dk [g_.2.2.2.1, g_.2.2.2.2.1, g_.2.2.2.2.2, .int .i64 g_.2.2.1.Fuse, .bool g_.2.2.1.Down] 81, Res.row 9 g_.2.2.2.1 (g_.2.2.1.Kept : List ByteArray), Res.row 9 g_.2.2.2.2.1 (g_.2.2.1.Now : List ByteArray), Res.row 83 g_.2.2.2.2.2 (g_.2.2.1.Wait : List Turn), Res.held w own]) (fun g_ : Nat × Int × Dsk × Value × Value × Value => []) (fun g_ : Nat × Int × Dsk × Value × Value × Value => 102 + g_.1 ≤ dk.Now.length ∧ blankL (dk.Now.length - 102 - g_.1) (102 + g_.1) (g_.2.2.1, g_.2.1) = fmt1 dk ∧ DOk dk.Now.length (80001 + g_.1) g_.2.2.1) (fun g_ : Nat × Int × Dsk × Value × Value × Value => dk.Now.length - g_.1) (0, (dWrite dk 0 (⟨#[]⟩)).2, ((dWrite dk 0 (⟨#[]⟩)).1), z1, z2, z3) rfl (by (try dsimp only); exact ⟨by omega, rfl, hD.1.write _ _⟩) ⟨rfl, rfl, rfl, trivial⟩ (fun _ => Wd.pick [0, 1, 2, 3, 4] [] rfl rfl rfl) ?_
    rintro ⟨j, e, dm, dm_Kept, dm_Now, dm_Wait⟩ ⟨hj, HB, hO⟩
    dsimp only at *
    have enl := hO.nl; have p1 := hO.fine (by omega) (by omega)
    refine R.reg rfl <| R.u 2 rfl <| R.c (q.call eg_12 rfl rfl (fun w hw => (dSectors_any b_dk dm_Kept dm_Now dm_Wait  (dm) w (hw.b 0 rfl) ((fun _ => Wd.row 1 rfl) w hw) ((fun _ => Wd.row 2 rfl) w hw) ((fun _ => Wd.row 3 rfl) w hw) ))) rfl <| ?_
    by_cases h2 : (102 + j) < dm.Now.length
    · refine R.q §30 rfl <| R.u 2 rfl <| ?_
      by_cases h3 : e = 0
      · refine R.qg rfl (q.eqlE0 rfl rfl Try.underlying28 (by omega)) rfl <| R.u 1 rfl <| R.nil ?_
        refine R.condT rfl rfl ?_
        refine R.reg rfl <| R.u 2 rfl <| ?_
        refine R.s (B' := (fun g_ : Value × Value × Value => [Res.box b_dk [g_.1, g_.2.1, g_.2.2, .int .i64 ((((dWrite dm ((102 + j) : Int) (⟨#[]⟩))).1).Fuse), .bool ((((dWrite dm ((102 + j) : Int) (⟨#[]⟩))).1).Down)] 81, Res.row 9 g_.1 ((((dWrite dm ((102 + j) : Int) (⟨#[]⟩))).1).Kept : List ByteArray), Res.row 9 g_.2.1 ((((dWrite dm ((102 + j) : Int) (⟨#[]⟩))).1).Now : List ByteArray), Res.row 83 g_.2.2 ((((dWrite dm ((102 + j) : Int) (⟨#[]⟩))).1).Wait : List Turn), Res.held w own])) (F' := §27) rfl (s.callV (B0 := [Res.box b_dk [dm_Kept, dm_Now, dm_Wait, .int .i64 dm.Fuse, .bool dm.Down] 81, Res.row 9 dm_Kept (dm.Kept : List ByteArray), Res.row 9 dm_Now (dm.Now : List ByteArray), Res.row 83 dm_Wait (dm.Wait : List Turn)]) (Br := §34) (F0 := []) [0, 1, 2, 3, 4] [] (fun g_ : Value × Value × Value => errv (((dWrite dm ((102 + j) : Int) (⟨#[]⟩))).2)) (fun g_ : Value × Value × Value => [Res.box b_dk [g_.1, g_.2.1, g_.2.2, .int .i64 ((((dWrite dm ((102 + j) : Int) (⟨#[]⟩))).1).Fuse), .bool ((((dWrite dm ((102 + j) : Int) (⟨#[]⟩))).1).Down)] 81, Res.row 9 g_.1 ((((dWrite dm ((102 + j) : Int) (⟨#[]⟩))).1).Kept : List ByteArray), Res.row 9 g_.2.1 ((((dWrite dm ((102 + j) : Int) (⟨#[]⟩))).1).Now : List ByteArray), Res.row 83 g_.2.2 ((((dWrite dm ((102 + j) : Int) (⟨#[]⟩))).1).Wait : List Turn)]) §27 rfl rfl rfl eg_10 rfl rfl (fun w own hw H => dWrite_any b_dk dm_Kept dm_Now dm_Wait (dm) (((102 + j) : Int)) (⟨#[]⟩) w own H (by first | assumption | omega)) rfl) ?_
        rintro ⟨z4, z5, z6⟩
        dsimp only
        refine R.u 1 rfl <| R.nil ?_
        refine R.reg rfl <| R.u 1 rfl <| R.q (q.add (r := (((102 + j) + 1 : Nat) : Int)) rfl rfl (wr (by omega))) rfl <| R.u 1 rfl <| R.nil ?_
        refine R.back (j + 1, (dWrite dm ((102 + j) : Int) (⟨#[]⟩)).2, ((dWrite dm ((102 + j) : Int) (⟨#[]⟩)).1), z4, z5, z6) rfl (by ((try dsimp only); exact ⟨by omega, by have g := blank_go HB §9 (by omega); rwa [show dk.Now.length - 102 - (j + 1) = dk.Now.length - 102 - j - 1 by omega], hO.write _ _⟩)) (by dsimp only; omega) ⟨rfl, rfl, rfl, trivial⟩ (fun _ => Wd.pik [0, 1, 2, 3, 4] [] rfl rfl rfl)
      · refine R.qg rfl §24 rfl <| R.u 1 rfl <| R.nil ?_
        refine R.condF rfl rfl ?_
        refine R.reg rfl <| R.u 1 rfl <| R.q §24 rfl <| R.nil ?_
        refine R.condF rfl rfl ?_
        refine R.reg rfl <| R.u 1 rfl <| R.q §24 rfl <| R.nil ?_
        refine R.condF rfl rfl ?_
        refine R.reg rfl <| R.u 1 rfl <| R.q §24 rfl <| R.nil ?_
        refine R.condF rfl rfl ?_
        refine R.reg rfl <| R.u 2 rfl <| R.nil ?_
        have hz : fmtD dk = (dm, e) := by (first | exact fmt_small (by omega) | exact fmt_a (by omega) §3 §9 | exact fmt_b (by omega) §3 §9 §9 | exact fmt_c (by omega) §3 §9 §9 §9 | exact fmt_d (by omega) §3 §9 §9 §9)
        rw [hz]
        exact R.w1 (dm_Kept, dm_Now, dm_Wait) [0, 1, 2, 3, 4] [] rfl Try.results23 (RV.tmp rfl) rfl rfl rfl rfl
    · refine R.q §25 rfl <| R.u 4 rfl <| R.nil ?_
      refine R.condF rfl rfl ?_
      refine R.reg rfl <| R.u 1 rfl <| ?_
      by_cases h4 : e = 0
      · refine R.q (q.eqlE0 rfl rfl Try.underlying28 (by omega)) rfl <| R.nil ?_
        refine R.condT rfl rfl ?_
        refine R.reg rfl <| R.u 1 rfl <| ?_
        refine R.s (B' := (fun g_ : Value × Value × Value => [Res.box b_dk [g_.1, g_.2.1, g_.2.2, .int .i64 ((((dFlush dm)).1).Fuse), .bool ((((dFlush dm)).1).Down)] 81, Res.row 9 g_.1 ((((dFlush dm)).1).Kept : List ByteArray), Res.row 9 g_.2.1 ((((dFlush dm)).1).Now : List ByteArray), Res.row 83 g_.2.2 ((((dFlush dm)).1).Wait : List Turn), Res.held w own])) (F' := §27) rfl (s.callV (B0 := [Res.box b_dk [dm_Kept, dm_Now, dm_Wait, .int .i64 dm.Fuse, .bool dm.Down] 81, Res.row 9 dm_Kept (dm.Kept : List ByteArray), Res.row 9 dm_Now (dm.Now : List ByteArray), Res.row 83 dm_Wait (dm.Wait : List Turn)]) (Br := §34) (F0 := []) [0, 1, 2, 3, 4] [] (fun g_ : Value × Value × Value => errv (((dFlush dm)).2)) (fun g_ : Value × Value × Value => [Res.box b_dk [g_.1, g_.2.1, g_.2.2, .int .i64 ((((dFlush dm)).1).Fuse), .bool ((((dFlush dm)).1).Down)] 81, Res.row 9 g_.1 ((((dFlush dm)).1).Kept : List ByteArray), Res.row 9 g_.2.1 ((((dFlush dm)).1).Now : List ByteArray), Res.row 83 g_.2.2 ((((dFlush dm)).1).Wait : List Turn)]) §27 rfl rfl rfl eg_51 rfl rfl (fun w own hw H => dFlush_any b_dk dm_Kept dm_Now dm_Wait (dm) w own H (by first | assumption | omega)) rfl) ?_
        rintro ⟨z7, z8, z9⟩
        dsimp only
        refine R.u 1 rfl <| R.nil ?_
        refine R.reg rfl <| R.u 1 rfl <| ?_
        by_cases h5 : (dFlush dm).2 = 0
        · refine R.q (q.eqlE0 rfl rfl Try.underlying28 (by omega)) rfl <| R.nil ?_
          refine R.condT rfl rfl ?_
          have p2 := hO.flush.fine (by omega) (by omega)
          refine R.reg rfl <| R.u 1 rfl <| R.q (q.build (cs := [.int .i64 1, .int .i64 0, .int .i64 0, .int .i64 1]) tB_98 rfl rfl) rfl <| R.c (q.call eg_57 rfl rfl (fun w hw => (htext_any (§13) w  (by first | omega | assumption | (dsimp only; omega) | decide)))) rfl <| ?_
          refine R.s (B' := (fun g_ : Value × Value × Value => [Res.box b_dk [g_.1, g_.2.1, g_.2.2, .int .i64 ((((dWrite ((dFlush dm).1) 1 (headT §13))).1).Fuse), .bool ((((dWrite ((dFlush dm).1) 1 (headT §13))).1).Down)] 81, Res.row 9 g_.1 ((((dWrite ((dFlush dm).1) 1 (headT §13))).1).Kept : List ByteArray), Res.row 9 g_.2.1 ((((dWrite ((dFlush dm).1) 1 (headT §13))).1).Now : List ByteArray), Res.row 83 g_.2.2 ((((dWrite ((dFlush dm).1) 1 (headT §13))).1).Wait : List Turn), Res.held w own])) (F' := §27) rfl (s.callV (B0 := [Res.box b_dk [z7, z8, z9, .int .i64 (((dFlush dm).1).Fuse), .bool (((dFlush dm).1).Down)] 81, Res.row 9 z7 (((dFlush dm).1).Kept : List ByteArray), Res.row 9 z8 (((dFlush dm).1).Now : List ByteArray), Res.row 83 z9 (((dFlush dm).1).Wait : List Turn)]) (Br := §34) (F0 := []) [0, 1, 2, 3, 4] [] (fun g_ : Value × Value × Value => errv (((dWrite ((dFlush dm).1) 1 (headT §13))).2)) (fun g_ : Value × Value × Value => [Res.box b_dk [g_.1, g_.2.1, g_.2.2, .int .i64 ((((dWrite ((dFlush dm).1) 1 (headT §13))).1).Fuse), .bool ((((dWrite ((dFlush dm).1) 1 (headT §13))).1).Down)] 81, Res.row 9 g_.1 ((((dWrite ((dFlush dm).1) 1 (headT §13))).1).Kept : List ByteArray), Res.row 9 g_.2.1 ((((dWrite ((dFlush dm).1) 1 (headT §13))).1).Now : List ByteArray), Res.row 83 g_.2.2 ((((dWrite ((dFlush dm).1) 1 (headT §13))).1).Wait : List Turn)]) §27 rfl rfl rfl eg_10 rfl rfl (fun w own hw H => dWrite_any b_dk z7 z8 z9 (((dFlush dm).1)) (1) (headT §13) w own H (by first | assumption | omega)) rfl) ?_
          rintro ⟨z10, z11, z12⟩
          dsimp only
          refine R.u 1 rfl <| R.nil ?_
          refine R.reg rfl <| R.u 1 rfl <| ?_
          by_cases h6 : (dWrite ((dFlush dm).1) 1 (headT §13)).2 = 0
          · refine R.q (q.eqlE0 rfl rfl Try.underlying28 (by omega)) rfl <| R.nil ?_
            refine R.condT rfl rfl ?_
            have p3 := (hO.flush.write 1 (headT ⟨1, 0, 0, 1⟩)).fine (by omega) (by omega)
            refine R.reg rfl <| R.u 1 rfl <| ?_
            refine R.s (B' := (fun g_ : Value × Value × Value => [Res.box b_dk [g_.1, g_.2.1, g_.2.2, .int .i64 ((((dFlush ((dWrite ((dFlush dm).1) 1 (headT §13)).1))).1).Fuse), .bool ((((dFlush ((dWrite ((dFlush dm).1) 1 (headT §13)).1))).1).Down)] 81, Res.row 9 g_.1 ((((dFlush ((dWrite ((dFlush dm).1) 1 (headT §13)).1))).1).Kept : List ByteArray), Res.row 9 g_.2.1 ((((dFlush ((dWrite ((dFlush dm).1) 1 (headT §13)).1))).1).Now : List ByteArray), Res.row 83 g_.2.2 ((((dFlush ((dWrite ((dFlush dm).1) 1 (headT §13)).1))).1).Wait : List Turn), Res.held w own])) (F' := §27) rfl (s.callV (B0 := [Res.box b_dk [z10, z11, z12, .int .i64 (((dWrite ((dFlush dm).1) 1 (headT §13)).1).Fuse), .bool (((dWrite ((dFlush dm).1) 1 (headT §13)).1).Down)] 81, Res.row 9 z10 (((dWrite ((dFlush dm).1) 1 (headT §13)).1).Kept : List ByteArray), Res.row 9 z11 (((dWrite ((dFlush dm).1) 1 (headT §13)).1).Now : List ByteArray), Res.row 83 z12 (((dWrite ((dFlush dm).1) 1 (headT §13)).1).Wait : List Turn)]) (Br := §34) (F0 := []) [0, 1, 2, 3, 4] [] (fun g_ : Value × Value × Value => errv (((dFlush ((dWrite ((dFlush dm).1) 1 (headT §13)).1))).2)) (fun g_ : Value × Value × Value => [Res.box b_dk [g_.1, g_.2.1, g_.2.2, .int .i64 ((((dFlush ((dWrite ((dFlush dm).1) 1 (headT §13)).1))).1).Fuse), .bool ((((dFlush ((dWrite ((dFlush dm).1) 1 (headT §13)).1))).1).Down)] 81, Res.row 9 g_.1 ((((dFlush ((dWrite ((dFlush dm).1) 1 (headT §13)).1))).1).Kept : List ByteArray), Res.row 9 g_.2.1 ((((dFlush ((dWrite ((dFlush dm).1) 1 (headT §13)).1))).1).Now : List ByteArray), Res.row 83 g_.2.2 ((((dFlush ((dWrite ((dFlush dm).1) 1 (headT §13)).1))).1).Wait : List Turn)]) §27 rfl rfl rfl eg_51 rfl rfl (fun w own hw H => dFlush_any b_dk z10 z11 z12 (((dWrite ((dFlush dm).1) 1 (headT §13)).1)) w own H (by first | assumption | omega)) rfl) ?_
            rintro ⟨z13, z14, z15⟩
            dsimp only
            refine R.u 1 rfl <| R.nil ?_
            refine R.reg rfl <| R.u 2 rfl <| R.nil ?_
            have hz : fmtD dk = (((dFlush ((dWrite ((dFlush dm).1) 1 (headT §13)).1)).1), (dFlush ((dWrite ((dFlush dm).1) 1 (headT §13)).1)).2) := by (first | exact fmt_small (by omega) | exact fmt_a (by omega) §3 §9 | exact fmt_b (by omega) §3 §9 §9 | exact fmt_c (by omega) §3 §9 §9 §9 | exact fmt_d (by omega) §3 §9 §9 §9)
            rw [hz]
            exact R.w1 (z13, z14, z15) [0, 1, 2, 3, 4] [] rfl Try.results23 (RV.tmp rfl) rfl rfl rfl rfl
          · refine R.q §24 rfl <| R.nil ?_
            refine R.condF rfl rfl ?_
            refine R.reg rfl <| R.u 2 rfl <| R.nil ?_
            have hz : fmtD dk = (((dWrite ((dFlush dm).1) 1 (headT §13)).1), (dWrite ((dFlush dm).1) 1 (headT §13)).2) := by (first | exact fmt_small (by omega) | exact fmt_a (by omega) §3 §9 | exact fmt_b (by omega) §3 §9 §9 | exact fmt_c (by omega) §3 §9 §9 §9 | exact fmt_d (by omega) §3 §9 §9 §9)
            rw [hz]
            exact R.w1 (z10, z11, z12) [0, 1, 2, 3, 4] [] rfl Try.results23 (RV.tmp rfl) rfl rfl rfl rfl
        · refine R.q §24 rfl <| R.nil ?_
          refine R.condF rfl rfl ?_
          refine R.reg rfl <| R.u 1 rfl <| R.q §24 rfl <| R.nil ?_
          refine R.condF rfl rfl ?_
          refine R.reg rfl <| R.u 2 rfl <| R.nil ?_
          have hz : fmtD dk = (((dFlush dm).1), (dFlush dm).2) := by (first | exact fmt_small (by omega) | exact fmt_a (by omega) §3 §9 | exact fmt_b (by omega) §3 §9 §9 | exact fmt_c (by omega) §3 §9 §9 §9 | exact fmt_d (by omega) §3 §9 §9 §9)
          rw [hz]
          exact R.w1 (z7, z8, z9) [0, 1, 2, 3, 4] [] rfl Try.results23 (RV.tmp rfl) rfl rfl rfl rfl
      · refine R.q §24 rfl <| R.nil ?_
        refine R.condF rfl rfl ?_
        refine R.reg rfl <| R.u 1 rfl <| R.q §24 rfl <| R.nil ?_
        refine R.condF rfl rfl ?_
        refine R.reg rfl <| R.u 1 rfl <| R.q §24 rfl <| R.nil ?_
        refine R.condF rfl rfl ?_
        refine R.reg rfl <| R.u 2 rfl <| R.nil ?_
        have hz : fmtD dk = (dm, e) := by (first | exact fmt_small (by omega) | exact fmt_a (by omega) §3 §9 | exact fmt_b (by omega) §3 §9 §9 | exact fmt_c (by omega) §3 §9 §9 §9 | exact fmt_d (by omega) §3 §9 §9 §9)
        rw [hz]
        exact R.w1 (dm_Kept, dm_Now, dm_Wait) [0, 1, 2, 3, 4] [] rfl Try.results23 (RV.tmp rfl) rfl rfl rfl rfl

theorem sroom_any (b_st : Nat) (q_stRows : Value) (p_st_d : Nat) (st : StoC) (b_lg : Nat) (p_lg_d : Nat) (lg : Lg) (w : World) (k_st : (Res.box b_st [.pointer (some ⟨p_st_d, 0, none⟩), .int .i64 st.Epoch, .int .i64 st.Side, .int .i64 st.Size, .int .i64 st.First, .pointer (some ⟨b_lg, 0, none⟩), q_stRows] 100).ok w) (s_q_stRows : Sl w q_stRows (st.Rows : List Change)) (k_lg : (Res.box b_lg [.pointer (some ⟨p_lg_d, 0, none⟩), .int .i64 lg.From, .int .i64 lg.Many, .int .i64 lg.First, .int .i64 lg.Next] 85).ok w) (hb : 0 ≤ lg.Many ∧ lg.Many ≤ 1000000000 ∧ 0 ≤ lg.Next ∧ lg.Next ≤ 1000000000) : Calls Try.prog 27 #[.pointer (some ⟨b_st, 0, none⟩)] w fun e w' => e = .returned (.int .i64 (lg.Many - lg.Next)) ∧ Ext w w' := by
  refine R.enter (n := 8) (vs := [.pointer (some ⟨b_st, 0, none⟩)]) [] [(0, .pointer (some ⟨b_st, 0, none⟩))] Try.func27 rfl rfl rfl rfl ?_
  refine R.oldL s_q_stRows ?_
  refine R.oldF (r := Res.box b_st [.pointer (some ⟨p_st_d, 0, none⟩), .int .i64 st.Epoch, .int .i64 st.Side, .int .i64 st.Size, .int .i64 st.First, .pointer (some ⟨b_lg, 0, none⟩), q_stRows] 100) k_st (box_lt k_st) ?_
  refine R.oldF (r := Res.box b_lg [.pointer (some ⟨p_lg_d, 0, none⟩), .int .i64 lg.From, .int .i64 lg.Many, .int .i64 lg.First, .int .i64 lg.Next] 85) k_lg (box_lt k_lg) ?_
  refine R.reg rfl <| R.u 1 rfl <| R.nil ?_
  refine R.reg rfl <| R.u 1 rfl <| R.q (q.nilc rfl) rfl <| R.q (q.fld (off' := 5) rfl tFld_100_2 rfl) rfl <| R.q (q.ldF 1 rfl rfl tOne_32 rfl) rfl <| R.c (q.call eg_17 rfl rfl (fun w hw => (room_any b_lg  p_lg_d (lg) w (hw.f 0 rfl) (by first | assumption | omega | (dsimp only; omega))))) rfl <| R.u 1 rfl <| R.nil ?_
  exact R.rv rfl Try.results27 rfl (rI (by (rfl)))

structure BufC where
  Buf : List UInt8
structure BldC where
  Used : Bool
  Buf : List UInt8

theorem bldCheckN_any (b_bd : Nat) (q_bdBuf : Value) (bd : BufC) (w : World) (own : List Nat) (H : Wd w (blks §18 ++ own) (§18 ++ §34) [] w)  : Calls Try.prog 78 #[.pointer (some ⟨b_bd, 0, none⟩)] w fun e w' => ∃ z : Value, e = .returned (.tuple #[]) ∧ Wd w (blks §18 ++ own) ([Res.box b_bd [.pointer (some ⟨b_bd, 0, none⟩), z] 124, Res.row 5 z ((bd).Buf : List UInt8)] ++ §34) [] w' := by
  have c_bd_Buf := H.cap 1 rfl; have m_bd_Buf := H.lenB 1 rfl
  refine R.enterN (n := 20) (vs := [.pointer (some ⟨b_bd, 0, none⟩)]) (B := [Res.box b_bd [.pointer none, q_bdBuf] 124, Res.row 5 q_bdBuf (bd.Buf : List UInt8), Res.held w own]) [(0, .pointer (some ⟨b_bd, 0, none⟩))] Try.func78 rfl rfl rfl rfl H ?_
  refine R.reg rfl <| R.u 1 rfl <| R.q (q.nilc rfl) rfl <| R.q (q.fld (off' := 0) rfl tFld_124_0 rfl) rfl <| R.q (q.ld 0 rfl rfl tOne_122 rfl) rfl <| R.q (q.eqlP rfl rfl Try.underlying122) rfl <| R.nil ?_
  refine R.condT rfl rfl ?_
  refine R.reg rfl <| R.u 2 rfl <| R.q (q.toU (i := 0) rfl rfl Try.underlying122 Try.underlying135 rfl (by decide) (by simp)) rfl <| R.q (q.noEsc Try.func81 (by decide +kernel) rfl rfl rfl rfl rfl) rfl <| R.q (q.frU (i := 0) rfl rfl Try.underlying135 Try.underlying122 rfl 2 rfl (by decide +kernel)) rfl <| R.q (q.nilc rfl) rfl <| R.q (q.fld (off' := 0) rfl tFld_124_0 rfl) rfl <| ?_
  refine R.s rfl (s.st (us := [.pointer (some ⟨b_bd, 0, none⟩)]) (cs' := [.pointer (some ⟨b_bd, 0, none⟩), q_bdBuf]) 0 _ rfl rfl rfl rfl (.inr ⟨tOne_122, rfl⟩) rfl rfl rfl rfl) fun _ => ?_
  refine R.nil ?_
  exact R.w0 q_bdBuf [0, 1, 2] [] (by first | exact .inl rfl | exact .inr ⟨_, rfl⟩) Try.results78  rfl rfl rfl rfl

theorem bldWriteN_any (b_bd : Nat) (q_bdBuf : Value) (bd : BufC) (sx : ByteArray) (w : World) (own : List Nat) (H : Wd w (blks §18 ++ own) (§18 ++ §34) [] w) (hl : bd.Buf.length + sx.size ≤ 1000000) : Calls Try.prog 70 #[.pointer (some ⟨b_bd, 0, none⟩), .string sx] w fun e w' => ∃ z : Value, e = .returned (.tuple #[.int .i64 (sx.size : Int), .nilIface]) ∧ Wd w (blks §18 ++ own) ([Res.box b_bd [.pointer (some ⟨b_bd, 0, none⟩), z] 124, Res.row 5 z (((⟨bd.Buf ++ sx.data.toList⟩ : BufC)).Buf : List UInt8)] ++ §34) [] w' := by
  have c_bd_Buf := H.cap 1 rfl; have m_bd_Buf := H.lenB 1 rfl
  refine R.enterN (n := 19) (vs := [.pointer (some ⟨b_bd, 0, none⟩), .string sx]) (B := [Res.box b_bd [.pointer none, q_bdBuf] 124, Res.row 5 q_bdBuf (bd.Buf : List UInt8), Res.held w own]) [(0, .pointer (some ⟨b_bd, 0, none⟩)), (1, .string sx)] Try.func70 rfl rfl rfl rfl H ?_
  refine R.reg rfl <| R.u 2 rfl <| R.nil ?_
  refine R.reg rfl <| R.u 1 rfl <| ?_
  refine R.s (B' := (fun bz0_ : Value => [Res.box b_bd [.pointer (some ⟨b_bd, 0, none⟩), bz0_] 124, Res.row 5 bz0_ ((bd).Buf : List UInt8), Res.held w own])) (F' := (fun bz0_ : Value => [])) rfl (s.callV (B0 := §18) (Br := §34) (F0 := []) [0, 1, 2] [] (fun bz0_ : Value => .tuple #[]) (fun bz0_ : Value => [Res.box b_bd [.pointer (some ⟨b_bd, 0, none⟩), bz0_] 124, Res.row 5 bz0_ ((bd).Buf : List UInt8)]) (fun bz0_ : Value => []) rfl rfl rfl eg_78 rfl rfl (fun w own hw H => bldCheckN_any b_bd q_bdBuf (bd) w own H ) rfl) fun z1 => ?_
  refine R.nil ?_
  refine R.reg rfl <| R.u 2 rfl <| R.q (q.nilc rfl) rfl <| R.q (q.fld (off' := 1) rfl tFld_124_1 rfl) rfl <| R.q (q.ld 0 rfl rfl tOne_109 rfl) rfl <| R.u 1 rfl <| ?_
  refine R.s rfl (s.appStr 1 rfl rfl rfl Try.underlying109 Try.underlying9 rfl rfl rfl rfl (by first | omega | (simp; done) | (simp; omega)) rfl) fun v1 => ?_
  refine R.q (q.nilc rfl) rfl <| R.q (q.fld (off' := 1) rfl tFld_124_1 rfl) rfl <| ?_
  refine R.s rfl §35 fun _ => ?_
  refine R.nil ?_
  refine R.reg rfl <| R.u 1 rfl <| R.q (q.lenS rfl Try.underlying9) rfl <| R.u 2 rfl <| R.nil ?_
  have hz : ((⟨bd.Buf ++ sx.data.toList⟩ : BufC), sx.size) = ((⟨(bd.Buf ++ sx.data.toList)⟩ : BufC), sx.size) := by (rfl)
  exact R.w2 v1 [0, 1, 2] [] rfl Try.results70 (RV.tmp rfl) (RV.tmp rfl) rfl rfl rfl (tup2 rfl rfl)

theorem bldCheckU_any (b_bd : Nat) (q_bdBuf : Value) (bd : BufC) (w : World) (own : List Nat) (H : Wd w (blks §15 ++ own) (§15 ++ §34) [] w)  : Calls Try.prog 78 #[.pointer (some ⟨b_bd, 0, none⟩)] w fun e w' => ∃ z : Value, e = .returned (.tuple #[]) ∧ Wd w (blks §15 ++ own) ([Res.box b_bd [.pointer (some ⟨b_bd, 0, none⟩), z] 124, Res.row 5 z ((bd).Buf : List UInt8)] ++ §34) [] w' := by
  have c_bd_Buf := H.cap 1 rfl; have m_bd_Buf := H.lenB 1 rfl
  refine R.enterN (n := 20) (vs := [.pointer (some ⟨b_bd, 0, none⟩)]) (B := [Res.box b_bd [.pointer (some ⟨b_bd, 0, none⟩), q_bdBuf] 124, Res.row 5 q_bdBuf (bd.Buf : List UInt8), Res.held w own]) [(0, .pointer (some ⟨b_bd, 0, none⟩))] Try.func78 rfl rfl rfl rfl H ?_
  refine R.reg rfl <| R.u 1 rfl <| R.q (q.nilc rfl) rfl <| R.q (q.fld (off' := 0) rfl tFld_124_0 rfl) rfl <| R.q (q.ld 0 rfl rfl tOne_122 rfl) rfl <| R.q (q.eqlP rfl rfl Try.underlying122) rfl <| R.nil ?_
  refine R.condF rfl rfl ?_
  refine R.reg rfl <| R.u 1 rfl <| R.q (q.nilc rfl) rfl <| R.q (q.fld (off' := 0) rfl tFld_124_0 rfl) rfl <| R.q (q.ld 0 rfl rfl tOne_122 rfl) rfl <| R.u 1 rfl <| R.q (q.same rfl rfl Try.underlying122 rfl) rfl <| R.nil ?_
  refine R.condF rfl rfl ?_
  exact R.w0 q_bdBuf [0, 1, 2] [] (by first | exact .inl rfl | exact .inr ⟨_, rfl⟩) Try.results78  rfl rfl rfl rfl

theorem bldWriteU_any (b_bd : Nat) (q_bdBuf : Value) (bd : BufC) (sx : ByteArray) (w : World) (own : List Nat) (H : Wd w (blks §15 ++ own) (§15 ++ §34) [] w) (hl : bd.Buf.length + sx.size ≤ 1000000) : Calls Try.prog 70 #[.pointer (some ⟨b_bd, 0, none⟩), .string sx] w fun e w' => ∃ z : Value, e = .returned (.tuple #[.int .i64 (sx.size : Int), .nilIface]) ∧ Wd w (blks §15 ++ own) ([Res.box b_bd [.pointer (some ⟨b_bd, 0, none⟩), z] 124, Res.row 5 z (((⟨bd.Buf ++ sx.data.toList⟩ : BufC)).Buf : List UInt8)] ++ §34) [] w' := by
  have c_bd_Buf := H.cap 1 rfl; have m_bd_Buf := H.lenB 1 rfl
  refine R.enterN (n := 19) (vs := [.pointer (some ⟨b_bd, 0, none⟩), .string sx]) (B := [Res.box b_bd [.pointer (some ⟨b_bd, 0, none⟩), q_bdBuf] 124, Res.row 5 q_bdBuf (bd.Buf : List UInt8), Res.held w own]) [(0, .pointer (some ⟨b_bd, 0, none⟩)), (1, .string sx)] Try.func70 rfl rfl rfl rfl H ?_
  refine R.reg rfl <| R.u 2 rfl <| R.nil ?_
  refine R.reg rfl <| R.u 1 rfl <| ?_
  refine R.s (B' := (fun bz0_ : Value => [Res.box b_bd [.pointer (some ⟨b_bd, 0, none⟩), bz0_] 124, Res.row 5 bz0_ ((bd).Buf : List UInt8), Res.held w own])) (F' := (fun bz0_ : Value => [])) rfl (s.callV (B0 := §15) (Br := §34) (F0 := []) [0, 1, 2] [] (fun bz0_ : Value => .tuple #[]) (fun bz0_ : Value => [Res.box b_bd [.pointer (some ⟨b_bd, 0, none⟩), bz0_] 124, Res.row 5 bz0_ ((bd).Buf : List UInt8)]) (fun bz0_ : Value => []) rfl rfl rfl eg_78 rfl rfl (fun w own hw H => bldCheckU_any b_bd q_bdBuf (bd) w own H ) rfl) fun z1 => ?_
  refine R.nil ?_
  refine R.reg rfl <| R.u 2 rfl <| R.q (q.nilc rfl) rfl <| R.q (q.fld (off' := 1) rfl tFld_124_1 rfl) rfl <| R.q (q.ld 0 rfl rfl tOne_109 rfl) rfl <| R.u 1 rfl <| ?_
  refine R.s rfl (s.appStr 1 rfl rfl rfl Try.underlying109 Try.underlying9 rfl rfl rfl rfl (by first | omega | (simp; done) | (simp; omega)) rfl) fun v1 => ?_
  refine R.q (q.nilc rfl) rfl <| R.q (q.fld (off' := 1) rfl tFld_124_1 rfl) rfl <| ?_
  refine R.s rfl §35 fun _ => ?_
  refine R.nil ?_
  refine R.reg rfl <| R.u 1 rfl <| R.q (q.lenS rfl Try.underlying9) rfl <| R.u 2 rfl <| R.nil ?_
  have hz : ((⟨bd.Buf ++ sx.data.toList⟩ : BufC), sx.size) = ((⟨(bd.Buf ++ sx.data.toList)⟩ : BufC), sx.size) := by (rfl)
  exact R.w2 v1 [0, 1, 2] [] rfl Try.results70 (RV.tmp rfl) (RV.tmp rfl) rfl rfl rfl (tup2 rfl rfl)

theorem bldWrite_any (b_bd : Nat) (q_bdBuf : Value) (bd : BldC) (sx : ByteArray) (w : World) (own : List Nat) (H : Wd w (blks [Res.box b_bd [selfP b_bd bd.Used, q_bdBuf] 124, Res.row 5 q_bdBuf (bd.Buf : List UInt8)] ++ own) ([Res.box b_bd [selfP b_bd bd.Used, q_bdBuf] 124, Res.row 5 q_bdBuf (bd.Buf : List UInt8)] ++ §34) [] w) (hl : bd.Buf.length + sx.size ≤ 1000000) : Calls Try.prog 70 #[.pointer (some ⟨b_bd, 0, none⟩), .string sx] w fun e w' => ∃ z : Value, e = .returned (.tuple #[.int .i64 (sx.size : Int), .nilIface]) ∧ Wd w (blks [Res.box b_bd [selfP b_bd bd.Used, q_bdBuf] 124, Res.row 5 q_bdBuf (bd.Buf : List UInt8)] ++ own) ([Res.box b_bd [selfP b_bd (((⟨true, bd.Buf ++ sx.data.toList⟩ : BldC)).Used), z] 124, Res.row 5 z (((⟨true, bd.Buf ++ sx.data.toList⟩ : BldC)).Buf : List UInt8)] ++ §34) [] w' := by
  obtain ⟨u_, l_⟩ := bd
  cases u_ with
  | true => exact bldWriteU_any b_bd q_bdBuf (⟨l_⟩ : BufC) sx w own H hl
  | false => exact bldWriteN_any b_bd q_bdBuf (⟨l_⟩ : BufC) sx w own H hl

theorem all_any (v_l : Value) (l : List Change) (w : World) (s_l : Sl w v_l l) (hl : l.length ≤ 1000) (hF : ∀ c ∈ l, chF c = 0) : Calls Try.prog 58 #[v_l] w fun e w' => e = .returned (.string (allB l)) ∧ Ext w w' := by
  have b_l := s_l.lenle
  refine R.enter (n := 36) (vs := [v_l]) [] [(0, v_l)] Try.func58 rfl rfl rfl rfl ?_
  refine R.oldL s_l ?_
  refine R.reg rfl <| R.u 1 rfl <| R.nil ?_
  refine R.reg rfl <| ?_
  refine R.s rfl (s.alloc (cs := [.pointer none, .slice none 0 0]) tZero_124 rfl rfl) fun b1 => ?_
  refine R.nil ?_
  refine R.reg rfl <| R.u 1 rfl <| R.q (q.len' (fun _ => Wd.fls 0 rfl) rfl Try.underlying46) rfl <| R.u 1 rfl <| R.nil ?_
  refine R.row0 (α := UInt8) 5 ?_
  refine R.loop (fun g_ : Nat × Bool × Value × (List UInt8) => [(3, .pointer (some ⟨b1, 0, none⟩)), (6, v_l), (7, .int .i64 (l.length : Int)), (8, .int .i64 (g_.1 : Int))]) (fun g_ : Nat × Bool × Value × (List UInt8) => [Res.row 5 g_.2.2.1 (g_.2.2.2 : List UInt8), Res.box b1 [selfP b1 g_.2.1, g_.2.2.1] 124]) (fun g_ : Nat × Bool × Value × (List UInt8) => [Res.ls v_l (l : List Change)]) (fun g_ : Nat × Bool × Value × (List UInt8) => g_.1 ≤ l.length ∧ g_.2.2.2 = (allB (l.take g_.1)).data.toList) (fun g_ : Nat × Bool × Value × (List UInt8) => l.length - g_.1) (0, false, (.slice none 0 0), []) rfl (by exact ⟨by omega, rfl⟩) ⟨rfl, rfl, rfl, rfl, trivial⟩ (fun _ => Wd.pick [0, 1] [0] rfl rfl rfl) ?_
  rintro ⟨k, u, qb, bb⟩ ⟨hk, HB⟩
  dsimp only at *
  have hbl : bb.length ≤ 35 * k := by have := allB_le (l := l.take k) (fun c hc => hF c (List.mem_of_mem_take hc)); rw [List.length_take] at this; rw [HB, Array.length_toList]; show (allB (l.take k)).size ≤ _; omega
  refine R.reg rfl <| ?_
  by_cases h1 : k < l.length
  · refine R.q §30 rfl <| R.nil ?_
    refine R.condT rfl rfl ?_
    refine R.reg rfl <| ?_
    obtain ⟨x1, hx1⟩ : ∃ z, l[k]? = some z := ⟨_, List.getElem?_eq_getElem (by omega)⟩
    obtain ⟨fx1, gx1, ix1, jx1⟩ := chF_zero (hF x1 (List.mem_of_getElem? hx1))
    refine R.q (q.idx (i := k) (fun _ => Wd.fls 0 rfl) rfl rfl tSl_46 rfl hx1) rfl <| R.q (q.ldES (ds := [.string x1.Key, .string x1.Val, .bool x1.Gone]) (fun _ => Wd.fls 0 rfl) hx1 rfl tAgg_51 rfl) rfl <| ?_
    refine R.s rfl (s.alloc (cs := [.string (⟨#[]⟩), .string (⟨#[]⟩), .bool false]) tZero_51 rfl rfl) fun b2 => ?_
    refine R.s rfl (s.st (us := [.string x1.Key, .string x1.Val, .bool x1.Gone]) (cs' := [.string x1.Key, .string x1.Val, .bool x1.Gone]) 0 _ rfl rfl rfl rfl (.inl tAgg_51) rfl rfl rfl rfl) fun _ => ?_
    refine R.nil ?_
    refine R.reg rfl <| R.q (q.fld (off' := 0) rfl tFld_51_0 rfl) rfl <| R.q (q.ld 0 rfl rfl tOne_9 rfl) rfl <| R.q (q.lenS rfl Try.underlying9) rfl <| R.q (q.cvi (r := ((x1.Key.size : Nat) : Int)) rfl (by rw [Try.underlying3]; rfl) Try.underlying5 (wr_u8 (by omega))) rfl <| R.q (q.fld (off' := 1) rfl tFld_51_1 rfl) rfl <| R.q (q.ld 0 rfl rfl tOne_9 rfl) rfl <| R.q (q.lenS rfl Try.underlying9) rfl <| R.q (q.cvi (r := ((x1.Val.size : Nat) : Int)) rfl (by rw [Try.underlying3]; rfl) Try.underlying5 (wr_u8 (by omega))) rfl <| R.q (q.fld (off' := 1) rfl tFld_51_1 rfl) rfl <| R.q (q.ld 0 rfl rfl tOne_9 rfl) rfl <| R.q (q.lenS rfl Try.underlying9) rfl <| R.q (q.shr (r := (((x1.Val.size / 256) : Nat) : Int)) rfl rfl (by decide) (shrN (by decide))) rfl <| R.q (q.cvi (r := (((x1.Val.size / 256) : Nat) : Int)) rfl (by rw [Try.underlying3]; rfl) Try.underlying5 (wr_u8 (by omega))) rfl <| ?_
    refine R.s rfl (s.bs (l := ([(UInt8.ofNat x1.Key.size), (UInt8.ofNat x1.Val.size), (UInt8.ofNat (x1.Val.size / 256))] : List UInt8)) tSl_109 tZero_5 rfl rfl rfl rfl rfl (cl_cons (u8n_cell (by omega)) (cl_cons (u8n_cell (by omega)) (cl_cons (u8n_cell (by omega)) cl_nil))) rfl) fun b3 => ?_
    refine R.q (q.b2s (fun _ => Wd.row 0 rfl) rfl tSl_109 Try.underlying5 Try.underlying9) rfl <| R.q (q.fld (off' := 0) rfl tFld_51_0 rfl) rfl <| R.q (q.ld 1 rfl rfl tOne_9 rfl) rfl <| R.q §12 rfl <| R.q (q.fld (off' := 1) rfl tFld_51_1 rfl) rfl <| R.q (q.ld 1 rfl rfl tOne_9 rfl) rfl <| R.q §12 rfl <| ?_
    refine R.s (B' := (fun bz0_ : Value => [Res.box b1 [selfP b1 (((⟨true, bb ++ (§8 ++ x1.Val).data.toList⟩ : BldC)).Used), bz0_] 124, Res.row 5 bz0_ (((⟨true, bb ++ (§8 ++ x1.Val).data.toList⟩ : BldC)).Buf : List UInt8), Res.row 5 (.slice (some ⟨b3, 0, none⟩) 3 3) ([(UInt8.ofNat x1.Key.size), (UInt8.ofNat x1.Val.size), (UInt8.ofNat (x1.Val.size / 256))] : List UInt8), Res.box b2 [.string x1.Key, .string x1.Val, .bool x1.Gone] 51])) (F' := (fun bz0_ : Value => [Res.ls v_l (l : List Change)])) rfl (s.callV (B0 := [Res.box b1 [selfP b1 u, qb] 124, Res.row 5 qb (bb : List UInt8)]) (Br := [Res.row 5 (.slice (some ⟨b3, 0, none⟩) 3 3) ([(UInt8.ofNat x1.Key.size), (UInt8.ofNat x1.Val.size), (UInt8.ofNat (x1.Val.size / 256))] : List UInt8), Res.box b2 [.string x1.Key, .string x1.Val, .bool x1.Gone] 51]) (F0 := []) [3, 2, 0, 1] [] (fun bz0_ : Value => .tuple #[.int .i64 (((§8 ++ x1.Val).size) : Int), .nilIface]) (fun bz0_ : Value => [Res.box b1 [selfP b1 (((⟨true, bb ++ (§8 ++ x1.Val).data.toList⟩ : BldC)).Used), bz0_] 124, Res.row 5 bz0_ (((⟨true, bb ++ (§8 ++ x1.Val).data.toList⟩ : BldC)).Buf : List UInt8)]) (fun bz0_ : Value => []) rfl rfl rfl eg_70 rfl rfl (fun w own hw H => bldWrite_any b1 qb ((⟨u, bb⟩ : BldC)) ((§8 ++ x1.Val)) w own H (by first | omega | assumption | (simp only [ByteArray.size_append, lit_size, List.length_cons, List.length_nil]; omega))) rfl) fun z1 => ?_
    refine R.nil ?_
    refine R.reg rfl <| R.q (q.add (r := ((k + 1 : Nat) : Int)) rfl rfl (wr (by omega))) rfl <| R.u 1 rfl <| R.nil ?_
    refine R.back (k + 1, true, z1, (bb ++ (§8 ++ x1.Val).data.toList)) rfl (by (exact ⟨by omega, by rw [allB_snoc hx1, HB]; simp [rowB]⟩)) (by dsimp only; omega) ⟨rfl, rfl, rfl, rfl, trivial⟩ (fun _ => Wd.pik [1, 0] [0] rfl rfl rfl)
  · refine R.q §25 rfl <| R.nil ?_
    refine R.condF rfl rfl ?_
    refine R.reg rfl <| ?_
    refine R.s rfl (s.bldS (i := 1) (j := 0) (u := u) (l := bb) eg_71 rfl rfl (by decide) rfl rfl (fun W h hW => Try.Builder_String_any _ _ _ W h hW) rfl) fun _ => ?_
    refine R.u 1 rfl <| R.nil ?_
    exact R.rv rfl Try.results58 rfl (rS (by (rw [HB, List.take_of_length_le (by omega)])))

end Go.Proofs.Ytpipachmngdegaa
end
