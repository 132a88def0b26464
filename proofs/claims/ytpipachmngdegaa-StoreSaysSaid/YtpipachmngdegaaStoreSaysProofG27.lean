import Derived.Test.YtpipachmngdegaaStoreSaysProofG19
import Derived.Test.YtpipachmngdegaaStoreSaysProofG23
import Derived.Test.YtpipachmngdegaaStoreSaysProofG26
section
/-
  The walks of chapter 9: a log. The program's.
-/
namespace Go.Proofs.Ytpipachmngdegaa
open Go Go.RowKit
set_option linter.unusedVariables false
set_option linter.unusedSimpArgs false
set_option maxRecDepth 100000
set_option hygiene false
local macro:max "§0" : term => `((q.cat rfl rfl (by first | omega | (simp only [ByteArray.size_append, lit_size, fourB_size, List.length_cons, List.length_nil]; omega))))
local macro:max "§1" : term => `((fun _ => Wd.pik [] [] rfl rfl rfl))
local macro:max "§2" : term => `([.pointer (some ⟨b_dk, 0, none⟩), .int .i64 lg.From, .int .i64 lg.Many, .int .i64 lg.First, .int .i64 lg.Next])
local macro:max "§3" : term => `((by (first | (rw [(look_none (look_no1 (by assumption))).2]) | (rw [(look_none (look_no2 (by rw [byteAt_of hy1]; omega) (by rw [byteAt_of hy1]; omega))).2]) | (rw [(look_none (look_no3 (by unfold lenB; rw [byteAt_of hy2, byteAt_of hy3]; omega))).2]) | (rw [(look_none (look_no3 (by unfold lenB; rw [byteAt_of hy4, byteAt_of hy5]; omega))).2]) | (rw [(look_some (look_yes (by assumption) (by rw [byteAt_of hy1]; omega) (by unfold lenB; rw [byteAt_of hy2, byteAt_of hy3]; omega))).2]; unfold txtB lenB; rw [byteAt_of hy2, byteAt_of hy3]) | (rw [(look_some (look_yes (by assumption) (by rw [byteAt_of hy1]; omega) (by unfold lenB; rw [byteAt_of hy4, byteAt_of hy5]; omega))).2]; unfold txtB lenB; rw [byteAt_of hy4, byteAt_of hy5]))))
local macro:max "§4" : term => `((by (first | (rw [(look_none (look_no1 (by assumption))).1]; rfl) | (rw [(look_none (look_no2 (by rw [byteAt_of hy1]; omega) (by rw [byteAt_of hy1]; omega))).1]; rfl) | (rw [(look_none (look_no3 (by unfold lenB; rw [byteAt_of hy2, byteAt_of hy3]; omega))).1]; rfl) | (rw [(look_none (look_no3 (by unfold lenB; rw [byteAt_of hy4, byteAt_of hy5]; omega))).1]; rfl) | (rw [(look_some (look_yes (by assumption) (by rw [byteAt_of hy1]; omega) (by unfold lenB; rw [byteAt_of hy2, byteAt_of hy3]; omega))).1, byteAt_of hy1]) | (rw [(look_some (look_yes (by assumption) (by rw [byteAt_of hy1]; omega) (by unfold lenB; rw [byteAt_of hy4, byteAt_of hy5]; omega))).1, byteAt_of hy1]))))
local macro:max "§5" : term => `((by kernel_rfl))
local macro:max "§6" : term => `((s.c (Qt.a (q.b2s (fun _ => Wd.row 0 rfl) rfl tSl_109 Try.underlying5 Try.underlying9)) rfl))
local macro:max "§7" : term => `((by (first | (exact (look_no1 (by assumption)).symm) | (exact (look_no2 (by rw [byteAt_of hy1]; omega) (by rw [byteAt_of hy1]; omega)).symm) | (exact (look_no3 (by unfold lenB; rw [byteAt_of hy2, byteAt_of hy3]; omega)).symm) | (exact (look_no3 (by unfold lenB; rw [byteAt_of hy4, byteAt_of hy5]; omega)).symm) | (exact (look_yes (by assumption) (by rw [byteAt_of hy1]; omega) (by unfold lenB; rw [byteAt_of hy2, byteAt_of hy3]; omega)).symm) | (exact (look_yes (by assumption) (by rw [byteAt_of hy1]; omega) (by unfold lenB; rw [byteAt_of hy4, byteAt_of hy5]; omega)).symm))))
local macro:max "§8" : term => `([Res.box b_lg §2 85, Res.box b_dk [q_dkKept, q_dkNow, q_dkWait, .int .i64 dk.Fuse, .bool dk.Down] 81, Res.row 9 q_dkKept (dk.Kept : List ByteArray), Res.row 9 q_dkNow (dk.Now : List ByteArray), Res.row 83 q_dkWait (dk.Wait : List Turn)])
local macro:max "§9" : term => `((s.bs (l := ([(UInt8.ofNat sx.size), (UInt8.ofNat (sx.size / 256))] : List UInt8)) tSl_109 tZero_5 rfl rfl rfl rfl rfl (cl_cons (u8n_cell (by omega)) (cl_cons (u8n_cell (by omega)) cl_nil)) rfl))
local macro:max "§10" : term => `((s.c (Qt.a (q.b2s (fun _ => Wd.row 1 rfl) rfl tSl_109 Try.underlying5 Try.underlying9)) rfl))
local macro:max "§11" : term => `((by assumption))
local macro:max "§12" : term => `((⟨.func 52, #[], #[.pointer (some ⟨b1, 0, none⟩), .pointer (some ⟨b4, 0, none⟩), .pointer (some ⟨b2, 0, none⟩)]⟩ : FnV))
local macro:max "§13" : term => `((⟨.func 51, #[.pointer (some ⟨b_dk, 0, none⟩)], #[]⟩ : FnV))
local macro:max "§14" : term => `((s.c (q.call eg_44 rfl rfl (fun w hw => (four_any (n) w  (by omega)))) rfl))
local macro:max "§15" : term => `((⟨.func 49, #[], #[.pointer (some ⟨b1, 0, none⟩), .pointer (some ⟨b2, 0, none⟩)]⟩ : FnV))
local macro:max "§16" : term => `([Res.box b_pl [.pointer (some ⟨b_lg, 0, none⟩)] 32, Res.box b_pe [.int .i64 pe.E] 3, Res.box b_pc [q_pcC] 46, Res.box b_lg §2 85, Res.box b_dk [q_dkKept, q_dkNow, q_dkWait, .int .i64 dk.Fuse, .bool dk.Down] 81, Res.row 9 q_dkKept (dk.Kept : List ByteArray), Res.row 9 q_dkNow (dk.Now : List ByteArray), Res.row 83 q_dkWait (dk.Wait : List Turn)])
local macro:max "§17" : term => `([.pointer (some ⟨b_dk, 0, none⟩), .int .i64 ((lg).From), .int .i64 ((lg).Many), .int .i64 ((lg).First), .int .i64 ((lg).Next)])
local macro:max "§18" : term => `((s.bs (l := ([(u8 k)] : List UInt8)) tSl_109 tZero_5 rfl rfl rfl rfl rfl (cl_cons (u8_cell (by omega)) cl_nil) rfl))
local macro:max "§19" : term => `([.pointer (some ⟨b_lg, 0, none⟩)])
local macro:max "§20" : term => `((fun _ => Wd.pik [0, 1, 2, 3, 8] [0] rfl rfl rfl))
local macro:max "§21" : term => `((fun _ => §1))
local macro:max "§22" : term => `([Res.row 51 qd (dd : List Change), Res.box b1 [.pointer (some ⟨b_dk, 0, none⟩), .int .i64 frm, .int .i64 (manyN : Int), .int .i64 first, .int .i64 (u : Int)] 85, Res.box b_dk [q_dkKept, q_dkNow, q_dkWait, .int .i64 dk.Fuse, .bool dk.Down] 81, Res.row 9 q_dkKept (dk.Kept : List ByteArray), Res.row 9 q_dkNow (dk.Now : List ByteArray), Res.row 83 q_dkWait (dk.Wait : List Turn), Res.held w own])
local macro:max "§23" : term => `((fun _ => Wd.pik [0, 1, 6] [0] rfl rfl rfl))
local macro:max "§24" : term => `((fun _ => Wd.pik [0, 1, 2, 3, 4, 5, 6, 7, 8] [0] rfl rfl rfl))
local macro:max "§25" : term => `([Res.box b_dk [q_dkKept, q_dkNow, q_dkWait, .int .i64 dk.Fuse, .bool dk.Down] 81, Res.row 9 q_dkKept (dk.Kept : List ByteArray), Res.row 9 q_dkNow (dk.Now : List ByteArray), Res.row 83 q_dkWait (dk.Wait : List Turn)])
local macro:max "§26" : term => `([Res.box b_pl §19 32, Res.box b_pc [q_pcC] 46, Res.box b_lg §2 85, Res.box b_dk [q_dkKept, q_dkNow, q_dkWait, .int .i64 dk.Fuse, .bool dk.Down] 81, Res.row 9 q_dkKept (dk.Kept : List ByteArray), Res.row 9 q_dkNow (dk.Now : List ByteArray), Res.row 83 q_dkWait (dk.Wait : List Turn)])
local macro:max "§27" : term => `([.string (((chP (lookX ((dRead dk (frm + (i : Int))).1) (first + (i : Int)))).1).Key), .string (((chP (lookX ((dRead dk (frm + (i : Int))).1) (first + (i : Int)))).1).Val), .bool (((chP (lookX ((dRead dk (frm + (i : Int))).1) (first + (i : Int)))).1).Gone)])
local macro:max "§28" : term => `((q.neqE0 rfl rfl Try.underlying28 (by omega)))
local macro:max "§29" : term => `((⟨frm, (manyN : Int), first, (u : Int)⟩ : Lg))
local macro:max "§30" : term => `((q.len' (fun _ => Wd.fls 0 rfl) rfl Try.underlying46))
local macro:max "§31" : term => `([.string x1.Key, .string x1.Val, .bool x1.Gone])
local macro:max "§32" : term => `([.pointer (some ⟨p_lg_d, 0, none⟩), .int .i64 lg.From, .int .i64 lg.Many, .int .i64 lg.First, .int .i64 lg.Next])
local macro:max "§33" : term => `((fun _ => Wd.pik [0, 1, 2, 3, 4, 5, 6, 7] [0] rfl rfl rfl))
local macro:max "§34" : term => `((fun _ => Wd.pik [0, 5] [0] rfl rfl rfl))
local macro:max "§35" : term => `([.int .i64 (lg.Next + (c.length : Int))])
local macro:max "§36" : term => `((⟨frm, ((manyN : Nat) : Int), first, (opnU dk frm (Int.toNat ((manyN : Nat) : Int)) first : Int)⟩ : Lg))
local macro:max "§37" : term => `([Res.box b2 [v_c] 46, Res.box b1 §19 32, Res.box b_lg §2 85, Res.box b_dk [q_dkKept, q_dkNow, q_dkWait, .int .i64 dk.Fuse, .bool dk.Down] 81, Res.row 9 q_dkKept (dk.Kept : List ByteArray), Res.row 9 q_dkNow (dk.Now : List ByteArray), Res.row 83 q_dkWait (dk.Wait : List Turn), Res.held w own])
local macro:max "§38" : term => `((q.sIdx (i := 0) rfl rfl Try.underlying9 rfl hy1))
local macro:max "§39" : term => `([Res.ls v_c (c : List Change)])
local macro:max "§40" : term => `([Res.box b_lg §2 85, Res.box b_dk [q_dkKept, q_dkNow, q_dkWait, .int .i64 dk.Fuse, .bool dk.Down] 81, Res.row 9 q_dkKept (dk.Kept : List ByteArray), Res.row 9 q_dkNow (dk.Now : List ByteArray), Res.row 83 q_dkWait (dk.Wait : List Turn), Res.held w own])
local macro:max "§41" : term => `((q.call eg_44 rfl rfl (fun w hw => (four_any ((lg.First + (i : Int))) w  (by omega)))))
local macro:max "§42" : term => `((by first | assumption | omega | (dsimp only; omega)))
local macro:max "§43" : term => `((q.neqE1 rfl rfl Try.underlying28 (by omega)))
local macro:max "§44" : term => `((q.sSl (i := 1) (j := 5) rfl rfl rfl Try.underlying9 rfl rfl (by omega) (by omega)))
local macro:max "§45" : term => `((q.lss rfl rfl (decide_eq_false (by omega))))
local macro:max "§46" : term => `((q.add (r := ((i + 1 : Nat) : Int)) rfl rfl (wr (by omega))))

theorem four_any (n : Int) (w : World) (hn : 0 ≤ n ∧ n ≤ 9000000000000000000) : Calls Try.prog 44 #[.int .i64 n] w fun e w' => e = .returned (.string (fourB n)) ∧ Ext w w' := by
  refine R.enter (n := 16) (vs := [.int .i64 n]) [] [(0, .int .i64 n)] Try.func44 rfl rfl rfl rfl ?_
  refine R.reg rfl <| R.u 1 rfl <| R.nil ?_
  refine R.reg rfl <| R.u 1 rfl <| R.q (q.cvi rfl (by rw [Try.underlying3]; rfl) Try.underlying5 wr_u8m) rfl <| R.u 1 rfl <| R.q (q.shr (r := n / 256) rfl rfl (by decide) (shrI (D := 256) (by decide) (by decide))) rfl <| R.q (q.cvi rfl (by rw [Try.underlying3]; rfl) Try.underlying5 wr_u8m) rfl <| R.u 1 rfl <| R.q (q.shr (r := n / 65536) rfl rfl (by decide) (shrI (D := 65536) (by decide) (by decide))) rfl <| R.q (q.cvi rfl (by rw [Try.underlying3]; rfl) Try.underlying5 wr_u8m) rfl <| R.u 1 rfl <| R.q (q.shr (r := n / 16777216) rfl rfl (by decide) (shrI (D := 16777216) (by decide) (by decide))) rfl <| R.q (q.cvi rfl (by rw [Try.underlying3]; rfl) Try.underlying5 wr_u8m) rfl <| ?_
  refine R.s rfl (s.bs (l := ([(u8 (n % 256)), (u8 ((n / 256) % 256)), (u8 ((n / 65536) % 256)), (u8 ((n / 16777216) % 256))] : List UInt8)) tSl_109 tZero_5 rfl rfl rfl rfl rfl (cl_cons (u8_cell (by omega)) (cl_cons (u8_cell (by omega)) (cl_cons (u8_cell (by omega)) (cl_cons (u8_cell (by omega)) cl_nil)))) rfl) fun b1 => ?_
  refine R.q (q.b2s (fun _ => Wd.row 0 rfl) rfl tSl_109 Try.underlying5 Try.underlying9) rfl <| R.u 1 rfl <| R.nil ?_
  exact R.rv rfl Try.results44 rfl (rS (by (rfl)))

theorem text_any (k : Int) (n : Int) (sx : ByteArray) (w : World) (hk : 0 ≤ k ∧ k ≤ 255) (hn : 0 ≤ n ∧ n ≤ 9000000000000000000) (hs : sx.size ≤ 41) : Calls Try.prog 53 #[.int .u8 k, .int .i64 n, .string sx] w fun e w' => e = .returned (.string (secT k n sx)) ∧ Ext w w' := by
  refine R.enter (n := 25) (vs := [.int .u8 k, .int .i64 n, .string sx]) [] [(0, .int .u8 k), (1, .int .i64 n), (2, .string sx)] Try.func53 rfl rfl rfl rfl ?_
  refine R.reg rfl <| R.u 1 rfl <| R.nil ?_
  refine R.regD (fuel := 19) (Wd w [] [] []) rfl mixed rfl ?_
  refine D.q (i := 0) rfl §5 §1 rfl (q.mv rfl) rfl <| D.q (i := 3) rfl §5 §1 rfl (q.mv rfl) rfl <| D.q (i := 6) rfl §5 §1 rfl (q.mv rfl) rfl <| D.q (i := 7) rfl §5 §1 rfl (q.lenS rfl Try.underlying9) rfl <| D.q (i := 8) rfl §5 §1 rfl (q.cvi (r := ((sx.size : Nat) : Int)) rfl (by rw [Try.underlying3]; rfl) Try.underlying5 (wr_u8 (by omega))) rfl <| D.q (i := 9) rfl §5 §1 rfl (q.mv rfl) rfl <| D.q (i := 10) rfl §5 §1 rfl (q.lenS rfl Try.underlying9) rfl <| D.q (i := 11) rfl §5 §1 rfl (q.shr (r := (((sx.size / 256) : Nat) : Int)) rfl rfl (by decide) (shrN (by decide))) rfl <| D.q (i := 12) rfl §5 §1 rfl (q.cvi (r := (((sx.size / 256) : Nat) : Int)) rfl (by rw [Try.underlying3]; rfl) Try.underlying5 (wr_u8 (by omega))) rfl <| D.q (i := 16) rfl §5 §1 rfl (q.mv rfl) rfl <| ?_
  refine D.three (i := 1) (j := 4) (m := 13) §5 rfl rfl rfl ?_ ?_ ?_
  · refine Do.s §18 §21 rfl fun b1 => ?_
    refine D.three (i := 2) (j := 4) (m := 13) §5 rfl rfl rfl ?_ ?_ ?_
    · refine Do.s §6 §21 rfl fun _ => ?_
      refine D.two (i := 4) (j := 13) §5 rfl rfl ?_ ?_
      · refine Do.s §14 §21 rfl fun _ => ?_
        refine D.q (i := 5) rfl §5 §1 rfl §0 rfl <| ?_
        refine D.one (i := 13) §5 rfl ?_
        refine Do.s §9 §21 rfl fun b2 => ?_
        refine D.one (i := 14) §5 rfl ?_
        refine Do.s §6 §21 rfl fun _ => ?_
        refine D.q (i := 15) rfl §5 §1 rfl §0 rfl <| D.q (i := 17) rfl §5 §1 rfl §0 rfl <| D.q (i := 18) rfl §5 §1 rfl (q.as rfl) rfl <| D.done §5 <| ?_
        exact R.rv rfl Try.results53 rfl (rS (by (rfl)))
      · refine Do.s §9 §21 rfl fun b3 => ?_
        refine D.two (i := 4) (j := 14) §5 rfl rfl ?_ ?_
        · refine Do.s §14 §21 rfl fun _ => ?_
          refine D.q (i := 5) rfl §5 §1 rfl §0 rfl <| ?_
          refine D.one (i := 14) §5 rfl ?_
          refine Do.s §6 §21 rfl fun _ => ?_
          refine D.q (i := 15) rfl §5 §1 rfl §0 rfl <| D.q (i := 17) rfl §5 §1 rfl §0 rfl <| D.q (i := 18) rfl §5 §1 rfl (q.as rfl) rfl <| D.done §5 <| ?_
          exact R.rv rfl Try.results53 rfl (rS (by (rfl)))
        · refine Do.s §6 §21 rfl fun _ => ?_
          refine D.one (i := 4) §5 rfl ?_
          refine Do.s §14 §21 rfl fun _ => ?_
          refine D.q (i := 5) rfl §5 §1 rfl §0 rfl <| D.q (i := 15) rfl §5 §1 rfl §0 rfl <| D.q (i := 17) rfl §5 §1 rfl §0 rfl <| D.q (i := 18) rfl §5 §1 rfl (q.as rfl) rfl <| D.done §5 <| ?_
          exact R.rv rfl Try.results53 rfl (rS (by (rfl)))
    · refine Do.s §14 §21 rfl fun _ => ?_
      refine D.two (i := 2) (j := 13) §5 rfl rfl ?_ ?_
      · refine Do.s §6 §21 rfl fun _ => ?_
        refine D.q (i := 5) rfl §5 §1 rfl §0 rfl <| ?_
        refine D.one (i := 13) §5 rfl ?_
        refine Do.s §9 §21 rfl fun b4 => ?_
        refine D.one (i := 14) §5 rfl ?_
        refine Do.s §6 §21 rfl fun _ => ?_
        refine D.q (i := 15) rfl §5 §1 rfl §0 rfl <| D.q (i := 17) rfl §5 §1 rfl §0 rfl <| D.q (i := 18) rfl §5 §1 rfl (q.as rfl) rfl <| D.done §5 <| ?_
        exact R.rv rfl Try.results53 rfl (rS (by (rfl)))
      · refine Do.s §9 §21 rfl fun b5 => ?_
        refine D.two (i := 2) (j := 14) §5 rfl rfl ?_ ?_
        · refine Do.s §10 §21 rfl fun _ => ?_
          refine D.q (i := 5) rfl §5 §1 rfl §0 rfl <| ?_
          refine D.one (i := 14) §5 rfl ?_
          refine Do.s §6 §21 rfl fun _ => ?_
          refine D.q (i := 15) rfl §5 §1 rfl §0 rfl <| D.q (i := 17) rfl §5 §1 rfl §0 rfl <| D.q (i := 18) rfl §5 §1 rfl (q.as rfl) rfl <| D.done §5 <| ?_
          exact R.rv rfl Try.results53 rfl (rS (by (rfl)))
        · refine Do.s §6 §21 rfl fun _ => ?_
          refine D.one (i := 2) §5 rfl ?_
          refine Do.s §10 §21 rfl fun _ => ?_
          refine D.q (i := 5) rfl §5 §1 rfl §0 rfl <| D.q (i := 15) rfl §5 §1 rfl §0 rfl <| D.q (i := 17) rfl §5 §1 rfl §0 rfl <| D.q (i := 18) rfl §5 §1 rfl (q.as rfl) rfl <| D.done §5 <| ?_
          exact R.rv rfl Try.results53 rfl (rS (by (rfl)))
    · refine Do.s §9 §21 rfl fun b6 => ?_
      refine D.three (i := 2) (j := 4) (m := 14) §5 rfl rfl rfl ?_ ?_ ?_
      · refine Do.s §10 §21 rfl fun _ => ?_
        refine D.two (i := 4) (j := 14) §5 rfl rfl ?_ ?_
        · refine Do.s §14 §21 rfl fun _ => ?_
          refine D.q (i := 5) rfl §5 §1 rfl §0 rfl <| ?_
          refine D.one (i := 14) §5 rfl ?_
          refine Do.s §6 §21 rfl fun _ => ?_
          refine D.q (i := 15) rfl §5 §1 rfl §0 rfl <| D.q (i := 17) rfl §5 §1 rfl §0 rfl <| D.q (i := 18) rfl §5 §1 rfl (q.as rfl) rfl <| D.done §5 <| ?_
          exact R.rv rfl Try.results53 rfl (rS (by (rfl)))
        · refine Do.s §6 §21 rfl fun _ => ?_
          refine D.one (i := 4) §5 rfl ?_
          refine Do.s §14 §21 rfl fun _ => ?_
          refine D.q (i := 5) rfl §5 §1 rfl §0 rfl <| D.q (i := 15) rfl §5 §1 rfl §0 rfl <| D.q (i := 17) rfl §5 §1 rfl §0 rfl <| D.q (i := 18) rfl §5 §1 rfl (q.as rfl) rfl <| D.done §5 <| ?_
          exact R.rv rfl Try.results53 rfl (rS (by (rfl)))
      · refine Do.s §14 §21 rfl fun _ => ?_
        refine D.two (i := 2) (j := 14) §5 rfl rfl ?_ ?_
        · refine Do.s §10 §21 rfl fun _ => ?_
          refine D.q (i := 5) rfl §5 §1 rfl §0 rfl <| ?_
          refine D.one (i := 14) §5 rfl ?_
          refine Do.s §6 §21 rfl fun _ => ?_
          refine D.q (i := 15) rfl §5 §1 rfl §0 rfl <| D.q (i := 17) rfl §5 §1 rfl §0 rfl <| D.q (i := 18) rfl §5 §1 rfl (q.as rfl) rfl <| D.done §5 <| ?_
          exact R.rv rfl Try.results53 rfl (rS (by (rfl)))
        · refine Do.s §6 §21 rfl fun _ => ?_
          refine D.one (i := 2) §5 rfl ?_
          refine Do.s §10 §21 rfl fun _ => ?_
          refine D.q (i := 5) rfl §5 §1 rfl §0 rfl <| D.q (i := 15) rfl §5 §1 rfl §0 rfl <| D.q (i := 17) rfl §5 §1 rfl §0 rfl <| D.q (i := 18) rfl §5 §1 rfl (q.as rfl) rfl <| D.done §5 <| ?_
          exact R.rv rfl Try.results53 rfl (rS (by (rfl)))
      · refine Do.s §6 §21 rfl fun _ => ?_
        refine D.two (i := 2) (j := 4) §5 rfl rfl ?_ ?_
        · refine Do.s §10 §21 rfl fun _ => ?_
          refine D.one (i := 4) §5 rfl ?_
          refine Do.s §14 §21 rfl fun _ => ?_
          refine D.q (i := 5) rfl §5 §1 rfl §0 rfl <| D.q (i := 15) rfl §5 §1 rfl §0 rfl <| D.q (i := 17) rfl §5 §1 rfl §0 rfl <| D.q (i := 18) rfl §5 §1 rfl (q.as rfl) rfl <| D.done §5 <| ?_
          exact R.rv rfl Try.results53 rfl (rS (by (rfl)))
        · refine Do.s §14 §21 rfl fun _ => ?_
          refine D.one (i := 2) §5 rfl ?_
          refine Do.s §10 §21 rfl fun _ => ?_
          refine D.q (i := 5) rfl §5 §1 rfl §0 rfl <| D.q (i := 15) rfl §5 §1 rfl §0 rfl <| D.q (i := 17) rfl §5 §1 rfl §0 rfl <| D.q (i := 18) rfl §5 §1 rfl (q.as rfl) rfl <| D.done §5 <| ?_
          exact R.rv rfl Try.results53 rfl (rS (by (rfl)))
  · refine Do.s §14 §21 rfl fun _ => ?_
    refine D.two (i := 1) (j := 13) §5 rfl rfl ?_ ?_
    · refine Do.s §18 §21 rfl fun b7 => ?_
      refine D.two (i := 2) (j := 13) §5 rfl rfl ?_ ?_
      · refine Do.s §6 §21 rfl fun _ => ?_
        refine D.q (i := 5) rfl §5 §1 rfl §0 rfl <| ?_
        refine D.one (i := 13) §5 rfl ?_
        refine Do.s §9 §21 rfl fun b8 => ?_
        refine D.one (i := 14) §5 rfl ?_
        refine Do.s §6 §21 rfl fun _ => ?_
        refine D.q (i := 15) rfl §5 §1 rfl §0 rfl <| D.q (i := 17) rfl §5 §1 rfl §0 rfl <| D.q (i := 18) rfl §5 §1 rfl (q.as rfl) rfl <| D.done §5 <| ?_
        exact R.rv rfl Try.results53 rfl (rS (by (rfl)))
      · refine Do.s §9 §21 rfl fun b9 => ?_
        refine D.two (i := 2) (j := 14) §5 rfl rfl ?_ ?_
        · refine Do.s §10 §21 rfl fun _ => ?_
          refine D.q (i := 5) rfl §5 §1 rfl §0 rfl <| ?_
          refine D.one (i := 14) §5 rfl ?_
          refine Do.s §6 §21 rfl fun _ => ?_
          refine D.q (i := 15) rfl §5 §1 rfl §0 rfl <| D.q (i := 17) rfl §5 §1 rfl §0 rfl <| D.q (i := 18) rfl §5 §1 rfl (q.as rfl) rfl <| D.done §5 <| ?_
          exact R.rv rfl Try.results53 rfl (rS (by (rfl)))
        · refine Do.s §6 §21 rfl fun _ => ?_
          refine D.one (i := 2) §5 rfl ?_
          refine Do.s §10 §21 rfl fun _ => ?_
          refine D.q (i := 5) rfl §5 §1 rfl §0 rfl <| D.q (i := 15) rfl §5 §1 rfl §0 rfl <| D.q (i := 17) rfl §5 §1 rfl §0 rfl <| D.q (i := 18) rfl §5 §1 rfl (q.as rfl) rfl <| D.done §5 <| ?_
          exact R.rv rfl Try.results53 rfl (rS (by (rfl)))
    · refine Do.s §9 §21 rfl fun b10 => ?_
      refine D.two (i := 1) (j := 14) §5 rfl rfl ?_ ?_
      · refine Do.s §18 §21 rfl fun b11 => ?_
        refine D.two (i := 2) (j := 14) §5 rfl rfl ?_ ?_
        · refine Do.s §6 §21 rfl fun _ => ?_
          refine D.q (i := 5) rfl §5 §1 rfl §0 rfl <| ?_
          refine D.one (i := 14) §5 rfl ?_
          refine Do.s §10 §21 rfl fun _ => ?_
          refine D.q (i := 15) rfl §5 §1 rfl §0 rfl <| D.q (i := 17) rfl §5 §1 rfl §0 rfl <| D.q (i := 18) rfl §5 §1 rfl (q.as rfl) rfl <| D.done §5 <| ?_
          exact R.rv rfl Try.results53 rfl (rS (by (rfl)))
        · refine Do.s §10 §21 rfl fun _ => ?_
          refine D.one (i := 2) §5 rfl ?_
          refine Do.s §6 §21 rfl fun _ => ?_
          refine D.q (i := 5) rfl §5 §1 rfl §0 rfl <| D.q (i := 15) rfl §5 §1 rfl §0 rfl <| D.q (i := 17) rfl §5 §1 rfl §0 rfl <| D.q (i := 18) rfl §5 §1 rfl (q.as rfl) rfl <| D.done §5 <| ?_
          exact R.rv rfl Try.results53 rfl (rS (by (rfl)))
      · refine Do.s §6 §21 rfl fun _ => ?_
        refine D.one (i := 1) §5 rfl ?_
        refine Do.s §18 §21 rfl fun b12 => ?_
        refine D.one (i := 2) §5 rfl ?_
        refine Do.s §6 §21 rfl fun _ => ?_
        refine D.q (i := 5) rfl §5 §1 rfl §0 rfl <| D.q (i := 15) rfl §5 §1 rfl §0 rfl <| D.q (i := 17) rfl §5 §1 rfl §0 rfl <| D.q (i := 18) rfl §5 §1 rfl (q.as rfl) rfl <| D.done §5 <| ?_
        exact R.rv rfl Try.results53 rfl (rS (by (rfl)))
  · refine Do.s §9 §21 rfl fun b13 => ?_
    refine D.three (i := 1) (j := 4) (m := 14) §5 rfl rfl rfl ?_ ?_ ?_
    · refine Do.s §18 §21 rfl fun b14 => ?_
      refine D.three (i := 2) (j := 4) (m := 14) §5 rfl rfl rfl ?_ ?_ ?_
      · refine Do.s §6 §21 rfl fun _ => ?_
        refine D.two (i := 4) (j := 14) §5 rfl rfl ?_ ?_
        · refine Do.s §14 §21 rfl fun _ => ?_
          refine D.q (i := 5) rfl §5 §1 rfl §0 rfl <| ?_
          refine D.one (i := 14) §5 rfl ?_
          refine Do.s §10 §21 rfl fun _ => ?_
          refine D.q (i := 15) rfl §5 §1 rfl §0 rfl <| D.q (i := 17) rfl §5 §1 rfl §0 rfl <| D.q (i := 18) rfl §5 §1 rfl (q.as rfl) rfl <| D.done §5 <| ?_
          exact R.rv rfl Try.results53 rfl (rS (by (rfl)))
        · refine Do.s §10 §21 rfl fun _ => ?_
          refine D.one (i := 4) §5 rfl ?_
          refine Do.s §14 §21 rfl fun _ => ?_
          refine D.q (i := 5) rfl §5 §1 rfl §0 rfl <| D.q (i := 15) rfl §5 §1 rfl §0 rfl <| D.q (i := 17) rfl §5 §1 rfl §0 rfl <| D.q (i := 18) rfl §5 §1 rfl (q.as rfl) rfl <| D.done §5 <| ?_
          exact R.rv rfl Try.results53 rfl (rS (by (rfl)))
      · refine Do.s §14 §21 rfl fun _ => ?_
        refine D.two (i := 2) (j := 14) §5 rfl rfl ?_ ?_
        · refine Do.s §6 §21 rfl fun _ => ?_
          refine D.q (i := 5) rfl §5 §1 rfl §0 rfl <| ?_
          refine D.one (i := 14) §5 rfl ?_
          refine Do.s §10 §21 rfl fun _ => ?_
          refine D.q (i := 15) rfl §5 §1 rfl §0 rfl <| D.q (i := 17) rfl §5 §1 rfl §0 rfl <| D.q (i := 18) rfl §5 §1 rfl (q.as rfl) rfl <| D.done §5 <| ?_
          exact R.rv rfl Try.results53 rfl (rS (by (rfl)))
        · refine Do.s §10 §21 rfl fun _ => ?_
          refine D.one (i := 2) §5 rfl ?_
          refine Do.s §6 §21 rfl fun _ => ?_
          refine D.q (i := 5) rfl §5 §1 rfl §0 rfl <| D.q (i := 15) rfl §5 §1 rfl §0 rfl <| D.q (i := 17) rfl §5 §1 rfl §0 rfl <| D.q (i := 18) rfl §5 §1 rfl (q.as rfl) rfl <| D.done §5 <| ?_
          exact R.rv rfl Try.results53 rfl (rS (by (rfl)))
      · refine Do.s §10 §21 rfl fun _ => ?_
        refine D.two (i := 2) (j := 4) §5 rfl rfl ?_ ?_
        · refine Do.s §6 §21 rfl fun _ => ?_
          refine D.one (i := 4) §5 rfl ?_
          refine Do.s §14 §21 rfl fun _ => ?_
          refine D.q (i := 5) rfl §5 §1 rfl §0 rfl <| D.q (i := 15) rfl §5 §1 rfl §0 rfl <| D.q (i := 17) rfl §5 §1 rfl §0 rfl <| D.q (i := 18) rfl §5 §1 rfl (q.as rfl) rfl <| D.done §5 <| ?_
          exact R.rv rfl Try.results53 rfl (rS (by (rfl)))
        · refine Do.s §14 §21 rfl fun _ => ?_
          refine D.one (i := 2) §5 rfl ?_
          refine Do.s §6 §21 rfl fun _ => ?_
          refine D.q (i := 5) rfl §5 §1 rfl §0 rfl <| D.q (i := 15) rfl §5 §1 rfl §0 rfl <| D.q (i := 17) rfl §5 §1 rfl §0 rfl <| D.q (i := 18) rfl §5 §1 rfl (q.as rfl) rfl <| D.done §5 <| ?_
          exact R.rv rfl Try.results53 rfl (rS (by (rfl)))
    · refine Do.s §14 §21 rfl fun _ => ?_
      refine D.two (i := 1) (j := 14) §5 rfl rfl ?_ ?_
      · refine Do.s §18 §21 rfl fun b15 => ?_
        refine D.two (i := 2) (j := 14) §5 rfl rfl ?_ ?_
        · refine Do.s §6 §21 rfl fun _ => ?_
          refine D.q (i := 5) rfl §5 §1 rfl §0 rfl <| ?_
          refine D.one (i := 14) §5 rfl ?_
          refine Do.s §10 §21 rfl fun _ => ?_
          refine D.q (i := 15) rfl §5 §1 rfl §0 rfl <| D.q (i := 17) rfl §5 §1 rfl §0 rfl <| D.q (i := 18) rfl §5 §1 rfl (q.as rfl) rfl <| D.done §5 <| ?_
          exact R.rv rfl Try.results53 rfl (rS (by (rfl)))
        · refine Do.s §10 §21 rfl fun _ => ?_
          refine D.one (i := 2) §5 rfl ?_
          refine Do.s §6 §21 rfl fun _ => ?_
          refine D.q (i := 5) rfl §5 §1 rfl §0 rfl <| D.q (i := 15) rfl §5 §1 rfl §0 rfl <| D.q (i := 17) rfl §5 §1 rfl §0 rfl <| D.q (i := 18) rfl §5 §1 rfl (q.as rfl) rfl <| D.done §5 <| ?_
          exact R.rv rfl Try.results53 rfl (rS (by (rfl)))
      · refine Do.s §6 §21 rfl fun _ => ?_
        refine D.one (i := 1) §5 rfl ?_
        refine Do.s §18 §21 rfl fun b16 => ?_
        refine D.one (i := 2) §5 rfl ?_
        refine Do.s §6 §21 rfl fun _ => ?_
        refine D.q (i := 5) rfl §5 §1 rfl §0 rfl <| D.q (i := 15) rfl §5 §1 rfl §0 rfl <| D.q (i := 17) rfl §5 §1 rfl §0 rfl <| D.q (i := 18) rfl §5 §1 rfl (q.as rfl) rfl <| D.done §5 <| ?_
        exact R.rv rfl Try.results53 rfl (rS (by (rfl)))
    · refine Do.s §6 §21 rfl fun _ => ?_
      refine D.two (i := 1) (j := 4) §5 rfl rfl ?_ ?_
      · refine Do.s §18 §21 rfl fun b17 => ?_
        refine D.two (i := 2) (j := 4) §5 rfl rfl ?_ ?_
        · refine Do.s §6 §21 rfl fun _ => ?_
          refine D.one (i := 4) §5 rfl ?_
          refine Do.s §14 §21 rfl fun _ => ?_
          refine D.q (i := 5) rfl §5 §1 rfl §0 rfl <| D.q (i := 15) rfl §5 §1 rfl §0 rfl <| D.q (i := 17) rfl §5 §1 rfl §0 rfl <| D.q (i := 18) rfl §5 §1 rfl (q.as rfl) rfl <| D.done §5 <| ?_
          exact R.rv rfl Try.results53 rfl (rS (by (rfl)))
        · refine Do.s §14 §21 rfl fun _ => ?_
          refine D.one (i := 2) §5 rfl ?_
          refine Do.s §6 §21 rfl fun _ => ?_
          refine D.q (i := 5) rfl §5 §1 rfl §0 rfl <| D.q (i := 15) rfl §5 §1 rfl §0 rfl <| D.q (i := 17) rfl §5 §1 rfl §0 rfl <| D.q (i := 18) rfl §5 §1 rfl (q.as rfl) rfl <| D.done §5 <| ?_
          exact R.rv rfl Try.results53 rfl (rS (by (rfl)))
      · refine Do.s §14 §21 rfl fun _ => ?_
        refine D.one (i := 1) §5 rfl ?_
        refine Do.s §18 §21 rfl fun b18 => ?_
        refine D.one (i := 2) §5 rfl ?_
        refine Do.s §6 §21 rfl fun _ => ?_
        refine D.q (i := 5) rfl §5 §1 rfl §0 rfl <| D.q (i := 15) rfl §5 §1 rfl §0 rfl <| D.q (i := 17) rfl §5 §1 rfl §0 rfl <| D.q (i := 18) rfl §5 §1 rfl (q.as rfl) rfl <| D.done §5 <| ?_
        exact R.rv rfl Try.results53 rfl (rS (by (rfl)))

theorem room_any (b_lg : Nat) (p_lg_d : Nat) (lg : Lg) (w : World) (k_lg : (Res.box b_lg §32 85).ok w) (hb : 0 ≤ lg.Many ∧ lg.Many ≤ 1000000000 ∧ 0 ≤ lg.Next ∧ lg.Next ≤ 1000000000) : Calls Try.prog 17 #[.pointer (some ⟨b_lg, 0, none⟩)] w fun e w' => e = .returned (.int .i64 (lg.Many - lg.Next)) ∧ Ext w w' := by
  refine R.enter (n := 12) (vs := §19) [] [(0, .pointer (some ⟨b_lg, 0, none⟩))] Try.func17 rfl rfl rfl rfl ?_
  refine R.oldF (r := Res.box b_lg §32 85) k_lg (box_lt k_lg) ?_
  refine R.reg rfl <| R.u 1 rfl <| R.nil ?_
  refine R.regQ rfl mixed §5 <| Q.u 1 rfl <| Q.q (q.nilc rfl) rfl <| Q.q (q.fld (off' := 2) rfl tFld_85_2 rfl) rfl <| Q.q (q.ldF 0 rfl rfl tOne_3 rfl) rfl <| Q.u 1 rfl <| Q.q (q.nilc rfl) rfl <| Q.q (q.fld (off' := 4) rfl tFld_85_4 rfl) rfl <| Q.q (q.ldF 0 rfl rfl tOne_3 rfl) rfl <| Q.q (q.sub (r := lg.Many - lg.Next) rfl rfl (wr (by omega))) rfl <| Q.u 1 rfl <| Q.nil ?_
  exact R.rv rfl Try.results17 rfl (rI (by (rfl)))

theorem next_any (b_lg : Nat) (p_lg_d : Nat) (lg : Lg) (w : World) (k_lg : (Res.box b_lg §32 85).ok w) (hb : 0 ≤ lg.Many ∧ lg.Many ≤ 1000000000 ∧ 0 ≤ lg.First ∧ lg.First ≤ 1000000000) : Calls Try.prog 18 #[.pointer (some ⟨b_lg, 0, none⟩)] w fun e w' => e = .returned (.int .i64 (lg.First + lg.Many)) ∧ Ext w w' := by
  refine R.enter (n := 12) (vs := §19) [] [(0, .pointer (some ⟨b_lg, 0, none⟩))] Try.func18 rfl rfl rfl rfl ?_
  refine R.oldF (r := Res.box b_lg §32 85) k_lg (box_lt k_lg) ?_
  refine R.reg rfl <| R.u 1 rfl <| R.nil ?_
  refine R.regQ rfl mixed §5 <| Q.u 1 rfl <| Q.q (q.nilc rfl) rfl <| Q.q (q.fld (off' := 3) rfl tFld_85_3 rfl) rfl <| Q.q (q.ldF 0 rfl rfl tOne_3 rfl) rfl <| Q.u 1 rfl <| Q.q (q.nilc rfl) rfl <| Q.q (q.fld (off' := 2) rfl tFld_85_2 rfl) rfl <| Q.q (q.ldF 0 rfl rfl tOne_3 rfl) rfl <| Q.q (q.add (r := lg.First + lg.Many) rfl rfl (wr (by omega))) rfl <| Q.u 1 rfl <| Q.nil ?_
  exact R.rv rfl Try.results18 rfl (rI (by (rfl)))

theorem look_any (b_lg : Nat) (lg : Lg) (i : Nat) (b_dk : Nat) (q_dkKept q_dkNow q_dkWait : Value) (dk : Dsk) (w : World) (k_lg : (Res.box b_lg §2 85).ok w) (k_dk : (Res.box b_dk [q_dkKept, q_dkNow, q_dkWait, .int .i64 dk.Fuse, .bool dk.Down] 81).ok w) (s_q_dkKept : Sl w q_dkKept (dk.Kept : List ByteArray)) (s_q_dkNow : Sl w q_dkNow (dk.Now : List ByteArray)) (s_q_dkWait : Sl w q_dkWait (dk.Wait : List Turn)) (hb : -1000000000 ≤ lg.From ∧ lg.From ≤ 1000000000 ∧ 0 ≤ lg.First ∧ lg.First ≤ 8000000000000000000 ∧ i ≤ 1000000000) (hr : (dRead dk (lg.From + (i : Int))).2 = 0) (hs : ((dRead dk (lg.From + (i : Int))).1).size = 48) : Calls Try.prog 43 #[.pointer (some ⟨b_lg, 0, none⟩), .int .i64 (i : Int)] w fun e w' => e = .returned (.tuple #[.int .u8 (lookK ((dRead dk (lg.From + (i : Int))).1) (lg.First + (i : Int)) : Int), .string (lookX ((dRead dk (lg.From + (i : Int))).1) (lg.First + (i : Int))), .bool (lookB ((dRead dk (lg.From + (i : Int))).1) (lg.First + (i : Int)))]) ∧ Ext w w' := by
  refine R.enter (n := 64) (vs := [.pointer (some ⟨b_lg, 0, none⟩), .int .i64 (i : Int)]) [] [(0, .pointer (some ⟨b_lg, 0, none⟩)), (1, .int .i64 (i : Int))] Try.func43 rfl rfl rfl rfl ?_
  refine R.oldL s_q_dkKept ?_
  refine R.oldL s_q_dkNow ?_
  refine R.oldL s_q_dkWait ?_
  refine R.oldF (r := Res.box b_lg §2 85) k_lg (box_lt k_lg) ?_
  refine R.oldF (r := Res.box b_dk [q_dkKept, q_dkNow, q_dkWait, .int .i64 dk.Fuse, .bool dk.Down] 81) k_dk (box_lt k_dk) ?_
  refine R.reg rfl <| R.u 3 rfl <| R.nil ?_
  refine R.regQ rfl mixed §5 <| Q.u 1 rfl <| Q.q (q.nilc rfl) rfl <| Q.q (q.fld (off' := 0) rfl tFld_85_0 rfl) rfl <| Q.q (q.ldF 1 rfl rfl tOne_26 rfl) rfl <| Q.u 1 rfl <| Q.q (q.nilc rfl) rfl <| Q.q (q.fld (off' := 1) rfl tFld_85_1 rfl) rfl <| Q.q (q.ldF 1 rfl rfl tOne_3 rfl) rfl <| Q.u 1 rfl <| Q.q (q.add (r := lg.From + (i : Int)) rfl rfl (wr (by omega))) rfl <| Q.c (q.call eg_14 rfl rfl (fun w hw => (dRead_any b_dk q_dkKept q_dkNow q_dkWait  (dk) ((lg.From + (i : Int))) w (hw.f 0 rfl) (hw.fls 4 rfl) (hw.fls 3 rfl) (hw.fls 2 rfl) ))) rfl <| Q.u 5 rfl <| Q.nil ?_
  by_cases h1 : (((dRead dk (lg.From + (i : Int))).1).extract 1 5) = fourB (lg.First + (i : Int))
  · obtain ⟨y1, hy1⟩ : ∃ z, ((dRead dk (lg.From + (i : Int))).1).data[0]? = some z := ⟨_, Array.getElem?_eq_getElem (show 0 < ((dRead dk (lg.From + (i : Int))).1).size from by omega)⟩
    have by1 := y1.toNat_lt
    by_cases h2 : y1.toNat = 111
    · refine R.regQ rfl mixed §5 <| Q.u 1 rfl <| Q.q §28 rfl <| Q.u 2 rfl <| Q.qg rfl §44 rfl <| Q.u 1 rfl <| Q.qg rfl (q.nilc rfl) rfl <| Q.qg rfl (q.fld (off' := 3) rfl tFld_85_3 rfl) rfl <| Q.qg rfl (q.ldF 1 rfl rfl tOne_3 rfl) rfl <| Q.u 1 rfl <| Q.qg rfl (q.add (r := lg.First + (i : Int)) rfl rfl (wr (by omega))) rfl <| Q.cg rfl §41 rfl <| Q.qg rfl (q.neqS1 rfl rfl h1) rfl <| Q.u 3 rfl <| Q.qg rfl §38 rfl <| Q.qg rfl (q.neq rfl rfl (bne_eq_false_iff_eq.2 (by omega))) rfl <| Q.u 6 rfl <| Q.nil ?_
      refine R.condF rfl rfl ?_
      obtain ⟨y2, hy2⟩ : ∃ z, ((dRead dk (lg.From + (i : Int))).1).data[5]? = some z := ⟨_, Array.getElem?_eq_getElem (show 5 < ((dRead dk (lg.From + (i : Int))).1).size from by omega)⟩
      have by2 := y2.toNat_lt
      obtain ⟨y3, hy3⟩ : ∃ z, ((dRead dk (lg.From + (i : Int))).1).data[6]? = some z := ⟨_, Array.getElem?_eq_getElem (show 6 < ((dRead dk (lg.From + (i : Int))).1).size from by omega)⟩
      have by3 := y3.toNat_lt
      refine R.regQ rfl mixed §5 <| Q.u 1 rfl <| Q.q (q.sIdx (i := 5) rfl rfl Try.underlying9 rfl hy2) rfl <| Q.q (q.cvi (r := ((y2.toNat : Nat) : Int)) rfl (by rw [Try.underlying5]; rfl) Try.underlying3 (wr (by omega))) rfl <| Q.u 1 rfl <| Q.q (q.sIdx (i := 6) rfl rfl Try.underlying9 rfl hy3) rfl <| Q.q (q.cvi (r := ((y3.toNat : Nat) : Int)) rfl (by rw [Try.underlying5]; rfl) Try.underlying3 (wr (by omega))) rfl <| Q.q (q.mul (r := ((256 * y3.toNat : Nat) : Int)) rfl rfl (wr (by omega))) rfl <| Q.q (q.add (r := ((y2.toNat + (256 * y3.toNat) : Nat) : Int)) rfl rfl (wr (by omega))) rfl <| Q.u 1 rfl <| Q.nil ?_
      refine R.reg rfl <| R.u 1 rfl <| ?_
      by_cases h3 : 41 < (y2.toNat + (256 * y3.toNat))
      · refine R.q (q.gtr rfl rfl (decide_eq_true (by omega))) rfl <| R.nil ?_
        refine R.condT rfl rfl ?_
        refine R.reg rfl <| R.u 3 rfl <| R.nil ?_
        exact R.rv3 rfl Try.results43 rfl rfl rfl (rIk §4) (rS §3) (rB §7)
      · refine R.q (q.gtr rfl rfl (decide_eq_false (by omega))) rfl <| R.nil ?_
        refine R.condF rfl rfl ?_
        refine R.regQ rfl mixed §5 <| Q.u 1 rfl <| Q.q §38 rfl <| Q.u 2 rfl <| Q.q (q.add (r := ((7 + (y2.toNat + (256 * y3.toNat)) : Nat) : Int)) rfl rfl (wr (by omega))) rfl <| Q.q (q.sSl (i := 7) (j := (7 + (y2.toNat + (256 * y3.toNat)))) rfl rfl rfl Try.underlying9 rfl rfl (by omega) (by omega)) rfl <| Q.u 3 rfl <| Q.nil ?_
        exact R.rv3 rfl Try.results43 rfl rfl rfl (rIk §4) (rS §3) (rB §7)
    · by_cases h4 : y1.toNat = 99
      · refine R.regQ rfl mixed §5 <| Q.u 1 rfl <| Q.q §28 rfl <| Q.u 2 rfl <| Q.qg rfl §44 rfl <| Q.u 1 rfl <| Q.qg rfl (q.nilc rfl) rfl <| Q.qg rfl (q.fld (off' := 3) rfl tFld_85_3 rfl) rfl <| Q.qg rfl (q.ldF 1 rfl rfl tOne_3 rfl) rfl <| Q.u 1 rfl <| Q.qg rfl (q.add (r := lg.First + (i : Int)) rfl rfl (wr (by omega))) rfl <| Q.cg rfl §41 rfl <| Q.qg rfl (q.neqS1 rfl rfl h1) rfl <| Q.u 3 rfl <| Q.qg rfl §38 rfl <| Q.qg rfl (q.neq rfl rfl (bne_iff_ne.2 (by omega))) rfl <| Q.u 2 rfl <| Q.qg rfl §38 rfl <| Q.qg rfl (q.neq rfl rfl (bne_eq_false_iff_eq.2 (by omega))) rfl <| Q.u 2 rfl <| Q.nil ?_
        refine R.condF rfl rfl ?_
        obtain ⟨y4, hy4⟩ : ∃ z, ((dRead dk (lg.From + (i : Int))).1).data[5]? = some z := ⟨_, Array.getElem?_eq_getElem (show 5 < ((dRead dk (lg.From + (i : Int))).1).size from by omega)⟩
        have by4 := y4.toNat_lt
        obtain ⟨y5, hy5⟩ : ∃ z, ((dRead dk (lg.From + (i : Int))).1).data[6]? = some z := ⟨_, Array.getElem?_eq_getElem (show 6 < ((dRead dk (lg.From + (i : Int))).1).size from by omega)⟩
        have by5 := y5.toNat_lt
        refine R.regQ rfl mixed §5 <| Q.u 1 rfl <| Q.q (q.sIdx (i := 5) rfl rfl Try.underlying9 rfl hy4) rfl <| Q.q (q.cvi (r := ((y4.toNat : Nat) : Int)) rfl (by rw [Try.underlying5]; rfl) Try.underlying3 (wr (by omega))) rfl <| Q.u 1 rfl <| Q.q (q.sIdx (i := 6) rfl rfl Try.underlying9 rfl hy5) rfl <| Q.q (q.cvi (r := ((y5.toNat : Nat) : Int)) rfl (by rw [Try.underlying5]; rfl) Try.underlying3 (wr (by omega))) rfl <| Q.q (q.mul (r := ((256 * y5.toNat : Nat) : Int)) rfl rfl (wr (by omega))) rfl <| Q.q (q.add (r := ((y4.toNat + (256 * y5.toNat) : Nat) : Int)) rfl rfl (wr (by omega))) rfl <| Q.u 1 rfl <| Q.nil ?_
        refine R.reg rfl <| R.u 1 rfl <| ?_
        by_cases h5 : 41 < (y4.toNat + (256 * y5.toNat))
        · refine R.q (q.gtr rfl rfl (decide_eq_true (by omega))) rfl <| R.nil ?_
          refine R.condT rfl rfl ?_
          refine R.reg rfl <| R.u 3 rfl <| R.nil ?_
          exact R.rv3 rfl Try.results43 rfl rfl rfl (rIk §4) (rS §3) (rB §7)
        · refine R.q (q.gtr rfl rfl (decide_eq_false (by omega))) rfl <| R.nil ?_
          refine R.condF rfl rfl ?_
          refine R.regQ rfl mixed §5 <| Q.u 1 rfl <| Q.q §38 rfl <| Q.u 2 rfl <| Q.q (q.add (r := ((7 + (y4.toNat + (256 * y5.toNat)) : Nat) : Int)) rfl rfl (wr (by omega))) rfl <| Q.q (q.sSl (i := 7) (j := (7 + (y4.toNat + (256 * y5.toNat)))) rfl rfl rfl Try.underlying9 rfl rfl (by omega) (by omega)) rfl <| Q.u 3 rfl <| Q.nil ?_
          exact R.rv3 rfl Try.results43 rfl rfl rfl (rIk §4) (rS §3) (rB §7)
      · refine R.regQ rfl mixed §5 <| Q.u 1 rfl <| Q.q §28 rfl <| Q.u 2 rfl <| Q.qg rfl §44 rfl <| Q.u 1 rfl <| Q.qg rfl (q.nilc rfl) rfl <| Q.qg rfl (q.fld (off' := 3) rfl tFld_85_3 rfl) rfl <| Q.qg rfl (q.ldF 1 rfl rfl tOne_3 rfl) rfl <| Q.u 1 rfl <| Q.qg rfl (q.add (r := lg.First + (i : Int)) rfl rfl (wr (by omega))) rfl <| Q.cg rfl §41 rfl <| Q.qg rfl (q.neqS1 rfl rfl h1) rfl <| Q.u 3 rfl <| Q.qg rfl §38 rfl <| Q.qg rfl (q.neq rfl rfl (bne_iff_ne.2 (by omega))) rfl <| Q.u 2 rfl <| Q.qg rfl §38 rfl <| Q.qg rfl (q.neq rfl rfl (bne_iff_ne.2 (by omega))) rfl <| Q.u 2 rfl <| Q.nil ?_
        refine R.condT rfl rfl ?_
        refine R.reg rfl <| R.u 3 rfl <| R.nil ?_
        exact R.rv3 rfl Try.results43 rfl rfl rfl (rIk §4) (rS §3) (rB §7)
  · refine R.regQ rfl mixed §5 <| Q.u 1 rfl <| Q.q §28 rfl <| Q.u 2 rfl <| Q.qg rfl §44 rfl <| Q.u 1 rfl <| Q.qg rfl (q.nilc rfl) rfl <| Q.qg rfl (q.fld (off' := 3) rfl tFld_85_3 rfl) rfl <| Q.qg rfl (q.ldF 1 rfl rfl tOne_3 rfl) rfl <| Q.u 1 rfl <| Q.qg rfl (q.add (r := lg.First + (i : Int)) rfl rfl (wr (by omega))) rfl <| Q.cg rfl §41 rfl <| Q.qg rfl (q.neqS0 rfl rfl h1) rfl <| Q.u 11 rfl <| Q.nil ?_
    refine R.condT rfl rfl ?_
    refine R.reg rfl <| R.u 3 rfl <| R.nil ?_
    exact R.rv3 rfl Try.results43 rfl rfl rfl (rIk §4) (rS §3) (rB §7)

set_option maxRecDepth 100000 in
set_option maxHeartbeats 1600000 in
theorem open_any (b_dk : Nat) (q_dkKept q_dkNow q_dkWait : Value) (dk : Dsk) (frm : Int) (many : Int) (first : Int) (w : World) (own : List Nat) (H : Wd w (blks §25 ++ own) (§25 ++ [Res.held w own]) [] w) (hb : 0 ≤ frm ∧ 1 ≤ many ∧ frm + many ≤ (dk.Now.length : Int) ∧ 1 ≤ first ∧ first ≤ 4000000000000000000) (hd : dk.Down = false) (hD : DOk dk.Now.length 90000 dk ∧ dk.Now.length ≤ 100000) : Calls Try.prog 11 #[.pointer (some ⟨b_dk, 0, none⟩), .int .i64 frm, .int .i64 many, .int .i64 first] w fun e w' => ∃ z : Value × Value × Value × Nat × Value × List Bat, e = .returned (.tuple #[.pointer (some ⟨z.2.2.2.1, 0, none⟩), z.2.2.2.2.1, .nilIface]) ∧ Wd w (blks §25 ++ own) ([Res.box b_dk [z.1, z.2.1, z.2.2.1, .int .i64 ((dk).Fuse), .bool ((dk).Down)] 81, Res.row 9 z.1 ((dk).Kept : List ByteArray), Res.row 9 z.2.1 ((dk).Now : List ByteArray), Res.row 83 z.2.2.1 ((dk).Wait : List Turn), Res.box z.2.2.2.1 [.pointer (some ⟨b_dk, 0, none⟩), .int .i64 (((⟨frm, many, first, (opnU dk frm (Int.toNat many) first : Int)⟩ : Lg)).From), .int .i64 (((⟨frm, many, first, (opnU dk frm (Int.toNat many) first : Int)⟩ : Lg)).Many), .int .i64 (((⟨frm, many, first, (opnU dk frm (Int.toNat many) first : Int)⟩ : Lg)).First), .int .i64 (((⟨frm, many, first, (opnU dk frm (Int.toNat many) first : Int)⟩ : Lg)).Next)] 85] ++ [Res.held w own]) [Res.ls z.2.2.2.2.1 (z.2.2.2.2.2 : List Bat), Res.batsE (z.2.2.2.2.2 : List Bat) ((opnD dk frm (Int.toNat many) first))] w' := by
  have c_dk_Kept := H.cap 1 rfl; have m_dk_Kept := H.lenB 1 rfl
  have c_dk_Now := H.cap 2 rfl; have m_dk_Now := H.lenB 2 rfl
  have c_dk_Wait := H.cap 3 rfl; have m_dk_Wait := H.lenB 3 rfl
  obtain ⟨manyN, hmanyN⟩ : ∃ m : Nat, many = (m : Int) := ⟨many.toNat, by omega⟩; subst hmanyN
  refine R.enterN (n := 103) (vs := [.pointer (some ⟨b_dk, 0, none⟩), .int .i64 frm, .int .i64 (manyN : Int), .int .i64 first]) (B := [Res.box b_dk [q_dkKept, q_dkNow, q_dkWait, .int .i64 dk.Fuse, .bool dk.Down] 81, Res.row 9 q_dkKept (dk.Kept : List ByteArray), Res.row 9 q_dkNow (dk.Now : List ByteArray), Res.row 83 q_dkWait (dk.Wait : List Turn), Res.held w own]) [(0, .pointer (some ⟨b_dk, 0, none⟩)), (1, .int .i64 frm), (2, .int .i64 (manyN : Int)), (3, .int .i64 first)] Try.func11 rfl rfl rfl rfl H ?_
  refine R.reg rfl <| R.u 3 rfl <| R.nil ?_
  refine R.reg rfl <| R.u 1 rfl <| R.q §45 rfl <| R.u 2 rfl <| R.qg rfl §45 rfl <| R.u 4 rfl <| R.cg rfl (q.call eg_12 rfl rfl (fun w hw => (dSectors_any b_dk q_dkKept q_dkNow q_dkWait  (dk) w (hw.b 0 rfl) ((fun _ => Wd.row 1 rfl) w hw) ((fun _ => Wd.row 2 rfl) w hw) ((fun _ => Wd.row 3 rfl) w hw) ))) rfl <| R.qg rfl (q.gtr rfl rfl (decide_eq_false (by omega))) rfl <| R.u 4 rfl <| R.cg rfl (q.call eg_12 rfl rfl (fun w hw => (dSectors_any b_dk q_dkKept q_dkNow q_dkWait  (dk) w (hw.b 0 rfl) ((fun _ => Wd.row 1 rfl) w hw) ((fun _ => Wd.row 2 rfl) w hw) ((fun _ => Wd.row 3 rfl) w hw) ))) rfl <| R.u 1 rfl <| R.qg rfl (q.sub (r := (dk.Now.length : Int) - (manyN : Int)) rfl rfl (wr (by omega))) rfl <| R.qg rfl (q.gtr rfl rfl (decide_eq_false (by omega))) rfl <| R.u 3 rfl <| R.qg rfl §45 rfl <| R.u 1 rfl <| R.nil ?_
  refine R.condF rfl rfl ?_
  refine R.reg rfl <| R.u 1 rfl <| R.c (q.call eg_42 rfl rfl (fun w hw => (cv (congrArg Value.bool hd) (dDown_any b_dk q_dkKept q_dkNow q_dkWait  (dk) w (hw.b 0 rfl) ((fun _ => Wd.row 1 rfl) w hw) ((fun _ => Wd.row 2 rfl) w hw) ((fun _ => Wd.row 3 rfl) w hw) )))) rfl <| R.nil ?_
  refine R.condF rfl rfl ?_
  refine R.reg rfl <| R.u 4 rfl <| R.q (q.build (cs := [.pointer (some ⟨b_dk, 0, none⟩), .int .i64 frm, .int .i64 (manyN : Int), .int .i64 first, .int .i64 0]) tB_85 rfl rfl) rfl <| ?_
  refine R.s rfl (s.box (cs := [.pointer (some ⟨b_dk, 0, none⟩), .int .i64 frm, .int .i64 (manyN : Int), .int .i64 first, .int .i64 0]) rfl rfl rfl) fun b1 => ?_
  refine R.u 1 rfl <| R.nil ?_
  refine R.reg rfl <| R.u 1 rfl <| R.nil ?_
  refine R.reg rfl <| R.u 1 rfl <| R.nil ?_
  refine R.reg rfl <| R.u 2 rfl <| R.nil ?_
  refine R.mp (fun _ hw => hw.bats0) ?_
  refine R.row0 (α := Bat) 46 ?_
  refine R.row0 (α := Change) 51 ?_
  refine R.loop (fun g_ : Nat × Nat × Value × (List Bat) × Value × (List Change) => [(11, .pointer (some ⟨b1, 0, none⟩)), (12, g_.2.2.1), (13, g_.2.2.2.2.1), (54, .int .i64 (manyN : Int)), (55, .int .i64 (g_.1 : Int))]) (fun g_ : Nat × Nat × Value × (List Bat) × Value × (List Change) => [Res.row 51 g_.2.2.2.2.1 (g_.2.2.2.2.2 : List Change), Res.row 46 g_.2.2.1 (g_.2.2.2.1 : List Bat), Res.box b1 [.pointer (some ⟨b_dk, 0, none⟩), .int .i64 frm, .int .i64 (manyN : Int), .int .i64 first, .int .i64 (g_.2.1 : Int)] 85, Res.box b_dk [q_dkKept, q_dkNow, q_dkWait, .int .i64 dk.Fuse, .bool dk.Down] 81, Res.row 9 q_dkKept (dk.Kept : List ByteArray), Res.row 9 q_dkNow (dk.Now : List ByteArray), Res.row 83 q_dkWait (dk.Wait : List Turn), Res.held w own]) (fun g_ : Nat × Nat × Value × (List Bat) × Value × (List Change) => [Res.bats (g_.2.2.2.1 : List Bat), Res.bats ([] : List Bat)]) (fun g_ : Nat × Nat × Value × (List Bat) × Value × (List Change) => g_.1 ≤ manyN ∧ scD ((regS dk frm manyN).drop g_.1) (first + (g_.1 : Int)) (g_.2.2.2.1.map Bat.L) g_.2.2.2.2.2 g_.2.1 g_.1 = scan (regS dk frm manyN) first ∧ g_.2.2.2.2.2.length ≤ g_.1 ∧ g_.2.2.2.1.length ≤ g_.1 ∧ g_.2.1 ≤ g_.1) (fun g_ : Nat × Nat × Value × (List Bat) × Value × (List Change) => manyN - g_.1) (0, 0, (.slice none 0 0), [], (.slice none 0 0), []) rfl (by (try dsimp only); exact ⟨by omega, by show scD _ (first + 0) _ _ _ _ = _; rw [Int.add_zero]; rfl, by simp, by simp, by simp⟩) ⟨rfl, rfl, rfl, rfl, rfl, trivial⟩ (fun _ => Wd.pick [0, 1, 2, 3, 4, 5, 6, 7] [0, 0] rfl rfl rfl) ?_
  rintro ⟨i, u, qo, ob, qd, dd⟩ ⟨hi, HS, hdl, hol, hui⟩
  dsimp only at *
  refine R.reg rfl <| ?_
  by_cases h1 : i < manyN
  · refine R.q (q.lss rfl rfl (decide_eq_true (by omega))) rfl <| R.nil ?_
    refine R.condT rfl rfl ?_
    refine R.reg rfl <| R.u 2 rfl <| R.nil ?_
    have hrd := dRead_in hD.1 hd (i := frm + (i : Int)) (by omega) (by omega); obtain ⟨hrd, hsz⟩ := hrd; have hlx := lookX_size (n := first + (i : Int)) hsz
    refine R.reg rfl <| R.u 2 rfl <| R.c (q.call eg_43 rfl rfl (fun w hw => (cv (show (.tuple #[.int .u8 (lookK ((dRead dk (§29.From + (i : Int))).1) (§29.First + (i : Int)) : Int), .string (lookX ((dRead dk (§29.From + (i : Int))).1) (§29.First + (i : Int))), .bool (lookB ((dRead dk (§29.From + (i : Int))).1) (§29.First + (i : Int)))] : Value) = .tuple #[.int .u8 (lookK ((dRead dk (frm + (i : Int))).1) (first + (i : Int)) : Int), .string (lookX ((dRead dk (frm + (i : Int))).1) (first + (i : Int))), .bool (lookB ((dRead dk (frm + (i : Int))).1) (first + (i : Int)))] from rfl) (look_any b1   (§29) (i) b_dk q_dkKept q_dkNow q_dkWait  (dk) w (hw.b 2 rfl) (hw.b 3 rfl) ((fun _ => Wd.row 4 rfl) w hw) ((fun _ => Wd.row 5 rfl) w hw) ((fun _ => Wd.row 6 rfl) w hw) §42 §11 §11)))) rfl <| R.u 7 rfl <| R.nil ?_
    refine R.reg rfl <| R.u 1 rfl <| R.q (q.not rfl) rfl <| R.u 1 rfl <| ?_
    rcases Bool.eq_false_or_eq_true (lookB ((dRead dk (frm + (i : Int))).1) (first + (i : Int))) with h2 | h2
    · rw [h2]
      refine R.u 1 rfl <| ?_
      by_cases h3 : lookK ((dRead dk (frm + (i : Int))).1) (first + (i : Int)) = 99
      · refine R.qg rfl (q.eql rfl rfl (beq_iff_eq.2 (by omega))) rfl <| R.u 3 rfl <| R.qg rfl (q.len' (fun _ => Wd.row 0 rfl) rfl Try.underlying46) rfl <| R.cg rfl (q.call eg_44 rfl rfl (fun w hw => (four_any ((dd.length : Int)) w  (by omega)))) rfl <| ?_
        by_cases h4 : lookX ((dRead dk (frm + (i : Int))).1) (first + (i : Int)) = fourB (dd.length : Int)
        · refine R.qg rfl (q.neqS1 rfl rfl h4) rfl <| R.u 2 rfl <| R.nil ?_
          refine R.condF rfl rfl ?_
          refine R.reg rfl <| R.u 1 rfl <| R.q (q.eql rfl rfl (beq_iff_eq.2 (by omega))) rfl <| R.nil ?_
          refine R.condT rfl rfl ?_
          refine R.reg rfl <| R.u 3 rfl <| ?_
          refine R.s rfl (s.bsV (l := ([(⟨qd, dd⟩ : Bat)] : List Bat)) tSl_33 tZero_46 rfl rfl rfl rfl rfl (fun w hw => bat_cells ((fun _ => Wd.row 0 rfl) w hw)) rfl) fun b2 => ?_
          refine R.s rfl (s.app (l2 := [(⟨qd, dd⟩ : Bat)]) 2 _ rfl rfl rfl (fun _ => Wd.row 0 rfl) tApp_33 (by first | omega | (simp; done) | (simp; omega)) (by first | omega | (simp; done) | (simp; omega)) (fun _ => rfl) rfl) fun v1 => ?_
          refine R.u 1 rfl <| R.q §46 rfl <| R.u 2 rfl <| R.q (q.nilc rfl) rfl <| R.q (q.fld (off' := 4) rfl tFld_85_4 rfl) rfl <| ?_
          refine R.s rfl (s.st (us := [.int .i64 ((i + 1) : Int)]) (cs' := [.pointer (some ⟨b_dk, 0, none⟩), .int .i64 frm, .int .i64 (manyN : Int), .int .i64 first, .int .i64 ((i + 1) : Int)]) 3 _ rfl rfl rfl rfl (.inr ⟨tOne_3, rfl⟩) rfl rfl rfl rfl) fun _ => ?_
          refine R.nil ?_
          refine R.reg rfl <| R.q §46 rfl <| R.u 1 rfl <| R.nil ?_
          refine R.mp (B' := [Res.row 46 (.slice (some ⟨b2, 0, none⟩) 1 1) ([(⟨qd, dd⟩ : Bat)] : List Bat), Res.row 46 v1 ((ob ++ ([(⟨qd, dd⟩ : Bat)])) : List Bat), Res.box b1 [.pointer (some ⟨b_dk, 0, none⟩), .int .i64 frm, .int .i64 (manyN : Int), .int .i64 first, .int .i64 ((i + 1) : Int)] 85, Res.box b_dk [q_dkKept, q_dkNow, q_dkWait, .int .i64 dk.Fuse, .bool dk.Down] 81, Res.row 9 q_dkKept (dk.Kept : List ByteArray), Res.row 9 q_dkNow (dk.Now : List ByteArray), Res.row 83 q_dkWait (dk.Wait : List Turn), Res.held w own]) (fun _ hw => hw.lendL 1 _ rfl rfl) ?_
          refine R.mp (fun _ hw => hw.batsAdd 1 0 rfl rfl) ?_
          refine R.row0 (α := Change) 51 ?_
          refine R.back (i + 1, (i + 1), v1, (ob ++ ([(⟨qd, dd⟩ : Bat)])), (.slice none 0 0), []) rfl (by ((try dsimp only); exact ⟨by omega, by rw [List.map_append]; exact sc_close HS (regS_at (by omega)) (look_C §11 §11 §11), by simp, by simp; omega, by omega⟩)) (by dsimp only; omega) ⟨rfl, rfl, rfl, rfl, rfl, trivial⟩ (fun _ => Wd.pik [0, 2, 3, 4, 5, 6, 7, 8] [0, 3] rfl rfl rfl)
        · refine R.qg rfl (q.neqS0 rfl rfl h4) rfl <| R.u 2 rfl <| R.nil ?_
          refine R.condT rfl rfl ?_
          refine R.reg rfl <| R.u 5 rfl <| R.nil ?_
          refine R.mp (fun _ hw => hw.batsIs 0 rfl) ?_
          refine R.mp (B' := §22) (fun _ hw => hw.lendL 1 _ rfl rfl) ?_
          have hz : (dk, §36, opnD dk frm (Int.toNat ((manyN : Nat) : Int)) first) = (dk, §29, (ob.map Bat.L)) := by (first | ((try dsimp only); have e := sc_stop HS (regS_at (by omega)) (look_noB (k := (dd.length : Int)) §11).1 (look_noB (k := (dd.length : Int)) §11).2; unfold opnU opnD; rw [show Int.toNat ((manyN : Nat) : Int) = manyN from rfl, e]) | ((try dsimp only); have e := sc_stop HS (regS_at (by omega)) (look_noC (k := (dd.length : Int)) §11 §11 §11).1 (look_noC (k := (dd.length : Int)) §11 §11 §11).2; unfold opnU opnD; rw [show Int.toNat ((manyN : Nat) : Int) = manyN from rfl, e]) | ((try dsimp only); have e := sc_stop HS (regS_at (by omega)) (look_noO (k := (dd.length : Int)) §11 §11 §11).1 (look_noO (k := (dd.length : Int)) §11 §11 §11).2; unfold opnU opnD; rw [show Int.toNat ((manyN : Nat) : Int) = manyN from rfl, e]) | ((try dsimp only); have e := sc_end HS (by rw [regS_len]; omega); unfold opnU opnD; rw [show Int.toNat ((manyN : Nat) : Int) = manyN from rfl, e]))
          have hz0 : ((manyN : Nat) : Int) = (manyN : Int) := congrArg (fun t_ => t_.2.1.Many) hz
          rw [hz0]
          have hz1 : (opnU dk frm (Int.toNat ((manyN : Nat) : Int)) first : Int) = (u : Int) := congrArg (fun t_ => t_.2.1.Next) hz
          rw [hz1]
          have hz2 : opnD dk frm (Int.toNat ((manyN : Nat) : Int)) first = (ob.map Bat.L) := congrArg (fun t_ => t_.2.2) hz
          rw [hz2]
          exact R.w3 (q_dkKept, q_dkNow, q_dkWait, b1, qo, ob) [2, 3, 4, 5, 1, 6] [0, 1] rfl Try.results11 (RV.tmp rfl) (RV.tmp rfl) (RV.tmp rfl) rfl rfl rfl (tup3 rfl rfl rfl)
      · refine R.qg rfl (q.eql rfl rfl (beq_eq_false_iff_ne.2 (by omega))) rfl <| R.u 8 rfl <| R.nil ?_
        refine R.condF rfl rfl ?_
        refine R.reg rfl <| R.u 1 rfl <| R.q (q.eql rfl rfl (beq_eq_false_iff_ne.2 (by omega))) rfl <| R.nil ?_
        refine R.condF rfl rfl ?_
        refine R.reg rfl <| R.u 1 rfl <| R.c (q.call eg_45 rfl rfl (fun w hw => (rowParse_any (lookX ((dRead dk (frm + (i : Int))).1) (first + (i : Int))) w  (by omega)))) rfl <| R.u 3 rfl <| ?_
        refine R.s rfl (s.alloc (cs := [.string (⟨#[]⟩), .string (⟨#[]⟩), .bool false]) tZero_51 rfl rfl) fun b3 => ?_
        refine R.s rfl (s.st (us := §27) (cs' := §27) 0 _ rfl rfl rfl rfl (.inl tAgg_51) rfl rfl rfl rfl) fun _ => ?_
        refine R.u 1 rfl <| R.nil ?_
        refine R.reg rfl <| R.u 1 rfl <| ?_
        by_cases h5 : (chP (lookX ((dRead dk (frm + (i : Int))).1) (first + (i : Int)))).2 = 0
        · refine R.q §28 rfl <| R.nil ?_
          refine R.condF rfl rfl ?_
          refine R.reg rfl <| R.u 1 rfl <| R.q (q.ldS 0 rfl rfl tAgg_51) rfl <| ?_
          refine R.s rfl (s.bs (l := ([((chP (lookX ((dRead dk (frm + (i : Int))).1) (first + (i : Int)))).1)] : List Change)) tSl_46 tZero_51 rfl rfl rfl rfl rfl rfl rfl) fun b4 => ?_
          refine R.s rfl (s.app (l2 := [((chP (lookX ((dRead dk (frm + (i : Int))).1) (first + (i : Int)))).1)]) 2 _ rfl rfl rfl (fun _ => Wd.row 0 rfl) tApp_46 (by first | omega | (simp; done) | (simp; omega)) (by first | omega | (simp; done) | (simp; omega)) (fun _ => rfl) rfl) fun v2 => ?_
          refine R.u 1 rfl <| R.nil ?_
          refine R.reg rfl <| R.q §46 rfl <| R.u 1 rfl <| R.nil ?_
          refine R.back (i + 1, u, qo, ob, v2, (dd ++ ([((chP (lookX ((dRead dk (frm + (i : Int))).1) (first + (i : Int)))).1)]))) rfl (by ((try dsimp only); have e := look_O (k := (dd.length : Int)) §11 §11 §11; exact ⟨by omega, by rw [e.2.2]; exact sc_open HS (regS_at (by omega)) e.1 e.2.1, by simp; omega, by omega, by omega⟩)) (by dsimp only; omega) ⟨rfl, rfl, rfl, rfl, rfl, trivial⟩ (fun _ => Wd.pik [2, 3, 4, 5, 6, 7, 8, 9] [0, 1] rfl rfl rfl)
        · refine R.q §43 rfl <| R.nil ?_
          refine R.condT rfl rfl ?_
          refine R.reg rfl <| R.u 5 rfl <| R.nil ?_
          refine R.mp (fun _ hw => hw.batsIs 0 rfl) ?_
          refine R.mp (B' := [Res.box b3 §27 51, Res.row 51 qd (dd : List Change), Res.box b1 [.pointer (some ⟨b_dk, 0, none⟩), .int .i64 frm, .int .i64 (manyN : Int), .int .i64 first, .int .i64 (u : Int)] 85, Res.box b_dk [q_dkKept, q_dkNow, q_dkWait, .int .i64 dk.Fuse, .bool dk.Down] 81, Res.row 9 q_dkKept (dk.Kept : List ByteArray), Res.row 9 q_dkNow (dk.Now : List ByteArray), Res.row 83 q_dkWait (dk.Wait : List Turn), Res.held w own]) (fun _ hw => hw.lendL 2 _ rfl rfl) ?_
          have hz : (dk, §36, opnD dk frm (Int.toNat ((manyN : Nat) : Int)) first) = (dk, §29, (ob.map Bat.L)) := by (first | ((try dsimp only); have e := sc_stop HS (regS_at (by omega)) (look_noB (k := (dd.length : Int)) §11).1 (look_noB (k := (dd.length : Int)) §11).2; unfold opnU opnD; rw [show Int.toNat ((manyN : Nat) : Int) = manyN from rfl, e]) | ((try dsimp only); have e := sc_stop HS (regS_at (by omega)) (look_noC (k := (dd.length : Int)) §11 §11 §11).1 (look_noC (k := (dd.length : Int)) §11 §11 §11).2; unfold opnU opnD; rw [show Int.toNat ((manyN : Nat) : Int) = manyN from rfl, e]) | ((try dsimp only); have e := sc_stop HS (regS_at (by omega)) (look_noO (k := (dd.length : Int)) §11 §11 §11).1 (look_noO (k := (dd.length : Int)) §11 §11 §11).2; unfold opnU opnD; rw [show Int.toNat ((manyN : Nat) : Int) = manyN from rfl, e]) | ((try dsimp only); have e := sc_end HS (by rw [regS_len]; omega); unfold opnU opnD; rw [show Int.toNat ((manyN : Nat) : Int) = manyN from rfl, e]))
          have hz0 : ((manyN : Nat) : Int) = (manyN : Int) := congrArg (fun t_ => t_.2.1.Many) hz
          rw [hz0]
          have hz1 : (opnU dk frm (Int.toNat ((manyN : Nat) : Int)) first : Int) = (u : Int) := congrArg (fun t_ => t_.2.1.Next) hz
          rw [hz1]
          have hz2 : opnD dk frm (Int.toNat ((manyN : Nat) : Int)) first = (ob.map Bat.L) := congrArg (fun t_ => t_.2.2) hz
          rw [hz2]
          exact R.w3 (q_dkKept, q_dkNow, q_dkWait, b1, qo, ob) [3, 4, 5, 6, 2, 7] [0, 1] rfl Try.results11 (RV.tmp rfl) (RV.tmp rfl) (RV.tmp rfl) rfl rfl rfl (tup3 rfl rfl rfl)
    · rw [h2]
      refine R.u 10 rfl <| R.nil ?_
      refine R.condT rfl rfl ?_
      refine R.reg rfl <| R.u 5 rfl <| R.nil ?_
      refine R.mp (fun _ hw => hw.batsIs 0 rfl) ?_
      refine R.mp (B' := §22) (fun _ hw => hw.lendL 1 _ rfl rfl) ?_
      have hz : (dk, §36, opnD dk frm (Int.toNat ((manyN : Nat) : Int)) first) = (dk, §29, (ob.map Bat.L)) := by (first | ((try dsimp only); have e := sc_stop HS (regS_at (by omega)) (look_noB (k := (dd.length : Int)) §11).1 (look_noB (k := (dd.length : Int)) §11).2; unfold opnU opnD; rw [show Int.toNat ((manyN : Nat) : Int) = manyN from rfl, e]) | ((try dsimp only); have e := sc_stop HS (regS_at (by omega)) (look_noC (k := (dd.length : Int)) §11 §11 §11).1 (look_noC (k := (dd.length : Int)) §11 §11 §11).2; unfold opnU opnD; rw [show Int.toNat ((manyN : Nat) : Int) = manyN from rfl, e]) | ((try dsimp only); have e := sc_stop HS (regS_at (by omega)) (look_noO (k := (dd.length : Int)) §11 §11 §11).1 (look_noO (k := (dd.length : Int)) §11 §11 §11).2; unfold opnU opnD; rw [show Int.toNat ((manyN : Nat) : Int) = manyN from rfl, e]) | ((try dsimp only); have e := sc_end HS (by rw [regS_len]; omega); unfold opnU opnD; rw [show Int.toNat ((manyN : Nat) : Int) = manyN from rfl, e]))
      have hz0 : ((manyN : Nat) : Int) = (manyN : Int) := congrArg (fun t_ => t_.2.1.Many) hz
      rw [hz0]
      have hz1 : (opnU dk frm (Int.toNat ((manyN : Nat) : Int)) first : Int) = (u : Int) := congrArg (fun t_ => t_.2.1.Next) hz
      rw [hz1]
      have hz2 : opnD dk frm (Int.toNat ((manyN : Nat) : Int)) first = (ob.map Bat.L) := congrArg (fun t_ => t_.2.2) hz
      rw [hz2]
      exact R.w3 (q_dkKept, q_dkNow, q_dkWait, b1, qo, ob) [2, 3, 4, 5, 1, 6] [0, 1] rfl Try.results11 (RV.tmp rfl) (RV.tmp rfl) (RV.tmp rfl) rfl rfl rfl (tup3 rfl rfl rfl)
  · refine R.q §45 rfl <| R.nil ?_
    refine R.condF rfl rfl ?_
    refine R.reg rfl <| R.u 5 rfl <| R.nil ?_
    refine R.mp (fun _ hw => hw.batsIs 0 rfl) ?_
    refine R.mp (B' := §22) (fun _ hw => hw.lendL 1 _ rfl rfl) ?_
    have hz : (dk, §36, opnD dk frm (Int.toNat ((manyN : Nat) : Int)) first) = (dk, §29, (ob.map Bat.L)) := by (first | ((try dsimp only); have e := sc_stop HS (regS_at (by omega)) (look_noB (k := (dd.length : Int)) §11).1 (look_noB (k := (dd.length : Int)) §11).2; unfold opnU opnD; rw [show Int.toNat ((manyN : Nat) : Int) = manyN from rfl, e]) | ((try dsimp only); have e := sc_stop HS (regS_at (by omega)) (look_noC (k := (dd.length : Int)) §11 §11 §11).1 (look_noC (k := (dd.length : Int)) §11 §11 §11).2; unfold opnU opnD; rw [show Int.toNat ((manyN : Nat) : Int) = manyN from rfl, e]) | ((try dsimp only); have e := sc_stop HS (regS_at (by omega)) (look_noO (k := (dd.length : Int)) §11 §11 §11).1 (look_noO (k := (dd.length : Int)) §11 §11 §11).2; unfold opnU opnD; rw [show Int.toNat ((manyN : Nat) : Int) = manyN from rfl, e]) | ((try dsimp only); have e := sc_end HS (by rw [regS_len]; omega); unfold opnU opnD; rw [show Int.toNat ((manyN : Nat) : Int) = manyN from rfl, e]))
    have hz0 : ((manyN : Nat) : Int) = (manyN : Int) := congrArg (fun t_ => t_.2.1.Many) hz
    rw [hz0]
    have hz1 : (opnU dk frm (Int.toNat ((manyN : Nat) : Int)) first : Int) = (u : Int) := congrArg (fun t_ => t_.2.1.Next) hz
    rw [hz1]
    have hz2 : opnD dk frm (Int.toNat ((manyN : Nat) : Int)) first = (ob.map Bat.L) := congrArg (fun t_ => t_.2.2) hz
    rw [hz2]
    exact R.w3 (q_dkKept, q_dkNow, q_dkWait, b1, qo, ob) [2, 3, 4, 5, 1, 6] [0, 1] rfl Try.results11 (RV.tmp rfl) (RV.tmp rfl) (RV.tmp rfl) rfl rfl rfl (tup3 rfl rfl rfl)

set_option maxRecDepth 100000 in
theorem lay_any (b_lg : Nat) (lg : Lg) (v_c : Value) (c : List Change) (b_dk : Nat) (q_dkKept q_dkNow q_dkWait : Value) (dk : Dsk) (w : World) (own : List Nat) (H : Wd w (blks §8 ++ own) (§8 ++ [Res.held w own]) §39 w) (hb : 0 ≤ lg.From ∧ lg.From ≤ 1000000000 ∧ 0 ≤ lg.Next ∧ lg.Next ≤ 1000000000 ∧ 0 ≤ lg.First ∧ lg.First ≤ 4000000000000000000 ∧ 0 ≤ lg.Many ∧ lg.Many ≤ 1000000000) (hl : c.length ≤ 62) (hf : ∀ x ∈ c, chF x = 0) (hD : DOk dk.Now.length 90000 dk ∧ dk.Now.length ≤ 100000) : Calls Try.prog 50 #[.pointer (some ⟨b_lg, 0, none⟩), v_c] w fun e w' => ∃ z : Value × Value × Value, e = .returned (errv (((layA lg dk c).2))) ∧ Wd w (blks §8 ++ own) ([Res.box b_lg §17 85, Res.box b_dk [z.1, z.2.1, z.2.2, .int .i64 ((((layA lg dk c).1)).Fuse), .bool ((((layA lg dk c).1)).Down)] 81, Res.row 9 z.1 ((((layA lg dk c).1)).Kept : List ByteArray), Res.row 9 z.2.1 ((((layA lg dk c).1)).Now : List ByteArray), Res.row 83 z.2.2 ((((layA lg dk c).1)).Wait : List Turn)] ++ [Res.held w own]) [] w' := by
  have c_dk_Kept := H.cap 2 rfl; have m_dk_Kept := H.lenB 2 rfl
  have c_dk_Now := H.cap 3 rfl; have m_dk_Now := H.lenB 3 rfl
  have c_dk_Wait := H.cap 4 rfl; have m_dk_Wait := H.lenB 4 rfl
  have m_c := H.lenF 0 rfl
  refine R.enterN (n := 85) (vs := [.pointer (some ⟨b_lg, 0, none⟩), v_c]) (B := §40) [(0, .pointer (some ⟨b_lg, 0, none⟩)), (1, v_c)] Try.func50 rfl rfl rfl rfl H ?_
  refine R.reg rfl <| R.u 1 rfl <| R.nil ?_
  refine R.regQ rfl mixed §5 <| Q.u 1 rfl <| Q.q (q.nilc rfl) rfl <| Q.q (q.fld (off' := 1) rfl tFld_85_1 rfl) rfl <| Q.q (q.ld 0 rfl rfl tOne_3 rfl) rfl <| Q.u 1 rfl <| Q.q (q.nilc rfl) rfl <| Q.q (q.fld (off' := 4) rfl tFld_85_4 rfl) rfl <| Q.q (q.ld 0 rfl rfl tOne_3 rfl) rfl <| Q.q (q.add (r := lg.From + lg.Next) rfl rfl (wr (by omega))) rfl <| Q.u 1 rfl <| Q.nil ?_
  refine R.reg rfl <| R.u 1 rfl <| R.q §30 rfl <| R.u 1 rfl <| R.nil ?_
  refine R.loop (fun g_ : Nat × Dsk × Value × Value × Value => [(0, .pointer (some ⟨b_lg, 0, none⟩)), (1, v_c), (5, .int .i64 (lg.From + lg.Next)), (20, v_c), (21, .int .i64 (c.length : Int)), (22, .int .i64 (g_.1 : Int))]) (fun g_ : Nat × Dsk × Value × Value × Value => [Res.box b_lg §2 85, Res.box b_dk [g_.2.2.1, g_.2.2.2.1, g_.2.2.2.2, .int .i64 g_.2.1.Fuse, .bool g_.2.1.Down] 81, Res.row 9 g_.2.2.1 (g_.2.1.Kept : List ByteArray), Res.row 9 g_.2.2.2.1 (g_.2.1.Now : List ByteArray), Res.row 83 g_.2.2.2.2 (g_.2.1.Wait : List Turn), Res.held w own]) (fun g_ : Nat × Dsk × Value × Value × Value => §39) (fun g_ : Nat × Dsk × Value × Value × Value => g_.1 ≤ c.length ∧ layL lg g_.2.1 (c.drop g_.1) g_.1 = layL lg dk c 0 ∧ DOk dk.Now.length (90000 + g_.1) g_.2.1) (fun g_ : Nat × Dsk × Value × Value × Value => c.length - g_.1) (0, dk, q_dkKept, q_dkNow, q_dkWait) rfl (by (try dsimp only); exact ⟨by omega, rfl, hD.1⟩) ⟨rfl, rfl, rfl, rfl, rfl, rfl, trivial⟩ (fun _ => Wd.pick [0, 1, 2, 3, 4, 5] [0] rfl rfl rfl) ?_
  rintro ⟨i, dm, dm_Kept, dm_Now, dm_Wait⟩ ⟨hi, HL, hO⟩
  dsimp only at *
  have p1 := hO.fine (by omega) (by omega)
  refine R.reg rfl <| ?_
  by_cases h1 : i < c.length
  · refine R.q (q.lss rfl rfl (decide_eq_true (by omega))) rfl <| R.nil ?_
    refine R.condT rfl rfl ?_
    refine R.reg rfl <| R.u 1 rfl <| ?_
    obtain ⟨x1, hx1⟩ : ∃ z, c[i]? = some z := ⟨_, List.getElem?_eq_getElem (by omega)⟩
    have fx1 := chB_fit (hf x1 (List.mem_of_getElem? hx1)); obtain ⟨fx1, gx1⟩ := fx1
    refine R.q (q.idx (i := i) (fun _ => Wd.fls 0 rfl) rfl rfl tSl_46 rfl hx1) rfl <| R.q (q.ldES (ds := §31) (fun _ => Wd.fls 0 rfl) hx1 rfl tAgg_51 rfl) rfl <| ?_
    refine R.s rfl (s.alloc (cs := [.string (⟨#[]⟩), .string (⟨#[]⟩), .bool false]) tZero_51 rfl rfl) fun b1 => ?_
    refine R.u 1 rfl <| ?_
    refine R.s rfl (s.st (us := §31) (cs' := §31) 0 _ rfl rfl rfl rfl (.inl tAgg_51) rfl rfl rfl rfl) fun _ => ?_
    refine R.nil ?_
    refine R.reg rfl <| R.q (q.ldS 0 rfl rfl tAgg_51) rfl <| R.c (q.call eg_62 rfl rfl (fun w hw => (rowBytes_any (x1) w  ))) rfl <| R.u 5 rfl <| R.nil ?_
    refine R.reg rfl <| R.u 1 rfl <| R.q §28 rfl <| R.nil ?_
    refine R.condF rfl rfl ?_
    refine R.regD (fuel := 22) (Wd w (blks §8 ++ own) [Res.box b1 §31 51, Res.box b_lg §2 85, Res.held w own] §39) rfl mixed rfl ?_
    refine D.q (i := 0) rfl §5 §23 rfl (q.mv rfl) rfl <| D.q (i := 1) rfl §5 §23 rfl (q.nilc rfl) rfl <| D.q (i := 2) rfl §5 §23 rfl (q.fld (off' := 0) rfl tFld_85_0 rfl) rfl <| D.q (i := 3) rfl §5 §23 rfl (q.ld 1 rfl rfl tOne_26 rfl) rfl <| D.q (i := 4) rfl §5 §23 rfl (q.mv rfl) rfl <| D.q (i := 5) rfl §5 §23 rfl (q.mv rfl) rfl <| D.q (i := 6) rfl §5 §23 rfl (q.add (r := (lg.From + lg.Next) + (i : Int)) rfl rfl (wr (by omega))) rfl <| D.q (i := 7) rfl §5 §23 rfl (q.mv rfl) rfl <| D.q (i := 8) rfl §5 §23 rfl (q.nilc rfl) rfl <| D.q (i := 9) rfl §5 §23 rfl (q.fld (off' := 3) rfl tFld_85_3 rfl) rfl <| D.q (i := 10) rfl §5 §23 rfl (q.ld 1 rfl rfl tOne_3 rfl) rfl <| D.q (i := 11) rfl §5 §23 rfl (q.mv rfl) rfl <| D.q (i := 12) rfl §5 §23 rfl (q.nilc rfl) rfl <| D.q (i := 13) rfl §5 §23 rfl (q.fld (off' := 4) rfl tFld_85_4 rfl) rfl <| D.q (i := 14) rfl §5 §23 rfl (q.ld 1 rfl rfl tOne_3 rfl) rfl <| D.q (i := 15) rfl §5 §23 rfl (q.add (r := lg.First + lg.Next) rfl rfl (wr (by omega))) rfl <| D.q (i := 16) rfl §5 §23 rfl (q.mv rfl) rfl <| D.q (i := 17) rfl §5 §23 rfl (q.add (r := (lg.First + lg.Next) + (i : Int)) rfl rfl (wr (by omega))) rfl <| D.q (i := 18) rfl §5 §23 rfl (q.mv rfl) rfl <| ?_
    refine D.one (i := 19) §5 rfl ?_
    refine Do.s (s.c (q.call eg_53 rfl rfl (fun w hw => (text_any (111) (((lg.First + lg.Next) + (i : Int))) ((chB x1).1) w  (by decide) (by omega) (by first | omega | assumption | (rw [fourB_size]; decide))))) rfl) (fun _ => §23) rfl fun _ => ?_
    refine D.one (i := 20) §5 rfl ?_
    refine Do.s (B' := (fun g_ : Value × Value × Value => [Res.box b_dk [g_.1, g_.2.1, g_.2.2, .int .i64 ((((dWrite dm ((lg.From + lg.Next) + (i : Int)) (secT 111 ((lg.First + lg.Next) + (i : Int)) ((chB x1).1)))).1).Fuse), .bool ((((dWrite dm ((lg.From + lg.Next) + (i : Int)) (secT 111 ((lg.First + lg.Next) + (i : Int)) ((chB x1).1)))).1).Down)] 81, Res.row 9 g_.1 ((((dWrite dm ((lg.From + lg.Next) + (i : Int)) (secT 111 ((lg.First + lg.Next) + (i : Int)) ((chB x1).1)))).1).Kept : List ByteArray), Res.row 9 g_.2.1 ((((dWrite dm ((lg.From + lg.Next) + (i : Int)) (secT 111 ((lg.First + lg.Next) + (i : Int)) ((chB x1).1)))).1).Now : List ByteArray), Res.row 83 g_.2.2 ((((dWrite dm ((lg.From + lg.Next) + (i : Int)) (secT 111 ((lg.First + lg.Next) + (i : Int)) ((chB x1).1)))).1).Wait : List Turn), Res.box b1 §31 51, Res.box b_lg §2 85, Res.held w own])) (F' := (fun g_ : Value × Value × Value => §39)) (s.callV (B0 := [Res.box b_dk [dm_Kept, dm_Now, dm_Wait, .int .i64 dm.Fuse, .bool dm.Down] 81, Res.row 9 dm_Kept (dm.Kept : List ByteArray), Res.row 9 dm_Now (dm.Now : List ByteArray), Res.row 83 dm_Wait (dm.Wait : List Turn)]) (Br := [Res.box b1 §31 51, Res.box b_lg §2 85, Res.held w own]) (F0 := []) [2, 3, 4, 5, 0, 1, 6] [] (fun g_ : Value × Value × Value => errv (((dWrite dm ((lg.From + lg.Next) + (i : Int)) (secT 111 ((lg.First + lg.Next) + (i : Int)) ((chB x1).1)))).2)) (fun g_ : Value × Value × Value => [Res.box b_dk [g_.1, g_.2.1, g_.2.2, .int .i64 ((((dWrite dm ((lg.From + lg.Next) + (i : Int)) (secT 111 ((lg.First + lg.Next) + (i : Int)) ((chB x1).1)))).1).Fuse), .bool ((((dWrite dm ((lg.From + lg.Next) + (i : Int)) (secT 111 ((lg.First + lg.Next) + (i : Int)) ((chB x1).1)))).1).Down)] 81, Res.row 9 g_.1 ((((dWrite dm ((lg.From + lg.Next) + (i : Int)) (secT 111 ((lg.First + lg.Next) + (i : Int)) ((chB x1).1)))).1).Kept : List ByteArray), Res.row 9 g_.2.1 ((((dWrite dm ((lg.From + lg.Next) + (i : Int)) (secT 111 ((lg.First + lg.Next) + (i : Int)) ((chB x1).1)))).1).Now : List ByteArray), Res.row 83 g_.2.2 ((((dWrite dm ((lg.From + lg.Next) + (i : Int)) (secT 111 ((lg.First + lg.Next) + (i : Int)) ((chB x1).1)))).1).Wait : List Turn)]) (fun g_ : Value × Value × Value => []) rfl rfl rfl eg_10 rfl rfl (fun w own hw H => dWrite_any b_dk dm_Kept dm_Now dm_Wait (dm) (((lg.From + lg.Next) + (i : Int))) (secT 111 ((lg.First + lg.Next) + (i : Int)) ((chB x1).1)) w own H (by first | assumption | omega)) rfl) (fun _ => (fun _ => Wd.pik [4, 5, 6] [0] rfl rfl rfl)) rfl ?_
    rintro ⟨z4, z5, z6⟩
    dsimp only
    refine D.q (i := 21) rfl §5 (fun _ => Wd.pik [4, 5, 6] [0] rfl rfl rfl) rfl (q.as rfl) rfl <| D.done §5 <| ?_
    refine R.reg rfl <| R.u 1 rfl <| ?_
    by_cases h2 : (dWrite dm ((lg.From + lg.Next) + (i : Int)) (secT 111 ((lg.First + lg.Next) + (i : Int)) ((chB x1).1))).2 = 0
    · refine R.q §28 rfl <| R.nil ?_
      refine R.condF rfl rfl ?_
      refine R.reg rfl <| R.q §46 rfl <| R.u 1 rfl <| R.nil ?_
      refine R.back (i + 1, ((dWrite dm ((lg.From + lg.Next) + (i : Int)) (secT 111 ((lg.First + lg.Next) + (i : Int)) ((chB x1).1))).1), z4, z5, z6) rfl (by ((try dsimp only); exact ⟨by omega, lay_go HL hx1 §11, hO.write _ _⟩)) (by dsimp only; omega) ⟨rfl, rfl, rfl, rfl, rfl, rfl, trivial⟩ (fun _ => Wd.pik [5, 0, 1, 2, 3, 6] [0] rfl rfl rfl)
    · refine R.q §43 rfl <| R.nil ?_
      refine R.condT rfl rfl ?_
      refine R.reg rfl <| R.u 2 rfl <| R.nil ?_
      have hz : (lg, (layA lg dk c).1, (layA lg dk c).2) = (lg, ((dWrite dm ((lg.From + lg.Next) + (i : Int)) (secT 111 ((lg.First + lg.Next) + (i : Int)) ((chB x1).1))).1), (dWrite dm ((lg.From + lg.Next) + (i : Int)) (secT 111 ((lg.First + lg.Next) + (i : Int)) ((chB x1).1))).2) := by (rw [layA_stop (lay_stop HL hx1 §11).symm §11])
      have hz0 : (layA lg dk c).1 = ((dWrite dm ((lg.From + lg.Next) + (i : Int)) (secT 111 ((lg.First + lg.Next) + (i : Int)) ((chB x1).1))).1) := congrArg (fun t_ => t_.2.1) hz
      rw [hz0]
      have hz1 : (layA lg dk c).2 = (dWrite dm ((lg.From + lg.Next) + (i : Int)) (secT 111 ((lg.First + lg.Next) + (i : Int)) ((chB x1).1))).2 := congrArg (fun t_ => t_.2.2) hz
      rw [hz1]
      exact R.w1 (z4, z5, z6) [5, 0, 1, 2, 3, 6] [] rfl Try.results50 (RV.tmp rfl) rfl rfl rfl rfl
  · refine R.q §45 rfl <| R.nil ?_
    refine R.condF rfl rfl ?_
    refine R.reg rfl <| R.u 1 rfl <| R.q (q.nilc rfl) rfl <| R.q (q.fld (off' := 4) rfl tFld_85_4 rfl) rfl <| R.q (q.ld 0 rfl rfl tOne_3 rfl) rfl <| R.u 1 rfl <| R.q §30 rfl <| R.q (q.add (r := lg.Next + (c.length : Int)) rfl rfl (wr (by omega))) rfl <| R.q (q.add (r := (lg.Next + (c.length : Int)) + 1) rfl rfl (wr (by omega))) rfl <| R.u 1 rfl <| R.nil ?_
    refine R.reg rfl <| R.u 2 rfl <| R.q (q.nilc rfl) rfl <| R.q (q.fld (off' := 2) rfl tFld_85_2 rfl) rfl <| R.q (q.ld 0 rfl rfl tOne_3 rfl) rfl <| ?_
    by_cases h3 : ((lg.Next + (c.length : Int)) + 1) < lg.Many
    · refine R.q (q.lss rfl rfl (decide_eq_true (by omega))) rfl <| R.nil ?_
      refine R.condT rfl rfl ?_
      refine R.regD (fuel := 12) (Wd w (blks §8 ++ own) [Res.box b_lg §2 85, Res.held w own] §39) rfl mixed rfl ?_
      refine D.q (i := 0) rfl §5 §34 rfl (q.mv rfl) rfl <| D.q (i := 1) rfl §5 §34 rfl (q.nilc rfl) rfl <| D.q (i := 2) rfl §5 §34 rfl (q.fld (off' := 0) rfl tFld_85_0 rfl) rfl <| D.q (i := 3) rfl §5 §34 rfl (q.ld 0 rfl rfl tOne_26 rfl) rfl <| D.q (i := 4) rfl §5 §34 rfl (q.mv rfl) rfl <| D.q (i := 5) rfl §5 §34 rfl (q.nilc rfl) rfl <| D.q (i := 6) rfl §5 §34 rfl (q.fld (off' := 1) rfl tFld_85_1 rfl) rfl <| D.q (i := 7) rfl §5 §34 rfl (q.ld 0 rfl rfl tOne_3 rfl) rfl <| D.q (i := 8) rfl §5 §34 rfl (q.mv rfl) rfl <| D.q (i := 9) rfl §5 §34 rfl (q.add (r := lg.From + ((lg.Next + (c.length : Int)) + 1)) rfl rfl (wr (by omega))) rfl <| ?_
      refine D.one (i := 10) §5 rfl ?_
      refine Do.s (B' := (fun g_ : Value × Value × Value => [Res.box b_dk [g_.1, g_.2.1, g_.2.2, .int .i64 ((((dWrite dm (lg.From + ((lg.Next + (c.length : Int)) + 1)) (⟨#[]⟩))).1).Fuse), .bool ((((dWrite dm (lg.From + ((lg.Next + (c.length : Int)) + 1)) (⟨#[]⟩))).1).Down)] 81, Res.row 9 g_.1 ((((dWrite dm (lg.From + ((lg.Next + (c.length : Int)) + 1)) (⟨#[]⟩))).1).Kept : List ByteArray), Res.row 9 g_.2.1 ((((dWrite dm (lg.From + ((lg.Next + (c.length : Int)) + 1)) (⟨#[]⟩))).1).Now : List ByteArray), Res.row 83 g_.2.2 ((((dWrite dm (lg.From + ((lg.Next + (c.length : Int)) + 1)) (⟨#[]⟩))).1).Wait : List Turn), Res.box b_lg §2 85, Res.held w own])) (F' := (fun g_ : Value × Value × Value => §39)) (s.callV (B0 := [Res.box b_dk [dm_Kept, dm_Now, dm_Wait, .int .i64 dm.Fuse, .bool dm.Down] 81, Res.row 9 dm_Kept (dm.Kept : List ByteArray), Res.row 9 dm_Now (dm.Now : List ByteArray), Res.row 83 dm_Wait (dm.Wait : List Turn)]) (Br := [Res.box b_lg §2 85, Res.held w own]) (F0 := []) [1, 2, 3, 4, 0, 5] [] (fun g_ : Value × Value × Value => errv (((dWrite dm (lg.From + ((lg.Next + (c.length : Int)) + 1)) (⟨#[]⟩))).2)) (fun g_ : Value × Value × Value => [Res.box b_dk [g_.1, g_.2.1, g_.2.2, .int .i64 ((((dWrite dm (lg.From + ((lg.Next + (c.length : Int)) + 1)) (⟨#[]⟩))).1).Fuse), .bool ((((dWrite dm (lg.From + ((lg.Next + (c.length : Int)) + 1)) (⟨#[]⟩))).1).Down)] 81, Res.row 9 g_.1 ((((dWrite dm (lg.From + ((lg.Next + (c.length : Int)) + 1)) (⟨#[]⟩))).1).Kept : List ByteArray), Res.row 9 g_.2.1 ((((dWrite dm (lg.From + ((lg.Next + (c.length : Int)) + 1)) (⟨#[]⟩))).1).Now : List ByteArray), Res.row 83 g_.2.2 ((((dWrite dm (lg.From + ((lg.Next + (c.length : Int)) + 1)) (⟨#[]⟩))).1).Wait : List Turn)]) (fun g_ : Value × Value × Value => []) rfl rfl rfl eg_10 rfl rfl (fun w own hw H => dWrite_any b_dk dm_Kept dm_Now dm_Wait (dm) ((lg.From + ((lg.Next + (c.length : Int)) + 1))) (⟨#[]⟩) w own H (by first | assumption | omega)) rfl) (fun _ => (fun _ => Wd.pik [4, 5] [0] rfl rfl rfl)) rfl ?_
      rintro ⟨z10, z11, z12⟩
      dsimp only
      refine D.q (i := 11) rfl §5 (fun _ => Wd.pik [4, 5] [0] rfl rfl rfl) rfl (q.as rfl) rfl <| D.done §5 <| ?_
      have hz : (lg, (layA lg dk c).1, (layA lg dk c).2) = (lg, ((dWrite dm (lg.From + ((lg.Next + (c.length : Int)) + 1)) (⟨#[]⟩)).1), (dWrite dm (lg.From + ((lg.Next + (c.length : Int)) + 1)) (⟨#[]⟩)).2) := by (have e := lay_end HL (by omega); first | (rw [layA_end e §11]; done) | (rw [layA_last e (by omega)]; done))
      have hz0 : (layA lg dk c).1 = ((dWrite dm (lg.From + ((lg.Next + (c.length : Int)) + 1)) (⟨#[]⟩)).1) := congrArg (fun t_ => t_.2.1) hz
      rw [hz0]
      have hz1 : (layA lg dk c).2 = (dWrite dm (lg.From + ((lg.Next + (c.length : Int)) + 1)) (⟨#[]⟩)).2 := congrArg (fun t_ => t_.2.2) hz
      rw [hz1]
      exact R.w1 (z10, z11, z12) [4, 0, 1, 2, 3, 5] [] rfl Try.results50 (RV.tmp rfl) rfl rfl rfl rfl
    · refine R.q §45 rfl <| R.nil ?_
      refine R.condF rfl rfl ?_
      refine R.reg rfl <| R.u 1 rfl <| R.nil ?_
      have hz : (lg, (layA lg dk c).1, (layA lg dk c).2) = (lg, dm, 0) := by (have e := lay_end HL (by omega); first | (rw [layA_end e §11]; done) | (rw [layA_last e (by omega)]; done))
      have hz0 : (layA lg dk c).1 = dm := congrArg (fun t_ => t_.2.1) hz
      rw [hz0]
      have hz1 : (layA lg dk c).2 = 0 := congrArg (fun t_ => t_.2.2) hz
      rw [hz1]
      exact R.w1 (dm_Kept, dm_Now, dm_Wait) [0, 1, 2, 3, 4, 5] [] rfl Try.results50 (RV.tmp rfl) rfl rfl rfl (err0 rfl)

theorem add1_any (b_pl : Nat) (pl : Unit) (b_pc : Nat) (q_pcC : Value) (pc : ChB) (b_lg : Nat) (lg : Lg) (b_dk : Nat) (q_dkKept q_dkNow q_dkWait : Value) (dk : Dsk) (w : World) (own : List Nat) (H : Wd w (blks §26 ++ own) (§26 ++ [Res.held w own]) [Res.ls q_pcC (pc.C : List Change)] w) (hb : 0 ≤ lg.From ∧ lg.From ≤ 1000000000 ∧ 0 ≤ lg.Next ∧ lg.Next ≤ 1000000000 ∧ 0 ≤ lg.First ∧ lg.First ≤ 4000000000000000000 ∧ 0 ≤ lg.Many ∧ lg.Many ≤ 1000000000) (hl : pc.C.length ≤ 62) (hf : ∀ x ∈ pc.C, chF x = 0) (hD : DOk dk.Now.length 90000 dk ∧ dk.Now.length ≤ 100000) : Calls Try.prog 49 #[.pointer (some ⟨b_pl, 0, none⟩), .pointer (some ⟨b_pc, 0, none⟩)] w fun e w' => ∃ z : Value × Value × Value × Value, e = .returned (errv (((layA lg dk pc.C).2))) ∧ Wd w (blks §26 ++ own) ([Res.box b_pl §19 32, Res.box b_pc [z.1] 46, Res.box b_lg §17 85, Res.box b_dk [z.2.1, z.2.2.1, z.2.2.2, .int .i64 ((((layA lg dk pc.C).1)).Fuse), .bool ((((layA lg dk pc.C).1)).Down)] 81, Res.row 9 z.2.1 ((((layA lg dk pc.C).1)).Kept : List ByteArray), Res.row 9 z.2.2.1 ((((layA lg dk pc.C).1)).Now : List ByteArray), Res.row 83 z.2.2.2 ((((layA lg dk pc.C).1)).Wait : List Turn)] ++ [Res.held w own]) [Res.ls z.1 ((pc).C : List Change)] w' := by
  have c_dk_Kept := H.cap 4 rfl; have m_dk_Kept := H.lenB 4 rfl
  have c_dk_Now := H.cap 5 rfl; have m_dk_Now := H.lenB 5 rfl
  have c_dk_Wait := H.cap 6 rfl; have m_dk_Wait := H.lenB 6 rfl
  have m_pc_C := H.lenF 0 rfl
  refine R.enterN (n := 6) (vs := [.pointer (some ⟨b_pl, 0, none⟩), .pointer (some ⟨b_pc, 0, none⟩)]) (B := [Res.box b_pl §19 32, Res.box b_pc [q_pcC] 46, Res.box b_lg §2 85, Res.box b_dk [q_dkKept, q_dkNow, q_dkWait, .int .i64 dk.Fuse, .bool dk.Down] 81, Res.row 9 q_dkKept (dk.Kept : List ByteArray), Res.row 9 q_dkNow (dk.Now : List ByteArray), Res.row 83 q_dkWait (dk.Wait : List Turn), Res.held w own]) [(0, .pointer (some ⟨b_pl, 0, none⟩)), (1, .pointer (some ⟨b_pc, 0, none⟩))] Try.func49 rfl rfl rfl rfl H ?_
  refine R.reg rfl <| R.u 1 rfl <| R.nil ?_
  refine R.reg rfl <| R.q (q.ld 0 rfl rfl tOne_32 rfl) rfl <| R.q (q.ld 1 rfl rfl tOne_46 rfl) rfl <| ?_
  refine R.s (B' := (fun g_ : Value × Value × Value => [Res.box b_lg §17 85, Res.box b_dk [g_.1, g_.2.1, g_.2.2, .int .i64 ((((layA lg dk pc.C).1)).Fuse), .bool ((((layA lg dk pc.C).1)).Down)] 81, Res.row 9 g_.1 ((((layA lg dk pc.C).1)).Kept : List ByteArray), Res.row 9 g_.2.1 ((((layA lg dk pc.C).1)).Now : List ByteArray), Res.row 83 g_.2.2 ((((layA lg dk pc.C).1)).Wait : List Turn), Res.box b_pl §19 32, Res.box b_pc [q_pcC] 46, Res.held w own])) (F' := (fun g_ : Value × Value × Value => [Res.ls q_pcC (pc.C : List Change)])) rfl (s.callV (B0 := §8) (Br := [Res.box b_pl §19 32, Res.box b_pc [q_pcC] 46, Res.held w own]) (F0 := [Res.ls q_pcC (pc.C : List Change)]) [2, 3, 4, 5, 6, 0, 1, 7] [0] (fun g_ : Value × Value × Value => errv (((layA lg dk pc.C).2))) (fun g_ : Value × Value × Value => [Res.box b_lg §17 85, Res.box b_dk [g_.1, g_.2.1, g_.2.2, .int .i64 ((((layA lg dk pc.C).1)).Fuse), .bool ((((layA lg dk pc.C).1)).Down)] 81, Res.row 9 g_.1 ((((layA lg dk pc.C).1)).Kept : List ByteArray), Res.row 9 g_.2.1 ((((layA lg dk pc.C).1)).Now : List ByteArray), Res.row 83 g_.2.2 ((((layA lg dk pc.C).1)).Wait : List Turn)]) (fun g_ : Value × Value × Value => []) rfl rfl rfl eg_50 rfl rfl (fun w own hw H => lay_any b_lg  (lg) q_pcC (pc.C) b_dk q_dkKept q_dkNow q_dkWait (dk) w own H §42 (by omega) §11 (by first | assumption | exact ⟨by assumption, by omega⟩)) rfl) ?_
  rintro ⟨z1, z2, z3⟩
  dsimp only
  refine R.u 1 rfl <| R.nil ?_
  have hz : ((), pc, lg, (layA lg dk pc.C).1, (layA lg dk pc.C).2) = ((), pc, lg, ((layA lg dk pc.C).1), (layA lg dk pc.C).2) := by (rfl)
  exact R.w1 (q_pcC, z1, z2, z3) [5, 6, 0, 1, 2, 3, 4, 7] [0] rfl Try.results49 (RV.tmp rfl) rfl rfl rfl rfl

theorem add2_any (b_pl : Nat) (pl : Unit) (b_pe : Nat) (pe : IntB) (b_pc : Nat) (q_pcC : Value) (pc : ChB) (b_lg : Nat) (lg : Lg) (b_dk : Nat) (q_dkKept q_dkNow q_dkWait : Value) (dk : Dsk) (w : World) (own : List Nat) (H : Wd w (blks §16 ++ own) (§16 ++ [Res.held w own]) [Res.ls q_pcC (pc.C : List Change)] w) (hb : 0 ≤ lg.From ∧ lg.From ≤ 1000000000 ∧ 0 ≤ lg.Next ∧ lg.Next ≤ 1000000000 ∧ 0 ≤ lg.First ∧ lg.First ≤ 4000000000000000000 ∧ 0 ≤ lg.Many ∧ lg.Many ≤ 1000000000) (he : 0 ≤ pe.E ∧ pe.E ≤ 2000000000) (hl : pc.C.length ≤ 62) (hD : DOk dk.Now.length 91000 dk ∧ dk.Now.length ≤ 100000) : Calls Try.prog 52 #[.pointer (some ⟨b_pl, 0, none⟩), .pointer (some ⟨b_pe, 0, none⟩), .pointer (some ⟨b_pc, 0, none⟩)] w fun e w' => ∃ z : Value × Value × Value × Value, e = .returned (errv (((dWrite dk (lg.From + pe.E) (secT 99 (lg.First + pe.E) (fourB (pc.C.length : Int)))).2))) ∧ Wd w (blks §16 ++ own) ([Res.box b_pl §19 32, Res.box b_pe [.int .i64 ((pe).E)] 3, Res.box b_pc [z.1] 46, Res.box b_lg §17 85, Res.box b_dk [z.2.1, z.2.2.1, z.2.2.2, .int .i64 ((((dWrite dk (lg.From + pe.E) (secT 99 (lg.First + pe.E) (fourB (pc.C.length : Int)))).1)).Fuse), .bool ((((dWrite dk (lg.From + pe.E) (secT 99 (lg.First + pe.E) (fourB (pc.C.length : Int)))).1)).Down)] 81, Res.row 9 z.2.1 ((((dWrite dk (lg.From + pe.E) (secT 99 (lg.First + pe.E) (fourB (pc.C.length : Int)))).1)).Kept : List ByteArray), Res.row 9 z.2.2.1 ((((dWrite dk (lg.From + pe.E) (secT 99 (lg.First + pe.E) (fourB (pc.C.length : Int)))).1)).Now : List ByteArray), Res.row 83 z.2.2.2 ((((dWrite dk (lg.From + pe.E) (secT 99 (lg.First + pe.E) (fourB (pc.C.length : Int)))).1)).Wait : List Turn)] ++ [Res.held w own]) [Res.ls z.1 ((pc).C : List Change)] w' := by
  have c_dk_Kept := H.cap 5 rfl; have m_dk_Kept := H.lenB 5 rfl
  have c_dk_Now := H.cap 6 rfl; have m_dk_Now := H.lenB 6 rfl
  have c_dk_Wait := H.cap 7 rfl; have m_dk_Wait := H.lenB 7 rfl
  have m_pc_C := H.lenF 0 rfl
  have p1 := hD.1.fine (by omega) (by omega)
  refine R.enterN (n := 25) (vs := [.pointer (some ⟨b_pl, 0, none⟩), .pointer (some ⟨b_pe, 0, none⟩), .pointer (some ⟨b_pc, 0, none⟩)]) (B := [Res.box b_pl §19 32, Res.box b_pe [.int .i64 pe.E] 3, Res.box b_pc [q_pcC] 46, Res.box b_lg §2 85, Res.box b_dk [q_dkKept, q_dkNow, q_dkWait, .int .i64 dk.Fuse, .bool dk.Down] 81, Res.row 9 q_dkKept (dk.Kept : List ByteArray), Res.row 9 q_dkNow (dk.Now : List ByteArray), Res.row 83 q_dkWait (dk.Wait : List Turn), Res.held w own]) [(0, .pointer (some ⟨b_pl, 0, none⟩)), (1, .pointer (some ⟨b_pe, 0, none⟩)), (2, .pointer (some ⟨b_pc, 0, none⟩))] Try.func52 rfl rfl rfl rfl H ?_
  refine R.reg rfl <| R.u 1 rfl <| R.nil ?_
  refine R.regD (fuel := 22) (Wd w (blks §16 ++ own) [Res.box b_pl §19 32, Res.box b_pe [.int .i64 pe.E] 3, Res.box b_pc [q_pcC] 46, Res.box b_lg §2 85, Res.held w own] [Res.ls q_pcC (pc.C : List Change)]) rfl mixed rfl ?_
  refine D.q (i := 0) rfl §5 §20 rfl (q.ld 0 rfl rfl tOne_32 rfl) rfl <| D.q (i := 1) rfl §5 §20 rfl (q.nilc rfl) rfl <| D.q (i := 2) rfl §5 §20 rfl (q.fld (off' := 0) rfl tFld_85_0 rfl) rfl <| D.q (i := 3) rfl §5 §20 rfl (q.ld 3 rfl rfl tOne_26 rfl) rfl <| D.q (i := 4) rfl §5 §20 rfl (q.ld 0 rfl rfl tOne_32 rfl) rfl <| D.q (i := 5) rfl §5 §20 rfl (q.nilc rfl) rfl <| D.q (i := 6) rfl §5 §20 rfl (q.fld (off' := 1) rfl tFld_85_1 rfl) rfl <| D.q (i := 7) rfl §5 §20 rfl (q.ld 3 rfl rfl tOne_3 rfl) rfl <| D.q (i := 8) rfl §5 §20 rfl (q.ld 1 rfl rfl tOne_3 rfl) rfl <| D.q (i := 9) rfl §5 §20 rfl (q.add (r := lg.From + pe.E) rfl rfl (wr (by omega))) rfl <| D.q (i := 10) rfl §5 §20 rfl (q.ld 0 rfl rfl tOne_32 rfl) rfl <| D.q (i := 11) rfl §5 §20 rfl (q.nilc rfl) rfl <| D.q (i := 12) rfl §5 §20 rfl (q.fld (off' := 3) rfl tFld_85_3 rfl) rfl <| D.q (i := 13) rfl §5 §20 rfl (q.ld 3 rfl rfl tOne_3 rfl) rfl <| D.q (i := 14) rfl §5 §20 rfl (q.ld 1 rfl rfl tOne_3 rfl) rfl <| D.q (i := 15) rfl §5 §20 rfl (q.add (r := lg.First + pe.E) rfl rfl (wr (by omega))) rfl <| D.q (i := 16) rfl §5 §20 rfl (q.ld 2 rfl rfl tOne_46 rfl) rfl <| D.q (i := 17) rfl §5 §20 rfl §30 rfl <| ?_
  refine D.one (i := 18) §5 rfl ?_
  refine Do.s (s.c (q.call eg_44 rfl rfl (fun w hw => (four_any ((pc.C.length : Int)) w  (by omega)))) rfl) (fun _ => §20) rfl fun _ => ?_
  refine D.one (i := 19) §5 rfl ?_
  refine Do.s (s.c (q.call eg_53 rfl rfl (fun w hw => (text_any (99) ((lg.First + pe.E)) (fourB (pc.C.length : Int)) w  (by decide) (by omega) (by first | omega | assumption | (rw [fourB_size]; decide))))) rfl) (fun _ => §20) rfl fun _ => ?_
  refine D.one (i := 20) §5 rfl ?_
  refine Do.s (B' := (fun g_ : Value × Value × Value => [Res.box b_dk [g_.1, g_.2.1, g_.2.2, .int .i64 ((((dWrite dk (lg.From + pe.E) (secT 99 (lg.First + pe.E) (fourB (pc.C.length : Int))))).1).Fuse), .bool ((((dWrite dk (lg.From + pe.E) (secT 99 (lg.First + pe.E) (fourB (pc.C.length : Int))))).1).Down)] 81, Res.row 9 g_.1 ((((dWrite dk (lg.From + pe.E) (secT 99 (lg.First + pe.E) (fourB (pc.C.length : Int))))).1).Kept : List ByteArray), Res.row 9 g_.2.1 ((((dWrite dk (lg.From + pe.E) (secT 99 (lg.First + pe.E) (fourB (pc.C.length : Int))))).1).Now : List ByteArray), Res.row 83 g_.2.2 ((((dWrite dk (lg.From + pe.E) (secT 99 (lg.First + pe.E) (fourB (pc.C.length : Int))))).1).Wait : List Turn), Res.box b_pl §19 32, Res.box b_pe [.int .i64 pe.E] 3, Res.box b_pc [q_pcC] 46, Res.box b_lg §2 85, Res.held w own])) (F' := (fun g_ : Value × Value × Value => [Res.ls q_pcC (pc.C : List Change)])) (s.callV (B0 := §25) (Br := [Res.box b_pl §19 32, Res.box b_pe [.int .i64 pe.E] 3, Res.box b_pc [q_pcC] 46, Res.box b_lg §2 85, Res.held w own]) (F0 := []) [4, 5, 6, 7, 0, 1, 2, 3, 8] [] (fun g_ : Value × Value × Value => errv (((dWrite dk (lg.From + pe.E) (secT 99 (lg.First + pe.E) (fourB (pc.C.length : Int))))).2)) (fun g_ : Value × Value × Value => [Res.box b_dk [g_.1, g_.2.1, g_.2.2, .int .i64 ((((dWrite dk (lg.From + pe.E) (secT 99 (lg.First + pe.E) (fourB (pc.C.length : Int))))).1).Fuse), .bool ((((dWrite dk (lg.From + pe.E) (secT 99 (lg.First + pe.E) (fourB (pc.C.length : Int))))).1).Down)] 81, Res.row 9 g_.1 ((((dWrite dk (lg.From + pe.E) (secT 99 (lg.First + pe.E) (fourB (pc.C.length : Int))))).1).Kept : List ByteArray), Res.row 9 g_.2.1 ((((dWrite dk (lg.From + pe.E) (secT 99 (lg.First + pe.E) (fourB (pc.C.length : Int))))).1).Now : List ByteArray), Res.row 83 g_.2.2 ((((dWrite dk (lg.From + pe.E) (secT 99 (lg.First + pe.E) (fourB (pc.C.length : Int))))).1).Wait : List Turn)]) (fun g_ : Value × Value × Value => []) rfl rfl rfl eg_10 rfl rfl (fun w own hw H => dWrite_any b_dk q_dkKept q_dkNow q_dkWait (dk) ((lg.From + pe.E)) (secT 99 (lg.First + pe.E) (fourB (pc.C.length : Int))) w own H (by first | assumption | omega)) rfl) (fun _ => (fun _ => Wd.pik [4, 5, 6, 7, 8] [0] rfl rfl rfl)) rfl ?_
  rintro ⟨z4, z5, z6⟩
  dsimp only
  refine D.q (i := 21) rfl §5 (fun _ => Wd.pik [4, 5, 6, 7, 8] [0] rfl rfl rfl) rfl (q.as rfl) rfl <| D.done §5 <| ?_
  have hz : ((), pe, pc, lg, (dWrite dk (lg.From + pe.E) (secT 99 (lg.First + pe.E) (fourB (pc.C.length : Int)))).1, (dWrite dk (lg.From + pe.E) (secT 99 (lg.First + pe.E) (fourB (pc.C.length : Int)))).2) = ((), pe, pc, lg, ((dWrite dk (lg.From + pe.E) (secT 99 (lg.First + pe.E) (fourB (pc.C.length : Int)))).1), (dWrite dk (lg.From + pe.E) (secT 99 (lg.First + pe.E) (fourB (pc.C.length : Int)))).2) := by (rfl)
  exact R.w1 (q_pcC, z4, z5, z6) [4, 5, 6, 7, 0, 1, 2, 3, 8] [0] rfl Try.results52 (RV.tmp rfl) rfl rfl rfl rfl

set_option maxHeartbeats 1600000 in
theorem add_any (b_lg : Nat) (lg : Lg) (v_c : Value) (c : List Change) (b_dk : Nat) (q_dkKept q_dkNow q_dkWait : Value) (dk : Dsk) (w : World) (own : List Nat) (H : Wd w (blks §8 ++ own) (§8 ++ [Res.held w own]) §39 w) (hb : 0 ≤ lg.From ∧ lg.From ≤ 1000000000 ∧ 0 ≤ lg.Next ∧ lg.Next ≤ 1000000000 ∧ 0 ≤ lg.First ∧ lg.First ≤ 4000000000000000000 ∧ 0 ≤ lg.Many ∧ lg.Many ≤ 1000000000) (hD : DOk dk.Now.length 80000 dk ∧ dk.Now.length ≤ 100000) : Calls Try.prog 20 #[.pointer (some ⟨b_lg, 0, none⟩), v_c] w fun e w' => ∃ z : Value × Value × Value, e = .returned (errv (((addL lg dk c)).2.2)) ∧ Wd w (blks §8 ++ own) ([Res.box b_lg [.pointer (some ⟨b_dk, 0, none⟩), .int .i64 ((((addL lg dk c)).1).From), .int .i64 ((((addL lg dk c)).1).Many), .int .i64 ((((addL lg dk c)).1).First), .int .i64 ((((addL lg dk c)).1).Next)] 85, Res.box b_dk [z.1, z.2.1, z.2.2, .int .i64 ((((addL lg dk c)).2.1).Fuse), .bool ((((addL lg dk c)).2.1).Down)] 81, Res.row 9 z.1 ((((addL lg dk c)).2.1).Kept : List ByteArray), Res.row 9 z.2.1 ((((addL lg dk c)).2.1).Now : List ByteArray), Res.row 83 z.2.2 ((((addL lg dk c)).2.1).Wait : List Turn)] ++ [Res.held w own]) [] w' := by
  have c_dk_Kept := H.cap 2 rfl; have m_dk_Kept := H.lenB 2 rfl
  have c_dk_Now := H.cap 3 rfl; have m_dk_Now := H.lenB 3 rfl
  have c_dk_Wait := H.cap 4 rfl; have m_dk_Wait := H.lenB 4 rfl
  have m_c := H.lenF 0 rfl
  refine R.enterN (n := 71) (vs := [.pointer (some ⟨b_lg, 0, none⟩), v_c]) (B := §40) [(0, .pointer (some ⟨b_lg, 0, none⟩)), (1, v_c)] Try.func20 rfl rfl rfl rfl H ?_
  refine R.reg rfl <| ?_
  refine R.s rfl (s.box (cs := §19) rfl rfl rfl) fun b1 => ?_
  refine R.s rfl (s.boxV (cs := [v_c]) rfl (fun w hw => Sl.cells1 ((fun _ => Wd.fls 0 rfl) w hw)) rfl) fun b2 => ?_
  refine R.u 1 rfl <| R.nil ?_
  refine R.reg rfl <| R.q (q.ld 0 rfl rfl tOne_46 rfl) rfl <| R.q §30 rfl <| ?_
  by_cases h1 : 62 < c.length
  · refine R.q (q.gtr rfl rfl (decide_eq_true (by omega))) rfl <| R.nil ?_
    refine R.condT rfl rfl ?_
    refine R.reg rfl <| R.q (q.iface rfl con_75) rfl <| R.u 1 rfl <| R.nil ?_
    have hz : addL lg dk c = (lg, dk, 2) := by (exact add_many §11)
    rw [hz]
    exact R.w1 (q_dkKept, q_dkNow, q_dkWait) [2, 3, 4, 5, 6, 7] [] rfl Try.results20 (RV.tmp rfl) rfl rfl rfl (errk (by decide) rfl)
  · refine R.q (q.gtr rfl rfl (decide_eq_false (by omega))) rfl <| R.nil ?_
    refine R.condF rfl rfl ?_
    by_cases h2 : lg.Many - lg.Next < ((c.length + 1) : Int)
    · refine R.regQ rfl mixed §5 <| Q.q (q.ld 0 rfl rfl tOne_46 rfl) rfl <| Q.q §30 rfl <| Q.q (q.add (r := ((c.length + 1 : Nat) : Int)) rfl rfl (wr (by omega))) rfl <| Q.q (q.ld 1 rfl rfl tOne_32 rfl) rfl <| Q.c (q.call eg_17 rfl rfl (fun w hw => (room_any b_lg  b_dk (lg) w (hw.b 2 rfl) §42))) rfl <| Q.q (q.gtr rfl rfl (decide_eq_true (by omega))) rfl <| Q.nil ?_
      refine R.condT rfl rfl ?_
      refine R.reg rfl <| R.q (q.iface rfl con_75) rfl <| R.u 1 rfl <| R.nil ?_
      have hz : addL lg dk c = (lg, dk, 9) := by (exact add_full (by omega) (by omega))
      rw [hz]
      exact R.w1 (q_dkKept, q_dkNow, q_dkWait) [2, 3, 4, 5, 6, 7] [] rfl Try.results20 (RV.tmp rfl) rfl rfl rfl (errk (by decide) rfl)
    · refine R.regQ rfl mixed §5 <| Q.q (q.ld 0 rfl rfl tOne_46 rfl) rfl <| Q.q §30 rfl <| Q.q (q.add (r := ((c.length + 1 : Nat) : Int)) rfl rfl (wr (by omega))) rfl <| Q.q (q.ld 1 rfl rfl tOne_32 rfl) rfl <| Q.c (q.call eg_17 rfl rfl (fun w hw => (room_any b_lg  b_dk (lg) w (hw.b 2 rfl) §42))) rfl <| Q.q (q.gtr rfl rfl (decide_eq_false (by omega))) rfl <| Q.nil ?_
      refine R.condF rfl rfl ?_
      refine R.reg rfl <| R.q (q.ld 0 rfl rfl tOne_46 rfl) rfl <| R.q §30 rfl <| R.u 1 rfl <| R.nil ?_
      refine R.loop (fun i : Nat => [(2, .pointer (some ⟨b1, 0, none⟩)), (3, .pointer (some ⟨b2, 0, none⟩)), (23, v_c), (24, .int .i64 (c.length : Int)), (25, .int .i64 (i : Int))]) (fun i : Nat => §37) (fun i : Nat => §39) (fun i : Nat => i ≤ c.length ∧ chFs (c.drop i) = chFs c) (fun i : Nat => c.length - i) 0 rfl (by exact ⟨by omega, rfl⟩) ⟨rfl, rfl, rfl, rfl, rfl, trivial⟩ (fun _ => Wd.pick [0, 1, 2, 3, 4, 5, 6, 7] [0] rfl rfl rfl) ?_
      rintro i ⟨hi, HL⟩
      refine R.reg rfl <| ?_
      by_cases h3 : i < c.length
      · refine R.q (q.lss rfl rfl (decide_eq_true (by omega))) rfl <| R.nil ?_
        refine R.condT rfl rfl ?_
        refine R.reg rfl <| ?_
        obtain ⟨x1, hx1⟩ : ∃ z, c[i]? = some z := ⟨_, List.getElem?_eq_getElem (by omega)⟩
        have fx1 := chF_023 x1
        refine R.q (q.idx (i := i) (fun _ => Wd.fls 0 rfl) rfl rfl tSl_46 rfl hx1) rfl <| R.q (q.ldES (ds := §31) (fun _ => Wd.fls 0 rfl) hx1 rfl tAgg_51 rfl) rfl <| ?_
        refine R.s rfl (s.alloc (cs := [.string (⟨#[]⟩), .string (⟨#[]⟩), .bool false]) tZero_51 rfl rfl) fun b3 => ?_
        refine R.s rfl (s.st (us := §31) (cs' := §31) 0 _ rfl rfl rfl rfl (.inl tAgg_51) rfl rfl rfl rfl) fun _ => ?_
        refine R.nil ?_
        refine R.reg rfl <| R.q (q.ldS 0 rfl rfl tAgg_51) rfl <| R.c (q.call eg_48 rfl rfl (fun w hw => (rowCheck_any (x1) w  ))) rfl <| R.u 1 rfl <| R.nil ?_
        refine R.reg rfl <| R.u 1 rfl <| ?_
        by_cases h4 : chF x1 = 0
        · refine R.q §28 rfl <| R.nil ?_
          refine R.condF rfl rfl ?_
          refine R.reg rfl <| R.q §46 rfl <| R.u 1 rfl <| R.nil ?_
          refine R.back (i + 1) rfl (by (exact ⟨by omega, fs_go HL hx1 (by omega)⟩)) (by omega) ⟨rfl, rfl, rfl, rfl, rfl, trivial⟩ (fun _ => Wd.pik [1, 2, 3, 4, 5, 6, 7, 8] [0] rfl rfl rfl)
        · refine R.q §43 rfl <| R.nil ?_
          refine R.condT rfl rfl ?_
          refine R.reg rfl <| R.u 2 rfl <| R.nil ?_
          have hz : addL lg dk c = (lg, dk, chF x1) := by (exact add_fault §11 (by omega) (fs_stop HL hx1 §11) §11)
          rw [hz]
          exact R.w1 (q_dkKept, q_dkNow, q_dkWait) [3, 4, 5, 6, 7, 8] [] rfl Try.results20 (RV.tmp rfl) rfl rfl rfl rfl
      · refine R.q §45 rfl <| R.nil ?_
        refine R.condF rfl rfl ?_
        have g0 : chFs c = 0 := fs_end HL (by omega); have g1 := addF_ok (lg := lg) §11 (by omega) g0; have g2 := chFs_zero g0
        refine R.regD (fuel := 9) (Wd w (blks §8 ++ own) §37 §39) rfl mixed rfl ?_
        refine D.q (i := 0) rfl §5 §33 rfl (q.ld 1 rfl rfl tOne_32 rfl) rfl <| D.q (i := 1) rfl §5 §33 rfl (q.nilc rfl) rfl <| D.q (i := 2) rfl §5 §33 rfl (q.fld (off' := 4) rfl tFld_85_4 rfl) rfl <| D.q (i := 3) rfl §5 §33 rfl (q.ld 2 rfl rfl tOne_3 rfl) rfl <| D.q (i := 4) rfl §5 §33 rfl (q.ld 0 rfl rfl tOne_46 rfl) rfl <| D.q (i := 5) rfl §5 §33 rfl §30 rfl <| D.q (i := 6) rfl §5 §33 rfl (q.add (r := lg.Next + (c.length : Int)) rfl rfl (wr (by omega))) rfl <| ?_
        refine D.one (i := 7) §5 rfl ?_
        refine Do.s (s.alloc (cs := [.int .i64 0]) tZero_3 rfl rfl) (fun _ => (fun _ => Wd.pik [1, 2, 3, 4, 5, 6, 7, 8] [0] rfl rfl rfl)) rfl fun b4 => ?_
        refine D.one (i := 8) §5 rfl ?_
        refine Do.s (s.st (us := §35) (cs' := §35) 0 _ rfl rfl rfl rfl (.inr ⟨tOne_3, rfl⟩) rfl rfl rfl rfl) (fun _ => (fun _ => Wd.pik [1, 2, 3, 4, 5, 6, 7, 8] [0] rfl rfl rfl)) rfl fun _ => ?_
        refine D.done §5 <| ?_
        have a0 : DOk dk.Now.length 90000 dk ∧ dk.Now.length ≤ 100000 := ⟨hD.1.up (by omega), hD.2⟩; have a2 : DOk dk.Now.length 90000 ((layA lg dk c).1) := (layA_ok (lg := lg) (c := c) hD.1).up (by omega); have n2 := a2.nl; have q2 := a2.fine (by omega) (by omega)
        have a3 : DOk dk.Now.length 90000 ((dFlush ((layA lg dk c).1)).1) := a2.flush; have n3 : ((dFlush ((layA lg dk c).1)).1).Now.length = dk.Now.length := a3.nl; have q3 : DOk ((dFlush ((layA lg dk c).1)).1).Now.length 91000 ((dFlush ((layA lg dk c).1)).1) ∧ ((dFlush ((layA lg dk c).1)).1).Now.length ≤ 100000 := ⟨n3 ▸ a3.up (by omega), by omega⟩
        have a4 : DOk dk.Now.length 90001 ((dWrite ((dFlush ((layA lg dk c).1)).1) (lg.From + (lg.Next + (c.length : Int))) (secT 99 (lg.First + (lg.Next + (c.length : Int))) (fourB (c.length : Int)))).1) := a3.write _ _; have n4 := a4.nl; have q4 := a4.fine (by omega) (by omega)
        refine R.regD (fuel := 15) (Wd w (blks §8 ++ own) [Res.box b4 §35 3, Res.box b2 [v_c] 46, Res.box b1 §19 32, Res.box b_lg §2 85, Res.box b_dk [q_dkKept, q_dkNow, q_dkWait, .int .i64 dk.Fuse, .bool dk.Down] 81, Res.row 9 q_dkKept (dk.Kept : List ByteArray), Res.row 9 q_dkNow (dk.Now : List ByteArray), Res.row 83 q_dkWait (dk.Wait : List Turn), Res.held w own] §39) rfl mixed rfl ?_
        refine D.q (i := 0) rfl §5 §24 rfl (q.mkf (cap := [.pointer (some ⟨b1, 0, none⟩), .pointer (some ⟨b2, 0, none⟩)]) rfl rfl) rfl <| D.q (i := 1) rfl §5 §24 rfl (q.ld 2 rfl rfl tOne_32 rfl) rfl <| D.q (i := 2) rfl §5 §24 rfl (q.nilc rfl) rfl <| D.q (i := 3) rfl §5 §24 rfl (q.fld (off' := 0) rfl tFld_85_0 rfl) rfl <| D.q (i := 4) rfl §5 §24 rfl (q.ld 3 rfl rfl tOne_26 rfl) rfl <| D.q (i := 5) rfl §5 §24 rfl (q.mkfb (bnd := [.pointer (some ⟨b_dk, 0, none⟩)]) (cap := []) rfl rfl) rfl <| D.q (i := 6) rfl §5 §24 rfl (q.mkf (cap := [.pointer (some ⟨b1, 0, none⟩), .pointer (some ⟨b4, 0, none⟩), .pointer (some ⟨b2, 0, none⟩)]) rfl rfl) rfl <| D.q (i := 7) rfl §5 §24 rfl (q.ld 2 rfl rfl tOne_32 rfl) rfl <| D.q (i := 8) rfl §5 §24 rfl (q.nilc rfl) rfl <| D.q (i := 9) rfl §5 §24 rfl (q.fld (off' := 0) rfl tFld_85_0 rfl) rfl <| D.q (i := 10) rfl §5 §24 rfl (q.ld 3 rfl rfl tOne_26 rfl) rfl <| D.q (i := 11) rfl §5 §24 rfl (q.mkfb (bnd := [.pointer (some ⟨b_dk, 0, none⟩)]) (cap := []) rfl rfl) rfl <| D.q (i := 14) rfl §5 §24 rfl (q.mv rfl) rfl <| ?_
        refine D.one (i := 12) §5 rfl ?_
        refine Do.s (s.bs (l := (([§15, §13, §12, §13]) : List FnV)) tSl_96 tZero_62 rfl rfl rfl rfl rfl rfl rfl) (fun _ => (fun _ => Wd.pik [1, 2, 3, 4, 5, 6, 7, 8, 9] [0] rfl rfl rfl)) rfl fun b5 => ?_
        refine D.one (i := 13) §5 rfl ?_
        refine Do.s (s.c (Qt.a (q.cvb (v := .int .i64 ((List.length ([§15, §13, §12, §13]) : Nat) : Int)) (v' := .int .i64 4) rfl (q.len' (l := ([§15, §13, §12, §13])) (fun _ => Wd.row 0 rfl) rfl Try.underlying96))) rfl) (fun _ => (fun _ => Wd.pik [1, 2, 3, 4, 5, 6, 7, 8, 9] [0] rfl rfl rfl)) rfl fun _ => ?_
        refine D.done §5 <| ?_
        refine R.unroll 4 rfl ?_
        refine R.reg rfl <| R.q (q.lss (b := true) rfl rfl (by decide)) rfl <| R.nil ?_
        refine R.condT rfl rfl ?_
        refine R.reg rfl <| R.q (q.idx (i := 0) (fun _ => Wd.row 0 rfl) rfl rfl tSl_96 rfl rfl) rfl <| R.q (q.ldFn (x := §15) rfl (q.ldE (fun _ => Wd.row 0 rfl) rfl rfl tOne_62 rfl)) rfl <| R.u 1 rfl <| R.nil ?_
        refine R.reg rfl <| R.u 1 rfl <| ?_
        refine R.s (B' := (fun g_ : Value × Value × Value × Value => [Res.box b1 §19 32, Res.box b2 [g_.1] 46, Res.box b_lg §17 85, Res.box b_dk [g_.2.1, g_.2.2.1, g_.2.2.2, .int .i64 ((((layA lg dk c).1)).Fuse), .bool ((((layA lg dk c).1)).Down)] 81, Res.row 9 g_.2.1 ((((layA lg dk c).1)).Kept : List ByteArray), Res.row 9 g_.2.2.1 ((((layA lg dk c).1)).Now : List ByteArray), Res.row 83 g_.2.2.2 ((((layA lg dk c).1)).Wait : List Turn), Res.row 62 (.slice (some ⟨b5, 0, none⟩) 4 4) (([§15, §13, §12, §13]) : List FnV), Res.box b4 §35 3, Res.held w own])) (F' := (fun g_ : Value × Value × Value × Value => [Res.ls g_.1 (((⟨c⟩ : ChB)).C : List Change), Res.ls v_c (c : List Change)])) rfl (s.callV (B0 := [Res.box b1 §19 32, Res.box b2 [v_c] 46, Res.box b_lg §2 85, Res.box b_dk [q_dkKept, q_dkNow, q_dkWait, .int .i64 dk.Fuse, .bool dk.Down] 81, Res.row 9 q_dkKept (dk.Kept : List ByteArray), Res.row 9 q_dkNow (dk.Now : List ByteArray), Res.row 83 q_dkWait (dk.Wait : List Turn)]) (Br := [Res.row 62 (.slice (some ⟨b5, 0, none⟩) 4 4) (([§15, §13, §12, §13]) : List FnV), Res.box b4 §35 3, Res.held w own]) (F0 := §39) [3, 2, 4, 5, 6, 7, 8, 0, 1, 9] [0] (fun g_ : Value × Value × Value × Value => errv (((layA lg dk c).2))) (fun g_ : Value × Value × Value × Value => [Res.box b1 §19 32, Res.box b2 [g_.1] 46, Res.box b_lg §17 85, Res.box b_dk [g_.2.1, g_.2.2.1, g_.2.2.2, .int .i64 ((((layA lg dk c).1)).Fuse), .bool ((((layA lg dk c).1)).Down)] 81, Res.row 9 g_.2.1 ((((layA lg dk c).1)).Kept : List ByteArray), Res.row 9 g_.2.2.1 ((((layA lg dk c).1)).Now : List ByteArray), Res.row 83 g_.2.2.2 ((((layA lg dk c).1)).Wait : List Turn)]) (fun g_ : Value × Value × Value × Value => [Res.ls g_.1 (((⟨c⟩ : ChB)).C : List Change)]) rfl rfl rfl eg_49 rfl rfl (fun w own hw H => add1_any b1  (()) b2 v_c ((⟨c⟩ : ChB)) b_lg  (lg) b_dk q_dkKept q_dkNow q_dkWait (dk) w own H §42 (by first | omega | assumption | (dsimp only; omega)) §11 (by first | assumption | exact ⟨by assumption, by omega⟩)) rfl) ?_
        rintro ⟨z1, z2, z3, z4⟩
        dsimp only
        refine R.u 1 rfl <| R.nil ?_
        refine R.reg rfl <| R.u 1 rfl <| ?_
        by_cases h5 : (layA lg dk c).2 = 0
        · refine R.q §28 rfl <| R.nil ?_
          refine R.condF rfl rfl ?_
          refine R.reg rfl <| R.q (q.add (r := 1) rfl rfl (by decide)) rfl <| R.u 1 rfl <| R.nil ?_
          refine R.again rfl rfl ?_
          refine R.reg rfl <| R.q (q.lss (b := true) rfl rfl (by decide)) rfl <| R.nil ?_
          refine R.condT rfl rfl ?_
          refine R.reg rfl <| R.q (q.idx (i := 1) (fun _ => Wd.row 7 rfl) rfl rfl tSl_96 rfl rfl) rfl <| R.q (q.ldFn (x := §13) rfl (q.ldE (fun _ => Wd.row 7 rfl) rfl rfl tOne_62 rfl)) rfl <| R.u 1 rfl <| R.nil ?_
          refine R.reg rfl <| R.u 1 rfl <| ?_
          refine R.s (B' := (fun g_ : Value × Value × Value => [Res.box b_dk [g_.1, g_.2.1, g_.2.2, .int .i64 ((((dFlush ((layA lg dk c).1))).1).Fuse), .bool ((((dFlush ((layA lg dk c).1))).1).Down)] 81, Res.row 9 g_.1 ((((dFlush ((layA lg dk c).1))).1).Kept : List ByteArray), Res.row 9 g_.2.1 ((((dFlush ((layA lg dk c).1))).1).Now : List ByteArray), Res.row 83 g_.2.2 ((((dFlush ((layA lg dk c).1))).1).Wait : List Turn), Res.box b1 §19 32, Res.box b2 [z1] 46, Res.box b_lg §2 85, Res.row 62 (.slice (some ⟨b5, 0, none⟩) 4 4) (([§15, §13, §12, §13]) : List FnV), Res.box b4 §35 3, Res.held w own])) (F' := (fun g_ : Value × Value × Value => [Res.ls z1 (c : List Change), Res.ls v_c (c : List Change)])) rfl (s.callVb (B0 := [Res.box b_dk [z2, z3, z4, .int .i64 (((layA lg dk c).1).Fuse), .bool (((layA lg dk c).1).Down)] 81, Res.row 9 z2 (((layA lg dk c).1).Kept : List ByteArray), Res.row 9 z3 (((layA lg dk c).1).Now : List ByteArray), Res.row 83 z4 (((layA lg dk c).1).Wait : List Turn)]) (Br := [Res.box b1 §19 32, Res.box b2 [z1] 46, Res.box b_lg §2 85, Res.row 62 (.slice (some ⟨b5, 0, none⟩) 4 4) (([§15, §13, §12, §13]) : List FnV), Res.box b4 §35 3, Res.held w own]) (F0 := []) [3, 4, 5, 6, 0, 1, 2, 7, 8, 9] [] (fun g_ : Value × Value × Value => errv (((dFlush ((layA lg dk c).1))).2)) (fun g_ : Value × Value × Value => [Res.box b_dk [g_.1, g_.2.1, g_.2.2, .int .i64 ((((dFlush ((layA lg dk c).1))).1).Fuse), .bool ((((dFlush ((layA lg dk c).1))).1).Down)] 81, Res.row 9 g_.1 ((((dFlush ((layA lg dk c).1))).1).Kept : List ByteArray), Res.row 9 g_.2.1 ((((dFlush ((layA lg dk c).1))).1).Now : List ByteArray), Res.row 83 g_.2.2 ((((dFlush ((layA lg dk c).1))).1).Wait : List Turn)]) (fun g_ : Value × Value × Value => []) rfl rfl rfl eg_51 rfl rfl (fun w own hw H => dFlush_any b_dk z2 z3 z4 (((layA lg dk c).1)) w own H (by first | assumption | omega)) rfl) ?_
          rintro ⟨z5, z6, z7⟩
          dsimp only
          refine R.u 1 rfl <| R.nil ?_
          refine R.reg rfl <| R.u 1 rfl <| ?_
          by_cases h6 : (dFlush ((layA lg dk c).1)).2 = 0
          · refine R.q §28 rfl <| R.nil ?_
            refine R.condF rfl rfl ?_
            refine R.reg rfl <| R.q (q.add (r := 2) rfl rfl (by decide)) rfl <| R.u 1 rfl <| R.nil ?_
            refine R.again rfl rfl ?_
            refine R.reg rfl <| R.q (q.lss (b := true) rfl rfl (by decide)) rfl <| R.nil ?_
            refine R.condT rfl rfl ?_
            refine R.reg rfl <| R.q (q.idx (i := 2) (fun _ => Wd.row 7 rfl) rfl rfl tSl_96 rfl rfl) rfl <| R.q (q.ldFn (x := §12) rfl (q.ldE (fun _ => Wd.row 7 rfl) rfl rfl tOne_62 rfl)) rfl <| R.u 1 rfl <| R.nil ?_
            refine R.reg rfl <| R.u 1 rfl <| ?_
            refine R.s (B' := (fun g_ : Value × Value × Value × Value => [Res.box b1 §19 32, Res.box b4 [.int .i64 (((⟨(lg.Next + (c.length : Int))⟩ : IntB)).E)] 3, Res.box b2 [g_.1] 46, Res.box b_lg §17 85, Res.box b_dk [g_.2.1, g_.2.2.1, g_.2.2.2, .int .i64 ((((dWrite ((dFlush ((layA lg dk c).1)).1) (lg.From + (lg.Next + (c.length : Int))) (secT 99 (lg.First + (lg.Next + (c.length : Int))) (fourB (c.length : Int)))).1)).Fuse), .bool ((((dWrite ((dFlush ((layA lg dk c).1)).1) (lg.From + (lg.Next + (c.length : Int))) (secT 99 (lg.First + (lg.Next + (c.length : Int))) (fourB (c.length : Int)))).1)).Down)] 81, Res.row 9 g_.2.1 ((((dWrite ((dFlush ((layA lg dk c).1)).1) (lg.From + (lg.Next + (c.length : Int))) (secT 99 (lg.First + (lg.Next + (c.length : Int))) (fourB (c.length : Int)))).1)).Kept : List ByteArray), Res.row 9 g_.2.2.1 ((((dWrite ((dFlush ((layA lg dk c).1)).1) (lg.From + (lg.Next + (c.length : Int))) (secT 99 (lg.First + (lg.Next + (c.length : Int))) (fourB (c.length : Int)))).1)).Now : List ByteArray), Res.row 83 g_.2.2.2 ((((dWrite ((dFlush ((layA lg dk c).1)).1) (lg.From + (lg.Next + (c.length : Int))) (secT 99 (lg.First + (lg.Next + (c.length : Int))) (fourB (c.length : Int)))).1)).Wait : List Turn), Res.row 62 (.slice (some ⟨b5, 0, none⟩) 4 4) (([§15, §13, §12, §13]) : List FnV), Res.held w own])) (F' := (fun g_ : Value × Value × Value × Value => [Res.ls g_.1 (((⟨c⟩ : ChB)).C : List Change), Res.ls z1 (c : List Change), Res.ls v_c (c : List Change)])) rfl (s.callV (B0 := [Res.box b1 §19 32, Res.box b4 §35 3, Res.box b2 [z1] 46, Res.box b_lg §2 85, Res.box b_dk [z5, z6, z7, .int .i64 (((dFlush ((layA lg dk c).1)).1).Fuse), .bool (((dFlush ((layA lg dk c).1)).1).Down)] 81, Res.row 9 z5 (((dFlush ((layA lg dk c).1)).1).Kept : List ByteArray), Res.row 9 z6 (((dFlush ((layA lg dk c).1)).1).Now : List ByteArray), Res.row 83 z7 (((dFlush ((layA lg dk c).1)).1).Wait : List Turn)]) (Br := [Res.row 62 (.slice (some ⟨b5, 0, none⟩) 4 4) (([§15, §13, §12, §13]) : List FnV), Res.held w own]) (F0 := [Res.ls z1 (c : List Change)]) [4, 8, 5, 6, 0, 1, 2, 3, 7, 9] [0] (fun g_ : Value × Value × Value × Value => errv (((dWrite ((dFlush ((layA lg dk c).1)).1) (lg.From + (lg.Next + (c.length : Int))) (secT 99 (lg.First + (lg.Next + (c.length : Int))) (fourB (c.length : Int)))).2))) (fun g_ : Value × Value × Value × Value => [Res.box b1 §19 32, Res.box b4 [.int .i64 (((⟨(lg.Next + (c.length : Int))⟩ : IntB)).E)] 3, Res.box b2 [g_.1] 46, Res.box b_lg §17 85, Res.box b_dk [g_.2.1, g_.2.2.1, g_.2.2.2, .int .i64 ((((dWrite ((dFlush ((layA lg dk c).1)).1) (lg.From + (lg.Next + (c.length : Int))) (secT 99 (lg.First + (lg.Next + (c.length : Int))) (fourB (c.length : Int)))).1)).Fuse), .bool ((((dWrite ((dFlush ((layA lg dk c).1)).1) (lg.From + (lg.Next + (c.length : Int))) (secT 99 (lg.First + (lg.Next + (c.length : Int))) (fourB (c.length : Int)))).1)).Down)] 81, Res.row 9 g_.2.1 ((((dWrite ((dFlush ((layA lg dk c).1)).1) (lg.From + (lg.Next + (c.length : Int))) (secT 99 (lg.First + (lg.Next + (c.length : Int))) (fourB (c.length : Int)))).1)).Kept : List ByteArray), Res.row 9 g_.2.2.1 ((((dWrite ((dFlush ((layA lg dk c).1)).1) (lg.From + (lg.Next + (c.length : Int))) (secT 99 (lg.First + (lg.Next + (c.length : Int))) (fourB (c.length : Int)))).1)).Now : List ByteArray), Res.row 83 g_.2.2.2 ((((dWrite ((dFlush ((layA lg dk c).1)).1) (lg.From + (lg.Next + (c.length : Int))) (secT 99 (lg.First + (lg.Next + (c.length : Int))) (fourB (c.length : Int)))).1)).Wait : List Turn)]) (fun g_ : Value × Value × Value × Value => [Res.ls g_.1 (((⟨c⟩ : ChB)).C : List Change)]) rfl rfl rfl eg_52 rfl rfl (fun w own hw H => add2_any b1  (()) b4  ((⟨(lg.Next + (c.length : Int))⟩ : IntB)) b2 z1 ((⟨c⟩ : ChB)) b_lg  (lg) b_dk z5 z6 z7 (((dFlush ((layA lg dk c).1)).1)) w own H §42 (by first | omega | (dsimp only; omega)) (by first | omega | assumption | (dsimp only; omega)) (by first | assumption | exact ⟨by assumption, by omega⟩)) rfl) ?_
            rintro ⟨z8, z9, z10, z11⟩
            dsimp only
            refine R.u 1 rfl <| R.nil ?_
            refine R.reg rfl <| R.u 1 rfl <| ?_
            by_cases h7 : (dWrite ((dFlush ((layA lg dk c).1)).1) (lg.From + (lg.Next + (c.length : Int))) (secT 99 (lg.First + (lg.Next + (c.length : Int))) (fourB (c.length : Int)))).2 = 0
            · refine R.q §28 rfl <| R.nil ?_
              refine R.condF rfl rfl ?_
              refine R.reg rfl <| R.q (q.add (r := 3) rfl rfl (by decide)) rfl <| R.u 1 rfl <| R.nil ?_
              refine R.again rfl rfl ?_
              refine R.reg rfl <| R.q (q.lss (b := true) rfl rfl (by decide)) rfl <| R.nil ?_
              refine R.condT rfl rfl ?_
              refine R.reg rfl <| R.q (q.idx (i := 3) (fun _ => Wd.row 8 rfl) rfl rfl tSl_96 rfl rfl) rfl <| R.q (q.ldFn (x := §13) rfl (q.ldE (fun _ => Wd.row 8 rfl) rfl rfl tOne_62 rfl)) rfl <| R.u 1 rfl <| R.nil ?_
              refine R.reg rfl <| R.u 1 rfl <| ?_
              refine R.s (B' := (fun g_ : Value × Value × Value => [Res.box b_dk [g_.1, g_.2.1, g_.2.2, .int .i64 ((((dFlush ((dWrite ((dFlush ((layA lg dk c).1)).1) (lg.From + (lg.Next + (c.length : Int))) (secT 99 (lg.First + (lg.Next + (c.length : Int))) (fourB (c.length : Int)))).1))).1).Fuse), .bool ((((dFlush ((dWrite ((dFlush ((layA lg dk c).1)).1) (lg.From + (lg.Next + (c.length : Int))) (secT 99 (lg.First + (lg.Next + (c.length : Int))) (fourB (c.length : Int)))).1))).1).Down)] 81, Res.row 9 g_.1 ((((dFlush ((dWrite ((dFlush ((layA lg dk c).1)).1) (lg.From + (lg.Next + (c.length : Int))) (secT 99 (lg.First + (lg.Next + (c.length : Int))) (fourB (c.length : Int)))).1))).1).Kept : List ByteArray), Res.row 9 g_.2.1 ((((dFlush ((dWrite ((dFlush ((layA lg dk c).1)).1) (lg.From + (lg.Next + (c.length : Int))) (secT 99 (lg.First + (lg.Next + (c.length : Int))) (fourB (c.length : Int)))).1))).1).Now : List ByteArray), Res.row 83 g_.2.2 ((((dFlush ((dWrite ((dFlush ((layA lg dk c).1)).1) (lg.From + (lg.Next + (c.length : Int))) (secT 99 (lg.First + (lg.Next + (c.length : Int))) (fourB (c.length : Int)))).1))).1).Wait : List Turn), Res.box b1 §19 32, Res.box b4 §35 3, Res.box b2 [z8] 46, Res.box b_lg §2 85, Res.row 62 (.slice (some ⟨b5, 0, none⟩) 4 4) (([§15, §13, §12, §13]) : List FnV), Res.held w own])) (F' := (fun g_ : Value × Value × Value => [Res.ls z8 (c : List Change), Res.ls z1 (c : List Change), Res.ls v_c (c : List Change)])) rfl (s.callVb (B0 := [Res.box b_dk [z9, z10, z11, .int .i64 (((dWrite ((dFlush ((layA lg dk c).1)).1) (lg.From + (lg.Next + (c.length : Int))) (secT 99 (lg.First + (lg.Next + (c.length : Int))) (fourB (c.length : Int)))).1).Fuse), .bool (((dWrite ((dFlush ((layA lg dk c).1)).1) (lg.From + (lg.Next + (c.length : Int))) (secT 99 (lg.First + (lg.Next + (c.length : Int))) (fourB (c.length : Int)))).1).Down)] 81, Res.row 9 z9 (((dWrite ((dFlush ((layA lg dk c).1)).1) (lg.From + (lg.Next + (c.length : Int))) (secT 99 (lg.First + (lg.Next + (c.length : Int))) (fourB (c.length : Int)))).1).Kept : List ByteArray), Res.row 9 z10 (((dWrite ((dFlush ((layA lg dk c).1)).1) (lg.From + (lg.Next + (c.length : Int))) (secT 99 (lg.First + (lg.Next + (c.length : Int))) (fourB (c.length : Int)))).1).Now : List ByteArray), Res.row 83 z11 (((dWrite ((dFlush ((layA lg dk c).1)).1) (lg.From + (lg.Next + (c.length : Int))) (secT 99 (lg.First + (lg.Next + (c.length : Int))) (fourB (c.length : Int)))).1).Wait : List Turn)]) (Br := [Res.box b1 §19 32, Res.box b4 §35 3, Res.box b2 [z8] 46, Res.box b_lg §2 85, Res.row 62 (.slice (some ⟨b5, 0, none⟩) 4 4) (([§15, §13, §12, §13]) : List FnV), Res.held w own]) (F0 := []) [4, 5, 6, 7, 0, 1, 2, 3, 8, 9] [] (fun g_ : Value × Value × Value => errv (((dFlush ((dWrite ((dFlush ((layA lg dk c).1)).1) (lg.From + (lg.Next + (c.length : Int))) (secT 99 (lg.First + (lg.Next + (c.length : Int))) (fourB (c.length : Int)))).1))).2)) (fun g_ : Value × Value × Value => [Res.box b_dk [g_.1, g_.2.1, g_.2.2, .int .i64 ((((dFlush ((dWrite ((dFlush ((layA lg dk c).1)).1) (lg.From + (lg.Next + (c.length : Int))) (secT 99 (lg.First + (lg.Next + (c.length : Int))) (fourB (c.length : Int)))).1))).1).Fuse), .bool ((((dFlush ((dWrite ((dFlush ((layA lg dk c).1)).1) (lg.From + (lg.Next + (c.length : Int))) (secT 99 (lg.First + (lg.Next + (c.length : Int))) (fourB (c.length : Int)))).1))).1).Down)] 81, Res.row 9 g_.1 ((((dFlush ((dWrite ((dFlush ((layA lg dk c).1)).1) (lg.From + (lg.Next + (c.length : Int))) (secT 99 (lg.First + (lg.Next + (c.length : Int))) (fourB (c.length : Int)))).1))).1).Kept : List ByteArray), Res.row 9 g_.2.1 ((((dFlush ((dWrite ((dFlush ((layA lg dk c).1)).1) (lg.From + (lg.Next + (c.length : Int))) (secT 99 (lg.First + (lg.Next + (c.length : Int))) (fourB (c.length : Int)))).1))).1).Now : List ByteArray), Res.row 83 g_.2.2 ((((dFlush ((dWrite ((dFlush ((layA lg dk c).1)).1) (lg.From + (lg.Next + (c.length : Int))) (secT 99 (lg.First + (lg.Next + (c.length : Int))) (fourB (c.length : Int)))).1))).1).Wait : List Turn)]) (fun g_ : Value × Value × Value => []) rfl rfl rfl eg_51 rfl rfl (fun w own hw H => dFlush_any b_dk z9 z10 z11 (((dWrite ((dFlush ((layA lg dk c).1)).1) (lg.From + (lg.Next + (c.length : Int))) (secT 99 (lg.First + (lg.Next + (c.length : Int))) (fourB (c.length : Int)))).1)) w own H (by first | assumption | omega)) rfl) ?_
              rintro ⟨z12, z13, z14⟩
              dsimp only
              refine R.u 1 rfl <| R.nil ?_
              refine R.reg rfl <| R.u 1 rfl <| ?_
              by_cases h8 : (dFlush ((dWrite ((dFlush ((layA lg dk c).1)).1) (lg.From + (lg.Next + (c.length : Int))) (secT 99 (lg.First + (lg.Next + (c.length : Int))) (fourB (c.length : Int)))).1)).2 = 0
              · refine R.q §28 rfl <| R.nil ?_
                refine R.condF rfl rfl ?_
                refine R.reg rfl <| R.q (q.add (r := 4) rfl rfl (by decide)) rfl <| R.u 1 rfl <| R.nil ?_
                refine R.again rfl rfl ?_
                refine R.reg rfl <| R.q (q.lss (b := false) rfl rfl (by decide)) rfl <| R.nil ?_
                refine R.condF rfl rfl ?_
                refine R.reg rfl <| R.q (q.ld 4 rfl rfl tOne_32 rfl) rfl <| R.q (q.ld 5 rfl rfl tOne_3 rfl) rfl <| R.q (q.add (r := (lg.Next + (c.length : Int)) + 1) rfl rfl (wr (by omega))) rfl <| R.q (q.nilc rfl) rfl <| R.q (q.fld (off' := 4) rfl tFld_85_4 rfl) rfl <| ?_
                refine R.s rfl (s.st (us := [.int .i64 ((lg.Next + (c.length : Int)) + 1)]) (cs' := [.pointer (some ⟨b_dk, 0, none⟩), .int .i64 lg.From, .int .i64 lg.Many, .int .i64 lg.First, .int .i64 ((lg.Next + (c.length : Int)) + 1)]) 7 _ rfl rfl rfl rfl (.inr ⟨tOne_3, rfl⟩) rfl rfl rfl rfl) fun _ => ?_
                refine R.nil ?_
                refine R.reg rfl <| R.u 1 rfl <| R.nil ?_
                have hz : addL lg dk c = ((⟨lg.From, lg.Many, lg.First, ((lg.Next + (c.length : Int)) + 1)⟩ : Lg), ((dFlush ((dWrite ((dFlush ((layA lg dk c).1)).1) (lg.From + (lg.Next + (c.length : Int))) (secT 99 (lg.First + (lg.Next + (c.length : Int))) (fourB (c.length : Int)))).1)).1), 0) := by (first | exact add_a g1 §11 | exact add_b g1 §11 §11 | exact add_c g1 §11 §11 §11 | exact add_d g1 §11 §11 §11 §11 | exact add_ok g1 §11 §11 §11 §11)
                rw [hz]
                exact R.w1 (z12, z13, z14) [7, 0, 1, 2, 3, 9] [] rfl Try.results20 (RV.tmp rfl) rfl rfl rfl (err0 rfl)
              · refine R.q §43 rfl <| R.nil ?_
                refine R.condT rfl rfl ?_
                refine R.reg rfl <| R.u 2 rfl <| R.nil ?_
                have hz : addL lg dk c = (lg, ((dFlush ((dWrite ((dFlush ((layA lg dk c).1)).1) (lg.From + (lg.Next + (c.length : Int))) (secT 99 (lg.First + (lg.Next + (c.length : Int))) (fourB (c.length : Int)))).1)).1), (dFlush ((dWrite ((dFlush ((layA lg dk c).1)).1) (lg.From + (lg.Next + (c.length : Int))) (secT 99 (lg.First + (lg.Next + (c.length : Int))) (fourB (c.length : Int)))).1)).2) := by (first | exact add_a g1 §11 | exact add_b g1 §11 §11 | exact add_c g1 §11 §11 §11 | exact add_d g1 §11 §11 §11 §11 | exact add_ok g1 §11 §11 §11 §11)
                rw [hz]
                exact R.w1 (z12, z13, z14) [7, 0, 1, 2, 3, 9] [] rfl Try.results20 (RV.tmp rfl) rfl rfl rfl rfl
            · refine R.q §43 rfl <| R.nil ?_
              refine R.condT rfl rfl ?_
              refine R.reg rfl <| R.u 2 rfl <| R.nil ?_
              have hz : addL lg dk c = (lg, ((dWrite ((dFlush ((layA lg dk c).1)).1) (lg.From + (lg.Next + (c.length : Int))) (secT 99 (lg.First + (lg.Next + (c.length : Int))) (fourB (c.length : Int)))).1), (dWrite ((dFlush ((layA lg dk c).1)).1) (lg.From + (lg.Next + (c.length : Int))) (secT 99 (lg.First + (lg.Next + (c.length : Int))) (fourB (c.length : Int)))).2) := by (first | exact add_a g1 §11 | exact add_b g1 §11 §11 | exact add_c g1 §11 §11 §11 | exact add_d g1 §11 §11 §11 §11 | exact add_ok g1 §11 §11 §11 §11)
              rw [hz]
              exact R.w1 (z9, z10, z11) [3, 4, 5, 6, 7, 9] [] rfl Try.results20 (RV.tmp rfl) rfl rfl rfl rfl
          · refine R.q §43 rfl <| R.nil ?_
            refine R.condT rfl rfl ?_
            refine R.reg rfl <| R.u 2 rfl <| R.nil ?_
            have hz : addL lg dk c = (lg, ((dFlush ((layA lg dk c).1)).1), (dFlush ((layA lg dk c).1)).2) := by (first | exact add_a g1 §11 | exact add_b g1 §11 §11 | exact add_c g1 §11 §11 §11 | exact add_d g1 §11 §11 §11 §11 | exact add_ok g1 §11 §11 §11 §11)
            rw [hz]
            exact R.w1 (z5, z6, z7) [6, 0, 1, 2, 3, 9] [] rfl Try.results20 (RV.tmp rfl) rfl rfl rfl rfl
        · refine R.q §43 rfl <| R.nil ?_
          refine R.condT rfl rfl ?_
          refine R.reg rfl <| R.u 2 rfl <| R.nil ?_
          have hz : addL lg dk c = (lg, ((layA lg dk c).1), (layA lg dk c).2) := by (first | exact add_a g1 §11 | exact add_b g1 §11 §11 | exact add_c g1 §11 §11 §11 | exact add_d g1 §11 §11 §11 §11 | exact add_ok g1 §11 §11 §11 §11)
          rw [hz]
          exact R.w1 (z2, z3, z4) [2, 3, 4, 5, 6, 9] [] rfl Try.results20 (RV.tmp rfl) rfl rfl rfl rfl

end Go.Proofs.Ytpipachmngdegaa
end
