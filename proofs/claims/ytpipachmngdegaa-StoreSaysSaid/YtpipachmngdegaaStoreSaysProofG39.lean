import Derived.Test.YtpipachmngdegaaStoreSaysProofG38
import Derived.Test.YtpipachmngdegaaStoreSaysProofG30
section
/-
  The walk of chapter 10, on: a deed is committed. The program's.
-/
namespace Go.Proofs.Ytpipachmngdegaa
open Go Go.RowKit
set_option linter.unusedVariables false
set_option linter.unusedSimpArgs false
set_option maxRecDepth 100000
set_option hygiene false
local macro:max "§0" : term => `([Res.box b_st [.pointer (some ⟨b_dk, 0, none⟩), .int .i64 st.Epoch, .int .i64 st.Side, .int .i64 st.Size, .int .i64 st.First, .pointer (some ⟨b_lg, 0, none⟩), q_stRows] 100, Res.box b_dk [q_dkKept, q_dkNow, q_dkWait, .int .i64 dk.Fuse, .bool dk.Down] 81, Res.row 9 q_dkKept (dk.Kept : List ByteArray), Res.row 9 q_dkNow (dk.Now : List ByteArray), Res.row 83 q_dkWait (dk.Wait : List Turn), Res.box b_lg [.pointer (some ⟨b_dk, 0, none⟩), .int .i64 lg.From, .int .i64 lg.Many, .int .i64 lg.First, .int .i64 lg.Next] 85])
local macro:max "§1" : term => `([Res.box b_st [.pointer (some ⟨b_dk, 0, none⟩), .int .i64 st.Epoch, .int .i64 st.Side, .int .i64 st.Size, .int .i64 st.First, .pointer (some ⟨b_lg, 0, none⟩), q_stRows] 100, Res.box b_dk [q_dkKept, q_dkNow, q_dkWait, .int .i64 dk.Fuse, .bool dk.Down] 81, Res.row 9 q_dkKept (dk.Kept : List ByteArray), Res.row 9 q_dkNow (dk.Now : List ByteArray), Res.row 83 q_dkWait (dk.Wait : List Turn), Res.box b_lg [.pointer (some ⟨b_dk, 0, none⟩), .int .i64 lg.From, .int .i64 lg.Many, .int .i64 lg.First, .int .i64 lg.Next] 85, Res.held w own])
local macro:max "§2" : term => `((by assumption))
local macro:max "§3" : term => `((by show lg.Many - lg.Next < _; omega))
local macro:max "§4" : term => `((by show ¬ lg.Many - lg.Next < _; omega))
local macro:max "§5" : term => `((by intro hh; rcases hh with hh | hh <;> first | (exact absurd hh §2) | omega))
local macro:max "§6" : term => `([.pointer (some ⟨b_dk, 0, none⟩), .int .i64 ((((addL ((ckS (mkS st lg) dk).1.L) ((ckS (mkS st lg) dk).2.1) l)).1).From), .int .i64 ((((addL ((ckS (mkS st lg) dk).1.L) ((ckS (mkS st lg) dk).2.1) l)).1).Many), .int .i64 ((((addL ((ckS (mkS st lg) dk).1.L) ((ckS (mkS st lg) dk).2.1) l)).1).First), .int .i64 ((((addL ((ckS (mkS st lg) dk).1.L) ((ckS (mkS st lg) dk).2.1) l)).1).Next)])
local macro:max "§7" : term => `([.pointer (some ⟨b_dk, 0, none⟩), .int .i64 st.Epoch, .int .i64 st.Side, .int .i64 st.Size, .int .i64 st.First, .pointer (some ⟨b_lg, 0, none⟩), q_stRows])
local macro:max "§8" : term => `((by first | exact .inl §2 | exact .inr (by omega)))
local macro:max "§9" : term => `([.pointer (some ⟨b_dk, 0, none⟩), .int .i64 ((((ckS (mkS st lg) dk).1.c)).Epoch), .int .i64 ((((ckS (mkS st lg) dk).1.c)).Side), .int .i64 ((((ckS (mkS st lg) dk).1.c)).Size), .int .i64 ((((ckS (mkS st lg) dk).1.c)).First), .pointer (some ⟨g_.2.2.2.2, 0, none⟩), g_.1])
local macro:max "§10" : term => `([Res.ls q_stRows (st.Rows : List Change), Res.ls v_l (l : List Change)])
local macro:max "§11" : term => `([.pointer (some ⟨b_dk, 0, none⟩), .int .i64 (((ckS (mkS st lg) dk).1.c).Epoch), .int .i64 (((ckS (mkS st lg) dk).1.c).Side), .int .i64 (((ckS (mkS st lg) dk).1.c).Size), .int .i64 (((ckS (mkS st lg) dk).1.c).First), .pointer (some ⟨z6, 0, none⟩), z2])
local macro:max "§12" : term => `([.pointer (some ⟨b_dk, 0, none⟩), .int .i64 (((ckS (mkS st lg) dk).1.c).Epoch), .int .i64 (((ckS (mkS st lg) dk).1.c).Side), .int .i64 (((ckS (mkS st lg) dk).1.c).Size), .int .i64 (((ckS (mkS st lg) dk).1.c).First), .pointer (some ⟨z6, 0, none⟩), z1])
local macro:max "§13" : term => `([.pointer (some ⟨b_dk, 0, none⟩), .int .i64 ((((ckS (mkS st lg) dk).1.L)).From), .int .i64 ((((ckS (mkS st lg) dk).1.L)).Many), .int .i64 ((((ckS (mkS st lg) dk).1.L)).First), .int .i64 ((((ckS (mkS st lg) dk).1.L)).Next)])

section
variable {s : Sto} {d : Dsk} {l : List Change} {e : Int} {n m : Nat}
theorem addL_nonneg2 (lg : Lg) : 0 ≤ (addL lg d l).2.2 := addL_nonneg
end

set_option maxHeartbeats 3200000 in
theorem commit_any (b_st : Nat) (q_stRows : Value) (st : StoC) (v_l : Value) (l : List Change) (b_dk : Nat) (q_dkKept q_dkNow q_dkWait : Value) (dk : Dsk) (b_lg : Nat) (lg : Lg) (w : World) (own : List Nat) (H : Wd w (blks §0 ++ own) (§0 ++ [Res.held w own]) §10 w) (hD : DOk dk.Now.length 60000 dk ∧ dk.Now.length ≤ 200 ∧ 166 ≤ dk.Now.length) (hS : 0 ≤ st.Epoch ∧ st.Epoch ≤ 1000000000 ∧ 0 ≤ st.Side ∧ st.Side ≤ 1 ∧ 0 ≤ lg.Many ∧ lg.Many ≤ 1000 ∧ 1 ≤ lg.First ∧ lg.First ≤ 1000000000 ∧ 0 ≤ lg.From ∧ lg.From ≤ 1000 ∧ 0 ≤ lg.Next ∧ lg.Next ≤ 1000) (hl : st.Rows.length ≤ 60) (hF : ∀ c ∈ st.Rows, chF c = 0) (hn : l.length ≤ 10000) : Calls Try.prog 24 #[.pointer (some ⟨b_st, 0, none⟩), v_l] w fun e w' => ∃ z : Value × Value × Value × Value × Nat, e = .returned (errv (((comS (mkS st lg) dk l).2.2))) ∧ Wd w (blks §0 ++ own) ([Res.box b_st [.pointer (some ⟨b_dk, 0, none⟩), .int .i64 ((((comS (mkS st lg) dk l).1.c)).Epoch), .int .i64 ((((comS (mkS st lg) dk l).1.c)).Side), .int .i64 ((((comS (mkS st lg) dk l).1.c)).Size), .int .i64 ((((comS (mkS st lg) dk l).1.c)).First), .pointer (some ⟨z.2.2.2.2, 0, none⟩), z.1] 100, Res.box b_dk [z.2.1, z.2.2.1, z.2.2.2.1, .int .i64 ((((comS (mkS st lg) dk l).2.1)).Fuse), .bool ((((comS (mkS st lg) dk l).2.1)).Down)] 81, Res.row 9 z.2.1 ((((comS (mkS st lg) dk l).2.1)).Kept : List ByteArray), Res.row 9 z.2.2.1 ((((comS (mkS st lg) dk l).2.1)).Now : List ByteArray), Res.row 83 z.2.2.2.1 ((((comS (mkS st lg) dk l).2.1)).Wait : List Turn), Res.box z.2.2.2.2 [.pointer (some ⟨b_dk, 0, none⟩), .int .i64 ((((comS (mkS st lg) dk l).1.L)).From), .int .i64 ((((comS (mkS st lg) dk l).1.L)).Many), .int .i64 ((((comS (mkS st lg) dk l).1.L)).First), .int .i64 ((((comS (mkS st lg) dk l).1.L)).Next)] 85] ++ [Res.held w own]) [Res.ls z.1 ((((comS (mkS st lg) dk l).1.c)).Rows : List Change)] w' := by
  have c_dk_Kept := H.cap 2 rfl; have m_dk_Kept := H.lenB 2 rfl
  have c_dk_Now := H.cap 3 rfl; have m_dk_Now := H.lenB 3 rfl
  have c_dk_Wait := H.cap 4 rfl; have m_dk_Wait := H.lenB 4 rfl
  have m_st_Rows := H.lenF 0 rfl
  have m_l := H.lenF 1 rfl
  have hal := allB_le hF; have hc0 : DOk dk.Now.length 70000 dk ∧ dk.Now.length ≤ 200 ∧ 166 ≤ dk.Now.length := ⟨hD.1.up (by omega), hD.2.1, hD.2.2⟩; have hc1 := ckS_ok (s := mkS st lg) hD.1 (Nat.le_trans hal (by omega)); have hc2 := hc1.nl
  have hb0 : DOk dk.Now.length 80000 dk ∧ dk.Now.length ≤ 100000 := ⟨hD.1.up (by omega), by omega⟩; have hb1 : DOk (ckS (mkS st lg) dk).2.1.Now.length 80000 (ckS (mkS st lg) dk).2.1 ∧ (ckS (mkS st lg) dk).2.1.Now.length ≤ 100000 := ⟨hc2.symm ▸ hc1.up (by omega), by omega⟩
  refine R.enterN (n := 76) (vs := [.pointer (some ⟨b_st, 0, none⟩), v_l]) (B := §1) [(0, .pointer (some ⟨b_st, 0, none⟩)), (1, v_l)] Try.func24 rfl rfl rfl rfl H ?_
  refine R.reg rfl <| R.u 1 rfl <| R.nil ?_
  refine R.reg rfl <| R.u 1 rfl <| R.q (q.len' (fun _ => Wd.fls 1 rfl) rfl Try.underlying46) rfl <| ?_
  by_cases h1 : 62 < l.length
  · refine R.q (q.gtr rfl rfl (decide_eq_true (by omega))) rfl <| R.nil ?_
    refine R.condT rfl rfl ?_
    refine R.reg rfl <| R.q (q.iface rfl con_75) rfl <| R.u 1 rfl <| R.nil ?_
    have hz : ((comS (mkS st lg) dk l).1.c, (comS (mkS st lg) dk l).2.1, (comS (mkS st lg) dk l).1.L, (comS (mkS st lg) dk l).2.2) = (st, dk, lg, 2) := by (rw [com_a §2]; rfl)
    have hz0 : (comS (mkS st lg) dk l).1.c = st := congrArg (fun t_ => t_.1) hz
    rw [hz0]
    have hz1 : (comS (mkS st lg) dk l).2.1 = dk := congrArg (fun t_ => t_.2.1) hz
    rw [hz1]
    have hz2 : (comS (mkS st lg) dk l).1.L = lg := congrArg (fun t_ => t_.2.2.1) hz
    rw [hz2]
    have hz3 : (comS (mkS st lg) dk l).2.2 = 2 := congrArg (fun t_ => t_.2.2.2) hz
    rw [hz3]
    exact R.w1 (q_stRows, q_dkKept, q_dkNow, q_dkWait, b_lg) [0, 1, 2, 3, 4, 5, 6] [0] rfl Try.results24 (RV.tmp rfl) rfl rfl rfl (errk (by decide) rfl)
  · refine R.q (q.gtr rfl rfl (decide_eq_false (by omega))) rfl <| R.nil ?_
    refine R.condF rfl rfl ?_
    refine R.reg rfl <| R.u 1 rfl <| R.q (q.len' (fun _ => Wd.fls 1 rfl) rfl Try.underlying46) rfl <| R.u 1 rfl <| R.nil ?_
    refine R.loop (fun i : Nat => [(0, .pointer (some ⟨b_st, 0, none⟩)), (1, v_l), (15, v_l), (16, .int .i64 (l.length : Int)), (17, .int .i64 (i : Int))]) (fun i : Nat => §1) (fun i : Nat => §10) (fun i : Nat => i ≤ l.length ∧ chFs (l.drop i) = chFs l) (fun i : Nat => l.length - i) 0 rfl (by exact ⟨by omega, rfl⟩) ⟨rfl, rfl, rfl, rfl, rfl, trivial⟩ (fun _ => Wd.pick [0, 1, 2, 3, 4, 5, 6] [0, 1] rfl rfl rfl) ?_
    rintro i ⟨hi, HL⟩
    refine R.reg rfl <| ?_
    by_cases h2 : i < l.length
    · refine R.q (q.lss rfl rfl (decide_eq_true (by omega))) rfl <| R.nil ?_
      refine R.condT rfl rfl ?_
      refine R.reg rfl <| ?_
      obtain ⟨x1, hx1⟩ : ∃ z, l[i]? = some z := ⟨_, List.getElem?_eq_getElem (by omega)⟩
      have fx1 := chF_023 x1
      refine R.q (q.idx (i := i) (fun _ => Wd.fls 1 rfl) rfl rfl tSl_46 rfl hx1) rfl <| R.q (q.ldES (ds := [.string x1.Key, .string x1.Val, .bool x1.Gone]) (fun _ => Wd.fls 1 rfl) hx1 rfl tAgg_51 rfl) rfl <| ?_
      refine R.s rfl (s.alloc (cs := [.string (⟨#[]⟩), .string (⟨#[]⟩), .bool false]) tZero_51 rfl rfl) fun b1 => ?_
      refine R.s rfl (s.st (us := [.string x1.Key, .string x1.Val, .bool x1.Gone]) (cs' := [.string x1.Key, .string x1.Val, .bool x1.Gone]) 0 _ rfl rfl rfl rfl (.inl tAgg_51) rfl rfl rfl rfl) fun _ => ?_
      refine R.nil ?_
      refine R.reg rfl <| R.q (q.ldS 0 rfl rfl tAgg_51) rfl <| R.c (q.call eg_48 rfl rfl (fun w hw => (rowCheck_any (x1) w  ))) rfl <| R.u 1 rfl <| R.nil ?_
      refine R.reg rfl <| R.u 1 rfl <| ?_
      by_cases h3 : chF x1 = 0
      · refine R.q (q.neqE0 rfl rfl Try.underlying28 (by omega)) rfl <| R.nil ?_
        refine R.condF rfl rfl ?_
        refine R.reg rfl <| R.q (q.add (r := ((i + 1 : Nat) : Int)) rfl rfl (wr (by omega))) rfl <| R.u 1 rfl <| R.nil ?_
        refine R.back (i + 1) rfl (by (exact ⟨by omega, fs_go HL hx1 (by omega)⟩)) (by omega) ⟨rfl, rfl, rfl, rfl, rfl, trivial⟩ (fun _ => Wd.pik [1, 2, 3, 4, 5, 6, 7] [0, 1] rfl rfl rfl)
      · refine R.q (q.neqE1 rfl rfl Try.underlying28 (by omega)) rfl <| R.nil ?_
        refine R.condT rfl rfl ?_
        refine R.reg rfl <| R.u 2 rfl <| R.nil ?_
        have hz : ((comS (mkS st lg) dk l).1.c, (comS (mkS st lg) dk l).2.1, (comS (mkS st lg) dk l).1.L, (comS (mkS st lg) dk l).2.2) = (st, dk, lg, chF x1) := by (rw [com_b §2 (fs_stop HL hx1 §2) §2]; rfl)
        have hz0 : (comS (mkS st lg) dk l).1.c = st := congrArg (fun t_ => t_.1) hz
        rw [hz0]
        have hz1 : (comS (mkS st lg) dk l).2.1 = dk := congrArg (fun t_ => t_.2.1) hz
        rw [hz1]
        have hz2 : (comS (mkS st lg) dk l).1.L = lg := congrArg (fun t_ => t_.2.2.1) hz
        rw [hz2]
        have hz3 : (comS (mkS st lg) dk l).2.2 = chF x1 := congrArg (fun t_ => t_.2.2.2) hz
        rw [hz3]
        exact R.w1 (q_stRows, q_dkKept, q_dkNow, q_dkWait, b_lg) [1, 2, 3, 4, 5, 6, 7] [0] rfl Try.results24 (RV.tmp rfl) rfl rfl rfl rfl
    · refine R.q (q.lss rfl rfl (decide_eq_false (by omega))) rfl <| R.nil ?_
      refine R.condF rfl rfl ?_
      have g0 : chFs l = 0 := fs_end HL (by omega); have hal2 := applyR_len l st.Rows
      refine R.reg rfl <| R.u 1 rfl <| R.q (q.nilc rfl) rfl <| R.q (q.fld (off' := 6) rfl tFld_100_3 rfl) rfl <| R.q (q.ld 0 rfl rfl tOne_46 rfl) rfl <| R.u 1 rfl <| ?_
      refine R.s (B' := (fun bz0_ : Value => [Res.row 51 bz0_ ((applyR st.Rows l) : List Change), Res.box b_st §7 100, Res.box b_dk [q_dkKept, q_dkNow, q_dkWait, .int .i64 dk.Fuse, .bool dk.Down] 81, Res.row 9 q_dkKept (dk.Kept : List ByteArray), Res.row 9 q_dkNow (dk.Now : List ByteArray), Res.row 83 q_dkWait (dk.Wait : List Turn), Res.box b_lg [.pointer (some ⟨b_dk, 0, none⟩), .int .i64 lg.From, .int .i64 lg.Many, .int .i64 lg.First, .int .i64 lg.Next] 85, Res.held w own])) (F' := (fun bz0_ : Value => §10)) rfl (s.callV (B0 := []) (Br := §1) (F0 := §10) [0, 1, 2, 3, 4, 5, 6] [0, 1] (fun bz0_ : Value => bz0_) (fun bz0_ : Value => [Res.row 51 bz0_ ((applyR st.Rows l) : List Change)]) (fun bz0_ : Value => []) rfl rfl rfl eg_56 rfl rfl (fun w own hw H => rowApply_any q_stRows (st.Rows) v_l (l) w own H (by first | omega | assumption | (simp; done) | (simp; omega))) rfl) fun z1 => ?_
      refine R.u 1 rfl <| R.nil ?_
      refine R.reg rfl <| R.u 1 rfl <| R.q (q.len' (fun _ => Wd.row 0 rfl) rfl Try.underlying46) rfl <| ?_
      by_cases h4 : 60 < (applyR st.Rows l).length
      · refine R.q (q.gtr rfl rfl (decide_eq_true (by omega))) rfl <| R.u 12 rfl <| R.nil ?_
        refine R.condT rfl rfl ?_
        refine R.reg rfl <| R.q (q.iface rfl con_75) rfl <| R.u 1 rfl <| R.nil ?_
        have hz : ((comS (mkS st lg) dk l).1.c, (comS (mkS st lg) dk l).2.1, (comS (mkS st lg) dk l).1.L, (comS (mkS st lg) dk l).2.2) = (st, dk, lg, 9) := by (first | (rw [com_c (s := mkS st lg) §2 g0 §8]; rfl) | (have hf := comF_0 (s := mkS st lg) (d := dk) (l := l) §2 g0 §5; first | (rw [com_d hf §3 §2]) | (rw [com_e hf §3 §2 §2]; first | done | rfl) | (rw [com_f hf §3 §2 §2]; first | done | rfl) | (rw [com_g hf §4 §2]; first | done | rfl) | (rw [com_h hf §4 §2]; first | done | rfl)))
        have hz0 : (comS (mkS st lg) dk l).1.c = st := congrArg (fun t_ => t_.1) hz
        rw [hz0]
        have hz1 : (comS (mkS st lg) dk l).2.1 = dk := congrArg (fun t_ => t_.2.1) hz
        rw [hz1]
        have hz2 : (comS (mkS st lg) dk l).1.L = lg := congrArg (fun t_ => t_.2.2.1) hz
        rw [hz2]
        have hz3 : (comS (mkS st lg) dk l).2.2 = 9 := congrArg (fun t_ => t_.2.2.2) hz
        rw [hz3]
        exact R.w1 (q_stRows, q_dkKept, q_dkNow, q_dkWait, b_lg) [1, 2, 3, 4, 5, 6, 7] [0] rfl Try.results24 (RV.tmp rfl) rfl rfl rfl (errk (by decide) rfl)
      · refine R.q (q.gtr rfl rfl (decide_eq_false (by omega))) rfl <| R.u 2 rfl <| R.qg rfl (q.len' (fun _ => Wd.fls 1 rfl) rfl Try.underlying46) rfl <| R.qg rfl (q.add (r := ((l.length + 1 : Nat) : Int)) rfl rfl (wr (by omega))) rfl <| R.u 1 rfl <| R.qg rfl (q.nilc rfl) rfl <| R.qg rfl (q.fld (off' := 0) rfl tFld_100_0 rfl) rfl <| R.qg rfl (q.ld 1 rfl rfl tOne_26 rfl) rfl <| R.cg rfl (q.call eg_12 rfl rfl (fun w hw => (dSectors_any b_dk q_dkKept q_dkNow q_dkWait  (dk) w (hw.b 2 rfl) ((fun _ => Wd.row 3 rfl) w hw) ((fun _ => Wd.row 4 rfl) w hw) ((fun _ => Wd.row 5 rfl) w hw) ))) rfl <| R.qg rfl (q.sub (r := ((dk.Now.length - 102 : Nat) : Int)) rfl rfl (wr (by omega))) rfl <| ?_
        by_cases h5 : (dk.Now.length - 102) < (l.length + 1)
        · refine R.qg rfl (q.gtr rfl rfl (decide_eq_true (by omega))) rfl <| R.u 1 rfl <| R.nil ?_
          refine R.condT rfl rfl ?_
          refine R.reg rfl <| R.q (q.iface rfl con_75) rfl <| R.u 1 rfl <| R.nil ?_
          have hz : ((comS (mkS st lg) dk l).1.c, (comS (mkS st lg) dk l).2.1, (comS (mkS st lg) dk l).1.L, (comS (mkS st lg) dk l).2.2) = (st, dk, lg, 9) := by (first | (rw [com_c (s := mkS st lg) §2 g0 §8]; rfl) | (have hf := comF_0 (s := mkS st lg) (d := dk) (l := l) §2 g0 §5; first | (rw [com_d hf §3 §2]) | (rw [com_e hf §3 §2 §2]; first | done | rfl) | (rw [com_f hf §3 §2 §2]; first | done | rfl) | (rw [com_g hf §4 §2]; first | done | rfl) | (rw [com_h hf §4 §2]; first | done | rfl)))
          have hz0 : (comS (mkS st lg) dk l).1.c = st := congrArg (fun t_ => t_.1) hz
          rw [hz0]
          have hz1 : (comS (mkS st lg) dk l).2.1 = dk := congrArg (fun t_ => t_.2.1) hz
          rw [hz1]
          have hz2 : (comS (mkS st lg) dk l).1.L = lg := congrArg (fun t_ => t_.2.2.1) hz
          rw [hz2]
          have hz3 : (comS (mkS st lg) dk l).2.2 = 9 := congrArg (fun t_ => t_.2.2.2) hz
          rw [hz3]
          exact R.w1 (q_stRows, q_dkKept, q_dkNow, q_dkWait, b_lg) [1, 2, 3, 4, 5, 6, 7] [0] rfl Try.results24 (RV.tmp rfl) rfl rfl rfl (errk (by decide) rfl)
        · refine R.qg rfl (q.gtr rfl rfl (decide_eq_false (by omega))) rfl <| R.u 1 rfl <| R.nil ?_
          refine R.condF rfl rfl ?_
          refine R.reg rfl <| R.u 1 rfl <| R.q (q.len' (fun _ => Wd.fls 1 rfl) rfl Try.underlying46) rfl <| R.q (q.add (r := ((l.length + 1 : Nat) : Int)) rfl rfl (wr (by omega))) rfl <| R.u 1 rfl <| R.q (q.nilc rfl) rfl <| R.q (q.fld (off' := 5) rfl tFld_100_2 rfl) rfl <| R.q (q.ld 1 rfl rfl tOne_32 rfl) rfl <| R.c (q.call eg_17 rfl rfl (fun w hw => (room_any b_lg  b_dk (lg) w (hw.b 6 rfl) (by first | assumption | omega | (dsimp only; omega))))) rfl <| ?_
          by_cases h6 : lg.Many - lg.Next < ((l.length + 1) : Int)
          · refine R.q (q.gtr rfl rfl (decide_eq_true (by omega))) rfl <| R.nil ?_
            refine R.condT rfl rfl ?_
            refine R.reg rfl <| R.u 1 rfl <| ?_
            refine R.s (B' := (fun g_ : Value × Value × Value × Value × Nat => [Res.box b_st §9 100, Res.box b_dk [g_.2.1, g_.2.2.1, g_.2.2.2.1, .int .i64 ((((ckS (mkS st lg) dk).2.1)).Fuse), .bool ((((ckS (mkS st lg) dk).2.1)).Down)] 81, Res.row 9 g_.2.1 ((((ckS (mkS st lg) dk).2.1)).Kept : List ByteArray), Res.row 9 g_.2.2.1 ((((ckS (mkS st lg) dk).2.1)).Now : List ByteArray), Res.row 83 g_.2.2.2.1 ((((ckS (mkS st lg) dk).2.1)).Wait : List Turn), Res.box g_.2.2.2.2 §13 85, Res.row 51 z1 (applyR st.Rows l : List Change), Res.held w own])) (F' := (fun g_ : Value × Value × Value × Value × Nat => [Res.ls g_.1 ((((ckS (mkS st lg) dk).1.c)).Rows : List Change), Res.ls q_stRows (st.Rows : List Change), Res.ls v_l (l : List Change)])) rfl (s.callV (B0 := §0) (Br := [Res.row 51 z1 (applyR st.Rows l : List Change), Res.held w own]) (F0 := [Res.ls q_stRows (st.Rows : List Change)]) [1, 2, 3, 4, 5, 6, 0, 7] [0] (fun g_ : Value × Value × Value × Value × Nat => errv (((ckS (mkS st lg) dk).2.2))) (fun g_ : Value × Value × Value × Value × Nat => [Res.box b_st §9 100, Res.box b_dk [g_.2.1, g_.2.2.1, g_.2.2.2.1, .int .i64 ((((ckS (mkS st lg) dk).2.1)).Fuse), .bool ((((ckS (mkS st lg) dk).2.1)).Down)] 81, Res.row 9 g_.2.1 ((((ckS (mkS st lg) dk).2.1)).Kept : List ByteArray), Res.row 9 g_.2.2.1 ((((ckS (mkS st lg) dk).2.1)).Now : List ByteArray), Res.row 83 g_.2.2.2.1 ((((ckS (mkS st lg) dk).2.1)).Wait : List Turn), Res.box g_.2.2.2.2 §13 85]) (fun g_ : Value × Value × Value × Value × Nat => [Res.ls g_.1 ((((ckS (mkS st lg) dk).1.c)).Rows : List Change)]) rfl rfl rfl eg_26 rfl rfl (fun w own hw H => ckpt_any b_st q_stRows (st) b_dk q_dkKept q_dkNow q_dkWait (dk) b_lg  (lg) w own H (by first | assumption | exact ⟨by assumption, by omega, by omega⟩) (by first | assumption | omega) (by first | omega | assumption) §2) rfl) ?_
            rintro ⟨z2, z3, z4, z5, z6⟩
            dsimp only
            refine R.u 1 rfl <| R.nil ?_
            have hk : (ckS (mkS st lg) dk).2.2 = 0 → 0 ≤ (ckS (mkS st lg) dk).1.L.From ∧ (ckS (mkS st lg) dk).1.L.From ≤ 1000000000 ∧ 0 ≤ (ckS (mkS st lg) dk).1.L.Next ∧ (ckS (mkS st lg) dk).1.L.Next ≤ 1000000000 ∧ 0 ≤ (ckS (mkS st lg) dk).1.L.First ∧ (ckS (mkS st lg) dk).1.L.First ≤ 4000000000000000000 ∧ 0 ≤ (ckS (mkS st lg) dk).1.L.Many ∧ (ckS (mkS st lg) dk).1.L.Many ≤ 1000000000 := fun hk1 => by have hk3 := opnU_le (ckS (mkS st lg) dk).2.1 102 (((ckS (mkS st lg) dk).2.1.Now.length : Int) - 102).toNat ((mkS st lg).L.First + (mkS st lg).L.Many); rw [ckS_in hk1]; unfold ckO; dsimp only; have e1 : (mkS st lg).L.First = lg.First := rfl; have e2 : (mkS st lg).L.Many = lg.Many := rfl; refine ⟨?_, ?_, ?_, ?_, ?_, ?_, ?_, ?_⟩ <;> omega
            refine R.reg rfl <| R.u 1 rfl <| ?_
            by_cases h7 : (ckS (mkS st lg) dk).2.2 = 0
            · refine R.q (q.neqE0 rfl rfl Try.underlying28 (by omega)) rfl <| R.nil ?_
              refine R.condF rfl rfl ?_
              first | (have hkk := hk §2) | skip
              refine R.reg rfl <| R.u 1 rfl <| R.q (q.nilc rfl) rfl <| R.q (q.fld (off' := 5) rfl tFld_100_2 rfl) rfl <| R.q (q.ld 0 rfl rfl tOne_32 rfl) rfl <| R.u 1 rfl <| ?_
              refine R.s (B' := (fun g_ : Value × Value × Value => [Res.box z6 §6 85, Res.box b_dk [g_.1, g_.2.1, g_.2.2, .int .i64 ((((addL ((ckS (mkS st lg) dk).1.L) ((ckS (mkS st lg) dk).2.1) l)).2.1).Fuse), .bool ((((addL ((ckS (mkS st lg) dk).1.L) ((ckS (mkS st lg) dk).2.1) l)).2.1).Down)] 81, Res.row 9 g_.1 ((((addL ((ckS (mkS st lg) dk).1.L) ((ckS (mkS st lg) dk).2.1) l)).2.1).Kept : List ByteArray), Res.row 9 g_.2.1 ((((addL ((ckS (mkS st lg) dk).1.L) ((ckS (mkS st lg) dk).2.1) l)).2.1).Now : List ByteArray), Res.row 83 g_.2.2 ((((addL ((ckS (mkS st lg) dk).1.L) ((ckS (mkS st lg) dk).2.1) l)).2.1).Wait : List Turn), Res.box b_st §11 100, Res.row 51 z1 (applyR st.Rows l : List Change), Res.held w own])) (F' := (fun g_ : Value × Value × Value => [Res.ls z2 (((ckS (mkS st lg) dk).1.c).Rows : List Change), Res.ls q_stRows (st.Rows : List Change), Res.ls v_l (l : List Change)])) rfl (s.callV (B0 := [Res.box z6 [.pointer (some ⟨b_dk, 0, none⟩), .int .i64 (((ckS (mkS st lg) dk).1.L).From), .int .i64 (((ckS (mkS st lg) dk).1.L).Many), .int .i64 (((ckS (mkS st lg) dk).1.L).First), .int .i64 (((ckS (mkS st lg) dk).1.L).Next)] 85, Res.box b_dk [z3, z4, z5, .int .i64 (((ckS (mkS st lg) dk).2.1).Fuse), .bool (((ckS (mkS st lg) dk).2.1).Down)] 81, Res.row 9 z3 (((ckS (mkS st lg) dk).2.1).Kept : List ByteArray), Res.row 9 z4 (((ckS (mkS st lg) dk).2.1).Now : List ByteArray), Res.row 83 z5 (((ckS (mkS st lg) dk).2.1).Wait : List Turn)]) (Br := [Res.box b_st §11 100, Res.row 51 z1 (applyR st.Rows l : List Change), Res.held w own]) (F0 := [Res.ls v_l (l : List Change)]) [5, 1, 2, 3, 4, 0, 6, 7] [2] (fun g_ : Value × Value × Value => errv (((addL ((ckS (mkS st lg) dk).1.L) ((ckS (mkS st lg) dk).2.1) l)).2.2)) (fun g_ : Value × Value × Value => [Res.box z6 §6 85, Res.box b_dk [g_.1, g_.2.1, g_.2.2, .int .i64 ((((addL ((ckS (mkS st lg) dk).1.L) ((ckS (mkS st lg) dk).2.1) l)).2.1).Fuse), .bool ((((addL ((ckS (mkS st lg) dk).1.L) ((ckS (mkS st lg) dk).2.1) l)).2.1).Down)] 81, Res.row 9 g_.1 ((((addL ((ckS (mkS st lg) dk).1.L) ((ckS (mkS st lg) dk).2.1) l)).2.1).Kept : List ByteArray), Res.row 9 g_.2.1 ((((addL ((ckS (mkS st lg) dk).1.L) ((ckS (mkS st lg) dk).2.1) l)).2.1).Now : List ByteArray), Res.row 83 g_.2.2 ((((addL ((ckS (mkS st lg) dk).1.L) ((ckS (mkS st lg) dk).2.1) l)).2.1).Wait : List Turn)]) (fun g_ : Value × Value × Value => []) rfl rfl rfl eg_20 rfl rfl (fun w own hw H => add_any z6  (((ckS (mkS st lg) dk).1.L)) v_l (l) b_dk z3 z4 z5 (((ckS (mkS st lg) dk).2.1)) w own H (by first | assumption | omega | (dsimp only; omega)) (by first | assumption | exact ⟨by assumption, by omega⟩)) rfl) ?_
              rintro ⟨z7, z8, z9⟩
              dsimp only
              refine R.u 1 rfl <| R.nil ?_
              refine R.reg rfl <| R.u 1 rfl <| ?_
              by_cases h8 : (addL ((ckS (mkS st lg) dk).1.L) ((ckS (mkS st lg) dk).2.1) l).2.2 = 0
              · refine R.q (q.eqlE0 rfl rfl Try.underlying28 (by omega)) rfl <| R.nil ?_
                refine R.condT rfl rfl ?_
                refine R.reg rfl <| R.u 2 rfl <| R.q (q.nilc rfl) rfl <| R.q (q.fld (off' := 6) rfl tFld_100_3 rfl) rfl <| ?_
                refine R.s rfl (s.stV (us := [z1]) (cs' := §12) 5 _ rfl rfl rfl (fun w hw => Sl.cells1 ((fun _ => Wd.row 6 rfl) w hw)) (.inr ⟨tOne_46, rfl⟩) (fun w hw => (one_cons (Sl.one ((fun _ => Wd.row 6 rfl) w hw)) one_nil)) rfl rfl rfl) fun _ => ?_
                refine R.nil ?_
                refine R.reg rfl <| R.u 2 rfl <| R.nil ?_
                refine R.mp (B' := [Res.box z6 [.pointer (some ⟨b_dk, 0, none⟩), .int .i64 (((addL ((ckS (mkS st lg) dk).1.L) ((ckS (mkS st lg) dk).2.1) l).1).From), .int .i64 (((addL ((ckS (mkS st lg) dk).1.L) ((ckS (mkS st lg) dk).2.1) l).1).Many), .int .i64 (((addL ((ckS (mkS st lg) dk).1.L) ((ckS (mkS st lg) dk).2.1) l).1).First), .int .i64 (((addL ((ckS (mkS st lg) dk).1.L) ((ckS (mkS st lg) dk).2.1) l).1).Next)] 85, Res.box b_dk [z7, z8, z9, .int .i64 (((addL ((ckS (mkS st lg) dk).1.L) ((ckS (mkS st lg) dk).2.1) l).2.1).Fuse), .bool (((addL ((ckS (mkS st lg) dk).1.L) ((ckS (mkS st lg) dk).2.1) l).2.1).Down)] 81, Res.row 9 z7 (((addL ((ckS (mkS st lg) dk).1.L) ((ckS (mkS st lg) dk).2.1) l).2.1).Kept : List ByteArray), Res.row 9 z8 (((addL ((ckS (mkS st lg) dk).1.L) ((ckS (mkS st lg) dk).2.1) l).2.1).Now : List ByteArray), Res.row 83 z9 (((addL ((ckS (mkS st lg) dk).1.L) ((ckS (mkS st lg) dk).2.1) l).2.1).Wait : List Turn), Res.box b_st §12 100, Res.held w own]) (fun _ hw => hw.lendL 6 _ rfl rfl) ?_
                have hz : ((comS (mkS st lg) dk l).1.c, (comS (mkS st lg) dk l).2.1, (comS (mkS st lg) dk l).1.L, (comS (mkS st lg) dk l).2.2) = ((⟨((ckS (mkS st lg) dk).1.c).Epoch, ((ckS (mkS st lg) dk).1.c).Side, ((ckS (mkS st lg) dk).1.c).Size, ((ckS (mkS st lg) dk).1.c).First, applyR st.Rows l⟩ : StoC), ((addL ((ckS (mkS st lg) dk).1.L) ((ckS (mkS st lg) dk).2.1) l).2.1), ((addL ((ckS (mkS st lg) dk).1.L) ((ckS (mkS st lg) dk).2.1) l).1), (addL ((ckS (mkS st lg) dk).1.L) ((ckS (mkS st lg) dk).2.1) l).2.2) := by (first | (rw [com_c (s := mkS st lg) §2 g0 §8]; rfl) | (have hf := comF_0 (s := mkS st lg) (d := dk) (l := l) §2 g0 §5; first | (rw [com_d hf §3 §2]) | (rw [com_e hf §3 §2 §2]; first | done | rfl) | (rw [com_f hf §3 §2 §2]; first | done | rfl) | (rw [com_g hf §4 §2]; first | done | rfl) | (rw [com_h hf §4 §2]; first | done | rfl)))
                have hz0 : (comS (mkS st lg) dk l).1.c = (⟨((ckS (mkS st lg) dk).1.c).Epoch, ((ckS (mkS st lg) dk).1.c).Side, ((ckS (mkS st lg) dk).1.c).Size, ((ckS (mkS st lg) dk).1.c).First, applyR st.Rows l⟩ : StoC) := congrArg (fun t_ => t_.1) hz
                rw [hz0]
                have hz1 : (comS (mkS st lg) dk l).2.1 = ((addL ((ckS (mkS st lg) dk).1.L) ((ckS (mkS st lg) dk).2.1) l).2.1) := congrArg (fun t_ => t_.2.1) hz
                rw [hz1]
                have hz2 : (comS (mkS st lg) dk l).1.L = ((addL ((ckS (mkS st lg) dk).1.L) ((ckS (mkS st lg) dk).2.1) l).1) := congrArg (fun t_ => t_.2.2.1) hz
                rw [hz2]
                have hz3 : (comS (mkS st lg) dk l).2.2 = (addL ((ckS (mkS st lg) dk).1.L) ((ckS (mkS st lg) dk).2.1) l).2.2 := congrArg (fun t_ => t_.2.2.2) hz
                rw [hz3]
                exact R.w1 (z1, z7, z8, z9, z6) [5, 1, 2, 3, 4, 0, 6] [0] rfl Try.results24 (RV.tmp rfl) rfl rfl rfl rfl
              · refine R.q (q.eqlE1 rfl rfl Try.underlying28 (by omega)) rfl <| R.nil ?_
                refine R.condF rfl rfl ?_
                refine R.reg rfl <| R.u 2 rfl <| R.nil ?_
                have hz : ((comS (mkS st lg) dk l).1.c, (comS (mkS st lg) dk l).2.1, (comS (mkS st lg) dk l).1.L, (comS (mkS st lg) dk l).2.2) = (((ckS (mkS st lg) dk).1.c), ((addL ((ckS (mkS st lg) dk).1.L) ((ckS (mkS st lg) dk).2.1) l).2.1), ((addL ((ckS (mkS st lg) dk).1.L) ((ckS (mkS st lg) dk).2.1) l).1), (addL ((ckS (mkS st lg) dk).1.L) ((ckS (mkS st lg) dk).2.1) l).2.2) := by (first | (rw [com_c (s := mkS st lg) §2 g0 §8]; rfl) | (have hf := comF_0 (s := mkS st lg) (d := dk) (l := l) §2 g0 §5; first | (rw [com_d hf §3 §2]) | (rw [com_e hf §3 §2 §2]; first | done | rfl) | (rw [com_f hf §3 §2 §2]; first | done | rfl) | (rw [com_g hf §4 §2]; first | done | rfl) | (rw [com_h hf §4 §2]; first | done | rfl)))
                have hz0 : (comS (mkS st lg) dk l).1.c = ((ckS (mkS st lg) dk).1.c) := congrArg (fun t_ => t_.1) hz
                rw [hz0]
                have hz1 : (comS (mkS st lg) dk l).2.1 = ((addL ((ckS (mkS st lg) dk).1.L) ((ckS (mkS st lg) dk).2.1) l).2.1) := congrArg (fun t_ => t_.2.1) hz
                rw [hz1]
                have hz2 : (comS (mkS st lg) dk l).1.L = ((addL ((ckS (mkS st lg) dk).1.L) ((ckS (mkS st lg) dk).2.1) l).1) := congrArg (fun t_ => t_.2.2.1) hz
                rw [hz2]
                have hz3 : (comS (mkS st lg) dk l).2.2 = (addL ((ckS (mkS st lg) dk).1.L) ((ckS (mkS st lg) dk).2.1) l).2.2 := congrArg (fun t_ => t_.2.2.2) hz
                rw [hz3]
                exact R.w1 (z2, z7, z8, z9, z6) [5, 1, 2, 3, 4, 0, 7] [0] rfl Try.results24 (RV.tmp rfl) rfl rfl rfl rfl
            · refine R.q (q.neqE1 rfl rfl Try.underlying28 (by omega)) rfl <| R.nil ?_
              refine R.condT rfl rfl ?_
              refine R.reg rfl <| R.u 2 rfl <| R.nil ?_
              have hz : ((comS (mkS st lg) dk l).1.c, (comS (mkS st lg) dk l).2.1, (comS (mkS st lg) dk l).1.L, (comS (mkS st lg) dk l).2.2) = (((ckS (mkS st lg) dk).1.c), ((ckS (mkS st lg) dk).2.1), ((ckS (mkS st lg) dk).1.L), (ckS (mkS st lg) dk).2.2) := by (first | (rw [com_c (s := mkS st lg) §2 g0 §8]; rfl) | (have hf := comF_0 (s := mkS st lg) (d := dk) (l := l) §2 g0 §5; first | (rw [com_d hf §3 §2]) | (rw [com_e hf §3 §2 §2]; first | done | rfl) | (rw [com_f hf §3 §2 §2]; first | done | rfl) | (rw [com_g hf §4 §2]; first | done | rfl) | (rw [com_h hf §4 §2]; first | done | rfl)))
              have hz0 : (comS (mkS st lg) dk l).1.c = ((ckS (mkS st lg) dk).1.c) := congrArg (fun t_ => t_.1) hz
              rw [hz0]
              have hz1 : (comS (mkS st lg) dk l).2.1 = ((ckS (mkS st lg) dk).2.1) := congrArg (fun t_ => t_.2.1) hz
              rw [hz1]
              have hz2 : (comS (mkS st lg) dk l).1.L = ((ckS (mkS st lg) dk).1.L) := congrArg (fun t_ => t_.2.2.1) hz
              rw [hz2]
              have hz3 : (comS (mkS st lg) dk l).2.2 = (ckS (mkS st lg) dk).2.2 := congrArg (fun t_ => t_.2.2.2) hz
              rw [hz3]
              exact R.w1 (z2, z3, z4, z5, z6) [0, 1, 2, 3, 4, 5, 7] [0] rfl Try.results24 (RV.tmp rfl) rfl rfl rfl rfl
          · refine R.q (q.gtr rfl rfl (decide_eq_false (by omega))) rfl <| R.nil ?_
            refine R.condF rfl rfl ?_
            first | (have hkk := hk §2) | skip
            refine R.reg rfl <| R.u 1 rfl <| R.q (q.nilc rfl) rfl <| R.q (q.fld (off' := 5) rfl tFld_100_2 rfl) rfl <| R.q (q.ld 1 rfl rfl tOne_32 rfl) rfl <| R.u 1 rfl <| ?_
            refine R.s (B' := (fun g_ : Value × Value × Value => [Res.box b_lg [.pointer (some ⟨b_dk, 0, none⟩), .int .i64 ((((addL lg dk l)).1).From), .int .i64 ((((addL lg dk l)).1).Many), .int .i64 ((((addL lg dk l)).1).First), .int .i64 ((((addL lg dk l)).1).Next)] 85, Res.box b_dk [g_.1, g_.2.1, g_.2.2, .int .i64 ((((addL lg dk l)).2.1).Fuse), .bool ((((addL lg dk l)).2.1).Down)] 81, Res.row 9 g_.1 ((((addL lg dk l)).2.1).Kept : List ByteArray), Res.row 9 g_.2.1 ((((addL lg dk l)).2.1).Now : List ByteArray), Res.row 83 g_.2.2 ((((addL lg dk l)).2.1).Wait : List Turn), Res.row 51 z1 (applyR st.Rows l : List Change), Res.box b_st §7 100, Res.held w own])) (F' := (fun g_ : Value × Value × Value => §10)) rfl (s.callV (B0 := [Res.box b_lg [.pointer (some ⟨b_dk, 0, none⟩), .int .i64 lg.From, .int .i64 lg.Many, .int .i64 lg.First, .int .i64 lg.Next] 85, Res.box b_dk [q_dkKept, q_dkNow, q_dkWait, .int .i64 dk.Fuse, .bool dk.Down] 81, Res.row 9 q_dkKept (dk.Kept : List ByteArray), Res.row 9 q_dkNow (dk.Now : List ByteArray), Res.row 83 q_dkWait (dk.Wait : List Turn)]) (Br := [Res.row 51 z1 (applyR st.Rows l : List Change), Res.box b_st §7 100, Res.held w own]) (F0 := [Res.ls v_l (l : List Change)]) [6, 2, 3, 4, 5, 0, 1, 7] [1] (fun g_ : Value × Value × Value => errv (((addL lg dk l)).2.2)) (fun g_ : Value × Value × Value => [Res.box b_lg [.pointer (some ⟨b_dk, 0, none⟩), .int .i64 ((((addL lg dk l)).1).From), .int .i64 ((((addL lg dk l)).1).Many), .int .i64 ((((addL lg dk l)).1).First), .int .i64 ((((addL lg dk l)).1).Next)] 85, Res.box b_dk [g_.1, g_.2.1, g_.2.2, .int .i64 ((((addL lg dk l)).2.1).Fuse), .bool ((((addL lg dk l)).2.1).Down)] 81, Res.row 9 g_.1 ((((addL lg dk l)).2.1).Kept : List ByteArray), Res.row 9 g_.2.1 ((((addL lg dk l)).2.1).Now : List ByteArray), Res.row 83 g_.2.2 ((((addL lg dk l)).2.1).Wait : List Turn)]) (fun g_ : Value × Value × Value => []) rfl rfl rfl eg_20 rfl rfl (fun w own hw H => add_any b_lg  (lg) v_l (l) b_dk q_dkKept q_dkNow q_dkWait (dk) w own H (by first | assumption | omega | (dsimp only; omega)) (by first | assumption | exact ⟨by assumption, by omega⟩)) rfl) ?_
            rintro ⟨z10, z11, z12⟩
            dsimp only
            refine R.u 1 rfl <| R.nil ?_
            refine R.reg rfl <| R.u 1 rfl <| ?_
            by_cases h9 : (addL lg dk l).2.2 = 0
            · refine R.q (q.eqlE0 rfl rfl Try.underlying28 (by omega)) rfl <| R.nil ?_
              refine R.condT rfl rfl ?_
              refine R.reg rfl <| R.u 2 rfl <| R.q (q.nilc rfl) rfl <| R.q (q.fld (off' := 6) rfl tFld_100_3 rfl) rfl <| ?_
              refine R.s rfl (s.stV (us := [z1]) (cs' := [.pointer (some ⟨b_dk, 0, none⟩), .int .i64 st.Epoch, .int .i64 st.Side, .int .i64 st.Size, .int .i64 st.First, .pointer (some ⟨b_lg, 0, none⟩), z1]) 6 _ rfl rfl rfl (fun w hw => Sl.cells1 ((fun _ => Wd.row 5 rfl) w hw)) (.inr ⟨tOne_46, rfl⟩) (fun w hw => (one_cons (Sl.one ((fun _ => Wd.row 5 rfl) w hw)) one_nil)) rfl rfl rfl) fun _ => ?_
              refine R.nil ?_
              refine R.reg rfl <| R.u 2 rfl <| R.nil ?_
              refine R.mp (B' := [Res.box b_lg [.pointer (some ⟨b_dk, 0, none⟩), .int .i64 (((addL lg dk l).1).From), .int .i64 (((addL lg dk l).1).Many), .int .i64 (((addL lg dk l).1).First), .int .i64 (((addL lg dk l).1).Next)] 85, Res.box b_dk [z10, z11, z12, .int .i64 (((addL lg dk l).2.1).Fuse), .bool (((addL lg dk l).2.1).Down)] 81, Res.row 9 z10 (((addL lg dk l).2.1).Kept : List ByteArray), Res.row 9 z11 (((addL lg dk l).2.1).Now : List ByteArray), Res.row 83 z12 (((addL lg dk l).2.1).Wait : List Turn), Res.box b_st [.pointer (some ⟨b_dk, 0, none⟩), .int .i64 st.Epoch, .int .i64 st.Side, .int .i64 st.Size, .int .i64 st.First, .pointer (some ⟨b_lg, 0, none⟩), z1] 100, Res.held w own]) (fun _ hw => hw.lendL 5 _ rfl rfl) ?_
              have hz : ((comS (mkS st lg) dk l).1.c, (comS (mkS st lg) dk l).2.1, (comS (mkS st lg) dk l).1.L, (comS (mkS st lg) dk l).2.2) = ((⟨st.Epoch, st.Side, st.Size, st.First, applyR st.Rows l⟩ : StoC), ((addL lg dk l).2.1), ((addL lg dk l).1), (addL lg dk l).2.2) := by (first | (rw [com_c (s := mkS st lg) §2 g0 §8]; rfl) | (have hf := comF_0 (s := mkS st lg) (d := dk) (l := l) §2 g0 §5; first | (rw [com_d hf §3 §2]) | (rw [com_e hf §3 §2 §2]; first | done | rfl) | (rw [com_f hf §3 §2 §2]; first | done | rfl) | (rw [com_g hf §4 §2]; first | done | rfl) | (rw [com_h hf §4 §2]; first | done | rfl)))
              have hz0 : (comS (mkS st lg) dk l).1.c = (⟨st.Epoch, st.Side, st.Size, st.First, applyR st.Rows l⟩ : StoC) := congrArg (fun t_ => t_.1) hz
              rw [hz0]
              have hz1 : (comS (mkS st lg) dk l).2.1 = ((addL lg dk l).2.1) := congrArg (fun t_ => t_.2.1) hz
              rw [hz1]
              have hz2 : (comS (mkS st lg) dk l).1.L = ((addL lg dk l).1) := congrArg (fun t_ => t_.2.2.1) hz
              rw [hz2]
              have hz3 : (comS (mkS st lg) dk l).2.2 = (addL lg dk l).2.2 := congrArg (fun t_ => t_.2.2.2) hz
              rw [hz3]
              exact R.w1 (z1, z10, z11, z12, b_lg) [5, 1, 2, 3, 4, 0, 6] [0] rfl Try.results24 (RV.tmp rfl) rfl rfl rfl rfl
            · refine R.q (q.eqlE1 rfl rfl Try.underlying28 (by omega)) rfl <| R.nil ?_
              refine R.condF rfl rfl ?_
              refine R.reg rfl <| R.u 2 rfl <| R.nil ?_
              have hz : ((comS (mkS st lg) dk l).1.c, (comS (mkS st lg) dk l).2.1, (comS (mkS st lg) dk l).1.L, (comS (mkS st lg) dk l).2.2) = (st, ((addL lg dk l).2.1), ((addL lg dk l).1), (addL lg dk l).2.2) := by (first | (rw [com_c (s := mkS st lg) §2 g0 §8]; rfl) | (have hf := comF_0 (s := mkS st lg) (d := dk) (l := l) §2 g0 §5; first | (rw [com_d hf §3 §2]) | (rw [com_e hf §3 §2 §2]; first | done | rfl) | (rw [com_f hf §3 §2 §2]; first | done | rfl) | (rw [com_g hf §4 §2]; first | done | rfl) | (rw [com_h hf §4 §2]; first | done | rfl)))
              have hz0 : (comS (mkS st lg) dk l).1.c = st := congrArg (fun t_ => t_.1) hz
              rw [hz0]
              have hz1 : (comS (mkS st lg) dk l).2.1 = ((addL lg dk l).2.1) := congrArg (fun t_ => t_.2.1) hz
              rw [hz1]
              have hz2 : (comS (mkS st lg) dk l).1.L = ((addL lg dk l).1) := congrArg (fun t_ => t_.2.2.1) hz
              rw [hz2]
              have hz3 : (comS (mkS st lg) dk l).2.2 = (addL lg dk l).2.2 := congrArg (fun t_ => t_.2.2.2) hz
              rw [hz3]
              exact R.w1 (q_stRows, z10, z11, z12, b_lg) [6, 1, 2, 3, 4, 0, 7] [0] rfl Try.results24 (RV.tmp rfl) rfl rfl rfl rfl

end Go.Proofs.Ytpipachmngdegaa
end
