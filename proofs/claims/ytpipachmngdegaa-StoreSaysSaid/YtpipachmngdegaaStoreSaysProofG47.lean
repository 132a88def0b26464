import Derived.Test.YtpipachmngdegaaStoreSaysProofG39
import Derived.Test.YtpipachmngdegaaStoreSaysProofG44
import Derived.Test.YtpipachmngdegaaStoreSaysProofG46
section
/-
  The walks of chapter 10, the document's store; a store is opened that is none; a fresh one.
-/
namespace Go.Proofs.Ytpipachmngdegaa
open Go Go.RowKit
set_option linter.unusedVariables false
set_option linter.unusedSimpArgs false
set_option maxRecDepth 100000
set_option hygiene false
local macro:max "§0" : term => `([Res.box b_dk [q_dkKept, q_dkNow, q_dkWait, .int .i64 dk.Fuse, .bool dk.Down] 81, Res.row 9 q_dkKept (dk.Kept : List ByteArray), Res.row 9 q_dkNow (dk.Now : List ByteArray), Res.row 83 q_dkWait (dk.Wait : List Turn)])
local macro:max "§1" : term => `([.int .i64 ((headO ((dRead dk (i : Int)).1)).Epoch), .int .i64 ((headO ((dRead dk (i : Int)).1)).Side), .int .i64 ((headO ((dRead dk (i : Int)).1)).Size), .int .i64 ((headO ((dRead dk (i : Int)).1)).First)])
local macro:max "§2" : term => `([Res.box b1 [.pointer (some ⟨b_dk, 0, none⟩), .int .i64 hh.Epoch, .int .i64 hh.Side, .int .i64 hh.Size, .int .i64 hh.First, .pointer none, .slice none 0 0] 100, Res.box b_dk [q_dkKept, q_dkNow, q_dkWait, .int .i64 dk.Fuse, .bool dk.Down] 81, Res.row 9 q_dkKept (dk.Kept : List ByteArray), Res.row 9 q_dkNow (dk.Now : List ByteArray), Res.row 83 q_dkWait (dk.Wait : List Turn), Res.held w own])
local macro:max "§3" : term => `((q.len' (fun _ => Wd.fls 1 rfl) rfl Try.underlying46))

structure RStC where
  Rows : List Change
  Used : Int
  Many : Int
def rcF (m : RStC) (l : List Change) : Int := if 62 < l.length then 2 else if ¬ chFs l = 0 then chFs l else if 60 < (appliedR m.Rows l).length ∨ m.Many < (l.length : Int) + 1 then 9 else 0
def rcS (m : RStC) (l : List Change) : RStC × Int :=
  if ¬ rcF m l = 0 then (m, rcF m l) else (⟨appliedR m.Rows l, (if m.Many - m.Used < (l.length : Int) + 1 then 0 else m.Used) + (l.length : Int) + 1, m.Many⟩, 0)
section
variable {m : RStC} {l : List Change}
theorem rc_a (h : 62 < l.length) : rcS m l = (m, 2) := by
  have hf : rcF m l = 2 := if_pos h
  unfold rcS; rw [hf, if_pos (by decide)]
theorem rc_b {e : Int} (h0 : ¬ 62 < l.length) (he : chFs l = e) (h : ¬ e = 0) : rcS m l = (m, e) := by
  have hf : rcF m l = e := by unfold rcF; rw [if_neg h0, if_pos (by rw [he]; exact h), he]
  unfold rcS; rw [hf, if_pos h]
theorem rc_c (h0 : ¬ 62 < l.length) (h1 : chFs l = 0) (h : 60 < (appliedR m.Rows l).length ∨ m.Many < (l.length : Int) + 1) : rcS m l = (m, 9) := by
  have hf : rcF m l = 9 := by unfold rcF; rw [if_neg h0, if_neg (by rw [h1]; decide), if_pos h]
  unfold rcS; rw [hf, if_pos (by decide)]
theorem rc_d {q : Int} (h0 : ¬ 62 < l.length) (h1 : chFs l = 0) (h : ¬ (60 < (appliedR m.Rows l).length ∨ m.Many < (l.length : Int) + 1)) (hq : q = (if m.Many - m.Used < (l.length : Int) + 1 then 0 else m.Used) + (l.length : Int) + 1) : rcS m l = (⟨appliedR m.Rows l, q, m.Many⟩, 0) := by
  have hf : rcF m l = 0 := by unfold rcF; rw [if_neg h0, if_neg (by rw [h1]; decide), if_neg h]
  unfold rcS; rw [hf, if_neg (by decide), hq]
end

theorem rcommit_any (b_m : Nat) (q_mRows : Value) (m : RStC) (v_l : Value) (l : List Change) (w : World) (own : List Nat) (H : Wd w (blks [Res.box b_m [q_mRows, .int .i64 m.Used, .int .i64 m.Many] 60] ++ own) ([Res.box b_m [q_mRows, .int .i64 m.Used, .int .i64 m.Many] 60] ++ [Res.held w own]) [Res.ls q_mRows (m.Rows : List Change), Res.ls v_l (l : List Change)] w) (hb : 0 ≤ m.Many ∧ m.Many ≤ 1000 ∧ 0 ≤ m.Used ∧ m.Used ≤ 1000 ∧ m.Rows.length ≤ 1000 ∧ l.length ≤ 10000) : Calls Try.prog 25 #[.pointer (some ⟨b_m, 0, none⟩), v_l] w fun e w' => ∃ z : Value, e = .returned (.int .i64 (((rcS m l)).2)) ∧ Wd w (blks [Res.box b_m [q_mRows, .int .i64 m.Used, .int .i64 m.Many] 60] ++ own) ([Res.box b_m [z, .int .i64 ((((rcS m l)).1).Used), .int .i64 ((((rcS m l)).1).Many)] 60] ++ [Res.held w own]) [Res.ls z ((((rcS m l)).1).Rows : List Change)] w' := by
  have m_m_Rows := H.lenF 0 rfl
  have m_l := H.lenF 1 rfl
  refine R.enterN (n := 75) (vs := [.pointer (some ⟨b_m, 0, none⟩), v_l]) (B := [Res.box b_m [q_mRows, .int .i64 m.Used, .int .i64 m.Many] 60, Res.held w own]) [(0, .pointer (some ⟨b_m, 0, none⟩)), (1, v_l)] Try.func25 rfl rfl rfl rfl H ?_
  refine R.reg rfl <| R.u 1 rfl <| R.nil ?_
  refine R.reg rfl <| R.u 1 rfl <| R.q §3 rfl <| ?_
  by_cases h1 : 62 < l.length
  · refine R.q (q.gtr rfl rfl (decide_eq_true (by omega))) rfl <| R.nil ?_
    refine R.condT rfl rfl ?_
    refine R.reg rfl <| R.u 1 rfl <| R.nil ?_
    have hz : rcS m l = (m, 2) := by (exact rc_a (by assumption))
    rw [hz]
    exact R.w1 q_mRows [0, 1] [0] rfl Try.results25 (RV.tmp rfl) rfl rfl rfl rfl
  · refine R.q (q.gtr rfl rfl (decide_eq_false (by omega))) rfl <| R.nil ?_
    refine R.condF rfl rfl ?_
    refine R.reg rfl <| R.u 1 rfl <| R.nil ?_
    refine R.loop (fun i : Nat => [(0, .pointer (some ⟨b_m, 0, none⟩)), (1, v_l), (5, .int .i64 (i : Int))]) (fun i : Nat => [Res.box b_m [q_mRows, .int .i64 m.Used, .int .i64 m.Many] 60, Res.held w own]) (fun i : Nat => [Res.ls q_mRows (m.Rows : List Change), Res.ls v_l (l : List Change)]) (fun i : Nat => i ≤ l.length ∧ chFs (l.drop i) = chFs l) (fun i : Nat => l.length - i) 0 rfl (by exact ⟨by omega, rfl⟩) ⟨rfl, rfl, rfl, trivial⟩ (fun _ => Wd.pick [0, 1] [0, 1] rfl rfl rfl) ?_
    rintro i ⟨hi, HL⟩
    refine R.reg rfl <| R.u 2 rfl <| R.q §3 rfl <| ?_
    by_cases h2 : i < l.length
    · refine R.q (q.lss rfl rfl (decide_eq_true (by omega))) rfl <| R.nil ?_
      refine R.condT rfl rfl ?_
      refine R.reg rfl <| R.u 2 rfl <| ?_
      obtain ⟨x1, hx1⟩ : ∃ z, l[i]? = some z := ⟨_, List.getElem?_eq_getElem (by omega)⟩
      have fx1 := chF_023 x1
      refine R.q (q.idx (i := i) (fun _ => Wd.fls 1 rfl) rfl rfl tSl_46 rfl hx1) rfl <| R.q (q.ldES (ds := [.string x1.Key, .string x1.Val, .bool x1.Gone]) (fun _ => Wd.fls 1 rfl) hx1 rfl tAgg_51 rfl) rfl <| R.c (q.call eg_19 rfl rfl (fun w hw => (changeFault_any (x1) w  ))) rfl <| R.u 1 rfl <| R.nil ?_
      refine R.reg rfl <| R.u 1 rfl <| ?_
      by_cases h3 : 0 < chF x1
      · refine R.q (q.gtr rfl rfl (decide_eq_true (by omega))) rfl <| R.nil ?_
        refine R.condT rfl rfl ?_
        refine R.reg rfl <| R.u 2 rfl <| R.nil ?_
        have hz : rcS m l = (m, chF x1) := by (exact rc_b (by omega) (fs_stop HL hx1 (by omega)) (by omega))
        rw [hz]
        exact R.w1 q_mRows [0, 1] [0] rfl Try.results25 (RV.tmp rfl) rfl rfl rfl rfl
      · refine R.q (q.gtr rfl rfl (decide_eq_false (by omega))) rfl <| R.nil ?_
        refine R.condF rfl rfl ?_
        refine R.reg rfl <| R.u 1 rfl <| R.q (q.add (r := ((i + 1 : Nat) : Int)) rfl rfl (wr (by omega))) rfl <| R.u 1 rfl <| R.nil ?_
        refine R.back (i + 1) rfl (by (exact ⟨by omega, fs_go HL hx1 (by omega)⟩)) (by omega) ⟨rfl, rfl, rfl, trivial⟩ (fun _ => Wd.pik [0, 1] [0, 1] rfl rfl rfl)
    · refine R.q (q.lss rfl rfl (decide_eq_false (by omega))) rfl <| R.nil ?_
      refine R.condF rfl rfl ?_
      have g0 : chFs l = 0 := fs_end HL (by omega); have ha2 := appliedR_len l m.Rows
      refine R.reg rfl <| R.u 1 rfl <| R.q (q.nilc rfl) rfl <| R.q (q.fld (off' := 0) rfl tFld_60_0 rfl) rfl <| R.q (q.ld 0 rfl rfl tOne_46 rfl) rfl <| R.u 1 rfl <| ?_
      refine R.s (B' := (fun bz0_ : Value => [Res.row 51 bz0_ ((appliedR m.Rows l) : List Change), Res.box b_m [q_mRows, .int .i64 m.Used, .int .i64 m.Many] 60, Res.held w own])) (F' := (fun bz0_ : Value => [Res.ls q_mRows (m.Rows : List Change), Res.ls v_l (l : List Change)])) rfl (s.callV (B0 := []) (Br := [Res.box b_m [q_mRows, .int .i64 m.Used, .int .i64 m.Many] 60, Res.held w own]) (F0 := [Res.ls q_mRows (m.Rows : List Change), Res.ls v_l (l : List Change)]) [0, 1] [0, 1] (fun bz0_ : Value => bz0_) (fun bz0_ : Value => [Res.row 51 bz0_ ((appliedR m.Rows l) : List Change)]) (fun bz0_ : Value => []) rfl rfl rfl eg_36 rfl rfl (fun w own hw H => applied_any q_mRows (m.Rows) v_l (l) w own H (by first | omega | assumption | (simp; done) | (simp; omega))) rfl) fun z1 => ?_
      refine R.u 1 rfl <| R.nil ?_
      refine R.reg rfl <| R.u 1 rfl <| R.q (q.len' (fun _ => Wd.row 0 rfl) rfl Try.underlying46) rfl <| ?_
      by_cases h4 : 60 < (appliedR m.Rows l).length
      · refine R.q (q.gtr rfl rfl (decide_eq_true (by omega))) rfl <| R.u 10 rfl <| R.nil ?_
        refine R.condT rfl rfl ?_
        refine R.reg rfl <| R.u 1 rfl <| R.nil ?_
        have hz : rcS m l = (m, 9) := by (exact rc_c (by omega) g0 (by first | exact .inl (by assumption) | exact .inr (by omega)))
        rw [hz]
        exact R.w1 q_mRows [1, 2] [0] rfl Try.results25 (RV.tmp rfl) rfl rfl rfl rfl
      · refine R.q (q.gtr rfl rfl (decide_eq_false (by omega))) rfl <| R.u 2 rfl <| R.qg rfl §3 rfl <| R.qg rfl (q.add (r := ((l.length + 1 : Nat) : Int)) rfl rfl (wr (by omega))) rfl <| R.u 1 rfl <| R.qg rfl (q.nilc rfl) rfl <| R.qg rfl (q.fld (off' := 2) rfl tFld_60_2 rfl) rfl <| R.qg rfl (q.ld 1 rfl rfl tOne_3 rfl) rfl <| ?_
        by_cases h5 : m.Many < ((l.length + 1) : Int)
        · refine R.qg rfl (q.gtr rfl rfl (decide_eq_true (by omega))) rfl <| R.u 1 rfl <| R.nil ?_
          refine R.condT rfl rfl ?_
          refine R.reg rfl <| R.u 1 rfl <| R.nil ?_
          have hz : rcS m l = (m, 9) := by (exact rc_c (by omega) g0 (by first | exact .inl (by assumption) | exact .inr (by omega)))
          rw [hz]
          exact R.w1 q_mRows [1, 2] [0] rfl Try.results25 (RV.tmp rfl) rfl rfl rfl rfl
        · refine R.qg rfl (q.gtr rfl rfl (decide_eq_false (by omega))) rfl <| R.u 1 rfl <| R.nil ?_
          refine R.condF rfl rfl ?_
          by_cases h6 : (m.Many - m.Used) < ((l.length + 1) : Int)
          · refine R.regQ rfl mixed (by kernel_rfl) <| Q.u 1 rfl <| Q.q §3 rfl <| Q.q (q.add (r := ((l.length + 1 : Nat) : Int)) rfl rfl (wr (by omega))) rfl <| Q.u 1 rfl <| Q.q (q.nilc rfl) rfl <| Q.q (q.fld (off' := 2) rfl tFld_60_2 rfl) rfl <| Q.q (q.ld 1 rfl rfl tOne_3 rfl) rfl <| Q.u 1 rfl <| Q.q (q.nilc rfl) rfl <| Q.q (q.fld (off' := 1) rfl tFld_60_1 rfl) rfl <| Q.q (q.ld 1 rfl rfl tOne_3 rfl) rfl <| Q.q (q.sub (r := m.Many - m.Used) rfl rfl (wr (by omega))) rfl <| Q.q (q.gtr rfl rfl (decide_eq_true (by omega))) rfl <| Q.nil ?_
            refine R.condT rfl rfl ?_
            refine R.reg rfl <| R.u 1 rfl <| R.q (q.nilc rfl) rfl <| R.q (q.fld (off' := 1) rfl tFld_60_1 rfl) rfl <| ?_
            refine R.s rfl (s.st (us := [.int .i64 0]) (cs' := [q_mRows, .int .i64 0, .int .i64 m.Many]) 1 _ rfl rfl rfl rfl (.inr ⟨tOne_3, rfl⟩) rfl rfl rfl rfl) fun _ => ?_
            refine R.nil ?_
            refine R.reg rfl <| R.u 2 rfl <| R.q (q.nilc rfl) rfl <| R.q (q.fld (off' := 1) rfl tFld_60_1 rfl) rfl <| R.q (q.ld 1 rfl rfl tOne_3 rfl) rfl <| R.u 1 rfl <| R.q §3 rfl <| R.q (q.add (r := ((0 + l.length : Nat) : Int)) rfl rfl (wr (by omega))) rfl <| R.q (q.add (r := (((0 + l.length) + 1 : Nat) : Int)) rfl rfl (wr (by omega))) rfl <| R.q (q.nilc rfl) rfl <| R.q (q.fld (off' := 1) rfl tFld_60_1 rfl) rfl <| ?_
            refine R.s rfl (s.st (us := [.int .i64 (((0 + l.length) + 1) : Int)]) (cs' := [q_mRows, .int .i64 (((0 + l.length) + 1) : Int), .int .i64 m.Many]) 1 _ rfl rfl rfl rfl (.inr ⟨tOne_3, rfl⟩) rfl rfl rfl rfl) fun _ => ?_
            refine R.nil ?_
            refine R.reg rfl <| R.u 2 rfl <| R.q (q.nilc rfl) rfl <| R.q (q.fld (off' := 0) rfl tFld_60_0 rfl) rfl <| ?_
            refine R.s rfl (s.stV (us := [z1]) (cs' := [z1, .int .i64 (((0 + l.length) + 1) : Int), .int .i64 m.Many]) 1 _ rfl rfl rfl (fun w hw => Sl.cells1 ((fun _ => Wd.row 0 rfl) w hw)) (.inr ⟨tOne_46, rfl⟩) (fun w hw => (one_cons (Sl.one ((fun _ => Wd.row 0 rfl) w hw)) one_nil)) rfl rfl rfl) fun _ => ?_
            refine R.nil ?_
            refine R.reg rfl <| R.u 1 rfl <| R.nil ?_
            refine R.mp (B' := [Res.box b_m [z1, .int .i64 (((0 + l.length) + 1) : Int), .int .i64 m.Many] 60, Res.held w own]) (fun _ hw => hw.lendL 0 _ rfl rfl) ?_
            have hz : rcS m l = ((⟨appliedR m.Rows l, (((0 + l.length) + 1) : Int), m.Many⟩ : RStC), 0) := by (exact rc_d (by omega) g0 (by intro hh; rcases hh with hh | hh <;> first | (exact absurd hh (by assumption)) | omega) (by split <;> omega))
            rw [hz]
            exact R.w1 z1 [0, 1] [0] rfl Try.results25 (RV.tmp rfl) rfl rfl rfl rfl
          · refine R.regQ rfl mixed (by kernel_rfl) <| Q.u 1 rfl <| Q.q §3 rfl <| Q.q (q.add (r := ((l.length + 1 : Nat) : Int)) rfl rfl (wr (by omega))) rfl <| Q.u 1 rfl <| Q.q (q.nilc rfl) rfl <| Q.q (q.fld (off' := 2) rfl tFld_60_2 rfl) rfl <| Q.q (q.ld 1 rfl rfl tOne_3 rfl) rfl <| Q.u 1 rfl <| Q.q (q.nilc rfl) rfl <| Q.q (q.fld (off' := 1) rfl tFld_60_1 rfl) rfl <| Q.q (q.ld 1 rfl rfl tOne_3 rfl) rfl <| Q.q (q.sub (r := m.Many - m.Used) rfl rfl (wr (by omega))) rfl <| Q.q (q.gtr rfl rfl (decide_eq_false (by omega))) rfl <| Q.nil ?_
            refine R.condF rfl rfl ?_
            refine R.reg rfl <| R.u 2 rfl <| R.q (q.nilc rfl) rfl <| R.q (q.fld (off' := 1) rfl tFld_60_1 rfl) rfl <| R.q (q.ld 1 rfl rfl tOne_3 rfl) rfl <| R.u 1 rfl <| R.q §3 rfl <| R.q (q.add (r := m.Used + (l.length : Int)) rfl rfl (wr (by omega))) rfl <| R.q (q.add (r := (m.Used + (l.length : Int)) + 1) rfl rfl (wr (by omega))) rfl <| R.q (q.nilc rfl) rfl <| R.q (q.fld (off' := 1) rfl tFld_60_1 rfl) rfl <| ?_
            refine R.s rfl (s.st (us := [.int .i64 ((m.Used + (l.length : Int)) + 1)]) (cs' := [q_mRows, .int .i64 ((m.Used + (l.length : Int)) + 1), .int .i64 m.Many]) 1 _ rfl rfl rfl rfl (.inr ⟨tOne_3, rfl⟩) rfl rfl rfl rfl) fun _ => ?_
            refine R.nil ?_
            refine R.reg rfl <| R.u 2 rfl <| R.q (q.nilc rfl) rfl <| R.q (q.fld (off' := 0) rfl tFld_60_0 rfl) rfl <| ?_
            refine R.s rfl (s.stV (us := [z1]) (cs' := [z1, .int .i64 ((m.Used + (l.length : Int)) + 1), .int .i64 m.Many]) 1 _ rfl rfl rfl (fun w hw => Sl.cells1 ((fun _ => Wd.row 0 rfl) w hw)) (.inr ⟨tOne_46, rfl⟩) (fun w hw => (one_cons (Sl.one ((fun _ => Wd.row 0 rfl) w hw)) one_nil)) rfl rfl rfl) fun _ => ?_
            refine R.nil ?_
            refine R.reg rfl <| R.u 1 rfl <| R.nil ?_
            refine R.mp (B' := [Res.box b_m [z1, .int .i64 ((m.Used + (l.length : Int)) + 1), .int .i64 m.Many] 60, Res.held w own]) (fun _ hw => hw.lendL 0 _ rfl rfl) ?_
            have hz : rcS m l = ((⟨appliedR m.Rows l, ((m.Used + (l.length : Int)) + 1), m.Many⟩ : RStC), 0) := by (exact rc_d (by omega) g0 (by intro hh; rcases hh with hh | hh <;> first | (exact absurd hh (by assumption)) | omega) (by split <;> omega))
            rw [hz]
            exact R.w1 z1 [0, 1] [0] rfl Try.results25 (RV.tmp rfl) rfl rfl rfl rfl

set_option maxRecDepth 100000 in
theorem sopen_bad (b_dk : Nat) (q_dkKept q_dkNow q_dkWait : Value) (dk : Dsk) (w : World) (own : List Nat) (H : Wd w (blks §0 ++ own) (§0 ++ [Res.held w own]) [] w) (hd : dk.Down = false) (ho : dk.Now.length < 166 ∨ (headD dk).Epoch = 0) (hD : DOk dk.Now.length 90000 dk ∧ dk.Now.length ≤ 200) : Calls Try.prog 22 #[.pointer (some ⟨b_dk, 0, none⟩)] w fun e w' => ∃ z : Value × Value × Value, e = .returned (.tuple #[.pointer none, .iface 75 (.int .i64 4)]) ∧ Wd w (blks §0 ++ own) ([Res.box b_dk [z.1, z.2.1, z.2.2, .int .i64 ((dk).Fuse), .bool ((dk).Down)] 81, Res.row 9 z.1 ((dk).Kept : List ByteArray), Res.row 9 z.2.1 ((dk).Now : List ByteArray), Res.row 83 z.2.2 ((dk).Wait : List Turn)] ++ [Res.held w own]) [] w' := by
  have c_dk_Kept := H.cap 1 rfl; have m_dk_Kept := H.lenB 1 rfl
  have c_dk_Now := H.cap 2 rfl; have m_dk_Now := H.lenB 2 rfl
  have c_dk_Wait := H.cap 3 rfl; have m_dk_Wait := H.lenB 3 rfl
  refine R.enterN (n := 144) (vs := [.pointer (some ⟨b_dk, 0, none⟩)]) (B := [Res.box b_dk [q_dkKept, q_dkNow, q_dkWait, .int .i64 dk.Fuse, .bool dk.Down] 81, Res.row 9 q_dkKept (dk.Kept : List ByteArray), Res.row 9 q_dkNow (dk.Now : List ByteArray), Res.row 83 q_dkWait (dk.Wait : List Turn), Res.held w own]) [(0, .pointer (some ⟨b_dk, 0, none⟩))] Try.func22 rfl rfl rfl rfl H ?_
  refine R.reg rfl <| R.u 2 rfl <| R.nil ?_
  refine R.reg rfl <| R.u 1 rfl <| R.c (q.call eg_42 rfl rfl (fun w hw => (cv (congrArg Value.bool hd) (dDown_any b_dk q_dkKept q_dkNow q_dkWait  (dk) w (hw.b 0 rfl) ((fun _ => Wd.row 1 rfl) w hw) ((fun _ => Wd.row 2 rfl) w hw) ((fun _ => Wd.row 3 rfl) w hw) )))) rfl <| R.nil ?_
  refine R.condF rfl rfl ?_
  refine R.reg rfl <| R.u 1 rfl <| R.c (q.call eg_12 rfl rfl (fun w hw => (dSectors_any b_dk q_dkKept q_dkNow q_dkWait  (dk) w (hw.b 0 rfl) ((fun _ => Wd.row 1 rfl) w hw) ((fun _ => Wd.row 2 rfl) w hw) ((fun _ => Wd.row 3 rfl) w hw) ))) rfl <| ?_
  by_cases h1 : dk.Now.length < 166
  · refine R.q (q.lss rfl rfl (decide_eq_true (by omega))) rfl <| R.nil ?_
    refine R.condT rfl rfl ?_
    refine R.reg rfl <| R.q (q.iface rfl con_75) rfl <| R.u 2 rfl <| R.nil ?_
    exact R.w2 (q_dkKept, q_dkNow, q_dkWait) [0, 1, 2, 3, 4] [] rfl Try.results22 (RV.tmp rfl) (RV.tmp rfl) rfl rfl rfl (tup2 rfl rfl)
  · refine R.q (q.lss rfl rfl (decide_eq_false (by omega))) rfl <| R.nil ?_
    refine R.condF rfl rfl ?_
    refine R.reg rfl <| R.u 1 rfl <| R.q (q.build (cs := [.pointer (some ⟨b_dk, 0, none⟩), .int .i64 0, .int .i64 0, .int .i64 0, .int .i64 0, .pointer none, .slice none 0 0]) tB_100 rfl rfl) rfl <| ?_
    refine R.s rfl (s.box (cs := [.pointer (some ⟨b_dk, 0, none⟩), .int .i64 0, .int .i64 0, .int .i64 0, .int .i64 0, .pointer none, .slice none 0 0]) rfl rfl rfl) fun b1 => ?_
    refine R.u 1 rfl <| R.nil ?_
    refine R.reg rfl <| R.u 1 rfl <| R.nil ?_
    refine R.loop (fun g_ : Nat × Hed => [(0, .pointer (some ⟨b_dk, 0, none⟩)), (4, .pointer (some ⟨b1, 0, none⟩)), (30, .int .i64 (g_.1 : Int))]) (fun g_ : Nat × Hed => [Res.box b1 [.pointer (some ⟨b_dk, 0, none⟩), .int .i64 g_.2.Epoch, .int .i64 g_.2.Side, .int .i64 g_.2.Size, .int .i64 g_.2.First, .pointer none, .slice none 0 0] 100, Res.box b_dk [q_dkKept, q_dkNow, q_dkWait, .int .i64 dk.Fuse, .bool dk.Down] 81, Res.row 9 q_dkKept (dk.Kept : List ByteArray), Res.row 9 q_dkNow (dk.Now : List ByteArray), Res.row 83 q_dkWait (dk.Wait : List Turn), Res.held w own]) (fun g_ : Nat × Hed => []) (fun g_ : Nat × Hed => g_.1 ≤ 2 ∧ g_.2 = headK dk g_.1) (fun g_ : Nat × Hed => 2 - g_.1) (0, (⟨0, 0, 0, 0⟩ : Hed)) rfl (by exact ⟨by omega, rfl⟩) ⟨rfl, rfl, rfl, trivial⟩ (fun _ => Wd.pick [0, 1, 2, 3, 4, 5] [] rfl rfl rfl) ?_
    rintro ⟨i, hh⟩ ⟨hi, HK⟩
    dsimp only at *
    have hin := headK_in dk i; rw [← HK] at hin
    refine R.reg rfl <| ?_
    by_cases h2 : i < 2
    · refine R.q (q.lss rfl rfl (decide_eq_true (by omega))) rfl <| R.nil ?_
      refine R.condT rfl rfl ?_
      refine R.reg rfl <| R.u 2 rfl <| R.nil ?_
      have hrd := dRead_in hD.1 hd (i := (i : Int)) (by omega) (by omega); obtain ⟨hrd, hsz⟩ := hrd; have hin2 := headO_in (dRead dk (i : Int)).1
      refine R.reg rfl <| R.u 2 rfl <| R.c (q.call eg_14 rfl rfl (fun w hw => (dRead_any b_dk q_dkKept q_dkNow q_dkWait  (dk) ((i : Int)) w (hw.b 1 rfl) ((fun _ => Wd.row 2 rfl) w hw) ((fun _ => Wd.row 3 rfl) w hw) ((fun _ => Wd.row 4 rfl) w hw) ))) rfl <| R.u 5 rfl <| R.nil ?_
      refine R.reg rfl <| R.u 1 rfl <| R.q (q.neqE0 rfl rfl Try.underlying28 (by omega)) rfl <| R.nil ?_
      refine R.condF rfl rfl ?_
      refine R.reg rfl <| R.u 1 rfl <| ?_
      refine R.s (B' := (fun _u : Unit => §2)) (F' := (fun _u : Unit => [])) rfl (s.callV (B0 := []) (Br := §2) (F0 := []) [0, 1, 2, 3, 4, 5] [] (fun _u : Unit => .agg #[.int .i64 (((headO ((dRead dk (i : Int)).1))).Epoch), .int .i64 (((headO ((dRead dk (i : Int)).1))).Side), .int .i64 (((headO ((dRead dk (i : Int)).1))).Size), .int .i64 (((headO ((dRead dk (i : Int)).1))).First)]) (fun _u : Unit => []) (fun _u : Unit => []) rfl rfl rfl eg_54 rfl rfl (fun w own hw H => headOf_any ((dRead dk (i : Int)).1) w own H (by first | omega | assumption)) rfl) fun _ => ?_
      refine R.s rfl (s.alloc (cs := [.int .i64 0, .int .i64 0, .int .i64 0, .int .i64 0]) tZero_98 rfl rfl) fun b2 => ?_
      refine R.s rfl (s.st (us := §1) (cs' := §1) 0 _ rfl rfl rfl rfl (.inl tAgg_98) rfl rfl rfl rfl) fun _ => ?_
      refine R.nil ?_
      by_cases h3 : hh.Epoch < (headO ((dRead dk (i : Int)).1)).Epoch
      · refine R.regQ rfl mixed (by kernel_rfl) <| Q.q (q.fld (off' := 0) rfl tFld_98_0 rfl) rfl <| Q.q (q.ld 0 rfl rfl tOne_3 rfl) rfl <| Q.u 1 rfl <| Q.q (q.nilc rfl) rfl <| Q.q (q.fld (off' := 1) rfl tFld_100_1 rfl) rfl <| Q.q (q.fld (off' := 1) rfl tFld_98_0 rfl) rfl <| Q.q (q.ld 1 rfl rfl tOne_3 rfl) rfl <| Q.q (q.gtr rfl rfl (decide_eq_true (by omega))) rfl <| Q.nil ?_
        refine R.condT rfl rfl ?_
        refine R.reg rfl <| R.u 1 rfl <| R.q (q.ldS 0 rfl rfl tAgg_98) rfl <| R.q (q.nilc rfl) rfl <| R.q (q.fld (off' := 1) rfl tFld_100_1 rfl) rfl <| ?_
        refine R.s rfl (s.st (us := §1) (cs' := [.pointer (some ⟨b_dk, 0, none⟩), .int .i64 ((headO ((dRead dk (i : Int)).1)).Epoch), .int .i64 ((headO ((dRead dk (i : Int)).1)).Side), .int .i64 ((headO ((dRead dk (i : Int)).1)).Size), .int .i64 ((headO ((dRead dk (i : Int)).1)).First), .pointer none, .slice none 0 0]) 1 _ rfl rfl rfl rfl (.inl tAgg_98) rfl rfl rfl rfl) fun _ => ?_
        refine R.nil ?_
        refine R.reg rfl <| R.q (q.add (r := ((i + 1 : Nat) : Int)) rfl rfl (wr (by omega))) rfl <| R.u 1 rfl <| R.nil ?_
        refine R.back (i + 1, headO (dRead dk (i : Int)).1) rfl (by (exact ⟨by omega, by show _ = pick1 (headK dk i) (headO (dRead dk (i : Int)).1); rw [← HK]; unfold pick1; first | rw [if_pos (by assumption)] | rw [if_neg (by assumption)]⟩)) (by dsimp only; omega) ⟨rfl, rfl, rfl, trivial⟩ (fun _ => Wd.pik [1, 2, 3, 4, 5, 6] [] rfl rfl rfl)
      · refine R.regQ rfl mixed (by kernel_rfl) <| Q.q (q.fld (off' := 0) rfl tFld_98_0 rfl) rfl <| Q.q (q.ld 0 rfl rfl tOne_3 rfl) rfl <| Q.u 1 rfl <| Q.q (q.nilc rfl) rfl <| Q.q (q.fld (off' := 1) rfl tFld_100_1 rfl) rfl <| Q.q (q.fld (off' := 1) rfl tFld_98_0 rfl) rfl <| Q.q (q.ld 1 rfl rfl tOne_3 rfl) rfl <| Q.q (q.gtr rfl rfl (decide_eq_false (by omega))) rfl <| Q.nil ?_
        refine R.condF rfl rfl ?_
        refine R.reg rfl <| R.q (q.add (r := ((i + 1 : Nat) : Int)) rfl rfl (wr (by omega))) rfl <| R.u 1 rfl <| R.nil ?_
        refine R.back (i + 1, hh) rfl (by (exact ⟨by omega, by show _ = pick1 (headK dk i) (headO (dRead dk (i : Int)).1); rw [← HK]; unfold pick1; first | rw [if_pos (by assumption)] | rw [if_neg (by assumption)]⟩)) (by dsimp only; omega) ⟨rfl, rfl, rfl, trivial⟩ (fun _ => Wd.pik [1, 2, 3, 4, 5, 6] [] rfl rfl rfl)
    · refine R.q (q.lss rfl rfl (decide_eq_false (by omega))) rfl <| R.nil ?_
      refine R.condF rfl rfl ?_
      have hhe : hh = headD dk := by rw [HK, show i = 2 by omega]; rfl
      have o2b : hh.Epoch = 0 := by rw [hhe]; rcases ho with ho | ho; exact absurd ho (by assumption); exact ho
      refine R.reg rfl <| R.u 1 rfl <| R.q (q.nilc rfl) rfl <| R.q (q.fld (off' := 1) rfl tFld_100_1 rfl) rfl <| R.q (q.fld (off' := 1) rfl tFld_98_0 rfl) rfl <| R.q (q.ld 0 rfl rfl tOne_3 rfl) rfl <| R.q (q.eql rfl rfl (beq_iff_eq.2 (by omega))) rfl <| R.nil ?_
      refine R.condT rfl rfl ?_
      refine R.reg rfl <| R.q (q.iface rfl con_75) rfl <| R.u 2 rfl <| R.nil ?_
      exact R.w2 (q_dkKept, q_dkNow, q_dkWait) [1, 2, 3, 4, 5] [] rfl Try.results22 (RV.tmp rfl) (RV.tmp rfl) rfl rfl rfl (tup2 rfl rfl)

end Go.Proofs.Ytpipachmngdegaa
end
