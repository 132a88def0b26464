import Derived.Test.YtpipachmngdegaaStoreSaysProofG31
import Derived.Test.YtpipachmngdegaaStoreSaysProofG33
section
/-
  The walks of chapter 10: a store is opened. The program's.
-/
namespace Go.Proofs.Ytpipachmngdegaa
open Go Go.RowKit
set_option linter.unusedVariables false
set_option linter.unusedSimpArgs false
set_option maxRecDepth 100000
set_option hygiene false
local macro:max "§0" : term => `((⟨102, (((dk.Now.length - 102) : Nat) : Int), hh.First, (opnU dk 102 (Int.toNat (((dk.Now.length - 102) : Nat) : Int)) hh.First : Int)⟩ : Lg))
local macro:max "§1" : term => `([Res.box b1 [.pointer (some ⟨b_dk, 0, none⟩), .int .i64 hh.Epoch, .int .i64 hh.Side, .int .i64 hh.Size, .int .i64 hh.First, .pointer none, .slice none 0 0] 100, Res.box b_dk [q_dkKept, q_dkNow, q_dkWait, .int .i64 dk.Fuse, .bool dk.Down] 81, Res.row 9 q_dkKept (dk.Kept : List ByteArray), Res.row 9 q_dkNow (dk.Now : List ByteArray), Res.row 83 q_dkWait (dk.Wait : List Turn), Res.held w own])
local macro:max "§2" : term => `([.pointer (some ⟨b_dk, 0, none⟩), .int .i64 102, .int .i64 (((dk.Now.length - 102) : Nat) : Int), .int .i64 hh.First, .int .i64 (opnU dk 102 (Int.toNat (((dk.Now.length - 102) : Nat) : Int)) hh.First : Int)])
local macro:max "§3" : term => `([Res.box b_dk [q_dkKept, q_dkNow, q_dkWait, .int .i64 dk.Fuse, .bool dk.Down] 81, Res.row 9 q_dkKept (dk.Kept : List ByteArray), Res.row 9 q_dkNow (dk.Now : List ByteArray), Res.row 83 q_dkWait (dk.Wait : List Turn)])
local macro:max "§4" : term => `([.pointer (some ⟨b_dk, 0, none⟩), .int .i64 hh.Epoch, .int .i64 hh.Side, .int .i64 hh.Size, .int .i64 hh.First, .pointer none, .slice none 0 0])
local macro:max "§5" : term => `([.int .i64 ((headO ((dRead dk (i : Int)).1)).Epoch), .int .i64 ((headO ((dRead dk (i : Int)).1)).Side), .int .i64 ((headO ((dRead dk (i : Int)).1)).Size), .int .i64 ((headO ((dRead dk (i : Int)).1)).First)])
local macro:max "§6" : term => `([Res.box b_dk [z8, z9, z10, .int .i64 dk.Fuse, .bool dk.Down] 81, Res.row 9 z8 (dk.Kept : List ByteArray), Res.row 9 z9 (dk.Now : List ByteArray), Res.row 83 z10 (dk.Wait : List Turn), Res.box z11 §2 85, Res.box b1 [.pointer (some ⟨b_dk, 0, none⟩), .int .i64 hh.Epoch, .int .i64 hh.Side, .int .i64 hh.Size, .int .i64 hh.First, .pointer (some ⟨z11, 0, none⟩), vr] 100, Res.held w own])
local macro:max "§7" : term => `([.pointer (some ⟨p_st_d, 0, none⟩), .int .i64 st.Epoch, .int .i64 st.Side, .int .i64 st.Size, .int .i64 st.First, .pointer (some ⟨p_st_l, 0, none⟩), q_stRows])
local macro:max "§8" : term => `((fun _ => Wd.pik [0, 1, 6] [] rfl rfl rfl))
local macro:max "§9" : term => `((fun _ => Wd.pik [5, 6, 7] [] rfl rfl rfl))
local macro:max "§10" : term => `((fun g_ : Value × Value × Value × Nat × Value × List Bat => [Res.ls g_.2.2.2.2.1 (g_.2.2.2.2.2 : List Bat), Res.batsE (g_.2.2.2.2.2 : List Bat) ((opnD dk 102 (Int.toNat (((dk.Now.length - 102) : Nat) : Int)) hh.First))]))

theorem srows_any (b_st : Nat) (q_stRows : Value) (p_st_d : Nat) (p_st_l : Nat) (st : StoC) (w : World) (k_st : (Res.box b_st §7 100).ok w) (s_q_stRows : Sl w q_stRows (st.Rows : List Change)) (hl : st.Rows.length ≤ 100000) : Calls Try.prog 29 #[.pointer (some ⟨b_st, 0, none⟩)] w fun e w' => ∃ u, e = .returned u ∧ Own w.heap.size 51 w' u (st.Rows) ∧ Ext w w' := by
  refine R.enter (n := 8) (vs := [.pointer (some ⟨b_st, 0, none⟩)]) [] [(0, .pointer (some ⟨b_st, 0, none⟩))] Try.func29 rfl rfl rfl rfl ?_
  refine R.oldL s_q_stRows ?_
  refine R.oldF (r := Res.box b_st §7 100) k_st (box_lt k_st) ?_
  refine R.reg rfl <| R.u 1 rfl <| R.nil ?_
  refine R.reg rfl <| R.u 1 rfl <| R.q (q.nilc rfl) rfl <| R.q (q.fld (off' := 6) rfl tFld_100_3 rfl) rfl <| R.q (q.ldF 0 rfl rfl tOne_46 rfl) rfl <| ?_
  refine R.s (B' := (fun bz0_ : Value => [Res.row 51 bz0_ (st.Rows : List Change)])) (F' := (fun bz0_ : Value => [Res.box b_st §7 100, Res.ls q_stRows (st.Rows : List Change)])) rfl (s.callV (B0 := []) (Br := []) (F0 := [Res.ls q_stRows (st.Rows : List Change)]) [] [1] (fun bz0_ : Value => bz0_) (fun bz0_ : Value => [Res.row 51 bz0_ (st.Rows : List Change)]) (fun bz0_ : Value => []) rfl rfl rfl eg_60 rfl rfl (fun w own hw H => cloneChange_any q_stRows (st.Rows) w own H (by first | omega | assumption | (simp; done) | (simp; omega))) rfl) fun z1 => ?_
  refine R.u 1 rfl <| R.nil ?_
  exact R.ro 0 rfl Try.results29 rfl rfl (by (first | omega | rfl))

def headK (d : Dsk) : Nat → Hed
  | 0 => ⟨0, 0, 0, 0⟩
  | k + 1 => pick1 (headK d k) (headO (dRead d (k : Int)).1)
theorem headK_in (d : Dsk) : ∀ k, 0 ≤ (headK d k).Epoch ∧ (headK d k).Epoch < 4294967296 ∧ 0 ≤ (headK d k).Side ∧ (headK d k).Side ≤ 1 ∧ 0 ≤ (headK d k).Size ∧ (headK d k).Size ≤ 2400 ∧ 0 ≤ (headK d k).First ∧ (headK d k).First < 4294967296 ∧ (¬ (headK d k).Epoch = 0 → 1 ≤ (headK d k).First)
  | 0 => by simp [headK]
  | k + 1 => by
    unfold headK pick1; split
    · exact headO_in _
    · exact headK_in d k
theorem opn_1 {d : Dsk} (h : openF d = 0) : ¬ d.Now.length < 166 ∧ ¬ (headD d).Epoch = 0 ∧ (parseB (halfD d)).2 = true := by
  unfold openF at h
  split at h
  · cases h
  · split at h
    · cases h
    · split at h
      · exact ⟨by assumption, by assumption, by assumption⟩
      · cases h
theorem parS_len : ∀ (k : Nat) (t : ByteArray) (l : List Change), (parS k t l).1.length ≤ l.length + t.size
  | 0, t, l => by rw [parS]; show l.length ≤ _; omega
  | k + 1, t, l => by
    rw [parS]
    split
    · dsimp only; omega
    · split
      · simp
      · rename_i h1 h2
        split
        · have := parS_len k (t.extract (parN t) t.size) (applyR l [parC t])
          have ha := applyR_len [parC t] l
          rw [List.length_singleton] at ha
          rw [ByteArray.size_extract] at this
          have : 3 ≤ parN t := by unfold parN; omega
          omega
        · simp
theorem parseB_len (t : ByteArray) : (parseB t).1.length ≤ t.size := by
  have := parS_len (t.size + 1) t []
  simpa [parseB] using this
theorem sc_short {M : Nat} : ∀ (l : List ByteArray) (n : Int) (out : List (List Change)) (deed : List Change) (used pos : Nat), (∀ c ∈ out, c.length ≤ M) → deed.length + l.length ≤ M → ∀ c ∈ (scD l n out deed used pos).1, c.length ≤ M
  | [], n, out, deed, used, pos, h, hd => h
  | s :: r, n, out, deed, used, pos, h, hd => by
    rw [List.length_cons] at hd
    rw [scD]
    split
    · refine sc_short r _ _ _ _ _ (fun c hc => ?_) (by simp; omega)
      rcases List.mem_append.1 hc with hc | hc
      · exact h c hc
      · rw [List.mem_singleton.1 hc]; omega
    · split
      · exact sc_short r _ _ _ _ _ h (by simp; omega)
      · exact h
theorem opnD_short {d : Dsk} {f : Int} {k : Nat} {first : Int} : ∀ c ∈ opnD d f k first, c.length ≤ k := by
  unfold opnD scan
  exact sc_short _ _ _ _ _ _ (by simp) (by rw [regS_len]; simp)
theorem applyD_len {M : Nat} : ∀ (W : List (List Change)) (rows : List Change), (∀ c ∈ W, c.length ≤ M) → (applyD rows W).length ≤ rows.length + M * W.length
  | [], rows, h => by simp [applyD]
  | c :: W, rows, h => by
    have h1 := applyD_len W (applyR rows c) (fun x hx => h x (List.mem_cons_of_mem _ hx))
    have h2 := applyR_len c rows
    have h3 := h c (List.mem_cons_self ..)
    show (applyD (applyR rows c) W).length ≤ _
    rw [List.length_cons, Nat.mul_add, Nat.mul_one]
    omega

attribute [local irreducible] opnU opnD parseB

set_option maxRecDepth 100000 in
set_option maxHeartbeats 1600000 in
theorem sopen_any (b_dk : Nat) (q_dkKept q_dkNow q_dkWait : Value) (dk : Dsk) (w : World) (own : List Nat) (H : Wd w (blks §3 ++ own) (§3 ++ [Res.held w own]) [] w) (hd : dk.Down = false) (ho : openF dk = 0) (hD : DOk dk.Now.length 90000 dk ∧ dk.Now.length ≤ 200) : Calls Try.prog 22 #[.pointer (some ⟨b_dk, 0, none⟩)] w fun e w' => ∃ z : Value × Value × Value × Nat × Value × Nat, e = .returned (.tuple #[.pointer (some ⟨z.2.2.2.1, 0, none⟩), .nilIface]) ∧ Wd w (blks §3 ++ own) ([Res.box b_dk [z.1, z.2.1, z.2.2.1, .int .i64 ((dk).Fuse), .bool ((dk).Down)] 81, Res.row 9 z.1 ((dk).Kept : List ByteArray), Res.row 9 z.2.1 ((dk).Now : List ByteArray), Res.row 83 z.2.2.1 ((dk).Wait : List Turn), Res.box z.2.2.2.1 [.pointer (some ⟨b_dk, 0, none⟩), .int .i64 ((((openS dk).c)).Epoch), .int .i64 ((((openS dk).c)).Side), .int .i64 ((((openS dk).c)).Size), .int .i64 ((((openS dk).c)).First), .pointer (some ⟨z.2.2.2.2.2, 0, none⟩), z.2.2.2.2.1] 100, Res.box z.2.2.2.2.2 [.pointer (some ⟨b_dk, 0, none⟩), .int .i64 ((((openS dk).L)).From), .int .i64 ((((openS dk).L)).Many), .int .i64 ((((openS dk).L)).First), .int .i64 ((((openS dk).L)).Next)] 85] ++ [Res.held w own]) [Res.ls z.2.2.2.2.1 ((((openS dk).c)).Rows : List Change)] w' := by
  have c_dk_Kept := H.cap 1 rfl; have m_dk_Kept := H.lenB 1 rfl
  have c_dk_Now := H.cap 2 rfl; have m_dk_Now := H.lenB 2 rfl
  have c_dk_Wait := H.cap 3 rfl; have m_dk_Wait := H.lenB 3 rfl
  obtain ⟨o1, o2, o3⟩ := opn_1 ho
  refine R.enterN (n := 144) (vs := [.pointer (some ⟨b_dk, 0, none⟩)]) (B := [Res.box b_dk [q_dkKept, q_dkNow, q_dkWait, .int .i64 dk.Fuse, .bool dk.Down] 81, Res.row 9 q_dkKept (dk.Kept : List ByteArray), Res.row 9 q_dkNow (dk.Now : List ByteArray), Res.row 83 q_dkWait (dk.Wait : List Turn), Res.held w own]) [(0, .pointer (some ⟨b_dk, 0, none⟩))] Try.func22 rfl rfl rfl rfl H ?_
  refine R.reg rfl <| R.u 2 rfl <| R.nil ?_
  refine R.reg rfl <| R.u 1 rfl <| R.c (q.call eg_42 rfl rfl (fun w hw => (cv (congrArg Value.bool hd) (dDown_any b_dk q_dkKept q_dkNow q_dkWait  (dk) w (hw.b 0 rfl) ((fun _ => Wd.row 1 rfl) w hw) ((fun _ => Wd.row 2 rfl) w hw) ((fun _ => Wd.row 3 rfl) w hw) )))) rfl <| R.nil ?_
  refine R.condF rfl rfl ?_
  refine R.reg rfl <| R.u 1 rfl <| R.c (q.call eg_12 rfl rfl (fun w hw => (dSectors_any b_dk q_dkKept q_dkNow q_dkWait  (dk) w (hw.b 0 rfl) ((fun _ => Wd.row 1 rfl) w hw) ((fun _ => Wd.row 2 rfl) w hw) ((fun _ => Wd.row 3 rfl) w hw) ))) rfl <| R.q (q.lss rfl rfl (decide_eq_false (by omega))) rfl <| R.nil ?_
  refine R.condF rfl rfl ?_
  refine R.reg rfl <| R.u 1 rfl <| R.q (q.build (cs := [.pointer (some ⟨b_dk, 0, none⟩), .int .i64 0, .int .i64 0, .int .i64 0, .int .i64 0, .pointer none, .slice none 0 0]) tB_100 rfl rfl) rfl <| ?_
  refine R.s rfl (s.box (cs := [.pointer (some ⟨b_dk, 0, none⟩), .int .i64 0, .int .i64 0, .int .i64 0, .int .i64 0, .pointer none, .slice none 0 0]) rfl rfl rfl) fun b1 => ?_
  refine R.u 1 rfl <| R.nil ?_
  refine R.reg rfl <| R.u 1 rfl <| R.nil ?_
  refine R.loop (fun g_ : Nat × Hed => [(0, .pointer (some ⟨b_dk, 0, none⟩)), (4, .pointer (some ⟨b1, 0, none⟩)), (30, .int .i64 (g_.1 : Int))]) (fun g_ : Nat × Hed => [Res.box b1 [.pointer (some ⟨b_dk, 0, none⟩), .int .i64 g_.2.Epoch, .int .i64 g_.2.Side, .int .i64 g_.2.Size, .int .i64 g_.2.First, .pointer none, .slice none 0 0] 100, Res.box b_dk [q_dkKept, q_dkNow, q_dkWait, .int .i64 dk.Fuse, .bool dk.Down] 81, Res.row 9 q_dkKept (dk.Kept : List ByteArray), Res.row 9 q_dkNow (dk.Now : List ByteArray), Res.row 83 q_dkWait (dk.Wait : List Turn), Res.held w own]) (fun g_ : Nat × Hed => []) (fun g_ : Nat × Hed => g_.1 ≤ 2 ∧ g_.2 = headK dk g_.1) (fun g_ : Nat × Hed => 2 - g_.1) (0, (⟨0, 0, 0, 0⟩ : Hed)) rfl (by exact ⟨by omega, rfl⟩) ⟨rfl, rfl, rfl, trivial⟩ (fun _ => Wd.pick [0, 1, 2, 3, 4, 5] [] rfl rfl rfl) ?_
  rintro ⟨i, hh⟩ ⟨hi, HK⟩
  dsimp only at *
  have hin := headK_in dk i; rw [← HK] at hin
  refine R.reg rfl <| ?_
  by_cases h1 : i < 2
  · refine R.q (q.lss rfl rfl (decide_eq_true (by omega))) rfl <| R.nil ?_
    refine R.condT rfl rfl ?_
    refine R.reg rfl <| R.u 2 rfl <| R.nil ?_
    have hrd := dRead_in hD.1 hd (i := (i : Int)) (by omega) (by omega); obtain ⟨hrd, hsz⟩ := hrd; have hin2 := headO_in (dRead dk (i : Int)).1
    refine R.reg rfl <| R.u 2 rfl <| R.c (q.call eg_14 rfl rfl (fun w hw => (dRead_any b_dk q_dkKept q_dkNow q_dkWait  (dk) ((i : Int)) w (hw.b 1 rfl) ((fun _ => Wd.row 2 rfl) w hw) ((fun _ => Wd.row 3 rfl) w hw) ((fun _ => Wd.row 4 rfl) w hw) ))) rfl <| R.u 5 rfl <| R.nil ?_
    refine R.reg rfl <| R.u 1 rfl <| R.q (q.neqE0 rfl rfl Try.underlying28 (by omega)) rfl <| R.nil ?_
    refine R.condF rfl rfl ?_
    refine R.reg rfl <| R.u 1 rfl <| ?_
    refine R.s (B' := (fun _u : Unit => §1)) (F' := (fun _u : Unit => [])) rfl (s.callV (B0 := []) (Br := §1) (F0 := []) [0, 1, 2, 3, 4, 5] [] (fun _u : Unit => .agg #[.int .i64 (((headO ((dRead dk (i : Int)).1))).Epoch), .int .i64 (((headO ((dRead dk (i : Int)).1))).Side), .int .i64 (((headO ((dRead dk (i : Int)).1))).Size), .int .i64 (((headO ((dRead dk (i : Int)).1))).First)]) (fun _u : Unit => []) (fun _u : Unit => []) rfl rfl rfl eg_54 rfl rfl (fun w own hw H => headOf_any ((dRead dk (i : Int)).1) w own H (by first | omega | assumption)) rfl) fun _ => ?_
    refine R.s rfl (s.alloc (cs := [.int .i64 0, .int .i64 0, .int .i64 0, .int .i64 0]) tZero_98 rfl rfl) fun b2 => ?_
    refine R.s rfl (s.st (us := §5) (cs' := §5) 0 _ rfl rfl rfl rfl (.inl tAgg_98) rfl rfl rfl rfl) fun _ => ?_
    refine R.nil ?_
    by_cases h2 : hh.Epoch < (headO ((dRead dk (i : Int)).1)).Epoch
    · refine R.regQ rfl mixed (by kernel_rfl) <| Q.q (q.fld (off' := 0) rfl tFld_98_0 rfl) rfl <| Q.q (q.ld 0 rfl rfl tOne_3 rfl) rfl <| Q.u 1 rfl <| Q.q (q.nilc rfl) rfl <| Q.q (q.fld (off' := 1) rfl tFld_100_1 rfl) rfl <| Q.q (q.fld (off' := 1) rfl tFld_98_0 rfl) rfl <| Q.q (q.ld 1 rfl rfl tOne_3 rfl) rfl <| Q.q (q.gtr rfl rfl (decide_eq_true (by omega))) rfl <| Q.nil ?_
      refine R.condT rfl rfl ?_
      refine R.reg rfl <| R.u 1 rfl <| R.q (q.ldS 0 rfl rfl tAgg_98) rfl <| R.q (q.nilc rfl) rfl <| R.q (q.fld (off' := 1) rfl tFld_100_1 rfl) rfl <| ?_
      refine R.s rfl (s.st (us := §5) (cs' := [.pointer (some ⟨b_dk, 0, none⟩), .int .i64 ((headO ((dRead dk (i : Int)).1)).Epoch), .int .i64 ((headO ((dRead dk (i : Int)).1)).Side), .int .i64 ((headO ((dRead dk (i : Int)).1)).Size), .int .i64 ((headO ((dRead dk (i : Int)).1)).First), .pointer none, .slice none 0 0]) 1 _ rfl rfl rfl rfl (.inl tAgg_98) rfl rfl rfl rfl) fun _ => ?_
      refine R.nil ?_
      refine R.reg rfl <| R.q (q.add (r := ((i + 1 : Nat) : Int)) rfl rfl (wr (by omega))) rfl <| R.u 1 rfl <| R.nil ?_
      refine R.back (i + 1, headO (dRead dk (i : Int)).1) rfl (by (exact ⟨by omega, by show _ = pick1 (headK dk i) (headO (dRead dk (i : Int)).1); rw [← HK]; unfold pick1; first | rw [if_pos (by assumption)] | rw [if_neg (by assumption)]⟩)) (by dsimp only; omega) ⟨rfl, rfl, rfl, trivial⟩ (fun _ => Wd.pik [1, 2, 3, 4, 5, 6] [] rfl rfl rfl)
    · refine R.regQ rfl mixed (by kernel_rfl) <| Q.q (q.fld (off' := 0) rfl tFld_98_0 rfl) rfl <| Q.q (q.ld 0 rfl rfl tOne_3 rfl) rfl <| Q.u 1 rfl <| Q.q (q.nilc rfl) rfl <| Q.q (q.fld (off' := 1) rfl tFld_100_1 rfl) rfl <| Q.q (q.fld (off' := 1) rfl tFld_98_0 rfl) rfl <| Q.q (q.ld 1 rfl rfl tOne_3 rfl) rfl <| Q.q (q.gtr rfl rfl (decide_eq_false (by omega))) rfl <| Q.nil ?_
      refine R.condF rfl rfl ?_
      refine R.reg rfl <| R.q (q.add (r := ((i + 1 : Nat) : Int)) rfl rfl (wr (by omega))) rfl <| R.u 1 rfl <| R.nil ?_
      refine R.back (i + 1, hh) rfl (by (exact ⟨by omega, by show _ = pick1 (headK dk i) (headO (dRead dk (i : Int)).1); rw [← HK]; unfold pick1; first | rw [if_pos (by assumption)] | rw [if_neg (by assumption)]⟩)) (by dsimp only; omega) ⟨rfl, rfl, rfl, trivial⟩ (fun _ => Wd.pik [1, 2, 3, 4, 5, 6] [] rfl rfl rfl)
  · refine R.q (q.lss rfl rfl (decide_eq_false (by omega))) rfl <| R.nil ?_
    refine R.condF rfl rfl ?_
    have hhe : hh = headD dk := by rw [HK, show i = 2 by omega]; rfl
    have o2b : ¬ hh.Epoch = 0 := by rw [hhe]; exact o2
    refine R.reg rfl <| R.u 1 rfl <| R.q (q.nilc rfl) rfl <| R.q (q.fld (off' := 1) rfl tFld_100_1 rfl) rfl <| R.q (q.fld (off' := 1) rfl tFld_98_0 rfl) rfl <| R.q (q.ld 0 rfl rfl tOne_3 rfl) rfl <| R.q (q.eql rfl rfl (beq_eq_false_iff_ne.2 (by omega))) rfl <| R.nil ?_
    refine R.condF rfl rfl ?_
    refine R.reg rfl <| R.u 1 rfl <| R.nil ?_
    refine R.reg rfl <| R.u 1 rfl <| R.nil ?_
    refine R.loop (fun g_ : Nat × ByteArray => [(0, .pointer (some ⟨b_dk, 0, none⟩)), (4, .pointer (some ⟨b1, 0, none⟩)), (9, .string g_.2), (64, .int .i64 (g_.1 : Int))]) (fun g_ : Nat × ByteArray => §1) (fun g_ : Nat × ByteArray => []) (fun g_ : Nat × ByteArray => g_.1 ≤ 50 ∧ g_.2 = catS dk (2 + hh.Side * 50) g_.1 ∧ g_.2.size = 48 * g_.1) (fun g_ : Nat × ByteArray => 50 - g_.1) (0, (⟨#[]⟩ : ByteArray)) rfl (by exact ⟨by omega, rfl, rfl⟩) ⟨rfl, rfl, rfl, rfl, trivial⟩ (fun _ => Wd.pick [0, 1, 2, 3, 4, 5] [] rfl rfl rfl) ?_
    rintro ⟨j, tx⟩ ⟨hj, HT, hts⟩
    dsimp only at *
    refine R.reg rfl <| ?_
    by_cases h3 : j < 50
    · refine R.q (q.lss rfl rfl (decide_eq_true (by omega))) rfl <| R.nil ?_
      refine R.condT rfl rfl ?_
      refine R.reg rfl <| R.u 2 rfl <| R.nil ?_
      have hrd := dRead_in hD.1 hd (i := 2 + hh.Side * 50 + (j : Int)) (by omega) (by omega); obtain ⟨hrd, hsz⟩ := hrd
      refine R.reg rfl <| R.u 2 rfl <| R.q (q.nilc rfl) rfl <| R.q (q.fld (off' := 1) rfl tFld_100_1 rfl) rfl <| R.q (q.fld (off' := 2) rfl tFld_98_1 rfl) rfl <| R.q (q.ld 0 rfl rfl tOne_3 rfl) rfl <| R.q (q.mul (r := hh.Side * 50) rfl rfl (wr (by omega))) rfl <| R.q (q.add (r := 2 + (hh.Side * 50)) rfl rfl (wr (by omega))) rfl <| R.u 1 rfl <| R.q (q.add (r := (2 + (hh.Side * 50)) + (j : Int)) rfl rfl (wr (by omega))) rfl <| R.c (q.call eg_14 rfl rfl (fun w hw => (dRead_any b_dk q_dkKept q_dkNow q_dkWait  (dk) (((2 + (hh.Side * 50)) + (j : Int))) w (hw.b 1 rfl) ((fun _ => Wd.row 2 rfl) w hw) ((fun _ => Wd.row 3 rfl) w hw) ((fun _ => Wd.row 4 rfl) w hw) ))) rfl <| R.u 5 rfl <| R.nil ?_
      refine R.reg rfl <| R.u 1 rfl <| R.q (q.neqE0 rfl rfl Try.underlying28 (by omega)) rfl <| R.nil ?_
      refine R.condF rfl rfl ?_
      refine R.reg rfl <| R.u 2 rfl <| R.q (q.cat rfl rfl (by omega)) rfl <| R.u 1 rfl <| R.nil ?_
      refine R.reg rfl <| R.q (q.add (r := ((j + 1 : Nat) : Int)) rfl rfl (wr (by omega))) rfl <| R.u 1 rfl <| R.nil ?_
      refine R.back (j + 1, (tx ++ (dRead dk ((2 + (hh.Side * 50)) + (j : Int))).1)) rfl (by (exact ⟨by omega, by show _ = catS dk (2 + hh.Side * 50) j ++ _; rw [← HT], by rw [ByteArray.size_append]; omega⟩)) (by dsimp only; omega) ⟨rfl, rfl, rfl, rfl, trivial⟩ (fun _ => Wd.pik [0, 1, 2, 3, 4, 5] [] rfl rfl rfl)
    · refine R.q (q.lss rfl rfl (decide_eq_false (by omega))) rfl <| R.nil ?_
      refine R.condF rfl rfl ?_
      have hth : tx.extract 0 hh.Size.toNat = halfD dk := by rw [HT, hhe, show j = 50 by omega]; rfl
      have hpb : (parseB (tx.extract 0 hh.Size.toNat)).2 = true := by rw [hth]; exact o3
      refine R.reg rfl <| R.u 2 rfl <| R.q (q.nilc rfl) rfl <| R.q (q.fld (off' := 1) rfl tFld_100_1 rfl) rfl <| R.q (q.fld (off' := 3) rfl tFld_98_2 rfl) rfl <| R.q (q.ld 0 rfl rfl tOne_3 rfl) rfl <| R.q (q.sTo (i := hh.Size.toNat) rfl rfl Try.underlying9 (by omega) (by omega)) rfl <| ?_
      refine R.s (B' := (fun bz0_ : Value => [Res.row 51 bz0_ (((parseB (tx.extract 0 hh.Size.toNat))).1 : List Change), Res.box b1 §4 100, Res.box b_dk [q_dkKept, q_dkNow, q_dkWait, .int .i64 dk.Fuse, .bool dk.Down] 81, Res.row 9 q_dkKept (dk.Kept : List ByteArray), Res.row 9 q_dkNow (dk.Now : List ByteArray), Res.row 83 q_dkWait (dk.Wait : List Turn), Res.held w own])) (F' := (fun bz0_ : Value => [])) rfl (s.callV (B0 := []) (Br := §1) (F0 := []) [0, 1, 2, 3, 4, 5] [] (fun bz0_ : Value => .tuple #[bz0_, .bool (((parseB (tx.extract 0 hh.Size.toNat))).2)]) (fun bz0_ : Value => [Res.row 51 bz0_ (((parseB (tx.extract 0 hh.Size.toNat))).1 : List Change)]) (fun bz0_ : Value => []) rfl rfl rfl eg_55 rfl rfl (fun w own hw H => parse_any ((tx.extract 0 hh.Size.toNat)) w own H (by first | omega | assumption | (rw [ByteArray.size_extract]; omega))) rfl) fun z1 => ?_
      refine R.u 5 rfl <| R.nil ?_
      refine R.reg rfl <| R.u 1 rfl <| R.q (q.not rfl) rfl <| R.nil ?_
      refine R.cond rfl rfl (fun h4 => ?_) (fun h4 => ?_)
      · exact absurd h4 (by rw [hpb]; decide)
      · refine R.regD (fuel := 17) (Wd w (blks §3 ++ own) [Res.row 51 z1 ((parseB (tx.extract 0 hh.Size.toNat)).1 : List Change), Res.box b1 §4 100, Res.held w own] []) rfl mixed rfl ?_
        refine D.q (i := 0) rfl (by kernel_rfl) §8 rfl (q.mv rfl) rfl <| D.q (i := 1) rfl (by kernel_rfl) §8 rfl (q.mv rfl) rfl <| D.q (i := 4) rfl (by kernel_rfl) §8 rfl (q.mv rfl) rfl <| D.q (i := 5) rfl (by kernel_rfl) §8 rfl (q.nilc rfl) rfl <| D.q (i := 6) rfl (by kernel_rfl) §8 rfl (q.fld (off' := 1) rfl tFld_100_1 rfl) rfl <| D.q (i := 7) rfl (by kernel_rfl) §8 rfl (q.fld (off' := 4) rfl tFld_98_3 rfl) rfl <| D.q (i := 8) rfl (by kernel_rfl) §8 rfl (q.ld 1 rfl rfl tOne_3 rfl) rfl <| ?_
        refine D.one (i := 2) (by kernel_rfl) rfl ?_
        refine Do.s (s.c (q.call eg_12 rfl rfl (fun w hw => (dSectors_any b_dk q_dkKept q_dkNow q_dkWait  (dk) w (hw.b 2 rfl) ((fun _ => Wd.row 3 rfl) w hw) ((fun _ => Wd.row 4 rfl) w hw) ((fun _ => Wd.row 5 rfl) w hw) ))) rfl) (fun _ => §8) rfl fun _ => ?_
        refine D.q (i := 3) rfl (by kernel_rfl) §8 rfl (q.sub (r := ((dk.Now.length - 102 : Nat) : Int)) rfl rfl (wr (by omega))) rfl <| ?_
        refine D.one (i := 9) (by kernel_rfl) rfl ?_
        refine Do.s (B' := (fun g_ : Value × Value × Value × Nat × Value × List Bat => [Res.box b_dk [g_.1, g_.2.1, g_.2.2.1, .int .i64 ((dk).Fuse), .bool ((dk).Down)] 81, Res.row 9 g_.1 ((dk).Kept : List ByteArray), Res.row 9 g_.2.1 ((dk).Now : List ByteArray), Res.row 83 g_.2.2.1 ((dk).Wait : List Turn), Res.box g_.2.2.2.1 [.pointer (some ⟨b_dk, 0, none⟩), .int .i64 ((§0).From), .int .i64 ((§0).Many), .int .i64 ((§0).First), .int .i64 ((§0).Next)] 85, Res.row 51 z1 ((parseB (tx.extract 0 hh.Size.toNat)).1 : List Change), Res.box b1 §4 100, Res.held w own])) (F' := §10) (s.callV (B0 := §3) (Br := [Res.row 51 z1 ((parseB (tx.extract 0 hh.Size.toNat)).1 : List Change), Res.box b1 §4 100, Res.held w own]) (F0 := []) [2, 3, 4, 5, 0, 1, 6] [] (fun g_ : Value × Value × Value × Nat × Value × List Bat => .tuple #[.pointer (some ⟨g_.2.2.2.1, 0, none⟩), g_.2.2.2.2.1, .nilIface]) (fun g_ : Value × Value × Value × Nat × Value × List Bat => [Res.box b_dk [g_.1, g_.2.1, g_.2.2.1, .int .i64 ((dk).Fuse), .bool ((dk).Down)] 81, Res.row 9 g_.1 ((dk).Kept : List ByteArray), Res.row 9 g_.2.1 ((dk).Now : List ByteArray), Res.row 83 g_.2.2.1 ((dk).Wait : List Turn), Res.box g_.2.2.2.1 [.pointer (some ⟨b_dk, 0, none⟩), .int .i64 ((§0).From), .int .i64 ((§0).Many), .int .i64 ((§0).First), .int .i64 ((§0).Next)] 85]) §10 rfl rfl rfl eg_11 rfl rfl (fun w own hw H => open_any b_dk q_dkKept q_dkNow q_dkWait (dk) (102) ((((dk.Now.length - 102) : Nat) : Int)) (hh.First) w own H (by refine ⟨by decide, ?_, ?_, ?_, ?_⟩ <;> omega) (hd) (⟨hD.1, by omega⟩)) rfl) (fun _ => §9) rfl ?_
        rintro ⟨z8, z9, z10, z11, z12, z13⟩
        dsimp only
        refine D.q (i := 10) rfl (by kernel_rfl) §9 rfl (q.mv rfl) rfl <| D.q (i := 11) rfl (by kernel_rfl) §9 rfl (q.ext rfl rfl) rfl <| D.q (i := 12) rfl (by kernel_rfl) §9 rfl (q.ext rfl rfl) rfl <| D.q (i := 13) rfl (by kernel_rfl) §9 rfl (q.ext rfl rfl) rfl <| D.q (i := 14) rfl (by kernel_rfl) §9 rfl (q.as rfl) rfl <| D.q (i := 15) rfl (by kernel_rfl) §9 rfl (q.as rfl) rfl <| D.q (i := 16) rfl (by kernel_rfl) §9 rfl (q.as rfl) rfl <| D.done (by kernel_rfl) <| ?_
        refine R.reg rfl <| R.u 1 rfl <| R.q (q.neqNN rfl rfl Try.underlying28) rfl <| R.nil ?_
        refine R.condF rfl rfl ?_
        refine R.reg rfl <| R.u 4 rfl <| R.q (q.nilc rfl) rfl <| R.q (q.fld (off' := 5) rfl tFld_100_2 rfl) rfl <| ?_
        refine R.s rfl (s.st (us := [.pointer (some ⟨z11, 0, none⟩)]) (cs' := [.pointer (some ⟨b_dk, 0, none⟩), .int .i64 hh.Epoch, .int .i64 hh.Side, .int .i64 hh.Size, .int .i64 hh.First, .pointer (some ⟨z11, 0, none⟩), .slice none 0 0]) 6 _ rfl rfl rfl rfl (.inr ⟨tOne_32, rfl⟩) rfl rfl rfl rfl) fun _ => ?_
        refine Rg.getE (F' := [Res.bats (z13 : List Bat), Res.ls z12 (z13 : List Bat)]) 1 rfl rfl fun hE1 => ?_
        refine R.q (q.nilc rfl) rfl <| R.q (q.fld (off' := 6) rfl tFld_100_3 rfl) rfl <| ?_
        refine R.s rfl (s.stV (us := [z1]) (cs' := [.pointer (some ⟨b_dk, 0, none⟩), .int .i64 hh.Epoch, .int .i64 hh.Side, .int .i64 hh.Size, .int .i64 hh.First, .pointer (some ⟨z11, 0, none⟩), z1]) 6 _ rfl rfl rfl (fun w hw => Sl.cells1 ((fun _ => Wd.row 5 rfl) w hw)) (.inr ⟨tOne_46, rfl⟩) (fun w hw => (one_cons (Sl.one ((fun _ => Wd.row 5 rfl) w hw)) one_nil)) rfl rfl rfl) fun _ => ?_
        refine R.nil ?_
        refine R.reg rfl <| R.u 1 rfl <| R.q (q.len' (fun _ => Wd.fls 1 rfl) rfl Try.underlying33) rfl <| R.u 1 rfl <| R.nil ?_
        refine R.mp (B' := [Res.box b_dk [z8, z9, z10, .int .i64 dk.Fuse, .bool dk.Down] 81, Res.row 9 z8 (dk.Kept : List ByteArray), Res.row 9 z9 (dk.Now : List ByteArray), Res.row 83 z10 (dk.Wait : List Turn), Res.box z11 §2 85, Res.box b1 [.pointer (some ⟨b_dk, 0, none⟩), .int .i64 hh.Epoch, .int .i64 hh.Side, .int .i64 hh.Size, .int .i64 hh.First, .pointer (some ⟨z11, 0, none⟩), z1] 100, Res.held w own]) (fun _ hw => hw.lendL 5 _ rfl rfl) ?_
        refine R.loop (fun g_ : Nat × Value × (List Change) => [(4, .pointer (some ⟨b1, 0, none⟩)), (127, z12), (128, .int .i64 (z13.length : Int)), (129, .int .i64 (g_.1 : Int))]) (fun g_ : Nat × Value × (List Change) => [Res.box b_dk [z8, z9, z10, .int .i64 dk.Fuse, .bool dk.Down] 81, Res.row 9 z8 (dk.Kept : List ByteArray), Res.row 9 z9 (dk.Now : List ByteArray), Res.row 83 z10 (dk.Wait : List Turn), Res.box z11 §2 85, Res.box b1 [.pointer (some ⟨b_dk, 0, none⟩), .int .i64 hh.Epoch, .int .i64 hh.Side, .int .i64 hh.Size, .int .i64 hh.First, .pointer (some ⟨z11, 0, none⟩), g_.2.1] 100, Res.held w own]) (fun g_ : Nat × Value × (List Change) => [Res.ls g_.2.1 (g_.2.2 : List Change), Res.ls z1 ((parseB (tx.extract 0 hh.Size.toNat)).1 : List Change), Res.bats (z13 : List Bat), Res.ls z12 (z13 : List Bat)]) (fun g_ : Nat × Value × (List Change) => g_.1 ≤ z13.length ∧ g_.2.2 = applyD (parseB (halfD dk)).1 ((z13.map Bat.L).take g_.1)) (fun g_ : Nat × Value × (List Change) => z13.length - g_.1) (0, z1, (parseB (tx.extract 0 hh.Size.toNat)).1) rfl (by exact ⟨by omega, by rw [hth]; rfl⟩) ⟨rfl, rfl, rfl, rfl, trivial⟩ (fun _ => Wd.pick [0, 1, 2, 3, 4, 5, 6] [0, 0, 1, 2] rfl rfl rfl) ?_
        rintro ⟨k, vr, rr⟩ ⟨hk, HR⟩
        dsimp only at *
        have hWl := bats_le hE1; have hWs : ∀ c ∈ z13.map Bat.L, c.length ≤ 98 := fun c hc => by rw [hE1] at hc; have := opnD_short c hc; omega
        have hrl : rr.length ≤ 12004 := by have h1 := applyD_len (M := 98) ((z13.map Bat.L).take k) (parseB (halfD dk)).1 (fun c hc => hWs c (List.mem_of_mem_take hc)); have h2 := parseB_len (halfD dk); have h3 : (halfD dk).size ≤ 2400 := (by rw [← hth, ByteArray.size_extract]; omega); rw [List.length_take, List.length_map] at h1; rw [HR]; omega
        refine R.reg rfl <| ?_
        by_cases h5 : k < z13.length
        · refine R.q (q.lss rfl rfl (decide_eq_true (by omega))) rfl <| R.nil ?_
          refine R.condT rfl rfl ?_
          refine R.reg rfl <| ?_
          obtain ⟨x1, hx1⟩ : ∃ z, z13[k]? = some z := ⟨_, List.getElem?_eq_getElem (by omega)⟩
          refine R.q (q.idx (i := k) (fun _ => Wd.fls 3 rfl) rfl rfl tSl_33 rfl hx1) rfl <| R.q (q.ldE (fun _ => Wd.fls 3 rfl) hx1 rfl tOne_46 rfl) rfl <| R.u 1 rfl <| R.nil ?_
          have hxl := hWs x1.L (List.mem_map_of_mem (List.mem_of_getElem? hx1))
          refine R.reg rfl <| R.u 2 rfl <| R.q (q.nilc rfl) rfl <| R.q (q.fld (off' := 6) rfl tFld_100_3 rfl) rfl <| R.q (q.ld 5 rfl rfl tOne_46 rfl) rfl <| R.u 1 rfl <| ?_
          refine R.s (B' := (fun bz0_ : Value => [Res.row 51 bz0_ ((applyR rr x1.L) : List Change), Res.box b_dk [z8, z9, z10, .int .i64 dk.Fuse, .bool dk.Down] 81, Res.row 9 z8 (dk.Kept : List ByteArray), Res.row 9 z9 (dk.Now : List ByteArray), Res.row 83 z10 (dk.Wait : List Turn), Res.box z11 §2 85, Res.box b1 [.pointer (some ⟨b_dk, 0, none⟩), .int .i64 hh.Epoch, .int .i64 hh.Side, .int .i64 hh.Size, .int .i64 hh.First, .pointer (some ⟨z11, 0, none⟩), vr] 100, Res.held w own])) (F' := (fun bz0_ : Value => [Res.ls x1.cv (x1.L : List Change), Res.ls vr (rr : List Change), Res.ls z1 ((parseB (tx.extract 0 hh.Size.toNat)).1 : List Change), Res.bats (z13 : List Bat), Res.ls z12 (z13 : List Bat)])) rfl (s.pre (B2 := §6) (F2 := [Res.ls x1.cv (x1.L : List Change), Res.ls vr (rr : List Change), Res.ls z1 ((parseB (tx.extract 0 hh.Size.toNat)).1 : List Change), Res.bats (z13 : List Bat), Res.ls z12 (z13 : List Bat)]) (fun _ hw => hw.bat_ls (x := x1) 2 rfl (List.mem_of_getElem? hx1)) (s.callV (B0 := []) (Br := §6) (F0 := [Res.ls vr (rr : List Change), Res.ls x1.cv (x1.L : List Change)]) [0, 1, 2, 3, 4, 5, 6] [1, 0] (fun bz0_ : Value => bz0_) (fun bz0_ : Value => [Res.row 51 bz0_ ((applyR rr x1.L) : List Change)]) (fun bz0_ : Value => []) rfl rfl rfl eg_56 rfl rfl (fun w own hw H => rowApply_any vr (rr) x1.cv (x1.L) w own H (by first | omega | assumption | (simp; done) | (simp; omega))) rfl)) fun z14 => ?_
          refine R.q (q.nilc rfl) rfl <| R.q (q.fld (off' := 6) rfl tFld_100_3 rfl) rfl <| ?_
          refine R.s rfl (s.stV (us := [z14]) (cs' := [.pointer (some ⟨b_dk, 0, none⟩), .int .i64 hh.Epoch, .int .i64 hh.Side, .int .i64 hh.Size, .int .i64 hh.First, .pointer (some ⟨z11, 0, none⟩), z14]) 6 _ rfl rfl rfl (fun w hw => Sl.cells1 ((fun _ => Wd.row 0 rfl) w hw)) (.inr ⟨tOne_46, rfl⟩) (fun w hw => (one_cons (Sl.one ((fun _ => Wd.row 0 rfl) w hw)) one_nil)) rfl rfl rfl) fun _ => ?_
          refine R.nil ?_
          refine R.reg rfl <| R.q (q.add (r := ((k + 1 : Nat) : Int)) rfl rfl (wr (by omega))) rfl <| R.u 1 rfl <| R.nil ?_
          refine R.mp (B' := [Res.box b_dk [z8, z9, z10, .int .i64 dk.Fuse, .bool dk.Down] 81, Res.row 9 z8 (dk.Kept : List ByteArray), Res.row 9 z9 (dk.Now : List ByteArray), Res.row 83 z10 (dk.Wait : List Turn), Res.box z11 §2 85, Res.box b1 [.pointer (some ⟨b_dk, 0, none⟩), .int .i64 hh.Epoch, .int .i64 hh.Side, .int .i64 hh.Size, .int .i64 hh.First, .pointer (some ⟨z11, 0, none⟩), z14] 100, Res.held w own]) (fun _ hw => hw.lendL 0 _ rfl rfl) ?_
          refine R.back (k + 1, z14, applyR rr x1.L) rfl (by (exact ⟨by omega, by rw [applyD_snoc (c := x1.L) (by rw [List.getElem?_map, hx1]; rfl), ← HR]⟩)) (by dsimp only; omega) ⟨rfl, rfl, rfl, rfl, trivial⟩ (fun _ => Wd.pik [0, 1, 2, 3, 4, 5, 6] [0, 3, 4, 5] rfl rfl rfl)
        · refine R.q (q.lss rfl rfl (decide_eq_false (by omega))) rfl <| R.nil ?_
          refine R.condF rfl rfl ?_
          refine R.reg rfl <| R.u 3 rfl <| R.nil ?_
          have hz : (dk, (openS dk).c, (openS dk).L) = (dk, (⟨hh.Epoch, hh.Side, hh.Size, hh.First, rr⟩ : StoC), §0) := by (rw [HR, List.take_of_length_le (by rw [List.length_map]; omega), hE1, hhe, show ((dk.Now.length - 102 : Nat) : Int) = (dk.Now.length : Int) - 102 by omega]; rfl)
          have hz0 : (openS dk).c = (⟨hh.Epoch, hh.Side, hh.Size, hh.First, rr⟩ : StoC) := congrArg (fun t_ => t_.2.1) hz
          rw [hz0]
          have hz1 : (openS dk).L = §0 := congrArg (fun t_ => t_.2.2) hz
          rw [hz1]
          exact R.w2 (z8, z9, z10, b1, vr, z11) [0, 1, 2, 3, 5, 4, 6] [0] rfl Try.results22 (RV.tmp rfl) (RV.tmp rfl) rfl rfl rfl (tup2 rfl rfl)

end Go.Proofs.Ytpipachmngdegaa
end
