import Derived.Test.YtpipachmngdegaaStoreSaysProofG34
import Derived.Test.YtpipachmngdegaaStoreSaysProofG37
import Derived.Test.YtpipachmngdegaaStoreSaysProofG30
section
/-
  The walk of chapter 10, on: all is laid as a whole. The program's.
-/
namespace Go.Proofs.Ytpipachmngdegaa
open Go Go.RowKit
set_option linter.unusedVariables false
set_option linter.unusedSimpArgs false
set_option maxRecDepth 100000
set_option hygiene false
local macro:max "§0" : term => `((⟨(st.Epoch + 1), (1 - st.Side), ((allB st.Rows).size : Int), (lg.First + lg.Many)⟩ : Hed))
local macro:max "§1" : term => `((⟨(((((allB st.Rows).data.toList).drop (48 * k)).take (((((48 * k : Nat) : Int) + (min 48 ((((allB st.Rows).data.toList).drop (48 * k)).length : Int))).toNat) - (48 * k)))).toArray⟩ : ByteArray))
local macro:max "§2" : term => `([.pointer (some ⟨b_dk, 0, none⟩), .int .i64 st.Epoch, .int .i64 st.Side, .int .i64 st.Size, .int .i64 st.First, .pointer (some ⟨b_lg, 0, none⟩), q_stRows])
local macro:max "§3" : term => `([.int .i64 (st.Epoch + 1), .int .i64 (1 - st.Side), .int .i64 ((allB st.Rows).size : Int), .int .i64 (lg.First + lg.Many)])
local macro:max "§4" : term => `([.pointer (some ⟨b_dk, 0, none⟩), .int .i64 lg.From, .int .i64 lg.Many, .int .i64 lg.First, .int .i64 lg.Next])
local macro:max "§5" : term => `((⟨102, (((((dFlush ((dWrite ((dFlush dm).1) ((st.Epoch + 1) % 2) (headT §0)).1)).1).Now.length - 102) : Nat) : Int), (lg.First + lg.Many), (opnU ((dFlush ((dWrite ((dFlush dm).1) ((st.Epoch + 1) % 2) (headT §0)).1)).1) 102 (Int.toNat (((((dFlush ((dWrite ((dFlush dm).1) ((st.Epoch + 1) % 2) (headT §0)).1)).1).Now.length - 102) : Nat) : Int)) (lg.First + lg.Many) : Int)⟩ : Lg))
local macro:max "§6" : term => `([Res.objAt (D_ + 1) (.loop (lpS RC_ false)), Res.objAt (D_) (.deferred (some [])), Res.box z2 [z1] 109, Res.box z3 [.int .i64 48] 3, Res.box b5 [.int .i64 0] 3, Res.box b3 §3 98, Res.box b2 [.nilIface] 28, Res.box b1 [.pointer (some ⟨b_st, 0, none⟩)] 54, Res.box b_st §2 100, Res.box b_dk [q_dkKept, q_dkNow, q_dkWait, .int .i64 dk.Fuse, .bool dk.Down] 81, Res.row 9 q_dkKept (dk.Kept : List ByteArray), Res.row 9 q_dkNow (dk.Now : List ByteArray), Res.row 83 q_dkWait (dk.Wait : List Turn), Res.box b_lg §4 85, Res.held w own])
local macro:max "§7" : term => `((by intro _ _ h; first | exact h | (obtain ⟨_, h, _⟩ := h; cases h)))
local macro:max "§8" : term => `([Res.box b_st §2 100, Res.box b_dk [q_dkKept, q_dkNow, q_dkWait, .int .i64 dk.Fuse, .bool dk.Down] 81, Res.row 9 q_dkKept (dk.Kept : List ByteArray), Res.row 9 q_dkNow (dk.Now : List ByteArray), Res.row 83 q_dkWait (dk.Wait : List Turn), Res.box b_lg §4 85])
local macro:max "§9" : term => `([Res.ls z1 ((allB st.Rows).data.toList : List UInt8), Res.ls q_stRows (st.Rows : List Change)])
local macro:max "§10" : term => `((fun _ => Wd.pik [4, 5, 6, 7, 8, 9, 10] [0, 1] rfl rfl rfl))
local macro:max "§11" : term => `((fun _ => Wd.pik [0, 1, 2, 3, 4, 5, 6, 7, 8] [0] rfl rfl rfl))
local macro:max "§12" : term => `([Res.objAt (D_) (.deferred (some [])), Res.box b3 §3 98, Res.box b2 [errv er] 28, Res.box b1 [.pointer (some ⟨b_st, 0, none⟩)] 54, Res.box b_st §2 100, Res.box b_lg §4 85, Res.held w own])
local macro:max "§13" : term => `((by kernel_rfl))
local macro:max "§14" : term => `((⟨st.Epoch + 1, 1 - st.Side, ((allB st.Rows).size : Int), lg.First + lg.Many⟩ : Hed))
local macro:max "§15" : term => `((fun _ => Wd.pik [0, 1, 2, 3, 4, 5, 6, 7, 8, 13, 14] [0, 1] rfl rfl rfl))
local macro:max "§16" : term => `((fun _ => Wd.pik [0, 1, 2, 3, 4, 5, 6, 7, 8, 10, 11] [0, 1, 2, 3] rfl rfl rfl))
local macro:max "§17" : term => `((fun _ => Wd.pik [0, 1, 2, 3, 4, 5, 6, 7, 8, 9, 10, 11, 12, 13, 14] [0, 1] rfl rfl rfl))
local macro:max "§18" : term => `([.pointer (some ⟨b_st, 0, none⟩)])
local macro:max "§19" : term => `((fun (D_ : Nat) => (fun g_ : Bool × Value × Value × Value × Dsk × Int => [Res.objAt (D_) (.deferred (some [])), Res.box b3 §3 98, Res.box b2 [errv g_.2.2.2.2.2] 28, Res.box b1 §18 54, Res.box b_st §2 100, Res.box b_dk [g_.2.1, g_.2.2.1, g_.2.2.2.1, .int .i64 g_.2.2.2.2.1.Fuse, .bool g_.2.2.2.2.1.Down] 81, Res.row 9 g_.2.1 (g_.2.2.2.2.1.Kept : List ByteArray), Res.row 9 g_.2.2.1 (g_.2.2.2.2.1.Now : List ByteArray), Res.row 83 g_.2.2.2.1 (g_.2.2.2.2.1.Wait : List Turn), Res.box b_lg §4 85, Res.held w own])))
local macro:max "§20" : term => `((by assumption))
local macro:max "§21" : term => `((fun _ => Wd.pik [5, 6, 7, 8, 9, 10, 11] [2, 3] rfl rfl rfl))
local macro:max "§22" : term => `([Res.objAt (D_ + 1) (.loop { lpS RC_ false with state := .busy }), Res.objAt (D_) (.deferred (some [])), Res.box z2 [z1] 109, Res.box z3 [.int .i64 48] 3, Res.box b5 [.int .i64 (k : Int)] 3, Res.box b3 §3 98, Res.box b2 [.nilIface] 28, Res.box b1 §18 54, Res.box b_st §2 100, Res.box b_lg §4 85, Res.held w own])
local macro:max "§23" : term => `((fun _ => Wd.pik [1, 2, 3, 4, 5, 6, 7, 8, 9] [0] rfl rfl rfl))

theorem chunk_any (v_l : Value) (l : List UInt8) (n : Nat) (w : World) (own : List Nat) (H : Wd w (blks [] ++ own) ([] ++ [Res.held w own]) [Res.ls v_l (l : List UInt8)] w) (hn : 1 ≤ n) : Calls Try.prog 59 #[v_l, .int .i64 (n : Int)] w fun e w' => ∃ z : Nat × Nat, e = .returned (.func (.func 72) #[] #[.pointer (some ⟨z.1, 0, none⟩), .pointer (some ⟨z.2, 0, none⟩)]) ∧ Wd w (blks [] ++ own) ([Res.box z.1 [v_l] 109, Res.box z.2 [.int .i64 (n : Int)] 3] ++ [Res.held w own]) [] w' := by
  have m_l := H.lenF 0 rfl
  refine R.enterN (n := 9) (vs := [v_l, .int .i64 (n : Int)]) (B := [Res.held w own]) [(0, v_l), (1, .int .i64 (n : Int))] Try.func59 rfl rfl rfl rfl H ?_
  refine R.reg rfl <| ?_
  refine R.s rfl (s.boxV (cs := [v_l]) rfl (fun w hw => Sl.cells1 ((fun _ => Wd.fls 0 rfl) w hw)) rfl) fun b1 => ?_
  refine R.s rfl (s.box (cs := [.int .i64 (n : Int)]) rfl rfl rfl) fun b2 => ?_
  refine R.u 1 rfl <| R.nil ?_
  refine R.reg rfl <| R.q (q.ld 0 rfl rfl tOne_3 rfl) rfl <| R.q (q.lss rfl rfl (decide_eq_false (by omega))) rfl <| R.nil ?_
  refine R.condF rfl rfl ?_
  refine R.reg rfl <| R.q (q.mkf (cap := [.pointer (some ⟨b1, 0, none⟩), .pointer (some ⟨b2, 0, none⟩)]) rfl rfl) rfl <| R.u 1 rfl <| R.nil ?_
  exact R.w1 (b1, b2) [1, 0, 2] [] rfl Try.results59 (RV.tmp rfl) rfl rfl rfl rfl

def mkS (st : StoC) (lg : Lg) : Sto := ⟨st.Epoch, st.Side, st.Size, st.First, lg, st.Rows⟩
theorem bytes_piece (t : ByteArray) (a m : Nat) (h : a + m ≤ t.size) : (⟨((t.data.toList.drop a).take m).toArray⟩ : ByteArray) = t.extract a (a + m) := by
  apply ByteArray.ext
  rw [ByteArray.data_extract]
  apply Array.ext'
  rw [Array.toList_extract]
  simp
theorem chunk_eq {t : ByteArray} {k : Nat} {E : Int} (hk : k * 48 < t.size) (hE : E = ((48 * k : Nat) : Int) + min 48 (((t.data.toList.drop (48 * k)).length : Nat) : Int)) :
    (⟨((t.data.toList.drop (48 * k)).take (E.toNat - 48 * k)).toArray⟩ : ByteArray) = t.extract (k * 48) (k * 48 + min 48 (t.size - k * 48)) := by
  rw [Nat.mul_comm 48 k] at hE ⊢
  have hl : (t.data.toList.drop (k * 48)).length = t.size - k * 48 := by rw [List.length_drop, Array.length_toList]; rfl
  have e : E.toNat - k * 48 = min 48 (t.size - k * 48) := by rw [hE, hl]; omega
  rw [e]
  exact bytes_piece t _ _ (by omega)
section
variable {f : Int} {t : ByteArray} {n k : Nat} {d m : Dsk} {Z : Dsk × Int} {e : Int}
theorem ck_next (h : chunkL f t n k d = Z) (hn : 0 < n) (hk : k * 48 < t.size) (he : (dWrite d (f + (k : Int)) (t.extract (k * 48) (k * 48 + min 48 (t.size - k * 48)))).2 = 0) :
    chunkL f t (n - 1) (k + 1) (dWrite d (f + (k : Int)) (t.extract (k * 48) (k * 48 + min 48 (t.size - k * 48)))).1 = Z := by
  cases n with
  | zero => omega
  | succ n => rw [chunkL, if_pos hk, if_pos he] at h; exact h
theorem ck_bad (h : chunkL f t n k d = Z) (hn : 0 < n) (hk : k * 48 < t.size) (he : ¬ (dWrite d (f + (k : Int)) (t.extract (k * 48) (k * 48 + min 48 (t.size - k * 48)))).2 = 0) :
    Z = dWrite d (f + (k : Int)) (t.extract (k * 48) (k * 48 + min 48 (t.size - k * 48))) := by
  cases n with
  | zero => omega
  | succ n => rw [chunkL, if_pos hk, if_neg he] at h; exact h.symm
theorem ck_end (h : chunkL f t n k d = Z) (hk : ¬ k * 48 < t.size) : Z = (d, 0) := by
  cases n with
  | zero => rw [chunkL] at h; exact h.symm
  | succ n => rw [chunkL, if_neg hk] at h; exact h.symm
end

set_option maxRecDepth 100000 in
set_option maxHeartbeats 3200000 in
theorem ckpt_any (b_st : Nat) (q_stRows : Value) (st : StoC) (b_dk : Nat) (q_dkKept q_dkNow q_dkWait : Value) (dk : Dsk) (b_lg : Nat) (lg : Lg) (w : World) (own : List Nat) (H : Wd w (blks §8 ++ own) (§8 ++ [Res.held w own]) [Res.ls q_stRows (st.Rows : List Change)] w) (hD : DOk dk.Now.length 70000 dk ∧ dk.Now.length ≤ 200 ∧ 166 ≤ dk.Now.length) (hS : 0 ≤ st.Epoch ∧ st.Epoch ≤ 1000000000 ∧ 0 ≤ st.Side ∧ st.Side ≤ 1 ∧ 0 ≤ lg.Many ∧ lg.Many ≤ 1000000000 ∧ 1 ≤ lg.First ∧ lg.First ≤ 1000000000) (hl : st.Rows.length ≤ 60) (hF : ∀ c ∈ st.Rows, chF c = 0) : Calls Try.prog 26 #[.pointer (some ⟨b_st, 0, none⟩)] w fun e w' => ∃ z : Value × Value × Value × Value × Nat, e = .returned (errv (((ckS (mkS st lg) dk).2.2))) ∧ Wd w (blks §8 ++ own) ([Res.box b_st [.pointer (some ⟨b_dk, 0, none⟩), .int .i64 ((((ckS (mkS st lg) dk).1.c)).Epoch), .int .i64 ((((ckS (mkS st lg) dk).1.c)).Side), .int .i64 ((((ckS (mkS st lg) dk).1.c)).Size), .int .i64 ((((ckS (mkS st lg) dk).1.c)).First), .pointer (some ⟨z.2.2.2.2, 0, none⟩), z.1] 100, Res.box b_dk [z.2.1, z.2.2.1, z.2.2.2.1, .int .i64 ((((ckS (mkS st lg) dk).2.1)).Fuse), .bool ((((ckS (mkS st lg) dk).2.1)).Down)] 81, Res.row 9 z.2.1 ((((ckS (mkS st lg) dk).2.1)).Kept : List ByteArray), Res.row 9 z.2.2.1 ((((ckS (mkS st lg) dk).2.1)).Now : List ByteArray), Res.row 83 z.2.2.2.1 ((((ckS (mkS st lg) dk).2.1)).Wait : List Turn), Res.box z.2.2.2.2 [.pointer (some ⟨b_dk, 0, none⟩), .int .i64 ((((ckS (mkS st lg) dk).1.L)).From), .int .i64 ((((ckS (mkS st lg) dk).1.L)).Many), .int .i64 ((((ckS (mkS st lg) dk).1.L)).First), .int .i64 ((((ckS (mkS st lg) dk).1.L)).Next)] 85] ++ [Res.held w own]) [Res.ls z.1 ((((ckS (mkS st lg) dk).1.c)).Rows : List Change)] w' := by
  have c_dk_Kept := H.cap 2 rfl; have m_dk_Kept := H.lenB 2 rfl
  have c_dk_Now := H.cap 3 rfl; have m_dk_Now := H.lenB 3 rfl
  have c_dk_Wait := H.cap 4 rfl; have m_dk_Wait := H.lenB 4 rfl
  have m_st_Rows := H.lenF 0 rfl
  have hal := allB_le hF
  refine R.enterM (n := 113) (vs := §18) (B := [Res.box b_st §2 100, Res.box b_dk [q_dkKept, q_dkNow, q_dkWait, .int .i64 dk.Fuse, .bool dk.Down] 81, Res.row 9 q_dkKept (dk.Kept : List ByteArray), Res.row 9 q_dkNow (dk.Now : List ByteArray), Res.row 83 q_dkWait (dk.Wait : List Turn), Res.box b_lg §4 85, Res.held w own]) [(0, .pointer (some ⟨b_st, 0, none⟩))] Try.func26 rfl rfl rfl rfl H ?_
  refine R.reg rfl <| ?_
  refine R.s rfl (s.box (cs := §18) rfl rfl rfl) fun b1 => ?_
  refine R.s rfl (s.alloc (cs := [.nilIface]) tZero_28 rfl rfl) fun b2 => ?_
  refine R.nil ?_
  refine R.reg rfl <| R.q (q.ld 1 rfl rfl tOne_54 rfl) rfl <| R.q (q.nilc rfl) rfl <| R.q (q.fld (off' := 6) rfl tFld_100_3 rfl) rfl <| R.q (q.ld 2 rfl rfl tOne_46 rfl) rfl <| R.c (q.call eg_58 rfl rfl (fun w hw => (all_any _ (st.Rows) w ((fun _ => Wd.fls 0 rfl) w hw) (by first | omega | assumption) §20))) rfl <| R.u 1 rfl <| R.nil ?_
  refine R.cut 1 (fun b3 : Nat => [(1, .pointer (some ⟨b1, 0, none⟩)), (2, .pointer (some ⟨b2, 0, none⟩)), (3, .string (allB st.Rows)), (4, .pointer (some ⟨b3, 0, none⟩))]) (fun b3 : Nat => [Res.box b3 §3 98, Res.box b2 [.nilIface] 28, Res.box b1 §18 54, Res.box b_st §2 100, Res.box b_dk [q_dkKept, q_dkNow, q_dkWait, .int .i64 dk.Fuse, .bool dk.Down] 81, Res.row 9 q_dkKept (dk.Kept : List ByteArray), Res.row 9 q_dkNow (dk.Now : List ByteArray), Res.row 83 q_dkWait (dk.Wait : List Turn), Res.box b_lg §4 85, Res.held w own]) (fun b3 : Nat => [Res.ls q_stRows (st.Rows : List Change)]) (fun b3 : Nat => True) rfl rfl rfl ?_ ?_
  · refine R.regD (fuel := 22) (Wd w (blks §8 ++ own) [Res.box b2 [.nilIface] 28, Res.box b1 §18 54, Res.box b_st §2 100, Res.box b_dk [q_dkKept, q_dkNow, q_dkWait, .int .i64 dk.Fuse, .bool dk.Down] 81, Res.row 9 q_dkKept (dk.Kept : List ByteArray), Res.row 9 q_dkNow (dk.Now : List ByteArray), Res.row 83 q_dkWait (dk.Wait : List Turn), Res.box b_lg §4 85, Res.held w own] [Res.ls q_stRows (st.Rows : List Change)]) rfl mixed rfl ?_
    refine D.q (i := 0) rfl §13 §11 rfl (q.ld 1 rfl rfl tOne_54 rfl) rfl <| D.q (i := 1) rfl §13 §11 rfl (q.nilc rfl) rfl <| D.q (i := 2) rfl §13 §11 rfl (q.fld (off' := 1) rfl tFld_100_1 rfl) rfl <| D.q (i := 3) rfl §13 §11 rfl (q.fld (off' := 1) rfl tFld_98_0 rfl) rfl <| D.q (i := 4) rfl §13 §11 rfl (q.ld 2 rfl rfl tOne_3 rfl) rfl <| D.q (i := 5) rfl §13 §11 rfl (q.add (r := st.Epoch + 1) rfl rfl (wr (by omega))) rfl <| D.q (i := 6) rfl §13 §11 rfl (q.ld 1 rfl rfl tOne_54 rfl) rfl <| D.q (i := 7) rfl §13 §11 rfl (q.nilc rfl) rfl <| D.q (i := 8) rfl §13 §11 rfl (q.fld (off' := 1) rfl tFld_100_1 rfl) rfl <| D.q (i := 9) rfl §13 §11 rfl (q.fld (off' := 2) rfl tFld_98_1 rfl) rfl <| D.q (i := 10) rfl §13 §11 rfl (q.ld 2 rfl rfl tOne_3 rfl) rfl <| D.q (i := 11) rfl §13 §11 rfl (q.sub (r := 1 - st.Side) rfl rfl (wr (by omega))) rfl <| D.q (i := 12) rfl §13 §11 rfl (q.mv rfl) rfl <| D.q (i := 13) rfl §13 §11 rfl (q.lenS rfl Try.underlying9) rfl <| D.q (i := 14) rfl §13 §11 rfl (q.ld 1 rfl rfl tOne_54 rfl) rfl <| D.q (i := 15) rfl §13 §11 rfl (q.nilc rfl) rfl <| D.q (i := 16) rfl §13 §11 rfl (q.fld (off' := 5) rfl tFld_100_2 rfl) rfl <| D.q (i := 17) rfl §13 §11 rfl (q.ld 2 rfl rfl tOne_32 rfl) rfl <| ?_
    refine D.two (i := 18) (j := 20) §13 rfl rfl ?_ ?_
    · refine Do.s (s.c (q.call eg_18 rfl rfl (fun w hw => (next_any b_lg  b_dk (lg) w (hw.b 7 rfl) (by first | assumption | omega | (dsimp only; omega))))) rfl) (fun _ => §11) rfl fun _ => ?_
      refine D.q (i := 19) rfl §13 §11 rfl (q.build (cs := §3) tB_98 rfl rfl) rfl <| ?_
      refine D.one (i := 20) §13 rfl ?_
      refine Do.s (s.alloc (cs := [.int .i64 0, .int .i64 0, .int .i64 0, .int .i64 0]) tZero_98 rfl rfl) (fun _ => §23) rfl fun b3 => ?_
      refine D.one (i := 21) §13 rfl ?_
      refine Do.s (s.st (us := §3) (cs' := §3) 0 _ rfl rfl rfl rfl (.inl tAgg_98) rfl rfl rfl rfl) (fun _ => §23) rfl fun _ => ?_
      refine D.done §13 <| ?_
      exact R.meet b3 rfl (by (trivial)) ⟨rfl, rfl, rfl, rfl, trivial⟩ (fun _ => Wd.pick [0, 1, 2, 3, 4, 5, 6, 7, 8, 9] [0] rfl rfl rfl)
    · refine Do.s (s.alloc (cs := [.int .i64 0, .int .i64 0, .int .i64 0, .int .i64 0]) tZero_98 rfl rfl) (fun _ => §23) rfl fun b4 => ?_
      refine D.one (i := 18) §13 rfl ?_
      refine Do.s (s.c (q.call eg_18 rfl rfl (fun w hw => (next_any b_lg  b_dk (lg) w (hw.b 8 rfl) (by first | assumption | omega | (dsimp only; omega))))) rfl) (fun _ => §23) rfl fun _ => ?_
      refine D.q (i := 19) rfl §13 §23 rfl (q.build (cs := §3) tB_98 rfl rfl) rfl <| ?_
      refine D.one (i := 21) §13 rfl ?_
      refine Do.s (s.st (us := §3) (cs' := §3) 0 _ rfl rfl rfl rfl (.inl tAgg_98) rfl rfl rfl rfl) (fun _ => §23) rfl fun _ => ?_
      refine D.done §13 <| ?_
      exact R.meet b4 rfl (by (trivial)) ⟨rfl, rfl, rfl, rfl, trivial⟩ (fun _ => Wd.pick [0, 1, 2, 3, 4, 5, 6, 7, 8, 9] [0] rfl rfl rfl)
  · rintro b3 _
    refine R.reg rfl <| ?_
    refine R.s rfl (s.alloc (cs := [.int .i64 0]) tZero_3 rfl rfl) fun b5 => ?_
    refine R.s rfl (s.st (us := [.int .i64 0]) (cs' := [.int .i64 0]) 0 _ rfl rfl rfl rfl (.inr ⟨tOne_3, rfl⟩) rfl rfl rfl rfl) fun _ => ?_
    refine R.nil ?_
    refine R.reg rfl <| R.u 1 rfl <| ?_
    refine R.s rfl (s.s2b rfl Try.underlying9 Try.underlying109 Try.underlying5 (by omega) rfl) fun z1 => ?_
    refine R.s (B' := (fun g_ : Nat × Nat => [Res.box g_.1 [z1] 109, Res.box g_.2 [.int .i64 (48 : Int)] 3, Res.box b5 [.int .i64 0] 3, Res.box b3 §3 98, Res.box b2 [.nilIface] 28, Res.box b1 §18 54, Res.box b_st §2 100, Res.box b_dk [q_dkKept, q_dkNow, q_dkWait, .int .i64 dk.Fuse, .bool dk.Down] 81, Res.row 9 q_dkKept (dk.Kept : List ByteArray), Res.row 9 q_dkNow (dk.Now : List ByteArray), Res.row 83 q_dkWait (dk.Wait : List Turn), Res.box b_lg §4 85, Res.held w own])) (F' := (fun g_ : Nat × Nat => §9)) rfl (s.callV (B0 := []) (Br := [Res.box b5 [.int .i64 0] 3, Res.box b3 §3 98, Res.box b2 [.nilIface] 28, Res.box b1 §18 54, Res.box b_st §2 100, Res.box b_dk [q_dkKept, q_dkNow, q_dkWait, .int .i64 dk.Fuse, .bool dk.Down] 81, Res.row 9 q_dkKept (dk.Kept : List ByteArray), Res.row 9 q_dkNow (dk.Now : List ByteArray), Res.row 83 q_dkWait (dk.Wait : List Turn), Res.box b_lg §4 85, Res.held w own]) (F0 := [Res.ls z1 ((allB st.Rows).data.toList : List UInt8)]) [0, 1, 2, 3, 4, 5, 6, 7, 8, 9, 10] [0] (fun g_ : Nat × Nat => .func (.func 72) #[] #[.pointer (some ⟨g_.1, 0, none⟩), .pointer (some ⟨g_.2, 0, none⟩)]) (fun g_ : Nat × Nat => [Res.box g_.1 [z1] 109, Res.box g_.2 [.int .i64 (48 : Int)] 3]) (fun g_ : Nat × Nat => []) rfl rfl rfl eg_59 rfl rfl (fun w own hw H => chunk_any z1 ((allB st.Rows).data.toList) (48) w own H (by omega)) rfl) ?_
    rintro ⟨z2, z3⟩
    dsimp only
    refine R.nil ?_
    refine R.range rfl rfl eg_72 (fun g_ : Bool × Value × Value × Value × Dsk × Int => g_.1) (fun g_ : Bool × Value × Value × Value × Dsk × Int => g_.1 = decide (¬ g_.2.2.2.2.2 = 0) ∧ ck1 (mkS st lg) dk = (g_.2.2.2.2.1, g_.2.2.2.2.2) ∧ DOk dk.Now.length 70050 g_.2.2.2.2.1) §19 (fun (D_ : Nat) => (fun g_ : Bool × Value × Value × Value × Dsk × Int => §9)) ?_ ?_ ?_
    · intro RC_ a_ D_ w1 hD_ ha_ hT_ hps_ hAs_ hBd_ hw_
      refine CallsIn.mono (I.enterN (n := 31) (vs := [.func (.yield (D_ + 1)) #[] #[], .pointer (some ⟨z2, 0, none⟩), .pointer (some ⟨z3, 0, none⟩)]) (X := (blks §6)) (B := §6) (F := §9) (R := fun en_ w3 => ∃ z_ : Bool × Value × Value × Value × Dsk × Int, en_ = .returned (.tuple #[]) ∧ (fun g_ : Bool × Value × Value × Value × Dsk × Int => g_.1 = decide (¬ g_.2.2.2.2.2 = 0) ∧ ck1 (mkS st lg) dk = (g_.2.2.2.2.1, g_.2.2.2.2.2) ∧ DOk dk.Now.length 70050 g_.2.2.2.2.1) z_ ∧ Wd w1 (blks §6) (Res.objAt (D_ + 1) (.loop (lpS RC_ ((fun g_ : Bool × Value × Value × Value × Dsk × Int => g_.1) z_))) :: §19 D_ z_) ((fun (D_ : Nat) => (fun g_ : Bool × Value × Value × Value × Dsk × Int => §9)) D_ z_) w3) [(0, .func (.yield (D_ + 1)) #[] #[]), (1, .pointer (some ⟨z2, 0, none⟩)), (2, .pointer (some ⟨z3, 0, none⟩))] Try.func72 rfl rfl rfl rfl (Wd.sub hw_) ?_) (fun e_ w3 he_ => ?_)
      · refine I.reg rfl rfl §7 <| R.u 1 rfl <| R.nil <| I.nil ?_
        refine I.loop (fun g_ : Nat × Dsk × Value × Value × Value => [(0, .func (.yield (D_ + 1)) #[] #[]), (1, .pointer (some ⟨z2, 0, none⟩)), (2, .pointer (some ⟨z3, 0, none⟩)), (4, .int .i64 ((48 * g_.1 : Nat) : Int))]) (fun g_ : Nat × Dsk × Value × Value × Value => [Res.objAt (D_ + 1) (.loop (lpS RC_ false)), Res.objAt (D_) (.deferred (some [])), Res.box z2 [z1] 109, Res.box z3 [.int .i64 48] 3, Res.box b5 [.int .i64 (g_.1 : Int)] 3, Res.box b3 §3 98, Res.box b2 [.nilIface] 28, Res.box b1 §18 54, Res.box b_st §2 100, Res.box b_dk [g_.2.2.1, g_.2.2.2.1, g_.2.2.2.2, .int .i64 g_.2.1.Fuse, .bool g_.2.1.Down] 81, Res.row 9 g_.2.2.1 (g_.2.1.Kept : List ByteArray), Res.row 9 g_.2.2.2.1 (g_.2.1.Now : List ByteArray), Res.row 83 g_.2.2.2.2 (g_.2.1.Wait : List Turn), Res.box b_lg §4 85, Res.held w own]) (fun g_ : Nat × Dsk × Value × Value × Value => §9) (fun g_ : Nat × Dsk × Value × Value × Value => g_.1 ≤ 44 ∧ chunkL (2 + (1 - st.Side) * 50) (allB st.Rows) ((allB st.Rows).size + 1 - g_.1) g_.1 g_.2.1 = ck1 (mkS st lg) dk ∧ DOk dk.Now.length (70000 + g_.1) g_.2.1) (fun g_ : Nat × Dsk × Value × Value × Value => 50 - g_.1) (0, dk, q_dkKept, q_dkNow, q_dkWait) rfl (by exact ⟨by omega, rfl, hD.1⟩) ⟨rfl, rfl, rfl, rfl, trivial⟩ (fun _ => Wd.pick [0, 1, 2, 3, 4, 5, 6, 7, 8, 9, 10, 11, 12, 13, 14] [0, 1] rfl rfl rfl) ?_
        rintro ⟨k, dm, dm_Kept, dm_Now, dm_Wait⟩ ⟨hk, HC, hO⟩
        dsimp only at *
        have hnl := hO.nl; have p1 := hO.fine (by omega) (by omega); have hll : (allB st.Rows).data.toList.length = (allB st.Rows).size := by rw [Array.length_toList]; rfl
        have hdl : ((allB st.Rows).data.toList.drop (48 * k)).length = (allB st.Rows).size - 48 * k := by rw [List.length_drop, hll]
        refine I.reg rfl rfl §7 <| R.u 1 rfl <| R.q (q.ld 2 rfl rfl tOne_109 rfl) rfl <| R.q (q.len' (fun _ => Wd.fls 0 rfl) rfl Try.underlying109) rfl <| ?_
        by_cases h1 : 48 * k < ((allB st.Rows).data.toList).length
        · refine R.q (q.lss rfl rfl (decide_eq_true (by omega))) rfl <| R.nil <| I.nil ?_
          refine I.condT rfl rfl ?_
          have hks : k * 48 < (allB st.Rows).size := by omega
          refine I.regD (fuel := 7) (Wd w1 (blks §6) [Res.objAt (D_ + 1) (.loop (lpS RC_ false)), Res.objAt (D_) (.deferred (some [])), Res.box z2 [z1] 109, Res.box z3 [.int .i64 48] 3, Res.box b5 [.int .i64 (k : Int)] 3, Res.box b3 §3 98, Res.box b2 [.nilIface] 28, Res.box b1 §18 54, Res.box b_st §2 100, Res.box b_dk [dm_Kept, dm_Now, dm_Wait, .int .i64 dm.Fuse, .bool dm.Down] 81, Res.row 9 dm_Kept (dm.Kept : List ByteArray), Res.row 9 dm_Now (dm.Now : List ByteArray), Res.row 83 dm_Wait (dm.Wait : List Turn), Res.box b_lg §4 85, Res.held w own] §9) rfl rfl §7 mixed rfl ?_
          refine D.q (i := 0) rfl §13 §17 rfl (q.ld 3 rfl rfl tOne_3 rfl) rfl <| D.q (i := 1) rfl §13 §17 rfl (q.ld 2 rfl rfl tOne_109 rfl) rfl <| D.q (i := 2) rfl §13 §17 rfl (q.mv rfl) rfl <| D.q (i := 3) rfl §13 §17 rfl (q.sfrom (i := 48 * k) (fun _ => Wd.fls 0 rfl) rfl rfl tSl_109 rfl (by first | omega | (simp; omega))) rfl <| D.q (i := 4) rfl §13 §17 rfl (q.len' (fun w hw => Sl.from ((fun _ => Wd.fls 0 rfl) w hw) (by omega)) rfl Try.underlying109) rfl <| D.q (i := 5) rfl §13 §17 rfl (q.min (r := min 48 ((((allB st.Rows).data.toList).drop (48 * k)).length : Int)) rfl rfl rfl) rfl <| D.q (i := 6) rfl §13 §17 rfl (q.as rfl) rfl <| D.done §13 <| ?_
          refine I.regL rfl ?_
          refine I.q (q.mv rfl) rfl rfl ?_
          refine I.q (q.ld 2 rfl rfl tOne_109 rfl) rfl rfl ?_
          refine I.q (q.mv rfl) rfl rfl ?_
          refine I.q (q.mv rfl) rfl rfl ?_
          refine I.q (q.mv rfl) rfl rfl ?_
          refine I.q (q.add (r := ((48 * k : Nat) : Int) + (min 48 ((((allB st.Rows).data.toList).drop (48 * k)).length : Int))) rfl rfl (wr (by omega))) rfl rfl ?_
          refine I.q (q.mv rfl) rfl rfl ?_
          refine I.q (q.mv rfl) rfl rfl ?_
          refine I.q (q.add (r := ((48 * k : Nat) : Int) + (min 48 ((((allB st.Rows).data.toList).drop (48 * k)).length : Int))) rfl rfl (wr (by omega))) rfl rfl ?_
          refine I.q (q.sl3 (i := 48 * k) (j := (((48 * k : Nat) : Int) + (min 48 ((((allB st.Rows).data.toList).drop (48 * k)).length : Int))).toNat) (q' := (((48 * k : Nat) : Int) + (min 48 ((((allB st.Rows).data.toList).drop (48 * k)).length : Int))).toNat) (fun _ => Wd.fls 0 rfl) rfl rfl rfl rfl tSl_109 rfl (by omega) (by omega) (by omega) (by omega) (by omega)) rfl rfl ?_
          refine I.y (i := 0) (rc := lpS RC_ false) (xv := (sl3 z1 (48 * k) ((((48 * k : Nat) : Int) + (min 48 ((((allB st.Rows).data.toList).drop (48 * k)).length : Int))).toNat) ((((48 * k : Nat) : Int) + (min 48 ((((allB st.Rows).data.toList).drop (48 * k)).length : Int))).toNat) 1)) rfl (by show RC_.params.size = 1; rw [hps_]; rfl) rfl rfl (fun g_ : Bool × Value × Value × Value => !g_.1) (fun g_ : Bool × Value × Value × Value => g_.1 = decide (¬ ((dWrite dm ((2 + ((1 - st.Side) * 50)) + (k : Int)) §1).2) = 0)) (fun g_ : Bool × Value × Value × Value => (bif g_.1 then [Res.box b_dk [g_.2.1, g_.2.2.1, g_.2.2.2, .int .i64 (((dWrite dm ((2 + ((1 - st.Side) * 50)) + (k : Int)) §1).1).Fuse), .bool (((dWrite dm ((2 + ((1 - st.Side) * 50)) + (k : Int)) §1).1).Down)] 81, Res.row 9 g_.2.1 (((dWrite dm ((2 + ((1 - st.Side) * 50)) + (k : Int)) §1).1).Kept : List ByteArray), Res.row 9 g_.2.2.1 (((dWrite dm ((2 + ((1 - st.Side) * 50)) + (k : Int)) §1).1).Now : List ByteArray), Res.row 83 g_.2.2.2 (((dWrite dm ((2 + ((1 - st.Side) * 50)) + (k : Int)) §1).1).Wait : List Turn), Res.objAt (D_ + 1) (.loop (lpS RC_ true)), Res.objAt (D_) (.deferred (some [])), Res.box z2 [z1] 109, Res.box z3 [.int .i64 48] 3, Res.box b5 [.int .i64 (k : Int)] 3, Res.box b3 §3 98, Res.box b2 [errv ((dWrite dm ((2 + ((1 - st.Side) * 50)) + (k : Int)) §1).2)] 28, Res.box b1 §18 54, Res.box b_st §2 100, Res.box b_lg §4 85, Res.held w own] else [Res.box b_dk [g_.2.1, g_.2.2.1, g_.2.2.2, .int .i64 (((dWrite dm ((2 + ((1 - st.Side) * 50)) + (k : Int)) §1).1).Fuse), .bool (((dWrite dm ((2 + ((1 - st.Side) * 50)) + (k : Int)) §1).1).Down)] 81, Res.row 9 g_.2.1 (((dWrite dm ((2 + ((1 - st.Side) * 50)) + (k : Int)) §1).1).Kept : List ByteArray), Res.row 9 g_.2.2.1 (((dWrite dm ((2 + ((1 - st.Side) * 50)) + (k : Int)) §1).1).Now : List ByteArray), Res.row 83 g_.2.2.2 (((dWrite dm ((2 + ((1 - st.Side) * 50)) + (k : Int)) §1).1).Wait : List Turn), Res.objAt (D_ + 1) (.loop (lpS RC_ false)), Res.objAt (D_) (.deferred (some [])), Res.box z2 [z1] 109, Res.box z3 [.int .i64 48] 3, Res.box b5 [.int .i64 ((k + 1) : Int)] 3, Res.box b3 §3 98, Res.box b2 [.nilIface] 28, Res.box b1 §18 54, Res.box b_st §2 100, Res.box b_lg §4 85, Res.held w own])) (fun g_ : Bool × Value × Value × Value => §9) (fun w2 hw2 => ?_) rfl ?_
          · rw [show (lpS RC_ false).assign = _ from hAs_, show (lpS RC_ false).body = _ from hBd_]
            refine I.round (i := 0) (rc := lpS RC_ false) (L0 := [(1, .pointer (some ⟨b1, 0, none⟩)), (2, .pointer (some ⟨b2, 0, none⟩)), (3, .string (allB st.Rows)), (4, .pointer (some ⟨b3, 0, none⟩)), (5, .pointer (some ⟨b5, 0, none⟩)), (36, .string (allB st.Rows)), (37, z1), (38, .func (.func 72) #[] #[.pointer (some ⟨z2, 0, none⟩), .pointer (some ⟨z3, 0, none⟩)]), (39, (sl3 z1 (48 * k) ((((48 * k : Nat) : Int) + (min 48 ((((allB st.Rows).data.toList).drop (48 * k)).length : Int))).toNat) ((((48 * k : Nat) : Int) + (min 48 ((((allB st.Rows).data.toList).drop (48 * k)).length : Int))).toNat) 1))]) (L1 := [(1, .pointer (some ⟨b1, 0, none⟩)), (2, .pointer (some ⟨b2, 0, none⟩)), (3, .string (allB st.Rows)), (4, .pointer (some ⟨b3, 0, none⟩)), (5, .pointer (some ⟨b5, 0, none⟩)), (36, .string (allB st.Rows)), (37, z1), (38, .func (.func 72) #[] #[.pointer (some ⟨z2, 0, none⟩), .pointer (some ⟨z3, 0, none⟩)]), (39, (sl3 z1 (48 * k) ((((48 * k : Nat) : Int) + (min 48 ((((allB st.Rows).data.toList).drop (48 * k)).length : Int))).toNat) ((((48 * k : Nat) : Int) + (min 48 ((((allB st.Rows).data.toList).drop (48 * k)).length : Int))).toNat) 1)), (6, (sl3 z1 (48 * k) ((((48 * k : Nat) : Int) + (min 48 ((((allB st.Rows).data.toList).drop (48 * k)).length : Int))).toNat) ((((48 * k : Nat) : Int) + (min 48 ((((allB st.Rows).data.toList).drop (48 * k)).length : Int))).toNat) 1))]) rfl rfl ((Fr.yield (xv := (sl3 z1 (48 * k) ((((48 * k : Nat) : Int) + (min 48 ((((allB st.Rows).data.toList).drop (48 * k)).length : Int))).toNat) ((((48 * k : Nat) : Int) + (min 48 ((((allB st.Rows).data.toList).drop (48 * k)).length : Int))).toNat) 1)) ha_ hT_ hps_ rfl).sub ⟨rfl, rfl, rfl, rfl, rfl, rfl, rfl, rfl, rfl, trivial⟩) hw2 ?_ ?_
            · refine I.reg rfl rfl §7 <| R.u 1 rfl <| R.nil <| I.nil ?_
              exact I.assigned rfl ⟨rfl, rfl, rfl, rfl, rfl, rfl, rfl, rfl, rfl, rfl, trivial⟩
            · refine I.mp (B' := [Res.objAt (D_ + 1) (.loop { lpS RC_ false with state := .busy }), Res.objAt (D_) (.deferred (some [])), Res.box z2 [z1] 109, Res.box z3 [.int .i64 48] 3, Res.box b5 [.int .i64 (k : Int)] 3, Res.box b3 §3 98, Res.box b2 [.nilIface] 28, Res.box b1 §18 54, Res.box b_st §2 100, Res.box b_dk [dm_Kept, dm_Now, dm_Wait, .int .i64 dm.Fuse, .bool dm.Down] 81, Res.row 9 dm_Kept (dm.Kept : List ByteArray), Res.row 9 dm_Now (dm.Now : List ByteArray), Res.row 83 dm_Wait (dm.Wait : List Turn), Res.box b_lg §4 85, Res.held w own]) (F' := §9) (fun _ h => h) ?_
              refine I.regD (fuel := 14) (Wd w1 (blks §6) §22 §9) rfl rfl §7 mixed rfl ?_
              refine D.q (i := 0) rfl §13 §15 rfl (q.ld 7 rfl rfl tOne_54 rfl) rfl <| D.q (i := 1) rfl §13 §15 rfl (q.nilc rfl) rfl <| D.q (i := 2) rfl §13 §15 rfl (q.fld (off' := 0) rfl tFld_100_0 rfl) rfl <| D.q (i := 3) rfl §13 §15 rfl (q.ld 8 rfl rfl tOne_26 rfl) rfl <| D.q (i := 4) rfl §13 §15 rfl (q.fld (off' := 1) rfl tFld_98_1 rfl) rfl <| D.q (i := 5) rfl §13 §15 rfl (q.ld 5 rfl rfl tOne_3 rfl) rfl <| D.q (i := 6) rfl §13 §15 rfl (q.mul (r := (1 - st.Side) * 50) rfl rfl (wr (by omega))) rfl <| D.q (i := 7) rfl §13 §15 rfl (q.add (r := 2 + ((1 - st.Side) * 50)) rfl rfl (wr (by omega))) rfl <| D.q (i := 8) rfl §13 §15 rfl (q.ld 4 rfl rfl tOne_3 rfl) rfl <| D.q (i := 9) rfl §13 §15 rfl (q.add (r := (2 + ((1 - st.Side) * 50)) + (k : Int)) rfl rfl (wr (by omega))) rfl <| D.q (i := 10) rfl §13 §15 rfl (q.mv rfl) rfl <| D.q (i := 11) rfl §13 §15 rfl (q.b2s (fun w hw => Sl.sl3 ((fun _ => Wd.fls 0 rfl) w hw) (by omega) (by omega) (by omega)) rfl tSl_109 Try.underlying5 Try.underlying9) rfl <| ?_
              refine D.one (i := 12) §13 rfl ?_
              refine Do.s (B' := (fun g_ : Value × Value × Value => [Res.box b_dk [g_.1, g_.2.1, g_.2.2, .int .i64 ((((dWrite dm ((2 + ((1 - st.Side) * 50)) + (k : Int)) §1)).1).Fuse), .bool ((((dWrite dm ((2 + ((1 - st.Side) * 50)) + (k : Int)) §1)).1).Down)] 81, Res.row 9 g_.1 ((((dWrite dm ((2 + ((1 - st.Side) * 50)) + (k : Int)) §1)).1).Kept : List ByteArray), Res.row 9 g_.2.1 ((((dWrite dm ((2 + ((1 - st.Side) * 50)) + (k : Int)) §1)).1).Now : List ByteArray), Res.row 83 g_.2.2 ((((dWrite dm ((2 + ((1 - st.Side) * 50)) + (k : Int)) §1)).1).Wait : List Turn), Res.objAt (D_ + 1) (.loop { lpS RC_ false with state := .busy }), Res.objAt (D_) (.deferred (some [])), Res.box z2 [z1] 109, Res.box z3 [.int .i64 48] 3, Res.box b5 [.int .i64 (k : Int)] 3, Res.box b3 §3 98, Res.box b2 [.nilIface] 28, Res.box b1 §18 54, Res.box b_st §2 100, Res.box b_lg §4 85, Res.held w own])) (F' := (fun g_ : Value × Value × Value => §9)) (s.callV (B0 := [Res.box b_dk [dm_Kept, dm_Now, dm_Wait, .int .i64 dm.Fuse, .bool dm.Down] 81, Res.row 9 dm_Kept (dm.Kept : List ByteArray), Res.row 9 dm_Now (dm.Now : List ByteArray), Res.row 83 dm_Wait (dm.Wait : List Turn)]) (Br := §22) (F0 := []) [9, 10, 11, 12, 0, 1, 2, 3, 4, 5, 6, 7, 8, 13, 14] [] (fun g_ : Value × Value × Value => errv (((dWrite dm ((2 + ((1 - st.Side) * 50)) + (k : Int)) §1)).2)) (fun g_ : Value × Value × Value => [Res.box b_dk [g_.1, g_.2.1, g_.2.2, .int .i64 ((((dWrite dm ((2 + ((1 - st.Side) * 50)) + (k : Int)) §1)).1).Fuse), .bool ((((dWrite dm ((2 + ((1 - st.Side) * 50)) + (k : Int)) §1)).1).Down)] 81, Res.row 9 g_.1 ((((dWrite dm ((2 + ((1 - st.Side) * 50)) + (k : Int)) §1)).1).Kept : List ByteArray), Res.row 9 g_.2.1 ((((dWrite dm ((2 + ((1 - st.Side) * 50)) + (k : Int)) §1)).1).Now : List ByteArray), Res.row 83 g_.2.2 ((((dWrite dm ((2 + ((1 - st.Side) * 50)) + (k : Int)) §1)).1).Wait : List Turn)]) (fun g_ : Value × Value × Value => []) rfl rfl rfl eg_10 rfl rfl (fun w own hw H => dWrite_any b_dk dm_Kept dm_Now dm_Wait (dm) (((2 + ((1 - st.Side) * 50)) + (k : Int))) (§1) w own H (by first | assumption | omega)) rfl) (fun _ => (fun _ => Wd.pik [4, 5, 6, 7, 8, 9, 10, 11, 12, 13, 14] [0, 1] rfl rfl rfl)) rfl ?_
              rintro ⟨z7, z8, z9⟩
              dsimp only
              refine D.q (i := 13) rfl §13 (fun _ => Wd.pik [4, 5, 6, 7, 8, 9, 10, 11, 12, 13, 14] [0, 1] rfl rfl rfl) rfl (q.as rfl) rfl <| D.done §13 <| ?_
              refine I.reg rfl rfl §7 <| R.u 1 rfl <| ?_
              by_cases h2 : (dWrite dm ((2 + ((1 - st.Side) * 50)) + (k : Int)) §1).2 = 0
              · refine R.q (q.neqE0 rfl rfl Try.underlying28 (by omega)) rfl <| R.nil <| I.nil ?_
                refine I.condF rfl rfl ?_
                refine I.reg rfl rfl §7 <| R.q (q.ld 8 rfl rfl tOne_3 rfl) rfl <| R.q (q.add (r := ((k + 1 : Nat) : Int)) rfl rfl (wr (by omega))) rfl <| ?_
                refine R.s rfl (s.st (us := [.int .i64 ((k + 1) : Int)]) (cs' := [.int .i64 ((k + 1) : Int)]) 8 _ rfl rfl rfl rfl (.inr ⟨tOne_3, rfl⟩) rfl rfl rfl rfl) fun _ => ?_
                refine R.nil <| I.nil ?_
                exact I.rgo (i := 4) (false, z7, z8, z9) (by first | exact (decide_eq_true (by omega)).symm | exact (decide_eq_false (by omega)).symm) rfl rfl rfl §17
              · refine R.q (q.neqE1 rfl rfl Try.underlying28 (by omega)) rfl <| R.nil <| I.nil ?_
                refine I.condT rfl rfl ?_
                refine I.reg rfl rfl §7 <| R.u 1 rfl <| ?_
                refine R.s rfl (s.st (us := [errv ((dWrite dm ((2 + ((1 - st.Side) * 50)) + (k : Int)) §1).2)]) (cs' := [errv ((dWrite dm ((2 + ((1 - st.Side) * 50)) + (k : Int)) §1).2)]) 10 _ rfl rfl rfl (errv_cells _) (.inr ⟨tOne_28, rfl⟩) (errv_all _) rfl rfl rfl) fun _ => ?_
                refine R.nil <| I.nil ?_
                exact I.rret (i := 4) (true, z7, z8, z9) (by first | exact (decide_eq_true (by omega)).symm | exact (decide_eq_false (by omega)).symm) rfl rfl rfl §17
          · rintro ⟨stop, y_Kept, y_Now, y_Wait⟩ hz_
            cases stop
            · have he_ : ((dWrite dm ((2 + ((1 - st.Side) * 50)) + (k : Int)) §1).2) = 0 := by simpa using hz_
              refine I.q (q.not rfl) rfl rfl ?_
              refine I.lnil ?_
              refine I.condF rfl rfl ?_
              refine I.reg rfl rfl §7 <| R.u 1 rfl <| R.q (q.ld 7 rfl rfl tOne_3 rfl) rfl <| R.q (q.add (r := ((48 * k + 48 : Nat) : Int)) rfl rfl (wr (by omega))) rfl <| R.u 1 rfl <| R.nil <| I.nil ?_
              refine I.back (k + 1, ((dWrite dm ((2 + ((1 - st.Side) * 50)) + (k : Int)) §1).1), y_Kept, y_Now, y_Wait) rfl (by (have hce := chunk_eq (t := allB st.Rows) (k := k) hks rfl; (try dsimp only); exact ⟨by omega, by rw [hce] at he_ ⊢; have g := ck_next HC (by omega) hks he_; rwa [show (allB st.Rows).size + 1 - (k + 1) = (allB st.Rows).size + 1 - k - 1 by omega], hO.write _ _⟩)) (by dsimp only; omega) ⟨rfl, rfl, rfl, rfl, trivial⟩ (fun _ => Wd.pik [4, 5, 6, 7, 8, 9, 10, 11, 12, 0, 1, 2, 3, 13, 14] [0, 1] rfl rfl rfl)
            · have he_ : ¬ ((dWrite dm ((2 + ((1 - st.Side) * 50)) + (k : Int)) §1).2) = 0 := by simpa using hz_
              refine I.q (q.not rfl) rfl rfl ?_
              refine I.lnil ?_
              refine I.condT rfl rfl ?_
              exact I.w0 (true, y_Kept, y_Now, y_Wait, ((dWrite dm ((2 + ((1 - st.Side) * 50)) + (k : Int)) §1).1), (dWrite dm ((2 + ((1 - st.Side) * 50)) + (k : Int)) §1).2) (by have hce := chunk_eq (t := allB st.Rows) (k := k) hks rfl; dsimp only; exact ⟨(decide_eq_true (by omega)).symm, by rw [hce] at he_ ⊢; exact ck_bad HC (by omega) hks he_, (hO.write _ _).up (by omega)⟩) [4, 5, 9, 10, 11, 12, 0, 1, 2, 3, 13, 14] [0, 1] (by first | exact .inl rfl | exact .inr ⟨_, rfl⟩) Try.results72 rfl rfl rfl rfl
        · refine R.q (q.lss rfl rfl (decide_eq_false (by omega))) rfl <| R.nil <| I.nil ?_
          refine I.condF rfl rfl ?_
          exact I.w0 (false, dm_Kept, dm_Now, dm_Wait, dm, 0) (by dsimp only; exact ⟨rfl, ck_end HC (by omega), hO.up (by omega)⟩) [0, 1, 5, 6, 7, 8, 9, 10, 11, 12, 13, 14] [0, 1] (by first | exact .inl rfl | exact .inr ⟨_, rfl⟩) Try.results72 rfl rfl rfl rfl
      · obtain ⟨z_, rfl, hP_, hz_⟩ := he_
        exact ⟨_, z_, rfl, hP_, Wd.over hw_ hz_⟩
    · rintro D_ ⟨stop, dm_Kept, dm_Now, dm_Wait, dm, er⟩ hD_ hPJ_ hs_
      dsimp only at hPJ_ hs_
      subst hs_
      obtain ⟨hp1, hp2, hp3⟩ := hPJ_; have he0 : er = 0 := by simpa using hp1.symm
      have n0 := hp3.nl; have q0 := hp3.fine (by omega) (by omega); have hf1 := hp3.flush; have n1 := hf1.nl; have q1 := hf1.fine (by omega) (by omega)
      have hw1 := hf1.write ((st.Epoch + 1) % 2) (headT §14); have n2 := hw1.nl; have q2 := hw1.fine (by omega) (by omega); have hf2 := hw1.flush; have n3 := hf2.nl; have q3 := hf2.fine (by omega) (by omega)
      refine I.reg rfl rfl §7 <| R.q (q.ld 3 rfl rfl tOne_54 rfl) rfl <| R.q (q.nilc rfl) rfl <| R.q (q.fld (off' := 0) rfl tFld_100_0 rfl) rfl <| R.q (q.ld 4 rfl rfl tOne_26 rfl) rfl <| ?_
      refine R.s (B' := (fun g_ : Value × Value × Value => [Res.box b_dk [g_.1, g_.2.1, g_.2.2, .int .i64 ((((dFlush dm)).1).Fuse), .bool ((((dFlush dm)).1).Down)] 81, Res.row 9 g_.1 ((((dFlush dm)).1).Kept : List ByteArray), Res.row 9 g_.2.1 ((((dFlush dm)).1).Now : List ByteArray), Res.row 83 g_.2.2 ((((dFlush dm)).1).Wait : List Turn), Res.objAt (D_) (.deferred (some [])), Res.box b3 §3 98, Res.box b2 [errv er] 28, Res.box b1 §18 54, Res.box b_st §2 100, Res.box b_lg §4 85, Res.held w own])) (F' := (fun g_ : Value × Value × Value => §9)) rfl (s.callV (B0 := [Res.box b_dk [dm_Kept, dm_Now, dm_Wait, .int .i64 dm.Fuse, .bool dm.Down] 81, Res.row 9 dm_Kept (dm.Kept : List ByteArray), Res.row 9 dm_Now (dm.Now : List ByteArray), Res.row 83 dm_Wait (dm.Wait : List Turn)]) (Br := §12) (F0 := []) [5, 6, 7, 8, 0, 1, 2, 3, 4, 9, 10] [] (fun g_ : Value × Value × Value => errv (((dFlush dm)).2)) (fun g_ : Value × Value × Value => [Res.box b_dk [g_.1, g_.2.1, g_.2.2, .int .i64 ((((dFlush dm)).1).Fuse), .bool ((((dFlush dm)).1).Down)] 81, Res.row 9 g_.1 ((((dFlush dm)).1).Kept : List ByteArray), Res.row 9 g_.2.1 ((((dFlush dm)).1).Now : List ByteArray), Res.row 83 g_.2.2 ((((dFlush dm)).1).Wait : List Turn)]) (fun g_ : Value × Value × Value => []) rfl rfl rfl eg_51 rfl rfl (fun w own hw H => dFlush_any b_dk dm_Kept dm_Now dm_Wait (dm) w own H (by first | assumption | omega)) rfl) ?_
      rintro ⟨z10, z11, z12⟩
      dsimp only
      refine R.u 1 rfl <| R.nil <| I.nil ?_
      refine I.reg rfl rfl §7 <| R.u 1 rfl <| ?_
      by_cases h3 : (dFlush dm).2 = 0
      · refine R.q (q.eqlE0 rfl rfl Try.underlying28 (by omega)) rfl <| R.nil <| I.nil ?_
        refine I.condT rfl rfl ?_
        refine I.regD (fuel := 11) (Wd w (blks §8 ++ own) §12 §9) rfl rfl §7 mixed rfl ?_
        refine D.q (i := 0) rfl §13 §10 rfl (q.ld 3 rfl rfl tOne_54 rfl) rfl <| D.q (i := 1) rfl §13 §10 rfl (q.nilc rfl) rfl <| D.q (i := 2) rfl §13 §10 rfl (q.fld (off' := 0) rfl tFld_100_0 rfl) rfl <| D.q (i := 3) rfl §13 §10 rfl (q.ld 4 rfl rfl tOne_26 rfl) rfl <| D.q (i := 4) rfl §13 §10 rfl (q.fld (off' := 0) rfl tFld_98_0 rfl) rfl <| D.q (i := 5) rfl §13 §10 rfl (q.ld 1 rfl rfl tOne_3 rfl) rfl <| D.q (i := 6) rfl §13 §10 rfl (q.rem (r := (st.Epoch + 1) % 2) rfl rfl (by omega) (remI (by omega))) rfl <| D.q (i := 7) rfl §13 §10 rfl (q.ldS 1 rfl rfl tAgg_98) rfl <| ?_
        refine D.one (i := 8) §13 rfl ?_
        refine Do.s (s.c (q.call eg_57 rfl rfl (fun w hw => (htext_any (§0) w  (by first | omega | assumption | (dsimp only; omega) | decide)))) rfl) (fun _ => §10) rfl fun _ => ?_
        refine D.one (i := 9) §13 rfl ?_
        refine Do.s (B' := (fun g_ : Value × Value × Value => [Res.box b_dk [g_.1, g_.2.1, g_.2.2, .int .i64 ((((dWrite ((dFlush dm).1) ((st.Epoch + 1) % 2) (headT §0))).1).Fuse), .bool ((((dWrite ((dFlush dm).1) ((st.Epoch + 1) % 2) (headT §0))).1).Down)] 81, Res.row 9 g_.1 ((((dWrite ((dFlush dm).1) ((st.Epoch + 1) % 2) (headT §0))).1).Kept : List ByteArray), Res.row 9 g_.2.1 ((((dWrite ((dFlush dm).1) ((st.Epoch + 1) % 2) (headT §0))).1).Now : List ByteArray), Res.row 83 g_.2.2 ((((dWrite ((dFlush dm).1) ((st.Epoch + 1) % 2) (headT §0))).1).Wait : List Turn), Res.objAt (D_) (.deferred (some [])), Res.box b3 §3 98, Res.box b2 [errv er] 28, Res.box b1 §18 54, Res.box b_st §2 100, Res.box b_lg §4 85, Res.held w own])) (F' := (fun g_ : Value × Value × Value => §9)) (s.callV (B0 := [Res.box b_dk [z10, z11, z12, .int .i64 (((dFlush dm).1).Fuse), .bool (((dFlush dm).1).Down)] 81, Res.row 9 z10 (((dFlush dm).1).Kept : List ByteArray), Res.row 9 z11 (((dFlush dm).1).Now : List ByteArray), Res.row 83 z12 (((dFlush dm).1).Wait : List Turn)]) (Br := §12) (F0 := []) [0, 1, 2, 3, 4, 5, 6, 7, 8, 9, 10] [] (fun g_ : Value × Value × Value => errv (((dWrite ((dFlush dm).1) ((st.Epoch + 1) % 2) (headT §0))).2)) (fun g_ : Value × Value × Value => [Res.box b_dk [g_.1, g_.2.1, g_.2.2, .int .i64 ((((dWrite ((dFlush dm).1) ((st.Epoch + 1) % 2) (headT §0))).1).Fuse), .bool ((((dWrite ((dFlush dm).1) ((st.Epoch + 1) % 2) (headT §0))).1).Down)] 81, Res.row 9 g_.1 ((((dWrite ((dFlush dm).1) ((st.Epoch + 1) % 2) (headT §0))).1).Kept : List ByteArray), Res.row 9 g_.2.1 ((((dWrite ((dFlush dm).1) ((st.Epoch + 1) % 2) (headT §0))).1).Now : List ByteArray), Res.row 83 g_.2.2 ((((dWrite ((dFlush dm).1) ((st.Epoch + 1) % 2) (headT §0))).1).Wait : List Turn)]) (fun g_ : Value × Value × Value => []) rfl rfl rfl eg_10 rfl rfl (fun w own hw H => dWrite_any b_dk z10 z11 z12 (((dFlush dm).1)) (((st.Epoch + 1) % 2)) (headT §0) w own H (by first | assumption | omega)) rfl) (fun _ => §10) rfl ?_
        rintro ⟨z16, z17, z18⟩
        dsimp only
        refine D.q (i := 10) rfl §13 §10 rfl (q.as rfl) rfl <| D.done §13 <| ?_
        refine I.reg rfl rfl §7 <| R.u 1 rfl <| ?_
        by_cases h4 : (dWrite ((dFlush dm).1) ((st.Epoch + 1) % 2) (headT §0)).2 = 0
        · refine R.q (q.eqlE0 rfl rfl Try.underlying28 (by omega)) rfl <| R.nil <| I.nil ?_
          refine I.condT rfl rfl ?_
          refine I.reg rfl rfl §7 <| R.q (q.ld 7 rfl rfl tOne_54 rfl) rfl <| R.q (q.nilc rfl) rfl <| R.q (q.fld (off' := 0) rfl tFld_100_0 rfl) rfl <| R.q (q.ld 8 rfl rfl tOne_26 rfl) rfl <| ?_
          refine R.s (B' := (fun g_ : Value × Value × Value => [Res.box b_dk [g_.1, g_.2.1, g_.2.2, .int .i64 ((((dFlush ((dWrite ((dFlush dm).1) ((st.Epoch + 1) % 2) (headT §0)).1))).1).Fuse), .bool ((((dFlush ((dWrite ((dFlush dm).1) ((st.Epoch + 1) % 2) (headT §0)).1))).1).Down)] 81, Res.row 9 g_.1 ((((dFlush ((dWrite ((dFlush dm).1) ((st.Epoch + 1) % 2) (headT §0)).1))).1).Kept : List ByteArray), Res.row 9 g_.2.1 ((((dFlush ((dWrite ((dFlush dm).1) ((st.Epoch + 1) % 2) (headT §0)).1))).1).Now : List ByteArray), Res.row 83 g_.2.2 ((((dFlush ((dWrite ((dFlush dm).1) ((st.Epoch + 1) % 2) (headT §0)).1))).1).Wait : List Turn), Res.objAt (D_) (.deferred (some [])), Res.box b3 §3 98, Res.box b2 [errv er] 28, Res.box b1 §18 54, Res.box b_st §2 100, Res.box b_lg §4 85, Res.held w own])) (F' := (fun g_ : Value × Value × Value => §9)) rfl (s.callV (B0 := [Res.box b_dk [z16, z17, z18, .int .i64 (((dWrite ((dFlush dm).1) ((st.Epoch + 1) % 2) (headT §0)).1).Fuse), .bool (((dWrite ((dFlush dm).1) ((st.Epoch + 1) % 2) (headT §0)).1).Down)] 81, Res.row 9 z16 (((dWrite ((dFlush dm).1) ((st.Epoch + 1) % 2) (headT §0)).1).Kept : List ByteArray), Res.row 9 z17 (((dWrite ((dFlush dm).1) ((st.Epoch + 1) % 2) (headT §0)).1).Now : List ByteArray), Res.row 83 z18 (((dWrite ((dFlush dm).1) ((st.Epoch + 1) % 2) (headT §0)).1).Wait : List Turn)]) (Br := §12) (F0 := []) [0, 1, 2, 3, 4, 5, 6, 7, 8, 9, 10] [] (fun g_ : Value × Value × Value => errv (((dFlush ((dWrite ((dFlush dm).1) ((st.Epoch + 1) % 2) (headT §0)).1))).2)) (fun g_ : Value × Value × Value => [Res.box b_dk [g_.1, g_.2.1, g_.2.2, .int .i64 ((((dFlush ((dWrite ((dFlush dm).1) ((st.Epoch + 1) % 2) (headT §0)).1))).1).Fuse), .bool ((((dFlush ((dWrite ((dFlush dm).1) ((st.Epoch + 1) % 2) (headT §0)).1))).1).Down)] 81, Res.row 9 g_.1 ((((dFlush ((dWrite ((dFlush dm).1) ((st.Epoch + 1) % 2) (headT §0)).1))).1).Kept : List ByteArray), Res.row 9 g_.2.1 ((((dFlush ((dWrite ((dFlush dm).1) ((st.Epoch + 1) % 2) (headT §0)).1))).1).Now : List ByteArray), Res.row 83 g_.2.2 ((((dFlush ((dWrite ((dFlush dm).1) ((st.Epoch + 1) % 2) (headT §0)).1))).1).Wait : List Turn)]) (fun g_ : Value × Value × Value => []) rfl rfl rfl eg_51 rfl rfl (fun w own hw H => dFlush_any b_dk z16 z17 z18 (((dWrite ((dFlush dm).1) ((st.Epoch + 1) % 2) (headT §0)).1)) w own H (by first | assumption | omega)) rfl) ?_
          rintro ⟨z19, z20, z21⟩
          dsimp only
          refine R.u 1 rfl <| R.nil <| I.nil ?_
          refine I.reg rfl rfl §7 <| R.u 1 rfl <| ?_
          by_cases h5 : (dFlush ((dWrite ((dFlush dm).1) ((st.Epoch + 1) % 2) (headT §0)).1)).2 = 0
          · refine R.q (q.neqE0 rfl rfl Try.underlying28 (by omega)) rfl <| R.nil <| I.nil ?_
            refine I.condF rfl rfl ?_
            have hdn := flush_up (by assumption : (dFlush (dWrite (dFlush dm).1 ((st.Epoch + 1) % 2) (headT §14)).1).2 = 0)
            refine I.regD (fuel := 20) (Wd w (blks §8 ++ own) §12 §9) rfl rfl §7 mixed rfl ?_
            refine D.q (i := 0) rfl §13 §10 rfl (q.ld 3 rfl rfl tOne_54 rfl) rfl <| D.q (i := 1) rfl §13 §10 rfl (q.nilc rfl) rfl <| D.q (i := 2) rfl §13 §10 rfl (q.fld (off' := 0) rfl tFld_100_0 rfl) rfl <| D.q (i := 3) rfl §13 §10 rfl (q.ld 4 rfl rfl tOne_26 rfl) rfl <| D.q (i := 4) rfl §13 §10 rfl (q.ld 3 rfl rfl tOne_54 rfl) rfl <| D.q (i := 5) rfl §13 §10 rfl (q.nilc rfl) rfl <| D.q (i := 6) rfl §13 §10 rfl (q.fld (off' := 0) rfl tFld_100_0 rfl) rfl <| D.q (i := 7) rfl §13 §10 rfl (q.ld 4 rfl rfl tOne_26 rfl) rfl <| D.q (i := 10) rfl §13 §10 rfl (q.fld (off' := 3) rfl tFld_98_3 rfl) rfl <| D.q (i := 11) rfl §13 §10 rfl (q.ld 1 rfl rfl tOne_3 rfl) rfl <| ?_
            refine D.one (i := 8) §13 rfl ?_
            refine Do.s (s.c (q.call eg_12 rfl rfl (fun w hw => (dSectors_any b_dk z19 z20 z21  (((dFlush ((dWrite ((dFlush dm).1) ((st.Epoch + 1) % 2) (headT §0)).1)).1)) w (hw.b 0 rfl) ((fun _ => Wd.row 1 rfl) w hw) ((fun _ => Wd.row 2 rfl) w hw) ((fun _ => Wd.row 3 rfl) w hw) ))) rfl) (fun _ => §10) rfl fun _ => ?_
            refine D.q (i := 9) rfl §13 §10 rfl (q.sub (r := ((((dFlush ((dWrite ((dFlush dm).1) ((st.Epoch + 1) % 2) (headT §0)).1)).1).Now.length - 102 : Nat) : Int)) rfl rfl (wr (by omega))) rfl <| ?_
            refine D.one (i := 12) §13 rfl ?_
            refine Do.s (B' := (fun g_ : Value × Value × Value × Nat × Value × List Bat => [Res.box b_dk [g_.1, g_.2.1, g_.2.2.1, .int .i64 ((((dFlush ((dWrite ((dFlush dm).1) ((st.Epoch + 1) % 2) (headT §0)).1)).1)).Fuse), .bool ((((dFlush ((dWrite ((dFlush dm).1) ((st.Epoch + 1) % 2) (headT §0)).1)).1)).Down)] 81, Res.row 9 g_.1 ((((dFlush ((dWrite ((dFlush dm).1) ((st.Epoch + 1) % 2) (headT §0)).1)).1)).Kept : List ByteArray), Res.row 9 g_.2.1 ((((dFlush ((dWrite ((dFlush dm).1) ((st.Epoch + 1) % 2) (headT §0)).1)).1)).Now : List ByteArray), Res.row 83 g_.2.2.1 ((((dFlush ((dWrite ((dFlush dm).1) ((st.Epoch + 1) % 2) (headT §0)).1)).1)).Wait : List Turn), Res.box g_.2.2.2.1 [.pointer (some ⟨b_dk, 0, none⟩), .int .i64 ((§5).From), .int .i64 ((§5).Many), .int .i64 ((§5).First), .int .i64 ((§5).Next)] 85, Res.objAt (D_) (.deferred (some [])), Res.box b3 §3 98, Res.box b2 [errv er] 28, Res.box b1 §18 54, Res.box b_st §2 100, Res.box b_lg §4 85, Res.held w own])) (F' := (fun g_ : Value × Value × Value × Nat × Value × List Bat => [Res.ls g_.2.2.2.2.1 (g_.2.2.2.2.2 : List Bat), Res.batsE (g_.2.2.2.2.2 : List Bat) ((opnD ((dFlush ((dWrite ((dFlush dm).1) ((st.Epoch + 1) % 2) (headT §0)).1)).1) 102 (Int.toNat (((((dFlush ((dWrite ((dFlush dm).1) ((st.Epoch + 1) % 2) (headT §0)).1)).1).Now.length - 102) : Nat) : Int)) (lg.First + lg.Many))), Res.ls z1 ((allB st.Rows).data.toList : List UInt8), Res.ls q_stRows (st.Rows : List Change)])) (s.callV (B0 := [Res.box b_dk [z19, z20, z21, .int .i64 (((dFlush ((dWrite ((dFlush dm).1) ((st.Epoch + 1) % 2) (headT §0)).1)).1).Fuse), .bool (((dFlush ((dWrite ((dFlush dm).1) ((st.Epoch + 1) % 2) (headT §0)).1)).1).Down)] 81, Res.row 9 z19 (((dFlush ((dWrite ((dFlush dm).1) ((st.Epoch + 1) % 2) (headT §0)).1)).1).Kept : List ByteArray), Res.row 9 z20 (((dFlush ((dWrite ((dFlush dm).1) ((st.Epoch + 1) % 2) (headT §0)).1)).1).Now : List ByteArray), Res.row 83 z21 (((dFlush ((dWrite ((dFlush dm).1) ((st.Epoch + 1) % 2) (headT §0)).1)).1).Wait : List Turn)]) (Br := §12) (F0 := []) [0, 1, 2, 3, 4, 5, 6, 7, 8, 9, 10] [] (fun g_ : Value × Value × Value × Nat × Value × List Bat => .tuple #[.pointer (some ⟨g_.2.2.2.1, 0, none⟩), g_.2.2.2.2.1, .nilIface]) (fun g_ : Value × Value × Value × Nat × Value × List Bat => [Res.box b_dk [g_.1, g_.2.1, g_.2.2.1, .int .i64 ((((dFlush ((dWrite ((dFlush dm).1) ((st.Epoch + 1) % 2) (headT §0)).1)).1)).Fuse), .bool ((((dFlush ((dWrite ((dFlush dm).1) ((st.Epoch + 1) % 2) (headT §0)).1)).1)).Down)] 81, Res.row 9 g_.1 ((((dFlush ((dWrite ((dFlush dm).1) ((st.Epoch + 1) % 2) (headT §0)).1)).1)).Kept : List ByteArray), Res.row 9 g_.2.1 ((((dFlush ((dWrite ((dFlush dm).1) ((st.Epoch + 1) % 2) (headT §0)).1)).1)).Now : List ByteArray), Res.row 83 g_.2.2.1 ((((dFlush ((dWrite ((dFlush dm).1) ((st.Epoch + 1) % 2) (headT §0)).1)).1)).Wait : List Turn), Res.box g_.2.2.2.1 [.pointer (some ⟨b_dk, 0, none⟩), .int .i64 ((§5).From), .int .i64 ((§5).Many), .int .i64 ((§5).First), .int .i64 ((§5).Next)] 85]) (fun g_ : Value × Value × Value × Nat × Value × List Bat => [Res.ls g_.2.2.2.2.1 (g_.2.2.2.2.2 : List Bat), Res.batsE (g_.2.2.2.2.2 : List Bat) ((opnD ((dFlush ((dWrite ((dFlush dm).1) ((st.Epoch + 1) % 2) (headT §0)).1)).1) 102 (Int.toNat (((((dFlush ((dWrite ((dFlush dm).1) ((st.Epoch + 1) % 2) (headT §0)).1)).1).Now.length - 102) : Nat) : Int)) (lg.First + lg.Many)))]) rfl rfl rfl eg_11 rfl rfl (fun w own hw H => open_any b_dk z19 z20 z21 (((dFlush ((dWrite ((dFlush dm).1) ((st.Epoch + 1) % 2) (headT §0)).1)).1)) (102) ((((((dFlush ((dWrite ((dFlush dm).1) ((st.Epoch + 1) % 2) (headT §0)).1)).1).Now.length - 102) : Nat) : Int)) ((lg.First + lg.Many)) w own H (by refine ⟨by decide, ?_, ?_, ?_, ?_⟩ <;> omega) (hdn) (⟨n3.symm ▸ hf2.up (by omega), by omega⟩)) rfl) (fun _ => §21) rfl ?_
            rintro ⟨z28, z29, z30, z31, z32, z33⟩
            dsimp only
            refine D.q (i := 13) rfl §13 §21 rfl (q.mv rfl) rfl <| D.q (i := 14) rfl §13 §21 rfl (q.ext rfl rfl) rfl <| D.q (i := 15) rfl §13 §21 rfl (q.ext rfl rfl) rfl <| D.q (i := 16) rfl §13 §21 rfl (q.ext rfl rfl) rfl <| D.q (i := 17) rfl §13 §21 rfl (q.as rfl) rfl <| D.q (i := 18) rfl §13 §21 rfl (q.as rfl) rfl <| D.q (i := 19) rfl §13 §21 rfl (q.as rfl) rfl <| D.done §13 <| ?_
            refine I.reg rfl rfl §7 <| R.u 1 rfl <| R.q (q.eqlNN rfl rfl Try.underlying28) rfl <| R.nil <| I.nil ?_
            refine I.condT rfl rfl ?_
            refine I.regD (fuel := 10) (Wd w (blks §8 ++ own) [Res.box b_dk [z28, z29, z30, .int .i64 (((dFlush ((dWrite ((dFlush dm).1) ((st.Epoch + 1) % 2) (headT §0)).1)).1).Fuse), .bool (((dFlush ((dWrite ((dFlush dm).1) ((st.Epoch + 1) % 2) (headT §0)).1)).1).Down)] 81, Res.row 9 z28 (((dFlush ((dWrite ((dFlush dm).1) ((st.Epoch + 1) % 2) (headT §0)).1)).1).Kept : List ByteArray), Res.row 9 z29 (((dFlush ((dWrite ((dFlush dm).1) ((st.Epoch + 1) % 2) (headT §0)).1)).1).Now : List ByteArray), Res.row 83 z30 (((dFlush ((dWrite ((dFlush dm).1) ((st.Epoch + 1) % 2) (headT §0)).1)).1).Wait : List Turn), Res.box z31 [.pointer (some ⟨b_dk, 0, none⟩), .int .i64 102, .int .i64 (((((dFlush ((dWrite ((dFlush dm).1) ((st.Epoch + 1) % 2) (headT §0)).1)).1).Now.length - 102) : Nat) : Int), .int .i64 (lg.First + lg.Many), .int .i64 (opnU ((dFlush ((dWrite ((dFlush dm).1) ((st.Epoch + 1) % 2) (headT §0)).1)).1) 102 (Int.toNat (((((dFlush ((dWrite ((dFlush dm).1) ((st.Epoch + 1) % 2) (headT §0)).1)).1).Now.length - 102) : Nat) : Int)) (lg.First + lg.Many) : Int)] 85, Res.objAt (D_) (.deferred (some [])), Res.box b3 §3 98, Res.box b2 [errv er] 28, Res.box b1 §18 54, Res.box b_lg §4 85, Res.held w own] [Res.ls z32 (z33 : List Bat), Res.batsE (z33 : List Bat) (opnD ((dFlush ((dWrite ((dFlush dm).1) ((st.Epoch + 1) % 2) (headT §0)).1)).1) 102 (Int.toNat (((((dFlush ((dWrite ((dFlush dm).1) ((st.Epoch + 1) % 2) (headT §0)).1)).1).Now.length - 102) : Nat) : Int)) (lg.First + lg.Many)), Res.ls z1 ((allB st.Rows).data.toList : List UInt8), Res.ls q_stRows (st.Rows : List Change)]) rfl rfl §7 mixed rfl ?_
            refine D.q (i := 0) rfl §13 §16 rfl (q.ld 8 rfl rfl tOne_54 rfl) rfl <| D.q (i := 1) rfl §13 §16 rfl (q.ld 8 rfl rfl tOne_54 rfl) rfl <| D.q (i := 2) rfl §13 §16 rfl (q.ldS 6 rfl rfl tAgg_98) rfl <| D.q (i := 3) rfl §13 §16 rfl (q.mv rfl) rfl <| D.q (i := 4) rfl §13 §16 rfl (q.nilc rfl) rfl <| D.q (i := 5) rfl §13 §16 rfl (q.fld (off' := 1) rfl tFld_100_1 rfl) rfl <| ?_
            refine D.one (i := 6) §13 rfl ?_
            refine Do.s (s.st (us := §3) (cs' := [.pointer (some ⟨b_dk, 0, none⟩), .int .i64 (st.Epoch + 1), .int .i64 (1 - st.Side), .int .i64 ((allB st.Rows).size : Int), .int .i64 (lg.First + lg.Many), .pointer (some ⟨b_lg, 0, none⟩), q_stRows]) 9 _ rfl rfl rfl rfl (.inl tAgg_98) rfl rfl rfl rfl) (fun _ => §16) rfl fun _ => ?_
            refine D.q (i := 7) rfl §13 §16 rfl (q.nilc rfl) rfl <| D.q (i := 8) rfl §13 §16 rfl (q.fld (off' := 5) rfl tFld_100_2 rfl) rfl <| ?_
            refine D.one (i := 9) §13 rfl ?_
            refine Do.s (s.st (us := [.pointer (some ⟨z31, 0, none⟩)]) (cs' := [.pointer (some ⟨b_dk, 0, none⟩), .int .i64 (st.Epoch + 1), .int .i64 (1 - st.Side), .int .i64 ((allB st.Rows).size : Int), .int .i64 (lg.First + lg.Many), .pointer (some ⟨z31, 0, none⟩), q_stRows]) 9 _ rfl rfl rfl rfl (.inr ⟨tOne_32, rfl⟩) rfl rfl rfl rfl) (fun _ => §16) rfl fun _ => ?_
            refine D.done §13 <| ?_
            refine I.reg rfl rfl §7 <| R.u 1 rfl <| ?_
            refine R.s rfl (s.st (us := [.nilIface]) (cs' := [.nilIface]) 7 _ rfl rfl rfl rfl (.inr ⟨tOne_28, rfl⟩) rfl rfl rfl rfl) fun _ => ?_
            refine Rg.getE (F' := [Res.bats (z33 : List Bat), Res.ls z32 (z33 : List Bat), Res.ls z1 ((allB st.Rows).data.toList : List UInt8), Res.ls q_stRows (st.Rows : List Change)]) 1 rfl rfl fun hE1 => ?_
            refine R.nil <| I.nil ?_
            have hz : ((ckS (mkS st lg) dk).1.c, (ckS (mkS st lg) dk).2.1, (ckS (mkS st lg) dk).1.L, (ckS (mkS st lg) dk).2.2) = ((⟨(st.Epoch + 1), (1 - st.Side), ((allB st.Rows).size : Int), (lg.First + lg.Many), st.Rows⟩ : StoC), ((dFlush ((dWrite ((dFlush dm).1) ((st.Epoch + 1) % 2) (headT §0)).1)).1), §5, 0) := by (first | (rw [ck_a hp2 he0]; rfl) | (rw [ck_b hp2 he0 §20]; rfl) | (rw [ck_c hp2 he0 §20 §20]; rfl) | (rw [ck_d hp2 he0 §20 §20 §20]; rfl) | (rw [ck_e hp2 he0 §20 §20 §20, show (((dFlush (dWrite (dFlush dm).1 ((st.Epoch + 1) % 2) (headT §14)).1).1.Now.length - 102 : Nat) : Int) = ((dFlush (dWrite (dFlush dm).1 ((st.Epoch + 1) % 2) (headT §14)).1).1.Now.length : Int) - 102 by omega]; rfl))
            have hz0 : (ckS (mkS st lg) dk).1.c = (⟨(st.Epoch + 1), (1 - st.Side), ((allB st.Rows).size : Int), (lg.First + lg.Many), st.Rows⟩ : StoC) := congrArg (fun t_ => t_.1) hz
            rw [hz0]
            have hz1 : (ckS (mkS st lg) dk).2.1 = ((dFlush ((dWrite ((dFlush dm).1) ((st.Epoch + 1) % 2) (headT §0)).1)).1) := congrArg (fun t_ => t_.2.1) hz
            rw [hz1]
            have hz2 : (ckS (mkS st lg) dk).1.L = §5 := congrArg (fun t_ => t_.2.2.1) hz
            rw [hz2]
            have hz3 : (ckS (mkS st lg) dk).2.2 = 0 := congrArg (fun t_ => t_.2.2.2) hz
            rw [hz3]
            exact I.wM1 (D := D_) (i := 5) (q_stRows, z28, z29, z30, z31) [9, 0, 1, 2, 3, 4, 11] [3] rfl Try.results26 rfl (RV.cell1 7 rfl rfl tOne_28 rfl) rfl rfl rfl (err0 rfl)
          · refine R.q (q.neqE1 rfl rfl Try.underlying28 (by omega)) rfl <| R.nil <| I.nil ?_
            refine I.condT rfl rfl ?_
            refine I.reg rfl rfl §7 <| R.u 1 rfl <| ?_
            refine R.s rfl (s.st (us := [errv ((dFlush ((dWrite ((dFlush dm).1) ((st.Epoch + 1) % 2) (headT §0)).1)).2)]) (cs' := [errv ((dFlush ((dWrite ((dFlush dm).1) ((st.Epoch + 1) % 2) (headT §0)).1)).2)]) 6 _ rfl rfl rfl (errv_cells _) (.inr ⟨tOne_28, rfl⟩) (errv_all _) rfl rfl rfl) fun _ => ?_
            refine R.nil <| I.nil ?_
            have hz : ((ckS (mkS st lg) dk).1.c, (ckS (mkS st lg) dk).2.1, (ckS (mkS st lg) dk).1.L, (ckS (mkS st lg) dk).2.2) = (st, ((dFlush ((dWrite ((dFlush dm).1) ((st.Epoch + 1) % 2) (headT §0)).1)).1), lg, (dFlush ((dWrite ((dFlush dm).1) ((st.Epoch + 1) % 2) (headT §0)).1)).2) := by (first | (rw [ck_a hp2 he0]; rfl) | (rw [ck_b hp2 he0 §20]; rfl) | (rw [ck_c hp2 he0 §20 §20]; rfl) | (rw [ck_d hp2 he0 §20 §20 §20]; rfl) | (rw [ck_e hp2 he0 §20 §20 §20, show (((dFlush (dWrite (dFlush dm).1 ((st.Epoch + 1) % 2) (headT §14)).1).1.Now.length - 102 : Nat) : Int) = ((dFlush (dWrite (dFlush dm).1 ((st.Epoch + 1) % 2) (headT §14)).1).1.Now.length : Int) - 102 by omega]; rfl))
            have hz0 : (ckS (mkS st lg) dk).1.c = st := congrArg (fun t_ => t_.1) hz
            rw [hz0]
            have hz1 : (ckS (mkS st lg) dk).2.1 = ((dFlush ((dWrite ((dFlush dm).1) ((st.Epoch + 1) % 2) (headT §0)).1)).1) := congrArg (fun t_ => t_.2.1) hz
            rw [hz1]
            have hz2 : (ckS (mkS st lg) dk).1.L = lg := congrArg (fun t_ => t_.2.2.1) hz
            rw [hz2]
            have hz3 : (ckS (mkS st lg) dk).2.2 = (dFlush ((dWrite ((dFlush dm).1) ((st.Epoch + 1) % 2) (headT §0)).1)).2 := congrArg (fun t_ => t_.2.2.2) hz
            rw [hz3]
            exact I.wM1 (D := D_) (i := 4) (q_stRows, z19, z20, z21, b_lg) [8, 0, 1, 2, 3, 9, 10] [1] rfl Try.results26 rfl (RV.cell1 6 rfl rfl tOne_28 rfl) rfl rfl rfl rfl
        · refine R.q (q.eqlE1 rfl rfl Try.underlying28 (by omega)) rfl <| R.nil <| I.nil ?_
          refine I.condF rfl rfl ?_
          refine I.reg rfl rfl §7 <| R.u 1 rfl <| R.q (q.neqE1 rfl rfl Try.underlying28 (by omega)) rfl <| R.nil <| I.nil ?_
          refine I.condT rfl rfl ?_
          refine I.reg rfl rfl §7 <| R.u 1 rfl <| ?_
          refine R.s rfl (s.st (us := [errv ((dWrite ((dFlush dm).1) ((st.Epoch + 1) % 2) (headT §0)).2)]) (cs' := [errv ((dWrite ((dFlush dm).1) ((st.Epoch + 1) % 2) (headT §0)).2)]) 6 _ rfl rfl rfl (errv_cells _) (.inr ⟨tOne_28, rfl⟩) (errv_all _) rfl rfl rfl) fun _ => ?_
          refine R.nil <| I.nil ?_
          have hz : ((ckS (mkS st lg) dk).1.c, (ckS (mkS st lg) dk).2.1, (ckS (mkS st lg) dk).1.L, (ckS (mkS st lg) dk).2.2) = (st, ((dWrite ((dFlush dm).1) ((st.Epoch + 1) % 2) (headT §0)).1), lg, (dWrite ((dFlush dm).1) ((st.Epoch + 1) % 2) (headT §0)).2) := by (first | (rw [ck_a hp2 he0]; rfl) | (rw [ck_b hp2 he0 §20]; rfl) | (rw [ck_c hp2 he0 §20 §20]; rfl) | (rw [ck_d hp2 he0 §20 §20 §20]; rfl) | (rw [ck_e hp2 he0 §20 §20 §20, show (((dFlush (dWrite (dFlush dm).1 ((st.Epoch + 1) % 2) (headT §14)).1).1.Now.length - 102 : Nat) : Int) = ((dFlush (dWrite (dFlush dm).1 ((st.Epoch + 1) % 2) (headT §14)).1).1.Now.length : Int) - 102 by omega]; rfl))
          have hz0 : (ckS (mkS st lg) dk).1.c = st := congrArg (fun t_ => t_.1) hz
          rw [hz0]
          have hz1 : (ckS (mkS st lg) dk).2.1 = ((dWrite ((dFlush dm).1) ((st.Epoch + 1) % 2) (headT §0)).1) := congrArg (fun t_ => t_.2.1) hz
          rw [hz1]
          have hz2 : (ckS (mkS st lg) dk).1.L = lg := congrArg (fun t_ => t_.2.2.1) hz
          rw [hz2]
          have hz3 : (ckS (mkS st lg) dk).2.2 = (dWrite ((dFlush dm).1) ((st.Epoch + 1) % 2) (headT §0)).2 := congrArg (fun t_ => t_.2.2.2) hz
          rw [hz3]
          exact I.wM1 (D := D_) (i := 4) (q_stRows, z16, z17, z18, b_lg) [8, 0, 1, 2, 3, 9, 10] [1] rfl Try.results26 rfl (RV.cell1 6 rfl rfl tOne_28 rfl) rfl rfl rfl rfl
      · refine R.q (q.eqlE1 rfl rfl Try.underlying28 (by omega)) rfl <| R.nil <| I.nil ?_
        refine I.condF rfl rfl ?_
        refine I.reg rfl rfl §7 <| R.u 1 rfl <| R.q (q.eqlE1 rfl rfl Try.underlying28 (by omega)) rfl <| R.nil <| I.nil ?_
        refine I.condF rfl rfl ?_
        refine I.reg rfl rfl §7 <| R.u 1 rfl <| R.q (q.neqE1 rfl rfl Try.underlying28 (by omega)) rfl <| R.nil <| I.nil ?_
        refine I.condT rfl rfl ?_
        refine I.reg rfl rfl §7 <| R.u 1 rfl <| ?_
        refine R.s rfl (s.st (us := [errv ((dFlush dm).2)]) (cs' := [errv ((dFlush dm).2)]) 6 _ rfl rfl rfl (errv_cells _) (.inr ⟨tOne_28, rfl⟩) (errv_all _) rfl rfl rfl) fun _ => ?_
        refine R.nil <| I.nil ?_
        have hz : ((ckS (mkS st lg) dk).1.c, (ckS (mkS st lg) dk).2.1, (ckS (mkS st lg) dk).1.L, (ckS (mkS st lg) dk).2.2) = (st, ((dFlush dm).1), lg, (dFlush dm).2) := by (first | (rw [ck_a hp2 he0]; rfl) | (rw [ck_b hp2 he0 §20]; rfl) | (rw [ck_c hp2 he0 §20 §20]; rfl) | (rw [ck_d hp2 he0 §20 §20 §20]; rfl) | (rw [ck_e hp2 he0 §20 §20 §20, show (((dFlush (dWrite (dFlush dm).1 ((st.Epoch + 1) % 2) (headT §14)).1).1.Now.length - 102 : Nat) : Int) = ((dFlush (dWrite (dFlush dm).1 ((st.Epoch + 1) % 2) (headT §14)).1).1.Now.length : Int) - 102 by omega]; rfl))
        have hz0 : (ckS (mkS st lg) dk).1.c = st := congrArg (fun t_ => t_.1) hz
        rw [hz0]
        have hz1 : (ckS (mkS st lg) dk).2.1 = ((dFlush dm).1) := congrArg (fun t_ => t_.2.1) hz
        rw [hz1]
        have hz2 : (ckS (mkS st lg) dk).1.L = lg := congrArg (fun t_ => t_.2.2.1) hz
        rw [hz2]
        have hz3 : (ckS (mkS st lg) dk).2.2 = (dFlush dm).2 := congrArg (fun t_ => t_.2.2.2) hz
        rw [hz3]
        exact I.wM1 (D := D_) (i := 4) (q_stRows, z10, z11, z12, b_lg) [8, 0, 1, 2, 3, 9, 10] [1] rfl Try.results26 rfl (RV.cell1 6 rfl rfl tOne_28 rfl) rfl rfl rfl rfl
    · rintro D_ ⟨stop, dm_Kept, dm_Now, dm_Wait, dm, er⟩ hD_ hPJ_ hs_
      dsimp only at hPJ_ hs_
      subst hs_
      obtain ⟨hp1, hp2, hp3⟩ := hPJ_; have he0 : ¬ er = 0 := by simpa using hp1.symm
      have hz : ((ckS (mkS st lg) dk).1.c, (ckS (mkS st lg) dk).2.1, (ckS (mkS st lg) dk).1.L, (ckS (mkS st lg) dk).2.2) = (st, dm, lg, er) := by (first | (rw [ck_a hp2 he0]; rfl) | (rw [ck_b hp2 he0 §20]; rfl) | (rw [ck_c hp2 he0 §20 §20]; rfl) | (rw [ck_d hp2 he0 §20 §20 §20]; rfl) | (rw [ck_e hp2 he0 §20 §20 §20, show (((dFlush (dWrite (dFlush dm).1 ((st.Epoch + 1) % 2) (headT §14)).1).1.Now.length - 102 : Nat) : Int) = ((dFlush (dWrite (dFlush dm).1 ((st.Epoch + 1) % 2) (headT §14)).1).1.Now.length : Int) - 102 by omega]; rfl))
      have hz0 : (ckS (mkS st lg) dk).1.c = st := congrArg (fun t_ => t_.1) hz
      rw [hz0]
      have hz1 : (ckS (mkS st lg) dk).2.1 = dm := congrArg (fun t_ => t_.2.1) hz
      rw [hz1]
      have hz2 : (ckS (mkS st lg) dk).1.L = lg := congrArg (fun t_ => t_.2.2.1) hz
      rw [hz2]
      have hz3 : (ckS (mkS st lg) dk).2.2 = er := congrArg (fun t_ => t_.2.2.2) hz
      rw [hz3]
      exact I.wM1 (D := D_) (i := 0) (q_stRows, dm_Kept, dm_Now, dm_Wait, b_lg) [4, 5, 6, 7, 8, 9, 10] [1] rfl Try.results26 rfl (RV.cell1 2 rfl rfl tOne_28 rfl) rfl rfl rfl rfl

end Go.Proofs.Ytpipachmngdegaa
end
