import Derived.Test.YtpipachmngdegaaStoreSaysProofG15
import Derived.Test.YtpipachmngdegaaStoreSaysProofG16
import Derived.Test.YtpipachmngdegaaStoreSaysProofG17
import Derived.Test.YtpipachmngdegaaStoreSaysProofG18
section
/-
  The walks of chapter 7: a disk. The program's.
-/
namespace Go.Proofs.Ytpipachmngdegaa
open Go Go.RowKit
set_option linter.unusedVariables false
set_option linter.unusedSimpArgs false
set_option maxRecDepth 100000
set_option hygiene false
local macro:max "§0" : term => `([Res.box b_dk [q_dkKept, q_dkNow, q_dkWait, .int .i64 dk.Fuse, .bool dk.Down] 81, Res.row 9 q_dkKept (dk.Kept : List ByteArray), Res.row 9 q_dkNow (dk.Now : List ByteArray), Res.row 83 q_dkWait (dk.Wait : List Turn)])
local macro:max "§1" : term => `((by kernel_rfl))
local macro:max "§2" : term => `((fun _ => Wd.pik [1, 2, 4] [] rfl rfl rfl))
local macro:max "§3" : term => `((fun _ => Wd.pik [2, 3, 5] [] rfl rfl rfl))
local macro:max "§4" : term => `([Res.box b_dk [q_dkKept, q_dkNow, q_dkWait, .int .i64 dk.Fuse, .bool dk.Down] 81, Res.row 9 q_dkKept (dk.Kept : List ByteArray), Res.row 9 q_dkNow (dk.Now : List ByteArray), Res.row 83 q_dkWait (dk.Wait : List Turn), Res.held w own])
local macro:max "§5" : term => `((fun _ => Wd.pik [1, 3, 4] [] rfl rfl rfl))
local macro:max "§6" : term => `((by first | omega | (simp; omega)))
local macro:max "§7" : term => `((by assumption))
local macro:max "§8" : term => `((s.callV (B0 := §0) (Br := [Res.held w own]) (F0 := []) [0, 1, 2, 3, 4] [] (fun g_ : Value × Value × Value => errv (((dStep dk)).2)) (fun g_ : Value × Value × Value => [Res.box b_dk [g_.1, g_.2.1, g_.2.2, .int .i64 ((((dStep dk)).1).Fuse), .bool ((((dStep dk)).1).Down)] 81, Res.row 9 g_.1 ((((dStep dk)).1).Kept : List ByteArray), Res.row 9 g_.2.1 ((((dStep dk)).1).Now : List ByteArray), Res.row 83 g_.2.2 ((((dStep dk)).1).Wait : List Turn)]) (fun g_ : Value × Value × Value => []) rfl rfl rfl eg_41 rfl rfl (fun w own hw H => dStep_any b_dk q_dkKept q_dkNow q_dkWait (dk) w own H (by first | assumption | omega)) rfl))
local macro:max "§9" : term => `((by (first | (rw [dRead_down §7]; done) | (rw [dRead_bad §7 (by omega)]; done) | (rw [dRead_ok §7 (by omega) rfl]; done))))
local macro:max "§10" : term => `((s.c (Qt.a (q.ld 0 rfl rfl tOne_22 rfl)) rfl))
local macro:max "§11" : term => `((fun _ => Wd.pik [1] [0] rfl rfl rfl))
local macro:max "§12" : term => `((fun _ => Wd.pik [2, 3, 4] [] rfl rfl rfl))
local macro:max "§13" : term => `((q.fld (off' := 2) rfl tFld_81_2 rfl))
local macro:max "§14" : term => `((by (exact ⟨by omega, by rw [layT_snoc hx1, ← HK]; show _ = (if bitOf kp j = true then ks.set x1.At.toNat x1.Data else ks); first | (rw [if_pos (show bitOf kp j = true from decide_eq_true §7)]; done) | (rw [if_neg (show ¬ bitOf kp j = true from fun hh => absurd (of_decide_eq_true (show decide (kp / ((2 ^ (j % 64) : Nat) : Int) % 2 = 1) = true from hh)) §7)]; done)⟩)))
local macro:max "§15" : term => `(((⟨((dStep dk).1).Kept, ((((dStep dk).1).Now).set i.toNat (full sx)), ((((dStep dk).1).Wait) ++ ([(⟨i, x2⟩ : Turn)])), ((dStep dk).1).Fuse, ((dStep dk).1).Down⟩ : Dsk), (dStep dk).2))
local macro:max "§16" : term => `(((⟨((dStep dk).1).Kept, ((((dStep dk).1).Now).set i.toNat (full sx)), ((((dStep dk).1).Wait) ++ ([(⟨i, x3⟩ : Turn)])), ((dStep dk).1).Fuse, ((dStep dk).1).Down⟩ : Dsk), (dStep dk).2))
local macro:max "§17" : term => `((fun _ => Wd.pik [0, 3, 4, 5] [] rfl rfl rfl))
local macro:max "§18" : term => `((fun w hw => (one_cons (Sl.one ((fun _ => Wd.row 4 rfl) w hw)) one_nil)))
local macro:max "§19" : term => `((fun g_ : Value × Value × Value => [Res.box b_dk [g_.1, g_.2.1, g_.2.2, .int .i64 ((((dStep dk)).1).Fuse), .bool ((((dStep dk)).1).Down)] 81, Res.row 9 g_.1 ((((dStep dk)).1).Kept : List ByteArray), Res.row 9 g_.2.1 ((((dStep dk)).1).Now : List ByteArray), Res.row 83 g_.2.2 ((((dStep dk)).1).Wait : List Turn), Res.held w own]))
local macro:max "§20" : term => `((q.fld (off' := 1) rfl tFld_81_1 rfl))
local macro:max "§21" : term => `((q.fld (off' := 4) rfl tFld_81_4 rfl))
local macro:max "§22" : term => `((fun _ => Wd.row 0 rfl))
local macro:max "§23" : term => `((fun w hw => Sl.cells1 ((fun _ => Wd.row 4 rfl) w hw)))
local macro:max "§24" : term => `((q.lss rfl rfl (decide_eq_false (by omega))))
local macro:max "§25" : term => `([Res.held w own])

theorem clonestring_any (v_l : Value) (l : List ByteArray) (w : World) (own : List Nat) (H : Wd w (blks [] ++ own) ([] ++ §25) [Res.ls v_l (l : List ByteArray)] w) (hl : l.length ≤ 1000000) : Calls Try.prog 40 #[v_l] w fun e w' => ∃ z : Value, e = .returned (z) ∧ Wd w (blks [] ++ own) ([Res.row 9 z (l : List ByteArray)] ++ §25) [] w' := by
  have m_l := H.lenF 0 rfl
  refine R.enterN (n := 8) (vs := [v_l]) (B := §25) [(0, v_l)] Try.func40 rfl rfl rfl rfl H ?_
  refine R.reg rfl <| R.u 1 rfl <| R.nil ?_
  refine R.reg rfl <| R.u 1 rfl <| ?_
  rcases Bool.eq_false_or_eq_true (snil v_l) with h1 | h1
  · refine R.q (q.cvb (congrArg Value.bool h1) (q.eqlSl (fun _ => Wd.fls 0 rfl) rfl rfl Try.underlying22)) rfl <| R.nil ?_
    refine R.condT rfl rfl ?_
    refine R.reg rfl <| R.u 1 rfl <| R.nil ?_
    refine R.row0 (α := ByteArray) 9 ?_
    have hz : l = [] := by (first | rfl | exact (List.nil_append _).symm | exact Sl.snil (H.fls 0 rfl) §7)
    rw [hz]
    exact R.w1 (.slice none 0 0) [0, 1] [] rfl Try.results40 (RV.tmp rfl) rfl rfl rfl rfl
  · refine R.q (q.cvb (congrArg Value.bool h1) (q.eqlSl (fun _ => Wd.fls 0 rfl) rfl rfl Try.underlying22)) rfl <| R.nil ?_
    refine R.condF rfl rfl ?_
    refine R.reg rfl <| ?_
    refine R.s rfl (s.bs (l := ([] : List ByteArray)) tSl_22 tZero_9 rfl rfl rfl rfl rfl rfl rfl) fun b1 => ?_
    refine R.u 1 rfl <| ?_
    refine R.s rfl (s.app (l2 := l) 0 _ rfl rfl rfl (fun _ => Wd.fls 0 rfl) tApp_22 (by simp; omega) (by simp; omega) (fun _ => rfl) rfl) fun v1 => ?_
    refine R.u 1 rfl <| R.nil ?_
    have hz : l = (([]) ++ l) := by (first | rfl | exact (List.nil_append _).symm | exact Sl.snil (H.fls 0 rfl) §7)
    rw [hz]
    exact R.w1 v1 [0, 1] [] rfl Try.results40 (RV.tmp rfl) rfl rfl rfl rfl

theorem full_any (sx : ByteArray) (w : World) (hs : sx.size ≤ 48) : Calls Try.prog 39 #[.string sx] w fun e w' => e = .returned (.string (full sx)) ∧ Ext w w' := by
  refine R.enter (n := 10) (vs := [.string sx]) [] [(0, .string sx)] Try.func39 rfl rfl rfl rfl ?_
  refine R.reg rfl <| R.u 1 rfl <| R.nil ?_
  refine R.reg rfl <| R.u 2 rfl <| R.q (q.lenS rfl Try.underlying9) rfl <| R.q (q.sub (r := ((48 - sx.size : Nat) : Int)) rfl rfl (wr (by omega))) rfl <| ?_
  refine R.s rfl (s.mksl (m := (48 - sx.size)) tSl_109 rfl rfl rfl rfl rfl (by omega) rfl) fun b1 => ?_
  refine R.q (q.b2s §22 rfl tSl_109 Try.underlying5 Try.underlying9) rfl <| R.q (q.cat rfl rfl (by rw [lit_size (List.replicate _ _), List.length_replicate]; omega)) rfl <| R.u 1 rfl <| R.nil ?_
  exact R.rv rfl Try.results39 rfl (rS (by (rfl)))

theorem bitsMul_one (n : Nat) (w : World) (hn : n ≤ 1000000) : Calls Try.prog 61 #[.int .u64 ((1 : Nat) : Int), .int .u64 (n : Int)] w fun e w' => e = .returned (.tuple #[.int .u64 0, .int .u64 (n : Int)]) ∧ Ext w w' :=
  (Try.bits_Mul 1 n (by decide) (by omega) w).mono fun e w' ⟨h1, h2⟩ => ⟨by
    rw [h1, Nat.one_mul, Nat.div_eq_of_lt (by omega), Nat.mod_eq_of_lt (by omega)]; rfl, by rw [h2]; exact Ext.refl _⟩
theorem bitsMul_any (a n : Nat) (w : World) (hn : a = 1 ∧ n ≤ 1000000) : Calls Try.prog 61 #[.int .u64 (a : Int), .int .u64 (n : Int)] w fun e w' => e = .returned (.tuple #[.int .u64 0, .int .u64 (n : Int)]) ∧ Ext w w' := by
  obtain ⟨rfl, hn⟩ := hn; exact bitsMul_one n w hn
theorem rep_more {α : Type} {l x : List α} {a : α} {n k : Nat} (hx : x = List.replicate k a ++ l) (m : Nat) (hm : m ≤ k) (hl : k + m ≤ x.length) : x.take k ++ (x.take k).take m ++ x.drop (k + m) = List.replicate (k + m) a ++ l.drop m := by
  subst hx
  have h1 : (List.replicate k a).length = k := List.length_replicate
  rw [List.take_left' h1, List.take_replicate, Nat.min_eq_left hm, List.drop_append, h1, List.drop_of_length_le (by rw [h1]; omega), List.nil_append, show k + m - k = m by omega, ← List.replicate_append_replicate]

theorem repeatS_any (v_l : Value) (l : List ByteArray) (n : Nat) (w : World) (own : List Nat) (H : Wd w (blks [] ++ own) ([] ++ §25) [Res.ls v_l (l : List ByteArray)] w) (hl : l.length = 1) (hn : 1 ≤ n ∧ n ≤ 1000) : Calls Try.prog 38 #[v_l, .int .i64 (n : Int)] w fun e w' => ∃ z : Value, e = .returned (z) ∧ Wd w (blks [] ++ own) ([Res.row 9 z ((List.replicate n (l.headD ⟨#[]⟩)) : List ByteArray)] ++ §25) [] w' := by
  have m_l := H.lenF 0 rfl
  refine R.enterN (n := 48) (vs := [v_l, .int .i64 (n : Int)]) (B := §25) [(0, v_l), (1, .int .i64 (n : Int))] Try.func38 rfl rfl rfl rfl H ?_
  refine R.reg rfl <| R.u 1 rfl <| R.nil ?_
  refine R.reg rfl <| R.u 1 rfl <| R.q §24 rfl <| R.nil ?_
  refine R.condF rfl rfl ?_
  refine R.reg rfl <| R.u 1 rfl <| R.q (q.len' (fun _ => Wd.fls 0 rfl) rfl Try.underlying22) rfl <| R.q (q.cvi (r := ((l.length : Nat) : Int)) rfl (by rw [Try.underlying3]; rfl) Try.underlying111 (wr_u64 (by omega))) rfl <| R.u 1 rfl <| R.q (q.cvi (r := ((n : Nat) : Int)) rfl (by rw [Try.underlying3]; rfl) Try.underlying111 (wr_u64 (by omega))) rfl <| R.c (q.call eg_61 rfl rfl (fun w hw => (bitsMul_any (l.length) (n) w  (by omega)))) rfl <| R.u 5 rfl <| R.nil ?_
  refine R.reg rfl <| R.u 1 rfl <| R.q (q.gtr (b := false) rfl rfl (by decide)) rfl <| R.u 2 rfl <| R.qg rfl (q.gtr rfl rfl (decide_eq_false (by omega))) rfl <| R.u 1 rfl <| R.nil ?_
  refine R.condF rfl rfl ?_
  refine R.reg rfl <| R.u 1 rfl <| R.q (q.cvi (r := ((n : Nat) : Int)) rfl (by rw [Try.underlying111]; rfl) Try.underlying3 (wr (by omega))) rfl <| ?_
  refine R.s rfl (s.mkslZ (m := n) (z0 := (⟨#[]⟩ : ByteArray)) tSl_22 rfl rfl rfl (by decide) rfl rfl (by simp [Enc.k]; omega) rfl) fun b1 => ?_
  refine R.u 1 rfl <| R.nil ?_
  refine R.reg rfl <| R.u 2 rfl <| ?_
  refine R.s rfl (s.cpyMin (o := 0) (m := 1) (l2 := l) 0 _ rfl (fun _ => Wd.fls 0 rfl) rfl (.inr ⟨rfl, rfl⟩) rfl tSl_22 §6 §6 §6 §6 rfl rfl) fun _ => ?_
  refine R.u 1 rfl <| R.nil ?_
  refine R.loop (fun g_ : Nat × Value × (List ByteArray) => [(7, g_.2.1), (8, .int .i64 (g_.1 : Int))]) (fun g_ : Nat × Value × (List ByteArray) => [Res.row 9 g_.2.1 (g_.2.2 : List ByteArray), Res.held w own]) (fun g_ : Nat × Value × (List ByteArray) => [Res.ls v_l (l : List ByteArray)]) (fun g_ : Nat × Value × (List ByteArray) => 1 ≤ g_.1 ∧ g_.1 ≤ n ∧ g_.2.2 = List.replicate g_.1 (l.headD ⟨#[]⟩) ++ List.replicate (n - g_.1) (⟨#[]⟩ : ByteArray)) (fun g_ : Nat × Value × (List ByteArray) => n - g_.1) (1, (.slice (some ⟨b1, 0, none⟩) n n), ((List.replicate n (⟨#[]⟩ : ByteArray)).take 0 ++ l.take 1 ++ (List.replicate n (⟨#[]⟩ : ByteArray)).drop (0 + 1))) rfl (by refine ⟨by omega, by omega, ?_⟩; match l, hl with | [a], _ => simp) ⟨rfl, rfl, trivial⟩ (fun _ => Wd.pick [0, 1] [0] rfl rfl rfl) ?_
  rintro ⟨k, u, rs⟩ ⟨hk0, hk, HR⟩
  dsimp only at *
  have hrl : rs.length = n := by rw [HR]; simp; omega
  refine R.reg rfl <| R.u 2 rfl <| R.q (q.len' §22 rfl Try.underlying22) rfl <| ?_
  by_cases h1 : k < rs.length
  · refine R.q (q.lss rfl rfl (decide_eq_true (by omega))) rfl <| R.nil ?_
    refine R.condT rfl rfl ?_
    refine R.regD (fuel := 10) (Wd w (blks [] ++ own) §25 [Res.ls v_l (l : List ByteArray)]) rfl mixed rfl ?_
    refine D.q (i := 0) rfl §1 §11 rfl (q.mv rfl) rfl <| D.q (i := 1) rfl §1 §11 rfl (q.mv rfl) rfl <| D.q (i := 2) rfl §1 §11 rfl (q.mv rfl) rfl <| D.q (i := 4) rfl §1 §11 rfl (q.mv rfl) rfl <| D.q (i := 5) rfl §1 §11 rfl (q.mv rfl) rfl <| ?_
    refine D.two (i := 3) (j := 6) §1 rfl rfl ?_ ?_
    · refine Do.s (s.c (Qt.a (q.sfrom (i := k) §22 rfl rfl tSl_22 rfl §6)) rfl) (fun _ => §11) rfl fun _ => ?_
      refine D.one (i := 6) §1 rfl ?_
      refine Do.s (s.c (Qt.a (q.sto (i := k) §22 rfl rfl Try.underlying22 tInf_22 rfl §6)) rfl) (fun _ => §11) rfl fun _ => ?_
      refine D.one (i := 7) §1 rfl ?_
      refine Do.s (s.cpyMin (o := k) (m := (min k (n - k))) (l2 := (rs.take k)) 0 _ rfl (fun w hw => Sl.to (§22 w hw) (by omega)) rfl (.inl rfl) rfl tSl_22 §6 §6 §6 §6 rfl rfl) (fun _ => §11) rfl fun _ => ?_
      refine D.q (i := 8) rfl §1 §11 rfl (q.add (r := ((k + (min k (n - k)) : Nat) : Int)) rfl rfl (wr (by omega))) rfl <| D.q (i := 9) rfl §1 §11 rfl (q.as rfl) rfl <| D.done §1 <| ?_
      refine R.back (k + min k (n - k), u, (rs.take k ++ (rs.take k).take (min k (n - k)) ++ rs.drop (k + (min k (n - k))))) rfl (by (refine ⟨by omega, by omega, ?_⟩; rw [rep_more (n := n) HR (min k (n - k)) (by omega) (by omega), List.drop_replicate, show n - k - min k (n - k) = n - (k + min k (n - k)) by omega])) (by dsimp only; omega) ⟨rfl, rfl, trivial⟩ (fun _ => Wd.pik [0, 1] [0] rfl rfl rfl)
    · refine Do.s (s.c (Qt.a (q.sto (i := k) §22 rfl rfl Try.underlying22 tInf_22 rfl §6)) rfl) (fun _ => §11) rfl fun _ => ?_
      refine D.one (i := 3) §1 rfl ?_
      refine Do.s (s.c (Qt.a (q.sfrom (i := k) §22 rfl rfl tSl_22 rfl §6)) rfl) (fun _ => §11) rfl fun _ => ?_
      refine D.one (i := 7) §1 rfl ?_
      refine Do.s (s.cpyMin (o := k) (m := (min k (n - k))) (l2 := (rs.take k)) 0 _ rfl (fun w hw => Sl.to (§22 w hw) (by omega)) rfl (.inl rfl) rfl tSl_22 §6 §6 §6 §6 rfl rfl) (fun _ => §11) rfl fun _ => ?_
      refine D.q (i := 8) rfl §1 §11 rfl (q.add (r := ((k + (min k (n - k)) : Nat) : Int)) rfl rfl (wr (by omega))) rfl <| D.q (i := 9) rfl §1 §11 rfl (q.as rfl) rfl <| D.done §1 <| ?_
      refine R.back (k + min k (n - k), u, (rs.take k ++ (rs.take k).take (min k (n - k)) ++ rs.drop (k + (min k (n - k))))) rfl (by (refine ⟨by omega, by omega, ?_⟩; rw [rep_more (n := n) HR (min k (n - k)) (by omega) (by omega), List.drop_replicate, show n - k - min k (n - k) = n - (k + min k (n - k)) by omega])) (by dsimp only; omega) ⟨rfl, rfl, trivial⟩ (fun _ => Wd.pik [0, 1] [0] rfl rfl rfl)
  · refine R.q §24 rfl <| R.nil ?_
    refine R.condF rfl rfl ?_
    refine R.reg rfl <| R.u 2 rfl <| R.nil ?_
    have hz : List.replicate n (l.headD ⟨#[]⟩) = rs := by (rw [HR, show k = n by omega]; simp)
    rw [hz]
    exact R.w1 u [0, 1] [] rfl Try.results38 (RV.tmp rfl) rfl rfl rfl rfl

theorem newD_any (n : Int) (w : World) (own : List Nat) (H : Wd w (blks [] ++ own) ([] ++ §25) [] w) (hn : 1 ≤ n ∧ n ≤ 200) : Calls Try.prog 9 #[.int .i64 n] w fun e w' => ∃ z : Nat × Value × Value × Value, e = .returned (.tuple #[.pointer (some ⟨z.1, 0, none⟩), .nilIface]) ∧ Wd w (blks [] ++ own) ([Res.box z.1 [z.2.1, z.2.2.1, z.2.2.2, .int .i64 (((dNew (Int.toNat n))).Fuse), .bool (((dNew (Int.toNat n))).Down)] 81, Res.row 9 z.2.1 (((dNew (Int.toNat n))).Kept : List ByteArray), Res.row 9 z.2.2.1 (((dNew (Int.toNat n))).Now : List ByteArray), Res.row 83 z.2.2.2 (((dNew (Int.toNat n))).Wait : List Turn)] ++ §25) [] w' := by
  obtain ⟨nN, hnN⟩ : ∃ m : Nat, n = (m : Int) := ⟨n.toNat, by omega⟩; subst hnN
  refine R.enterN (n := 21) (vs := [.int .i64 (nN : Int)]) (B := §25) [(0, .int .i64 (nN : Int))] Try.func9 rfl rfl rfl rfl H ?_
  refine R.reg rfl <| R.u 2 rfl <| R.nil ?_
  refine R.reg rfl <| R.u 1 rfl <| R.q §24 rfl <| R.u 2 rfl <| R.qg rfl (q.gtr rfl rfl (decide_eq_false (by omega))) rfl <| R.u 1 rfl <| R.nil ?_
  refine R.condF rfl rfl ?_
  refine R.reg rfl <| R.c (q.call eg_39 rfl rfl (fun w hw => (full_any (⟨#[]⟩) w  (by first | omega | assumption | (simp; done) | decide)))) rfl <| ?_
  refine R.s rfl (s.bs (l := ([full (⟨#[]⟩)] : List ByteArray)) tSl_22 tZero_9 rfl rfl rfl rfl rfl rfl rfl) fun b1 => ?_
  refine R.u 1 rfl <| ?_
  refine R.s (B' := (fun bz0_ : Value => [Res.row 9 bz0_ ((List.replicate nN (([full (⟨#[]⟩)]).headD ⟨#[]⟩)) : List ByteArray), Res.row 9 (.slice (some ⟨b1, 0, none⟩) 1 1) ([full (⟨#[]⟩)] : List ByteArray), Res.held w own])) (F' := (fun bz0_ : Value => [])) rfl (s.callVB (B0 := []) (Bl := [Res.row 9 (.slice (some ⟨b1, 0, none⟩) 1 1) ([full (⟨#[]⟩)] : List ByteArray)]) (Br := §25) (F0 := [Res.ls (.slice (some ⟨b1, 0, none⟩) 1 1) ([full (⟨#[]⟩)] : List ByteArray)]) (Fl := [Res.ls (.slice (some ⟨b1, 0, none⟩) 1 1) ([full (⟨#[]⟩)] : List ByteArray)]) [0, 1] [0] (fun bz0_ : Value => bz0_) (fun bz0_ : Value => [Res.row 9 bz0_ ((List.replicate nN (([full (⟨#[]⟩)]).headD ⟨#[]⟩)) : List ByteArray)]) rfl rfl (lend_cons lend_nil) rfl eg_38 rfl rfl (fun w own hw H => repeatS_any (.slice (some ⟨b1, 0, none⟩) 1 1) ([full (⟨#[]⟩)]) (nN) w own H (by first | rfl | omega) (by omega)) rfl) fun z1 => ?_
  refine R.u 1 rfl <| R.nil ?_
  refine R.reg rfl <| R.u 2 rfl <| ?_
  refine R.s (B' := (fun bz0_ : Value => [Res.row 9 bz0_ ((List.replicate nN (([full (⟨#[]⟩)]).headD ⟨#[]⟩)) : List ByteArray), Res.row 9 z1 (List.replicate nN (([full (⟨#[]⟩)]).headD ⟨#[]⟩) : List ByteArray), Res.row 9 (.slice (some ⟨b1, 0, none⟩) 1 1) ([full (⟨#[]⟩)] : List ByteArray), Res.held w own])) (F' := (fun bz0_ : Value => [])) rfl (s.callVB (B0 := []) (Bl := [Res.row 9 z1 (List.replicate nN (([full (⟨#[]⟩)]).headD ⟨#[]⟩) : List ByteArray)]) (Br := [Res.row 9 (.slice (some ⟨b1, 0, none⟩) 1 1) ([full (⟨#[]⟩)] : List ByteArray), Res.held w own]) (F0 := [Res.ls z1 (List.replicate nN (([full (⟨#[]⟩)]).headD ⟨#[]⟩) : List ByteArray)]) (Fl := [Res.ls z1 (List.replicate nN (([full (⟨#[]⟩)]).headD ⟨#[]⟩) : List ByteArray)]) [0, 1, 2] [0] (fun bz0_ : Value => bz0_) (fun bz0_ : Value => [Res.row 9 bz0_ ((List.replicate nN (([full (⟨#[]⟩)]).headD ⟨#[]⟩)) : List ByteArray)]) rfl rfl (lend_cons lend_nil) rfl eg_40 rfl rfl (fun w own hw H => clonestring_any z1 (List.replicate nN (([full (⟨#[]⟩)]).headD ⟨#[]⟩)) w own H (by first | omega | assumption | (simp; done) | (simp; omega))) rfl) fun z2 => ?_
  refine R.q (q.buildV (cs := [z1, z2, .slice none 0 0, .int .i64 (-1), .bool false]) tB_81 rfl (fun w hw => (um_cons (Sl.cellsL ((fun _ => Wd.row 1 rfl) w hw)) (um_cons (Sl.cellsL (§22 w hw)) (um_cons rfl um_nil)))) rfl) rfl <| ?_
  refine R.s rfl (s.box (cs := [z1, z2, .slice none 0 0, .int .i64 (-1), .bool false]) rfl rfl rfl) fun b2 => ?_
  refine R.u 2 rfl <| R.nil ?_
  refine R.row0 (α := Turn) 83 ?_
  have hz : dNew (Int.toNat ((nN : Nat) : Int)) = (⟨List.replicate nN (([full (⟨#[]⟩)]).headD ⟨#[]⟩), (List.replicate nN (([full (⟨#[]⟩)]).headD ⟨#[]⟩)), [], -1, false⟩ : Dsk) := by (rfl)
  rw [hz]
  exact R.w2 (b2, z1, z2, (.slice none 0 0)) [1, 3, 2, 0, 5] [] rfl Try.results9 (RV.tmp rfl) (RV.tmp rfl) rfl rfl rfl (tup2 rfl rfl)

theorem newD_bad (n : Int) (w : World) (hn : ¬ (1 ≤ n ∧ n ≤ 200)) : Calls Try.prog 9 #[.int .i64 n] w fun e w' => e = .returned (.tuple #[.pointer none, errv 1]) ∧ Ext w w' := by
  refine R.enter (n := 21) (vs := [.int .i64 n]) [] [(0, .int .i64 n)] Try.func9 rfl rfl rfl rfl ?_
  refine R.reg rfl <| R.u 2 rfl <| R.nil ?_
  refine R.reg rfl <| R.u 1 rfl <| ?_
  by_cases h1 : n < 1
  · refine R.q (q.lss rfl rfl (decide_eq_true (by omega))) rfl <| R.u 4 rfl <| R.nil ?_
    refine R.condT rfl rfl ?_
    refine R.reg rfl <| R.q (q.iface rfl con_75) rfl <| R.u 2 rfl <| R.nil ?_
    exact R.rv2 rfl Try.results9 rfl rfl rfl (errk (by decide) (by (rfl)))
  · refine R.q §24 rfl <| R.u 2 rfl <| ?_
    by_cases h2 : 200 < n
    · refine R.qg rfl (q.gtr rfl rfl (decide_eq_true (by omega))) rfl <| R.u 1 rfl <| R.nil ?_
      refine R.condT rfl rfl ?_
      refine R.reg rfl <| R.q (q.iface rfl con_75) rfl <| R.u 2 rfl <| R.nil ?_
      exact R.rv2 rfl Try.results9 rfl rfl rfl (errk (by decide) (by (rfl)))
    · exfalso; omega

theorem dSectors_any (b_dk : Nat) (q_dkKept q_dkNow q_dkWait : Value) (dk : Dsk) (w : World) (k_dk : (Res.box b_dk [q_dkKept, q_dkNow, q_dkWait, .int .i64 dk.Fuse, .bool dk.Down] 81).ok w) (s_q_dkKept : Sl w q_dkKept (dk.Kept : List ByteArray)) (s_q_dkNow : Sl w q_dkNow (dk.Now : List ByteArray)) (s_q_dkWait : Sl w q_dkWait (dk.Wait : List Turn)) : Calls Try.prog 12 #[.pointer (some ⟨b_dk, 0, none⟩)] w fun e w' => e = .returned (.int .i64 (dk.Now.length : Int)) ∧ Ext w w' := by
  refine R.enter (n := 8) (vs := [.pointer (some ⟨b_dk, 0, none⟩)]) [] [(0, .pointer (some ⟨b_dk, 0, none⟩))] Try.func12 rfl rfl rfl rfl ?_
  refine R.oldL s_q_dkKept ?_
  refine R.oldL s_q_dkNow ?_
  refine R.oldL s_q_dkWait ?_
  refine R.oldF (r := Res.box b_dk [q_dkKept, q_dkNow, q_dkWait, .int .i64 dk.Fuse, .bool dk.Down] 81) k_dk (box_lt k_dk) ?_
  refine R.reg rfl <| R.u 1 rfl <| R.nil ?_
  refine R.reg rfl <| R.u 1 rfl <| R.q (q.nilc rfl) rfl <| R.q §20 rfl <| R.q (q.ldF 0 rfl rfl tOne_22 rfl) rfl <| R.q (q.len' (fun _ => Wd.fls 2 rfl) rfl Try.underlying22) rfl <| R.u 1 rfl <| R.nil ?_
  exact R.rv rfl Try.results12 rfl (rI (by (rfl)))

theorem dDown_any (b_dk : Nat) (q_dkKept q_dkNow q_dkWait : Value) (dk : Dsk) (w : World) (k_dk : (Res.box b_dk [q_dkKept, q_dkNow, q_dkWait, .int .i64 dk.Fuse, .bool dk.Down] 81).ok w) (s_q_dkKept : Sl w q_dkKept (dk.Kept : List ByteArray)) (s_q_dkNow : Sl w q_dkNow (dk.Now : List ByteArray)) (s_q_dkWait : Sl w q_dkWait (dk.Wait : List Turn)) : Calls Try.prog 42 #[.pointer (some ⟨b_dk, 0, none⟩)] w fun e w' => e = .returned (.bool dk.Down) ∧ Ext w w' := by
  refine R.enter (n := 7) (vs := [.pointer (some ⟨b_dk, 0, none⟩)]) [] [(0, .pointer (some ⟨b_dk, 0, none⟩))] Try.func42 rfl rfl rfl rfl ?_
  refine R.oldL s_q_dkKept ?_
  refine R.oldL s_q_dkNow ?_
  refine R.oldL s_q_dkWait ?_
  refine R.oldF (r := Res.box b_dk [q_dkKept, q_dkNow, q_dkWait, .int .i64 dk.Fuse, .bool dk.Down] 81) k_dk (box_lt k_dk) ?_
  refine R.reg rfl <| R.u 1 rfl <| R.nil ?_
  refine R.reg rfl <| R.u 1 rfl <| R.q (q.nilc rfl) rfl <| R.q §21 rfl <| R.q (q.ldF 0 rfl rfl tOne_4 rfl) rfl <| R.u 1 rfl <| R.nil ?_
  exact R.rv rfl Try.results42 rfl (rB (by (rfl)))

theorem dRead_any (b_dk : Nat) (q_dkKept q_dkNow q_dkWait : Value) (dk : Dsk) (i : Int) (w : World) (k_dk : (Res.box b_dk [q_dkKept, q_dkNow, q_dkWait, .int .i64 dk.Fuse, .bool dk.Down] 81).ok w) (s_q_dkKept : Sl w q_dkKept (dk.Kept : List ByteArray)) (s_q_dkNow : Sl w q_dkNow (dk.Now : List ByteArray)) (s_q_dkWait : Sl w q_dkWait (dk.Wait : List Turn)) : Calls Try.prog 14 #[.pointer (some ⟨b_dk, 0, none⟩), .int .i64 i] w fun e w' => e = .returned (.tuple #[.string ((dRead dk i).1), errv ((dRead dk i).2)]) ∧ Ext w w' := by
  refine R.enter (n := 30) (vs := [.pointer (some ⟨b_dk, 0, none⟩), .int .i64 i]) [] [(0, .pointer (some ⟨b_dk, 0, none⟩)), (1, .int .i64 i)] Try.func14 rfl rfl rfl rfl ?_
  refine R.oldL s_q_dkKept ?_
  refine R.oldL s_q_dkNow ?_
  refine R.oldL s_q_dkWait ?_
  refine R.oldF (r := Res.box b_dk [q_dkKept, q_dkNow, q_dkWait, .int .i64 dk.Fuse, .bool dk.Down] 81) k_dk (box_lt k_dk) ?_
  refine R.reg rfl <| R.u 2 rfl <| R.nil ?_
  refine R.reg rfl <| R.u 1 rfl <| R.q (q.nilc rfl) rfl <| R.q §21 rfl <| R.q (q.ldF 0 rfl rfl tOne_4 rfl) rfl <| R.nil ?_
  refine R.cond rfl rfl (fun h1 => ?_) (fun h1 => ?_)
  · refine R.reg rfl <| R.q (q.iface rfl con_75) rfl <| R.u 2 rfl <| R.nil ?_
    exact R.rv2 rfl Try.results14 rfl rfl (rS §9) (errk (by decide) §9)
  · refine R.reg rfl <| R.u 1 rfl <| ?_
    by_cases h2 : i < 0
    · refine R.q (q.lss rfl rfl (decide_eq_true (by omega))) rfl <| R.u 9 rfl <| R.nil ?_
      refine R.condT rfl rfl ?_
      refine R.reg rfl <| R.q (q.iface rfl con_75) rfl <| R.u 2 rfl <| R.nil ?_
      exact R.rv2 rfl Try.results14 rfl rfl (rS §9) (errk (by decide) §9)
    · refine R.q §24 rfl <| R.u 3 rfl <| R.qg rfl (q.nilc rfl) rfl <| R.qg rfl §20 rfl <| R.qg rfl (q.ldF 0 rfl rfl tOne_22 rfl) rfl <| R.qg rfl (q.len' (fun _ => Wd.fls 2 rfl) rfl Try.underlying22) rfl <| ?_
      by_cases h3 : i < (dk.Now.length : Int)
      · refine R.qg rfl (q.geq rfl rfl (decide_eq_false (by omega))) rfl <| R.u 1 rfl <| R.nil ?_
        refine R.condF rfl rfl ?_
        refine R.reg rfl <| R.u 1 rfl <| R.q (q.nilc rfl) rfl <| R.q §20 rfl <| R.q (q.ldF 0 rfl rfl tOne_22 rfl) rfl <| R.u 1 rfl <| ?_
        obtain ⟨x1, hx1⟩ : ∃ z, dk.Now[i.toNat]? = some z := ⟨_, List.getElem?_eq_getElem (by omega)⟩
        refine R.q (q.idx (i := i.toNat) (fun _ => Wd.fls 2 rfl) rfl rfl tSl_22 (by omega) hx1) rfl <| R.q (q.ldE (fun _ => Wd.fls 2 rfl) hx1 rfl tOne_9 rfl) rfl <| R.u 2 rfl <| R.nil ?_
        exact R.rv2 rfl Try.results14 rfl rfl (rS (by (first | (rw [dRead_down §7]; done) | (rw [dRead_bad §7 (by omega)]; done) | (rw [dRead_ok §7 (by omega) hx1]; done)))) (err0 (by (first | (rw [dRead_down §7]; done) | (rw [dRead_bad §7 (by omega)]; done) | (rw [dRead_ok §7 (by omega) hx1]; done))))
      · refine R.qg rfl (q.geq rfl rfl (decide_eq_true (by omega))) rfl <| R.u 1 rfl <| R.nil ?_
        refine R.condT rfl rfl ?_
        refine R.reg rfl <| R.q (q.iface rfl con_75) rfl <| R.u 2 rfl <| R.nil ?_
        exact R.rv2 rfl Try.results14 rfl rfl (rS §9) (errk (by decide) §9)

theorem dStep_any (b_dk : Nat) (q_dkKept q_dkNow q_dkWait : Value) (dk : Dsk) (w : World) (own : List Nat) (H : Wd w (blks §0 ++ own) (§0 ++ §25) [] w) (hf : -1 ≤ dk.Fuse ∧ dk.Fuse ≤ 9223372036854775807) : Calls Try.prog 41 #[.pointer (some ⟨b_dk, 0, none⟩)] w fun e w' => ∃ z : Value × Value × Value, e = .returned (errv (((dStep dk)).2)) ∧ Wd w (blks §0 ++ own) ([Res.box b_dk [z.1, z.2.1, z.2.2, .int .i64 ((((dStep dk)).1).Fuse), .bool ((((dStep dk)).1).Down)] 81, Res.row 9 z.1 ((((dStep dk)).1).Kept : List ByteArray), Res.row 9 z.2.1 ((((dStep dk)).1).Now : List ByteArray), Res.row 83 z.2.2 ((((dStep dk)).1).Wait : List Turn)] ++ §25) [] w' := by
  have c_dk_Kept := H.cap 1 rfl; have m_dk_Kept := H.lenB 1 rfl
  have c_dk_Now := H.cap 2 rfl; have m_dk_Now := H.lenB 2 rfl
  have c_dk_Wait := H.cap 3 rfl; have m_dk_Wait := H.lenB 3 rfl
  refine R.enterN (n := 35) (vs := [.pointer (some ⟨b_dk, 0, none⟩)]) (B := §4) [(0, .pointer (some ⟨b_dk, 0, none⟩))] Try.func41 rfl rfl rfl rfl H ?_
  refine R.reg rfl <| R.u 1 rfl <| R.nil ?_
  refine R.reg rfl <| R.u 1 rfl <| R.q (q.nilc rfl) rfl <| R.q §21 rfl <| R.q (q.ld 0 rfl rfl tOne_4 rfl) rfl <| R.q (q.not rfl) rfl <| R.u 1 rfl <| ?_
  rcases Bool.eq_false_or_eq_true (dk.Down) with h1 | h1
  · rw [h1]
    refine R.u 6 rfl <| R.nil ?_
    refine R.condF rfl rfl ?_
    refine R.reg rfl <| R.u 1 rfl <| R.q (q.nilc rfl) rfl <| R.q §21 rfl <| R.q (q.ld 0 rfl rfl tOne_4 rfl) rfl <| R.nil ?_
    refine R.condT rfl rfl ?_
    refine R.reg rfl <| R.q (q.iface rfl con_75) rfl <| R.u 1 rfl <| R.nil ?_
    have hz : dStep dk = ((⟨dk.Kept, dk.Now, dk.Wait, dk.Fuse, true⟩ : Dsk), 10) := by (first | exact dStep_down §7 | exact dStep_blow §7 §7 | exact dStep_go §7 §7)
    rw [hz]
    exact R.w1 (q_dkKept, q_dkNow, q_dkWait) [0, 1, 2, 3, 4] [] rfl Try.results41 (RV.tmp rfl) rfl rfl rfl (errk (by decide) rfl)
  · rw [h1]
    refine R.u 1 rfl <| R.qg rfl (q.nilc rfl) rfl <| R.qg rfl (q.fld (off' := 3) rfl tFld_81_3 rfl) rfl <| R.qg rfl (q.ld 0 rfl rfl tOne_3 rfl) rfl <| ?_
    by_cases h2 : dk.Fuse = 0
    · refine R.qg rfl (q.eql rfl rfl (beq_iff_eq.2 (by omega))) rfl <| R.u 1 rfl <| R.nil ?_
      refine R.condT rfl rfl ?_
      refine R.reg rfl <| R.u 2 rfl <| R.q (q.nilc rfl) rfl <| R.q §21 rfl <| ?_
      refine R.s rfl (s.st (us := [.bool true]) (cs' := [q_dkKept, q_dkNow, q_dkWait, .int .i64 dk.Fuse, .bool true]) 0 _ rfl rfl rfl rfl (.inr ⟨tOne_4, rfl⟩) rfl rfl rfl rfl) fun _ => ?_
      refine R.q (q.nilc rfl) rfl <| R.q (q.fld (off' := 3) rfl tFld_81_3 rfl) rfl <| ?_
      refine R.s rfl (s.st (us := [.int .i64 (-1)]) (cs' := [q_dkKept, q_dkNow, q_dkWait, .int .i64 (-1), .bool true]) 0 _ rfl rfl rfl rfl (.inr ⟨tOne_3, rfl⟩) rfl rfl rfl rfl) fun _ => ?_
      refine R.nil ?_
      refine R.reg rfl <| R.u 1 rfl <| R.q (q.nilc rfl) rfl <| R.q §21 rfl <| R.q (q.ld 0 rfl rfl tOne_4 rfl) rfl <| R.nil ?_
      refine R.condT rfl rfl ?_
      refine R.reg rfl <| R.q (q.iface rfl con_75) rfl <| R.u 1 rfl <| R.nil ?_
      have hz : dStep dk = ((⟨dk.Kept, dk.Now, dk.Wait, -1, true⟩ : Dsk), 10) := by (first | exact dStep_down §7 | exact dStep_blow §7 §7 | exact dStep_go §7 §7)
      rw [hz]
      exact R.w1 (q_dkKept, q_dkNow, q_dkWait) [0, 1, 2, 3, 4] [] rfl Try.results41 (RV.tmp rfl) rfl rfl rfl (errk (by decide) rfl)
    · refine R.qg rfl (q.eql rfl rfl (beq_eq_false_iff_ne.2 (by omega))) rfl <| R.u 1 rfl <| R.nil ?_
      refine R.condF rfl rfl ?_
      refine R.reg rfl <| R.u 1 rfl <| R.q (q.nilc rfl) rfl <| R.q §21 rfl <| R.q (q.ld 0 rfl rfl tOne_4 rfl) rfl <| R.nil ?_
      refine R.condF rfl rfl ?_
      refine R.reg rfl <| R.u 2 rfl <| R.q (q.nilc rfl) rfl <| R.q (q.fld (off' := 3) rfl tFld_81_3 rfl) rfl <| R.q (q.ld 0 rfl rfl tOne_3 rfl) rfl <| R.q (q.sub (r := dk.Fuse - 1) rfl rfl (wr (by omega))) rfl <| R.q (q.max (r := max (dk.Fuse - 1) (-1)) rfl rfl rfl) rfl <| R.q (q.nilc rfl) rfl <| R.q (q.fld (off' := 3) rfl tFld_81_3 rfl) rfl <| ?_
      refine R.s rfl (s.st (us := [.int .i64 (max (dk.Fuse - 1) (-1))]) (cs' := [q_dkKept, q_dkNow, q_dkWait, .int .i64 (max (dk.Fuse - 1) (-1)), .bool false]) 0 _ rfl rfl rfl rfl (.inr ⟨tOne_3, rfl⟩) rfl rfl rfl rfl) fun _ => ?_
      refine R.nil ?_
      refine R.reg rfl <| R.u 1 rfl <| R.nil ?_
      have hz : dStep dk = ((⟨dk.Kept, dk.Now, dk.Wait, (max (dk.Fuse - 1) (-1)), false⟩ : Dsk), 0) := by (first | exact dStep_down §7 | exact dStep_blow §7 §7 | exact dStep_go §7 §7)
      rw [hz]
      exact R.w1 (q_dkKept, q_dkNow, q_dkWait) [0, 1, 2, 3, 4] [] rfl Try.results41 (RV.tmp rfl) rfl rfl rfl (err0 rfl)

theorem dWrite_any (b_dk : Nat) (q_dkKept q_dkNow q_dkWait : Value) (dk : Dsk) (i : Int) (sx : ByteArray) (w : World) (own : List Nat) (H : Wd w (blks §0 ++ own) (§0 ++ §25) [] w) (hd : dk.Kept.length = dk.Now.length ∧ dk.Now.length ≤ 100000 ∧ dk.Wait.length ≤ 100000 ∧ -1 ≤ dk.Fuse ∧ dk.Fuse ≤ 9223372036854775807) : Calls Try.prog 10 #[.pointer (some ⟨b_dk, 0, none⟩), .int .i64 i, .string sx] w fun e w' => ∃ z : Value × Value × Value, e = .returned (errv (((dWrite dk i sx)).2)) ∧ Wd w (blks §0 ++ own) ([Res.box b_dk [z.1, z.2.1, z.2.2, .int .i64 ((((dWrite dk i sx)).1).Fuse), .bool ((((dWrite dk i sx)).1).Down)] 81, Res.row 9 z.1 ((((dWrite dk i sx)).1).Kept : List ByteArray), Res.row 9 z.2.1 ((((dWrite dk i sx)).1).Now : List ByteArray), Res.row 83 z.2.2 ((((dWrite dk i sx)).1).Wait : List Turn)] ++ §25) [] w' := by
  have c_dk_Kept := H.cap 1 rfl; have m_dk_Kept := H.lenB 1 rfl
  have c_dk_Now := H.cap 2 rfl; have m_dk_Now := H.lenB 2 rfl
  have c_dk_Wait := H.cap 3 rfl; have m_dk_Wait := H.lenB 3 rfl
  have hsl := dStep_lists dk; have hs1 := congrArg List.length hsl.1; have hs2 := congrArg List.length hsl.2.1; have hs3 := congrArg List.length hsl.2.2
  refine R.enterN (n := 56) (vs := [.pointer (some ⟨b_dk, 0, none⟩), .int .i64 i, .string sx]) (B := §4) [(0, .pointer (some ⟨b_dk, 0, none⟩)), (1, .int .i64 i), (2, .string sx)] Try.func10 rfl rfl rfl rfl H ?_
  refine R.reg rfl <| R.u 1 rfl <| R.nil ?_
  refine R.reg rfl <| R.u 1 rfl <| ?_
  by_cases h1 : i < 0
  · refine R.q (q.lss rfl rfl (decide_eq_true (by omega))) rfl <| R.u 14 rfl <| R.nil ?_
    refine R.condT rfl rfl ?_
    refine R.reg rfl <| R.q (q.iface rfl con_75) rfl <| R.u 1 rfl <| R.nil ?_
    have hz : dWrite dk i sx = (dk, 1) := by (first | exact dWrite_bad (by omega) | exact dWrite_err (by omega) (by omega) (by omega) §7 | (rw [dWrite_ok (by omega) (by omega) (by omega) §7]; first | done | rfl) | (rw [dWrite_ok (by omega) (by omega) (by omega) §7]; simp_all; done))
    rw [hz]
    exact R.w1 (q_dkKept, q_dkNow, q_dkWait) [0, 1, 2, 3, 4] [] rfl Try.results10 (RV.tmp rfl) rfl rfl rfl (errk (by decide) rfl)
  · refine R.q §24 rfl <| R.u 3 rfl <| R.qg rfl (q.nilc rfl) rfl <| R.qg rfl §20 rfl <| R.qg rfl (q.ld 0 rfl rfl tOne_22 rfl) rfl <| R.qg rfl (q.len' (fun _ => Wd.row 2 rfl) rfl Try.underlying22) rfl <| ?_
    by_cases h2 : i < (dk.Now.length : Int)
    · refine R.qg rfl (q.geq rfl rfl (decide_eq_false (by omega))) rfl <| R.u 3 rfl <| R.qg rfl (q.lenS rfl Try.underlying9) rfl <| ?_
      by_cases h3 : 48 < sx.size
      · refine R.qg rfl (q.gtr rfl rfl (decide_eq_true (by omega))) rfl <| R.u 1 rfl <| R.nil ?_
        refine R.condT rfl rfl ?_
        refine R.reg rfl <| R.q (q.iface rfl con_75) rfl <| R.u 1 rfl <| R.nil ?_
        have hz : dWrite dk i sx = (dk, 1) := by (first | exact dWrite_bad (by omega) | exact dWrite_err (by omega) (by omega) (by omega) §7 | (rw [dWrite_ok (by omega) (by omega) (by omega) §7]; first | done | rfl) | (rw [dWrite_ok (by omega) (by omega) (by omega) §7]; simp_all; done))
        rw [hz]
        exact R.w1 (q_dkKept, q_dkNow, q_dkWait) [0, 1, 2, 3, 4] [] rfl Try.results10 (RV.tmp rfl) rfl rfl rfl (errk (by decide) rfl)
      · refine R.qg rfl (q.gtr rfl rfl (decide_eq_false (by omega))) rfl <| R.u 1 rfl <| R.nil ?_
        refine R.condF rfl rfl ?_
        refine R.reg rfl <| R.u 1 rfl <| ?_
        refine R.s (B' := §19) (F' := (fun g_ : Value × Value × Value => [])) rfl §8 ?_
        rintro ⟨z1, z2, z3⟩
        dsimp only
        refine R.u 1 rfl <| R.nil ?_
        refine R.reg rfl <| R.u 1 rfl <| ?_
        by_cases h4 : (dStep dk).2 = 0
        · refine R.q (q.eqlE0 rfl rfl Try.underlying28 (by omega)) rfl <| R.nil ?_
          refine R.condT rfl rfl ?_
          obtain ⟨x1, hx1⟩ : ∃ z, (((dStep dk).1).Now)[i.toNat]? = some z := ⟨_, List.getElem?_eq_getElem §6⟩
          refine R.regD (fuel := 9) (Wd w (blks §0 ++ own) [Res.row 9 z1 (((dStep dk).1).Kept : List ByteArray), Res.row 83 z3 (((dStep dk).1).Wait : List Turn), Res.held w own] []) rfl mixed rfl ?_
          refine D.q (i := 0) rfl §1 §5 rfl (q.mv rfl) rfl <| D.q (i := 1) rfl §1 §5 rfl (q.nilc rfl) rfl <| D.q (i := 2) rfl §1 §5 rfl §20 rfl <| D.q (i := 4) rfl §1 §5 rfl (q.mv rfl) rfl <| D.q (i := 5) rfl §1 §5 rfl (q.mv rfl) rfl <| ?_
          refine D.two (i := 3) (j := 6) §1 rfl rfl ?_ ?_
          · refine Do.s §10 (fun _ => §5) rfl fun _ => ?_
            refine D.one (i := 6) §1 rfl ?_
            refine Do.s (s.c (q.call eg_39 rfl rfl (fun w hw => (full_any (sx) w  (by first | omega | assumption | (simp; done) | decide)))) rfl) (fun _ => §5) rfl fun _ => ?_
            refine D.one (i := 7) §1 rfl ?_
            refine Do.s (s.c (Qt.a (q.idx (i := i.toNat) (fun _ => Wd.row 2 rfl) rfl rfl tSl_22 (by omega) hx1)) rfl) (fun _ => §5) rfl fun _ => ?_
            refine D.one (i := 8) §1 rfl ?_
            refine Do.s (s.stE (z := full sx) 2 _ rfl hx1 rfl rfl rfl rfl (.inr ⟨tOne_9, rfl⟩) rfl) (fun _ => §5) rfl fun _ => ?_
            refine D.done §1 <| ?_
            obtain ⟨x2, hx2⟩ : ∃ z, ((((dStep dk).1).Now).set i.toNat (full sx))[i.toNat]? = some z := ⟨_, List.getElem?_eq_getElem §6⟩
            refine R.regD (fuel := 19) (Wd w (blks §0 ++ own) [Res.row 9 z1 (((dStep dk).1).Kept : List ByteArray), Res.row 9 z2 (((((dStep dk).1).Now).set i.toNat (full sx)) : List ByteArray), Res.held w own] []) rfl mixed rfl ?_
            refine D.q (i := 0) rfl §1 §2 rfl (q.mv rfl) rfl <| D.q (i := 1) rfl §1 §2 rfl (q.mv rfl) rfl <| D.q (i := 2) rfl §1 §2 rfl (q.nilc rfl) rfl <| D.q (i := 3) rfl §1 §2 rfl §13 rfl <| D.q (i := 5) rfl §1 §2 rfl (q.mv rfl) rfl <| D.q (i := 6) rfl §1 §2 rfl (q.mv rfl) rfl <| D.q (i := 7) rfl §1 §2 rfl (q.nilc rfl) rfl <| D.q (i := 8) rfl §1 §2 rfl §20 rfl <| D.q (i := 10) rfl §1 §2 rfl (q.mv rfl) rfl <| ?_
            refine D.two (i := 4) (j := 9) §1 rfl rfl ?_ ?_
            · refine Do.s (s.c (Qt.a (q.ld 0 rfl rfl tOne_79 rfl)) rfl) (fun _ => §2) rfl fun _ => ?_
              refine D.one (i := 9) §1 rfl ?_
              refine Do.s §10 (fun _ => §2) rfl fun _ => ?_
              refine D.q (i := 11) rfl §1 §2 rfl (q.idx (i := i.toNat) (fun _ => Wd.row 1 rfl) rfl rfl tSl_22 (by omega) hx2) rfl <| D.q (i := 12) rfl §1 §2 rfl (q.ldE (fun _ => Wd.row 1 rfl) hx2 rfl tOne_9 rfl) rfl <| D.q (i := 13) rfl §1 §2 rfl (q.build (cs := [.int .i64 i, .string x2]) tB_83 rfl rfl) rfl <| ?_
              refine D.one (i := 14) §1 rfl ?_
              refine Do.s (s.bs (l := ([(⟨i, x2⟩ : Turn)] : List Turn)) tSl_79 tZero_83 rfl rfl rfl rfl rfl rfl rfl) (fun _ => §3) rfl fun b1 => ?_
              refine D.one (i := 15) §1 rfl ?_
              refine Do.s (s.app (l2 := [(⟨i, x2⟩ : Turn)]) 4 _ rfl rfl rfl §22 tApp_79 §6 §6 (fun _ => rfl) rfl) (fun _ => §3) rfl fun v1 => ?_
              refine D.q (i := 16) rfl §1 §3 rfl (q.nilc rfl) rfl <| D.q (i := 17) rfl §1 §3 rfl §13 rfl <| ?_
              refine D.one (i := 18) §1 rfl ?_
              refine Do.s (s.stV (us := [v1]) (cs' := [z1, z2, v1, .int .i64 (((dStep dk).1).Fuse), .bool (((dStep dk).1).Down)]) 1 _ rfl rfl rfl §23 (.inr ⟨tOne_79, rfl⟩) §18 rfl rfl rfl) (fun _ => §3) rfl fun _ => ?_
              refine D.done §1 <| ?_
              refine R.reg rfl <| R.u 2 rfl <| R.nil ?_
              have hz : dWrite dk i sx = §15 := by (first | exact dWrite_bad (by omega) | exact dWrite_err (by omega) (by omega) (by omega) §7 | (rw [dWrite_ok (by omega) (by omega) (by omega) §7]; first | done | rfl) | (rw [dWrite_ok (by omega) (by omega) (by omega) §7]; simp_all; done))
              rw [hz]
              exact R.w1 (z1, z2, v1) [1, 2, 3, 4, 5] [] rfl Try.results10 (RV.tmp rfl) rfl rfl rfl rfl
            · refine Do.s §10 (fun _ => §2) rfl fun _ => ?_
              refine D.q (i := 11) rfl §1 §2 rfl (q.idx (i := i.toNat) (fun _ => Wd.row 1 rfl) rfl rfl tSl_22 (by omega) hx2) rfl <| D.q (i := 12) rfl §1 §2 rfl (q.ldE (fun _ => Wd.row 1 rfl) hx2 rfl tOne_9 rfl) rfl <| D.q (i := 13) rfl §1 §2 rfl (q.build (cs := [.int .i64 i, .string x2]) tB_83 rfl rfl) rfl <| ?_
              refine D.two (i := 4) (j := 14) §1 rfl rfl ?_ ?_
              · refine Do.s (s.c (Qt.a (q.ld 0 rfl rfl tOne_79 rfl)) rfl) (fun _ => §2) rfl fun _ => ?_
                refine D.one (i := 14) §1 rfl ?_
                refine Do.s (s.bs (l := ([(⟨i, x2⟩ : Turn)] : List Turn)) tSl_79 tZero_83 rfl rfl rfl rfl rfl rfl rfl) (fun _ => §3) rfl fun b2 => ?_
                refine D.one (i := 15) §1 rfl ?_
                refine Do.s (s.app (l2 := [(⟨i, x2⟩ : Turn)]) 4 _ rfl rfl rfl §22 tApp_79 §6 §6 (fun _ => rfl) rfl) (fun _ => §3) rfl fun v2 => ?_
                refine D.q (i := 16) rfl §1 §3 rfl (q.nilc rfl) rfl <| D.q (i := 17) rfl §1 §3 rfl §13 rfl <| ?_
                refine D.one (i := 18) §1 rfl ?_
                refine Do.s (s.stV (us := [v2]) (cs' := [z1, z2, v2, .int .i64 (((dStep dk).1).Fuse), .bool (((dStep dk).1).Down)]) 1 _ rfl rfl rfl §23 (.inr ⟨tOne_79, rfl⟩) §18 rfl rfl rfl) (fun _ => §3) rfl fun _ => ?_
                refine D.done §1 <| ?_
                refine R.reg rfl <| R.u 2 rfl <| R.nil ?_
                have hz : dWrite dk i sx = §15 := by (first | exact dWrite_bad (by omega) | exact dWrite_err (by omega) (by omega) (by omega) §7 | (rw [dWrite_ok (by omega) (by omega) (by omega) §7]; first | done | rfl) | (rw [dWrite_ok (by omega) (by omega) (by omega) §7]; simp_all; done))
                rw [hz]
                exact R.w1 (z1, z2, v2) [1, 2, 3, 4, 5] [] rfl Try.results10 (RV.tmp rfl) rfl rfl rfl rfl
              · refine Do.s (s.bs (l := ([(⟨i, x2⟩ : Turn)] : List Turn)) tSl_79 tZero_83 rfl rfl rfl rfl rfl rfl rfl) (fun _ => §3) rfl fun b3 => ?_
                refine D.one (i := 4) §1 rfl ?_
                refine Do.s (s.c (Qt.a (q.ld 1 rfl rfl tOne_79 rfl)) rfl) (fun _ => §3) rfl fun _ => ?_
                refine D.one (i := 15) §1 rfl ?_
                refine Do.s (s.app (l2 := [(⟨i, x2⟩ : Turn)]) 4 _ rfl rfl rfl §22 tApp_79 §6 §6 (fun _ => rfl) rfl) (fun _ => §3) rfl fun v3 => ?_
                refine D.q (i := 16) rfl §1 §3 rfl (q.nilc rfl) rfl <| D.q (i := 17) rfl §1 §3 rfl §13 rfl <| ?_
                refine D.one (i := 18) §1 rfl ?_
                refine Do.s (s.stV (us := [v3]) (cs' := [z1, z2, v3, .int .i64 (((dStep dk).1).Fuse), .bool (((dStep dk).1).Down)]) 1 _ rfl rfl rfl §23 (.inr ⟨tOne_79, rfl⟩) §18 rfl rfl rfl) (fun _ => §3) rfl fun _ => ?_
                refine D.done §1 <| ?_
                refine R.reg rfl <| R.u 2 rfl <| R.nil ?_
                have hz : dWrite dk i sx = §15 := by (first | exact dWrite_bad (by omega) | exact dWrite_err (by omega) (by omega) (by omega) §7 | (rw [dWrite_ok (by omega) (by omega) (by omega) §7]; first | done | rfl) | (rw [dWrite_ok (by omega) (by omega) (by omega) §7]; simp_all; done))
                rw [hz]
                exact R.w1 (z1, z2, v3) [1, 2, 3, 4, 5] [] rfl Try.results10 (RV.tmp rfl) rfl rfl rfl rfl
          · refine Do.s (s.c (q.call eg_39 rfl rfl (fun w hw => (full_any (sx) w  (by first | omega | assumption | (simp; done) | decide)))) rfl) (fun _ => §5) rfl fun _ => ?_
            refine D.one (i := 3) §1 rfl ?_
            refine Do.s §10 (fun _ => §5) rfl fun _ => ?_
            refine D.one (i := 7) §1 rfl ?_
            refine Do.s (s.c (Qt.a (q.idx (i := i.toNat) (fun _ => Wd.row 2 rfl) rfl rfl tSl_22 (by omega) hx1)) rfl) (fun _ => §5) rfl fun _ => ?_
            refine D.one (i := 8) §1 rfl ?_
            refine Do.s (s.stE (z := full sx) 2 _ rfl hx1 rfl rfl rfl rfl (.inr ⟨tOne_9, rfl⟩) rfl) (fun _ => §5) rfl fun _ => ?_
            refine D.done §1 <| ?_
            obtain ⟨x3, hx3⟩ : ∃ z, ((((dStep dk).1).Now).set i.toNat (full sx))[i.toNat]? = some z := ⟨_, List.getElem?_eq_getElem §6⟩
            refine R.regD (fuel := 19) (Wd w (blks §0 ++ own) [Res.row 9 z1 (((dStep dk).1).Kept : List ByteArray), Res.row 9 z2 (((((dStep dk).1).Now).set i.toNat (full sx)) : List ByteArray), Res.held w own] []) rfl mixed rfl ?_
            refine D.q (i := 0) rfl §1 §2 rfl (q.mv rfl) rfl <| D.q (i := 1) rfl §1 §2 rfl (q.mv rfl) rfl <| D.q (i := 2) rfl §1 §2 rfl (q.nilc rfl) rfl <| D.q (i := 3) rfl §1 §2 rfl §13 rfl <| D.q (i := 5) rfl §1 §2 rfl (q.mv rfl) rfl <| D.q (i := 6) rfl §1 §2 rfl (q.mv rfl) rfl <| D.q (i := 7) rfl §1 §2 rfl (q.nilc rfl) rfl <| D.q (i := 8) rfl §1 §2 rfl §20 rfl <| D.q (i := 10) rfl §1 §2 rfl (q.mv rfl) rfl <| ?_
            refine D.two (i := 4) (j := 9) §1 rfl rfl ?_ ?_
            · refine Do.s (s.c (Qt.a (q.ld 0 rfl rfl tOne_79 rfl)) rfl) (fun _ => §2) rfl fun _ => ?_
              refine D.one (i := 9) §1 rfl ?_
              refine Do.s §10 (fun _ => §2) rfl fun _ => ?_
              refine D.q (i := 11) rfl §1 §2 rfl (q.idx (i := i.toNat) (fun _ => Wd.row 1 rfl) rfl rfl tSl_22 (by omega) hx3) rfl <| D.q (i := 12) rfl §1 §2 rfl (q.ldE (fun _ => Wd.row 1 rfl) hx3 rfl tOne_9 rfl) rfl <| D.q (i := 13) rfl §1 §2 rfl (q.build (cs := [.int .i64 i, .string x3]) tB_83 rfl rfl) rfl <| ?_
              refine D.one (i := 14) §1 rfl ?_
              refine Do.s (s.bs (l := ([(⟨i, x3⟩ : Turn)] : List Turn)) tSl_79 tZero_83 rfl rfl rfl rfl rfl rfl rfl) (fun _ => §3) rfl fun b4 => ?_
              refine D.one (i := 15) §1 rfl ?_
              refine Do.s (s.app (l2 := [(⟨i, x3⟩ : Turn)]) 4 _ rfl rfl rfl §22 tApp_79 §6 §6 (fun _ => rfl) rfl) (fun _ => §3) rfl fun v4 => ?_
              refine D.q (i := 16) rfl §1 §3 rfl (q.nilc rfl) rfl <| D.q (i := 17) rfl §1 §3 rfl §13 rfl <| ?_
              refine D.one (i := 18) §1 rfl ?_
              refine Do.s (s.stV (us := [v4]) (cs' := [z1, z2, v4, .int .i64 (((dStep dk).1).Fuse), .bool (((dStep dk).1).Down)]) 1 _ rfl rfl rfl §23 (.inr ⟨tOne_79, rfl⟩) §18 rfl rfl rfl) (fun _ => §3) rfl fun _ => ?_
              refine D.done §1 <| ?_
              refine R.reg rfl <| R.u 2 rfl <| R.nil ?_
              have hz : dWrite dk i sx = §16 := by (first | exact dWrite_bad (by omega) | exact dWrite_err (by omega) (by omega) (by omega) §7 | (rw [dWrite_ok (by omega) (by omega) (by omega) §7]; first | done | rfl) | (rw [dWrite_ok (by omega) (by omega) (by omega) §7]; simp_all; done))
              rw [hz]
              exact R.w1 (z1, z2, v4) [1, 2, 3, 4, 5] [] rfl Try.results10 (RV.tmp rfl) rfl rfl rfl rfl
            · refine Do.s §10 (fun _ => §2) rfl fun _ => ?_
              refine D.q (i := 11) rfl §1 §2 rfl (q.idx (i := i.toNat) (fun _ => Wd.row 1 rfl) rfl rfl tSl_22 (by omega) hx3) rfl <| D.q (i := 12) rfl §1 §2 rfl (q.ldE (fun _ => Wd.row 1 rfl) hx3 rfl tOne_9 rfl) rfl <| D.q (i := 13) rfl §1 §2 rfl (q.build (cs := [.int .i64 i, .string x3]) tB_83 rfl rfl) rfl <| ?_
              refine D.two (i := 4) (j := 14) §1 rfl rfl ?_ ?_
              · refine Do.s (s.c (Qt.a (q.ld 0 rfl rfl tOne_79 rfl)) rfl) (fun _ => §2) rfl fun _ => ?_
                refine D.one (i := 14) §1 rfl ?_
                refine Do.s (s.bs (l := ([(⟨i, x3⟩ : Turn)] : List Turn)) tSl_79 tZero_83 rfl rfl rfl rfl rfl rfl rfl) (fun _ => §3) rfl fun b5 => ?_
                refine D.one (i := 15) §1 rfl ?_
                refine Do.s (s.app (l2 := [(⟨i, x3⟩ : Turn)]) 4 _ rfl rfl rfl §22 tApp_79 §6 §6 (fun _ => rfl) rfl) (fun _ => §3) rfl fun v5 => ?_
                refine D.q (i := 16) rfl §1 §3 rfl (q.nilc rfl) rfl <| D.q (i := 17) rfl §1 §3 rfl §13 rfl <| ?_
                refine D.one (i := 18) §1 rfl ?_
                refine Do.s (s.stV (us := [v5]) (cs' := [z1, z2, v5, .int .i64 (((dStep dk).1).Fuse), .bool (((dStep dk).1).Down)]) 1 _ rfl rfl rfl §23 (.inr ⟨tOne_79, rfl⟩) §18 rfl rfl rfl) (fun _ => §3) rfl fun _ => ?_
                refine D.done §1 <| ?_
                refine R.reg rfl <| R.u 2 rfl <| R.nil ?_
                have hz : dWrite dk i sx = §16 := by (first | exact dWrite_bad (by omega) | exact dWrite_err (by omega) (by omega) (by omega) §7 | (rw [dWrite_ok (by omega) (by omega) (by omega) §7]; first | done | rfl) | (rw [dWrite_ok (by omega) (by omega) (by omega) §7]; simp_all; done))
                rw [hz]
                exact R.w1 (z1, z2, v5) [1, 2, 3, 4, 5] [] rfl Try.results10 (RV.tmp rfl) rfl rfl rfl rfl
              · refine Do.s (s.bs (l := ([(⟨i, x3⟩ : Turn)] : List Turn)) tSl_79 tZero_83 rfl rfl rfl rfl rfl rfl rfl) (fun _ => §3) rfl fun b6 => ?_
                refine D.one (i := 4) §1 rfl ?_
                refine Do.s (s.c (Qt.a (q.ld 1 rfl rfl tOne_79 rfl)) rfl) (fun _ => §3) rfl fun _ => ?_
                refine D.one (i := 15) §1 rfl ?_
                refine Do.s (s.app (l2 := [(⟨i, x3⟩ : Turn)]) 4 _ rfl rfl rfl §22 tApp_79 §6 §6 (fun _ => rfl) rfl) (fun _ => §3) rfl fun v6 => ?_
                refine D.q (i := 16) rfl §1 §3 rfl (q.nilc rfl) rfl <| D.q (i := 17) rfl §1 §3 rfl §13 rfl <| ?_
                refine D.one (i := 18) §1 rfl ?_
                refine Do.s (s.stV (us := [v6]) (cs' := [z1, z2, v6, .int .i64 (((dStep dk).1).Fuse), .bool (((dStep dk).1).Down)]) 1 _ rfl rfl rfl §23 (.inr ⟨tOne_79, rfl⟩) §18 rfl rfl rfl) (fun _ => §3) rfl fun _ => ?_
                refine D.done §1 <| ?_
                refine R.reg rfl <| R.u 2 rfl <| R.nil ?_
                have hz : dWrite dk i sx = §16 := by (first | exact dWrite_bad (by omega) | exact dWrite_err (by omega) (by omega) (by omega) §7 | (rw [dWrite_ok (by omega) (by omega) (by omega) §7]; first | done | rfl) | (rw [dWrite_ok (by omega) (by omega) (by omega) §7]; simp_all; done))
                rw [hz]
                exact R.w1 (z1, z2, v6) [1, 2, 3, 4, 5] [] rfl Try.results10 (RV.tmp rfl) rfl rfl rfl rfl
        · refine R.q (q.eqlE1 rfl rfl Try.underlying28 (by omega)) rfl <| R.nil ?_
          refine R.condF rfl rfl ?_
          refine R.reg rfl <| R.u 2 rfl <| R.nil ?_
          have hz : dWrite dk i sx = (((dStep dk).1), (dStep dk).2) := by (first | exact dWrite_bad (by omega) | exact dWrite_err (by omega) (by omega) (by omega) §7 | (rw [dWrite_ok (by omega) (by omega) (by omega) §7]; first | done | rfl) | (rw [dWrite_ok (by omega) (by omega) (by omega) §7]; simp_all; done))
          rw [hz]
          exact R.w1 (z1, z2, z3) [0, 1, 2, 3, 4] [] rfl Try.results10 (RV.tmp rfl) rfl rfl rfl rfl
    · refine R.qg rfl (q.geq rfl rfl (decide_eq_true (by omega))) rfl <| R.u 6 rfl <| R.nil ?_
      refine R.condT rfl rfl ?_
      refine R.reg rfl <| R.q (q.iface rfl con_75) rfl <| R.u 1 rfl <| R.nil ?_
      have hz : dWrite dk i sx = (dk, 1) := by (first | exact dWrite_bad (by omega) | exact dWrite_err (by omega) (by omega) (by omega) §7 | (rw [dWrite_ok (by omega) (by omega) (by omega) §7]; first | done | rfl) | (rw [dWrite_ok (by omega) (by omega) (by omega) §7]; simp_all; done))
      rw [hz]
      exact R.w1 (q_dkKept, q_dkNow, q_dkWait) [0, 1, 2, 3, 4] [] rfl Try.results10 (RV.tmp rfl) rfl rfl rfl (errk (by decide) rfl)

theorem dFlush_any (b_dk : Nat) (q_dkKept q_dkNow q_dkWait : Value) (dk : Dsk) (w : World) (own : List Nat) (H : Wd w (blks §0 ++ own) (§0 ++ §25) [] w) (hd : dk.Kept.length = dk.Now.length ∧ dk.Now.length ≤ 100000 ∧ dk.Wait.length ≤ 100000 ∧ -1 ≤ dk.Fuse ∧ dk.Fuse ≤ 9223372036854775807) : Calls Try.prog 51 #[.pointer (some ⟨b_dk, 0, none⟩)] w fun e w' => ∃ z : Value × Value × Value, e = .returned (errv (((dFlush dk)).2)) ∧ Wd w (blks §0 ++ own) ([Res.box b_dk [z.1, z.2.1, z.2.2, .int .i64 ((((dFlush dk)).1).Fuse), .bool ((((dFlush dk)).1).Down)] 81, Res.row 9 z.1 ((((dFlush dk)).1).Kept : List ByteArray), Res.row 9 z.2.1 ((((dFlush dk)).1).Now : List ByteArray), Res.row 83 z.2.2 ((((dFlush dk)).1).Wait : List Turn)] ++ §25) [] w' := by
  have c_dk_Kept := H.cap 1 rfl; have m_dk_Kept := H.lenB 1 rfl
  have c_dk_Now := H.cap 2 rfl; have m_dk_Now := H.lenB 2 rfl
  have c_dk_Wait := H.cap 3 rfl; have m_dk_Wait := H.lenB 3 rfl
  have hsl := dStep_lists dk; have hs1 := congrArg List.length hsl.1; have hs2 := congrArg List.length hsl.2.1; have hs3 := congrArg List.length hsl.2.2
  refine R.enterN (n := 21) (vs := [.pointer (some ⟨b_dk, 0, none⟩)]) (B := §4) [(0, .pointer (some ⟨b_dk, 0, none⟩))] Try.func51 rfl rfl rfl rfl H ?_
  refine R.reg rfl <| R.u 1 rfl <| R.nil ?_
  refine R.reg rfl <| R.u 1 rfl <| ?_
  refine R.s (B' := §19) (F' := (fun g_ : Value × Value × Value => [])) rfl §8 ?_
  rintro ⟨z1, z2, z3⟩
  dsimp only
  refine R.u 1 rfl <| R.nil ?_
  refine R.reg rfl <| R.u 1 rfl <| ?_
  by_cases h1 : (dStep dk).2 = 0
  · refine R.q (q.eqlE0 rfl rfl Try.underlying28 (by omega)) rfl <| R.nil ?_
    refine R.condT rfl rfl ?_
    refine R.regD (fuel := 9) (Wd w (blks §0 ++ own) [Res.row 9 z2 (((dStep dk).1).Now : List ByteArray), Res.row 83 z3 (((dStep dk).1).Wait : List Turn), Res.held w own] []) rfl mixed rfl ?_
    refine D.q (i := 0) rfl §1 §12 rfl (q.mv rfl) rfl <| D.q (i := 1) rfl §1 §12 rfl (q.nilc rfl) rfl <| D.q (i := 2) rfl §1 §12 rfl (q.fld (off' := 0) rfl tFld_81_0 rfl) rfl <| D.q (i := 4) rfl §1 §12 rfl (q.mv rfl) rfl <| D.q (i := 5) rfl §1 §12 rfl (q.nilc rfl) rfl <| D.q (i := 6) rfl §1 §12 rfl §20 rfl <| ?_
    refine D.two (i := 3) (j := 7) §1 rfl rfl ?_ ?_
    · refine Do.s §10 (fun _ => §12) rfl fun _ => ?_
      refine D.one (i := 7) §1 rfl ?_
      refine Do.s §10 (fun _ => §12) rfl fun _ => ?_
      refine D.one (i := 8) §1 rfl ?_
      refine Do.s (s.copy (l2 := ((dStep dk).1).Now) 1 _ rfl (fun _ => Wd.row 2 rfl) rfl rfl rfl tSl_22 (by first | omega | assumption | (simp; omega)) rfl rfl) (fun _ => §12) rfl fun _ => ?_
      refine D.done §1 <| ?_
      refine R.reg rfl <| R.u 1 rfl <| R.q (q.nilc rfl) rfl <| R.q §13 rfl <| ?_
      refine R.s rfl (s.st (us := [.slice none 0 0]) (cs' := [z1, z2, .slice none 0 0, .int .i64 (((dStep dk).1).Fuse), .bool (((dStep dk).1).Down)]) 0 _ rfl rfl rfl rfl (.inr ⟨tOne_79, rfl⟩) rfl rfl rfl rfl) fun _ => ?_
      refine R.nil ?_
      refine R.reg rfl <| R.u 2 rfl <| R.nil ?_
      refine R.row0 (α := Turn) 83 ?_
      have hz : dFlush dk = ((⟨((dStep dk).1).Now, ((dStep dk).1).Now, [], ((dStep dk).1).Fuse, ((dStep dk).1).Down⟩ : Dsk), (dStep dk).2) := by (unfold dFlush; first | (rw [if_pos §7]; first | done | rfl | simp_all) | (rw [if_neg §7]; first | done | rfl))
      rw [hz]
      exact R.w1 (z1, z2, (.slice none 0 0)) [1, 2, 3, 0, 5] [] rfl Try.results51 (RV.tmp rfl) rfl rfl rfl rfl
    · refine Do.s §10 (fun _ => §12) rfl fun _ => ?_
      refine D.one (i := 3) §1 rfl ?_
      refine Do.s §10 (fun _ => §12) rfl fun _ => ?_
      refine D.one (i := 8) §1 rfl ?_
      refine Do.s (s.copy (l2 := ((dStep dk).1).Now) 1 _ rfl (fun _ => Wd.row 2 rfl) rfl rfl rfl tSl_22 (by first | omega | assumption | (simp; omega)) rfl rfl) (fun _ => §12) rfl fun _ => ?_
      refine D.done §1 <| ?_
      refine R.reg rfl <| R.u 1 rfl <| R.q (q.nilc rfl) rfl <| R.q §13 rfl <| ?_
      refine R.s rfl (s.st (us := [.slice none 0 0]) (cs' := [z1, z2, .slice none 0 0, .int .i64 (((dStep dk).1).Fuse), .bool (((dStep dk).1).Down)]) 0 _ rfl rfl rfl rfl (.inr ⟨tOne_79, rfl⟩) rfl rfl rfl rfl) fun _ => ?_
      refine R.nil ?_
      refine R.reg rfl <| R.u 2 rfl <| R.nil ?_
      refine R.row0 (α := Turn) 83 ?_
      have hz : dFlush dk = ((⟨((dStep dk).1).Now, ((dStep dk).1).Now, [], ((dStep dk).1).Fuse, ((dStep dk).1).Down⟩ : Dsk), (dStep dk).2) := by (unfold dFlush; first | (rw [if_pos §7]; first | done | rfl | simp_all) | (rw [if_neg §7]; first | done | rfl))
      rw [hz]
      exact R.w1 (z1, z2, (.slice none 0 0)) [1, 2, 3, 0, 5] [] rfl Try.results51 (RV.tmp rfl) rfl rfl rfl rfl
  · refine R.q (q.eqlE1 rfl rfl Try.underlying28 (by omega)) rfl <| R.nil ?_
    refine R.condF rfl rfl ?_
    refine R.reg rfl <| R.u 2 rfl <| R.nil ?_
    have hz : dFlush dk = (((dStep dk).1), (dStep dk).2) := by (unfold dFlush; first | (rw [if_pos §7]; first | done | rfl | simp_all) | (rw [if_neg §7]; first | done | rfl))
    rw [hz]
    exact R.w1 (z1, z2, z3) [0, 1, 2, 3, 4] [] rfl Try.results51 (RV.tmp rfl) rfl rfl rfl rfl

theorem dArm_any (b_dk : Nat) (q_dkKept q_dkNow q_dkWait : Value) (dk : Dsk) (n : Int) (w : World) (own : List Nat) (H : Wd w (blks §0 ++ own) (§0 ++ §25) [] w)  : Calls Try.prog 31 #[.pointer (some ⟨b_dk, 0, none⟩), .int .i64 n] w fun e w' => ∃ z : Value × Value × Value, e = .returned (.tuple #[]) ∧ Wd w (blks §0 ++ own) ([Res.box b_dk [z.1, z.2.1, z.2.2, .int .i64 (((dArm dk n)).Fuse), .bool (((dArm dk n)).Down)] 81, Res.row 9 z.1 (((dArm dk n)).Kept : List ByteArray), Res.row 9 z.2.1 (((dArm dk n)).Now : List ByteArray), Res.row 83 z.2.2 (((dArm dk n)).Wait : List Turn)] ++ §25) [] w' := by
  have c_dk_Kept := H.cap 1 rfl; have m_dk_Kept := H.lenB 1 rfl
  have c_dk_Now := H.cap 2 rfl; have m_dk_Now := H.lenB 2 rfl
  have c_dk_Wait := H.cap 3 rfl; have m_dk_Wait := H.lenB 3 rfl
  refine R.enterN (n := 9) (vs := [.pointer (some ⟨b_dk, 0, none⟩), .int .i64 n]) (B := §4) [(0, .pointer (some ⟨b_dk, 0, none⟩)), (1, .int .i64 n)] Try.func31 rfl rfl rfl rfl H ?_
  refine R.reg rfl <| R.u 2 rfl <| R.q (q.max (r := max n (-1)) rfl rfl rfl) rfl <| R.q (q.nilc rfl) rfl <| R.q (q.fld (off' := 3) rfl tFld_81_3 rfl) rfl <| ?_
  refine R.s rfl (s.st (us := [.int .i64 (max n (-1))]) (cs' := [q_dkKept, q_dkNow, q_dkWait, .int .i64 (max n (-1)), .bool dk.Down]) 0 _ rfl rfl rfl rfl (.inr ⟨tOne_3, rfl⟩) rfl rfl rfl rfl) fun _ => ?_
  refine R.nil ?_
  have hz : dArm dk n = (⟨dk.Kept, dk.Now, dk.Wait, (max n (-1)), dk.Down⟩ : Dsk) := by (rfl)
  rw [hz]
  exact R.w0 (q_dkKept, q_dkNow, q_dkWait) [0, 1, 2, 3, 4] [] (by first | exact .inl rfl | exact .inr ⟨_, rfl⟩) Try.results31  rfl rfl rfl rfl

theorem dRestart_any (b_dk : Nat) (q_dkKept q_dkNow q_dkWait : Value) (dk : Dsk) (kp : Int) (w : World) (own : List Nat) (H : Wd w (blks §0 ++ own) (§0 ++ §25) [] w) (hd : dk.Kept.length = dk.Now.length ∧ dk.Wait.length ≤ 100000 ∧ (∀ t ∈ dk.Wait, 0 ≤ t.At ∧ t.At < (dk.Kept.length : Int))) (hk : 0 ≤ kp ∧ kp ≤ 18446744073709551615) : Calls Try.prog 33 #[.pointer (some ⟨b_dk, 0, none⟩), .int .u64 kp] w fun e w' => ∃ z : Value × Value × Value, e = .returned (.tuple #[]) ∧ Wd w (blks §0 ++ own) ([Res.box b_dk [z.1, z.2.1, z.2.2, .int .i64 (((dRestart dk kp)).Fuse), .bool (((dRestart dk kp)).Down)] 81, Res.row 9 z.1 (((dRestart dk kp)).Kept : List ByteArray), Res.row 9 z.2.1 (((dRestart dk kp)).Now : List ByteArray), Res.row 83 z.2.2 (((dRestart dk kp)).Wait : List Turn)] ++ §25) [] w' := by
  have c_dk_Kept := H.cap 1 rfl; have m_dk_Kept := H.lenB 1 rfl
  have c_dk_Now := H.cap 2 rfl; have m_dk_Now := H.lenB 2 rfl
  have c_dk_Wait := H.cap 3 rfl; have m_dk_Wait := H.lenB 3 rfl
  refine R.enterN (n := 50) (vs := [.pointer (some ⟨b_dk, 0, none⟩), .int .u64 kp]) (B := §4) [(0, .pointer (some ⟨b_dk, 0, none⟩)), (1, .int .u64 kp)] Try.func33 rfl rfl rfl rfl H ?_
  refine R.reg rfl <| R.u 1 rfl <| R.q (q.nilc rfl) rfl <| R.q §13 rfl <| R.q (q.ld 0 rfl rfl tOne_79 rfl) rfl <| R.q (q.len' (fun _ => Wd.row 3 rfl) rfl Try.underlying79) rfl <| R.u 1 rfl <| R.nil ?_
  refine R.loop (fun g_ : Nat × Value × (List ByteArray) => [(0, .pointer (some ⟨b_dk, 0, none⟩)), (1, .int .u64 kp), (9, q_dkWait), (10, .int .i64 (dk.Wait.length : Int)), (11, .int .i64 (g_.1 : Int))]) (fun g_ : Nat × Value × (List ByteArray) => [Res.box b_dk [g_.2.1, q_dkNow, q_dkWait, .int .i64 dk.Fuse, .bool dk.Down] 81, Res.row 9 g_.2.1 (g_.2.2 : List ByteArray), Res.row 9 q_dkNow (dk.Now : List ByteArray), Res.row 83 q_dkWait (dk.Wait : List Turn), Res.held w own]) (fun g_ : Nat × Value × (List ByteArray) => []) (fun g_ : Nat × Value × (List ByteArray) => g_.1 ≤ dk.Wait.length ∧ g_.2.2 = layT kp (dk.Wait.take g_.1) dk.Kept) (fun g_ : Nat × Value × (List ByteArray) => dk.Wait.length - g_.1) (0, q_dkKept, dk.Kept) rfl (by exact ⟨by omega, rfl⟩) ⟨rfl, rfl, rfl, rfl, rfl, trivial⟩ (fun _ => Wd.pick [0, 1, 2, 3, 4] [] rfl rfl rfl) ?_
  rintro ⟨j, qk, ks⟩ ⟨hj, HK⟩
  dsimp only at *
  have hkl : ks.length = dk.Kept.length := by rw [HK]; exact layT_len
  refine R.reg rfl <| ?_
  by_cases h1 : j < dk.Wait.length
  · refine R.q (q.lss rfl rfl (decide_eq_true (by omega))) rfl <| R.nil ?_
    refine R.condT rfl rfl ?_
    refine R.reg rfl <| R.u 1 rfl <| ?_
    obtain ⟨x1, hx1⟩ : ∃ z, dk.Wait[j]? = some z := ⟨_, List.getElem?_eq_getElem (by omega)⟩
    have wx1 := hd.2.2 x1 (List.mem_of_getElem? hx1)
    refine R.q (q.idx (i := j) (fun _ => Wd.row 3 rfl) rfl rfl tSl_79 rfl hx1) rfl <| R.q (q.ldES (ds := [.int .i64 x1.At, .string x1.Data]) (fun _ => Wd.row 3 rfl) hx1 rfl tAgg_83 rfl) rfl <| ?_
    refine R.s rfl (s.alloc (cs := [.int .i64 0, .string (⟨#[]⟩)]) tZero_83 rfl rfl) fun b1 => ?_
    refine R.u 1 rfl <| ?_
    refine R.s rfl (s.st (us := [.int .i64 x1.At, .string x1.Data]) (cs' := [.int .i64 x1.At, .string x1.Data]) 0 _ rfl rfl rfl rfl (.inl tAgg_83) rfl rfl rfl rfl) fun _ => ?_
    refine R.nil ?_
    refine R.reg rfl <| R.u 2 rfl <| R.q (q.rem (r := (((j % 64) : Nat) : Int)) rfl rfl (by omega) (remN rfl)) rfl <| R.q (q.shr (r := kp / ((2 ^ (j % 64) : Nat) : Int)) rfl rfl (by omega) (shrV rfl (by omega))) rfl <| R.q (q.and (r := (kp / ((2 ^ (j % 64) : Nat) : Int)) % 2) rfl rfl (u64_and1 ⟨rfl, Int.ediv_nonneg hk.1 (Int.natCast_nonneg _), Int.le_trans (Int.ediv_le_self _ hk.1) hk.2⟩)) rfl <| ?_
    by_cases h2 : ((kp / ((2 ^ (j % 64) : Nat) : Int)) % 2) = 1
    · refine R.q (q.eql rfl rfl (beq_iff_eq.2 (by omega))) rfl <| R.nil ?_
      refine R.condT rfl rfl ?_
      obtain ⟨x2, hx2⟩ : ∃ z, ks[x1.At.toNat]? = some z := ⟨_, List.getElem?_eq_getElem (by omega)⟩
      refine R.regD (fuel := 10) (Wd w (blks §0 ++ own) [Res.box b1 [.int .i64 x1.At, .string x1.Data] 83, Res.row 9 q_dkNow (dk.Now : List ByteArray), Res.row 83 q_dkWait (dk.Wait : List Turn), Res.held w own] []) rfl mixed rfl ?_
      refine D.q (i := 0) rfl §1 §17 rfl (q.mv rfl) rfl <| D.q (i := 1) rfl §1 §17 rfl (q.nilc rfl) rfl <| D.q (i := 2) rfl §1 §17 rfl (q.fld (off' := 0) rfl tFld_81_0 rfl) rfl <| D.q (i := 4) rfl §1 §17 rfl (q.fld (off' := 0) rfl tFld_83_0 rfl) rfl <| D.q (i := 5) rfl §1 §17 rfl (q.ld 0 rfl rfl tOne_3 rfl) rfl <| D.q (i := 6) rfl §1 §17 rfl (q.fld (off' := 1) rfl tFld_83_1 rfl) rfl <| D.q (i := 7) rfl §1 §17 rfl (q.ld 0 rfl rfl tOne_9 rfl) rfl <| ?_
      refine D.one (i := 3) §1 rfl ?_
      refine Do.s (s.c (Qt.a (q.ld 1 rfl rfl tOne_22 rfl)) rfl) (fun _ => §17) rfl fun _ => ?_
      refine D.one (i := 8) §1 rfl ?_
      refine Do.s (s.c (Qt.a (q.idx (i := x1.At.toNat) (fun _ => Wd.row 2 rfl) rfl rfl tSl_22 (by omega) hx2)) rfl) (fun _ => §17) rfl fun _ => ?_
      refine D.one (i := 9) §1 rfl ?_
      refine Do.s (s.stE (z := x1.Data) 2 _ rfl hx2 rfl rfl rfl rfl (.inr ⟨tOne_9, rfl⟩) rfl) (fun _ => §17) rfl fun _ => ?_
      refine D.done §1 <| ?_
      refine R.reg rfl <| R.q (q.add (r := ((j + 1 : Nat) : Int)) rfl rfl (wr (by omega))) rfl <| R.u 1 rfl <| R.nil ?_
      refine R.back (j + 1, qk, (ks.set x1.At.toNat x1.Data)) rfl §14 (by dsimp only; omega) ⟨rfl, rfl, rfl, rfl, rfl, trivial⟩ (fun _ => Wd.pik [1, 2, 3, 4, 5] [] rfl rfl rfl)
    · refine R.q (q.eql rfl rfl (beq_eq_false_iff_ne.2 (by omega))) rfl <| R.nil ?_
      refine R.condF rfl rfl ?_
      refine R.reg rfl <| R.q (q.add (r := ((j + 1 : Nat) : Int)) rfl rfl (wr (by omega))) rfl <| R.u 1 rfl <| R.nil ?_
      refine R.back (j + 1, qk, ks) rfl §14 (by dsimp only; omega) ⟨rfl, rfl, rfl, rfl, rfl, trivial⟩ (fun _ => Wd.pik [1, 2, 3, 4, 5] [] rfl rfl rfl)
  · refine R.q §24 rfl <| R.nil ?_
    refine R.condF rfl rfl ?_
    refine R.regD (fuel := 9) (Wd w (blks §0 ++ own) [Res.row 9 qk (ks : List ByteArray), Res.row 83 q_dkWait (dk.Wait : List Turn), Res.held w own] []) rfl mixed rfl ?_
    refine D.q (i := 0) rfl §1 §5 rfl (q.mv rfl) rfl <| D.q (i := 1) rfl §1 §5 rfl (q.nilc rfl) rfl <| D.q (i := 2) rfl §1 §5 rfl §20 rfl <| D.q (i := 4) rfl §1 §5 rfl (q.mv rfl) rfl <| D.q (i := 5) rfl §1 §5 rfl (q.nilc rfl) rfl <| D.q (i := 6) rfl §1 §5 rfl (q.fld (off' := 0) rfl tFld_81_0 rfl) rfl <| ?_
    refine D.two (i := 3) (j := 7) §1 rfl rfl ?_ ?_
    · refine Do.s §10 (fun _ => §5) rfl fun _ => ?_
      refine D.one (i := 7) §1 rfl ?_
      refine Do.s §10 (fun _ => §5) rfl fun _ => ?_
      refine D.one (i := 8) §1 rfl ?_
      refine Do.s (s.copy (l2 := ks) 2 _ rfl (fun _ => Wd.row 1 rfl) rfl rfl rfl tSl_22 (by first | omega | assumption | (simp; omega)) rfl rfl) (fun _ => §5) rfl fun _ => ?_
      refine D.done §1 <| ?_
      refine R.reg rfl <| R.u 3 rfl <| R.q (q.nilc rfl) rfl <| R.q §13 rfl <| ?_
      refine R.s rfl (s.st (us := [.slice none 0 0]) (cs' := [qk, q_dkNow, .slice none 0 0, .int .i64 dk.Fuse, .bool dk.Down]) 0 _ rfl rfl rfl rfl (.inr ⟨tOne_79, rfl⟩) rfl rfl rfl rfl) fun _ => ?_
      refine R.q (q.nilc rfl) rfl <| R.q §21 rfl <| ?_
      refine R.s rfl (s.st (us := [.bool false]) (cs' := [qk, q_dkNow, .slice none 0 0, .int .i64 dk.Fuse, .bool false]) 0 _ rfl rfl rfl rfl (.inr ⟨tOne_4, rfl⟩) rfl rfl rfl rfl) fun _ => ?_
      refine R.q (q.nilc rfl) rfl <| R.q (q.fld (off' := 3) rfl tFld_81_3 rfl) rfl <| ?_
      refine R.s rfl (s.st (us := [.int .i64 (-1)]) (cs' := [qk, q_dkNow, .slice none 0 0, .int .i64 (-1), .bool false]) 0 _ rfl rfl rfl rfl (.inr ⟨tOne_3, rfl⟩) rfl rfl rfl rfl) fun _ => ?_
      refine R.nil ?_
      refine R.row0 (α := Turn) 83 ?_
      have hz : dRestart dk kp = (⟨ks, ks, [], -1, false⟩ : Dsk) := by (rw [List.take_of_length_le (by omega)] at HK; unfold dRestart; rw [← HK])
      rw [hz]
      exact R.w0 (qk, q_dkNow, (.slice none 0 0)) [1, 2, 3, 0, 5] [] (by first | exact .inl rfl | exact .inr ⟨_, rfl⟩) Try.results33  rfl rfl rfl rfl
    · refine Do.s §10 (fun _ => §5) rfl fun _ => ?_
      refine D.one (i := 3) §1 rfl ?_
      refine Do.s §10 (fun _ => §5) rfl fun _ => ?_
      refine D.one (i := 8) §1 rfl ?_
      refine Do.s (s.copy (l2 := ks) 2 _ rfl (fun _ => Wd.row 1 rfl) rfl rfl rfl tSl_22 (by first | omega | assumption | (simp; omega)) rfl rfl) (fun _ => §5) rfl fun _ => ?_
      refine D.done §1 <| ?_
      refine R.reg rfl <| R.u 3 rfl <| R.q (q.nilc rfl) rfl <| R.q §13 rfl <| ?_
      refine R.s rfl (s.st (us := [.slice none 0 0]) (cs' := [qk, q_dkNow, .slice none 0 0, .int .i64 dk.Fuse, .bool dk.Down]) 0 _ rfl rfl rfl rfl (.inr ⟨tOne_79, rfl⟩) rfl rfl rfl rfl) fun _ => ?_
      refine R.q (q.nilc rfl) rfl <| R.q §21 rfl <| ?_
      refine R.s rfl (s.st (us := [.bool false]) (cs' := [qk, q_dkNow, .slice none 0 0, .int .i64 dk.Fuse, .bool false]) 0 _ rfl rfl rfl rfl (.inr ⟨tOne_4, rfl⟩) rfl rfl rfl rfl) fun _ => ?_
      refine R.q (q.nilc rfl) rfl <| R.q (q.fld (off' := 3) rfl tFld_81_3 rfl) rfl <| ?_
      refine R.s rfl (s.st (us := [.int .i64 (-1)]) (cs' := [qk, q_dkNow, .slice none 0 0, .int .i64 (-1), .bool false]) 0 _ rfl rfl rfl rfl (.inr ⟨tOne_3, rfl⟩) rfl rfl rfl rfl) fun _ => ?_
      refine R.nil ?_
      refine R.row0 (α := Turn) 83 ?_
      have hz : dRestart dk kp = (⟨ks, ks, [], -1, false⟩ : Dsk) := by (rw [List.take_of_length_le (by omega)] at HK; unfold dRestart; rw [← HK])
      rw [hz]
      exact R.w0 (qk, q_dkNow, (.slice none 0 0)) [1, 2, 3, 0, 5] [] (by first | exact .inl rfl | exact .inr ⟨_, rfl⟩) Try.results33  rfl rfl rfl rfl

end Go.Proofs.Ytpipachmngdegaa
end
