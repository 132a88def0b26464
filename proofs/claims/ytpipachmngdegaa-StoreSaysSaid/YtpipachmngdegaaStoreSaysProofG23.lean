import Derived.Test.YtpipachmngdegaaStoreSaysProofG21
import Derived.Test.YtpipachmngdegaaStoreSaysProofG17
import Derived.Test.YtpipachmngdegaaStoreSaysProofG22
section
/-
  The walks of chapter 8: rows, their bytes and their changes. The program's, and the document's.
-/
namespace Go.Proofs.Ytpipachmngdegaa
open Go Go.RowKit
set_option linter.unusedVariables false
set_option linter.unusedSimpArgs false
set_option maxRecDepth 100000
set_option hygiene false
local macro:max "§0" : term => `((by (first | (rw [chP_bad1 (by omega)]; first | done | rfl) | (rw [chP_bad2 hy1 (by omega)]; first | done | rfl) | (rw [chP_bad3 hy2 (by omega)]; first | done | rfl) | (have f1 := chF_023 (⟨sb.extract 2 (2 + y2.toNat), sb.extract (2 + y2.toNat) sb.size, true⟩ : Change); rw [chP_at (b := true) hy1 hy2 (by omega) (by omega) (by omega) (decide_eq_true (by omega)).symm, if_pos (by omega)]; first | done | rfl) | (have f1 := chF_023 (⟨sb.extract 2 (2 + y2.toNat), sb.extract (2 + y2.toNat) sb.size, false⟩ : Change); rw [chP_at (b := false) hy1 hy2 (by omega) (by omega) (by omega) (decide_eq_false (by omega)).symm, if_pos (by omega)]; first | done | rfl) | (have f1 := chF_023 (⟨sb.extract 2 (2 + y2.toNat), sb.extract (2 + y2.toNat) sb.size, true⟩ : Change); rw [chP_at (b := true) hy1 hy2 (by omega) (by omega) (by omega) (decide_eq_true (by omega)).symm, if_neg (by omega)]; first | done | rfl) | (have f1 := chF_023 (⟨sb.extract 2 (2 + y2.toNat), sb.extract (2 + y2.toNat) sb.size, false⟩ : Change); rw [chP_at (b := false) hy1 hy2 (by omega) (by omega) (by omega) (decide_eq_false (by omega)).symm, if_neg (by omega)]; first | done | rfl))))
local macro:max "§1" : term => `((by (unfold chF; first | (rw [if_pos (by first | exact .inl (by assumption) | exact .inr ⟨by assumption, by assumption⟩)]) | (rw [if_neg (by rintro (hh | ⟨hh, hk⟩) <;> first | contradiction | (simp_all; done)), if_pos (by omega)]) | (rw [if_neg (by rintro (hh | ⟨hh, hk⟩) <;> first | contradiction | (simp_all; done)), if_neg (by omega)]))))
local macro:max "§2" : term => `((by (exact ⟨by omega, by rw [apply_snoc hx1, ← HR]; unfold ap1; first | (rw [if_pos (show bsF (fK x1.Key) rs = true from by assumption), if_pos (by first | assumption | (simpa using ‹(!x1.Gone) = false›))]; done) | (rw [if_pos (show bsF (fK x1.Key) rs = true from by assumption), if_neg (by rw [show x1.Gone = false from by first | assumption | (simpa using ‹(!x1.Gone) = true›)]; decide)]; done) | (rw [if_neg (by rw [show bsF (fK x1.Key) rs = false from by assumption]; decide), if_pos (by first | assumption | (simpa using ‹(!x1.Gone) = false›))]; done) | (rw [if_neg (by rw [show bsF (fK x1.Key) rs = false from by assumption]; decide), if_neg (by rw [show x1.Gone = false from by first | assumption | (simpa using ‹(!x1.Gone) = true›)]; decide)]; done)⟩)))
local macro:max "§3" : term => `((⟨sb.extract 2 (2 + y2.toNat), sb.extract (2 + y2.toNat) sb.size, false⟩ : Change))
local macro:max "§4" : term => `((⟨sb.extract 2 (2 + y2.toNat), sb.extract (2 + y2.toNat) sb.size, true⟩ : Change))
local macro:max "§5" : term => `([.string (⟨#[]⟩), .string (⟨#[]⟩), .bool false])
local macro:max "§6" : term => `((fun x => (fun (x : Change) (k : ByteArray) => fK k x) x x1.Key))
local macro:max "§7" : term => `((by (unfold chB; first | (rw [if_neg (by omega)]; done) | (rw [if_neg (by omega)]; omega) | (rw [if_pos (by omega)]; done) | (rw [if_pos (by omega), show c.Gone = true from by assumption]; rfl) | (rw [if_pos (by omega), show c.Gone = false from by assumption]; rfl))))
local macro:max "§8" : term => `((fun _ => Wd.pik [0] [] rfl rfl rfl))
local macro:max "§9" : term => `((by kernel_rfl))
local macro:max "§10" : term => `([.string (sb.extract 2 (2 + y2.toNat)), .string (sb.extract (2 + y2.toNat) sb.size), .bool false])
local macro:max "§11" : term => `([.string (sb.extract 2 (2 + y2.toNat)), .string (sb.extract (2 + y2.toNat) sb.size), .bool true])
local macro:max "§12" : term => `((by first | omega | (simp; omega)))
local macro:max "§13" : term => `((q.idx (i := k) (fun _ => Wd.fls 1 rfl) rfl rfl tSl_46 rfl hx1))
local macro:max "§14" : term => `((⟨⟨#[]⟩, ⟨#[]⟩, false⟩ : Change))
local macro:max "§15" : term => `((fun _ => Wd.row 0 rfl))
local macro:max "§16" : term => `((fun _ => Wd.pik [1] [] rfl rfl rfl))
local macro:max "§17" : term => `((fun _ => Wd.row 1 rfl))
local macro:max "§18" : term => `((q.gtr rfl rfl (decide_eq_false (by omega))))
local macro:max "§19" : term => `((q.gtr rfl rfl (decide_eq_true (by omega))))
local macro:max "§20" : term => `((by (exact ⟨by omega, by rw [rfGo_snoc hx2, ← HO]; unfold rfStep; dsimp only; (repeat' split) <;> first | rfl | (exfalso; simp_all; done) | (simp_all; done)⟩)))
local macro:max "§21" : term => `([Res.ls v_rows (rows : List Change), Res.ls v_l (l : List Change)])
local macro:max "§22" : term => `((⟨(sb.extract 2 (2 + y2.toNat)), (sb.extract (2 + y2.toNat) sb.size), false⟩ : Change))
local macro:max "§23" : term => `((⟨(sb.extract 2 (2 + y2.toNat)), (sb.extract (2 + y2.toNat) sb.size), true⟩ : Change))
local macro:max "§24" : term => `((q.fldE (j' := 0) (fun _ => Wd.fls 1 rfl) hx1 rfl tFld_51_0 rfl))
local macro:max "§25" : term => `((s.st (us := §5) (cs' := §5) 0 _ rfl rfl rfl rfl (.inl tAgg_51) rfl rfl rfl rfl))
local macro:max "§26" : term => `([.string x1.Key, .string x1.Val, .bool x1.Gone])
local macro:max "§27" : term => `((fun _ => Wd.pik [1, 2] [] rfl rfl rfl))
local macro:max "§28" : term => `((q.cat rfl rfl (by first | omega | (simp only [ByteArray.size_append, lit_size, List.length_cons, List.length_nil]; omega))))
local macro:max "§29" : term => `((q.fld (off' := 0) rfl tFld_51_0 rfl))
local macro:max "§30" : term => `((q.ld 0 rfl rfl tOne_9 rfl))
local macro:max "§31" : term => `((q.ldE (fun _ => Wd.fls 1 rfl) hx1 rfl tOne_9 rfl))
local macro:max "§32" : term => `((q.lss rfl rfl (decide_eq_false (by omega))))
local macro:max "§33" : term => `((q.lss rfl rfl (decide_eq_true (by omega))))
local macro:max "§34" : term => `((q.cvi (r := ((y2.toNat : Nat) : Int)) rfl (by rw [Try.underlying5]; rfl) Try.underlying3 (wr (by omega))))
local macro:max "§35" : term => `((q.lenS rfl Try.underlying9))
local macro:max "§36" : term => `((fun _ => Wd.pik [1, 2, 3] [] rfl rfl rfl))
local macro:max "§37" : term => `((q.add (r := ((k + 1 : Nat) : Int)) rfl rfl (wr (by omega))))
local macro:max "§38" : term => `((q.add (r := ((m + 1 : Nat) : Int)) rfl rfl (wr (by omega))))
local macro:max "§39" : term => `((q.sSl (i := 2) (j := (2 + y2.toNat)) rfl rfl rfl Try.underlying9 rfl rfl (by omega) (by omega)))
local macro:max "§40" : term => `((q.build (cs := §5) tB_51 rfl rfl))
local macro:max "§41" : term => `([Res.row 51 v_l (l : List Change), Res.row 51 v_u (u : List Change)])
local macro:max "§42" : term => `((q.sfromC (i := (i + u.length)) §15 rfl rfl tSl_46 rfl (by omega) (by first | assumption | omega | (simp [scap_sto]; omega))))
local macro:max "§43" : term => `((by (have e := (bsGo_end (by omega)).symm.trans HA; unfold bsF; rw [← e]; first | (rw [hx2]; first | exact (decide_eq_true (by assumption)).symm | exact (decide_eq_false (by assumption)).symm) | (rw [List.getElem?_eq_none (by omega)]))))
local macro:max "§44" : term => `((s.st (us := §5) (cs' := §5) 1 _ rfl rfl rfl rfl (.inl tAgg_51) rfl rfl rfl rfl))
local macro:max "§45" : term => `((q.eql rfl rfl (beq_eq_false_iff_ne.2 (by omega))))
local macro:max "§46" : term => `((q.fld (off' := 1) rfl tFld_51_1 rfl))
local macro:max "§47" : term => `((by dsimp only; omega))
local macro:max "§48" : term => `((by first | omega | (simp; done) | (simp; omega)))
local macro:max "§49" : term => `((q.sIdx (i := 0) rfl rfl Try.underlying9 rfl hy1))

theorem cloneChange_any (v_l : Value) (l : List Change) (w : World) (own : List Nat) (H : Wd w (blks [] ++ own) ([] ++ [Res.held w own]) [Res.ls v_l (l : List Change)] w) (hl : l.length ≤ 1000000) : Calls Try.prog 60 #[v_l] w fun e w' => ∃ z : Value, e = .returned (z) ∧ Wd w (blks [] ++ own) ([Res.row 51 z (l : List Change)] ++ [Res.held w own]) [] w' := by
  have m_l := H.lenF 0 rfl
  refine R.enterN (n := 8) (vs := [v_l]) (B := [Res.held w own]) [(0, v_l)] Try.func60 rfl rfl rfl rfl H ?_
  refine R.reg rfl <| R.u 1 rfl <| R.nil ?_
  refine R.reg rfl <| R.u 1 rfl <| ?_
  rcases Bool.eq_false_or_eq_true (snil v_l) with h1 | h1
  · refine R.q (q.cvb (congrArg Value.bool h1) (q.eqlSl (fun _ => Wd.fls 0 rfl) rfl rfl Try.underlying46)) rfl <| R.nil ?_
    refine R.condT rfl rfl ?_
    refine R.reg rfl <| R.u 1 rfl <| R.nil ?_
    refine R.row0 (α := Change) 51 ?_
    have hz : l = [] := by (first | rfl | exact (List.nil_append _).symm | exact Sl.snil (H.fls 0 rfl) (by assumption))
    rw [hz]
    exact R.w1 (.slice none 0 0) [0, 1] [] rfl Try.results60 (RV.tmp rfl) rfl rfl rfl rfl
  · refine R.q (q.cvb (congrArg Value.bool h1) (q.eqlSl (fun _ => Wd.fls 0 rfl) rfl rfl Try.underlying46)) rfl <| R.nil ?_
    refine R.condF rfl rfl ?_
    refine R.reg rfl <| ?_
    refine R.s rfl (s.bs (l := ([] : List Change)) tSl_46 tZero_51 rfl rfl rfl rfl rfl rfl rfl) fun b1 => ?_
    refine R.u 1 rfl <| ?_
    refine R.s rfl (s.app (l2 := l) 0 _ rfl rfl rfl (fun _ => Wd.fls 0 rfl) tApp_46 (by simp; omega) (by simp; omega) (fun _ => rfl) rfl) fun v1 => ?_
    refine R.u 1 rfl <| R.nil ?_
    have hz : l = (([]) ++ l) := by (first | rfl | exact (List.nil_append _).symm | exact Sl.snil (H.fls 0 rfl) (by assumption))
    rw [hz]
    exact R.w1 v1 [0, 1] [] rfl Try.results60 (RV.tmp rfl) rfl rfl rfl rfl

theorem deleteChange_any (v_l : Value) (l : List Change) (i : Nat) (j : Nat) (w : World) (own : List Nat) (H : Wd w (blks [Res.row 51 v_l (l : List Change)] ++ own) ([Res.row 51 v_l (l : List Change)] ++ [Res.held w own]) [] w) (hij : i ≤ j ∧ j ≤ l.length) : Calls Try.prog 67 #[v_l, .int .i64 (i : Int), .int .i64 (j : Int)] w fun e w' => ∃ z : Value, e = .returned (z) ∧ Wd w (blks [Res.row 51 v_l (l : List Change)] ++ own) ([Res.row 51 z ((l.take i ++ l.drop j) : List Change)] ++ [Res.held w own]) [] w' := by
  have c_l := H.cap 0 rfl; have m_l := H.lenB 0 rfl
  refine R.enterN (n := 33) (vs := [v_l, .int .i64 (i : Int), .int .i64 (j : Int)]) (B := [Res.row 51 v_l (l : List Change), Res.held w own]) [(0, v_l), (1, .int .i64 (i : Int)), (2, .int .i64 (j : Int))] Try.func67 rfl rfl rfl rfl H ?_
  refine R.reg rfl <| R.u 1 rfl <| R.nil ?_
  refine R.reg rfl <| R.u 4 rfl <| R.q (q.len' §15 rfl Try.underlying46) rfl <| R.q (q.sl3 (i := i) (j := j) (q' := l.length) §15 rfl rfl rfl rfl tSl_46 rfl rfl rfl (by omega) (by omega) (by omega)) rfl <| R.nil ?_
  refine R.reg rfl <| R.u 2 rfl <| ?_
  by_cases h1 : i = j
  · refine R.q (q.eql rfl rfl (beq_iff_eq.2 (by omega))) rfl <| R.nil ?_
    refine R.condT rfl rfl ?_
    refine R.reg rfl <| R.u 2 rfl <| R.nil ?_
    have hz : l.take i ++ l.drop j = l := by (first | rfl | exact del_none (by omega))
    rw [hz]
    exact R.w1 v_l [0, 1] [] rfl Try.results67 (RV.tmp rfl) rfl rfl rfl rfl
  · refine R.q §45 rfl <| R.nil ?_
    refine R.condF rfl rfl ?_
    refine R.reg rfl <| R.u 1 rfl <| R.q (q.len' §15 rfl Try.underlying46) rfl <| R.u 1 rfl <| R.nil ?_
    refine R.regD (fuel := 8) (Wd w (blks [Res.row 51 v_l (l : List Change)] ++ own) [Res.held w own] []) rfl mixed rfl ?_
    refine D.q (i := 0) rfl §9 §16 rfl (q.mv rfl) rfl <| D.q (i := 1) rfl §9 §16 rfl (q.mv rfl) rfl <| D.q (i := 3) rfl §9 §16 rfl (q.mv rfl) rfl <| D.q (i := 4) rfl §9 §16 rfl (q.mv rfl) rfl <| ?_
    refine D.two (i := 2) (j := 5) §9 rfl rfl ?_ ?_
    · refine Do.s (s.c (Qt.a (q.sto (i := i) §15 rfl rfl Try.underlying46 tInf_46 rfl §12)) rfl) (fun _ => §16) rfl fun _ => ?_
      refine D.one (i := 5) §9 rfl ?_
      refine Do.s (s.c (Qt.a (q.sfrom (i := j) §15 rfl rfl tSl_46 rfl §12)) rfl) (fun _ => §16) rfl fun _ => ?_
      refine D.one (i := 6) §9 rfl ?_
      refine Do.s (s.appCut (a := i) (l2 := (l.drop j)) 0 _ rfl rfl rfl (fun w hw => Sl.from (§15 w hw) (by omega)) tApp_46 (by omega) (by simp; omega) rfl rfl) (fun _ => §16) rfl fun _ => ?_
      refine D.q (i := 7) rfl §9 §16 rfl (q.as rfl) rfl <| D.done §9 <| ?_
      refine R.reg rfl <| R.u 2 rfl <| R.q (q.len' §15 rfl Try.underlying46) rfl <| R.u 1 rfl <| R.q (q.sl2 (i := (l.take i ++ (l.drop j)).length) (j := l.length) §15 rfl rfl rfl tSl_46 rfl rfl §12 (by first | assumption | omega | (simp; omega) | (simp [scap_sto]; omega))) rfl <| ?_
      refine R.s rfl (s.clrT' (lo := (l.take i ++ (l.drop j)).length) (hi := l.length) (z0 := §14) 0 rfl rfl tSl_46 tZero_51 rfl §12 §12 (by first | assumption | omega | (simp; omega) | (simp [scap_sto]; omega))) fun _ => ?_
      refine R.nil ?_
      refine R.reg rfl <| R.u 2 rfl <| R.nil ?_
      have hz : l.take i ++ l.drop j = (l.take i ++ (l.drop j)) := by (first | rfl | exact del_none (by omega))
      rw [hz]
      exact R.w1 (sto v_l (i + (l.drop j).length)) [0, 1] [] rfl Try.results67 (RV.tmp rfl) rfl rfl rfl rfl
    · refine Do.s (s.c (Qt.a (q.sfrom (i := j) §15 rfl rfl tSl_46 rfl §12)) rfl) (fun _ => §16) rfl fun _ => ?_
      refine D.one (i := 2) §9 rfl ?_
      refine Do.s (s.c (Qt.a (q.sto (i := i) §15 rfl rfl Try.underlying46 tInf_46 rfl §12)) rfl) (fun _ => §16) rfl fun _ => ?_
      refine D.one (i := 6) §9 rfl ?_
      refine Do.s (s.appCut (a := i) (l2 := (l.drop j)) 0 _ rfl rfl rfl (fun w hw => Sl.from (§15 w hw) (by omega)) tApp_46 (by omega) (by simp; omega) rfl rfl) (fun _ => §16) rfl fun _ => ?_
      refine D.q (i := 7) rfl §9 §16 rfl (q.as rfl) rfl <| D.done §9 <| ?_
      refine R.reg rfl <| R.u 2 rfl <| R.q (q.len' §15 rfl Try.underlying46) rfl <| R.u 1 rfl <| R.q (q.sl2 (i := (l.take i ++ (l.drop j)).length) (j := l.length) §15 rfl rfl rfl tSl_46 rfl rfl §12 (by first | assumption | omega | (simp; omega) | (simp [scap_sto]; omega))) rfl <| ?_
      refine R.s rfl (s.clrT' (lo := (l.take i ++ (l.drop j)).length) (hi := l.length) (z0 := §14) 0 rfl rfl tSl_46 tZero_51 rfl §12 §12 (by first | assumption | omega | (simp; omega) | (simp [scap_sto]; omega))) fun _ => ?_
      refine R.nil ?_
      refine R.reg rfl <| R.u 2 rfl <| R.nil ?_
      have hz : l.take i ++ l.drop j = (l.take i ++ (l.drop j)) := by (first | rfl | exact del_none (by omega))
      rw [hz]
      exact R.w1 (sto v_l (i + (l.drop j).length)) [0, 1] [] rfl Try.results67 (RV.tmp rfl) rfl rfl rfl rfl

set_option maxRecDepth 100000 in
theorem insertChange_any (v_l : Value) (l : List Change) (i : Nat) (v_u : Value) (u : List Change) (w : World) (own : List Nat) (H : Wd w (blks §41 ++ own) (§41 ++ [Res.held w own]) [] w) (hi : i ≤ l.length) (hu : u.length = 1) (hl : l.length ≤ 1000000) : Calls Try.prog 68 #[v_l, .int .i64 (i : Int), v_u] w fun e w' => ∃ z : Value, e = .returned (z) ∧ Wd w (blks §41 ++ own) ([Res.row 51 z ((l.take i ++ u ++ l.drop i) : List Change)] ++ [Res.held w own]) [] w' := by
  have c_l := H.cap 0 rfl; have m_l := H.lenB 0 rfl
  have c_u := H.cap 1 rfl; have m_u := H.lenB 1 rfl
  refine R.enterN (n := 95) (vs := [v_l, .int .i64 (i : Int), v_u]) (B := [Res.row 51 v_l (l : List Change), Res.row 51 v_u (u : List Change), Res.held w own]) [(0, v_l), (1, .int .i64 (i : Int)), (2, v_u)] Try.func68 rfl rfl rfl rfl H ?_
  refine R.reg rfl <| R.u 1 rfl <| R.nil ?_
  refine R.reg rfl <| R.u 2 rfl <| R.q (q.sfrom (i := i) §15 rfl rfl tSl_46 rfl §12) rfl <| R.nil ?_
  refine R.reg rfl <| R.u 1 rfl <| R.q (q.len' §17 rfl Try.underlying46) rfl <| R.u 1 rfl <| R.nil ?_
  refine R.reg rfl <| R.u 1 rfl <| ?_
  by_cases h1 : u.length = 0
  · refine R.q (q.eql rfl rfl (beq_iff_eq.2 (by omega))) rfl <| R.nil ?_
    refine R.condT rfl rfl ?_
    refine R.reg rfl <| R.u 2 rfl <| R.nil ?_
    have hz : l.take i ++ u ++ l.drop i = l := by (first | (exfalso; omega) | exact ins_end (by omega) | exact ins_grow hu (by omega) rfl | exact ins_up hu (by omega))
    rw [hz]
    exact R.w1 v_l [0, 2] [] rfl Try.results68 (RV.tmp rfl) rfl rfl rfl rfl
  · refine R.q §45 rfl <| R.nil ?_
    refine R.condF rfl rfl ?_
    refine R.reg rfl <| R.u 1 rfl <| R.q (q.len' §15 rfl Try.underlying46) rfl <| R.u 1 rfl <| R.nil ?_
    refine R.reg rfl <| R.u 2 rfl <| ?_
    by_cases h2 : i = l.length
    · refine R.q (q.eql rfl rfl (beq_iff_eq.2 (by omega))) rfl <| R.nil ?_
      refine R.condT rfl rfl ?_
      refine R.reg rfl <| R.u 2 rfl <| ?_
      refine R.s rfl (s.app (l2 := u) 0 _ rfl rfl rfl §17 tApp_46 §48 §48 (fun _ => rfl) rfl) fun v1 => ?_
      refine R.u 1 rfl <| R.nil ?_
      have hz : l.take i ++ u ++ l.drop i = (l ++ u) := by (first | (exfalso; omega) | exact ins_end (by omega) | exact ins_grow hu (by omega) rfl | exact ins_up hu (by omega))
      rw [hz]
      exact R.w1 v1 [0, 2] [] rfl Try.results68 (RV.tmp rfl) rfl rfl rfl rfl
    · refine R.q §45 rfl <| R.nil ?_
      refine R.condF rfl rfl ?_
      refine R.reg rfl <| R.u 2 rfl <| R.q (q.add (r := ((l.length + u.length : Nat) : Int)) rfl rfl (wr (by omega))) rfl <| R.u 1 rfl <| R.q (q.cap §15 rfl Try.underlying46) rfl <| ?_
      by_cases h3 : (scap v_l) < (l.length + u.length)
      · refine R.q §19 rfl <| R.nil ?_
        refine R.condT rfl rfl ?_
        refine R.reg rfl <| R.u 2 rfl <| R.q (q.sto (i := i) §15 rfl rfl Try.underlying46 tInf_46 rfl §12) rfl <| R.u 2 rfl <| R.q (q.add (r := ((l.length + u.length : Nat) : Int)) rfl rfl (wr (by omega))) rfl <| R.u 1 rfl <| R.q (q.sub (r := (((l.length + u.length) - i : Nat) : Int)) rfl rfl (wr (by omega))) rfl <| ?_
        refine R.s rfl (s.appMake (o := i) (m := ((l.length + u.length) - i)) (z0 := §14) 0 rfl rfl rfl rfl tApp_46 Try.underlying3 tZero_51 rfl (by omega) (by omega) (by omega) (by omega) (by omega) rfl) fun v2 => ?_
        refine R.u 1 rfl <| R.nil ?_
        refine R.reg rfl <| R.u 2 rfl <| R.q (q.sfrom (i := i) §15 rfl rfl tSl_46 rfl §12) rfl <| R.u 1 rfl <| ?_
        refine R.s rfl (s.cpyAt (o := i) (l2 := u) 0 _ rfl (fun _ => Wd.row 2 rfl) rfl rfl tSl_46 §48 rfl rfl) fun _ => ?_
        refine R.nil ?_
        refine R.regD (fuel := 9) (Wd w (blks §41 ++ own) [Res.row 51 v_l (l : List Change), Res.row 51 v_u (u : List Change), Res.held w own] []) rfl mixed rfl ?_
        refine D.q (i := 0) rfl §9 §36 rfl (q.mv rfl) rfl <| D.q (i := 1) rfl §9 §36 rfl (q.mv rfl) rfl <| D.q (i := 2) rfl §9 §36 rfl (q.mv rfl) rfl <| D.q (i := 3) rfl §9 §36 rfl (q.add (r := ((i + u.length : Nat) : Int)) rfl rfl (wr (by omega))) rfl <| D.q (i := 5) rfl §9 §36 rfl (q.mv rfl) rfl <| D.q (i := 6) rfl §9 §36 rfl (q.mv rfl) rfl <| D.q (i := 7) rfl §9 §36 rfl (q.sfrom (i := i) §15 rfl rfl tSl_46 rfl §12) rfl <| ?_
        refine D.one (i := 4) §9 rfl ?_
        refine Do.s (s.c (Qt.a (q.sfrom (i := (i + u.length)) §15 rfl rfl tSl_46 rfl §12)) rfl) (fun _ => §36) rfl fun _ => ?_
        refine D.one (i := 8) §9 rfl ?_
        refine Do.s (s.cpyAt (o := (i + u.length)) (l2 := (l.drop i)) 0 _ rfl (fun w hw => Sl.from (§17 w hw) (by omega)) rfl rfl tSl_46 §48 rfl rfl) (fun _ => §36) rfl fun _ => ?_
        refine D.done §9 <| ?_
        refine R.reg rfl <| R.u 2 rfl <| R.nil ?_
        have hz : l.take i ++ u ++ l.drop i = (((l.take i ++ List.replicate ((l.length + u.length) - i) §14).take i ++ u ++ (l.take i ++ List.replicate ((l.length + u.length) - i) §14).drop (i + u.length)).take (i + u.length) ++ (l.drop i) ++ ((l.take i ++ List.replicate ((l.length + u.length) - i) §14).take i ++ u ++ (l.take i ++ List.replicate ((l.length + u.length) - i) §14).drop (i + u.length)).drop ((i + u.length) + (l.drop i).length)) := by (first | (exfalso; omega) | exact ins_end (by omega) | exact ins_grow hu (by omega) rfl | exact ins_up hu (by omega))
        rw [hz]
        exact R.w1 v2 [0, 3] [] rfl Try.results68 (RV.tmp rfl) rfl rfl rfl rfl
      · refine R.q §18 rfl <| R.nil ?_
        refine R.condF rfl rfl ?_
        refine R.reg rfl <| R.u 3 rfl <| R.q (q.add (r := ((l.length + u.length : Nat) : Int)) rfl rfl (wr (by omega))) rfl <| R.q (q.stoC (i := (l.length + u.length)) §15 rfl rfl tSl_46 rfl (by first | omega | assumption)) rfl <| R.u 1 rfl <| R.nil ?_
        refine R.reg rfl <| R.u 4 rfl <| R.q (q.add (r := ((i + u.length : Nat) : Int)) rfl rfl (wr (by omega))) rfl <| R.q §42 rfl <| R.q (q.ovl (i := 1) (j := 0) (tR := 4) Try.func76 rfl rfl §9 §9 tSl_46 rfl rfl (by decide) (by omega) (by omega) rfl rfl rfl rfl) rfl <| R.u 1 rfl <| R.nil ?_
        refine R.condT rfl rfl ?_
        refine R.regD (fuel := 9) (Wd w (blks §41 ++ own) [Res.row 51 v_u (u : List Change), Res.held w own] []) rfl mixed rfl ?_
        refine D.q (i := 0) rfl §9 §27 rfl (q.mv rfl) rfl <| D.q (i := 1) rfl §9 §27 rfl (q.mv rfl) rfl <| D.q (i := 2) rfl §9 §27 rfl (q.mv rfl) rfl <| D.q (i := 3) rfl §9 §27 rfl (q.add (r := ((i + u.length : Nat) : Int)) rfl rfl (wr (by omega))) rfl <| D.q (i := 5) rfl §9 §27 rfl (q.mv rfl) rfl <| D.q (i := 6) rfl §9 §27 rfl (q.mv rfl) rfl <| ?_
        refine D.two (i := 4) (j := 7) §9 rfl rfl ?_ ?_
        · refine Do.s (s.c (Qt.a §42) rfl) (fun _ => §27) rfl fun _ => ?_
          refine D.one (i := 7) §9 rfl ?_
          refine Do.s (s.c (Qt.a (q.sfromC (i := i) §15 rfl rfl tSl_46 rfl (by omega) (by first | assumption | omega | (simp [scap_sto]; omega)))) rfl) (fun _ => §27) rfl fun _ => ?_
          refine D.one (i := 8) §9 rfl ?_
          refine Do.s (s.cpyUp' (o := i) 0 _ rfl (by omega) (by omega) (by omega) (by first | assumption | omega) rfl rfl tSl_46 rfl rfl) (fun _ => §27) rfl fun _ => ?_
          refine D.done §9 <| ?_
          refine R.reg rfl <| R.u 2 rfl <| R.q (q.sfrom (i := i) §15 rfl rfl tSl_46 rfl §12) rfl <| R.u 1 rfl <| ?_
          refine R.s rfl (s.cpyAt (o := i) (l2 := u) 0 _ rfl §17 rfl rfl tSl_46 §48 rfl rfl) fun _ => ?_
          refine R.nil ?_
          refine R.reg rfl <| R.u 2 rfl <| R.nil ?_
          have hz : l.take i ++ u ++ l.drop i = ((l.take (i + 1) ++ l.drop i).take i ++ u ++ (l.take (i + 1) ++ l.drop i).drop (i + u.length)) := by (first | (exfalso; omega) | exact ins_end (by omega) | exact ins_grow hu (by omega) rfl | exact ins_up hu (by omega))
          rw [hz]
          exact R.w1 (sto v_l (l.length + u.length)) [0, 2] [] rfl Try.results68 (RV.tmp rfl) rfl rfl rfl rfl
        · refine Do.s (s.c (Qt.a (q.sfromC (i := i) §15 rfl rfl tSl_46 rfl (by omega) (by first | assumption | omega | (simp [scap_sto]; omega)))) rfl) (fun _ => §27) rfl fun _ => ?_
          refine D.one (i := 4) §9 rfl ?_
          refine Do.s (s.c (Qt.a §42) rfl) (fun _ => §27) rfl fun _ => ?_
          refine D.one (i := 8) §9 rfl ?_
          refine Do.s (s.cpyUp' (o := i) 0 _ rfl (by omega) (by omega) (by omega) (by first | assumption | omega) rfl rfl tSl_46 rfl rfl) (fun _ => §27) rfl fun _ => ?_
          refine D.done §9 <| ?_
          refine R.reg rfl <| R.u 2 rfl <| R.q (q.sfrom (i := i) §15 rfl rfl tSl_46 rfl §12) rfl <| R.u 1 rfl <| ?_
          refine R.s rfl (s.cpyAt (o := i) (l2 := u) 0 _ rfl §17 rfl rfl tSl_46 §48 rfl rfl) fun _ => ?_
          refine R.nil ?_
          refine R.reg rfl <| R.u 2 rfl <| R.nil ?_
          have hz : l.take i ++ u ++ l.drop i = ((l.take (i + 1) ++ l.drop i).take i ++ u ++ (l.take (i + 1) ++ l.drop i).drop (i + u.length)) := by (first | (exfalso; omega) | exact ins_end (by omega) | exact ins_grow hu (by omega) rfl | exact ins_up hu (by omega))
          rw [hz]
          exact R.w1 (sto v_l (l.length + u.length)) [0, 2] [] rfl Try.results68 (RV.tmp rfl) rfl rfl rfl rfl

theorem strCompare_any (a b : ByteArray) (w : World) : Calls Try.prog 66 #[.string a, .string b] w fun e w' => e = .returned (.int .i64 (cmpS a b)) ∧ Ext w w' :=
  (Try.strings_Compare a b w).mono fun e w' ⟨h1, h2⟩ => ⟨by rw [h1, ← ba_list, ← ba_list, cmpS_eq], by rw [h2]; exact Ext.refl _⟩

theorem applyLit_any (x : Change) (k : ByteArray) (w : World)  : Calls Try.prog 65 #[.agg #[.string x.Key, .string x.Val, .bool x.Gone], .string k] w fun e w' => e = .returned (.int .i64 (fK k x)) ∧ Ext w w' := by
  refine R.enter (n := 9) (vs := [.agg #[.string x.Key, .string x.Val, .bool x.Gone], .string k]) [] [(0, .agg #[.string x.Key, .string x.Val, .bool x.Gone]), (1, .string k)] Try.func65 rfl rfl rfl rfl ?_
  refine R.reg rfl <| ?_
  refine R.s rfl (s.box (cs := [.string x.Key, .string x.Val, .bool x.Gone]) rfl rfl rfl) fun b1 => ?_
  refine R.u 1 rfl <| R.nil ?_
  refine R.reg rfl <| R.q §29 rfl <| R.q §30 rfl <| R.u 1 rfl <| R.c (q.call eg_66 rfl rfl (fun w hw => (strCompare_any (x.Key) (k) w  ))) rfl <| R.u 1 rfl <| R.nil ?_
  exact R.rv rfl Try.results65 rfl (rI (by (rfl)))

theorem bsearchChange_any (v_l : Value) (l : List Change) (t : ByteArray) (c : Change → ByteArray → Int) (g_c : Nat) (c_c : List Value) (eg_c : ∀ args w, (callFunc g_c args).run Try.prog w = .ok (.enter g_c args) w) (w : World) (s_l : Sl w v_l l) (H_c : ∀ W (x1 : Change) (x2 : ByteArray), Ext w W → Calls Try.prog g_c ([x1.val, .string x2] ++ c_c).toArray W fun e w' => e = .returned (.int .i64 (c x1 x2)) ∧ Ext W w') (hl : l.length ≤ 1000000) : Calls Try.prog 64 #[v_l, .string t, .func (.func g_c) #[] c_c.toArray] w fun e w' => e = .returned (.tuple #[.int .i64 (bsL (fun x => c x t) l : Int), .bool (bsF (fun x => c x t) l)]) ∧ Ext w w' := by
  have b_l := s_l.lenle
  refine R.enter (n := 49) (vs := [v_l, .string t, .func (.func g_c) #[] c_c.toArray]) [] [(0, v_l), (1, .string t), (2, .func (.func g_c) #[] c_c.toArray)] Try.func64 rfl rfl rfl rfl ?_
  refine R.reg rfl <| R.u 2 rfl <| R.nil ?_
  refine R.reg rfl <| R.u 1 rfl <| R.q (q.len' (fun _ => Wd.old s_l) rfl Try.underlying46) rfl <| R.u 1 rfl <| R.nil ?_
  refine R.reg rfl <| R.u 3 rfl <| R.nil ?_
  refine R.loop (fun g_ : Nat × Nat => [(0, v_l), (1, .string t), (2, .func (.func g_c) #[] c_c.toArray), (8, .int .i64 (l.length : Int)), (9, .int .i64 (g_.1 : Int)), (10, .int .i64 (g_.2 : Int))]) (fun g_ : Nat × Nat => []) (fun g_ : Nat × Nat => []) (fun g_ : Nat × Nat => g_.1 ≤ g_.2 ∧ g_.2 ≤ l.length ∧ bsGo (fun x => c x t) l g_.1 g_.2 = bsL (fun x => c x t) l) (fun g_ : Nat × Nat => g_.2 - g_.1) (0, l.length) rfl (by exact ⟨Nat.zero_le _, Nat.le_refl _, rfl⟩) ⟨rfl, rfl, rfl, rfl, rfl, rfl, trivial⟩ (fun _ => Wd.pick [] [] rfl rfl rfl) ?_
  rintro ⟨lo, hi⟩ ⟨h1_, h2_, HA⟩
  dsimp only at *
  refine R.reg rfl <| R.u 2 rfl <| ?_
  by_cases h1 : lo < hi
  · refine R.q §33 rfl <| R.nil ?_
    refine R.condT rfl rfl ?_
    refine R.reg rfl <| R.u 2 rfl <| R.q (q.add (r := ((lo + hi : Nat) : Int)) rfl rfl (wr (by omega))) rfl <| R.q (q.cvi (r := (((lo + hi) : Nat) : Int)) rfl (by rw [Try.underlying3]; rfl) Try.underlying111 (wr_u64 (by omega))) rfl <| R.q (q.shr (r := ((((lo + hi) / 2) : Nat) : Int)) rfl rfl (by decide) (shrN (by decide))) rfl <| R.q (q.cvi (r := ((((lo + hi) / 2) : Nat) : Int)) rfl (by rw [Try.underlying111]; rfl) Try.underlying3 (wr (by omega))) rfl <| R.u 1 rfl <| R.nil ?_
    refine R.reg rfl <| R.u 3 rfl <| ?_
    obtain ⟨x1, hx1⟩ : ∃ z, l[((lo + hi) / 2)]? = some z := ⟨_, List.getElem?_eq_getElem (by omega)⟩
    refine R.q (q.idx (i := ((lo + hi) / 2)) (fun _ => Wd.old s_l) rfl rfl tSl_46 rfl hx1) rfl <| R.q (q.ldES (ds := §26) (fun _ => Wd.old s_l) hx1 rfl tAgg_51 rfl) rfl <| R.u 1 rfl <| R.c (q.call eg_c rfl rfl (fun w hw => H_c w x1 t hw.ext)) rfl <| ?_
    by_cases h2 : (c x1 t) < 0
    · refine R.q §33 rfl <| R.nil ?_
      refine R.condT rfl rfl ?_
      refine R.reg rfl <| R.u 1 rfl <| R.q (q.add (r := ((((lo + hi) / 2) + 1 : Nat) : Int)) rfl rfl (wr (by omega))) rfl <| R.u 1 rfl <| R.nil ?_
      refine R.back ((((lo + hi) / 2) + 1), hi) rfl (by (exact ⟨by omega, by omega, (bsGo_lt (by omega) hx1 (by omega)).symm.trans HA⟩)) §47 ⟨rfl, rfl, rfl, rfl, rfl, rfl, trivial⟩ (fun _ => Wd.pick [] [] rfl rfl rfl)
    · refine R.q §32 rfl <| R.nil ?_
      refine R.condF rfl rfl ?_
      refine R.reg rfl <| R.u 2 rfl <| R.nil ?_
      refine R.back (lo, ((lo + hi) / 2)) rfl (by (exact ⟨by omega, by omega, (bsGo_ge (by omega) hx1 (by omega)).symm.trans HA⟩)) §47 ⟨rfl, rfl, rfl, rfl, rfl, rfl, trivial⟩ (fun _ => Wd.pick [] [] rfl rfl rfl)
  · refine R.q §32 rfl <| R.nil ?_
    refine R.condF rfl rfl ?_
    refine R.reg rfl <| R.u 3 rfl <| ?_
    by_cases h3 : lo < l.length
    · refine R.q §33 rfl <| R.u 4 rfl <| ?_
      obtain ⟨x2, hx2⟩ : ∃ z, l[lo]? = some z := ⟨_, List.getElem?_eq_getElem (by omega)⟩
      refine R.qg rfl (q.idx (i := lo) (fun _ => Wd.old s_l) rfl rfl tSl_46 rfl hx2) rfl <| R.qg rfl (q.ldES (ds := [.string x2.Key, .string x2.Val, .bool x2.Gone]) (fun _ => Wd.old s_l) hx2 rfl tAgg_51 rfl) rfl <| R.u 1 rfl <| R.cg rfl (q.call eg_c rfl rfl (fun w hw => H_c w x2 t hw.ext)) rfl <| ?_
      by_cases h4 : (c x2 t) = 0
      · refine R.qg rfl (q.eql rfl rfl (beq_iff_eq.2 (by omega))) rfl <| R.u 3 rfl <| R.nil ?_
        exact R.rv2 rfl Try.results64 rfl rfl (rI (by (exact congrArg (fun n : Nat => (n : Int)) ((bsGo_end (by omega)).symm.trans HA)))) (rB §43)
      · refine R.qg rfl §45 rfl <| R.u 3 rfl <| R.nil ?_
        exact R.rv2 rfl Try.results64 rfl rfl (rI (by (exact congrArg (fun n : Nat => (n : Int)) ((bsGo_end (by omega)).symm.trans HA)))) (rB §43)
    · refine R.q §32 rfl <| R.u 12 rfl <| R.nil ?_
      exact R.rv2 rfl Try.results64 rfl rfl (rI (by (exact congrArg (fun n : Nat => (n : Int)) ((bsGo_end (by omega)).symm.trans HA)))) (rB (by (have e := (bsGo_end (by omega)).symm.trans HA; unfold bsF; rw [← e]; first | (rw [rfl]; first | exact (decide_eq_true (by assumption)).symm | exact (decide_eq_false (by assumption)).symm) | (rw [List.getElem?_eq_none (by omega)]))))

theorem rowCheck_any (c : Change) (w : World)  : Calls Try.prog 48 #[.agg #[.string c.Key, .string c.Val, .bool c.Gone]] w fun e w' => e = .returned (errv (chF c)) ∧ Ext w w' := by
  refine R.enter (n := 27) (vs := [.agg #[.string c.Key, .string c.Val, .bool c.Gone]]) [] [(0, .agg #[.string c.Key, .string c.Val, .bool c.Gone])] Try.func48 rfl rfl rfl rfl ?_
  refine R.reg rfl <| ?_
  refine R.s rfl (s.box (cs := [.string c.Key, .string c.Val, .bool c.Gone]) rfl rfl rfl) fun b1 => ?_
  refine R.u 1 rfl <| R.nil ?_
  refine R.reg rfl <| R.q §29 rfl <| R.q §30 rfl <| ?_
  by_cases h1 : c.Key = ⟨#[]⟩
  · refine R.q (q.eqlS1 rfl rfl h1) rfl <| R.u 9 rfl <| R.nil ?_
    refine R.condT rfl rfl ?_
    refine R.reg rfl <| R.q (q.iface rfl con_75) rfl <| R.u 1 rfl <| R.nil ?_
    exact R.rv rfl Try.results48 rfl (errk (by decide) §1)
  · refine R.q (q.eqlS0 rfl rfl h1) rfl <| R.u 1 rfl <| R.qg rfl (q.fld (off' := 2) rfl tFld_51_2 rfl) rfl <| R.qg rfl (q.ld 0 rfl rfl tOne_4 rfl) rfl <| R.u 1 rfl <| ?_
    rcases Bool.eq_false_or_eq_true (c.Gone) with h2 | h2
    · rw [h2]
      refine R.qg rfl §46 rfl <| R.qg rfl §30 rfl <| ?_
      by_cases h3 : c.Val = ⟨#[]⟩
      · refine R.qg rfl (q.neqS1 rfl rfl h3) rfl <| R.u 2 rfl <| R.nil ?_
        refine R.condF rfl rfl ?_
        refine R.reg rfl <| R.q §29 rfl <| R.q §30 rfl <| R.q §35 rfl <| ?_
        by_cases h4 : 8 < c.Key.size
        · refine R.q §19 rfl <| R.u 6 rfl <| R.nil ?_
          refine R.condT rfl rfl ?_
          refine R.reg rfl <| R.q (q.iface rfl con_75) rfl <| R.u 1 rfl <| R.nil ?_
          exact R.rv rfl Try.results48 rfl (errk (by decide) §1)
        · refine R.q §18 rfl <| R.u 1 rfl <| R.qg rfl §46 rfl <| R.qg rfl §30 rfl <| R.qg rfl §35 rfl <| ?_
          by_cases h5 : 24 < c.Val.size
          · refine R.qg rfl §19 rfl <| R.u 1 rfl <| R.nil ?_
            refine R.condT rfl rfl ?_
            refine R.reg rfl <| R.q (q.iface rfl con_75) rfl <| R.u 1 rfl <| R.nil ?_
            exact R.rv rfl Try.results48 rfl (errk (by decide) §1)
          · refine R.qg rfl §18 rfl <| R.u 1 rfl <| R.nil ?_
            refine R.condF rfl rfl ?_
            refine R.reg rfl <| R.u 1 rfl <| R.nil ?_
            exact R.rv rfl Try.results48 rfl (err0 §1)
      · refine R.qg rfl (q.neqS0 rfl rfl h3) rfl <| R.u 2 rfl <| R.nil ?_
        refine R.condT rfl rfl ?_
        refine R.reg rfl <| R.q (q.iface rfl con_75) rfl <| R.u 1 rfl <| R.nil ?_
        exact R.rv rfl Try.results48 rfl (errk (by decide) §1)
    · rw [h2]
      refine R.u 5 rfl <| R.nil ?_
      refine R.condF rfl rfl ?_
      refine R.reg rfl <| R.q §29 rfl <| R.q §30 rfl <| R.q §35 rfl <| ?_
      by_cases h6 : 8 < c.Key.size
      · refine R.q §19 rfl <| R.u 6 rfl <| R.nil ?_
        refine R.condT rfl rfl ?_
        refine R.reg rfl <| R.q (q.iface rfl con_75) rfl <| R.u 1 rfl <| R.nil ?_
        exact R.rv rfl Try.results48 rfl (errk (by decide) §1)
      · refine R.q §18 rfl <| R.u 1 rfl <| R.qg rfl §46 rfl <| R.qg rfl §30 rfl <| R.qg rfl §35 rfl <| ?_
        by_cases h7 : 24 < c.Val.size
        · refine R.qg rfl §19 rfl <| R.u 1 rfl <| R.nil ?_
          refine R.condT rfl rfl ?_
          refine R.reg rfl <| R.q (q.iface rfl con_75) rfl <| R.u 1 rfl <| R.nil ?_
          exact R.rv rfl Try.results48 rfl (errk (by decide) §1)
        · refine R.qg rfl §18 rfl <| R.u 1 rfl <| R.nil ?_
          refine R.condF rfl rfl ?_
          refine R.reg rfl <| R.u 1 rfl <| R.nil ?_
          exact R.rv rfl Try.results48 rfl (err0 §1)

theorem changeFault_any (c : Change) (w : World)  : Calls Try.prog 19 #[.agg #[.string c.Key, .string c.Val, .bool c.Gone]] w fun e w' => e = .returned (.int .i64 (chF c)) ∧ Ext w w' := by
  refine R.enter (n := 25) (vs := [.agg #[.string c.Key, .string c.Val, .bool c.Gone]]) [] [(0, .agg #[.string c.Key, .string c.Val, .bool c.Gone])] Try.func19 rfl rfl rfl rfl ?_
  refine R.reg rfl <| ?_
  refine R.s rfl (s.box (cs := [.string c.Key, .string c.Val, .bool c.Gone]) rfl rfl rfl) fun b1 => ?_
  refine R.u 1 rfl <| R.nil ?_
  refine R.reg rfl <| R.q §29 rfl <| R.q §30 rfl <| ?_
  by_cases h1 : c.Key = ⟨#[]⟩
  · refine R.q (q.eqlS1 rfl rfl h1) rfl <| R.u 9 rfl <| R.nil ?_
    refine R.condT rfl rfl ?_
    refine R.reg rfl <| R.u 1 rfl <| R.nil ?_
    exact R.rv rfl Try.results19 rfl (rI §1)
  · refine R.q (q.eqlS0 rfl rfl h1) rfl <| R.u 1 rfl <| R.qg rfl (q.fld (off' := 2) rfl tFld_51_2 rfl) rfl <| R.qg rfl (q.ld 0 rfl rfl tOne_4 rfl) rfl <| R.u 1 rfl <| ?_
    rcases Bool.eq_false_or_eq_true (c.Gone) with h2 | h2
    · rw [h2]
      refine R.qg rfl §46 rfl <| R.qg rfl §30 rfl <| ?_
      by_cases h3 : c.Val = ⟨#[]⟩
      · refine R.qg rfl (q.neqS1 rfl rfl h3) rfl <| R.u 2 rfl <| R.nil ?_
        refine R.condF rfl rfl ?_
        refine R.reg rfl <| R.q §29 rfl <| R.q §30 rfl <| R.q §35 rfl <| ?_
        by_cases h4 : 8 < c.Key.size
        · refine R.q §19 rfl <| R.u 6 rfl <| R.nil ?_
          refine R.condT rfl rfl ?_
          refine R.reg rfl <| R.u 1 rfl <| R.nil ?_
          exact R.rv rfl Try.results19 rfl (rI §1)
        · refine R.q §18 rfl <| R.u 1 rfl <| R.qg rfl §46 rfl <| R.qg rfl §30 rfl <| R.qg rfl §35 rfl <| ?_
          by_cases h5 : 24 < c.Val.size
          · refine R.qg rfl §19 rfl <| R.u 1 rfl <| R.nil ?_
            refine R.condT rfl rfl ?_
            refine R.reg rfl <| R.u 1 rfl <| R.nil ?_
            exact R.rv rfl Try.results19 rfl (rI §1)
          · refine R.qg rfl §18 rfl <| R.u 1 rfl <| R.nil ?_
            refine R.condF rfl rfl ?_
            refine R.reg rfl <| R.u 1 rfl <| R.nil ?_
            exact R.rv rfl Try.results19 rfl (rI §1)
      · refine R.qg rfl (q.neqS0 rfl rfl h3) rfl <| R.u 2 rfl <| R.nil ?_
        refine R.condT rfl rfl ?_
        refine R.reg rfl <| R.u 1 rfl <| R.nil ?_
        exact R.rv rfl Try.results19 rfl (rI §1)
    · rw [h2]
      refine R.u 5 rfl <| R.nil ?_
      refine R.condF rfl rfl ?_
      refine R.reg rfl <| R.q §29 rfl <| R.q §30 rfl <| R.q §35 rfl <| ?_
      by_cases h6 : 8 < c.Key.size
      · refine R.q §19 rfl <| R.u 6 rfl <| R.nil ?_
        refine R.condT rfl rfl ?_
        refine R.reg rfl <| R.u 1 rfl <| R.nil ?_
        exact R.rv rfl Try.results19 rfl (rI §1)
      · refine R.q §18 rfl <| R.u 1 rfl <| R.qg rfl §46 rfl <| R.qg rfl §30 rfl <| R.qg rfl §35 rfl <| ?_
        by_cases h7 : 24 < c.Val.size
        · refine R.qg rfl §19 rfl <| R.u 1 rfl <| R.nil ?_
          refine R.condT rfl rfl ?_
          refine R.reg rfl <| R.u 1 rfl <| R.nil ?_
          exact R.rv rfl Try.results19 rfl (rI §1)
        · refine R.qg rfl §18 rfl <| R.u 1 rfl <| R.nil ?_
          refine R.condF rfl rfl ?_
          refine R.reg rfl <| R.u 1 rfl <| R.nil ?_
          exact R.rv rfl Try.results19 rfl (rI §1)

theorem rowBytes_any (c : Change) (w : World)  : Calls Try.prog 62 #[.agg #[.string c.Key, .string c.Val, .bool c.Gone]] w fun e w' => e = .returned (.tuple #[.string ((chB c).1), errv ((chB c).2)]) ∧ Ext w w' := by
  have f0 := chF_023 c
  refine R.enter (n := 26) (vs := [.agg #[.string c.Key, .string c.Val, .bool c.Gone]]) [] [(0, .agg #[.string c.Key, .string c.Val, .bool c.Gone])] Try.func62 rfl rfl rfl rfl ?_
  refine R.reg rfl <| ?_
  refine R.s rfl (s.box (cs := [.string c.Key, .string c.Val, .bool c.Gone]) rfl rfl rfl) fun b1 => ?_
  refine R.u 2 rfl <| R.nil ?_
  refine R.reg rfl <| R.q (q.ldS 0 rfl rfl tAgg_51) rfl <| R.c (q.call eg_48 rfl rfl (fun w hw => (rowCheck_any (c) w  ))) rfl <| R.u 1 rfl <| R.nil ?_
  refine R.reg rfl <| R.u 1 rfl <| ?_
  by_cases h1 : chF c = 0
  · obtain ⟨z1, z2, z3, z4⟩ := chF_zero h1
    refine R.q (q.neqE0 rfl rfl Try.underlying28 (by omega)) rfl <| R.nil ?_
    refine R.condF rfl rfl ?_
    refine R.reg rfl <| R.u 1 rfl <| R.nil ?_
    refine R.reg rfl <| R.q (q.fld (off' := 2) rfl tFld_51_2 rfl) rfl <| R.q (q.ld 0 rfl rfl tOne_4 rfl) rfl <| R.nil ?_
    refine R.cond rfl rfl (fun h2 => ?_) (fun h2 => ?_)
    · refine R.reg rfl <| R.u 1 rfl <| R.nil ?_
      refine R.reg rfl <| R.u 1 rfl <| R.q §29 rfl <| R.q §30 rfl <| R.q §35 rfl <| R.q (q.cvi (r := ((c.Key.size : Nat) : Int)) rfl (by rw [Try.underlying3]; rfl) Try.underlying5 (wr_u8 (by omega))) rfl <| ?_
      refine R.s rfl (s.bs (l := ([(1 : UInt8), (UInt8.ofNat c.Key.size)] : List UInt8)) tSl_109 tZero_5 rfl rfl rfl rfl rfl (cl_cons rfl (cl_cons (u8n_cell (by omega)) cl_nil)) rfl) fun b2 => ?_
      refine R.q (q.b2s §15 rfl tSl_109 Try.underlying5 Try.underlying9) rfl <| R.q §29 rfl <| R.q (q.ld 1 rfl rfl tOne_9 rfl) rfl <| R.q §28 rfl <| R.q §46 rfl <| R.q (q.ld 1 rfl rfl tOne_9 rfl) rfl <| R.q §28 rfl <| R.u 2 rfl <| R.nil ?_
      exact R.rv2 rfl Try.results62 rfl rfl (rS §7) (err0 §7)
    · refine R.reg rfl <| R.u 1 rfl <| R.q §29 rfl <| R.q §30 rfl <| R.q §35 rfl <| R.q (q.cvi (r := ((c.Key.size : Nat) : Int)) rfl (by rw [Try.underlying3]; rfl) Try.underlying5 (wr_u8 (by omega))) rfl <| ?_
      refine R.s rfl (s.bs (l := ([(0 : UInt8), (UInt8.ofNat c.Key.size)] : List UInt8)) tSl_109 tZero_5 rfl rfl rfl rfl rfl (cl_cons rfl (cl_cons (u8n_cell (by omega)) cl_nil)) rfl) fun b3 => ?_
      refine R.q (q.b2s §15 rfl tSl_109 Try.underlying5 Try.underlying9) rfl <| R.q §29 rfl <| R.q (q.ld 1 rfl rfl tOne_9 rfl) rfl <| R.q §28 rfl <| R.q §46 rfl <| R.q (q.ld 1 rfl rfl tOne_9 rfl) rfl <| R.q §28 rfl <| R.u 2 rfl <| R.nil ?_
      exact R.rv2 rfl Try.results62 rfl rfl (rS §7) (err0 §7)
  · refine R.q (q.neqE1 rfl rfl Try.underlying28 (by omega)) rfl <| R.nil ?_
    refine R.condT rfl rfl ?_
    refine R.reg rfl <| R.u 3 rfl <| R.nil ?_
    exact R.rv2 rfl Try.results62 rfl rfl (rS §7) (rE §7)

theorem chP_bad1 {s : ByteArray} (h : s.size < 2) : chP s = (c0, 4) := by unfold chP; rw [if_pos (.inl h)]
theorem chP_bad2 {s : ByteArray} {y : UInt8} (hy : s.data[0]? = some y) (h : 1 < y.toNat) : chP s = (c0, 4) := by unfold chP; rw [if_pos (.inr (.inl (by rw [byteAt_of hy]; exact h)))]
theorem chP_bad3 {s : ByteArray} {y : UInt8} (hy : s.data[1]? = some y) (h : s.size < 2 + y.toNat) : chP s = (c0, 4) := by unfold chP; rw [if_pos (.inr (.inr (by rw [byteAt_of hy]; exact h)))]
theorem chP_at {s : ByteArray} {y z : UInt8} {b : Bool} (hy : s.data[0]? = some y) (hz : s.data[1]? = some z) (h1 : ¬ s.size < 2) (h2 : ¬ 1 < y.toNat) (h3 : ¬ s.size < 2 + z.toNat) (hb : b = decide (y.toNat = 1)) :
    chP s = if chF ⟨s.extract 2 (2 + z.toNat), s.extract (2 + z.toNat) s.size, b⟩ = 0 then (⟨s.extract 2 (2 + z.toNat), s.extract (2 + z.toNat) s.size, b⟩, 0) else (c0, 4) := by
  have e1 := byteAt_of hy; have e2 := byteAt_of hz
  unfold chP; rw [if_neg (by rw [e1, e2]; omega)]; unfold chOf; rw [e1, e2, hb]

theorem rowParse_any (sb : ByteArray) (w : World) (hs : sb.size ≤ 1000000) : Calls Try.prog 45 #[.string sb] w fun e w' => e = .returned (.tuple #[Change.val ((chP sb).1), errv ((chP sb).2)]) ∧ Ext w w' := by
  refine R.enter (n := 45) (vs := [.string sb]) [] [(0, .string sb)] Try.func45 rfl rfl rfl rfl ?_
  refine R.reg rfl <| ?_
  refine R.s rfl (s.alloc (cs := §5) tZero_51 rfl rfl) fun b1 => ?_
  refine R.u 1 rfl <| R.nil ?_
  refine R.reg rfl <| R.u 1 rfl <| R.q §35 rfl <| ?_
  by_cases h1 : sb.size < 2
  · refine R.q §33 rfl <| R.u 14 rfl <| R.nil ?_
    refine R.condT rfl rfl ?_
    refine R.reg rfl <| R.q §40 rfl <| R.q (q.iface rfl con_75) rfl <| ?_
    refine R.s rfl §25 fun _ => ?_
    refine R.u 1 rfl <| R.nil ?_
    exact R.rr2 rfl Try.results45 (RV.cell 0 rfl rfl tAgg_51) (RV.tmp rfl) (congrArg Change.val (show §14 = (chP sb).1 from by (first | (rw [chP_bad1 (by omega)]; first | done | rfl) | (rw [chP_bad2 hy1 (by omega)]; first | done | rfl) | (rw [chP_bad3 hy2 (by omega)]; first | done | rfl) | (have f1 := chF_023 §4; rw [chP_at (b := true) hy1 hy2 (by omega) (by omega) (by omega) (decide_eq_true (by omega)).symm, if_pos (by omega)]; first | done | rfl) | (have f1 := chF_023 §3; rw [chP_at (b := false) hy1 hy2 (by omega) (by omega) (by omega) (decide_eq_false (by omega)).symm, if_pos (by omega)]; first | done | rfl) | (have f1 := chF_023 §4; rw [chP_at (b := true) hy1 hy2 (by omega) (by omega) (by omega) (decide_eq_true (by omega)).symm, if_neg (by omega)]; first | done | rfl) | (have f1 := chF_023 §3; rw [chP_at (b := false) hy1 hy2 (by omega) (by omega) (by omega) (decide_eq_false (by omega)).symm, if_neg (by omega)]; first | done | rfl)))) (errk (by decide) §0)
  · refine R.q §32 rfl <| R.u 2 rfl <| ?_
    obtain ⟨y1, hy1⟩ : ∃ z, sb.data[0]? = some z := ⟨_, Array.getElem?_eq_getElem (show 0 < sb.size from by omega)⟩
    have by1 := y1.toNat_lt
    refine R.qg rfl §49 rfl <| ?_
    by_cases h2 : 1 < y1.toNat
    · refine R.qg rfl §19 rfl <| R.u 10 rfl <| R.nil ?_
      refine R.condT rfl rfl ?_
      refine R.reg rfl <| R.q §40 rfl <| R.q (q.iface rfl con_75) rfl <| ?_
      refine R.s rfl §25 fun _ => ?_
      refine R.u 1 rfl <| R.nil ?_
      exact R.rr2 rfl Try.results45 (RV.cell 0 rfl rfl tAgg_51) (RV.tmp rfl) (congrArg Change.val (show §14 = (chP sb).1 from by (first | (rw [chP_bad1 (by omega)]; first | done | rfl) | (rw [chP_bad2 hy1 (by omega)]; first | done | rfl) | (rw [chP_bad3 hy2 (by omega)]; first | done | rfl) | (have f1 := chF_023 §4; rw [chP_at (b := true) hy1 hy2 (by omega) (by omega) (by omega) (decide_eq_true (by omega)).symm, if_pos (by omega)]; first | done | rfl) | (have f1 := chF_023 §3; rw [chP_at (b := false) hy1 hy2 (by omega) (by omega) (by omega) (decide_eq_false (by omega)).symm, if_pos (by omega)]; first | done | rfl) | (have f1 := chF_023 §4; rw [chP_at (b := true) hy1 hy2 (by omega) (by omega) (by omega) (decide_eq_true (by omega)).symm, if_neg (by omega)]; first | done | rfl) | (have f1 := chF_023 §3; rw [chP_at (b := false) hy1 hy2 (by omega) (by omega) (by omega) (decide_eq_false (by omega)).symm, if_neg (by omega)]; first | done | rfl)))) (errk (by decide) §0)
    · refine R.qg rfl §18 rfl <| R.u 3 rfl <| ?_
      obtain ⟨y2, hy2⟩ : ∃ z, sb.data[1]? = some z := ⟨_, Array.getElem?_eq_getElem (show 1 < sb.size from by omega)⟩
      have by2 := y2.toNat_lt
      refine R.qg rfl (q.sIdx (i := 1) rfl rfl Try.underlying9 rfl hy2) rfl <| R.qg rfl §34 rfl <| R.qg rfl (q.add (r := ((2 + y2.toNat : Nat) : Int)) rfl rfl (wr (by omega))) rfl <| R.u 1 rfl <| R.qg rfl §35 rfl <| ?_
      by_cases h3 : sb.size < (2 + y2.toNat)
      · refine R.qg rfl §19 rfl <| R.u 1 rfl <| R.nil ?_
        refine R.condT rfl rfl ?_
        refine R.reg rfl <| R.q §40 rfl <| R.q (q.iface rfl con_75) rfl <| ?_
        refine R.s rfl §25 fun _ => ?_
        refine R.u 1 rfl <| R.nil ?_
        exact R.rr2 rfl Try.results45 (RV.cell 0 rfl rfl tAgg_51) (RV.tmp rfl) (congrArg Change.val (show §14 = (chP sb).1 from by (first | (rw [chP_bad1 (by omega)]; first | done | rfl) | (rw [chP_bad2 hy1 (by omega)]; first | done | rfl) | (rw [chP_bad3 hy2 (by omega)]; first | done | rfl) | (have f1 := chF_023 §4; rw [chP_at (b := true) hy1 hy2 (by omega) (by omega) (by omega) (decide_eq_true (by omega)).symm, if_pos (by omega)]; first | done | rfl) | (have f1 := chF_023 §3; rw [chP_at (b := false) hy1 hy2 (by omega) (by omega) (by omega) (decide_eq_false (by omega)).symm, if_pos (by omega)]; first | done | rfl) | (have f1 := chF_023 §4; rw [chP_at (b := true) hy1 hy2 (by omega) (by omega) (by omega) (decide_eq_true (by omega)).symm, if_neg (by omega)]; first | done | rfl) | (have f1 := chF_023 §3; rw [chP_at (b := false) hy1 hy2 (by omega) (by omega) (by omega) (decide_eq_false (by omega)).symm, if_neg (by omega)]; first | done | rfl)))) (errk (by decide) §0)
      · refine R.qg rfl §18 rfl <| R.u 1 rfl <| R.nil ?_
        refine R.condF rfl rfl ?_
        refine R.reg rfl <| R.u 1 rfl <| R.q (q.sIdx (i := 1) rfl rfl Try.underlying9 rfl hy2) rfl <| R.q §34 rfl <| R.q (q.add (r := ((2 + y2.toNat : Nat) : Int)) rfl rfl (wr (by omega))) rfl <| R.u 1 rfl <| R.nil ?_
        by_cases h4 : y1.toNat = 1
        · refine R.regD (fuel := 12) (Wd w [] [Res.box b1 §5 51] []) rfl mixed rfl ?_
          refine D.q (i := 0) rfl §9 §8 rfl (q.mv rfl) rfl <| D.q (i := 1) rfl §9 §8 rfl (q.mv rfl) rfl <| D.q (i := 2) rfl §9 §8 rfl §39 rfl <| D.q (i := 3) rfl §9 §8 rfl (q.mv rfl) rfl <| D.q (i := 4) rfl §9 §8 rfl (q.mv rfl) rfl <| D.q (i := 5) rfl §9 §8 rfl (q.sFrom (i := (2 + y2.toNat)) rfl rfl Try.underlying9 rfl (by omega)) rfl <| D.q (i := 6) rfl §9 §8 rfl (q.mv rfl) rfl <| D.q (i := 7) rfl §9 §8 rfl §49 rfl <| D.q (i := 8) rfl §9 §8 rfl (q.eql rfl rfl (beq_iff_eq.2 (by omega))) rfl <| D.q (i := 9) rfl §9 §8 rfl (q.build (cs := §11) tB_51 rfl rfl) rfl <| ?_
          refine D.one (i := 10) §9 rfl ?_
          refine Do.s (s.alloc (cs := §5) tZero_51 rfl rfl) (fun _ => §16) rfl fun b2 => ?_
          refine D.one (i := 11) §9 rfl ?_
          refine Do.s (s.st (us := §11) (cs' := §11) 0 _ rfl rfl rfl rfl (.inl tAgg_51) rfl rfl rfl rfl) (fun _ => §16) rfl fun _ => ?_
          refine D.done §9 <| ?_
          refine R.reg rfl <| R.q (q.ldS 0 rfl rfl tAgg_51) rfl <| R.c (q.call eg_48 rfl rfl (fun w hw => (rowCheck_any (§23) w  ))) rfl <| ?_
          by_cases h5 : chF §23 = 0
          · refine R.q (q.neqE0 rfl rfl Try.underlying28 (by omega)) rfl <| R.nil ?_
            refine R.condF rfl rfl ?_
            refine R.reg rfl <| R.q (q.ldS 0 rfl rfl tAgg_51) rfl <| ?_
            refine R.s rfl (s.st (us := §11) (cs' := §11) 1 _ rfl rfl rfl rfl (.inl tAgg_51) rfl rfl rfl rfl) fun _ => ?_
            refine R.u 1 rfl <| R.nil ?_
            exact R.rr2 rfl Try.results45 (RV.cell 1 rfl rfl tAgg_51) (RV.tmp rfl) (congrArg Change.val (show §23 = (chP sb).1 from by (first | (rw [chP_bad1 (by omega)]; first | done | rfl) | (rw [chP_bad2 hy1 (by omega)]; first | done | rfl) | (rw [chP_bad3 hy2 (by omega)]; first | done | rfl) | (have f1 := chF_023 §4; rw [chP_at (b := true) hy1 hy2 (by omega) (by omega) (by omega) (decide_eq_true (by omega)).symm, if_pos (by omega)]; first | done | rfl) | (have f1 := chF_023 §3; rw [chP_at (b := false) hy1 hy2 (by omega) (by omega) (by omega) (decide_eq_false (by omega)).symm, if_pos (by omega)]; first | done | rfl) | (have f1 := chF_023 §4; rw [chP_at (b := true) hy1 hy2 (by omega) (by omega) (by omega) (decide_eq_true (by omega)).symm, if_neg (by omega)]; first | done | rfl) | (have f1 := chF_023 §3; rw [chP_at (b := false) hy1 hy2 (by omega) (by omega) (by omega) (decide_eq_false (by omega)).symm, if_neg (by omega)]; first | done | rfl)))) (err0 §0)
          · refine R.q (q.neqE1 rfl rfl Try.underlying28 (by omega)) rfl <| R.nil ?_
            refine R.condT rfl rfl ?_
            refine R.reg rfl <| R.q §40 rfl <| R.q (q.iface rfl con_75) rfl <| ?_
            refine R.s rfl §44 fun _ => ?_
            refine R.u 1 rfl <| R.nil ?_
            exact R.rr2 rfl Try.results45 (RV.cell 1 rfl rfl tAgg_51) (RV.tmp rfl) (congrArg Change.val (show §14 = (chP sb).1 from by (first | (rw [chP_bad1 (by omega)]; first | done | rfl) | (rw [chP_bad2 hy1 (by omega)]; first | done | rfl) | (rw [chP_bad3 hy2 (by omega)]; first | done | rfl) | (have f1 := chF_023 §4; rw [chP_at (b := true) hy1 hy2 (by omega) (by omega) (by omega) (decide_eq_true (by omega)).symm, if_pos (by omega)]; first | done | rfl) | (have f1 := chF_023 §3; rw [chP_at (b := false) hy1 hy2 (by omega) (by omega) (by omega) (decide_eq_false (by omega)).symm, if_pos (by omega)]; first | done | rfl) | (have f1 := chF_023 §4; rw [chP_at (b := true) hy1 hy2 (by omega) (by omega) (by omega) (decide_eq_true (by omega)).symm, if_neg (by omega)]; first | done | rfl) | (have f1 := chF_023 §3; rw [chP_at (b := false) hy1 hy2 (by omega) (by omega) (by omega) (decide_eq_false (by omega)).symm, if_neg (by omega)]; first | done | rfl)))) (errk (by decide) §0)
        · refine R.regD (fuel := 12) (Wd w [] [Res.box b1 §5 51] []) rfl mixed rfl ?_
          refine D.q (i := 0) rfl §9 §8 rfl (q.mv rfl) rfl <| D.q (i := 1) rfl §9 §8 rfl (q.mv rfl) rfl <| D.q (i := 2) rfl §9 §8 rfl §39 rfl <| D.q (i := 3) rfl §9 §8 rfl (q.mv rfl) rfl <| D.q (i := 4) rfl §9 §8 rfl (q.mv rfl) rfl <| D.q (i := 5) rfl §9 §8 rfl (q.sFrom (i := (2 + y2.toNat)) rfl rfl Try.underlying9 rfl (by omega)) rfl <| D.q (i := 6) rfl §9 §8 rfl (q.mv rfl) rfl <| D.q (i := 7) rfl §9 §8 rfl §49 rfl <| D.q (i := 8) rfl §9 §8 rfl §45 rfl <| D.q (i := 9) rfl §9 §8 rfl (q.build (cs := §10) tB_51 rfl rfl) rfl <| ?_
          refine D.one (i := 10) §9 rfl ?_
          refine Do.s (s.alloc (cs := §5) tZero_51 rfl rfl) (fun _ => §16) rfl fun b3 => ?_
          refine D.one (i := 11) §9 rfl ?_
          refine Do.s (s.st (us := §10) (cs' := §10) 0 _ rfl rfl rfl rfl (.inl tAgg_51) rfl rfl rfl rfl) (fun _ => §16) rfl fun _ => ?_
          refine D.done §9 <| ?_
          refine R.reg rfl <| R.q (q.ldS 0 rfl rfl tAgg_51) rfl <| R.c (q.call eg_48 rfl rfl (fun w hw => (rowCheck_any (§22) w  ))) rfl <| ?_
          by_cases h6 : chF §22 = 0
          · refine R.q (q.neqE0 rfl rfl Try.underlying28 (by omega)) rfl <| R.nil ?_
            refine R.condF rfl rfl ?_
            refine R.reg rfl <| R.q (q.ldS 0 rfl rfl tAgg_51) rfl <| ?_
            refine R.s rfl (s.st (us := §10) (cs' := §10) 1 _ rfl rfl rfl rfl (.inl tAgg_51) rfl rfl rfl rfl) fun _ => ?_
            refine R.u 1 rfl <| R.nil ?_
            exact R.rr2 rfl Try.results45 (RV.cell 1 rfl rfl tAgg_51) (RV.tmp rfl) (congrArg Change.val (show §22 = (chP sb).1 from by (first | (rw [chP_bad1 (by omega)]; first | done | rfl) | (rw [chP_bad2 hy1 (by omega)]; first | done | rfl) | (rw [chP_bad3 hy2 (by omega)]; first | done | rfl) | (have f1 := chF_023 §4; rw [chP_at (b := true) hy1 hy2 (by omega) (by omega) (by omega) (decide_eq_true (by omega)).symm, if_pos (by omega)]; first | done | rfl) | (have f1 := chF_023 §3; rw [chP_at (b := false) hy1 hy2 (by omega) (by omega) (by omega) (decide_eq_false (by omega)).symm, if_pos (by omega)]; first | done | rfl) | (have f1 := chF_023 §4; rw [chP_at (b := true) hy1 hy2 (by omega) (by omega) (by omega) (decide_eq_true (by omega)).symm, if_neg (by omega)]; first | done | rfl) | (have f1 := chF_023 §3; rw [chP_at (b := false) hy1 hy2 (by omega) (by omega) (by omega) (decide_eq_false (by omega)).symm, if_neg (by omega)]; first | done | rfl)))) (err0 §0)
          · refine R.q (q.neqE1 rfl rfl Try.underlying28 (by omega)) rfl <| R.nil ?_
            refine R.condT rfl rfl ?_
            refine R.reg rfl <| R.q §40 rfl <| R.q (q.iface rfl con_75) rfl <| ?_
            refine R.s rfl §44 fun _ => ?_
            refine R.u 1 rfl <| R.nil ?_
            exact R.rr2 rfl Try.results45 (RV.cell 1 rfl rfl tAgg_51) (RV.tmp rfl) (congrArg Change.val (show §14 = (chP sb).1 from by (first | (rw [chP_bad1 (by omega)]; first | done | rfl) | (rw [chP_bad2 hy1 (by omega)]; first | done | rfl) | (rw [chP_bad3 hy2 (by omega)]; first | done | rfl) | (have f1 := chF_023 §4; rw [chP_at (b := true) hy1 hy2 (by omega) (by omega) (by omega) (decide_eq_true (by omega)).symm, if_pos (by omega)]; first | done | rfl) | (have f1 := chF_023 §3; rw [chP_at (b := false) hy1 hy2 (by omega) (by omega) (by omega) (decide_eq_false (by omega)).symm, if_pos (by omega)]; first | done | rfl) | (have f1 := chF_023 §4; rw [chP_at (b := true) hy1 hy2 (by omega) (by omega) (by omega) (decide_eq_true (by omega)).symm, if_neg (by omega)]; first | done | rfl) | (have f1 := chF_023 §3; rw [chP_at (b := false) hy1 hy2 (by omega) (by omega) (by omega) (decide_eq_false (by omega)).symm, if_neg (by omega)]; first | done | rfl)))) (errk (by decide) §0)

theorem changeOf_any (sb : ByteArray) (w : World) (hs : sb.size ≤ 1000000) : Calls Try.prog 47 #[.string sb] w fun e w' => e = .returned (.tuple #[Change.val ((chP sb).1), .int .i64 ((chP sb).2)]) ∧ Ext w w' := by
  refine R.enter (n := 43) (vs := [.string sb]) [] [(0, .string sb)] Try.func47 rfl rfl rfl rfl ?_
  refine R.reg rfl <| ?_
  refine R.s rfl (s.alloc (cs := §5) tZero_51 rfl rfl) fun b1 => ?_
  refine R.u 1 rfl <| R.nil ?_
  refine R.reg rfl <| R.u 1 rfl <| R.q §35 rfl <| ?_
  by_cases h1 : sb.size < 2
  · refine R.q §33 rfl <| R.u 14 rfl <| R.nil ?_
    refine R.condT rfl rfl ?_
    refine R.reg rfl <| R.q §40 rfl <| ?_
    refine R.s rfl §25 fun _ => ?_
    refine R.u 1 rfl <| R.nil ?_
    exact R.rr2 rfl Try.results47 (RV.cell 0 rfl rfl tAgg_51) (RV.tmp rfl) (congrArg Change.val (show §14 = (chP sb).1 from by (first | (rw [chP_bad1 (by omega)]; first | done | rfl) | (rw [chP_bad2 hy1 (by omega)]; first | done | rfl) | (rw [chP_bad3 hy2 (by omega)]; first | done | rfl) | (have f1 := chF_023 §4; rw [chP_at (b := true) hy1 hy2 (by omega) (by omega) (by omega) (decide_eq_true (by omega)).symm, if_pos (by omega)]; first | done | rfl) | (have f1 := chF_023 §3; rw [chP_at (b := false) hy1 hy2 (by omega) (by omega) (by omega) (decide_eq_false (by omega)).symm, if_pos (by omega)]; first | done | rfl) | (have f1 := chF_023 §4; rw [chP_at (b := true) hy1 hy2 (by omega) (by omega) (by omega) (decide_eq_true (by omega)).symm, if_neg (by omega)]; first | done | rfl) | (have f1 := chF_023 §3; rw [chP_at (b := false) hy1 hy2 (by omega) (by omega) (by omega) (decide_eq_false (by omega)).symm, if_neg (by omega)]; first | done | rfl)))) (rI §0)
  · refine R.q §32 rfl <| R.u 2 rfl <| ?_
    obtain ⟨y1, hy1⟩ : ∃ z, sb.data[0]? = some z := ⟨_, Array.getElem?_eq_getElem (show 0 < sb.size from by omega)⟩
    have by1 := y1.toNat_lt
    refine R.qg rfl §49 rfl <| ?_
    by_cases h2 : 1 < y1.toNat
    · refine R.qg rfl §19 rfl <| R.u 10 rfl <| R.nil ?_
      refine R.condT rfl rfl ?_
      refine R.reg rfl <| R.q §40 rfl <| ?_
      refine R.s rfl §25 fun _ => ?_
      refine R.u 1 rfl <| R.nil ?_
      exact R.rr2 rfl Try.results47 (RV.cell 0 rfl rfl tAgg_51) (RV.tmp rfl) (congrArg Change.val (show §14 = (chP sb).1 from by (first | (rw [chP_bad1 (by omega)]; first | done | rfl) | (rw [chP_bad2 hy1 (by omega)]; first | done | rfl) | (rw [chP_bad3 hy2 (by omega)]; first | done | rfl) | (have f1 := chF_023 §4; rw [chP_at (b := true) hy1 hy2 (by omega) (by omega) (by omega) (decide_eq_true (by omega)).symm, if_pos (by omega)]; first | done | rfl) | (have f1 := chF_023 §3; rw [chP_at (b := false) hy1 hy2 (by omega) (by omega) (by omega) (decide_eq_false (by omega)).symm, if_pos (by omega)]; first | done | rfl) | (have f1 := chF_023 §4; rw [chP_at (b := true) hy1 hy2 (by omega) (by omega) (by omega) (decide_eq_true (by omega)).symm, if_neg (by omega)]; first | done | rfl) | (have f1 := chF_023 §3; rw [chP_at (b := false) hy1 hy2 (by omega) (by omega) (by omega) (decide_eq_false (by omega)).symm, if_neg (by omega)]; first | done | rfl)))) (rI §0)
    · refine R.qg rfl §18 rfl <| R.u 3 rfl <| R.qg rfl §35 rfl <| R.u 1 rfl <| ?_
      obtain ⟨y2, hy2⟩ : ∃ z, sb.data[1]? = some z := ⟨_, Array.getElem?_eq_getElem (show 1 < sb.size from by omega)⟩
      have by2 := y2.toNat_lt
      refine R.qg rfl (q.sIdx (i := 1) rfl rfl Try.underlying9 rfl hy2) rfl <| R.qg rfl §34 rfl <| R.qg rfl (q.add (r := ((2 + y2.toNat : Nat) : Int)) rfl rfl (wr (by omega))) rfl <| ?_
      by_cases h3 : sb.size < (2 + y2.toNat)
      · refine R.qg rfl §33 rfl <| R.u 1 rfl <| R.nil ?_
        refine R.condT rfl rfl ?_
        refine R.reg rfl <| R.q §40 rfl <| ?_
        refine R.s rfl §25 fun _ => ?_
        refine R.u 1 rfl <| R.nil ?_
        exact R.rr2 rfl Try.results47 (RV.cell 0 rfl rfl tAgg_51) (RV.tmp rfl) (congrArg Change.val (show §14 = (chP sb).1 from by (first | (rw [chP_bad1 (by omega)]; first | done | rfl) | (rw [chP_bad2 hy1 (by omega)]; first | done | rfl) | (rw [chP_bad3 hy2 (by omega)]; first | done | rfl) | (have f1 := chF_023 §4; rw [chP_at (b := true) hy1 hy2 (by omega) (by omega) (by omega) (decide_eq_true (by omega)).symm, if_pos (by omega)]; first | done | rfl) | (have f1 := chF_023 §3; rw [chP_at (b := false) hy1 hy2 (by omega) (by omega) (by omega) (decide_eq_false (by omega)).symm, if_pos (by omega)]; first | done | rfl) | (have f1 := chF_023 §4; rw [chP_at (b := true) hy1 hy2 (by omega) (by omega) (by omega) (decide_eq_true (by omega)).symm, if_neg (by omega)]; first | done | rfl) | (have f1 := chF_023 §3; rw [chP_at (b := false) hy1 hy2 (by omega) (by omega) (by omega) (decide_eq_false (by omega)).symm, if_neg (by omega)]; first | done | rfl)))) (rI §0)
      · refine R.qg rfl §32 rfl <| R.u 1 rfl <| R.nil ?_
        refine R.condF rfl rfl ?_
        refine R.reg rfl <| R.u 1 rfl <| R.q (q.sIdx (i := 1) rfl rfl Try.underlying9 rfl hy2) rfl <| R.q §34 rfl <| R.q (q.add (r := ((2 + y2.toNat : Nat) : Int)) rfl rfl (wr (by omega))) rfl <| R.u 1 rfl <| R.nil ?_
        by_cases h4 : y1.toNat = 1
        · refine R.regD (fuel := 12) (Wd w [] [Res.box b1 §5 51] []) rfl mixed rfl ?_
          refine D.q (i := 0) rfl §9 §8 rfl (q.mv rfl) rfl <| D.q (i := 1) rfl §9 §8 rfl (q.mv rfl) rfl <| D.q (i := 2) rfl §9 §8 rfl §39 rfl <| D.q (i := 3) rfl §9 §8 rfl (q.mv rfl) rfl <| D.q (i := 4) rfl §9 §8 rfl (q.mv rfl) rfl <| D.q (i := 5) rfl §9 §8 rfl (q.sFrom (i := (2 + y2.toNat)) rfl rfl Try.underlying9 rfl (by omega)) rfl <| D.q (i := 6) rfl §9 §8 rfl (q.mv rfl) rfl <| D.q (i := 7) rfl §9 §8 rfl §49 rfl <| D.q (i := 8) rfl §9 §8 rfl (q.eql rfl rfl (beq_iff_eq.2 (by omega))) rfl <| D.q (i := 9) rfl §9 §8 rfl (q.build (cs := §11) tB_51 rfl rfl) rfl <| ?_
          refine D.one (i := 10) §9 rfl ?_
          refine Do.s (s.alloc (cs := §5) tZero_51 rfl rfl) (fun _ => §16) rfl fun b2 => ?_
          refine D.one (i := 11) §9 rfl ?_
          refine Do.s (s.st (us := §11) (cs' := §11) 0 _ rfl rfl rfl rfl (.inl tAgg_51) rfl rfl rfl rfl) (fun _ => §16) rfl fun _ => ?_
          refine D.done §9 <| ?_
          refine R.reg rfl <| R.q (q.ldS 0 rfl rfl tAgg_51) rfl <| R.c (q.call eg_19 rfl rfl (fun w hw => (changeFault_any (§23) w  ))) rfl <| ?_
          by_cases h5 : 0 < chF §23
          · refine R.q §19 rfl <| R.nil ?_
            refine R.condT rfl rfl ?_
            refine R.reg rfl <| R.q §40 rfl <| ?_
            refine R.s rfl §44 fun _ => ?_
            refine R.u 1 rfl <| R.nil ?_
            exact R.rr2 rfl Try.results47 (RV.cell 1 rfl rfl tAgg_51) (RV.tmp rfl) (congrArg Change.val (show §14 = (chP sb).1 from by (first | (rw [chP_bad1 (by omega)]; first | done | rfl) | (rw [chP_bad2 hy1 (by omega)]; first | done | rfl) | (rw [chP_bad3 hy2 (by omega)]; first | done | rfl) | (have f1 := chF_023 §4; rw [chP_at (b := true) hy1 hy2 (by omega) (by omega) (by omega) (decide_eq_true (by omega)).symm, if_pos (by omega)]; first | done | rfl) | (have f1 := chF_023 §3; rw [chP_at (b := false) hy1 hy2 (by omega) (by omega) (by omega) (decide_eq_false (by omega)).symm, if_pos (by omega)]; first | done | rfl) | (have f1 := chF_023 §4; rw [chP_at (b := true) hy1 hy2 (by omega) (by omega) (by omega) (decide_eq_true (by omega)).symm, if_neg (by omega)]; first | done | rfl) | (have f1 := chF_023 §3; rw [chP_at (b := false) hy1 hy2 (by omega) (by omega) (by omega) (decide_eq_false (by omega)).symm, if_neg (by omega)]; first | done | rfl)))) (rI §0)
          · refine R.q §18 rfl <| R.nil ?_
            refine R.condF rfl rfl ?_
            refine R.reg rfl <| R.q (q.ldS 0 rfl rfl tAgg_51) rfl <| ?_
            refine R.s rfl (s.st (us := §11) (cs' := §11) 1 _ rfl rfl rfl rfl (.inl tAgg_51) rfl rfl rfl rfl) fun _ => ?_
            refine R.u 1 rfl <| R.nil ?_
            exact R.rr2 rfl Try.results47 (RV.cell 1 rfl rfl tAgg_51) (RV.tmp rfl) (congrArg Change.val (show §23 = (chP sb).1 from by (first | (rw [chP_bad1 (by omega)]; first | done | rfl) | (rw [chP_bad2 hy1 (by omega)]; first | done | rfl) | (rw [chP_bad3 hy2 (by omega)]; first | done | rfl) | (have f1 := chF_023 §4; rw [chP_at (b := true) hy1 hy2 (by omega) (by omega) (by omega) (decide_eq_true (by omega)).symm, if_pos (by omega)]; first | done | rfl) | (have f1 := chF_023 §3; rw [chP_at (b := false) hy1 hy2 (by omega) (by omega) (by omega) (decide_eq_false (by omega)).symm, if_pos (by omega)]; first | done | rfl) | (have f1 := chF_023 §4; rw [chP_at (b := true) hy1 hy2 (by omega) (by omega) (by omega) (decide_eq_true (by omega)).symm, if_neg (by omega)]; first | done | rfl) | (have f1 := chF_023 §3; rw [chP_at (b := false) hy1 hy2 (by omega) (by omega) (by omega) (decide_eq_false (by omega)).symm, if_neg (by omega)]; first | done | rfl)))) (rI §0)
        · refine R.regD (fuel := 12) (Wd w [] [Res.box b1 §5 51] []) rfl mixed rfl ?_
          refine D.q (i := 0) rfl §9 §8 rfl (q.mv rfl) rfl <| D.q (i := 1) rfl §9 §8 rfl (q.mv rfl) rfl <| D.q (i := 2) rfl §9 §8 rfl §39 rfl <| D.q (i := 3) rfl §9 §8 rfl (q.mv rfl) rfl <| D.q (i := 4) rfl §9 §8 rfl (q.mv rfl) rfl <| D.q (i := 5) rfl §9 §8 rfl (q.sFrom (i := (2 + y2.toNat)) rfl rfl Try.underlying9 rfl (by omega)) rfl <| D.q (i := 6) rfl §9 §8 rfl (q.mv rfl) rfl <| D.q (i := 7) rfl §9 §8 rfl §49 rfl <| D.q (i := 8) rfl §9 §8 rfl §45 rfl <| D.q (i := 9) rfl §9 §8 rfl (q.build (cs := §10) tB_51 rfl rfl) rfl <| ?_
          refine D.one (i := 10) §9 rfl ?_
          refine Do.s (s.alloc (cs := §5) tZero_51 rfl rfl) (fun _ => §16) rfl fun b3 => ?_
          refine D.one (i := 11) §9 rfl ?_
          refine Do.s (s.st (us := §10) (cs' := §10) 0 _ rfl rfl rfl rfl (.inl tAgg_51) rfl rfl rfl rfl) (fun _ => §16) rfl fun _ => ?_
          refine D.done §9 <| ?_
          refine R.reg rfl <| R.q (q.ldS 0 rfl rfl tAgg_51) rfl <| R.c (q.call eg_19 rfl rfl (fun w hw => (changeFault_any (§22) w  ))) rfl <| ?_
          by_cases h6 : 0 < chF §22
          · refine R.q §19 rfl <| R.nil ?_
            refine R.condT rfl rfl ?_
            refine R.reg rfl <| R.q §40 rfl <| ?_
            refine R.s rfl §44 fun _ => ?_
            refine R.u 1 rfl <| R.nil ?_
            exact R.rr2 rfl Try.results47 (RV.cell 1 rfl rfl tAgg_51) (RV.tmp rfl) (congrArg Change.val (show §14 = (chP sb).1 from by (first | (rw [chP_bad1 (by omega)]; first | done | rfl) | (rw [chP_bad2 hy1 (by omega)]; first | done | rfl) | (rw [chP_bad3 hy2 (by omega)]; first | done | rfl) | (have f1 := chF_023 §4; rw [chP_at (b := true) hy1 hy2 (by omega) (by omega) (by omega) (decide_eq_true (by omega)).symm, if_pos (by omega)]; first | done | rfl) | (have f1 := chF_023 §3; rw [chP_at (b := false) hy1 hy2 (by omega) (by omega) (by omega) (decide_eq_false (by omega)).symm, if_pos (by omega)]; first | done | rfl) | (have f1 := chF_023 §4; rw [chP_at (b := true) hy1 hy2 (by omega) (by omega) (by omega) (decide_eq_true (by omega)).symm, if_neg (by omega)]; first | done | rfl) | (have f1 := chF_023 §3; rw [chP_at (b := false) hy1 hy2 (by omega) (by omega) (by omega) (decide_eq_false (by omega)).symm, if_neg (by omega)]; first | done | rfl)))) (rI §0)
          · refine R.q §18 rfl <| R.nil ?_
            refine R.condF rfl rfl ?_
            refine R.reg rfl <| R.q (q.ldS 0 rfl rfl tAgg_51) rfl <| ?_
            refine R.s rfl (s.st (us := §10) (cs' := §10) 1 _ rfl rfl rfl rfl (.inl tAgg_51) rfl rfl rfl rfl) fun _ => ?_
            refine R.u 1 rfl <| R.nil ?_
            exact R.rr2 rfl Try.results47 (RV.cell 1 rfl rfl tAgg_51) (RV.tmp rfl) (congrArg Change.val (show §22 = (chP sb).1 from by (first | (rw [chP_bad1 (by omega)]; first | done | rfl) | (rw [chP_bad2 hy1 (by omega)]; first | done | rfl) | (rw [chP_bad3 hy2 (by omega)]; first | done | rfl) | (have f1 := chF_023 §4; rw [chP_at (b := true) hy1 hy2 (by omega) (by omega) (by omega) (decide_eq_true (by omega)).symm, if_pos (by omega)]; first | done | rfl) | (have f1 := chF_023 §3; rw [chP_at (b := false) hy1 hy2 (by omega) (by omega) (by omega) (decide_eq_false (by omega)).symm, if_pos (by omega)]; first | done | rfl) | (have f1 := chF_023 §4; rw [chP_at (b := true) hy1 hy2 (by omega) (by omega) (by omega) (decide_eq_true (by omega)).symm, if_neg (by omega)]; first | done | rfl) | (have f1 := chF_023 §3; rw [chP_at (b := false) hy1 hy2 (by omega) (by omega) (by omega) (decide_eq_false (by omega)).symm, if_neg (by omega)]; first | done | rfl)))) (rI §0)

theorem bsF_lt {α : Type} {f : α → Int} {l : List α} (h : bsF f l = true) : bsL f l < l.length := by
  obtain ⟨x, hx, _⟩ := bsF_true h
  exact (List.getElem?_eq_some_iff.1 hx).1

theorem rowApply_any (v_rows : Value) (rows : List Change) (v_l : Value) (l : List Change) (w : World) (own : List Nat) (H : Wd w (blks [] ++ own) ([] ++ [Res.held w own]) §21 w) (hl : rows.length + l.length ≤ 100000) : Calls Try.prog 56 #[v_rows, v_l] w fun e w' => ∃ z : Value, e = .returned (z) ∧ Wd w (blks [] ++ own) ([Res.row 51 z ((applyR rows l) : List Change)] ++ [Res.held w own]) [] w' := by
  have m_rows := H.lenF 0 rfl
  have m_l := H.lenF 1 rfl
  refine R.enterN (n := 52) (vs := [v_rows, v_l]) (B := [Res.held w own]) [(0, v_rows), (1, v_l)] Try.func56 rfl rfl rfl rfl H ?_
  refine R.reg rfl <| R.u 1 rfl <| R.nil ?_
  refine R.reg rfl <| R.u 1 rfl <| ?_
  refine R.s (B' := (fun bz0_ : Value => [Res.row 51 bz0_ (rows : List Change), Res.held w own])) (F' := (fun bz0_ : Value => §21)) rfl (s.callV (B0 := []) (Br := [Res.held w own]) (F0 := [Res.ls v_rows (rows : List Change)]) [0] [0] (fun bz0_ : Value => bz0_) (fun bz0_ : Value => [Res.row 51 bz0_ (rows : List Change)]) (fun bz0_ : Value => []) rfl rfl rfl eg_60 rfl rfl (fun w own hw H => cloneChange_any v_rows (rows) w own H (by first | omega | assumption | (simp; done) | (simp; omega))) rfl) fun z1 => ?_
  refine R.u 1 rfl <| R.nil ?_
  refine R.reg rfl <| R.u 1 rfl <| R.q (q.len' (fun _ => Wd.fls 1 rfl) rfl Try.underlying46) rfl <| R.u 1 rfl <| R.nil ?_
  refine R.loop (fun g_ : Nat × Value × (List Change) => [(0, g_.2.1), (11, v_l), (12, .int .i64 (l.length : Int)), (13, .int .i64 (g_.1 : Int))]) (fun g_ : Nat × Value × (List Change) => [Res.row 51 g_.2.1 (g_.2.2 : List Change), Res.held w own]) (fun g_ : Nat × Value × (List Change) => §21) (fun g_ : Nat × Value × (List Change) => g_.1 ≤ l.length ∧ g_.2.2 = applyR rows (l.take g_.1)) (fun g_ : Nat × Value × (List Change) => l.length - g_.1) (0, z1, rows) rfl (by exact ⟨by omega, rfl⟩) ⟨rfl, rfl, rfl, rfl, trivial⟩ (fun _ => Wd.pick [0, 1] [0, 1] rfl rfl rfl) ?_
  rintro ⟨k, u, rs⟩ ⟨hk, HR⟩
  dsimp only at *
  have hrl := applyR_len (l.take k) rows; rw [← HR, List.length_take] at hrl
  refine R.reg rfl <| ?_
  by_cases h1 : k < l.length
  · refine R.q §33 rfl <| R.nil ?_
    refine R.condT rfl rfl ?_
    refine R.reg rfl <| ?_
    obtain ⟨x1, hx1⟩ : ∃ z, l[k]? = some z := ⟨_, List.getElem?_eq_getElem (by omega)⟩
    refine R.q §13 rfl <| R.q (q.ldES (ds := §26) (fun _ => Wd.fls 1 rfl) hx1 rfl tAgg_51 rfl) rfl <| ?_
    refine R.s rfl (s.alloc (cs := §5) tZero_51 rfl rfl) fun b1 => ?_
    refine R.s rfl (s.st (us := §26) (cs' := §26) 0 _ rfl rfl rfl rfl (.inl tAgg_51) rfl rfl rfl rfl) fun _ => ?_
    refine R.nil ?_
    refine R.reg rfl <| R.u 1 rfl <| R.q §29 rfl <| R.q §30 rfl <| R.c (q.call eg_64 rfl rfl (fun w hw => (bsearchChange_any _ (rs) (x1.Key) (fun (x : Change) (k : ByteArray) => fK k x) _ _ eg_65 w (§17 w hw) (fun W x k hW => applyLit_any x k  W  ) (by first | omega | assumption | (simp; done) | (simp; omega))))) rfl <| R.u 5 rfl <| R.nil ?_
    refine R.reg rfl <| R.u 2 rfl <| ?_
    rcases Bool.eq_false_or_eq_true (bsF §6 rs) with h2 | h2
    · rw [h2]
      refine R.qg rfl (q.fld (off' := 2) rfl tFld_51_2 rfl) rfl <| R.qg rfl (q.ld 0 rfl rfl tOne_4 rfl) rfl <| R.u 2 rfl <| R.nil ?_
      refine R.cond rfl rfl (fun h3 => ?_) (fun h3 => ?_)
      · have hb0 : bsL §6 rs ≤ rs.length := bsL_le; have hb1 : bsL (fun x => fK x1.Key x) rs ≤ rs.length := bsL_le; have hb9 : bsL (fun x => fK x1.Key x) rs = bsL §6 rs := rfl
        have hb7 : bsL §6 rs < rs.length := bsF_lt (by assumption); have hb8 : bsL (fun x => fK x1.Key x) rs < rs.length := bsF_lt (by assumption)
        refine R.reg rfl <| R.u 3 rfl <| R.q (q.add (r := ((bsL §6 rs + 1 : Nat) : Int)) rfl rfl (wr (by omega))) rfl <| ?_
        refine R.s (B' := (fun bz0_ : Value => [Res.row 51 bz0_ ((rs.take (bsL §6 rs) ++ rs.drop (bsL §6 rs + 1)) : List Change), Res.box b1 §26 51, Res.held w own])) (F' := (fun bz0_ : Value => §21)) rfl (s.callV (B0 := [Res.row 51 u (rs : List Change)]) (Br := [Res.box b1 §26 51, Res.held w own]) (F0 := []) [1, 0, 2] [] (fun bz0_ : Value => bz0_) (fun bz0_ : Value => [Res.row 51 bz0_ ((rs.take (bsL §6 rs) ++ rs.drop (bsL §6 rs + 1)) : List Change)]) (fun bz0_ : Value => []) rfl rfl rfl eg_67 rfl rfl (fun w own hw H => by have h1_ := deleteChange_any u (rs) (bsL §6 rs) ((bsL §6 rs + 1)) w own H (by omega); exact h1_) rfl) fun z2 => ?_
        refine R.u 1 rfl <| R.nil ?_
        refine R.reg rfl <| R.q §37 rfl <| R.u 1 rfl <| R.nil ?_
        refine R.back (k + 1, z2, rs.take (bsL §6 rs) ++ rs.drop (bsL §6 rs + 1)) rfl §2 §47 ⟨rfl, rfl, rfl, rfl, trivial⟩ (fun _ => Wd.pik [0, 2] [0, 1] rfl rfl rfl)
      · refine R.reg rfl <| R.u 2 rfl <| R.nil ?_
        refine R.condT rfl rfl ?_
        have hb0 : bsL §6 rs ≤ rs.length := bsL_le; have hb1 : bsL (fun x => fK x1.Key x) rs ≤ rs.length := bsL_le; have hb9 : bsL (fun x => fK x1.Key x) rs = bsL §6 rs := rfl
        have hb7 : bsL §6 rs < rs.length := bsF_lt (by assumption); have hb8 : bsL (fun x => fK x1.Key x) rs < rs.length := bsF_lt (by assumption)
        refine R.reg rfl <| R.u 2 rfl <| R.q (q.ldS 0 rfl rfl tAgg_51) rfl <| ?_
        obtain ⟨x2, hx2⟩ : ∃ z, rs[bsL §6 rs]? = some z := ⟨_, List.getElem?_eq_getElem (by omega)⟩
        refine R.q (q.idx (i := bsL §6 rs) §17 rfl rfl tSl_46 rfl hx2) rfl <| ?_
        refine R.s rfl (s.stE (z := x1) 1 _ rfl hx2 rfl rfl rfl rfl (.inl tAgg_51) rfl) fun _ => ?_
        refine R.nil ?_
        refine R.reg rfl <| R.q §37 rfl <| R.u 1 rfl <| R.nil ?_
        refine R.back (k + 1, u, (rs.set (bsL §6 rs) x1)) rfl §2 §47 ⟨rfl, rfl, rfl, rfl, trivial⟩ (fun _ => Wd.pik [1, 2] [0, 1] rfl rfl rfl)
    · rw [h2]
      refine R.u 4 rfl <| R.nil ?_
      refine R.condF rfl rfl ?_
      refine R.reg rfl <| R.u 2 rfl <| R.nil ?_
      refine R.condF rfl rfl ?_
      refine R.reg rfl <| R.q (q.fld (off' := 2) rfl tFld_51_2 rfl) rfl <| R.q (q.ld 0 rfl rfl tOne_4 rfl) rfl <| R.q (q.not rfl) rfl <| R.u 1 rfl <| R.nil ?_
      refine R.cond rfl rfl (fun h4 => ?_) (fun h4 => ?_)
      · have hb0 : bsL §6 rs ≤ rs.length := bsL_le; have hb1 : bsL (fun x => fK x1.Key x) rs ≤ rs.length := bsL_le; have hb9 : bsL (fun x => fK x1.Key x) rs = bsL §6 rs := rfl
        refine R.reg rfl <| R.u 2 rfl <| R.q (q.ldS 0 rfl rfl tAgg_51) rfl <| ?_
        refine R.s rfl (s.bs (l := ([x1] : List Change)) tSl_46 tZero_51 rfl rfl rfl rfl rfl rfl rfl) fun b2 => ?_
        refine R.s (B' := (fun bz0_ : Value => [Res.row 51 bz0_ ((rs.take (bsL §6 rs) ++ ([x1]) ++ rs.drop (bsL §6 rs)) : List Change), Res.box b1 §26 51, Res.held w own])) (F' := (fun bz0_ : Value => §21)) rfl (s.callV (B0 := [Res.row 51 u (rs : List Change), Res.row 51 (.slice (some ⟨b2, 0, none⟩) 1 1) ([x1] : List Change)]) (Br := [Res.box b1 §26 51, Res.held w own]) (F0 := []) [2, 0, 1, 3] [] (fun bz0_ : Value => bz0_) (fun bz0_ : Value => [Res.row 51 bz0_ ((rs.take (bsL §6 rs) ++ ([x1]) ++ rs.drop (bsL §6 rs)) : List Change)]) (fun bz0_ : Value => []) rfl rfl rfl eg_68 rfl rfl (fun w own hw H => by have h1_ := insertChange_any u (rs) (bsL §6 rs) (.slice (some ⟨b2, 0, none⟩) 1 1) ([x1]) w own H (by first | assumption | omega) (rfl) (by first | omega | assumption | (simp; done) | (simp; omega)); exact h1_) rfl) fun z3 => ?_
        refine R.u 1 rfl <| R.nil ?_
        refine R.reg rfl <| R.q §37 rfl <| R.u 1 rfl <| R.nil ?_
        refine R.back (k + 1, z3, rs.take (bsL §6 rs) ++ ([x1]) ++ rs.drop (bsL §6 rs)) rfl §2 §47 ⟨rfl, rfl, rfl, rfl, trivial⟩ (fun _ => Wd.pik [0, 2] [0, 1] rfl rfl rfl)
      · refine R.reg rfl <| R.q §37 rfl <| R.u 1 rfl <| R.nil ?_
        refine R.back (k + 1, u, rs) rfl §2 §47 ⟨rfl, rfl, rfl, rfl, trivial⟩ (fun _ => Wd.pik [1, 2] [0, 1] rfl rfl rfl)
  · refine R.q §32 rfl <| R.nil ?_
    refine R.condF rfl rfl ?_
    refine R.reg rfl <| R.u 2 rfl <| R.nil ?_
    have hz : applyR rows l = rs := by (rw [HR, List.take_of_length_le (by omega)])
    rw [hz]
    exact R.w1 u [0, 1] [] rfl Try.results56 (RV.tmp rfl) rfl rfl rfl rfl

theorem applied_any (v_rows : Value) (rows : List Change) (v_l : Value) (l : List Change) (w : World) (own : List Nat) (H : Wd w (blks [] ++ own) ([] ++ [Res.held w own]) §21 w) (hl : rows.length + l.length ≤ 100000) : Calls Try.prog 36 #[v_rows, v_l] w fun e w' => ∃ z : Value, e = .returned (z) ∧ Wd w (blks [] ++ own) ([Res.row 51 z ((appliedR rows l) : List Change)] ++ [Res.held w own]) [] w' := by
  have m_rows := H.lenF 0 rfl
  have m_l := H.lenF 1 rfl
  refine R.enterN (n := 80) (vs := [v_rows, v_l]) (B := [Res.held w own]) [(0, v_rows), (1, v_l)] Try.func36 rfl rfl rfl rfl H ?_
  refine R.reg rfl <| R.u 1 rfl <| R.nil ?_
  refine R.reg rfl <| R.u 1 rfl <| ?_
  refine R.s rfl (s.app0 (l2 := rows) rfl rfl (fun _ => Wd.fls 0 rfl) tApp_46 §12 §12 rfl) fun v1 => ?_
  refine R.u 1 rfl <| R.nil ?_
  refine R.reg rfl <| R.u 1 rfl <| R.nil ?_
  refine R.loop (fun g_ : Nat × Value × (List Change) => [(1, v_l), (5, g_.2.1), (6, .int .i64 (g_.1 : Int))]) (fun g_ : Nat × Value × (List Change) => [Res.row 51 g_.2.1 (g_.2.2 : List Change), Res.held w own]) (fun g_ : Nat × Value × (List Change) => §21) (fun g_ : Nat × Value × (List Change) => g_.1 ≤ l.length ∧ g_.2.2 = appliedR rows (l.take g_.1)) (fun g_ : Nat × Value × (List Change) => l.length - g_.1) (0, v1, rows) rfl (by exact ⟨by omega, by first | rfl | exact (List.nil_append _)⟩) ⟨rfl, rfl, rfl, trivial⟩ (fun _ => Wd.pick [0, 1] [0, 1] rfl rfl rfl) ?_
  rintro ⟨k, u, rs⟩ ⟨hk, HR⟩
  dsimp only at *
  have hrl := appliedR_len (l.take k) rows; rw [← HR, List.length_take] at hrl
  refine R.reg rfl <| R.u 2 rfl <| R.q (q.len' (fun _ => Wd.fls 1 rfl) rfl Try.underlying46) rfl <| ?_
  by_cases h1 : k < l.length
  · refine R.q §33 rfl <| R.nil ?_
    refine R.condT rfl rfl ?_
    refine R.reg rfl <| R.u 1 rfl <| R.nil ?_
    refine R.reg rfl <| R.u 2 rfl <| ?_
    obtain ⟨x1, hx1⟩ : ∃ z, l[k]? = some z := ⟨_, List.getElem?_eq_getElem (by omega)⟩
    refine R.q §13 rfl <| R.q (q.fldE (j' := 2) (fun _ => Wd.fls 1 rfl) hx1 rfl tFld_51_2 rfl) rfl <| R.q (q.ldE (fun _ => Wd.fls 1 rfl) hx1 rfl tOne_4 rfl) rfl <| R.u 1 rfl <| R.nil ?_
    refine R.reg rfl <| R.u 1 rfl <| R.nil ?_
    refine R.row0 (α := Change) 51 ?_
    refine R.loop (fun g_ : Nat × Bool × Value × (List Change) => [(1, v_l), (5, u), (6, .int .i64 (k : Int)), (7, g_.2.2.1), (8, .bool g_.2.1), (9, .int .i64 (g_.1 : Int))]) (fun g_ : Nat × Bool × Value × (List Change) => [Res.row 51 g_.2.2.1 (g_.2.2.2 : List Change), Res.row 51 u (rs : List Change), Res.held w own]) (fun g_ : Nat × Bool × Value × (List Change) => §21) (fun g_ : Nat × Bool × Value × (List Change) => g_.1 ≤ rs.length ∧ (g_.2.2.2, g_.2.1) = rfGo (rs.take g_.1) x1) (fun g_ : Nat × Bool × Value × (List Change) => rs.length - g_.1) (0, x1.Gone, (.slice none 0 0), []) rfl (by exact ⟨by omega, rfl⟩) ⟨rfl, rfl, rfl, rfl, rfl, rfl, trivial⟩ (fun _ => Wd.pick [0, 1, 2] [0, 1] rfl rfl rfl) ?_
    rintro ⟨m, b, u2, os⟩ ⟨hm, HO⟩
    dsimp only at *
    have hol := rfGo_len x1 (rs.take m) ([], x1.Gone); rw [show (rs.take m).foldl (rfStep x1) ([], x1.Gone) = (os, b) from HO.symm, List.length_take] at hol; have hol2 : os.length ≤ m + 1 := (by have q1 : (if b = true then 0 else 1) + os.length = os.length + (if b = true then 0 else 1) := Nat.add_comm _ _; dsimp only at hol; have q2 : (if x1.Gone = true then 0 else 1) ≤ 1 := (by split <;> omega); simp only [List.length_nil] at hol; omega)
    refine R.reg rfl <| R.u 2 rfl <| R.q (q.len' §17 rfl Try.underlying46) rfl <| ?_
    by_cases h2 : m < rs.length
    · refine R.q §33 rfl <| R.nil ?_
      refine R.condT rfl rfl ?_
      cases b
      · obtain ⟨x2, hx2⟩ : ∃ z, rs[m]? = some z := ⟨_, List.getElem?_eq_getElem (by omega)⟩
        rcases Bool.eq_false_or_eq_true ((ltS x1.Key x2.Key || decide (x1.Key = x2.Key))) with h3 | h3
        · refine R.regQ rfl mixed §9 <| Q.u 5 rfl <| Q.qg rfl §13 rfl <| Q.qg rfl §24 rfl <| Q.qg rfl §31 rfl <| Q.u 2 rfl <| Q.qg rfl (q.idx (i := m) §17 rfl rfl tSl_46 rfl hx2) rfl <| Q.qg rfl (q.fldE (j' := 0) §17 hx2 rfl tFld_51_0 rfl) rfl <| Q.qg rfl (q.ldE §17 hx2 rfl tOne_9 rfl) rfl <| Q.qg rfl (q.leqS rfl rfl h3) rfl <| Q.u 1 rfl <| Q.nil ?_
          refine R.condT rfl rfl ?_
          refine R.reg rfl <| R.u 3 rfl <| R.q §13 rfl <| R.q (q.ldES (ds := §26) (fun _ => Wd.fls 1 rfl) hx1 rfl tAgg_51 rfl) rfl <| ?_
          refine R.s rfl (s.bs (l := ([x1] : List Change)) tSl_46 tZero_51 rfl rfl rfl rfl rfl rfl rfl) fun b1 => ?_
          refine R.s rfl (s.app (l2 := [x1]) 1 _ rfl rfl rfl §15 tApp_46 §12 §12 (fun _ => rfl) rfl) fun v2 => ?_
          refine R.u 1 rfl <| R.nil ?_
          refine R.reg rfl <| R.u 1 rfl <| R.nil ?_
          by_cases h4 : x2.Key = x1.Key
          · refine R.regQ rfl mixed §9 <| Q.u 2 rfl <| Q.q (q.idx (i := m) (fun _ => Wd.row 2 rfl) rfl rfl tSl_46 rfl hx2) rfl <| Q.q (q.fldE (j' := 0) (fun _ => Wd.row 2 rfl) hx2 rfl tFld_51_0 rfl) rfl <| Q.q (q.ldE (fun _ => Wd.row 2 rfl) hx2 rfl tOne_9 rfl) rfl <| Q.u 2 rfl <| Q.q §13 rfl <| Q.q §24 rfl <| Q.q §31 rfl <| Q.q (q.neqS1 rfl rfl h4) rfl <| Q.nil ?_
            refine R.condF rfl rfl ?_
            refine R.reg rfl <| R.u 1 rfl <| R.q §38 rfl <| R.u 1 rfl <| R.nil ?_
            refine R.back ((m + 1), true, v2, (os ++ ([x1]))) rfl §20 §47 ⟨rfl, rfl, rfl, rfl, rfl, rfl, trivial⟩ (fun _ => Wd.pik [1, 2, 3] [0, 1] rfl rfl rfl)
          · refine R.regQ rfl mixed §9 <| Q.u 2 rfl <| Q.q (q.idx (i := m) (fun _ => Wd.row 2 rfl) rfl rfl tSl_46 rfl hx2) rfl <| Q.q (q.fldE (j' := 0) (fun _ => Wd.row 2 rfl) hx2 rfl tFld_51_0 rfl) rfl <| Q.q (q.ldE (fun _ => Wd.row 2 rfl) hx2 rfl tOne_9 rfl) rfl <| Q.u 2 rfl <| Q.q §13 rfl <| Q.q §24 rfl <| Q.q §31 rfl <| Q.q (q.neqS0 rfl rfl h4) rfl <| Q.nil ?_
            refine R.condT rfl rfl ?_
            refine R.reg rfl <| R.u 3 rfl <| R.q (q.idx (i := m) (fun _ => Wd.row 2 rfl) rfl rfl tSl_46 rfl hx2) rfl <| R.q (q.ldES (ds := [.string x2.Key, .string x2.Val, .bool x2.Gone]) (fun _ => Wd.row 2 rfl) hx2 rfl tAgg_51 rfl) rfl <| ?_
            refine R.s rfl (s.bs (l := ([x2] : List Change)) tSl_46 tZero_51 rfl rfl rfl rfl rfl rfl rfl) fun b2 => ?_
            refine R.s rfl (s.app (l2 := [x2]) 2 _ rfl rfl rfl §15 tApp_46 §12 §12 (fun _ => rfl) rfl) fun v3 => ?_
            refine R.u 1 rfl <| R.nil ?_
            refine R.reg rfl <| R.u 1 rfl <| R.q §38 rfl <| R.u 1 rfl <| R.nil ?_
            refine R.back ((m + 1), true, v3, ((os ++ ([x1])) ++ ([x2]))) rfl §20 §47 ⟨rfl, rfl, rfl, rfl, rfl, rfl, trivial⟩ (fun _ => Wd.pik [2, 3, 4] [0, 1] rfl rfl rfl)
        · refine R.regQ rfl mixed §9 <| Q.u 5 rfl <| Q.qg rfl §13 rfl <| Q.qg rfl §24 rfl <| Q.qg rfl §31 rfl <| Q.u 2 rfl <| Q.qg rfl (q.idx (i := m) §17 rfl rfl tSl_46 rfl hx2) rfl <| Q.qg rfl (q.fldE (j' := 0) §17 hx2 rfl tFld_51_0 rfl) rfl <| Q.qg rfl (q.ldE §17 hx2 rfl tOne_9 rfl) rfl <| Q.qg rfl (q.leqS rfl rfl h3) rfl <| Q.u 1 rfl <| Q.nil ?_
          refine R.condF rfl rfl ?_
          by_cases h5 : x2.Key = x1.Key
          · refine R.regQ rfl mixed §9 <| Q.u 2 rfl <| Q.q (q.idx (i := m) §17 rfl rfl tSl_46 rfl hx2) rfl <| Q.q (q.fldE (j' := 0) §17 hx2 rfl tFld_51_0 rfl) rfl <| Q.q (q.ldE §17 hx2 rfl tOne_9 rfl) rfl <| Q.u 2 rfl <| Q.q §13 rfl <| Q.q §24 rfl <| Q.q §31 rfl <| Q.q (q.neqS1 rfl rfl h5) rfl <| Q.nil ?_
            refine R.condF rfl rfl ?_
            refine R.reg rfl <| R.u 1 rfl <| R.q §38 rfl <| R.u 1 rfl <| R.nil ?_
            refine R.back ((m + 1), false, u2, os) rfl §20 §47 ⟨rfl, rfl, rfl, rfl, rfl, rfl, trivial⟩ (fun _ => Wd.pik [0, 1, 2] [0, 1] rfl rfl rfl)
          · refine R.regQ rfl mixed §9 <| Q.u 2 rfl <| Q.q (q.idx (i := m) §17 rfl rfl tSl_46 rfl hx2) rfl <| Q.q (q.fldE (j' := 0) §17 hx2 rfl tFld_51_0 rfl) rfl <| Q.q (q.ldE §17 hx2 rfl tOne_9 rfl) rfl <| Q.u 2 rfl <| Q.q §13 rfl <| Q.q §24 rfl <| Q.q §31 rfl <| Q.q (q.neqS0 rfl rfl h5) rfl <| Q.nil ?_
            refine R.condT rfl rfl ?_
            refine R.reg rfl <| R.u 3 rfl <| R.q (q.idx (i := m) §17 rfl rfl tSl_46 rfl hx2) rfl <| R.q (q.ldES (ds := [.string x2.Key, .string x2.Val, .bool x2.Gone]) §17 hx2 rfl tAgg_51 rfl) rfl <| ?_
            refine R.s rfl (s.bs (l := ([x2] : List Change)) tSl_46 tZero_51 rfl rfl rfl rfl rfl rfl rfl) fun b3 => ?_
            refine R.s rfl (s.app (l2 := [x2]) 1 _ rfl rfl rfl §15 tApp_46 §12 §12 (fun _ => rfl) rfl) fun v4 => ?_
            refine R.u 1 rfl <| R.nil ?_
            refine R.reg rfl <| R.u 1 rfl <| R.q §38 rfl <| R.u 1 rfl <| R.nil ?_
            refine R.back ((m + 1), false, v4, (os ++ ([x2]))) rfl §20 §47 ⟨rfl, rfl, rfl, rfl, rfl, rfl, trivial⟩ (fun _ => Wd.pik [1, 2, 3] [0, 1] rfl rfl rfl)
      · refine R.regQ rfl mixed §9 <| Q.u 15 rfl <| Q.nil ?_
        refine R.condF rfl rfl ?_
        obtain ⟨x3, hx3⟩ : ∃ z, rs[m]? = some z := ⟨_, List.getElem?_eq_getElem (by omega)⟩
        by_cases h6 : x3.Key = x1.Key
        · refine R.regQ rfl mixed §9 <| Q.u 2 rfl <| Q.q (q.idx (i := m) §17 rfl rfl tSl_46 rfl hx3) rfl <| Q.q (q.fldE (j' := 0) §17 hx3 rfl tFld_51_0 rfl) rfl <| Q.q (q.ldE §17 hx3 rfl tOne_9 rfl) rfl <| Q.u 2 rfl <| Q.q §13 rfl <| Q.q §24 rfl <| Q.q §31 rfl <| Q.q (q.neqS1 rfl rfl h6) rfl <| Q.nil ?_
          refine R.condF rfl rfl ?_
          refine R.reg rfl <| R.u 1 rfl <| R.q §38 rfl <| R.u 1 rfl <| R.nil ?_
          refine R.back ((m + 1), true, u2, os) rfl (by (exact ⟨by omega, by rw [rfGo_snoc hx3, ← HO]; unfold rfStep; dsimp only; (repeat' split) <;> first | rfl | (exfalso; simp_all; done) | (simp_all; done)⟩)) §47 ⟨rfl, rfl, rfl, rfl, rfl, rfl, trivial⟩ (fun _ => Wd.pik [0, 1, 2] [0, 1] rfl rfl rfl)
        · refine R.regQ rfl mixed §9 <| Q.u 2 rfl <| Q.q (q.idx (i := m) §17 rfl rfl tSl_46 rfl hx3) rfl <| Q.q (q.fldE (j' := 0) §17 hx3 rfl tFld_51_0 rfl) rfl <| Q.q (q.ldE §17 hx3 rfl tOne_9 rfl) rfl <| Q.u 2 rfl <| Q.q §13 rfl <| Q.q §24 rfl <| Q.q §31 rfl <| Q.q (q.neqS0 rfl rfl h6) rfl <| Q.nil ?_
          refine R.condT rfl rfl ?_
          refine R.reg rfl <| R.u 3 rfl <| R.q (q.idx (i := m) §17 rfl rfl tSl_46 rfl hx3) rfl <| R.q (q.ldES (ds := [.string x3.Key, .string x3.Val, .bool x3.Gone]) §17 hx3 rfl tAgg_51 rfl) rfl <| ?_
          refine R.s rfl (s.bs (l := ([x3] : List Change)) tSl_46 tZero_51 rfl rfl rfl rfl rfl rfl rfl) fun b4 => ?_
          refine R.s rfl (s.app (l2 := [x3]) 1 _ rfl rfl rfl §15 tApp_46 §12 §12 (fun _ => rfl) rfl) fun v5 => ?_
          refine R.u 1 rfl <| R.nil ?_
          refine R.reg rfl <| R.u 1 rfl <| R.q §38 rfl <| R.u 1 rfl <| R.nil ?_
          refine R.back ((m + 1), true, v5, (os ++ ([x3]))) rfl (by (exact ⟨by omega, by rw [rfGo_snoc hx3, ← HO]; unfold rfStep; dsimp only; (repeat' split) <;> first | rfl | (exfalso; simp_all; done) | (simp_all; done)⟩)) §47 ⟨rfl, rfl, rfl, rfl, rfl, rfl, trivial⟩ (fun _ => Wd.pik [1, 2, 3] [0, 1] rfl rfl rfl)
    · refine R.q §32 rfl <| R.nil ?_
      refine R.condF rfl rfl ?_
      refine R.reg rfl <| R.u 1 rfl <| R.q (q.not rfl) rfl <| R.nil ?_
      cases b
      · refine R.condT rfl rfl ?_
        refine R.reg rfl <| R.u 3 rfl <| R.q §13 rfl <| R.q (q.ldES (ds := §26) (fun _ => Wd.fls 1 rfl) hx1 rfl tAgg_51 rfl) rfl <| ?_
        refine R.s rfl (s.bs (l := ([x1] : List Change)) tSl_46 tZero_51 rfl rfl rfl rfl rfl rfl rfl) fun b5 => ?_
        refine R.s rfl (s.app (l2 := [x1]) 1 _ rfl rfl rfl §15 tApp_46 §12 §12 (fun _ => rfl) rfl) fun v6 => ?_
        refine R.u 1 rfl <| R.nil ?_
        refine R.reg rfl <| R.u 2 rfl <| R.nil ?_
        refine R.reg rfl <| R.u 1 rfl <| R.q §37 rfl <| R.u 1 rfl <| R.nil ?_
        refine R.back (k + 1, v6, (os ++ ([x1]))) rfl (by (exact ⟨by omega, by rw [List.take_of_length_le (by omega)] at HO; rw [applied_snoc hx1, ← HR]; unfold rf1; rw [← HO]; rfl⟩)) §47 ⟨rfl, rfl, rfl, trivial⟩ (fun _ => Wd.pik [1, 3] [0, 1] rfl rfl rfl)
      · refine R.condF rfl rfl ?_
        refine R.reg rfl <| R.u 2 rfl <| R.nil ?_
        refine R.reg rfl <| R.u 1 rfl <| R.q §37 rfl <| R.u 1 rfl <| R.nil ?_
        refine R.back (k + 1, u2, os) rfl (by (exact ⟨by omega, by rw [List.take_of_length_le (by omega)] at HO; rw [applied_snoc hx1, ← HR]; unfold rf1; rw [← HO]; rfl⟩)) §47 ⟨rfl, rfl, rfl, trivial⟩ (fun _ => Wd.pik [0, 2] [0, 1] rfl rfl rfl)
  · refine R.q §32 rfl <| R.nil ?_
    refine R.condF rfl rfl ?_
    refine R.reg rfl <| R.u 2 rfl <| R.nil ?_
    have hz : appliedR rows l = rs := by (rw [HR, List.take_of_length_le (by omega)])
    rw [hz]
    exact R.w1 u [0, 1] [] rfl Try.results36 (RV.tmp rfl) rfl rfl rfl rfl

end Go.Proofs.Ytpipachmngdegaa
end
