import Derived.Test.YtpipachmngdegaaGreatRealmSaysProofG14
import Derived.Test.YtpipachmngdegaaGreatRealmSaysProofG12
import Derived.Test.YtpipachmngdegaaGreatRealmSaysProofG15
import Derived.Test.YtpipachmngdegaaGreatRealmSaysProofG16
section
/-
  The walks of chapter 4: where writs are held. The program's and the document's.
-/
namespace Go.Proofs.YtpipachmngdegaaGreat
open Go Go.RowKit
set_option linter.unusedVariables false
set_option linter.unusedSimpArgs false
set_option maxRecDepth 100000
set_option hygiene false
local macro:max "§0" : term => `((by (exact ⟨by omega, by rw [putGo_snoc l p id k _ hx1, ← HA]; first | (rw [putStep_in (by omega)]; first | (rw [if_pos (by assumption)]; done) | (rw [if_neg (by assumption)]; done)) | (rw [putStep_out (by first | exact .inl rfl | exact .inr (by omega))]; first | (rw [if_pos (by assumption)]; done) | (rw [if_neg (by assumption)]; done))⟩)))
local macro:max "§1" : term => `((by (exact ⟨by omega, by rw [putGo_snoc l p id k _ hx2, ← HA]; first | (rw [putStep_in (by omega)]; first | (rw [if_pos (by assumption)]; done) | (rw [if_neg (by assumption)]; done)) | (rw [putStep_out (by first | exact .inl rfl | exact .inr (by omega))]; first | (rw [if_pos (by assumption)]; done) | (rw [if_neg (by assumption)]; done))⟩)))
local macro:max "§2" : term => `((by first | omega | (simp; omega)))
local macro:max "§3" : term => `((q.add (r := ((k + 1 : Nat) : Int)) rfl rfl (wr (by omega))))
local macro:max "§4" : term => `((fun _ => Wd.row 0 rfl))
local macro:max "§5" : term => `((q.lss rfl rfl (decide_eq_true (by omega))))
local macro:max "§6" : term => `((q.lss rfl rfl (decide_eq_false (by omega))))
local macro:max "§7" : term => `((by kernel_rfl))
local macro:max "§8" : term => `((fun _ => Wd.fls 0 rfl))
local macro:max "§9" : term => `((s.bs (l := ([(⟨p, id⟩ : Held)] : List Held)) tSl_27 tZero_93 rfl rfl rfl rfl rfl rfl rfl))
local macro:max "§10" : term => `((fun _ => Wd.pik [1, 2] [] rfl rfl rfl))
local macro:max "§11" : term => `((q.build (cs := [.int .i64 p.Holder, .int .i64 p.Slot, .int .i64 id]) tB_93 rfl rfl))
local macro:max "§12" : term => `((fun _ => Wd.old s_l))
local macro:max "§13" : term => `([.int .i64 p.Holder, .int .i64 p.Slot])
local macro:max "§14" : term => `((by (first | exact placeFault_bad (by omega) | exact placeFault_ok (by omega) | exact (placeFault_ok (by omega)).symm)))
local macro:max "§15" : term => `((q.eql rfl rfl (beq_eq_false_iff_ne.2 (by omega))))
local macro:max "§16" : term => `((q.ldES (ds := [.int .i64 x1.Place.Holder, .int .i64 x1.Place.Slot, .int .i64 x1.Writ]) §8 hx1 rfl tAgg_93 rfl))
local macro:max "§17" : term => `((q.ldES (ds := [.int .i64 x2.Place.Holder, .int .i64 x2.Place.Slot, .int .i64 x2.Writ]) §8 hx2 rfl tAgg_93 rfl))
local macro:max "§18" : term => `((q.fld (off' := 0) rfl tFld_33_0 rfl))
local macro:max "§19" : term => `((by first | omega | assumption | (simp; done) | (simp; omega)))
local macro:max "§20" : term => `((q.eql rfl rfl (beq_iff_eq.2 (by omega))))
local macro:max "§21" : term => `((by dsimp only; omega))
local macro:max "§22" : term => `((by (first | exact (placeFault_bad (by omega)).symm | exact (placeFault_ok (by omega)).symm)))
local macro:max "§23" : term => `((fun _ => Wd.pik [2, 3, 4] [0] rfl rfl rfl))
local macro:max "§24" : term => `((fun _ => Wd.pik [1] [] rfl rfl rfl))
local macro:max "§25" : term => `((q.ld 0 rfl rfl tOne_3 rfl))
local macro:max "§26" : term => `((fun _ => Wd.pik [0, 1] [] rfl rfl rfl))
local macro:max "§27" : term => `((⟨p, id⟩ : Held))
local macro:max "§28" : term => `((fun _ => Wd.pik [1, 2, 3] [] rfl rfl rfl))
local macro:max "§29" : term => `((q.fld (off' := 1) rfl tFld_33_1 rfl))
local macro:max "§30" : term => `((s.bs (l := ([x1] : List Held)) tSl_27 tZero_93 rfl rfl rfl rfl rfl rfl rfl))
local macro:max "§31" : term => `((s.bs (l := ([x2] : List Held)) tSl_27 tZero_93 rfl rfl rfl rfl rfl rfl rfl))
local macro:max "§32" : term => `((by assumption))
local macro:max "§33" : term => `((q.ldS 0 rfl rfl tAgg_33))
local macro:max "§34" : term => `((by (unfold cmpI; first | rw [if_pos (by omega)] | rw [if_neg (by omega), if_pos (by omega)] | rw [if_neg (by omega), if_neg (by omega)])))
local macro:max "§35" : term => `((q.sfromC (i := (i + u.length)) §4 rfl rfl tSl_27 rfl (by omega) (by first | assumption | omega | (simp [scap_sto]; omega))))
local macro:max "§36" : term => `([Res.row 93 v_l (l : List Held), Res.row 93 v_u (u : List Held)])
local macro:max "§37" : term => `((s.clrT' (lo := (l.take i ++ (l.drop j)).length) (hi := l.length) (z0 := (⟨(⟨0, 0⟩ : Place), 0⟩ : Held)) 0 rfl rfl tSl_27 tZero_93 rfl §2 §2 (by first | assumption | omega | (simp; omega) | (simp [scap_sto]; omega))))
local macro:max "§38" : term => `((by first | omega | (simp; done) | (simp; omega)))

theorem cloneHeld_any (v_l : Value) (l : List Held) (w : World) (own : List Nat) (H : Wd w (blks [] ++ own) ([] ++ [Res.held w own]) [Res.ls v_l (l : List Held)] w) (hl : l.length ≤ 1000000) : Calls Tryz.prog 46 #[v_l] w fun e w' => ∃ z : Value, e = .returned (z) ∧ Wd w (blks [] ++ own) ([Res.row 93 z (l : List Held)] ++ [Res.held w own]) [] w' := by
  have m_l := H.lenF 0 rfl
  refine R.enterN (n := 8) (vs := [v_l]) (B := [Res.held w own]) [(0, v_l)] Tryz.func46 rfl rfl rfl rfl H ?_
  refine R.reg rfl <| R.u 1 rfl <| R.nil ?_
  refine R.reg rfl <| R.u 1 rfl <| ?_
  rcases Bool.eq_false_or_eq_true (snil v_l) with h1 | h1
  · refine R.q (q.cvb (congrArg Value.bool h1) (q.eqlSl §8 rfl rfl Tryz.underlying27)) rfl <| R.nil ?_
    refine R.condT rfl rfl ?_
    refine R.reg rfl <| R.u 1 rfl <| R.nil ?_
    refine R.row0 (α := Held) 93 ?_
    have hz : l = [] := by (first | rfl | exact (List.nil_append _).symm | exact Sl.snil (H.fls 0 rfl) §32)
    rw [hz]
    exact R.w1 (.slice none 0 0) [0, 1] [] rfl Tryz.results46 (RV.tmp rfl) rfl rfl rfl rfl
  · refine R.q (q.cvb (congrArg Value.bool h1) (q.eqlSl §8 rfl rfl Tryz.underlying27)) rfl <| R.nil ?_
    refine R.condF rfl rfl ?_
    refine R.reg rfl <| ?_
    refine R.s rfl (s.bs (l := ([] : List Held)) tSl_27 tZero_93 rfl rfl rfl rfl rfl rfl rfl) fun b1 => ?_
    refine R.u 1 rfl <| ?_
    refine R.s rfl (s.app (l2 := l) 0 _ rfl rfl rfl §8 tApp_27 (by simp; omega) (by simp; omega) (fun _ => rfl) rfl) fun v1 => ?_
    refine R.u 1 rfl <| R.nil ?_
    have hz : l = (([]) ++ l) := by (first | rfl | exact (List.nil_append _).symm | exact Sl.snil (H.fls 0 rfl) §32)
    rw [hz]
    exact R.w1 v1 [0, 1] [] rfl Tryz.results46 (RV.tmp rfl) rfl rfl rfl rfl

theorem deleteHeld_any (v_l : Value) (l : List Held) (i : Nat) (j : Nat) (w : World) (own : List Nat) (H : Wd w (blks [Res.row 93 v_l (l : List Held)] ++ own) ([Res.row 93 v_l (l : List Held)] ++ [Res.held w own]) [] w) (hij : i ≤ j ∧ j ≤ l.length) : Calls Tryz.prog 69 #[v_l, .int .i64 (i : Int), .int .i64 (j : Int)] w fun e w' => ∃ z : Value, e = .returned (z) ∧ Wd w (blks [Res.row 93 v_l (l : List Held)] ++ own) ([Res.row 93 z ((l.take i ++ l.drop j) : List Held)] ++ [Res.held w own]) [] w' := by
  have c_l := H.cap 0 rfl; have m_l := H.lenB 0 rfl
  refine R.enterN (n := 33) (vs := [v_l, .int .i64 (i : Int), .int .i64 (j : Int)]) (B := [Res.row 93 v_l (l : List Held), Res.held w own]) [(0, v_l), (1, .int .i64 (i : Int)), (2, .int .i64 (j : Int))] Tryz.func69 rfl rfl rfl rfl H ?_
  refine R.reg rfl <| R.u 1 rfl <| R.nil ?_
  refine R.reg rfl <| R.u 4 rfl <| R.q (q.len' §4 rfl Tryz.underlying27) rfl <| R.q (q.sl3 (i := i) (j := j) (q' := l.length) §4 rfl rfl rfl rfl tSl_27 rfl rfl rfl (by omega) (by omega) (by omega)) rfl <| R.nil ?_
  refine R.reg rfl <| R.u 2 rfl <| ?_
  by_cases h1 : i = j
  · refine R.q §20 rfl <| R.nil ?_
    refine R.condT rfl rfl ?_
    refine R.reg rfl <| R.u 2 rfl <| R.nil ?_
    have hz : l.take i ++ l.drop j = l := by (first | rfl | exact del_none (by omega))
    rw [hz]
    exact R.w1 v_l [0, 1] [] rfl Tryz.results69 (RV.tmp rfl) rfl rfl rfl rfl
  · refine R.q §15 rfl <| R.nil ?_
    refine R.condF rfl rfl ?_
    refine R.reg rfl <| R.u 1 rfl <| R.q (q.len' §4 rfl Tryz.underlying27) rfl <| R.u 1 rfl <| R.nil ?_
    refine R.regD (fuel := 8) (Wd w (blks [Res.row 93 v_l (l : List Held)] ++ own) [Res.held w own] []) rfl mixed rfl ?_
    refine D.q (i := 0) rfl §7 §24 rfl (q.mv rfl) rfl <| D.q (i := 1) rfl §7 §24 rfl (q.mv rfl) rfl <| D.q (i := 3) rfl §7 §24 rfl (q.mv rfl) rfl <| D.q (i := 4) rfl §7 §24 rfl (q.mv rfl) rfl <| ?_
    refine D.two (i := 2) (j := 5) §7 rfl rfl ?_ ?_
    · refine Do.s (s.c (Qt.a (q.sto (i := i) §4 rfl rfl Tryz.underlying27 tInf_27 rfl §2)) rfl) (fun _ => §24) rfl fun _ => ?_
      refine D.one (i := 5) §7 rfl ?_
      refine Do.s (s.c (Qt.a (q.sfrom (i := j) §4 rfl rfl tSl_27 rfl §2)) rfl) (fun _ => §24) rfl fun _ => ?_
      refine D.one (i := 6) §7 rfl ?_
      refine Do.s (s.appCut (a := i) (l2 := (l.drop j)) 0 _ rfl rfl rfl (fun w hw => Sl.from (§4 w hw) (by omega)) tApp_27 (by omega) (by simp; omega) rfl rfl) (fun _ => §24) rfl fun _ => ?_
      refine D.q (i := 7) rfl §7 §24 rfl (q.as rfl) rfl <| D.done §7 <| ?_
      refine R.reg rfl <| R.u 2 rfl <| R.q (q.len' §4 rfl Tryz.underlying27) rfl <| R.u 1 rfl <| R.q (q.sl2 (i := (l.take i ++ (l.drop j)).length) (j := l.length) §4 rfl rfl rfl tSl_27 rfl rfl §2 (by first | assumption | omega | (simp; omega) | (simp [scap_sto]; omega))) rfl <| ?_
      refine R.s rfl §37 fun _ => ?_
      refine R.nil ?_
      refine R.reg rfl <| R.u 2 rfl <| R.nil ?_
      have hz : l.take i ++ l.drop j = (l.take i ++ (l.drop j)) := by (first | rfl | exact del_none (by omega))
      rw [hz]
      exact R.w1 (sto v_l (i + (l.drop j).length)) [0, 1] [] rfl Tryz.results69 (RV.tmp rfl) rfl rfl rfl rfl
    · refine Do.s (s.c (Qt.a (q.sfrom (i := j) §4 rfl rfl tSl_27 rfl §2)) rfl) (fun _ => §24) rfl fun _ => ?_
      refine D.one (i := 2) §7 rfl ?_
      refine Do.s (s.c (Qt.a (q.sto (i := i) §4 rfl rfl Tryz.underlying27 tInf_27 rfl §2)) rfl) (fun _ => §24) rfl fun _ => ?_
      refine D.one (i := 6) §7 rfl ?_
      refine Do.s (s.appCut (a := i) (l2 := (l.drop j)) 0 _ rfl rfl rfl (fun w hw => Sl.from (§4 w hw) (by omega)) tApp_27 (by omega) (by simp; omega) rfl rfl) (fun _ => §24) rfl fun _ => ?_
      refine D.q (i := 7) rfl §7 §24 rfl (q.as rfl) rfl <| D.done §7 <| ?_
      refine R.reg rfl <| R.u 2 rfl <| R.q (q.len' §4 rfl Tryz.underlying27) rfl <| R.u 1 rfl <| R.q (q.sl2 (i := (l.take i ++ (l.drop j)).length) (j := l.length) §4 rfl rfl rfl tSl_27 rfl rfl §2 (by first | assumption | omega | (simp; omega) | (simp [scap_sto]; omega))) rfl <| ?_
      refine R.s rfl §37 fun _ => ?_
      refine R.nil ?_
      refine R.reg rfl <| R.u 2 rfl <| R.nil ?_
      have hz : l.take i ++ l.drop j = (l.take i ++ (l.drop j)) := by (first | rfl | exact del_none (by omega))
      rw [hz]
      exact R.w1 (sto v_l (i + (l.drop j).length)) [0, 1] [] rfl Tryz.results69 (RV.tmp rfl) rfl rfl rfl rfl

set_option maxRecDepth 100000 in
theorem insertHeld_any (v_l : Value) (l : List Held) (i : Nat) (v_u : Value) (u : List Held) (w : World) (own : List Nat) (H : Wd w (blks §36 ++ own) (§36 ++ [Res.held w own]) [] w) (hi : i ≤ l.length) (hu : u.length = 1) (hl : l.length ≤ 1000000) : Calls Tryz.prog 70 #[v_l, .int .i64 (i : Int), v_u] w fun e w' => ∃ z : Value, e = .returned (z) ∧ Wd w (blks §36 ++ own) ([Res.row 93 z ((l.take i ++ u ++ l.drop i) : List Held)] ++ [Res.held w own]) [] w' := by
  have c_l := H.cap 0 rfl; have m_l := H.lenB 0 rfl
  have c_u := H.cap 1 rfl; have m_u := H.lenB 1 rfl
  refine R.enterN (n := 95) (vs := [v_l, .int .i64 (i : Int), v_u]) (B := [Res.row 93 v_l (l : List Held), Res.row 93 v_u (u : List Held), Res.held w own]) [(0, v_l), (1, .int .i64 (i : Int)), (2, v_u)] Tryz.func70 rfl rfl rfl rfl H ?_
  refine R.reg rfl <| R.u 1 rfl <| R.nil ?_
  refine R.reg rfl <| R.u 2 rfl <| R.q (q.sfrom (i := i) §4 rfl rfl tSl_27 rfl §2) rfl <| R.nil ?_
  refine R.reg rfl <| R.u 1 rfl <| R.q (q.len' (fun _ => Wd.row 1 rfl) rfl Tryz.underlying27) rfl <| R.u 1 rfl <| R.nil ?_
  refine R.reg rfl <| R.u 1 rfl <| ?_
  by_cases h1 : u.length = 0
  · refine R.q §20 rfl <| R.nil ?_
    refine R.condT rfl rfl ?_
    refine R.reg rfl <| R.u 2 rfl <| R.nil ?_
    have hz : l.take i ++ u ++ l.drop i = l := by (first | (exfalso; omega) | exact ins_end (by omega) | exact ins_grow hu (by omega) rfl | exact ins_up hu (by omega))
    rw [hz]
    exact R.w1 v_l [0, 2] [] rfl Tryz.results70 (RV.tmp rfl) rfl rfl rfl rfl
  · refine R.q §15 rfl <| R.nil ?_
    refine R.condF rfl rfl ?_
    refine R.reg rfl <| R.u 1 rfl <| R.q (q.len' §4 rfl Tryz.underlying27) rfl <| R.u 1 rfl <| R.nil ?_
    refine R.reg rfl <| R.u 2 rfl <| ?_
    by_cases h2 : i = l.length
    · refine R.q §20 rfl <| R.nil ?_
      refine R.condT rfl rfl ?_
      refine R.reg rfl <| R.u 2 rfl <| ?_
      refine R.s rfl (s.app (l2 := u) 0 _ rfl rfl rfl (fun _ => Wd.row 1 rfl) tApp_27 §38 §38 (fun _ => rfl) rfl) fun v1 => ?_
      refine R.u 1 rfl <| R.nil ?_
      have hz : l.take i ++ u ++ l.drop i = (l ++ u) := by (first | (exfalso; omega) | exact ins_end (by omega) | exact ins_grow hu (by omega) rfl | exact ins_up hu (by omega))
      rw [hz]
      exact R.w1 v1 [0, 2] [] rfl Tryz.results70 (RV.tmp rfl) rfl rfl rfl rfl
    · refine R.q §15 rfl <| R.nil ?_
      refine R.condF rfl rfl ?_
      refine R.reg rfl <| R.u 2 rfl <| R.q (q.add (r := ((l.length + u.length : Nat) : Int)) rfl rfl (wr (by omega))) rfl <| R.u 1 rfl <| R.q (q.cap §4 rfl Tryz.underlying27) rfl <| ?_
      by_cases h3 : (scap v_l) < (l.length + u.length)
      · refine R.q (q.gtr rfl rfl (decide_eq_true (by omega))) rfl <| R.nil ?_
        refine R.condT rfl rfl ?_
        refine R.reg rfl <| R.u 2 rfl <| R.q (q.sto (i := i) §4 rfl rfl Tryz.underlying27 tInf_27 rfl §2) rfl <| R.u 2 rfl <| R.q (q.add (r := ((l.length + u.length : Nat) : Int)) rfl rfl (wr (by omega))) rfl <| R.u 1 rfl <| R.q (q.sub (r := (((l.length + u.length) - i : Nat) : Int)) rfl rfl (wr (by omega))) rfl <| ?_
        refine R.s rfl (s.appMake (o := i) (m := ((l.length + u.length) - i)) (z0 := (⟨(⟨0, 0⟩ : Place), 0⟩ : Held)) 0 rfl rfl rfl rfl tApp_27 Tryz.underlying3 tZero_93 rfl (by omega) (by omega) (by omega) (by omega) (by omega) rfl) fun v2 => ?_
        refine R.u 1 rfl <| R.nil ?_
        refine R.reg rfl <| R.u 2 rfl <| R.q (q.sfrom (i := i) §4 rfl rfl tSl_27 rfl §2) rfl <| R.u 1 rfl <| ?_
        refine R.s rfl (s.cpyAt (o := i) (l2 := u) 0 _ rfl (fun _ => Wd.row 2 rfl) rfl rfl tSl_27 §38 rfl rfl) fun _ => ?_
        refine R.nil ?_
        refine R.regD (fuel := 9) (Wd w (blks §36 ++ own) [Res.row 93 v_l (l : List Held), Res.row 93 v_u (u : List Held), Res.held w own] []) rfl mixed rfl ?_
        refine D.q (i := 0) rfl §7 §28 rfl (q.mv rfl) rfl <| D.q (i := 1) rfl §7 §28 rfl (q.mv rfl) rfl <| D.q (i := 2) rfl §7 §28 rfl (q.mv rfl) rfl <| D.q (i := 3) rfl §7 §28 rfl (q.add (r := ((i + u.length : Nat) : Int)) rfl rfl (wr (by omega))) rfl <| D.q (i := 5) rfl §7 §28 rfl (q.mv rfl) rfl <| D.q (i := 6) rfl §7 §28 rfl (q.mv rfl) rfl <| D.q (i := 7) rfl §7 §28 rfl (q.sfrom (i := i) §4 rfl rfl tSl_27 rfl §2) rfl <| ?_
        refine D.one (i := 4) §7 rfl ?_
        refine Do.s (s.c (Qt.a (q.sfrom (i := (i + u.length)) §4 rfl rfl tSl_27 rfl §2)) rfl) (fun _ => §28) rfl fun _ => ?_
        refine D.one (i := 8) §7 rfl ?_
        refine Do.s (s.cpyAt (o := (i + u.length)) (l2 := (l.drop i)) 0 _ rfl (fun w hw => Sl.from ((fun _ => Wd.row 1 rfl) w hw) (by omega)) rfl rfl tSl_27 §38 rfl rfl) (fun _ => §28) rfl fun _ => ?_
        refine D.done §7 <| ?_
        refine R.reg rfl <| R.u 2 rfl <| R.nil ?_
        have hz : l.take i ++ u ++ l.drop i = (((l.take i ++ List.replicate ((l.length + u.length) - i) (⟨(⟨0, 0⟩ : Place), 0⟩ : Held)).take i ++ u ++ (l.take i ++ List.replicate ((l.length + u.length) - i) (⟨(⟨0, 0⟩ : Place), 0⟩ : Held)).drop (i + u.length)).take (i + u.length) ++ (l.drop i) ++ ((l.take i ++ List.replicate ((l.length + u.length) - i) (⟨(⟨0, 0⟩ : Place), 0⟩ : Held)).take i ++ u ++ (l.take i ++ List.replicate ((l.length + u.length) - i) (⟨(⟨0, 0⟩ : Place), 0⟩ : Held)).drop (i + u.length)).drop ((i + u.length) + (l.drop i).length)) := by (first | (exfalso; omega) | exact ins_end (by omega) | exact ins_grow hu (by omega) rfl | exact ins_up hu (by omega))
        rw [hz]
        exact R.w1 v2 [0, 3] [] rfl Tryz.results70 (RV.tmp rfl) rfl rfl rfl rfl
      · refine R.q (q.gtr rfl rfl (decide_eq_false (by omega))) rfl <| R.nil ?_
        refine R.condF rfl rfl ?_
        refine R.reg rfl <| R.u 3 rfl <| R.q (q.add (r := ((l.length + u.length : Nat) : Int)) rfl rfl (wr (by omega))) rfl <| R.q (q.stoC (i := (l.length + u.length)) §4 rfl rfl tSl_27 rfl (by first | omega | assumption)) rfl <| R.u 1 rfl <| R.nil ?_
        refine R.reg rfl <| R.u 4 rfl <| R.q (q.add (r := ((i + u.length : Nat) : Int)) rfl rfl (wr (by omega))) rfl <| R.q §35 rfl <| R.q (q.ovl (i := 1) (j := 0) (tR := 4) Tryz.func93 rfl rfl §7 §7 tSl_27 rfl rfl (by decide) (by omega) (by omega) rfl rfl rfl rfl) rfl <| R.u 1 rfl <| R.nil ?_
        refine R.condT rfl rfl ?_
        refine R.regD (fuel := 9) (Wd w (blks §36 ++ own) [Res.row 93 v_u (u : List Held), Res.held w own] []) rfl mixed rfl ?_
        refine D.q (i := 0) rfl §7 §10 rfl (q.mv rfl) rfl <| D.q (i := 1) rfl §7 §10 rfl (q.mv rfl) rfl <| D.q (i := 2) rfl §7 §10 rfl (q.mv rfl) rfl <| D.q (i := 3) rfl §7 §10 rfl (q.add (r := ((i + u.length : Nat) : Int)) rfl rfl (wr (by omega))) rfl <| D.q (i := 5) rfl §7 §10 rfl (q.mv rfl) rfl <| D.q (i := 6) rfl §7 §10 rfl (q.mv rfl) rfl <| ?_
        refine D.two (i := 4) (j := 7) §7 rfl rfl ?_ ?_
        · refine Do.s (s.c (Qt.a §35) rfl) (fun _ => §10) rfl fun _ => ?_
          refine D.one (i := 7) §7 rfl ?_
          refine Do.s (s.c (Qt.a (q.sfromC (i := i) §4 rfl rfl tSl_27 rfl (by omega) (by first | assumption | omega | (simp [scap_sto]; omega)))) rfl) (fun _ => §10) rfl fun _ => ?_
          refine D.one (i := 8) §7 rfl ?_
          refine Do.s (s.cpyUp' (o := i) 0 _ rfl (by omega) (by omega) (by omega) (by first | assumption | omega) rfl rfl tSl_27 rfl rfl) (fun _ => §10) rfl fun _ => ?_
          refine D.done §7 <| ?_
          refine R.reg rfl <| R.u 2 rfl <| R.q (q.sfrom (i := i) §4 rfl rfl tSl_27 rfl §2) rfl <| R.u 1 rfl <| ?_
          refine R.s rfl (s.cpyAt (o := i) (l2 := u) 0 _ rfl (fun _ => Wd.row 1 rfl) rfl rfl tSl_27 §38 rfl rfl) fun _ => ?_
          refine R.nil ?_
          refine R.reg rfl <| R.u 2 rfl <| R.nil ?_
          have hz : l.take i ++ u ++ l.drop i = ((l.take (i + 1) ++ l.drop i).take i ++ u ++ (l.take (i + 1) ++ l.drop i).drop (i + u.length)) := by (first | (exfalso; omega) | exact ins_end (by omega) | exact ins_grow hu (by omega) rfl | exact ins_up hu (by omega))
          rw [hz]
          exact R.w1 (sto v_l (l.length + u.length)) [0, 2] [] rfl Tryz.results70 (RV.tmp rfl) rfl rfl rfl rfl
        · refine Do.s (s.c (Qt.a (q.sfromC (i := i) §4 rfl rfl tSl_27 rfl (by omega) (by first | assumption | omega | (simp [scap_sto]; omega)))) rfl) (fun _ => §10) rfl fun _ => ?_
          refine D.one (i := 4) §7 rfl ?_
          refine Do.s (s.c (Qt.a §35) rfl) (fun _ => §10) rfl fun _ => ?_
          refine D.one (i := 8) §7 rfl ?_
          refine Do.s (s.cpyUp' (o := i) 0 _ rfl (by omega) (by omega) (by omega) (by first | assumption | omega) rfl rfl tSl_27 rfl rfl) (fun _ => §10) rfl fun _ => ?_
          refine D.done §7 <| ?_
          refine R.reg rfl <| R.u 2 rfl <| R.q (q.sfrom (i := i) §4 rfl rfl tSl_27 rfl §2) rfl <| R.u 1 rfl <| ?_
          refine R.s rfl (s.cpyAt (o := i) (l2 := u) 0 _ rfl (fun _ => Wd.row 1 rfl) rfl rfl tSl_27 §38 rfl rfl) fun _ => ?_
          refine R.nil ?_
          refine R.reg rfl <| R.u 2 rfl <| R.nil ?_
          have hz : l.take i ++ u ++ l.drop i = ((l.take (i + 1) ++ l.drop i).take i ++ u ++ (l.take (i + 1) ++ l.drop i).drop (i + u.length)) := by (first | (exfalso; omega) | exact ins_end (by omega) | exact ins_grow hu (by omega) rfl | exact ins_up hu (by omega))
          rw [hz]
          exact R.w1 (sto v_l (l.length + u.length)) [0, 2] [] rfl Tryz.results70 (RV.tmp rfl) rfl rfl rfl rfl

theorem isNaN_any (x : Int) (w : World)  : Calls Tryz.prog 105 #[.int .i64 x] w fun e w' => e = .returned (.bool false) ∧ Ext w w' := by
  refine R.enter (n := 6) (vs := [.int .i64 x]) [] [(0, .int .i64 x)] Tryz.func105 rfl rfl rfl rfl ?_
  refine R.reg rfl <| R.u 1 rfl <| R.nil ?_
  refine R.reg rfl <| R.u 2 rfl <| R.q (q.neq rfl rfl (bne_eq_false_iff_eq.2 (by omega))) rfl <| R.u 1 rfl <| R.nil ?_
  exact R.rv rfl Tryz.results105 rfl (rB (by (rfl)))

theorem compare_any (x : Int) (y : Int) (w : World)  : Calls Tryz.prog 101 #[.int .i64 x, .int .i64 y] w fun e w' => e = .returned (.int .i64 (cmpI x y)) ∧ Ext w w' := by
  refine R.enter (n := 20) (vs := [.int .i64 x, .int .i64 y]) [] [(0, .int .i64 x), (1, .int .i64 y)] Tryz.func101 rfl rfl rfl rfl ?_
  refine R.reg rfl <| R.u 1 rfl <| R.nil ?_
  refine R.reg rfl <| R.u 1 rfl <| R.c (q.call eg_105 rfl rfl (fun w hw => (isNaN_any (x) w  ))) rfl <| R.u 1 rfl <| R.nil ?_
  refine R.reg rfl <| R.u 1 rfl <| R.c (q.call eg_105 rfl rfl (fun w hw => (isNaN_any (y) w  ))) rfl <| R.u 1 rfl <| R.nil ?_
  refine R.reg rfl <| R.u 1 rfl <| R.nil ?_
  refine R.condF rfl rfl ?_
  refine R.reg rfl <| R.u 1 rfl <| R.nil ?_
  refine R.condF rfl rfl ?_
  refine R.reg rfl <| R.u 2 rfl <| ?_
  by_cases h1 : x < y
  · refine R.q §5 rfl <| R.nil ?_
    refine R.condT rfl rfl ?_
    refine R.reg rfl <| R.u 1 rfl <| R.nil ?_
    exact R.rv rfl Tryz.results101 rfl (rI §34)
  · refine R.q §6 rfl <| R.nil ?_
    refine R.condF rfl rfl ?_
    refine R.reg rfl <| R.u 2 rfl <| ?_
    by_cases h2 : y < x
    · refine R.q (q.gtr rfl rfl (decide_eq_true (by omega))) rfl <| R.nil ?_
      refine R.condT rfl rfl ?_
      refine R.reg rfl <| R.u 1 rfl <| R.nil ?_
      exact R.rv rfl Tryz.results101 rfl (rI §34)
    · refine R.q (q.gtr rfl rfl (decide_eq_false (by omega))) rfl <| R.nil ?_
      refine R.condF rfl rfl ?_
      refine R.reg rfl <| R.u 1 rfl <| R.nil ?_
      exact R.rv rfl Tryz.results101 rfl (rI §34)

theorem cmpOr_any (v_l : Value) (l : List Int) (w : World) (s_l : Sl w v_l l) : Calls Tryz.prog 100 #[v_l] w fun e w' => e = .returned (.int .i64 (orI l)) ∧ Ext w w' := by
  have b_l := s_l.lenle
  refine R.enter (n := 18) (vs := [v_l]) [] [(0, v_l)] Tryz.func100 rfl rfl rfl rfl ?_
  refine R.reg rfl <| R.u 1 rfl <| R.nil ?_
  refine R.reg rfl <| R.u 1 rfl <| R.nil ?_
  refine R.reg rfl <| R.u 1 rfl <| R.q (q.len' §12 rfl Tryz.underlying116) rfl <| R.u 1 rfl <| R.nil ?_
  refine R.loop (fun k : Nat => [(3, .int .i64 0), (6, v_l), (7, .int .i64 (l.length : Int)), (8, .int .i64 (k : Int))]) (fun k : Nat => []) (fun k : Nat => []) (fun k : Nat => orI l = orI (l.drop k)) (fun k : Nat => l.length - k) 0 rfl (by rfl) ⟨rfl, rfl, rfl, rfl, trivial⟩ (fun _ => Wd.pick [] [] rfl rfl rfl) ?_
  rintro k HA
  refine R.reg rfl <| ?_
  by_cases h1 : k < l.length
  · refine R.q §5 rfl <| R.nil ?_
    refine R.condT rfl rfl ?_
    refine R.reg rfl <| ?_
    obtain ⟨x1, hx1⟩ : ∃ z, l[k]? = some z := ⟨_, List.getElem?_eq_getElem (by omega)⟩
    refine R.q (q.idx (i := k) §12 rfl rfl tSl_116 rfl hx1) rfl <| R.q (q.ldE §12 hx1 rfl tOne_3 rfl) rfl <| R.u 1 rfl <| R.nil ?_
    refine R.reg rfl <| R.u 2 rfl <| ?_
    by_cases h2 : x1 = 0
    · refine R.q (q.neq rfl rfl (bne_eq_false_iff_eq.2 (by omega))) rfl <| R.nil ?_
      refine R.condF rfl rfl ?_
      refine R.reg rfl <| R.q §3 rfl <| R.u 1 rfl <| R.nil ?_
      refine R.back (k + 1) rfl (by (rw [HA]; exact orI_drop hx1 (by omega))) (by omega) ⟨rfl, rfl, rfl, rfl, trivial⟩ (fun _ => Wd.pick [] [] rfl rfl rfl)
    · refine R.q (q.neq rfl rfl (bne_iff_ne.2 (by omega))) rfl <| R.nil ?_
      refine R.condT rfl rfl ?_
      refine R.reg rfl <| R.u 2 rfl <| R.nil ?_
      exact R.rv rfl Tryz.results100 rfl (rI (by (rw [HA]; exact (orI_hit hx1 (by omega)).symm)))
  · refine R.q §6 rfl <| R.nil ?_
    refine R.condF rfl rfl ?_
    refine R.reg rfl <| R.u 2 rfl <| R.nil ?_
    exact R.rv rfl Tryz.results100 rfl (rI (by (rw [HA, List.drop_of_length_le (by omega)]; rfl)))

theorem cmpPlace_any (a : Place) (b : Place) (w : World)  : Calls Tryz.prog 92 #[.agg #[.int .i64 a.Holder, .int .i64 a.Slot], .agg #[.int .i64 b.Holder, .int .i64 b.Slot]] w fun e w' => e = .returned (.int .i64 (cmpP a b)) ∧ Ext w w' := by
  refine R.enter (n := 17) (vs := [.agg #[.int .i64 a.Holder, .int .i64 a.Slot], .agg #[.int .i64 b.Holder, .int .i64 b.Slot]]) [] [(0, .agg #[.int .i64 a.Holder, .int .i64 a.Slot]), (1, .agg #[.int .i64 b.Holder, .int .i64 b.Slot])] Tryz.func92 rfl rfl rfl rfl ?_
  refine R.reg rfl <| ?_
  refine R.s rfl (s.box (cs := [.int .i64 a.Holder, .int .i64 a.Slot]) rfl rfl rfl) fun b1 => ?_
  refine R.s rfl (s.box (cs := [.int .i64 b.Holder, .int .i64 b.Slot]) rfl rfl rfl) fun b2 => ?_
  refine R.u 1 rfl <| R.nil ?_
  refine R.regD (fuel := 13) (Wd w [] [Res.box b2 [.int .i64 b.Holder, .int .i64 b.Slot] 33, Res.box b1 [.int .i64 a.Holder, .int .i64 a.Slot] 33] []) rfl mixed rfl ?_
  refine D.q (i := 0) rfl §7 §26 rfl §18 rfl <| D.q (i := 1) rfl §7 §26 rfl (q.ld 1 rfl rfl tOne_3 rfl) rfl <| D.q (i := 2) rfl §7 §26 rfl §18 rfl <| D.q (i := 3) rfl §7 §26 rfl §25 rfl <| D.q (i := 5) rfl §7 §26 rfl §29 rfl <| D.q (i := 6) rfl §7 §26 rfl (q.ld 1 rfl rfl tOne_3 rfl) rfl <| D.q (i := 7) rfl §7 §26 rfl §29 rfl <| D.q (i := 8) rfl §7 §26 rfl §25 rfl <| ?_
  refine D.one (i := 4) §7 rfl ?_
  refine Do.s (s.c (q.call eg_101 rfl rfl (fun w hw => (compare_any (a.Holder) (b.Holder) w  ))) rfl) (fun _ => §26) rfl fun _ => ?_
  refine D.one (i := 9) §7 rfl ?_
  refine Do.s (s.c (q.call eg_101 rfl rfl (fun w hw => (compare_any (a.Slot) (b.Slot) w  ))) rfl) (fun _ => §26) rfl fun _ => ?_
  refine D.one (i := 10) §7 rfl ?_
  refine Do.s (s.bs (l := ([cmpI a.Holder b.Holder, cmpI a.Slot b.Slot] : List Int)) tSl_116 tZero_3 rfl rfl rfl rfl rfl rfl rfl) (fun _ => §10) rfl fun b3 => ?_
  refine D.one (i := 11) §7 rfl ?_
  refine Do.s (s.c (q.call eg_100 rfl rfl (fun w hw => (cmpOr_any _ ([cmpI a.Holder b.Holder, cmpI a.Slot b.Slot]) w (§4 w hw) ))) rfl) (fun _ => §10) rfl fun _ => ?_
  refine D.q (i := 12) rfl §7 §10 rfl (q.as rfl) rfl <| D.done §7 <| ?_
  exact R.rv rfl Tryz.results92 rfl (rI (by (exact cmpP_or a b)))

theorem findPlit_any (h : Held) (pl : Place) (w : World)  : Calls Tryz.prog 91 #[.agg #[.int .i64 h.Place.Holder, .int .i64 h.Place.Slot, .int .i64 h.Writ], .agg #[.int .i64 pl.Holder, .int .i64 pl.Slot]] w fun e w' => e = .returned (.int .i64 (cmpP h.Place pl)) ∧ Ext w w' := by
  refine R.enter (n := 9) (vs := [.agg #[.int .i64 h.Place.Holder, .int .i64 h.Place.Slot, .int .i64 h.Writ], .agg #[.int .i64 pl.Holder, .int .i64 pl.Slot]]) [] [(0, .agg #[.int .i64 h.Place.Holder, .int .i64 h.Place.Slot, .int .i64 h.Writ]), (1, .agg #[.int .i64 pl.Holder, .int .i64 pl.Slot])] Tryz.func91 rfl rfl rfl rfl ?_
  refine R.reg rfl <| ?_
  refine R.s rfl (s.box (cs := [.int .i64 h.Place.Holder, .int .i64 h.Place.Slot, .int .i64 h.Writ]) rfl rfl rfl) fun b1 => ?_
  refine R.s rfl (s.box (cs := [.int .i64 pl.Holder, .int .i64 pl.Slot]) rfl rfl rfl) fun b2 => ?_
  refine R.u 1 rfl <| R.nil ?_
  refine R.reg rfl <| R.q (q.fld (off' := 0) rfl tFld_93_0 rfl) rfl <| R.q (q.ldP (ds := [.int .i64 h.Place.Holder, .int .i64 h.Place.Slot]) 1 rfl rfl tAgg_33 rfl) rfl <| R.q §33 rfl <| R.c (q.call eg_92 rfl rfl (fun w hw => (cmpPlace_any (h.Place) (pl) w  ))) rfl <| R.u 1 rfl <| R.nil ?_
  exact R.rv rfl Tryz.results91 rfl (rI (by (rfl)))

theorem bsearchHeld_any (v_l : Value) (l : List Held) (t : Place) (c : Held → Place → Int) (g_c : Nat) (c_c : List Value) (eg_c : ∀ args w, (callFunc g_c args).run Tryz.prog w = .ok (.enter g_c args) w) (w : World) (s_l : Sl w v_l l) (H_c : ∀ W (x1 : Held) (x2 : Place), Ext w W → Calls Tryz.prog g_c ([x1.val, x2.val] ++ c_c).toArray W fun e w' => e = .returned (.int .i64 (c x1 x2)) ∧ Ext W w') (hl : l.length ≤ 1000000) : Calls Tryz.prog 90 #[v_l, .agg #[.int .i64 t.Holder, .int .i64 t.Slot], .func (.func g_c) #[] c_c.toArray] w fun e w' => e = .returned (.tuple #[.int .i64 (bsL (fun x => c x t) l : Int), .bool (bsF (fun x => c x t) l)]) ∧ Ext w w' := by
  have b_l := s_l.lenle
  refine R.enter (n := 49) (vs := [v_l, .agg #[.int .i64 t.Holder, .int .i64 t.Slot], .func (.func g_c) #[] c_c.toArray]) [] [(0, v_l), (1, .agg #[.int .i64 t.Holder, .int .i64 t.Slot]), (2, .func (.func g_c) #[] c_c.toArray)] Tryz.func90 rfl rfl rfl rfl ?_
  refine R.reg rfl <| ?_
  refine R.s rfl (s.box (cs := [.int .i64 t.Holder, .int .i64 t.Slot]) rfl rfl rfl) fun b1 => ?_
  refine R.u 2 rfl <| R.nil ?_
  refine R.reg rfl <| R.u 1 rfl <| R.q (q.len' §12 rfl Tryz.underlying27) rfl <| R.u 1 rfl <| R.nil ?_
  refine R.reg rfl <| R.u 3 rfl <| R.nil ?_
  refine R.loop (fun g_ : Nat × Nat => [(0, v_l), (2, .func (.func g_c) #[] c_c.toArray), (4, .pointer (some ⟨b1, 0, none⟩)), (8, .int .i64 (l.length : Int)), (9, .int .i64 (g_.1 : Int)), (10, .int .i64 (g_.2 : Int))]) (fun g_ : Nat × Nat => [Res.box b1 [.int .i64 t.Holder, .int .i64 t.Slot] 33]) (fun g_ : Nat × Nat => []) (fun g_ : Nat × Nat => g_.1 ≤ g_.2 ∧ g_.2 ≤ l.length ∧ bsGo (fun x => c x t) l g_.1 g_.2 = bsL (fun x => c x t) l) (fun g_ : Nat × Nat => g_.2 - g_.1) (0, l.length) rfl (by exact ⟨Nat.zero_le _, Nat.le_refl _, rfl⟩) ⟨rfl, rfl, rfl, rfl, rfl, rfl, trivial⟩ (fun _ => Wd.pick [0] [] rfl rfl rfl) ?_
  rintro ⟨lo, hi⟩ ⟨h1_, h2_, HA⟩
  dsimp only at *
  refine R.reg rfl <| R.u 2 rfl <| ?_
  by_cases h1 : lo < hi
  · refine R.q §5 rfl <| R.nil ?_
    refine R.condT rfl rfl ?_
    refine R.reg rfl <| R.u 2 rfl <| R.q (q.add (r := ((lo + hi : Nat) : Int)) rfl rfl (wr (by omega))) rfl <| R.q (q.cvi (r := (((lo + hi) : Nat) : Int)) rfl (by rw [Tryz.underlying3]; rfl) Tryz.underlying138 (wr_u64 (by omega))) rfl <| R.q (q.shr (r := ((((lo + hi) / 2) : Nat) : Int)) rfl rfl (by decide) (shrN (by decide))) rfl <| R.q (q.cvi (r := ((((lo + hi) / 2) : Nat) : Int)) rfl (by rw [Tryz.underlying138]; rfl) Tryz.underlying3 (wr (by omega))) rfl <| R.u 1 rfl <| R.nil ?_
    obtain ⟨x1, hx1⟩ : ∃ z, l[((lo + hi) / 2)]? = some z := ⟨_, List.getElem?_eq_getElem (by omega)⟩
    by_cases h2 : (c x1 t) < 0
    · refine R.regQ rfl mixed §7 <| Q.u 3 rfl <| Q.q (q.idx (i := ((lo + hi) / 2)) §12 rfl rfl tSl_27 rfl hx1) rfl <| Q.q (q.ldES (ds := [.int .i64 x1.Place.Holder, .int .i64 x1.Place.Slot, .int .i64 x1.Writ]) §12 hx1 rfl tAgg_93 rfl) rfl <| Q.q §33 rfl <| Q.c (q.call eg_c rfl rfl (fun w hw => H_c w x1 t hw.ext)) rfl <| Q.q §5 rfl <| Q.nil ?_
      refine R.condT rfl rfl ?_
      refine R.reg rfl <| R.u 1 rfl <| R.q (q.add (r := ((((lo + hi) / 2) + 1 : Nat) : Int)) rfl rfl (wr (by omega))) rfl <| R.u 1 rfl <| R.nil ?_
      refine R.back ((((lo + hi) / 2) + 1), hi) rfl (by (exact ⟨by omega, by omega, (bsGo_lt (by omega) hx1 (by omega)).symm.trans HA⟩)) §21 ⟨rfl, rfl, rfl, rfl, rfl, rfl, trivial⟩ (fun _ => Wd.pick [0] [] rfl rfl rfl)
    · refine R.regQ rfl mixed §7 <| Q.u 3 rfl <| Q.q (q.idx (i := ((lo + hi) / 2)) §12 rfl rfl tSl_27 rfl hx1) rfl <| Q.q (q.ldES (ds := [.int .i64 x1.Place.Holder, .int .i64 x1.Place.Slot, .int .i64 x1.Writ]) §12 hx1 rfl tAgg_93 rfl) rfl <| Q.q §33 rfl <| Q.c (q.call eg_c rfl rfl (fun w hw => H_c w x1 t hw.ext)) rfl <| Q.q §6 rfl <| Q.nil ?_
      refine R.condF rfl rfl ?_
      refine R.reg rfl <| R.u 2 rfl <| R.nil ?_
      refine R.back (lo, ((lo + hi) / 2)) rfl (by (exact ⟨by omega, by omega, (bsGo_ge (by omega) hx1 (by omega)).symm.trans HA⟩)) §21 ⟨rfl, rfl, rfl, rfl, rfl, rfl, trivial⟩ (fun _ => Wd.pick [0] [] rfl rfl rfl)
  · refine R.q §6 rfl <| R.nil ?_
    refine R.condF rfl rfl ?_
    by_cases h3 : lo < l.length
    · obtain ⟨x2, hx2⟩ : ∃ z, l[lo]? = some z := ⟨_, List.getElem?_eq_getElem (by omega)⟩
      by_cases h4 : (c x2 t) = 0
      · refine R.regQ rfl mixed §7 <| Q.u 3 rfl <| Q.q §5 rfl <| Q.u 4 rfl <| Q.qg rfl (q.idx (i := lo) §12 rfl rfl tSl_27 rfl hx2) rfl <| Q.qg rfl (q.ldES (ds := [.int .i64 x2.Place.Holder, .int .i64 x2.Place.Slot, .int .i64 x2.Writ]) §12 hx2 rfl tAgg_93 rfl) rfl <| Q.qg rfl §33 rfl <| Q.cg rfl (q.call eg_c rfl rfl (fun w hw => H_c w x2 t hw.ext)) rfl <| Q.qg rfl §20 rfl <| Q.u 3 rfl <| Q.nil ?_
        exact R.rv2 rfl Tryz.results90 rfl rfl (rI (by (exact congrArg (fun n : Nat => (n : Int)) ((bsGo_end (by omega)).symm.trans HA)))) (rB (by (have e := (bsGo_end (by omega)).symm.trans HA; unfold bsF; rw [← e]; first | (rw [hx2]; first | exact (decide_eq_true §32).symm | exact (decide_eq_false §32).symm) | (rw [List.getElem?_eq_none (by omega)]))))
      · refine R.regQ rfl mixed §7 <| Q.u 3 rfl <| Q.q §5 rfl <| Q.u 4 rfl <| Q.qg rfl (q.idx (i := lo) §12 rfl rfl tSl_27 rfl hx2) rfl <| Q.qg rfl (q.ldES (ds := [.int .i64 x2.Place.Holder, .int .i64 x2.Place.Slot, .int .i64 x2.Writ]) §12 hx2 rfl tAgg_93 rfl) rfl <| Q.qg rfl §33 rfl <| Q.cg rfl (q.call eg_c rfl rfl (fun w hw => H_c w x2 t hw.ext)) rfl <| Q.qg rfl §15 rfl <| Q.u 3 rfl <| Q.nil ?_
        exact R.rv2 rfl Tryz.results90 rfl rfl (rI (by (exact congrArg (fun n : Nat => (n : Int)) ((bsGo_end (by omega)).symm.trans HA)))) (rB (by (have e := (bsGo_end (by omega)).symm.trans HA; unfold bsF; rw [← e]; first | (rw [hx2]; first | exact (decide_eq_true §32).symm | exact (decide_eq_false §32).symm) | (rw [List.getElem?_eq_none (by omega)]))))
    · refine R.regQ rfl mixed §7 <| Q.u 3 rfl <| Q.q §6 rfl <| Q.u 12 rfl <| Q.nil ?_
      exact R.rv2 rfl Tryz.results90 rfl rfl (rI (by (exact congrArg (fun n : Nat => (n : Int)) ((bsGo_end (by omega)).symm.trans HA)))) (rB (by (have e := (bsGo_end (by omega)).symm.trans HA; unfold bsF; rw [← e]; first | (rw [rfl]; first | exact (decide_eq_true §32).symm | exact (decide_eq_false §32).symm) | (rw [List.getElem?_eq_none (by omega)]))))

theorem findPlace_any (v_l : Value) (l : List Held) (pl : Place) (w : World) (s_l : Sl w v_l l) (hl : l.length ≤ 1000000) : Calls Tryz.prog 64 #[v_l, .agg #[.int .i64 pl.Holder, .int .i64 pl.Slot]] w fun e w' => e = .returned (.tuple #[.int .i64 (posH l pl : Int), .bool (isH l pl)]) ∧ Ext w w' := by
  have b_l := s_l.lenle
  refine R.enter (n := 11) (vs := [v_l, .agg #[.int .i64 pl.Holder, .int .i64 pl.Slot]]) [] [(0, v_l), (1, .agg #[.int .i64 pl.Holder, .int .i64 pl.Slot])] Tryz.func64 rfl rfl rfl rfl ?_
  refine R.reg rfl <| ?_
  refine R.s rfl (s.box (cs := [.int .i64 pl.Holder, .int .i64 pl.Slot]) rfl rfl rfl) fun b1 => ?_
  refine R.u 2 rfl <| R.nil ?_
  refine R.reg rfl <| R.u 1 rfl <| R.q §33 rfl <| R.c (q.call eg_90 rfl rfl (fun w hw => (bsearchHeld_any _ (l) (pl) (fun (h : Held) (pl : Place) => cmpP h.Place pl) _ _ eg_91 w (§12 w hw) (fun W h pl hW => findPlit_any h pl  W  ) §19))) rfl <| R.u 4 rfl <| R.nil ?_
  exact R.rv2 rfl Tryz.results64 rfl rfl (rI (by (rfl))) (rB (by (rfl)))

theorem placeCheck_any (p : Place) (w : World)  : Calls Tryz.prog 23 #[.agg #[.int .i64 p.Holder, .int .i64 p.Slot]] w fun e w' => e = .returned (errv (placeFault p)) ∧ Ext w w' := by
  refine R.enter (n := 22) (vs := [.agg #[.int .i64 p.Holder, .int .i64 p.Slot]]) [] [(0, .agg #[.int .i64 p.Holder, .int .i64 p.Slot])] Tryz.func23 rfl rfl rfl rfl ?_
  refine R.reg rfl <| ?_
  refine R.s rfl (s.box (cs := §13) rfl rfl rfl) fun b1 => ?_
  refine R.u 1 rfl <| R.nil ?_
  refine R.reg rfl <| R.q §18 rfl <| R.q §25 rfl <| ?_
  by_cases h1 : p.Holder < 1
  · refine R.q §5 rfl <| R.u 15 rfl <| R.nil ?_
    refine R.condT rfl rfl ?_
    refine R.reg rfl <| R.q (q.iface rfl con_69) rfl <| R.u 1 rfl <| R.nil ?_
    exact R.rv rfl Tryz.results23 rfl (errk (by decide) §14)
  · refine R.q §6 rfl <| R.u 1 rfl <| R.qg rfl §18 rfl <| R.qg rfl §25 rfl <| ?_
    by_cases h2 : 4 < p.Holder
    · refine R.qg rfl (q.gtr rfl rfl (decide_eq_true (by omega))) rfl <| R.u 11 rfl <| R.nil ?_
      refine R.condT rfl rfl ?_
      refine R.reg rfl <| R.q (q.iface rfl con_69) rfl <| R.u 1 rfl <| R.nil ?_
      exact R.rv rfl Tryz.results23 rfl (errk (by decide) §14)
    · refine R.qg rfl (q.gtr rfl rfl (decide_eq_false (by omega))) rfl <| R.u 2 rfl <| R.qg rfl §29 rfl <| R.qg rfl §25 rfl <| ?_
      by_cases h3 : p.Slot < 0
      · refine R.qg rfl §5 rfl <| R.u 6 rfl <| R.nil ?_
        refine R.condT rfl rfl ?_
        refine R.reg rfl <| R.q (q.iface rfl con_69) rfl <| R.u 1 rfl <| R.nil ?_
        exact R.rv rfl Tryz.results23 rfl (errk (by decide) §14)
      · refine R.qg rfl §6 rfl <| R.u 2 rfl <| R.qg rfl §29 rfl <| R.qg rfl §25 rfl <| ?_
        by_cases h4 : 5 < p.Slot
        · refine R.qg rfl (q.gtr rfl rfl (decide_eq_true (by omega))) rfl <| R.u 1 rfl <| R.nil ?_
          refine R.condT rfl rfl ?_
          refine R.reg rfl <| R.q (q.iface rfl con_69) rfl <| R.u 1 rfl <| R.nil ?_
          exact R.rv rfl Tryz.results23 rfl (errk (by decide) §14)
        · refine R.qg rfl (q.gtr rfl rfl (decide_eq_false (by omega))) rfl <| R.u 1 rfl <| R.nil ?_
          refine R.condF rfl rfl ?_
          refine R.reg rfl <| R.u 1 rfl <| R.nil ?_
          exact R.rv rfl Tryz.results23 rfl (err0 §14)

theorem placeFaultRef_any (p : Place) (w : World)  : Calls Tryz.prog 26 #[.agg #[.int .i64 p.Holder, .int .i64 p.Slot]] w fun e w' => e = .returned (.int .i64 (placeFault p)) ∧ Ext w w' := by
  refine R.enter (n := 21) (vs := [.agg #[.int .i64 p.Holder, .int .i64 p.Slot]]) [] [(0, .agg #[.int .i64 p.Holder, .int .i64 p.Slot])] Tryz.func26 rfl rfl rfl rfl ?_
  refine R.reg rfl <| ?_
  refine R.s rfl (s.box (cs := §13) rfl rfl rfl) fun b1 => ?_
  refine R.u 1 rfl <| R.nil ?_
  refine R.reg rfl <| R.q §18 rfl <| R.q §25 rfl <| ?_
  by_cases h1 : p.Holder < 1
  · refine R.q §5 rfl <| R.u 15 rfl <| R.nil ?_
    refine R.condT rfl rfl ?_
    refine R.reg rfl <| R.u 1 rfl <| R.nil ?_
    exact R.rv rfl Tryz.results26 rfl (rI §22)
  · refine R.q §6 rfl <| R.u 1 rfl <| R.qg rfl §18 rfl <| R.qg rfl §25 rfl <| ?_
    by_cases h2 : 4 < p.Holder
    · refine R.qg rfl (q.gtr rfl rfl (decide_eq_true (by omega))) rfl <| R.u 11 rfl <| R.nil ?_
      refine R.condT rfl rfl ?_
      refine R.reg rfl <| R.u 1 rfl <| R.nil ?_
      exact R.rv rfl Tryz.results26 rfl (rI §22)
    · refine R.qg rfl (q.gtr rfl rfl (decide_eq_false (by omega))) rfl <| R.u 2 rfl <| R.qg rfl §29 rfl <| R.qg rfl §25 rfl <| ?_
      by_cases h3 : p.Slot < 0
      · refine R.qg rfl §5 rfl <| R.u 6 rfl <| R.nil ?_
        refine R.condT rfl rfl ?_
        refine R.reg rfl <| R.u 1 rfl <| R.nil ?_
        exact R.rv rfl Tryz.results26 rfl (rI §22)
      · refine R.qg rfl §6 rfl <| R.u 2 rfl <| R.qg rfl §29 rfl <| R.qg rfl §25 rfl <| ?_
        by_cases h4 : 5 < p.Slot
        · refine R.qg rfl (q.gtr rfl rfl (decide_eq_true (by omega))) rfl <| R.u 1 rfl <| R.nil ?_
          refine R.condT rfl rfl ?_
          refine R.reg rfl <| R.u 1 rfl <| R.nil ?_
          exact R.rv rfl Tryz.results26 rfl (rI §22)
        · refine R.qg rfl (q.gtr rfl rfl (decide_eq_false (by omega))) rfl <| R.u 1 rfl <| R.nil ?_
          refine R.condF rfl rfl ?_
          refine R.reg rfl <| R.u 1 rfl <| R.nil ?_
          exact R.rv rfl Tryz.results26 rfl (rI §22)

theorem atPlace_any (v_l : Value) (l : List Held) (p : Place) (w : World) (s_l : Sl w v_l l) (hl : l.length ≤ 1000000) : Calls Tryz.prog 25 #[v_l, .agg #[.int .i64 p.Holder, .int .i64 p.Slot]] w fun e w' => e = .returned (.int .i64 (atH l p)) ∧ Ext w w' := by
  have b_l := s_l.lenle
  refine R.enter (n := 20) (vs := [v_l, .agg #[.int .i64 p.Holder, .int .i64 p.Slot]]) [] [(0, v_l), (1, .agg #[.int .i64 p.Holder, .int .i64 p.Slot])] Tryz.func25 rfl rfl rfl rfl ?_
  refine R.reg rfl <| ?_
  refine R.s rfl (s.box (cs := §13) rfl rfl rfl) fun b1 => ?_
  refine R.u 1 rfl <| R.nil ?_
  refine R.reg rfl <| R.u 1 rfl <| R.q §33 rfl <| ?_
  have c1L := posH_le l p
  rcases isH_cases l p with c1f | ⟨c1x, c1h, c1f, c1e, c1b⟩
  · refine R.c (q.call eg_64 rfl rfl (fun w hw => (cv (congrArg (fun b => Value.tuple #[.int .i64 ((posH l p : Nat) : Int), .bool b]) c1f) (findPlace_any _ (l) (p) w (§12 w hw) §19)))) rfl <| R.u 5 rfl <| R.nil ?_
    refine R.reg rfl <| R.u 2 rfl <| R.nil ?_
    refine R.condT rfl rfl ?_
    refine R.reg rfl <| R.u 1 rfl <| R.nil ?_
    exact R.rv rfl Tryz.results25 rfl (rI (by (first | exact (atH_no c1f).symm | exact (atH_hit c1f c1h).symm)))
  · refine R.c (q.call eg_64 rfl rfl (fun w hw => (cv (congrArg (fun b => Value.tuple #[.int .i64 ((posH l p : Nat) : Int), .bool b]) c1f) (findPlace_any _ (l) (p) w (§12 w hw) §19)))) rfl <| R.u 5 rfl <| R.nil ?_
    refine R.reg rfl <| R.u 2 rfl <| R.nil ?_
    refine R.condF rfl rfl ?_
    refine R.reg rfl <| R.u 2 rfl <| R.q (q.idx (i := (posH l p)) §12 rfl rfl tSl_27 rfl c1h) rfl <| R.q (q.fldE (j' := 2) §12 c1h rfl tFld_93_1 rfl) rfl <| R.q (q.ldE §12 c1h rfl tOne_3 rfl) rfl <| R.u 1 rfl <| R.nil ?_
    exact R.rv rfl Tryz.results25 rfl (rI (by (first | exact (atH_no c1f).symm | exact (atH_hit c1f c1h).symm)))

theorem put_any (v_l : Value) (l : List Held) (p : Place) (id : Int) (w : World) (own : List Nat) (H : Wd w (blks [] ++ own) ([] ++ [Res.held w own]) [Res.ls v_l (l : List Held)] w) (hl : l.length ≤ 100000) : Calls Tryz.prog 34 #[v_l, .agg #[.int .i64 p.Holder, .int .i64 p.Slot], .int .i64 id] w fun e w' => ∃ z : Value, e = .returned (z) ∧ Wd w (blks [] ++ own) ([Res.row 93 z ((putH l p id) : List Held)] ++ [Res.held w own]) [] w' := by
  have m_l := H.lenF 0 rfl
  refine R.enterN (n := 47) (vs := [v_l, .agg #[.int .i64 p.Holder, .int .i64 p.Slot], .int .i64 id]) (B := [Res.held w own]) [(0, v_l), (1, .agg #[.int .i64 p.Holder, .int .i64 p.Slot]), (2, .int .i64 id)] Tryz.func34 rfl rfl rfl rfl H ?_
  refine R.reg rfl <| ?_
  refine R.s rfl (s.box (cs := §13) rfl rfl rfl) fun b1 => ?_
  refine R.u 1 rfl <| R.nil ?_
  refine R.reg rfl <| R.u 1 rfl <| ?_
  refine R.s (B' := (fun bz0_ : Value => [Res.row 93 bz0_ (l : List Held), Res.box b1 §13 33, Res.held w own])) (F' := (fun bz0_ : Value => [Res.ls v_l (l : List Held)])) rfl (s.callV (B0 := []) (Br := [Res.box b1 §13 33, Res.held w own]) (F0 := [Res.ls v_l (l : List Held)]) [0, 1] [0] (fun bz0_ : Value => bz0_) (fun bz0_ : Value => [Res.row 93 bz0_ (l : List Held)]) (fun bz0_ : Value => []) rfl rfl rfl eg_46 rfl rfl (fun w own hw H => cloneHeld_any v_l (l) w own H §19) rfl) fun z1 => ?_
  refine R.u 1 rfl <| R.nil ?_
  refine R.reg rfl <| R.u 1 rfl <| R.q (q.ldS 1 rfl rfl tAgg_33) rfl <| ?_
  have c1L := posH_le l p
  rcases isH_cases l p with c1f | ⟨c1x, c1h, c1f, c1e, c1b⟩
  · refine R.c (q.call eg_64 rfl rfl (fun w hw => (cv (congrArg (fun b => Value.tuple #[.int .i64 ((posH l p : Nat) : Int), .bool b]) c1f) (findPlace_any _ (l) (p) w (§4 w hw) §19)))) rfl <| R.u 5 rfl <| R.nil ?_
    refine R.reg rfl <| R.u 6 rfl <| R.nil ?_
    refine R.condF rfl rfl ?_
    refine R.reg rfl <| R.u 2 rfl <| R.nil ?_
    refine R.condF rfl rfl ?_
    refine R.reg rfl <| R.u 1 rfl <| ?_
    by_cases h1 : id = 0
    · refine R.q §20 rfl <| R.u 1 rfl <| R.nil ?_
      refine R.condT rfl rfl ?_
      refine R.reg rfl <| R.u 2 rfl <| R.nil ?_
      have hz : putH l p id = l := by (unfold putH; first | (rw [if_pos c1f, if_pos §32]; done) | (rw [if_pos c1f, if_neg §32, c1e]; done) | (rw [if_neg (by rw [c1f]; simp), if_pos §32]; done) | (rw [if_neg (by rw [c1f]; simp), if_neg §32]; done))
      rw [hz]
      exact R.w1 z1 [0, 2] [] rfl Tryz.results34 (RV.tmp rfl) rfl rfl rfl rfl
    · refine R.q §15 rfl <| R.u 1 rfl <| R.nil ?_
      refine R.condF rfl rfl ?_
      refine R.reg rfl <| R.u 2 rfl <| R.q (q.ldS 1 rfl rfl tAgg_33) rfl <| R.u 1 rfl <| R.q §11 rfl <| ?_
      refine R.s rfl §9 fun b2 => ?_
      refine R.s (B' := (fun bz0_ : Value => [Res.row 93 bz0_ ((l.take (posH l p) ++ ([§27]) ++ l.drop (posH l p)) : List Held), Res.box b1 §13 33, Res.held w own])) (F' := (fun bz0_ : Value => [Res.ls v_l (l : List Held)])) rfl (s.callV (B0 := [Res.row 93 z1 (l : List Held), Res.row 93 (.slice (some ⟨b2, 0, none⟩) 1 1) ([§27] : List Held)]) (Br := [Res.box b1 §13 33, Res.held w own]) (F0 := []) [1, 0, 2, 3] [] (fun bz0_ : Value => bz0_) (fun bz0_ : Value => [Res.row 93 bz0_ ((l.take (posH l p) ++ ([§27]) ++ l.drop (posH l p)) : List Held)]) (fun bz0_ : Value => []) rfl rfl rfl eg_70 rfl rfl (fun w own hw H => insertHeld_any z1 (l) ((posH l p)) (.slice (some ⟨b2, 0, none⟩) 1 1) ([§27]) w own H (by first | assumption | omega) (rfl) §19) rfl) fun z2 => ?_
      refine R.u 1 rfl <| R.nil ?_
      have hz : putH l p id = l.take (posH l p) ++ ([§27]) ++ l.drop (posH l p) := by (unfold putH; first | (rw [if_pos c1f, if_pos §32]; done) | (rw [if_pos c1f, if_neg §32, c1e]; done) | (rw [if_neg (by rw [c1f]; simp), if_pos §32]; done) | (rw [if_neg (by rw [c1f]; simp), if_neg §32]; done))
      rw [hz]
      exact R.w1 z2 [0, 2] [] rfl Tryz.results34 (RV.tmp rfl) rfl rfl rfl rfl
  · refine R.c (q.call eg_64 rfl rfl (fun w hw => (cv (congrArg (fun b => Value.tuple #[.int .i64 ((posH l p : Nat) : Int), .bool b]) c1f) (findPlace_any _ (l) (p) w (§4 w hw) §19)))) rfl <| R.u 5 rfl <| R.nil ?_
    refine R.reg rfl <| R.u 3 rfl <| ?_
    by_cases h2 : id = 0
    · refine R.qg rfl §20 rfl <| R.u 2 rfl <| R.nil ?_
      refine R.condT rfl rfl ?_
      refine R.reg rfl <| R.u 3 rfl <| R.q (q.add (r := (((posH l p) + 1 : Nat) : Int)) rfl rfl (wr (by omega))) rfl <| ?_
      refine R.s (B' := (fun bz0_ : Value => [Res.row 93 bz0_ ((l.take (posH l p) ++ l.drop ((posH l p) + 1)) : List Held), Res.box b1 §13 33, Res.held w own])) (F' := (fun bz0_ : Value => [Res.ls v_l (l : List Held)])) rfl (s.callV (B0 := [Res.row 93 z1 (l : List Held)]) (Br := [Res.box b1 §13 33, Res.held w own]) (F0 := []) [0, 1, 2] [] (fun bz0_ : Value => bz0_) (fun bz0_ : Value => [Res.row 93 bz0_ ((l.take (posH l p) ++ l.drop ((posH l p) + 1)) : List Held)]) (fun bz0_ : Value => []) rfl rfl rfl eg_69 rfl rfl (fun w own hw H => deleteHeld_any z1 (l) ((posH l p)) (((posH l p) + 1)) w own H (by omega)) rfl) fun z3 => ?_
      refine R.u 1 rfl <| R.nil ?_
      have hz : putH l p id = l.take (posH l p) ++ l.drop ((posH l p) + 1) := by (unfold putH; first | (rw [if_pos c1f, if_pos §32]; done) | (rw [if_pos c1f, if_neg §32, c1e]; done) | (rw [if_neg (by rw [c1f]; simp), if_pos §32]; done) | (rw [if_neg (by rw [c1f]; simp), if_neg §32]; done))
      rw [hz]
      exact R.w1 z3 [0, 2] [] rfl Tryz.results34 (RV.tmp rfl) rfl rfl rfl rfl
    · refine R.qg rfl §15 rfl <| R.u 2 rfl <| R.nil ?_
      refine R.condF rfl rfl ?_
      refine R.reg rfl <| R.u 2 rfl <| R.nil ?_
      refine R.condT rfl rfl ?_
      refine R.reg rfl <| R.u 3 rfl <| R.q (q.idx (i := (posH l p)) §4 rfl rfl tSl_27 rfl c1h) rfl <| R.q (q.fldE (j' := 2) §4 c1h rfl tFld_93_1 rfl) rfl <| ?_
      refine R.s rfl (s.stP (o := 2) (z := (⟨c1x.Place, id⟩ : Held)) (us := [.int .i64 id]) 0 _ rfl c1h rfl rfl rfl rfl rfl (by simp [Value.oneCell']) (.inr ⟨tOne_3, rfl⟩) rfl) fun _ => ?_
      refine R.nil ?_
      refine R.reg rfl <| R.u 2 rfl <| R.nil ?_
      have hz : putH l p id = (l.set (posH l p) (⟨c1x.Place, id⟩ : Held)) := by (unfold putH; first | (rw [if_pos c1f, if_pos §32]; done) | (rw [if_pos c1f, if_neg §32, c1e]; done) | (rw [if_neg (by rw [c1f]; simp), if_pos §32]; done) | (rw [if_neg (by rw [c1f]; simp), if_neg §32]; done))
      rw [hz]
      exact R.w1 z1 [0, 2] [] rfl Tryz.results34 (RV.tmp rfl) rfl rfl rfl rfl

theorem free_any (v_l : Value) (l : List Held) (h : Int) (w : World) (s_l : Sl w v_l l) (hl : l.length ≤ 1000000) : Calls Tryz.prog 33 #[v_l, .int .i64 h] w fun e w' => e = .returned (.int .i64 (freeH l h)) ∧ Ext w w' := by
  have b_l := s_l.lenle
  refine R.enter (n := 17) (vs := [v_l, .int .i64 h]) [] [(0, v_l), (1, .int .i64 h)] Tryz.func33 rfl rfl rfl rfl ?_
  refine R.reg rfl <| R.u 1 rfl <| R.nil ?_
  refine R.reg rfl <| R.u 1 rfl <| R.nil ?_
  refine R.loop (fun i : Nat => [(0, v_l), (1, .int .i64 h), (6, .int .i64 (i : Int))]) (fun i : Nat => []) (fun i : Nat => []) (fun i : Nat => i ≤ 6 ∧ freeGo l h (6 - i) i = freeH l h) (fun i : Nat => 6 - i) 0 rfl (by exact ⟨by omega, rfl⟩) ⟨rfl, rfl, rfl, trivial⟩ (fun _ => Wd.pick [] [] rfl rfl rfl) ?_
  rintro i ⟨hs, HA⟩
  refine R.reg rfl <| ?_
  by_cases h1 : i < 6
  · refine R.q §5 rfl <| R.nil ?_
    refine R.condT rfl rfl ?_
    refine R.reg rfl <| R.u 2 rfl <| R.nil ?_
    refine R.reg rfl <| R.u 3 rfl <| R.q (q.build (cs := [.int .i64 h, .int .i64 (i : Int)]) tB_33 rfl rfl) rfl <| R.c (q.call eg_25 rfl rfl (fun w hw => (atPlace_any _ (l) ((⟨h, (i : Int)⟩ : Place)) w (§12 w hw) §19))) rfl <| ?_
    by_cases h2 : atH l (⟨h, (i : Int)⟩ : Place) = 0
    · refine R.q §20 rfl <| R.nil ?_
      refine R.condT rfl rfl ?_
      refine R.reg rfl <| R.u 2 rfl <| R.nil ?_
      exact R.rv rfl Tryz.results33 rfl (rI (by (rw [← HA]; exact (freeGo_hit §32 (by omega)).symm)))
    · refine R.q §15 rfl <| R.nil ?_
      refine R.condF rfl rfl ?_
      refine R.reg rfl <| R.q (q.add (r := ((i + 1 : Nat) : Int)) rfl rfl (wr (by omega))) rfl <| R.u 1 rfl <| R.nil ?_
      refine R.back (i + 1) rfl (by (exact ⟨by omega, (freeGo_step §32 (by omega)).symm.trans HA⟩)) (by omega) ⟨rfl, rfl, rfl, trivial⟩ (fun _ => Wd.pick [] [] rfl rfl rfl)
  · refine R.q §6 rfl <| R.nil ?_
    refine R.condF rfl rfl ?_
    refine R.reg rfl <| R.u 1 rfl <| R.nil ?_
    exact R.rv rfl Tryz.results33 rfl (rI (by (rw [← HA]; have : i = 6 := (by omega); subst this; rfl)))

theorem atRef_any (v_l : Value) (l : List Held) (p : Place) (w : World) (s_l : Sl w v_l l) : Calls Tryz.prog 28 #[v_l, .agg #[.int .i64 p.Holder, .int .i64 p.Slot]] w fun e w' => e = .returned (.int .i64 (atRef l p)) ∧ Ext w w' := by
  have b_l := s_l.lenle
  refine R.enter (n := 24) (vs := [v_l, .agg #[.int .i64 p.Holder, .int .i64 p.Slot]]) [] [(0, v_l), (1, .agg #[.int .i64 p.Holder, .int .i64 p.Slot])] Tryz.func28 rfl rfl rfl rfl ?_
  refine R.reg rfl <| ?_
  refine R.s rfl (s.box (cs := §13) rfl rfl rfl) fun b1 => ?_
  refine R.u 1 rfl <| R.nil ?_
  refine R.reg rfl <| R.u 1 rfl <| R.nil ?_
  refine R.loop (fun k : Nat => [(0, v_l), (3, .pointer (some ⟨b1, 0, none⟩)), (5, .int .i64 (k : Int))]) (fun k : Nat => [Res.box b1 §13 33]) (fun k : Nat => []) (fun k : Nat => k ≤ l.length ∧ ∀ (j : Nat) y, j < k → l[j]? = some y → ¬ y.Place = p) (fun k : Nat => l.length - k) 0 rfl (by exact ⟨by omega, fun j x hj => absurd hj (Nat.not_lt_zero _)⟩) ⟨rfl, rfl, rfl, trivial⟩ (fun _ => Wd.pick [0] [] rfl rfl rfl) ?_
  rintro k ⟨hk, HA⟩
  refine R.reg rfl <| R.u 2 rfl <| R.q (q.len' §12 rfl Tryz.underlying27) rfl <| ?_
  by_cases h1 : k < l.length
  · refine R.q §5 rfl <| R.nil ?_
    refine R.condT rfl rfl ?_
    obtain ⟨x1, hx1⟩ : ∃ z, l[k]? = some z := ⟨_, List.getElem?_eq_getElem (by omega)⟩
    by_cases h2 : x1.Place = p
    · refine R.regQ rfl mixed §7 <| Q.u 2 rfl <| Q.q (q.idx (i := k) §12 rfl rfl tSl_27 rfl hx1) rfl <| Q.q (q.fldE (j' := 0) §12 hx1 rfl tFld_93_0 rfl) rfl <| Q.q (q.ldES (ds := [.int .i64 x1.Place.Holder, .int .i64 x1.Place.Slot]) §12 hx1 rfl tAgg_33 rfl) rfl <| Q.q §33 rfl <| Q.q (q.eqlT1 (x := x1.Place) (y := p) eq_33 rfl rfl h2) rfl <| Q.nil ?_
      refine R.condT rfl rfl ?_
      refine R.reg rfl <| R.u 2 rfl <| R.q (q.idx (i := k) §12 rfl rfl tSl_27 rfl hx1) rfl <| R.q (q.fldE (j' := 2) §12 hx1 rfl tFld_93_1 rfl) rfl <| R.q (q.ldE §12 hx1 rfl tOne_3 rfl) rfl <| R.u 1 rfl <| R.nil ?_
      exact R.rv rfl Tryz.results28 rfl (rI (by (exact (atRef_hit hx1 §32 HA).symm)))
    · refine R.regQ rfl mixed §7 <| Q.u 2 rfl <| Q.q (q.idx (i := k) §12 rfl rfl tSl_27 rfl hx1) rfl <| Q.q (q.fldE (j' := 0) §12 hx1 rfl tFld_93_0 rfl) rfl <| Q.q (q.ldES (ds := [.int .i64 x1.Place.Holder, .int .i64 x1.Place.Slot]) §12 hx1 rfl tAgg_33 rfl) rfl <| Q.q §33 rfl <| Q.q (q.eqlT0 (x := x1.Place) (y := p) eq_33 rfl rfl h2) rfl <| Q.nil ?_
      refine R.condF rfl rfl ?_
      refine R.reg rfl <| R.u 1 rfl <| R.q §3 rfl <| R.u 1 rfl <| R.nil ?_
      refine R.back (k + 1) rfl (by (exact ⟨by omega, fun j x hj hx => if e : j = k then by subst e; rw [hx1] at hx; injection hx with hx; subst hx; assumption else HA j x (by omega) hx⟩)) (by omega) ⟨rfl, rfl, rfl, trivial⟩ (fun _ => Wd.pick [0] [] rfl rfl rfl)
  · refine R.q §6 rfl <| R.nil ?_
    refine R.condF rfl rfl ?_
    refine R.reg rfl <| R.u 1 rfl <| R.nil ?_
    exact R.rv rfl Tryz.results28 rfl (rI (by (exact (atRef_none (fun j y hj => HA j y (by omega))).symm)))

theorem freeRef_any (v_l : Value) (l : List Held) (h : Int) (w : World) (s_l : Sl w v_l l) : Calls Tryz.prog 72 #[v_l, .int .i64 h] w fun e w' => e = .returned (.int .i64 (freeRef l h)) ∧ Ext w w' := by
  have b_l := s_l.lenle
  refine R.enter (n := 17) (vs := [v_l, .int .i64 h]) [] [(0, v_l), (1, .int .i64 h)] Tryz.func72 rfl rfl rfl rfl ?_
  refine R.reg rfl <| R.u 1 rfl <| R.nil ?_
  refine R.reg rfl <| R.u 1 rfl <| R.nil ?_
  refine R.loop (fun i : Nat => [(0, v_l), (1, .int .i64 h), (5, .int .i64 (i : Int))]) (fun i : Nat => []) (fun i : Nat => []) (fun i : Nat => i ≤ 6 ∧ freeRGo l h (6 - i) i = freeRef l h) (fun i : Nat => 6 - i) 0 rfl (by exact ⟨by omega, rfl⟩) ⟨rfl, rfl, rfl, trivial⟩ (fun _ => Wd.pick [] [] rfl rfl rfl) ?_
  rintro i ⟨hs, HA⟩
  refine R.reg rfl <| R.u 1 rfl <| ?_
  by_cases h1 : i < 6
  · refine R.q §5 rfl <| R.nil ?_
    refine R.condT rfl rfl ?_
    refine R.reg rfl <| R.u 3 rfl <| R.q (q.build (cs := [.int .i64 h, .int .i64 (i : Int)]) tB_33 rfl rfl) rfl <| R.c (q.call eg_28 rfl rfl (fun w hw => (atRef_any _ (l) ((⟨h, (i : Int)⟩ : Place)) w (§12 w hw) ))) rfl <| ?_
    by_cases h2 : atRef l (⟨h, (i : Int)⟩ : Place) = 0
    · refine R.q §20 rfl <| R.nil ?_
      refine R.condT rfl rfl ?_
      refine R.reg rfl <| R.u 2 rfl <| R.nil ?_
      exact R.rv rfl Tryz.results72 rfl (rI (by (rw [← HA]; exact (freeRGo_hit §32 (by omega)).symm)))
    · refine R.q §15 rfl <| R.nil ?_
      refine R.condF rfl rfl ?_
      refine R.reg rfl <| R.u 1 rfl <| R.q (q.add (r := ((i + 1 : Nat) : Int)) rfl rfl (wr (by omega))) rfl <| R.u 1 rfl <| R.nil ?_
      refine R.back (i + 1) rfl (by (exact ⟨by omega, (freeRGo_step §32 (by omega)).symm.trans HA⟩)) (by omega) ⟨rfl, rfl, rfl, trivial⟩ (fun _ => Wd.pick [] [] rfl rfl rfl)
  · refine R.q §6 rfl <| R.nil ?_
    refine R.condF rfl rfl ?_
    refine R.reg rfl <| R.u 1 rfl <| R.nil ?_
    exact R.rv rfl Tryz.results72 rfl (rI (by (rw [← HA]; have : i = 6 := (by omega); subst this; rfl)))

theorem putRef_any (v_l : Value) (l : List Held) (p : Place) (id : Int) (w : World) (own : List Nat) (H : Wd w (blks [] ++ own) ([] ++ [Res.held w own]) [Res.ls v_l (l : List Held)] w) (hl : l.length ≤ 100000) : Calls Tryz.prog 73 #[v_l, .agg #[.int .i64 p.Holder, .int .i64 p.Slot], .int .i64 id] w fun e w' => ∃ z : Value, e = .returned (z) ∧ Wd w (blks [] ++ own) ([Res.row 93 z ((putRef l p id) : List Held)] ++ [Res.held w own]) [] w' := by
  have m_l := H.lenF 0 rfl
  refine R.enterN (n := 72) (vs := [v_l, .agg #[.int .i64 p.Holder, .int .i64 p.Slot], .int .i64 id]) (B := [Res.held w own]) [(0, v_l), (1, .agg #[.int .i64 p.Holder, .int .i64 p.Slot]), (2, .int .i64 id)] Tryz.func73 rfl rfl rfl rfl H ?_
  refine R.reg rfl <| ?_
  refine R.s rfl (s.box (cs := §13) rfl rfl rfl) fun b1 => ?_
  refine R.u 1 rfl <| R.nil ?_
  refine R.reg rfl <| R.u 1 rfl <| R.nil ?_
  refine R.reg rfl <| R.u 1 rfl <| ?_
  by_cases h1 : id = 0
  · refine R.q §20 rfl <| R.u 1 rfl <| R.nil ?_
    refine R.reg rfl <| R.u 1 rfl <| R.nil ?_
    refine R.row0 (α := Held) 93 ?_
    refine R.loop (fun g_ : Nat × Bool × Value × (List Held) => [(0, v_l), (2, .int .i64 id), (4, .pointer (some ⟨b1, 0, none⟩)), (7, g_.2.2.1), (8, .bool g_.2.1), (9, .int .i64 (g_.1 : Int))]) (fun g_ : Nat × Bool × Value × (List Held) => [Res.row 93 g_.2.2.1 (g_.2.2.2 : List Held), Res.box b1 §13 33, Res.held w own]) (fun g_ : Nat × Bool × Value × (List Held) => [Res.ls v_l (l : List Held)]) (fun g_ : Nat × Bool × Value × (List Held) => g_.1 ≤ l.length ∧ (g_.2.2.2, g_.2.1) = putGo (l.take g_.1) p id) (fun g_ : Nat × Bool × Value × (List Held) => l.length - g_.1) (0, true, (.slice none 0 0), []) rfl (by exact ⟨by omega, by simp [putGo, *]⟩) ⟨rfl, rfl, rfl, rfl, rfl, rfl, trivial⟩ (fun _ => Wd.pick [0, 1, 2] [0] rfl rfl rfl) ?_
    rintro ⟨k, laid, v, acc⟩ ⟨hk, HA⟩
    dsimp only at *
    have hal : acc.length ≤ 2 * k := by have := putGo_len (l.take k) p id; rw [← HA] at this; simp at this; omega
    refine R.reg rfl <| R.u 2 rfl <| R.q (q.len' §8 rfl Tryz.underlying27) rfl <| ?_
    by_cases h2 : k < l.length
    · refine R.q §5 rfl <| R.nil ?_
      refine R.condT rfl rfl ?_
      refine R.reg rfl <| R.u 2 rfl <| ?_
      obtain ⟨x1, hx1⟩ : ∃ z, l[k]? = some z := ⟨_, List.getElem?_eq_getElem (by omega)⟩
      refine R.q (q.idx (i := k) §8 rfl rfl tSl_27 rfl hx1) rfl <| R.q (q.fldE (j' := 0) §8 hx1 rfl tFld_93_0 rfl) rfl <| R.q (q.ldES (ds := [.int .i64 x1.Place.Holder, .int .i64 x1.Place.Slot]) §8 hx1 rfl tAgg_33 rfl) rfl <| ?_
      refine R.s rfl (s.alloc (cs := [.int .i64 0, .int .i64 0]) tZero_33 rfl rfl) fun b2 => ?_
      refine R.s rfl (s.st (us := [.int .i64 x1.Place.Holder, .int .i64 x1.Place.Slot]) (cs' := [.int .i64 x1.Place.Holder, .int .i64 x1.Place.Slot]) 0 _ rfl rfl rfl rfl (.inl tAgg_33) rfl rfl rfl rfl) fun _ => ?_
      refine R.nil ?_
      refine R.reg rfl <| R.u 1 rfl <| R.q (q.not rfl) rfl <| R.u 1 rfl <| ?_
      cases laid
      · refine R.qg rfl §18 rfl <| R.qg rfl (q.ld 2 rfl rfl tOne_3 rfl) rfl <| R.qg rfl §18 rfl <| R.qg rfl §25 rfl <| ?_
        by_cases h3 : p.Holder < x1.Place.Holder
        · refine R.qg rfl §5 rfl <| R.u 15 rfl <| R.nil ?_
          refine R.condT rfl rfl ?_
          refine R.reg rfl <| R.u 1 rfl <| R.q (q.ldS 2 rfl rfl tAgg_33) rfl <| R.u 1 rfl <| R.q §11 rfl <| ?_
          refine R.s rfl §9 fun b3 => ?_
          refine R.s rfl (s.app (l2 := [§27]) 2 _ rfl rfl rfl §4 tApp_27 §2 §2 (fun _ => rfl) rfl) fun v1 => ?_
          refine R.u 1 rfl <| R.nil ?_
          refine R.reg rfl <| R.u 1 rfl <| R.nil ?_
          refine R.reg rfl <| R.q (q.ldS 1 rfl rfl tAgg_33) rfl <| R.q (q.ldS 3 rfl rfl tAgg_33) rfl <| ?_
          by_cases h4 : x1.Place = p
          · refine R.q (q.neqT1 (x := x1.Place) (y := p) eq_33 rfl rfl h4) rfl <| R.nil ?_
            refine R.condF rfl rfl ?_
            refine R.reg rfl <| R.u 1 rfl <| R.q §3 rfl <| R.u 1 rfl <| R.nil ?_
            refine R.back (k + 1, true, v1, (acc ++ ([§27]))) rfl §0 §21 ⟨rfl, rfl, rfl, rfl, rfl, rfl, trivial⟩ §23
          · refine R.q (q.neqT0 (x := x1.Place) (y := p) eq_33 rfl rfl h4) rfl <| R.nil ?_
            refine R.condT rfl rfl ?_
            refine R.reg rfl <| R.u 3 rfl <| R.q (q.idx (i := k) §8 rfl rfl tSl_27 rfl hx1) rfl <| R.q §16 rfl <| ?_
            refine R.s rfl §30 fun b4 => ?_
            refine R.s rfl (s.app (l2 := [x1]) 3 _ rfl rfl rfl §4 tApp_27 §2 §2 (fun _ => rfl) rfl) fun v2 => ?_
            refine R.u 1 rfl <| R.nil ?_
            refine R.reg rfl <| R.u 1 rfl <| R.q §3 rfl <| R.u 1 rfl <| R.nil ?_
            refine R.back (k + 1, true, v2, ((acc ++ ([§27])) ++ ([x1]))) rfl §0 §21 ⟨rfl, rfl, rfl, rfl, rfl, rfl, trivial⟩ (fun _ => Wd.pik [3, 4, 5] [0] rfl rfl rfl)
        · refine R.qg rfl §6 rfl <| R.u 1 rfl <| R.qg rfl §18 rfl <| R.qg rfl (q.ld 2 rfl rfl tOne_3 rfl) rfl <| R.qg rfl §18 rfl <| R.qg rfl §25 rfl <| ?_
          by_cases h5 : p.Holder = x1.Place.Holder
          · refine R.qg rfl §20 rfl <| R.u 1 rfl <| R.qg rfl §29 rfl <| R.qg rfl (q.ld 2 rfl rfl tOne_3 rfl) rfl <| R.qg rfl §29 rfl <| R.qg rfl §25 rfl <| ?_
            by_cases h6 : x1.Place.Slot < p.Slot
            · refine R.qg rfl (q.leq rfl rfl (decide_eq_false (by omega))) rfl <| R.u 3 rfl <| R.nil ?_
              refine R.condF rfl rfl ?_
              refine R.reg rfl <| R.q §33 rfl <| R.q (q.ldS 2 rfl rfl tAgg_33) rfl <| ?_
              by_cases h7 : x1.Place = p
              · refine R.q (q.neqT1 (x := x1.Place) (y := p) eq_33 rfl rfl h7) rfl <| R.nil ?_
                refine R.condF rfl rfl ?_
                refine R.reg rfl <| R.u 1 rfl <| R.q §3 rfl <| R.u 1 rfl <| R.nil ?_
                refine R.back (k + 1, false, v, acc) rfl §0 §21 ⟨rfl, rfl, rfl, rfl, rfl, rfl, trivial⟩ (fun _ => Wd.pik [1, 2, 3] [0] rfl rfl rfl)
              · refine R.q (q.neqT0 (x := x1.Place) (y := p) eq_33 rfl rfl h7) rfl <| R.nil ?_
                refine R.condT rfl rfl ?_
                refine R.reg rfl <| R.u 3 rfl <| R.q (q.idx (i := k) §8 rfl rfl tSl_27 rfl hx1) rfl <| R.q §16 rfl <| ?_
                refine R.s rfl §30 fun b5 => ?_
                refine R.s rfl (s.app (l2 := [x1]) 2 _ rfl rfl rfl §4 tApp_27 §2 §2 (fun _ => rfl) rfl) fun v3 => ?_
                refine R.u 1 rfl <| R.nil ?_
                refine R.reg rfl <| R.u 1 rfl <| R.q §3 rfl <| R.u 1 rfl <| R.nil ?_
                refine R.back (k + 1, false, v3, (acc ++ ([x1]))) rfl §0 §21 ⟨rfl, rfl, rfl, rfl, rfl, rfl, trivial⟩ §23
            · refine R.qg rfl (q.leq rfl rfl (decide_eq_true (by omega))) rfl <| R.u 3 rfl <| R.nil ?_
              refine R.condT rfl rfl ?_
              refine R.reg rfl <| R.u 1 rfl <| R.q (q.ldS 2 rfl rfl tAgg_33) rfl <| R.u 1 rfl <| R.q §11 rfl <| ?_
              refine R.s rfl §9 fun b6 => ?_
              refine R.s rfl (s.app (l2 := [§27]) 2 _ rfl rfl rfl §4 tApp_27 §2 §2 (fun _ => rfl) rfl) fun v4 => ?_
              refine R.u 1 rfl <| R.nil ?_
              refine R.reg rfl <| R.u 1 rfl <| R.nil ?_
              refine R.reg rfl <| R.q (q.ldS 1 rfl rfl tAgg_33) rfl <| R.q (q.ldS 3 rfl rfl tAgg_33) rfl <| ?_
              by_cases h8 : x1.Place = p
              · refine R.q (q.neqT1 (x := x1.Place) (y := p) eq_33 rfl rfl h8) rfl <| R.nil ?_
                refine R.condF rfl rfl ?_
                refine R.reg rfl <| R.u 1 rfl <| R.q §3 rfl <| R.u 1 rfl <| R.nil ?_
                refine R.back (k + 1, true, v4, (acc ++ ([§27]))) rfl §0 §21 ⟨rfl, rfl, rfl, rfl, rfl, rfl, trivial⟩ §23
              · refine R.q (q.neqT0 (x := x1.Place) (y := p) eq_33 rfl rfl h8) rfl <| R.nil ?_
                refine R.condT rfl rfl ?_
                refine R.reg rfl <| R.u 3 rfl <| R.q (q.idx (i := k) §8 rfl rfl tSl_27 rfl hx1) rfl <| R.q §16 rfl <| ?_
                refine R.s rfl §30 fun b7 => ?_
                refine R.s rfl (s.app (l2 := [x1]) 3 _ rfl rfl rfl §4 tApp_27 §2 §2 (fun _ => rfl) rfl) fun v5 => ?_
                refine R.u 1 rfl <| R.nil ?_
                refine R.reg rfl <| R.u 1 rfl <| R.q §3 rfl <| R.u 1 rfl <| R.nil ?_
                refine R.back (k + 1, true, v5, ((acc ++ ([§27])) ++ ([x1]))) rfl §0 §21 ⟨rfl, rfl, rfl, rfl, rfl, rfl, trivial⟩ (fun _ => Wd.pik [3, 4, 5] [0] rfl rfl rfl)
          · refine R.qg rfl §15 rfl <| R.u 9 rfl <| R.nil ?_
            refine R.condF rfl rfl ?_
            refine R.reg rfl <| R.q §33 rfl <| R.q (q.ldS 2 rfl rfl tAgg_33) rfl <| ?_
            by_cases h9 : x1.Place = p
            · refine R.q (q.neqT1 (x := x1.Place) (y := p) eq_33 rfl rfl h9) rfl <| R.nil ?_
              refine R.condF rfl rfl ?_
              refine R.reg rfl <| R.u 1 rfl <| R.q §3 rfl <| R.u 1 rfl <| R.nil ?_
              refine R.back (k + 1, false, v, acc) rfl §0 §21 ⟨rfl, rfl, rfl, rfl, rfl, rfl, trivial⟩ (fun _ => Wd.pik [1, 2, 3] [0] rfl rfl rfl)
            · refine R.q (q.neqT0 (x := x1.Place) (y := p) eq_33 rfl rfl h9) rfl <| R.nil ?_
              refine R.condT rfl rfl ?_
              refine R.reg rfl <| R.u 3 rfl <| R.q (q.idx (i := k) §8 rfl rfl tSl_27 rfl hx1) rfl <| R.q §16 rfl <| ?_
              refine R.s rfl §30 fun b8 => ?_
              refine R.s rfl (s.app (l2 := [x1]) 2 _ rfl rfl rfl §4 tApp_27 §2 §2 (fun _ => rfl) rfl) fun v6 => ?_
              refine R.u 1 rfl <| R.nil ?_
              refine R.reg rfl <| R.u 1 rfl <| R.q §3 rfl <| R.u 1 rfl <| R.nil ?_
              refine R.back (k + 1, false, v6, (acc ++ ([x1]))) rfl §0 §21 ⟨rfl, rfl, rfl, rfl, rfl, rfl, trivial⟩ §23
      · refine R.u 20 rfl <| R.nil ?_
        refine R.condF rfl rfl ?_
        refine R.reg rfl <| R.q §33 rfl <| R.q (q.ldS 2 rfl rfl tAgg_33) rfl <| ?_
        by_cases h10 : x1.Place = p
        · refine R.q (q.neqT1 (x := x1.Place) (y := p) eq_33 rfl rfl h10) rfl <| R.nil ?_
          refine R.condF rfl rfl ?_
          refine R.reg rfl <| R.u 1 rfl <| R.q §3 rfl <| R.u 1 rfl <| R.nil ?_
          refine R.back (k + 1, true, v, acc) rfl §0 §21 ⟨rfl, rfl, rfl, rfl, rfl, rfl, trivial⟩ (fun _ => Wd.pik [1, 2, 3] [0] rfl rfl rfl)
        · refine R.q (q.neqT0 (x := x1.Place) (y := p) eq_33 rfl rfl h10) rfl <| R.nil ?_
          refine R.condT rfl rfl ?_
          refine R.reg rfl <| R.u 3 rfl <| R.q (q.idx (i := k) §8 rfl rfl tSl_27 rfl hx1) rfl <| R.q §16 rfl <| ?_
          refine R.s rfl §30 fun b9 => ?_
          refine R.s rfl (s.app (l2 := [x1]) 2 _ rfl rfl rfl §4 tApp_27 §2 §2 (fun _ => rfl) rfl) fun v7 => ?_
          refine R.u 1 rfl <| R.nil ?_
          refine R.reg rfl <| R.u 1 rfl <| R.q §3 rfl <| R.u 1 rfl <| R.nil ?_
          refine R.back (k + 1, true, v7, (acc ++ ([x1]))) rfl §0 §21 ⟨rfl, rfl, rfl, rfl, rfl, rfl, trivial⟩ §23
    · refine R.q §6 rfl <| R.nil ?_
      refine R.condF rfl rfl ?_
      refine R.reg rfl <| R.u 1 rfl <| R.q (q.not rfl) rfl <| R.nil ?_
      cases laid
      · refine R.condT rfl rfl ?_
        refine R.reg rfl <| R.u 1 rfl <| R.q (q.ldS 1 rfl rfl tAgg_33) rfl <| R.u 1 rfl <| R.q §11 rfl <| ?_
        refine R.s rfl §9 fun b10 => ?_
        refine R.s rfl (s.app (l2 := [§27]) 1 _ rfl rfl rfl §4 tApp_27 §2 §2 (fun _ => rfl) rfl) fun v8 => ?_
        refine R.u 1 rfl <| R.nil ?_
        refine R.reg rfl <| R.u 2 rfl <| R.nil ?_
        have hz : putRef l p id = (acc ++ ([§27])) := by (unfold putRef; rw [List.take_of_length_le (by omega)] at HA; rw [← HA]; dsimp only; first | exact if_pos rfl | exact if_neg Bool.false_ne_true)
        rw [hz]
        exact R.w1 v8 [1, 3] [] rfl Tryz.results73 (RV.tmp rfl) rfl rfl rfl rfl
      · refine R.condF rfl rfl ?_
        refine R.reg rfl <| R.u 2 rfl <| R.nil ?_
        have hz : putRef l p id = acc := by (unfold putRef; rw [List.take_of_length_le (by omega)] at HA; rw [← HA]; dsimp only; first | exact if_pos rfl | exact if_neg Bool.false_ne_true)
        rw [hz]
        exact R.w1 v [0, 2] [] rfl Tryz.results73 (RV.tmp rfl) rfl rfl rfl rfl
  · refine R.q §15 rfl <| R.u 1 rfl <| R.nil ?_
    refine R.reg rfl <| R.u 1 rfl <| R.nil ?_
    refine R.row0 (α := Held) 93 ?_
    refine R.loop (fun g_ : Nat × Bool × Value × (List Held) => [(0, v_l), (2, .int .i64 id), (4, .pointer (some ⟨b1, 0, none⟩)), (7, g_.2.2.1), (8, .bool g_.2.1), (9, .int .i64 (g_.1 : Int))]) (fun g_ : Nat × Bool × Value × (List Held) => [Res.row 93 g_.2.2.1 (g_.2.2.2 : List Held), Res.box b1 §13 33, Res.held w own]) (fun g_ : Nat × Bool × Value × (List Held) => [Res.ls v_l (l : List Held)]) (fun g_ : Nat × Bool × Value × (List Held) => g_.1 ≤ l.length ∧ (g_.2.2.2, g_.2.1) = putGo (l.take g_.1) p id) (fun g_ : Nat × Bool × Value × (List Held) => l.length - g_.1) (0, false, (.slice none 0 0), []) rfl (by exact ⟨by omega, by simp [putGo, *]⟩) ⟨rfl, rfl, rfl, rfl, rfl, rfl, trivial⟩ (fun _ => Wd.pick [0, 1, 2] [0] rfl rfl rfl) ?_
    rintro ⟨k, laid, v, acc⟩ ⟨hk, HA⟩
    dsimp only at *
    have hal : acc.length ≤ 2 * k := by have := putGo_len (l.take k) p id; rw [← HA] at this; simp at this; omega
    refine R.reg rfl <| R.u 2 rfl <| R.q (q.len' §8 rfl Tryz.underlying27) rfl <| ?_
    by_cases h11 : k < l.length
    · refine R.q §5 rfl <| R.nil ?_
      refine R.condT rfl rfl ?_
      refine R.reg rfl <| R.u 2 rfl <| ?_
      obtain ⟨x2, hx2⟩ : ∃ z, l[k]? = some z := ⟨_, List.getElem?_eq_getElem (by omega)⟩
      refine R.q (q.idx (i := k) §8 rfl rfl tSl_27 rfl hx2) rfl <| R.q (q.fldE (j' := 0) §8 hx2 rfl tFld_93_0 rfl) rfl <| R.q (q.ldES (ds := [.int .i64 x2.Place.Holder, .int .i64 x2.Place.Slot]) §8 hx2 rfl tAgg_33 rfl) rfl <| ?_
      refine R.s rfl (s.alloc (cs := [.int .i64 0, .int .i64 0]) tZero_33 rfl rfl) fun b11 => ?_
      refine R.s rfl (s.st (us := [.int .i64 x2.Place.Holder, .int .i64 x2.Place.Slot]) (cs' := [.int .i64 x2.Place.Holder, .int .i64 x2.Place.Slot]) 0 _ rfl rfl rfl rfl (.inl tAgg_33) rfl rfl rfl rfl) fun _ => ?_
      refine R.nil ?_
      refine R.reg rfl <| R.u 1 rfl <| R.q (q.not rfl) rfl <| R.u 1 rfl <| ?_
      cases laid
      · refine R.qg rfl §18 rfl <| R.qg rfl (q.ld 2 rfl rfl tOne_3 rfl) rfl <| R.qg rfl §18 rfl <| R.qg rfl §25 rfl <| ?_
        by_cases h12 : p.Holder < x2.Place.Holder
        · refine R.qg rfl §5 rfl <| R.u 15 rfl <| R.nil ?_
          refine R.condT rfl rfl ?_
          refine R.reg rfl <| R.u 1 rfl <| R.q (q.ldS 2 rfl rfl tAgg_33) rfl <| R.u 1 rfl <| R.q §11 rfl <| ?_
          refine R.s rfl §9 fun b12 => ?_
          refine R.s rfl (s.app (l2 := [§27]) 2 _ rfl rfl rfl §4 tApp_27 §2 §2 (fun _ => rfl) rfl) fun v9 => ?_
          refine R.u 1 rfl <| R.nil ?_
          refine R.reg rfl <| R.u 1 rfl <| R.nil ?_
          refine R.reg rfl <| R.q (q.ldS 1 rfl rfl tAgg_33) rfl <| R.q (q.ldS 3 rfl rfl tAgg_33) rfl <| ?_
          by_cases h13 : x2.Place = p
          · refine R.q (q.neqT1 (x := x2.Place) (y := p) eq_33 rfl rfl h13) rfl <| R.nil ?_
            refine R.condF rfl rfl ?_
            refine R.reg rfl <| R.u 1 rfl <| R.q §3 rfl <| R.u 1 rfl <| R.nil ?_
            refine R.back (k + 1, true, v9, (acc ++ ([§27]))) rfl §1 §21 ⟨rfl, rfl, rfl, rfl, rfl, rfl, trivial⟩ §23
          · refine R.q (q.neqT0 (x := x2.Place) (y := p) eq_33 rfl rfl h13) rfl <| R.nil ?_
            refine R.condT rfl rfl ?_
            refine R.reg rfl <| R.u 3 rfl <| R.q (q.idx (i := k) §8 rfl rfl tSl_27 rfl hx2) rfl <| R.q §17 rfl <| ?_
            refine R.s rfl §31 fun b13 => ?_
            refine R.s rfl (s.app (l2 := [x2]) 3 _ rfl rfl rfl §4 tApp_27 §2 §2 (fun _ => rfl) rfl) fun v10 => ?_
            refine R.u 1 rfl <| R.nil ?_
            refine R.reg rfl <| R.u 1 rfl <| R.q §3 rfl <| R.u 1 rfl <| R.nil ?_
            refine R.back (k + 1, true, v10, ((acc ++ ([§27])) ++ ([x2]))) rfl §1 §21 ⟨rfl, rfl, rfl, rfl, rfl, rfl, trivial⟩ (fun _ => Wd.pik [3, 4, 5] [0] rfl rfl rfl)
        · refine R.qg rfl §6 rfl <| R.u 1 rfl <| R.qg rfl §18 rfl <| R.qg rfl (q.ld 2 rfl rfl tOne_3 rfl) rfl <| R.qg rfl §18 rfl <| R.qg rfl §25 rfl <| ?_
          by_cases h14 : p.Holder = x2.Place.Holder
          · refine R.qg rfl §20 rfl <| R.u 1 rfl <| R.qg rfl §29 rfl <| R.qg rfl (q.ld 2 rfl rfl tOne_3 rfl) rfl <| R.qg rfl §29 rfl <| R.qg rfl §25 rfl <| ?_
            by_cases h15 : x2.Place.Slot < p.Slot
            · refine R.qg rfl (q.leq rfl rfl (decide_eq_false (by omega))) rfl <| R.u 3 rfl <| R.nil ?_
              refine R.condF rfl rfl ?_
              refine R.reg rfl <| R.q §33 rfl <| R.q (q.ldS 2 rfl rfl tAgg_33) rfl <| ?_
              by_cases h16 : x2.Place = p
              · refine R.q (q.neqT1 (x := x2.Place) (y := p) eq_33 rfl rfl h16) rfl <| R.nil ?_
                refine R.condF rfl rfl ?_
                refine R.reg rfl <| R.u 1 rfl <| R.q §3 rfl <| R.u 1 rfl <| R.nil ?_
                refine R.back (k + 1, false, v, acc) rfl §1 §21 ⟨rfl, rfl, rfl, rfl, rfl, rfl, trivial⟩ (fun _ => Wd.pik [1, 2, 3] [0] rfl rfl rfl)
              · refine R.q (q.neqT0 (x := x2.Place) (y := p) eq_33 rfl rfl h16) rfl <| R.nil ?_
                refine R.condT rfl rfl ?_
                refine R.reg rfl <| R.u 3 rfl <| R.q (q.idx (i := k) §8 rfl rfl tSl_27 rfl hx2) rfl <| R.q §17 rfl <| ?_
                refine R.s rfl §31 fun b14 => ?_
                refine R.s rfl (s.app (l2 := [x2]) 2 _ rfl rfl rfl §4 tApp_27 §2 §2 (fun _ => rfl) rfl) fun v11 => ?_
                refine R.u 1 rfl <| R.nil ?_
                refine R.reg rfl <| R.u 1 rfl <| R.q §3 rfl <| R.u 1 rfl <| R.nil ?_
                refine R.back (k + 1, false, v11, (acc ++ ([x2]))) rfl §1 §21 ⟨rfl, rfl, rfl, rfl, rfl, rfl, trivial⟩ §23
            · refine R.qg rfl (q.leq rfl rfl (decide_eq_true (by omega))) rfl <| R.u 3 rfl <| R.nil ?_
              refine R.condT rfl rfl ?_
              refine R.reg rfl <| R.u 1 rfl <| R.q (q.ldS 2 rfl rfl tAgg_33) rfl <| R.u 1 rfl <| R.q §11 rfl <| ?_
              refine R.s rfl §9 fun b15 => ?_
              refine R.s rfl (s.app (l2 := [§27]) 2 _ rfl rfl rfl §4 tApp_27 §2 §2 (fun _ => rfl) rfl) fun v12 => ?_
              refine R.u 1 rfl <| R.nil ?_
              refine R.reg rfl <| R.u 1 rfl <| R.nil ?_
              refine R.reg rfl <| R.q (q.ldS 1 rfl rfl tAgg_33) rfl <| R.q (q.ldS 3 rfl rfl tAgg_33) rfl <| ?_
              by_cases h17 : x2.Place = p
              · refine R.q (q.neqT1 (x := x2.Place) (y := p) eq_33 rfl rfl h17) rfl <| R.nil ?_
                refine R.condF rfl rfl ?_
                refine R.reg rfl <| R.u 1 rfl <| R.q §3 rfl <| R.u 1 rfl <| R.nil ?_
                refine R.back (k + 1, true, v12, (acc ++ ([§27]))) rfl §1 §21 ⟨rfl, rfl, rfl, rfl, rfl, rfl, trivial⟩ §23
              · refine R.q (q.neqT0 (x := x2.Place) (y := p) eq_33 rfl rfl h17) rfl <| R.nil ?_
                refine R.condT rfl rfl ?_
                refine R.reg rfl <| R.u 3 rfl <| R.q (q.idx (i := k) §8 rfl rfl tSl_27 rfl hx2) rfl <| R.q §17 rfl <| ?_
                refine R.s rfl §31 fun b16 => ?_
                refine R.s rfl (s.app (l2 := [x2]) 3 _ rfl rfl rfl §4 tApp_27 §2 §2 (fun _ => rfl) rfl) fun v13 => ?_
                refine R.u 1 rfl <| R.nil ?_
                refine R.reg rfl <| R.u 1 rfl <| R.q §3 rfl <| R.u 1 rfl <| R.nil ?_
                refine R.back (k + 1, true, v13, ((acc ++ ([§27])) ++ ([x2]))) rfl §1 §21 ⟨rfl, rfl, rfl, rfl, rfl, rfl, trivial⟩ (fun _ => Wd.pik [3, 4, 5] [0] rfl rfl rfl)
          · refine R.qg rfl §15 rfl <| R.u 9 rfl <| R.nil ?_
            refine R.condF rfl rfl ?_
            refine R.reg rfl <| R.q §33 rfl <| R.q (q.ldS 2 rfl rfl tAgg_33) rfl <| ?_
            by_cases h18 : x2.Place = p
            · refine R.q (q.neqT1 (x := x2.Place) (y := p) eq_33 rfl rfl h18) rfl <| R.nil ?_
              refine R.condF rfl rfl ?_
              refine R.reg rfl <| R.u 1 rfl <| R.q §3 rfl <| R.u 1 rfl <| R.nil ?_
              refine R.back (k + 1, false, v, acc) rfl §1 §21 ⟨rfl, rfl, rfl, rfl, rfl, rfl, trivial⟩ (fun _ => Wd.pik [1, 2, 3] [0] rfl rfl rfl)
            · refine R.q (q.neqT0 (x := x2.Place) (y := p) eq_33 rfl rfl h18) rfl <| R.nil ?_
              refine R.condT rfl rfl ?_
              refine R.reg rfl <| R.u 3 rfl <| R.q (q.idx (i := k) §8 rfl rfl tSl_27 rfl hx2) rfl <| R.q §17 rfl <| ?_
              refine R.s rfl §31 fun b17 => ?_
              refine R.s rfl (s.app (l2 := [x2]) 2 _ rfl rfl rfl §4 tApp_27 §2 §2 (fun _ => rfl) rfl) fun v14 => ?_
              refine R.u 1 rfl <| R.nil ?_
              refine R.reg rfl <| R.u 1 rfl <| R.q §3 rfl <| R.u 1 rfl <| R.nil ?_
              refine R.back (k + 1, false, v14, (acc ++ ([x2]))) rfl §1 §21 ⟨rfl, rfl, rfl, rfl, rfl, rfl, trivial⟩ §23
      · refine R.u 20 rfl <| R.nil ?_
        refine R.condF rfl rfl ?_
        refine R.reg rfl <| R.q §33 rfl <| R.q (q.ldS 2 rfl rfl tAgg_33) rfl <| ?_
        by_cases h19 : x2.Place = p
        · refine R.q (q.neqT1 (x := x2.Place) (y := p) eq_33 rfl rfl h19) rfl <| R.nil ?_
          refine R.condF rfl rfl ?_
          refine R.reg rfl <| R.u 1 rfl <| R.q §3 rfl <| R.u 1 rfl <| R.nil ?_
          refine R.back (k + 1, true, v, acc) rfl §1 §21 ⟨rfl, rfl, rfl, rfl, rfl, rfl, trivial⟩ (fun _ => Wd.pik [1, 2, 3] [0] rfl rfl rfl)
        · refine R.q (q.neqT0 (x := x2.Place) (y := p) eq_33 rfl rfl h19) rfl <| R.nil ?_
          refine R.condT rfl rfl ?_
          refine R.reg rfl <| R.u 3 rfl <| R.q (q.idx (i := k) §8 rfl rfl tSl_27 rfl hx2) rfl <| R.q §17 rfl <| ?_
          refine R.s rfl §31 fun b18 => ?_
          refine R.s rfl (s.app (l2 := [x2]) 2 _ rfl rfl rfl §4 tApp_27 §2 §2 (fun _ => rfl) rfl) fun v15 => ?_
          refine R.u 1 rfl <| R.nil ?_
          refine R.reg rfl <| R.u 1 rfl <| R.q §3 rfl <| R.u 1 rfl <| R.nil ?_
          refine R.back (k + 1, true, v15, (acc ++ ([x2]))) rfl §1 §21 ⟨rfl, rfl, rfl, rfl, rfl, rfl, trivial⟩ §23
    · refine R.q §6 rfl <| R.nil ?_
      refine R.condF rfl rfl ?_
      refine R.reg rfl <| R.u 1 rfl <| R.q (q.not rfl) rfl <| R.nil ?_
      cases laid
      · refine R.condT rfl rfl ?_
        refine R.reg rfl <| R.u 1 rfl <| R.q (q.ldS 1 rfl rfl tAgg_33) rfl <| R.u 1 rfl <| R.q §11 rfl <| ?_
        refine R.s rfl §9 fun b19 => ?_
        refine R.s rfl (s.app (l2 := [§27]) 1 _ rfl rfl rfl §4 tApp_27 §2 §2 (fun _ => rfl) rfl) fun v16 => ?_
        refine R.u 1 rfl <| R.nil ?_
        refine R.reg rfl <| R.u 2 rfl <| R.nil ?_
        have hz : putRef l p id = (acc ++ ([§27])) := by (unfold putRef; rw [List.take_of_length_le (by omega)] at HA; rw [← HA]; dsimp only; first | exact if_pos rfl | exact if_neg Bool.false_ne_true)
        rw [hz]
        exact R.w1 v16 [1, 3] [] rfl Tryz.results73 (RV.tmp rfl) rfl rfl rfl rfl
      · refine R.condF rfl rfl ?_
        refine R.reg rfl <| R.u 2 rfl <| R.nil ?_
        have hz : putRef l p id = acc := by (unfold putRef; rw [List.take_of_length_le (by omega)] at HA; rw [← HA]; dsimp only; first | exact if_pos rfl | exact if_neg Bool.false_ne_true)
        rw [hz]
        exact R.w1 v [0, 2] [] rfl Tryz.results73 (RV.tmp rfl) rfl rfl rfl rfl

end Go.Proofs.YtpipachmngdegaaGreat
end
